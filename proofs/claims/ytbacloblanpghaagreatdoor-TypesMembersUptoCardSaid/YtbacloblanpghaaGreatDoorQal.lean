import Derived.Test.YtbacloblanpghaaGreatDoorQag
import Derived.Test.YtbacloblanpghaaGreatDoorQak
set_option linter.unusedVariables false
set_option linter.unusedSimpArgs false
set_option maxRecDepth 100000
set_option maxHeartbeats 0
namespace Go.Proofs.YtbacloblanpghaaGreatDoor
open Go.RowKit Tryz
def nK:Bytes:=[9,10,13,32]
def rq:Bytes:=[9,10,13,32,123]
theorem BC(c:UInt8):nK.contains c=ew c:=by unfold ew jI nK;rw[eS];simp[<-qM];omega
theorem IW(c:UInt8):rq.contains c= !iw c:=by unfold iw ew jI rq;rw[Bool.not_not,eS];simp[<-qM];omega
theorem IX(l:Bytes):Lib.trimLeftS l nK=aT l:=by unfold Lib.trimLeftS aT;rw[show(fun x=>nK.contains x)=ew from funext BC]
theorem IZ(l:Bytes):Lib.trimRightS l nK=jN l:=by unfold Lib.trimRightS jN;rw[show(fun x=>nK.contains x)=ew from funext BC]
theorem BD:∀l:Bytes,Lib.indexAny l rq=if(l.takeWhile iw).length=l.length then-1 else((l.takeWhile iw).length:Int)
 |[]=>rfl
 |c::l=>by
  have ih:=BD l;have d:=Lib.indexAny_ge rq l;rw[Lib.indexAny,IW];cases a:iw c with
  |false=>
   rw[sO (by simp[a])];simp
  |true=>
   rw[sM (by simpa using a),ih];simp only[zn,kh,i6,de];by_cases b:(l.takeWhile iw).length=l.length
   ·simp[b]
   ·rw[ap b]
    have:¬(((l.takeWhile iw).length:Int)== -1)=true:=ak;rw[ap this,ap ad];omega
theorem I0(p:UInt8->Bool)(l:Bytes):l.take (l.takeWhile p).length=l.takeWhile p:=by
 induction l with
 |nil=>rfl
 |cons c t ih=>
  by_cases a:p c=true
  ·rw[sM a];simp[ih]
  ·rw[sO a];rfl
theorem I5(p:UInt8->Bool)(l:Bytes):l.drop (l.takeWhile p).length=l.dropWhile p:=by
 induction l with
 |nil=>rfl
 |cons c t ih=>
  by_cases a:p c=true
  ·rw[sM a,List.dropWhile_cons_of_pos a];simp[ih]
  ·rw[sO a,Fy a];rfl
def ep(l:Bytes):Prop:=∀c∈l,c.toNat<128
theorem ep.next{l:Bytes}(a:ep l):ep (aT l):=fun c b=>a c ((sS _).subset b)
theorem ep.rest{l:Bytes}(a:ep l):ep (bQ l):=fun c b=>a.next c ((sS _).subset b)
theorem jR(l:Bytes):(aT l).length<=l.length:=(sS _).length_le
theorem jr(l:Bytes):(bQ l).length<=l.length:=aR (sS _).length_le (jR l)
theorem oM(l:Bytes):(cj l).length<=l.length:=aR (vE _).length_le (jR l)
theorem ix(l:Bytes):(⟨l.toArray⟩:ByteArray).size=l.length:=by rw[dy]
theorem BE(l:Bytes)(n:Nat)(a:n<=l.length)(w:World):(Instr.slice 9 (.string ⟨l.toArray⟩) none (some (.int .i64 (n:Nat))) none).run prog w=.ok (.string ⟨(l.take n).toArray⟩) w:=by
 have b:n<=(⟨l.toArray⟩:ByteArray).size:=by rw[ix];exact a
 rw[run_slice_string_to_if w _ _ .i64 n fZ,au ad];congr 2
 apply zw;apply l9;show((⟨l.toArray⟩:ByteArray).extract 0 n).data.toList=_
 rw[zv];simp
theorem xe(l:Bytes)(n:Nat)(a:n<=l.length)(w:World):(Instr.slice 9 (.string ⟨l.toArray⟩) (some (.int .i64 (n:Nat))) none none).run prog w=.ok (.string ⟨(l.drop n).toArray⟩) w:=by
 have b:n<=(⟨l.toArray⟩:ByteArray).size:=by rw[ix];exact a
 rw[FV _ n b w];congr 2
 apply zw;apply l9;rw[Lib.extract_to_end]
structure gj where
 rest:Bytes
 name:Bytes
 label:Bytes
 av:Value
 key:Bytes
 text:Bool
 nv:Value
def tX(x:gj):Array Value:=#[.string ⟨x.rest.toArray⟩,.string ⟨x.name.toArray⟩,.string ⟨x.label.toArray⟩,x.av,.string ⟨x.key.toArray⟩,.bool x.text,x.nv]
def bK(w:World)(b:Nat)(x:gj):Prop:=w.heap[b]?=some (.cells (tX x) 174 (0,0))
section
variable{w w':World} {b:Nat} {x:gj}
theorem bK.lt(a:bK w b x):b<w.heap.size:=aN a
theorem bK.c0(a:bK w b x):w.cell? ⟨b,0,none⟩=some (.string ⟨x.rest.toArray⟩):=aZ w b 0 _ _ _ a
theorem bK.c1(a:bK w b x):w.cell? ⟨b,1,none⟩=some (.string ⟨x.name.toArray⟩):=aZ w b 1 _ _ _ a
theorem bK.c2(a:bK w b x):w.cell? ⟨b,2,none⟩=some (.string ⟨x.label.toArray⟩):=aZ w b 2 _ _ _ a
theorem bK.c3(a:bK w b x):w.cell? ⟨b,3,none⟩=some x.av:=aZ w b 3 _ _ _ a
theorem bK.c4(a:bK w b x):w.cell? ⟨b,4,none⟩=some (.string ⟨x.key.toArray⟩):=aZ w b 4 _ _ _ a
theorem bK.c5(a:bK w b x):w.cell? ⟨b,5,none⟩=some (.bool x.text):=aZ w b 5 _ _ _ a
theorem bK.c6(a:bK w b x):w.cell? ⟨b,6,none⟩=some x.nv:=aZ w b 6 _ _ _ a
theorem bK.free(a:bK w b x)(o:Nat):w.frozen? ⟨b,o,none⟩=false:=by unfold bK at a;simp[World.frozen?,a]
theorem bK.below(a:bK w b x)(c:Below w.heap.size w w'):bK w' b x:=(c.block b a.lt).trans a
theorem oN(a:bK w b x)(o:Nat)(v:Value):(w.setCell ⟨b,o,none⟩ v).heap[b]?=some (.cells ((tX x).setIfInBounds o v) 174 (0,0)):=by
 have c:=a.lt;have d:w.heap[b]=.cells (tX x) 174 (0,0):=by unfold bK at a;simpa[mU c]using a
 show(w.heap.modify b _)[b]?=_
 rw[mU (by simpa using c),vu,d];rfl
theorem bK.rest(a:bK w b x)(r:Bytes):bK (w.setCell ⟨b,0,none⟩ (.string ⟨r.toArray⟩)) b {x with rest:=r}:=oN a 0 _
theorem bK.name(a:bK w b x)(r:Bytes):bK (w.setCell ⟨b,1,none⟩ (.string ⟨r.toArray⟩)) b {x with name:=r}:=oN a 1 _
theorem bK.label(a:bK w b x)(r:Bytes):bK (w.setCell ⟨b,2,none⟩ (.string ⟨r.toArray⟩)) b {x with label:=r}:=oN a 2 _
theorem bK.attrs(a:bK w b x)(v:Value):bK (w.setCell ⟨b,3,none⟩ v) b {x with av:=v}:=oN a 3 _
theorem bK.key(a:bK w b x)(r:Bytes):bK (w.setCell ⟨b,4,none⟩ (.string ⟨r.toArray⟩)) b {x with key:=r}:=oN a 4 _
theorem bK.text(a:bK w b x)(r:Bool):bK (w.setCell ⟨b,5,none⟩ (.bool r)) b {x with text:=r}:=oN a 5 _
theorem bK.nodes(a:bK w b x)(v:Value):bK (w.setCell ⟨b,6,none⟩ v) b {x with nv:=v}:=oN a 6 _
end
theorem kW{b:Nat}{w0 w:World}(a:aW b w0 w)(o:Nat)(v:Value):aW b w0 (w.setCell ⟨b,o,none⟩ v):=a.setCell o v
def kX(l:Bytes):Int:=match l with|[]=>0|c::_=>(c.toNat:Nat)
theorem BF(l:Bytes)(w:World):Calls prog 55 #[.string ⟨l.toArray⟩,.string ⟨#[9,10,13,32]⟩] w fun a w'=>a=.returned (.string ⟨(aT l).toArray⟩)/\Below w.heap.size w w':=by have d:=Any.strings_TrimLeft_laid lays161 ay ⟨l.toArray⟩ ⟨#[9,10,13,32]⟩ w aw (by intro j b f;have:=aU f;simp at this;rcases this with rfl|rfl|rfl|rfl<;>decide);refine d.mono ?_;rintro a w' ⟨rfl,e⟩;have c:=IX l;unfold nK at c;exact⟨by rw[c],e⟩
theorem I6(l:Bytes)(w:World)(g:l.length<=1048576):Calls prog 141 #[.string ⟨l.toArray⟩,.string ⟨#[9,10,13,32]⟩] w fun a w'=>a=.returned (.string ⟨(jN l).toArray⟩)/\Below w.heap.size w w':=by have d:=Any.strings_TrimRight_laid lays162 ay ⟨l.toArray⟩ ⟨#[9,10,13,32]⟩ w (by rw[ix];omega) aw (by intro j b f;have:=aU f;simp at this;rcases this with rfl|rfl|rfl|rfl<;>decide);refine d.mono ?_;rintro a w' ⟨rfl,e⟩;have c:=IZ l;unfold nK at c;exact⟨by rw[c],e⟩
theorem I7(l:Bytes)(w:World)(h:l.length<=1048576)(f:ep l):Calls prog 208 #[.string ⟨l.toArray⟩,.string ⟨#[9,10,13,32,123]⟩] w fun c w'=>c=.returned (.int .i64 (if(l.takeWhile iw).length=l.length then-1 else((l.takeWhile iw).length:Int)))/\Below w.heap.size w w':=by have e:=strings_IndexAny_laid ⟨l.toArray⟩ ⟨#[9,10,13,32,123]⟩ w (by rw[ix];omega) aw (by intro j b a;exact f b (aU a)) (by intro j b a;have:=aU a;simp at this;rcases this with rfl|rfl|rfl|rfl|rfl<;>decide);refine e.mono ?_;rintro c w' ⟨rfl,g⟩;have d:=BD l;unfold rq at d;exact⟨by rw[d],g⟩
theorem xf(b:Nat)(x:gj)(w:World)(f:bK w b x)(s:x.rest.length<=65536):
 Calls prog 138 #[.pointer (some ⟨b,0,none⟩)] w fun e w'=>e=.returned (.int .u8 (kX (aT x.rest)))/\bK w' b {x with rest:=aT x.rest}/\aW b w w':=by
 have l:=f.c0;have d:=BF x.rest w;have m:=jR x.rest;obtain⟨r,j⟩:=aj (aT x.rest);rw[<-j]at d m⊢;clear j;go_enter func138,ntmps138
 go_wp2_with fail
 refine d.mono ?_;rintro e w1 ⟨rfl,i⟩;have a:=f.below i;have p:=a.free 0;have o:=a.c0;have g:=a.rest r;have h:=kW (aW.of i (b:=b)) 0 (.string ⟨r.toArray⟩);clear d l;cases r with
 |nil=>
  go_wp2
  go_ret;exact⟨rfl,g,h⟩
 |cons c t=>
  have n:(⟨(c::t).toArray⟩:ByteArray).size=t.length+1:=by rw[ix];rfl
  have u:(0:Int)<((⟨(c::t).toArray⟩:ByteArray).size:Int):=by rw[n];omega
  have v:0<(⟨(c::t).toArray⟩:ByteArray).size:=ad;have q:(⟨(c::t).toArray⟩:ByteArray)[0]=c:=rfl
  go_wp2
  go_ret;exact⟨rfl,g,h⟩
theorem I8(r:Bytes):(aT r).drop (cj r).length=bQ r:=I5 iw (aT r)
theorem I9(r:Bytes):(aT r).take (cj r).length=cj r:=I0 iw (aT r)
theorem Ja(r:Bytes):(cj r).length<=(aT r).length:=(vE _).length_le
theorem oO(b:Nat)(x:gj)(w:World)(t:bK w b x)(A:x.rest.length<=65536)(z:ep x.rest):
 Calls prog 137 #[.pointer (some ⟨b,0,none⟩)] w fun f w'=>f=.returned (.string ⟨(cj x.rest).toArray⟩)/\bK w' b {x with rest:=bQ x.rest}/\aW b w w':=by
 have i:=xf b x w t A;have B:=jR x.rest;have d:=fun w1=>I7 (aT x.rest) w1 ad z.next;have m:=Ja x.rest;have n:=fun w1=>BE (aT x.rest) (cj x.rest).length m w1;have j:=fun w1=>xe (aT x.rest) (cj x.rest).length m w1;rw[I9]at n;rw[I8]at j;rw[show(aT x.rest).takeWhile iw=cj x.rest from rfl]at d;obtain⟨r,v⟩:=aj (aT x.rest);obtain⟨W,u⟩:=aj (cj x.rest);obtain⟨q,s⟩:=aj (bQ x.rest);rw[<-v]at i B d m n j;rw[<-u]at d m n j⊢;rw[<-s]at j⊢;have l:(⟨r.toArray⟩:ByteArray).size=r.length:=ix r;clear v u s t;by_cases c:W.length=r.length
 ·have e:=fun w1=>d w1
  simp only[c,kf]at e;rw[c]at n j;have y:=ah l;clear d c l;go_enter func137,ntmps137
  go_wp2_with fail
  refine i.mono ?_;rintro f w1 ⟨rfl,g,p⟩;have o:=g.c0;clear i;go_wp2_with fail
  refine(e _).mono ?_;rintro f C ⟨rfl,h⟩;clear e;have a:=g.below h;have o:=a.c0;have c:=a.free 0;have l:=y.o
  go_wp2
  go_ret;exact⟨rfl,a.rest q,kW (p.trans (aW.of h)) 0 _⟩
 ·have e:=fun w1=>d w1
  simp only[c,i6]at e;have D:decide ((W.length:Int)<0)=false:=aJ;clear d c l;go_enter func137,ntmps137
  go_wp2_with fail
  refine i.mono ?_;rintro f w1 ⟨rfl,g,p⟩;have o:=g.c0;clear i;go_wp2_with fail
  refine(e _).mono ?_;rintro f C ⟨rfl,h⟩;clear e;have a:=g.below h;have o:=a.c0;have c:=a.free 0
  go_wp2
  go_ret;exact⟨rfl,a.rest q,kW (p.trans (aW.of h)) 0 _⟩
theorem Jb(W:Bytes)(w:World):Calls prog 209 #[.string ⟨W.toArray⟩,.string ⟨#[64]⟩] w fun a w'=>a=.returned (.tuple #[.string ⟨(match W with|[]=>[]|c::t=>if c=64 then t else c::t).toArray⟩,.bool (match W with|[]=>false|c::_=>decide (c=64))])/\w'=w:=by
 refine(strings_CutPrefix ⟨W.toArray⟩ ⟨#[64]⟩ w).mono ?_;rintro a w' ⟨rfl,rfl⟩;refine⟨?_,rfl⟩;have d:(⟨W.toArray⟩:ByteArray).data.toList=W:=rfl;have e:(⟨#[64]⟩:ByteArray).data.toList=[64]:=rfl;rw[d,e];unfold Lib.trimPrefix Lib.hasPrefix;cases W with
 |nil=>rfl
 |cons c t=>
  by_cases b:c=64
  ·subst b;simp
  ·have f:((64:UInt8)==c)=false:=by simpa using fun a:(64:UInt8)=c=>b a.symm
   have g:([64]:Bytes).isPrefixOf (c::t)=false:=by show((64:UInt8)==c&&_)=false;rw[f];rfl
   simp[g,b]
theorem BG(b:Nat)(x:gj)(w:World)(i:bK w b x)(q:x.rest.length<=65536)(p:ep x.rest):
 Calls prog 139 #[.pointer (some ⟨b,0,none⟩)] w fun d w'=>d=.returned (.tuple #[.string ⟨(lE x.rest).toArray⟩,.bool (lG x.rest)])/\bK w' b {x with rest:=bQ x.rest}/\aW b w w':=by
 have e:=oO b x w i q p;have n:=oM x.rest;have a:=fun w1=>Jb (cj x.rest) w1;unfold lE lG;obtain⟨W,j⟩:=aj (cj x.rest);rw[<-j]at e n a⊢;clear j i;cases W with
 |nil=>
  simp only at a;go_enter func139,ntmps139
  go_wp2_with fail
  refine e.mono ?_;rintro d w1 ⟨rfl,f,g⟩;clear e;go_wp2_with fail
  refine(a _).mono ?_;rintro d o ⟨rfl,rfl⟩;clear a
  go_wp2
  go_ret2
  exact⟨rfl,f,g⟩
 |cons c t=>
  simp only at a;by_cases h:c=64
  ·subst h
   simp only[kf,decide_true]at a⊢;have m:=fun w=>mi ⟨t.toArray⟩ w (by rw[ix];simp at n;omega);go_enter func139,ntmps139
   go_wp2_with fail
   refine e.mono ?_;rintro d w1 ⟨rfl,f,g⟩;clear e;go_wp2_with fail
   refine(a _).mono ?_;rintro d o ⟨rfl,rfl⟩;clear a;go_wp2_with fail
   refine(m _).mono ?_;rintro d r ⟨rfl,l⟩;clear m
   go_wp2
   go_ret2
   exact⟨rfl,f.below l,g.trans (aW.of l)⟩
  ·simp only[h,i6,decide_false]at a⊢
   go_enter func139,ntmps139
   go_wp2_with fail
   refine e.mono ?_;rintro d w1 ⟨rfl,f,g⟩;clear e;go_wp2_with fail
   refine(a _).mono ?_;rintro d o ⟨rfl,rfl⟩;clear a
   go_wp2
   go_ret2
   exact⟨rfl,f,g⟩
theorem rj(b:Nat)(x:gj)(w:World)(c:bK w b x)(h:x.rest.length<=65536)(g:ep x.rest):
 Calls prog 87 #[.pointer (some ⟨b,0,none⟩)] w fun a w'=>a=.returned (.bool (cj x.rest==tP))/\bK w' b {x with rest:=bQ x.rest}/\aW b w w':=by
 have d:=oO b x w c h g;clear c;unfold tP;go_enter func87,ntmps87
 go_wp2_with fail
 refine d.mono ?_;rintro a w1 ⟨rfl,e,f⟩;clear d
 go_wp2
 go_ret;exact⟨bC (by first|rfl|simp),e,f⟩
theorem Jc(b:Nat)(x:gj)(w:World)(c:bK w b x)(h:x.rest.length<=65536)(g:ep x.rest):
 Calls prog 89 #[.pointer (some ⟨b,0,none⟩)] w fun a w'=>a=.returned (.bool (cj x.rest==[61]))/\bK w' b {x with rest:=bQ x.rest}/\aW b w w':=by
 have d:=oO b x w c h g;clear c;go_enter func89,ntmps89
 go_wp2_with fail
 refine d.mono ?_;rintro a w1 ⟨rfl,e,f⟩;clear d
 go_wp2
 go_ret;exact⟨bC (by first|rfl|simp),e,f⟩
theorem Jd(b:Nat)(x:gj)(w:World)(d:bK w b x)(m:x.rest.length<=65536)(l:ep x.rest):
 Calls prog 88 #[.pointer (some ⟨b,0,none⟩)] w fun a w'=>a=.returned (.bool (a8 (cj x.rest)))/\bK w' b {x with rest:=bQ x.rest,name:=cj x.rest}/\aW b w w':=by
 have g:=oO b x w d m l;have p:=oM x.rest;have f:=fun w=>mi ⟨(cj x.rest).toArray⟩ w (by rw[ix];omega);clear d;go_enter func88,ntmps88
 go_wp2_with fail
 refine g.mono ?_;rintro a w1 ⟨rfl,c,i⟩;clear g;have o:=c.free 1;have n:=c.c1;have h:=c.name (cj x.rest);have j:=kW i 1 (.string ⟨(cj x.rest).toArray⟩);go_wp2_with fail
 refine(f _).mono ?_;rintro a q ⟨rfl,e⟩;clear f
 go_wp2
 go_ret;exact⟨rfl,h.below e,j.trans (aW.of e)⟩
theorem Je(b:Nat)(x:gj)(w:World)(d:bK w b x)(m:x.rest.length<=65536)(l:ep x.rest):
 Calls prog 90 #[.pointer (some ⟨b,0,none⟩)] w fun a w'=>a=.returned (.bool (a8 (cj x.rest)))/\bK w' b {x with rest:=bQ x.rest,label:=cj x.rest}/\aW b w w':=by
 have g:=oO b x w d m l;have p:=oM x.rest;have f:=fun w=>mi ⟨(cj x.rest).toArray⟩ w (by rw[ix];omega);clear d;go_enter func90,ntmps90
 go_wp2_with fail
 refine g.mono ?_;rintro a w1 ⟨rfl,c,i⟩;clear g;have o:=c.free 2;have n:=c.c2;have h:=c.label (cj x.rest);have j:=kW i 2 (.string ⟨(cj x.rest).toArray⟩);go_wp2_with fail
 refine(f _).mono ?_;rintro a q ⟨rfl,e⟩;clear f
 go_wp2
 go_ret;exact⟨rfl,h.below e,j.trans (aW.of e)⟩
def Jf(r:Option (Bytes×Bytes))(x:gj)(b:Nat)(w:World)(a:Ending)(w':World):Prop:=
 a=.returned (.bool r.isSome)/\(∃y:gj,bK w' b y/\∀k q,r=some (k,q)->x.key=[]->y={x with rest:=q,key:=k})/\aW b w w'
theorem Jg(b:Nat)(x:gj)(w:World)(n:bK w b x)(z:x.rest.length<=65536)(q:ep x.rest):
 Calls prog 92 #[.pointer (some ⟨b,0,none⟩)] w (Jf (mx x.rest) x b w):=by
 have g:=oO b x w n z q;have t:=n.c0;obtain⟨B,a⟩:=aj (mx x.rest);rw[<-a];unfold mx at a;by_cases f:cj x.rest=wL
 ·have i:=fun w1 d=>BG b {x with rest:=bQ x.rest} w1 d (by have:=jr x.rest;show(bQ x.rest).length<=_;omega) q.rest
  rw[au f]at a;rw[f]at g;unfold wL at g;simp only at i;clear n f;cases o:lG (bQ x.rest)with
  |true=>
   rw[o]at i a;have e:=ah a;clear o a;go_enter func92,ntmps92
   go_wp2_with fail
   refine g.mono ?_;rintro m w1 ⟨rfl,d,j⟩;clear g;have l:=i _ d;clear i;go_wp2_with fail
   refine l.mono ?_;rintro m A ⟨rfl,h,p⟩;clear l;have s:=h.free 4;have u:=h.c4
   go_wp2
   go_ret;refine⟨by rw[e.o];rfl,⟨_,h.key _,fun k r c _=> ?_⟩,kW (j.trans p) 4 _⟩;rw[e.o]at c;simp only[kf,gV,pD]at c;rw[<-c.1,<-c.2]
  |false=>
   rw[o]at i a;have e:=ah a;clear o a;go_enter func92,ntmps92
   go_wp2_with fail
   refine g.mono ?_;rintro m w1 ⟨rfl,d,j⟩;clear g;have l:=i _ d;clear i;go_wp2_with fail
   refine l.mono ?_;rintro m A ⟨rfl,h,p⟩;clear l;have s:=h.free 4;have u:=h.c4
   go_wp2
   go_ret;refine⟨by rw[e.o];rfl,⟨_,h.key _,fun k r c _=> ?_⟩,kW (j.trans p) 4 _⟩;rw[e.o]at c;simp at c
 ·rw[ap f]at a
  have C:(cj x.rest==[107,101,121])=false:=by rw[cW];exact f
  have e:=ah a;clear n f a;go_enter func92,ntmps92
  go_wp2_with fail
  refine g.mono ?_;rintro m w1 ⟨rfl,d,j⟩;clear g;have s:=d.free 0;have t:=d.c0
  go_wp2
  go_ret;refine⟨by rw[e.o];rfl,⟨_,d.rest x.rest,fun k r c f=> ?_⟩,kW j 0 _⟩;rw[e.o]at c;simp only[gV,pD]at c;obtain⟨v,y⟩:=c;subst v;subst y;rw[<-f]
structure gQ(b B:Nat)(w w':World):Prop where
 os:w'.os=w.os
 tape:w'.tape=w.tape
 output:w'.output=w.output
 size:w.heap.size<=w'.heap.size
 block:∀k,k<B->k≠b->w'.heap[k]?=w.heap[k]?
theorem gQ.refl(b B:Nat)(w:World):gQ b B w w:=⟨rfl,rfl,rfl,aB _,fun _ _ _=>rfl⟩
theorem gQ.trans{b B:Nat}{a c d:World}(e:gQ b B a c)(k:gQ b B c d):gQ b B a d:=
 ⟨k.os.trans e.os,k.tape.trans e.tape,k.output.trans e.output,aR e.size k.size,fun i g f=>(k.block i g f).trans (e.block i g f)⟩
theorem aW.far{b B:Nat}{w w':World}(a:aW b w w')(d:B<=w.heap.size):gQ b B w w':=⟨a.os,a.tape,a.output,a.size,fun k e c=>a.block k ad c⟩
theorem Jh{b B:Nat}{w w':World}{row:Option Nat}(a:w.grownBy w' row)(e:B<=w.heap.size)(d:∀k,row=some k->B<=k):gQ b B w w':=
 ⟨a.os,a.tape,a.output,a.size,fun k g f=>a.block k ad (fun c=>by have:=d k c.symm;omega)⟩
theorem gQ.below{b B C:Nat}{w w':World}(a:gQ b B w w')(d:C<=b)(c:C<=B)(f:C<=w.heap.size):Below C w w':=⟨a.os,a.tape,a.output,a.size,fun k e=>a.block k ad ad⟩
theorem Ji{r:Bytes}{c:UInt8}{t:Bytes}(a:aT r=c::t):ew c=false:=by unfold aT at a;have:=List.head?_dropWhile_not ew r;rw[a]at this;simpa using this
theorem BH(r:Bytes):aT (aT r)=aT r:=by
 cases a:aT r with
 |nil=>rfl
 |cons c t=>
  have:=Ji a;show List.dropWhile ew (c::t)=_
  rw[Fy (by simp[this])]
theorem Jj(r:Bytes):cj (aT r)=cj r:=by unfold cj;rw[BH]
theorem Jk(r:Bytes):bQ (aT r)=bQ r:=by unfold bQ;rw[BH]
theorem xg{r:Bytes}(a:(aT r).head?=some 64):(bQ (aT r)).length<r.length:=by
 cases b:aT r with
 |nil=>rw[b]at a;cases a
 |cons c t=>
  rw[b]at a;simp only[List.head?_cons,gV]at a;subst a;have d:=jR r;rw[b]at d;have e:bQ (64::t)=t.dropWhile iw:=by unfold bQ;rw[show aT (64::t)=64::t from by unfold aT;rw[Fy aw],List.dropWhile_cons_of_pos aw]
  rw[e];have:=(sS (l:=t) iw).length_le;simp at d;omega
theorem Jl(l:Bytes)(c:UInt8):(kX l==((c.toNat:Nat):Int))=true->c≠0->l.head?=some c:=by
 intro a b;cases l with
 |nil=>simp[kX]at a;exact absurd (qM.1 (by simpa using a.symm)) b
 |cons d t=>
  simp only[kX,ln]at a;have:d=c:=qM.1 (by exact_mod_cast a);rw[this];rfl
theorem BI{l:Bytes}{c:UInt8}(b:l.head?≠some c)(d:c≠0):kX l≠((c.toNat:Nat):Int):=fun a=>b (Jl l c (by simpa using a) d)
theorem BJ{l:Bytes}{c:UInt8}(a:l.head?=some c):kX l=((c.toNat:Nat):Int):=by
 cases l with
 |nil=>cases a
 |cons d t=>simp at a;subst a;rfl
theorem Jm:(prog.info? 9).map (fun i=>(i.zero,i.size,i.bytes))=some (some (.string ⟨#[]⟩),1,16):=ay
theorem xh{f:Nat}{a:List Bytes}{r:Bytes}(b:(aT r).head?=some 64)(c:lG (aT r)=true):gP (f+1) a r=gP f (a++[lE (aT r)]) (bQ (aT r)):=by
 conv=>lhs;unfold gP
 rw[au b,au c]
theorem xi{f:Nat}{a:List Bytes}{r:Bytes}(b:(aT r).head?=some 64)(c:lG (aT r)=false):gP (f+1) a r=none:=by unfold gP;rw[au b,ap (by simp[c])]
theorem xj{f:Nat}{a:List Bytes}{r:Bytes}(b:(aT r).head?≠some 64):gP f a r=some (a,aT r):=by
 cases f with
 |zero=>rfl
 |succ f=>unfold gP;rw[ap b]
def Jn(r:Option (List Bytes×Bytes))(x:gj)(b B:Nat)(w:World)(a:Ending)(w':World):Prop:=
 a=.returned (.bool r.isSome)/\(∃y:gj,bK w' b y/\∀l q,r=some (l,q)->∃v,y={x with rest:=q,av:=v}/\cA w' B v l)/\gQ b B w w'
theorem Jo(b B:Nat)(x:gj)(w:World)(V:bK w b x)(aa:x.rest.length<=65536)(W:ep x.rest)(bc:B<=w.heap.size)(g:b<B)(X:cA w B x.av []):
 Calls prog 91 #[.pointer (some ⟨b,0,none⟩)] w (Jn (gP x.rest.length [] x.rest) x b B w):=by
 obtain⟨ag,L⟩:=aj (gP x.rest.length [] x.rest);rw[<-L];have R:=ah L;obtain⟨bb,a4,a7,a9,ba⟩:=cL Jm;obtain⟨rest,name,label,av,key,text,nv⟩:=x;simp only at aa W X;clear L;go_enter func91,ntmps91
 go_wp2
 go_loopg [] rest.length (fun k wr=>∃(e:List Bytes) (v:Value) (r:Bytes) (f:Nat),r.length=k/\k<=f/\k<=65536/\e.length+k<=65536/\bK wr b ⟨r,name,label,v,key,text,nv⟩/\cA wr B v e/\Hid (ep r)/\gQ b B w wr/\Hid (ag=gP f e r))
 case atStart=>exact⟨[],av,rest,rest.length,rfl,aB _,aa,aO,V,X,W,gQ.refl _ _ _,R.o⟩
 case round=>
  obtain⟨e,v,r,f,rfl,bg,Z,be,T,A,C,hF,I⟩:=hrel;clear R V;have n:=xf b ⟨r,name,label,v,key,text,nv⟩ wr T Z;have bm:=jR r;simp only at n;have bq:=hF.size;have h:=I.o;by_cases j:(aT r).head?=some 64
  ·have y:=BJ j
   have a5:=xg j;obtain⟨f,rfl⟩:∃ao,f=ao+1:=⟨f-1,ad⟩;rw[y,show(((64:UInt8).toNat:Nat):Int)=64 from rfl]at n;have i:=fun w1 m=>BG b ⟨aT r,name,label,v,key,text,nv⟩ w1 m (by show(aT r).length<=_;omega) C.o.next;simp only at i;have S:=ah (C.o.next.rest);obtain⟨af,ae,rfl⟩:=cJ A;have bf:b<wr.heap.size:=T.lt;cases g:lG (aT r)with
   |true=>
    rw[xh j g]at h;rw[g]at i;have a3:(lE (aT r)).length<=65536:=by
     have u:=oM (aT r);unfold lE;split
     ·simp
     ·rename_i c t d
      rw[d]at u;simp at u;split<;>simp<;>omega
    generalize lE (aT r)=a at i h a3;generalize bQ (aT r)=P at i h a5 S;have o:=ah h;clear h g j y I C;go_wp2_with fail
    refine n.mono ?_;rintro d w1 ⟨rfl,m,s⟩;clear n;have F:=i _ m;clear i;go_wp2_with fail
    refine F.mono ?_;rintro d Q ⟨rfl,E,J⟩;clear F;have M:=s.trans J;have bo:=M.size;have al:=E.c3;simp only at al;have N:Q.ownsRow B 9 1 (.slice af e.length ae) e.length (e.map encStr):=df A M.grownBy (.inr (fun d=>by have:=(bX A b d).1;omega));clear A m s J;go_wp2_with(first
     |(at_builtin;go_must (refine gY _ rfl _ _ 66 rfl B 9 bb (.string ⟨#[]⟩) 1 16 jE a4 a7 a9 ba rfl aw _ _ _ rfl (dA N _) ⟨Q.heap.size,0,none⟩ 1 1 [.string ⟨a.toArray⟩] rfl rfl (dt _ [.string ⟨a.toArray⟩] _ _ rfl) (fun z ab=>by simp at ab;subst ab;rfl) bN ad aO ?_);intro bt H O Y bl;have K:bK H b ⟨P,name,label,.slice af e.length ae,key,text,nv⟩:=(Y.block b (by have:=E.lt;simp;omega) (fun d=>by have:=(bX N b d.symm).1;omega)).trans (E.below az);have bi:=K.free 3;obtain⟨G,D,rfl⟩:=cJ O;have an:=K.c3;simp only at an)
     |fail)
    have a0:gQ b B w H:=(hF.trans (M.far ad)).trans (Jh (Bu Y) ad (fun k d=>(bX N k d).1));have a2:=K.attrs (.slice G (e.length+1) D);have a6:cA (H.setCell ⟨b,3,none⟩ (.slice G (e.length+1) D)) B (.slice G (e.length+1) D) (e++[a]):=by have u:=df (row:=some b) (w':=H.setCell ⟨b,3,none⟩ (.slice G (e.length+1) D)) O ⟨rfl,rfl,rfl,by simp[World.setCell],fun k Z g=>eG _ _ _ _ (fun d=>g (by rw[d]))⟩ (.inr (fun d=>by have:=(bX O b d).1;omega));unfold cA;rw[cm,fd];simpa[encStr]using u
    have a1:gQ b B w (H.setCell ⟨b,3,none⟩ (.slice G (e.length+1) D)):=a0.trans ⟨rfl,rfl,rfl,by simp[World.setCell],fun k _ g=>eG _ _ _ _ g⟩;go_roundg P.length
    case rel=>exact⟨e++[a],_,P,f,rfl,ad,ad,aO,a2,a6,S.o,a1,o.o⟩
    case measure=>omega
   |false=>
    rw[xi j g]at h;rw[g]at i;have o:=ah h;clear h g j y I C;go_wp2_with fail
    refine n.mono ?_;rintro d w1 ⟨rfl,m,s⟩;clear n;have F:=i _ m;clear i;go_wp2_with fail
    refine F.mono ?_;rintro d Q ⟨rfl,E,J⟩;clear F
    go_wp2
    go_ret;exact⟨by rw[o.o];rfl,⟨_,E,fun l q p=>by rw[o.o]at p;cases p⟩,hF.trans ((s.trans J).far ad)⟩
  ·rw[xj j]at h
   have y:=BI j aw;have bd:(kX (aT r)==64)=false:=by rw[cW];exact y
   have o:=ah h;clear h y j I C;go_wp2_with fail
   refine n.mono ?_;rintro d w1 ⟨rfl,m,s⟩;clear n
   go_wp2
   go_ret;refine⟨by rw[o.o];rfl,⟨_,m,fun l q p=> ?_⟩,hF.trans (s.far ad)⟩;rw[o.o]at p;injection p with p
   injection p with u aq
   subst u;subst aq;exact⟨v,rfl,df A s.grownBy (.inr (fun d=>by have:=(bX A b d).1;omega))⟩
theorem Jp(l:Bytes)(c:UInt8):Lib.hasSuffix l [c]=(l.getLast?==some c):=by
 unfold Lib.hasSuffix;rw[eS,List.isSuffixOf_iff_suffix,ln];constructor
 ·rintro⟨t,rfl⟩;simp
 ·intro a
  obtain⟨b,d⟩:=List.getLast?_eq_some_iff.1 a;exact⟨b,d.symm⟩
theorem Jq(l:Bytes)(w:World)(d:l.length<=1048576):Calls prog 140 #[.string ⟨l.toArray⟩,.string ⟨#[125]⟩] w fun a w'=>a=.returned (.tuple #[.string ⟨(if(l.getLast?==some 125)=true then l.dropLast else l).toArray⟩,.bool (l.getLast?==some 125)])/\w'=w:=by refine(strings_CutSuffix ⟨l.toArray⟩ ⟨#[125]⟩ w (by rw[ix];omega)).mono ?_;rintro a w' ⟨rfl,rfl⟩;refine⟨?_,rfl⟩;have b:(⟨l.toArray⟩:ByteArray).data.toList=l:=rfl;have c:(⟨#[125]⟩:ByteArray).data.toList=[125]:=rfl;rw[b,c];unfold Lib.trimSuffix;rw[Jp,List.dropLast_eq_take];rfl
theorem BK(l:Bytes):(jN l).length<=l.length:=by unfold jN;rw[List.length_reverse];have:=(sS (l:=l.reverse) ew).length_le;rwa[List.length_reverse]at this
theorem BL(l:Bytes):(kV l).length<=l.length:=by
 have a:=BK (l.drop 1);rw[gI]at a;unfold kV;split
 ·rw[List.length_dropLast];omega
 ·omega
def Jr(r:Option (Bool×List ar))(x:gj)(b B:Nat)(w:World)(a:Ending)(w':World):Prop:=
 a=.returned (.bool r.isSome)/\(∃y:gj,bK w' b y/\∀t l,r=some (t,l)->x.text=false->x.nv=.slice none 0 0->∃q o c,y={x with rest:=q,text:=t,nv:=.slice o l.length c}/\cr w' B (.slice o l.length c) l)/\aW b w w'
theorem Js(b B:Nat)(x:gj)(w:World)(bi:bK w b x)(a0:x.rest.length<=65536)(al:ep x.rest)(bw:B<=w.heap.size)(an:b<B):
 Calls prog 93 #[.pointer (some ⟨b,0,none⟩)] w (Jr (oK x.rest) x b B w):=by
 obtain⟨D,f⟩:=aj (oK x.rest);rw[<-f];have g:=xf b x w bi a0;have Z:=jR x.rest;obtain⟨rest,name,label,av,key,text,nv⟩:=x;simp only at a0 al g Z f;unfold oK at f;by_cases p:(aT rest).head?=some 123
 ·rw[au p]at f
  have q:=BJ p;rw[q,show(((123:UInt8).toNat:Nat):Int)=123 from rfl]at g;have bg:1<=(aT rest).length:=by cases a:aT rest with|nil=>rw[a]at p;cases p|cons c t=>simp
  have a6:∀w1,(Instr.slice 9 (.string ⟨(aT rest).toArray⟩) (some (.int .i64 1)) none none).run prog w1=.ok (.string ⟨((aT rest).drop 1).toArray⟩) w1:=fun w1=>xe (aT rest) 1 bg w1;have P:=fun w1=>I6 ((aT rest).drop 1) w1 (by rw[gI];omega);have a7:=BK ((aT rest).drop 1);rw[gI]at a7;have A:=fun w1=>Jq (jN ((aT rest).drop 1)) w1 ad;have bo:=BL (aT rest);have ao:((jN ((aT rest).drop 1)).getLast?==some 125)=rn (aT rest):=rfl;rw[ao,show(if rn (aT rest)=true then(jN ((aT rest).drop 1)).dropLast else jN ((aT rest).drop 1))=kV (aT rest)from rfl]at A;have u:=fun w1=>IV ⟨(kV (aT rest)).toArray⟩ w1 (by rw[ix];omega);rw[show(⟨(kV (aT rest)).toArray⟩:ByteArray).data.toList=kV (aT rest)from rfl]at u;obtain⟨m,I,a4⟩:∃m I,nD (kV (aT rest))=(m,I):=⟨_,_,rfl⟩;rw[a4]at u f;unfold lJ at u;simp only at u f;generalize kV (aT rest)=bE at A u;generalize jN ((aT rest).drop 1)=tr at P A;generalize rn (aT rest)=be at A f;generalize(aT rest).drop 1=bu at a6 P;generalize aT rest=a9 at g a6;have v:=ah f;clear f p q ao a4 a7 bo;go_enter func93,ntmps93
  go_wp2_with fail
  refine g.mono ?_;rintro h w1 ⟨rfl,j,n⟩;have ab:=j.c0;simp only at ab;clear g;go_wp2_with fail
  refine(P _).mono ?_;rintro h bb ⟨rfl,N⟩;clear P;go_wp2_with fail
  refine(A _).mono ?_;rintro h bt ⟨rfl,rfl⟩;clear A;have a3:=u bt;clear u ab;go_wp2_with fail
  refine a3.mono ?_;rintro h Q ⟨o,c,rfl,a2,z⟩;clear a3;have M:=(n.trans (aW.of N)).trans (aW.of z);have K:=(j.below N).below z;have Y:=(aA Q.heap.size Q).alloc (aB _) (.cells #[.slice o m.length c] 65);have L:=K.below Y;have aq:=L.free 6;have bd:=L.c6;simp only at bd;have ag:=M.trans (aW.of Y);have T:=L.nodes (.slice o m.length c);have X:=kW ag 6 (.slice o m.length c);have bq:cr ((Q.alloc (.cells #[.slice o m.length c] 65)).setCell ⟨b,6,none⟩ (.slice o m.length c)) B (.slice o m.length c) m:=by have y:=dA a2 (.cells #[.slice o m.length c] 65);have bB:=(n.trans (aW.of N)).size;refine jP (df (row:=some b) y ⟨rfl,rfl,rfl,by simp[World.setCell],fun k bz an=>eG _ _ _ _ (fun h=>an (by rw[h]))⟩ (.inr (fun h=>by have:=(bX y b h).1;omega))) ad
  clear j n N z M K Y L ag a2;cases be with
  |true=>
   by_cases G:I=0
   ·have d:D=some (false,m):=by rw[v.o,G];rfl
    have e:=ah d;subst G;clear d v
    go_wp2
    go_ret;refine⟨by rw[e.o];rfl,⟨_,T,fun t l a aa _=> ?_⟩,X⟩;rw[e.o]at a;injection a with a
    injection a with y S
    subst y;subst S;simp only at aa;subst aa;exact⟨_,o,c,rfl,bq⟩
   ·have d:D=none:=by rw[v.o];simp[G]
    have e:=ah d;have bA:(I==0)=false:=by rw[cW];exact G
    clear d v G
    go_wp2
    go_ret;exact⟨by rw[e.o];rfl,⟨_,T,fun t l a=>by rw[e.o]at a;cases a⟩,X⟩
  |false=>
   have d:D=none:=by rw[v.o];rfl
   have e:=ah d;clear d v
   go_wp2
   go_ret;exact⟨by rw[e.o];rfl,⟨_,T,fun t l a=>by rw[e.o]at a;cases a⟩,X⟩
 ·rw[ap p]at f
  have q:=BI p aw;have ae:(kX (aT rest)==123)=false:=by rw[cW];exact q
  have af:(kX (aT rest) !=123)=true:=by rw[iJ];exact q
  have i:=fun w1 j=>oO b ⟨aT rest,name,label,av,key,text,nv⟩ w1 j (by show(aT rest).length<=_;omega) al.next;simp only[Jj,Jk]at i;have a5:=jr rest;have s:=fun w1=>vU ⟨(bQ rest).toArray⟩ w1 (by rw[ix];omega);rw[show gJ jI (⟨(bQ rest).toArray⟩:ByteArray).data.toList=(bQ rest).all ew from rfl]at s;by_cases C:cj rest=wM
  ·rw[C]at i
   unfold wM at i;have d:D=if(bQ rest).all ew=true then some (true,[])else none:=by
    rw[f];by_cases O:(bQ rest).all ew=true
    ·rw[au ⟨C,O⟩,au O]
    ·rw[ap (fun a=>O a.2),ap O]
   generalize bQ rest=ba at i s d;generalize kX (aT rest)=bm at g ae af;generalize aT rest=a9 at g i;generalize ba.all ew=bc at s d;have e:=ah d;clear f d p q C a5 Z;go_enter func93,ntmps93
   go_wp2_with fail
   refine g.mono ?_;rintro h w1 ⟨rfl,j,n⟩;clear g;have H:=i _ j;clear i;go_wp2_with fail
   refine H.mono ?_;rintro h bb ⟨rfl,r,F⟩;clear H;have aq:=r.free 5;have R:=r.c5;simp only at R;have E:=n.trans F;have J:=r.text true;have V:=kW E 5 (.bool true);have bf:=J.c0;simp only at bf;clear j n F E;go_wp2_with fail
   refine(s _).mono ?_;rintro h Q ⟨rfl,z⟩;clear s;have K:=J.below z;have M:=V.trans (aW.of z)
   go_wp2
   go_ret;refine⟨?_,⟨_,K,fun t l a aa a1=> ?_⟩,M⟩
   ·rw[e.o];cases bc<;>rfl
   ·rw[e.o]at a
    split at a
    ·injection a with a
     injection a with y S
     subst y;subst S;simp only at a1;subst a1;exact⟨_,none,0,rfl,cR _ _ _ _⟩
    ·cases a
  ·have d:D=none:=by rw[f,ap (fun a=>C a.1)]
   have bl:(cj rest==[116,101,120,116])=false:=by rw[cW];exact C
   generalize cj rest=W at i bl;generalize bQ rest=ba at i s;generalize kX (aT rest)=bm at g ae af;generalize aT rest=a9 at g i;have e:=ah d;clear f d p q C a5 Z s;go_enter func93,ntmps93
   go_wp2_with fail
   refine g.mono ?_;rintro h w1 ⟨rfl,j,n⟩;clear g;have H:=i _ j;clear i;go_wp2_with fail
   refine H.mono ?_;rintro h bb ⟨rfl,r,F⟩;clear H;have aq:=r.free 5;have R:=r.c5;simp only at R;have E:=n.trans F;have J:=r.text false;have V:=kW E 5 (.bool false);clear j n F E
   go_wp2
   go_ret;exact⟨by rw[e.o];rfl,⟨_,J,fun t l a=>by rw[e.o]at a;cases a⟩,V⟩
structure PL where
 rest:Bytes
 name:Bytes
 label:Bytes
 attrs:List Bytes
 key:Bytes
 text:Bool
 nodes:List ar
def xm(p:PL):Option ax:=some ⟨p.name,p.label,p.attrs,p.key,p.text,p.nodes⟩
def oP(p:PL):Option ax:=match oK p.rest with|none=>none|some (t,a)=>xm {p with text:=t,nodes:=a}
def oQ(p:PL):Option ax:=match mx p.rest with|none=>none|some (k,r)=>oP {p with key:=k,rest:=r}
def oR(p:PL):Option ax:=match gP p.rest.length [] p.rest with|none=>none|some (l,r)=>oQ {p with attrs:=l,rest:=r}
def oS(p:PL):Option ax:=if a8 (cj p.rest)=false then none else oR {p with label:=cj p.rest,rest:=bQ p.rest}
def oT(p:PL):Option ax:=if cj p.rest≠[61]then none else oS {p with rest:=bQ p.rest}
def oU(p:PL):Option ax:=if a8 (cj p.rest)=false then none else oT {p with name:=cj p.rest,rest:=bQ p.rest}
def ru(p:PL):Option ax:=if cj p.rest≠tP then none else oU {p with rest:=bQ p.rest}
def p7:Nat->PL->Option ax
 |0=>ru
 |1=>oU
 |2=>oT
 |3=>oS
 |4=>oR
 |5=>oQ
 |6=>oP
 |_=>xm
theorem Jt(s:Bytes):my s=p7 0 ⟨s,[],[],[],[],false,[]⟩:=rfl
def p8:Nat->Nat
 |0=>87
 |1=>88
 |2=>89
 |3=>90
 |4=>91
 |5=>92
 |_=>93
theorem Ju(k:Nat)(b:k<7):∀args a,(callFunc (p8 k) args).run prog a=.ok (.enter (p8 k) args) a:=by
 obtain rfl|rfl|rfl|rfl|rfl|rfl|rfl:k=0∨k=1∨k=2∨k=3∨k=4∨k=5∨k=6:=ad
 all_goals exact fun _ _=>rfl
structure tY(b B:Nat)(w0:World)(k:Nat)(p:PL)(w:World):Prop where
 ex:∃y:gj,bK w b y/\y.name=p.name/\y.label=p.label/\y.key=p.key/\y.text=p.text/\cA w B y.av p.attrs/\cr w B y.nv p.nodes/\(k<=6->y.rest=p.rest/\y.text=false/\y.nv=.slice none 0 0)
 asc:k<=6->ep p.rest/\p.rest.length<=65536
 none4:k<=4->p.attrs=[]
 none5:k<=5->p.key=[]
 none6:k<=6->p.nodes=[]/\p.text=false
 far:gQ b B w0 w
 bB:b<B
 size:B<=w.heap.size
def BM(b B:Nat)(w0:World)(k:Nat)(p:PL)(c:Ending)(w':World):Prop:=
 ∃ok,c=.returned (.bool ok)/\(ok=false->p7 k p=none/\gQ b B w0 w')/\(ok=true->∃a,p7 k p=p7 (k+1) a/\tY b B w0 (k+1) a w')
theorem p9{b B:Nat}{w w':World}{v:Value}{l:List Bytes}(a:cA w B v l)(d:aW b w w')(e:b<B):cA w' B v l:=df a d.grownBy (.inr (fun c=>by have:=(bX a b c).1;omega))
theorem rv{b B:Nat}{w w':World}{v:Value}{l:List ar}(a:cr w B v l)(d:aW b w w')(e:b<B):cr w' B v l:=df a d.grownBy (.inr (fun c=>by have:=(bX a b c).1;omega))
theorem ep.attrs{l r:Bytes}{f:Nat}{d q:List Bytes}(c:ep l)(a:gP f d l=some (q,r)):ep r/\r.length<=l.length:=by
 induction f generalizing d l with
 |zero=>simp[gP]at a;rw[<-a.2];exact⟨c.next,jR l⟩
 |succ f ih=>
  by_cases b:(aT l).head?=some 64
  ·cases g:lG (aT l)with
   |true=>
    rw[xh b g]at a;have:=ih c.next.rest a;exact⟨this.1,by have e:=xg b;omega⟩
   |false=>rw[xi b g]at a;cases a
  ·rw[xj b]at a
   injection a with a
   injection a with _ e
   rw[<-e];exact⟨c.next,jR l⟩
theorem ep.key{l r k:Bytes}(c:ep l)(a:mx l=some (k,r)):ep r/\r.length<=l.length:=by
 unfold mx at a;split at a
 ·split at a
  ·injection a with a
   injection a with _ b
   rw[<-b];exact⟨c.rest.rest,aR (jr _) (jr _)⟩
  ·cases a
 ·injection a with a
  injection a with _ b
  rw[<-b];exact⟨c,aB _⟩
theorem Jv(b B:Nat)(w0:World)(k:Nat)(V:k<7)(p:PL)(w:World)(a:tY b B w0 k p w):
 Calls prog (p8 k) #[.pointer (some ⟨b,0,none⟩)] w (BM b B w0 k p):=by
 obtain⟨y,u,I,H,C,J,n,L,P⟩:=a.ex;obtain⟨h,D,m⟩:=P ad;obtain⟨A,K⟩:=a.asc ad;have g:=a.bB;have f:=a.size;have s:ep y.rest:=by rw[h];exact A
 have F:y.rest.length<=65536:=by rw[h];exact K
 obtain⟨Q,W⟩:=a.none6 ad;obtain rfl|rfl|rfl|rfl|rfl|rfl|rfl:k=0∨k=1∨k=2∨k=3∨k=4∨k=5∨k=6:=ad
 ·refine(rj b y w u F s).mono ?_
  rintro G w' ⟨rfl,x,e⟩;refine⟨_,rfl,fun d=>⟨?_,a.far.trans (e.far f)⟩,fun d=>⟨{p with rest:=bQ p.rest},?_,?_⟩⟩
  ·show ru p=none
   unfold ru;rw[au (by rw[h]at d;simpa using d)]
  ·show ru p=oU _
   unfold ru;rw[ap (by rw[h]at d;simpa using d)]
  ·exact⟨⟨_,x,I,H,C,J,p9 n e g,rv L e g,fun _=>⟨by show bQ y.rest=_;rw[h],D,m⟩⟩,fun _=>⟨A.rest,aR (jr _) K⟩,fun _=>a.none4 (by omega),fun _=>a.none5 ad,fun _=>a.none6 ad,a.far.trans (e.far f),g,aR f e.size⟩
 ·refine(Jd b y w u F s).mono ?_
  rintro G w' ⟨rfl,x,e⟩;refine⟨_,rfl,fun d=>⟨?_,a.far.trans (e.far f)⟩,fun d=>⟨{p with name:=cj p.rest,rest:=bQ p.rest},?_,?_⟩⟩
  ·show oU p=none
   unfold oU;rw[au (by rw[h]at d;exact d)]
  ·show oU p=oT _
   unfold oU;rw[ap (by rw[h]at d;rw[d];simp)]
  ·exact⟨⟨_,x,by show cj y.rest=_;rw[h],H,C,J,p9 n e g,rv L e g,fun _=>⟨by show bQ y.rest=_;rw[h],D,m⟩⟩,fun _=>⟨A.rest,aR (jr _) K⟩,fun _=>a.none4 (by omega),fun _=>a.none5 ad,fun _=>a.none6 ad,a.far.trans (e.far f),g,aR f e.size⟩
 ·refine(Jc b y w u F s).mono ?_
  rintro G w' ⟨rfl,x,e⟩;refine⟨_,rfl,fun d=>⟨?_,a.far.trans (e.far f)⟩,fun d=>⟨{p with rest:=bQ p.rest},?_,?_⟩⟩
  ·show oT p=none
   unfold oT;rw[au (by rw[h]at d;simpa using d)]
  ·show oT p=oS _
   unfold oT;rw[ap (by rw[h]at d;simpa using d)]
  ·exact⟨⟨_,x,I,H,C,J,p9 n e g,rv L e g,fun _=>⟨by show bQ y.rest=_;rw[h],D,m⟩⟩,fun _=>⟨A.rest,aR (jr _) K⟩,fun _=>a.none4 (by omega),fun _=>a.none5 ad,fun _=>a.none6 ad,a.far.trans (e.far f),g,aR f e.size⟩
 ·refine(Je b y w u F s).mono ?_
  rintro G w' ⟨rfl,x,e⟩;refine⟨_,rfl,fun d=>⟨?_,a.far.trans (e.far f)⟩,fun d=>⟨{p with label:=cj p.rest,rest:=bQ p.rest},?_,?_⟩⟩
  ·show oS p=none
   unfold oS;rw[au (by rw[h]at d;exact d)]
  ·show oS p=oR _
   unfold oS;rw[ap (by rw[h]at d;rw[d];simp)]
  ·exact⟨⟨_,x,I,by show cj y.rest=_;rw[h],C,J,p9 n e g,rv L e g,fun _=>⟨by show bQ y.rest=_;rw[h],D,m⟩⟩,fun _=>⟨A.rest,aR (jr _) K⟩,fun _=>a.none4 (by omega),fun _=>a.none5 ad,fun _=>a.none6 ad,a.far.trans (e.far f),g,aR f e.size⟩
 ·have R:=a.none4 ad
  rw[R]at n;refine(Jo b B y w u F s f g n).mono ?_;rintro G w' ⟨rfl,⟨z,M,j⟩,hF⟩;rw[h]at j⊢;cases i:gP p.rest.length [] p.rest with
  |none=>
   refine⟨_,rfl,fun _=>⟨?_,a.far.trans hF⟩,fun d=>by simp at d⟩;show oR p=none
   unfold oR;rw[i]
  |some q=>
   obtain⟨l,r⟩:=q;refine⟨_,rfl,fun d=>by simp at d,fun _=>⟨{p with attrs:=l,rest:=r},?_,?_⟩⟩
   ·show oR p=oQ _
    unfold oR;rw[i]
   ·obtain⟨v,rfl,T⟩:=j l r i
    have N:=A.attrs i;refine⟨⟨_,M,I,H,C,J,T,?_,fun _=>⟨rfl,D,m⟩⟩,fun _=>⟨N.1,by show r.length<=_;omega⟩,fun E=>by omega,fun _=>a.none5 ad,fun _=>a.none6 ad,a.far.trans hF,g,aR f hF.size⟩;show cr w' B y.nv p.nodes
    rw[m,Q];exact cR _ _ _ _
 ·refine(Jg b y w u F s).mono ?_
  rintro G w' ⟨rfl,⟨z,M,j⟩,e⟩;rw[h]at j⊢;cases i:mx p.rest with
  |none=>
   refine⟨_,rfl,fun _=>⟨?_,a.far.trans (e.far f)⟩,fun d=>by simp at d⟩;show oQ p=none
   unfold oQ;rw[i]
  |some q=>
   obtain⟨O,r⟩:=q;refine⟨_,rfl,fun d=>by simp at d,fun _=>⟨{p with key:=O,rest:=r},?_,?_⟩⟩
   ·show oQ p=oP _
    unfold oQ;rw[i]
   ·have:=j O r i (by rw[C];exact a.none5 ad)
    subst this;have N:=A.key i;exact⟨⟨_,M,I,H,rfl,J,p9 n e g,rv L e g,fun _=>⟨rfl,D,m⟩⟩,fun _=>⟨N.1,by show r.length<=_;omega⟩,fun E=>by omega,fun E=>ad,fun _=>a.none6 ad,a.far.trans (e.far f),g,aR f e.size⟩
 ·refine(Js b B y w u F s f g).mono ?_
  rintro G w' ⟨rfl,⟨z,M,j⟩,e⟩;rw[h]at j⊢;cases i:oK p.rest with
  |none=>
   refine⟨_,rfl,fun _=>⟨?_,a.far.trans (e.far f)⟩,fun d=>by simp at d⟩;show oP p=none
   unfold oP;rw[i]
  |some q=>
   obtain⟨t,l⟩:=q;refine⟨_,rfl,fun d=>by simp at d,fun _=>⟨{p with text:=t,nodes:=l},?_,?_⟩⟩
   ·show oP p=xm _
    unfold oP;rw[i]
   ·obtain⟨q,o,c,rfl,S⟩:=j t l i D m
    exact⟨⟨_,M,I,H,C,rfl,p9 n e g,S,fun E=>ad⟩,fun E=>ad,fun E=>ad,fun E=>ad,fun E=>ad,a.far.trans (e.far f),g,aR f e.size⟩
end Go.Proofs.YtbacloblanpghaaGreatDoor
