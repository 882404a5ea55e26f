import Derived.Test.YtnadadbndcdolaaGreatDoorQah
import Derived.Test.YtnadadbndcdolaaGreatDoorQak
set_option linter.unusedVariables false
set_option linter.unusedSimpArgs false
set_option maxRecDepth 100000
set_option maxHeartbeats 0
namespace Go.Proofs.YtnadadbndcdolaaGreatDoor
open Go.RowKit Tryz
def oe:Bytes:=[9,10,13,32]
def sH:Bytes:=[9,10,13,32,123]
theorem Dq(c:UInt8):oe.contains c=eT c:=by unfold eT kf oe;rw[iF];simp[<-ut];omega
theorem KT(c:UInt8):sH.contains c= !iP c:=by unfold iP eT kf sH;rw[Bool.not_not,iF];simp[<-ut];omega
theorem KU(l:Bytes):Lib.trimLeftS l oe=aW l:=by unfold Lib.trimLeftS aW;rw[show(fun x=>oe.contains x)=eT from funext Dq]
theorem KV(l:Bytes):Lib.trimRightS l oe=kq l:=by unfold Lib.trimRightS kq;rw[show(fun x=>oe.contains x)=eT from funext Dq]
theorem Dr:∀l:Bytes,Lib.indexAny l sH=if(l.takeWhile iP).length=l.length then-1 else((l.takeWhile iP).length:Int)
 |[]=>rfl
 |c::l=>by
  have ih:=Dr l;have d:=Lib.indexAny_ge sH l;rw[Lib.indexAny,KT];cases a:iP c with
  |false=>
   rw[ur (by simp[a])];simp
  |true=>
   rw[uq (by simpa using a),ih];simp only[A7,j8,jl,db];by_cases b:(l.takeWhile iP).length=l.length
   ·simp[b]
   ·rw[au b]
    have:¬(((l.takeWhile iP).length:Int)== -1)=true:=ak;rw[au this,au ad];omega
theorem KW(p:UInt8->Bool)(l:Bytes):l.take (l.takeWhile p).length=l.takeWhile p:=by
 induction l with
 |nil=>rfl
 |cons c t ih=>
  by_cases a:p c=true
  ·rw[uq a];simp[ih]
  ·rw[ur a];rfl
theorem KX(p:UInt8->Bool)(l:Bytes):l.drop (l.takeWhile p).length=l.dropWhile p:=by
 induction l with
 |nil=>rfl
 |cons c t ih=>
  by_cases a:p c=true
  ·rw[uq a,List.dropWhile_cons_of_pos a];simp[ih]
  ·rw[ur a,IC a];rfl
def eJ(l:Bytes):Prop:=∀c∈l,c.toNat<128
theorem eJ.next{l:Bytes}(a:eJ l):eJ (aW l):=fun c b=>a c ((uB _).subset b)
theorem eJ.rest{l:Bytes}(a:eJ l):eJ (bS l):=fun c b=>a.next c ((uB _).subset b)
theorem ku(l:Bytes):(aW l).length<=l.length:=(uB _).length_le
theorem jN(l:Bytes):(bS l).length<=l.length:=aJ (uB _).length_le (ku l)
theorem pD(l:Bytes):(ct l).length<=l.length:=aJ (xP _).length_le (ku l)
theorem iQ(l:Bytes):(⟨l.toArray⟩:ByteArray).size=l.length:=by rw[dV]
theorem Dt(l:Bytes)(n:Nat)(a:n<=l.length)(w:World):(Instr.slice 9 (.string ⟨l.toArray⟩) none (some (.int .i64 (n:Nat))) none).run prog w=.ok (.string ⟨(l.take n).toArray⟩) w:=by
 have b:n<=(⟨l.toArray⟩:ByteArray).size:=by rw[iQ];exact a
 rw[run_slice_string_to_if w _ _ .i64 n gq,ay ad];congr 2
 apply Be;apply mU;show((⟨l.toArray⟩:ByteArray).extract 0 n).data.toList=_
 rw[Bd];simp
theorem yO(l:Bytes)(n:Nat)(a:n<=l.length)(w:World):(Instr.slice 9 (.string ⟨l.toArray⟩) (some (.int .i64 (n:Nat))) none none).run prog w=.ok (.string ⟨(l.drop n).toArray⟩) w:=by
 have b:n<=(⟨l.toArray⟩:ByteArray).size:=by rw[iQ];exact a
 rw[I3 _ n b w];congr 2
 apply Be;apply mU;rw[Lib.extract_to_end]
structure gB where
 rest:Bytes
 name:Bytes
 label:Bytes
 av:Value
 key:Bytes
 text:Bool
 nv:Value
def vG(x:gB):Array Value:=#[.string ⟨x.rest.toArray⟩,.string ⟨x.name.toArray⟩,.string ⟨x.label.toArray⟩,x.av,.string ⟨x.key.toArray⟩,.bool x.text,x.nv]
def bM(w:World)(b:Nat)(x:gB):Prop:=w.heap[b]?=some (.cells (vG x) 201 (0,0))
section
variable{w w':World} {b:Nat} {x:gB}
theorem bM.lt(a:bM w b x):b<w.heap.size:=aU a
theorem bM.c0(a:bM w b x):w.cell? ⟨b,0,none⟩=some (.string ⟨x.rest.toArray⟩):=bs w b 0 _ _ _ a
theorem bM.c1(a:bM w b x):w.cell? ⟨b,1,none⟩=some (.string ⟨x.name.toArray⟩):=bs w b 1 _ _ _ a
theorem bM.c2(a:bM w b x):w.cell? ⟨b,2,none⟩=some (.string ⟨x.label.toArray⟩):=bs w b 2 _ _ _ a
theorem bM.c3(a:bM w b x):w.cell? ⟨b,3,none⟩=some x.av:=bs w b 3 _ _ _ a
theorem bM.c4(a:bM w b x):w.cell? ⟨b,4,none⟩=some (.string ⟨x.key.toArray⟩):=bs w b 4 _ _ _ a
theorem bM.c5(a:bM w b x):w.cell? ⟨b,5,none⟩=some (.bool x.text):=bs w b 5 _ _ _ a
theorem bM.c6(a:bM w b x):w.cell? ⟨b,6,none⟩=some x.nv:=bs w b 6 _ _ _ a
theorem bM.free(a:bM w b x)(o:Nat):w.frozen? ⟨b,o,none⟩=false:=by unfold bM at a;simp[World.frozen?,a]
theorem bM.below(a:bM w b x)(c:Below w.heap.size w w'):bM w' b x:=(c.block b a.lt).trans a
theorem pE(a:bM w b x)(o:Nat)(v:Value):(w.setCell ⟨b,o,none⟩ v).heap[b]?=some (.cells ((vG x).setIfInBounds o v) 201 (0,0)):=by
 have c:=a.lt;have d:w.heap[b]=.cells (vG x) 201 (0,0):=by unfold bM at a;simpa[lj c]using a
 show(w.heap.modify b _)[b]?=_
 rw[lj (by simpa using c),xH,d];rfl
theorem bM.rest(c:bM w b x)(a:Bytes):bM (w.setCell ⟨b,0,none⟩ (.string ⟨a.toArray⟩)) b {x with rest:=a}:=pE c 0 _
theorem bM.name(c:bM w b x)(a:Bytes):bM (w.setCell ⟨b,1,none⟩ (.string ⟨a.toArray⟩)) b {x with name:=a}:=pE c 1 _
theorem bM.label(c:bM w b x)(a:Bytes):bM (w.setCell ⟨b,2,none⟩ (.string ⟨a.toArray⟩)) b {x with label:=a}:=pE c 2 _
theorem bM.attrs(a:bM w b x)(v:Value):bM (w.setCell ⟨b,3,none⟩ v) b {x with av:=v}:=pE a 3 _
theorem bM.key(c:bM w b x)(a:Bytes):bM (w.setCell ⟨b,4,none⟩ (.string ⟨a.toArray⟩)) b {x with key:=a}:=pE c 4 _
theorem bM.text(c:bM w b x)(a:Bool):bM (w.setCell ⟨b,5,none⟩ (.bool a)) b {x with text:=a}:=pE c 5 _
theorem bM.nodes(a:bM w b x)(v:Value):bM (w.setCell ⟨b,6,none⟩ v) b {x with nv:=v}:=pE a 6 _
end
theorem lE{b:Nat}{w0 w:World}(a:aY b w0 w)(o:Nat)(v:Value):aY b w0 (w.setCell ⟨b,o,none⟩ v):=a.setCell o v
def lG(l:Bytes):Int:=match l with|[]=>0|c::_=>(c.toNat:Nat)
theorem Du(l:Bytes)(w:World):Calls prog 52 #[.string ⟨l.toArray⟩,.string ⟨#[9,10,13,32]⟩] w fun a w'=>a=.returned (.string ⟨(aW l).toArray⟩)/\Below w.heap.size w w':=by have d:=Any.strings_TrimLeft_laid lays161 aA ⟨l.toArray⟩ ⟨#[9,10,13,32]⟩ w ap (by intro j b f;have:=aX f;simp at this;rcases this with rfl|rfl|rfl|rfl<;>decide);refine d.mono ?_;rintro a w' ⟨rfl,e⟩;have c:=KU l;unfold oe at c;exact⟨by rw[c],e⟩
theorem KY(l:Bytes)(w:World)(g:l.length<=1048576):Calls prog 185 #[.string ⟨l.toArray⟩,.string ⟨#[9,10,13,32]⟩] w fun a w'=>a=.returned (.string ⟨(kq l).toArray⟩)/\Below w.heap.size w w':=by have d:=Any.strings_TrimRight_laid lays162 aA ⟨l.toArray⟩ ⟨#[9,10,13,32]⟩ w (by rw[iQ];omega) ap (by intro j b f;have:=aX f;simp at this;rcases this with rfl|rfl|rfl|rfl<;>decide);refine d.mono ?_;rintro a w' ⟨rfl,e⟩;have c:=KV l;unfold oe at c;exact⟨by rw[c],e⟩
theorem KZ(l:Bytes)(w:World)(h:l.length<=1048576)(f:eJ l):Calls prog 230 #[.string ⟨l.toArray⟩,.string ⟨#[9,10,13,32,123]⟩] w fun c w'=>c=.returned (.int .i64 (if(l.takeWhile iP).length=l.length then-1 else((l.takeWhile iP).length:Int)))/\Below w.heap.size w w':=by have e:=strings_IndexAny_laid ⟨l.toArray⟩ ⟨#[9,10,13,32,123]⟩ w (by rw[iQ];omega) ap (by intro j b a;exact f b (aX a)) (by intro j b a;have:=aX a;simp at this;rcases this with rfl|rfl|rfl|rfl|rfl<;>decide);refine e.mono ?_;rintro c w' ⟨rfl,g⟩;have d:=Dr l;unfold sH at d;exact⟨by rw[d],g⟩
theorem yP(b:Nat)(x:gB)(w:World)(g:bM w b x)(s:x.rest.length<=65536):
 Calls prog 182 #[.pointer (some ⟨b,0,none⟩)] w fun f w'=>f=.returned (.int .u8 (lG (aW x.rest)))/\bM w' b {x with rest:=aW x.rest}/\aY b w w':=by
 have m:=g.c0;have d:=Du x.rest w;have n:=ku x.rest;obtain⟨e,l⟩:=ar (aW x.rest);rw[<-l]at d n⊢;clear l;go_enter func182,ntmps182
 go_wp2_with fail
 refine d.mono ?_;rintro f y ⟨rfl,j⟩;have a:=g.below j;have q:=a.free 0;have p:=a.c0;have h:=a.rest e;have i:=lE (aY.of j (b:=b)) 0 (.string ⟨e.toArray⟩);clear d m;cases e with
 |nil=>
  go_wp2
  go_ret;exact⟨rfl,h,i⟩
 |cons c t=>
  have o:(⟨(c::t).toArray⟩:ByteArray).size=t.length+1:=by rw[iQ];rfl
  have u:(0:Int)<((⟨(c::t).toArray⟩:ByteArray).size:Int):=by rw[o];omega
  have v:0<(⟨(c::t).toArray⟩:ByteArray).size:=ad;have r:(⟨(c::t).toArray⟩:ByteArray)[0]=c:=rfl
  go_wp2
  go_ret;exact⟨rfl,h,i⟩
theorem K4(a:Bytes):(aW a).drop (ct a).length=bS a:=KX iP (aW a)
theorem K5(a:Bytes):(aW a).take (ct a).length=ct a:=KW iP (aW a)
theorem K6(a:Bytes):(ct a).length<=(aW a).length:=(xP _).length_le
theorem pF(b:Nat)(x:gB)(w:World)(u:bM w b x)(B:x.rest.length<=65536)(A:eJ x.rest):
 Calls prog 181 #[.pointer (some ⟨b,0,none⟩)] w fun g w'=>g=.returned (.string ⟨(ct x.rest).toArray⟩)/\bM w' b {x with rest:=bS x.rest}/\aY b w w':=by
 have j:=yP b x w u B;have C:=ku x.rest;have e:=fun a=>KZ (aW x.rest) a ad A.next;have n:=K6 x.rest;have o:=fun a=>Dt (aW x.rest) (ct x.rest).length n a;have l:=fun a=>yO (aW x.rest) (ct x.rest).length n a;rw[K5]at o;rw[K4]at l;rw[show(aW x.rest).takeWhile iP=ct x.rest from rfl]at e;obtain⟨p,y⟩:=ar (aW x.rest);obtain⟨W,v⟩:=ar (ct x.rest);obtain⟨s,t⟩:=ar (bS x.rest);rw[<-y]at j C e n o l;rw[<-v]at e n o l⊢;rw[<-t]at l⊢;have m:(⟨p.toArray⟩:ByteArray).size=p.length:=iQ p;clear y v t u;by_cases d:W.length=p.length
 ·have f:=fun a=>e a
  simp only[d,iG]at f;rw[d]at o l;have z:=ah m;clear e d m;go_enter func181,ntmps181
  go_wp2_with fail
  refine j.mono ?_;rintro g a ⟨rfl,h,r⟩;have q:=h.c0;clear j;go_wp2_with fail
  refine(f _).mono ?_;rintro g D ⟨rfl,i⟩;clear f;have c:=h.below i;have q:=c.c0;have d:=c.free 0;have m:=z.o
  go_wp2
  go_ret;exact⟨rfl,c.rest s,lE (r.trans (aY.of i)) 0 _⟩
 ·have f:=fun a=>e a
  simp only[d,jl]at f;have E:decide ((W.length:Int)<0)=false:=bK;clear e d m;go_enter func181,ntmps181
  go_wp2_with fail
  refine j.mono ?_;rintro g a ⟨rfl,h,r⟩;have q:=h.c0;clear j;go_wp2_with fail
  refine(f _).mono ?_;rintro g D ⟨rfl,i⟩;clear f;have c:=h.below i;have q:=c.c0;have d:=c.free 0
  go_wp2
  go_ret;exact⟨rfl,c.rest s,lE (r.trans (aY.of i)) 0 _⟩
theorem K7(W:Bytes)(w:World):Calls prog 231 #[.string ⟨W.toArray⟩,.string ⟨#[64]⟩] w fun a w'=>a=.returned (.tuple #[.string ⟨(match W with|[]=>[]|c::t=>if c=64 then t else c::t).toArray⟩,.bool (match W with|[]=>false|c::_=>decide (c=64))])/\w'=w:=by
 refine(strings_CutPrefix ⟨W.toArray⟩ ⟨#[64]⟩ w).mono ?_;rintro a w' ⟨rfl,rfl⟩;refine⟨?_,rfl⟩;have d:(⟨W.toArray⟩:ByteArray).data.toList=W:=rfl;have e:(⟨#[64]⟩:ByteArray).data.toList=[64]:=rfl;rw[d,e];unfold Lib.trimPrefix Lib.hasPrefix;cases W with
 |nil=>rfl
 |cons c t=>
  by_cases b:c=64
  ·subst b;simp
  ·have f:((64:UInt8)==c)=false:=by simpa using fun a:(64:UInt8)=c=>b a.symm
   have g:([64]:Bytes).isPrefixOf (c::t)=false:=by show((64:UInt8)==c&&_)=false;rw[f];rfl
   simp[g,b]
theorem Dv(b:Nat)(x:gB)(w:World)(j:bM w b x)(r:x.rest.length<=65536)(q:eJ x.rest):
 Calls prog 183 #[.pointer (some ⟨b,0,none⟩)] w fun d w'=>d=.returned (.tuple #[.string ⟨(mn x.rest).toArray⟩,.bool (mp x.rest)])/\bM w' b {x with rest:=bS x.rest}/\aY b w w':=by
 have e:=pF b x w j r q;have o:=pD x.rest;have a:=fun h=>K7 (ct x.rest) h;unfold mn mp;obtain⟨W,l⟩:=ar (ct x.rest);rw[<-l]at e o a⊢;clear l j;cases W with
 |nil=>
  simp only at a;go_enter func183,ntmps183
  go_wp2_with fail
  refine e.mono ?_;rintro d h ⟨rfl,f,g⟩;clear e;go_wp2_with fail
  refine(a _).mono ?_;rintro d p ⟨rfl,rfl⟩;clear a
  go_wp2
  go_ret2
  exact⟨rfl,f,g⟩
 |cons c t=>
  simp only at a;by_cases i:c=64
  ·subst i
   simp only[iG,decide_true]at a⊢;have n:=fun w=>m9 ⟨t.toArray⟩ w (by rw[iQ];simp at o;omega);go_enter func183,ntmps183
   go_wp2_with fail
   refine e.mono ?_;rintro d h ⟨rfl,f,g⟩;clear e;go_wp2_with fail
   refine(a _).mono ?_;rintro d p ⟨rfl,rfl⟩;clear a;go_wp2_with fail
   refine(n _).mono ?_;rintro d s ⟨rfl,m⟩;clear n
   go_wp2
   go_ret2
   exact⟨rfl,f.below m,g.trans (aY.of m)⟩
  ·simp only[i,jl,decide_false]at a⊢
   go_enter func183,ntmps183
   go_wp2_with fail
   refine e.mono ?_;rintro d h ⟨rfl,f,g⟩;clear e;go_wp2_with fail
   refine(a _).mono ?_;rintro d p ⟨rfl,rfl⟩;clear a
   go_wp2
   go_ret2
   exact⟨rfl,f,g⟩
theorem su(b:Nat)(x:gB)(w:World)(c:bM w b x)(h:x.rest.length<=65536)(g:eJ x.rest):
 Calls prog 119 #[.pointer (some ⟨b,0,none⟩)] w fun a w'=>a=.returned (.bool (ct x.rest==vu))/\bM w' b {x with rest:=bS x.rest}/\aY b w w':=by
 have d:=pF b x w c h g;clear c;unfold vu;go_enter func119,ntmps119
 go_wp2_with fail
 refine d.mono ?_;rintro a i ⟨rfl,e,f⟩;clear d
 go_wp2
 go_ret;exact⟨ck (by first|rfl|simp),e,f⟩
theorem K8(b:Nat)(x:gB)(w:World)(c:bM w b x)(h:x.rest.length<=65536)(g:eJ x.rest):
 Calls prog 121 #[.pointer (some ⟨b,0,none⟩)] w fun a w'=>a=.returned (.bool (ct x.rest==[61]))/\bM w' b {x with rest:=bS x.rest}/\aY b w w':=by
 have d:=pF b x w c h g;clear c;go_enter func121,ntmps121
 go_wp2_with fail
 refine d.mono ?_;rintro a i ⟨rfl,e,f⟩;clear d
 go_wp2
 go_ret;exact⟨ck (by first|rfl|simp),e,f⟩
theorem K9(b:Nat)(x:gB)(w:World)(d:bM w b x)(m:x.rest.length<=65536)(l:eJ x.rest):
 Calls prog 120 #[.pointer (some ⟨b,0,none⟩)] w fun a w'=>a=.returned (.bool (cH (ct x.rest)))/\bM w' b {x with rest:=bS x.rest,name:=ct x.rest}/\aY b w w':=by
 have g:=pF b x w d m l;have p:=pD x.rest;have f:=fun w=>m9 ⟨(ct x.rest).toArray⟩ w (by rw[iQ];omega);clear d;go_enter func120,ntmps120
 go_wp2_with fail
 refine g.mono ?_;rintro a q ⟨rfl,c,i⟩;clear g;have o:=c.free 1;have n:=c.c1;have h:=c.name (ct x.rest);have j:=lE i 1 (.string ⟨(ct x.rest).toArray⟩);go_wp2_with fail
 refine(f _).mono ?_;rintro a r ⟨rfl,e⟩;clear f
 go_wp2
 go_ret;exact⟨rfl,h.below e,j.trans (aY.of e)⟩
theorem La(b:Nat)(x:gB)(w:World)(d:bM w b x)(m:x.rest.length<=65536)(l:eJ x.rest):
 Calls prog 122 #[.pointer (some ⟨b,0,none⟩)] w fun a w'=>a=.returned (.bool (cH (ct x.rest)))/\bM w' b {x with rest:=bS x.rest,label:=ct x.rest}/\aY b w w':=by
 have g:=pF b x w d m l;have p:=pD x.rest;have f:=fun w=>m9 ⟨(ct x.rest).toArray⟩ w (by rw[iQ];omega);clear d;go_enter func122,ntmps122
 go_wp2_with fail
 refine g.mono ?_;rintro a q ⟨rfl,c,i⟩;clear g;have o:=c.free 2;have n:=c.c2;have h:=c.label (ct x.rest);have j:=lE i 2 (.string ⟨(ct x.rest).toArray⟩);go_wp2_with fail
 refine(f _).mono ?_;rintro a r ⟨rfl,e⟩;clear f
 go_wp2
 go_ret;exact⟨rfl,h.below e,j.trans (aY.of e)⟩
def Lb(a:Option (Bytes×Bytes))(x:gB)(b:Nat)(w:World)(c:Ending)(w':World):Prop:=
 c=.returned (.bool a.isSome)/\(∃y:gB,bM w' b y/\∀k q,a=some (k,q)->x.key=[]->y={x with rest:=q,key:=k})/\aY b w w'
theorem Lc(b:Nat)(x:gB)(w:World)(n:bM w b x)(A:x.rest.length<=65536)(r:eJ x.rest):
 Calls prog 124 #[.pointer (some ⟨b,0,none⟩)] w (Lb (nu x.rest) x b w):=by
 have g:=pF b x w n A r;have u:=n.c0;obtain⟨C,a⟩:=ar (nu x.rest);rw[<-a];unfold nu at a;by_cases f:ct x.rest=yz
 ·have i:=fun p d=>Dv b {x with rest:=bS x.rest} p d (by have:=jN x.rest;show(bS x.rest).length<=_;omega) r.rest
  rw[ay f]at a;rw[f]at g;unfold yz at g;simp only at i;clear n f;cases o:mp (bS x.rest)with
  |true=>
   rw[o]at i a;have e:=ah a;clear o a;go_enter func124,ntmps124
   go_wp2_with fail
   refine g.mono ?_;rintro m p ⟨rfl,d,j⟩;clear g;have l:=i _ d;clear i;go_wp2_with fail
   refine l.mono ?_;rintro m B ⟨rfl,h,q⟩;clear l;have s:=h.free 4;have v:=h.c4
   go_wp2
   go_ret;refine⟨by rw[e.o];rfl,⟨_,h.key _,fun k t c _=> ?_⟩,lE (j.trans q) 4 _⟩;rw[e.o]at c;simp only[iG,jY,rE]at c;rw[<-c.1,<-c.2]
  |false=>
   rw[o]at i a;have e:=ah a;clear o a;go_enter func124,ntmps124
   go_wp2_with fail
   refine g.mono ?_;rintro m p ⟨rfl,d,j⟩;clear g;have l:=i _ d;clear i;go_wp2_with fail
   refine l.mono ?_;rintro m B ⟨rfl,h,q⟩;clear l;have s:=h.free 4;have v:=h.c4
   go_wp2
   go_ret;refine⟨by rw[e.o];rfl,⟨_,h.key _,fun k t c _=> ?_⟩,lE (j.trans q) 4 _⟩;rw[e.o]at c;simp at c
 ·rw[au f]at a
  have D:(ct x.rest==[107,101,121])=false:=by rw[eu];exact f
  have e:=ah a;clear n f a;go_enter func124,ntmps124
  go_wp2_with fail
  refine g.mono ?_;rintro m p ⟨rfl,d,j⟩;clear g;have s:=d.free 0;have u:=d.c0
  go_wp2
  go_ret;refine⟨by rw[e.o];rfl,⟨_,d.rest x.rest,fun k t c f=> ?_⟩,lE j 0 _⟩;rw[e.o]at c;simp only[jY,rE]at c;obtain⟨y,z⟩:=c;subst y;subst z;rw[<-f]
structure gZ(b B:Nat)(w w':World):Prop where
 os:w'.os=w.os
 tape:w'.tape=w.tape
 output:w'.output=w.output
 size:w.heap.size<=w'.heap.size
 block:∀k,k<B->k≠b->w'.heap[k]?=w.heap[k]?
theorem gZ.refl(b B:Nat)(w:World):gZ b B w w:=⟨rfl,rfl,rfl,az _,fun _ _ _=>rfl⟩
theorem gZ.trans{b B:Nat}{a c d:World}(e:gZ b B a c)(k:gZ b B c d):gZ b B a d:=
 ⟨k.os.trans e.os,k.tape.trans e.tape,k.output.trans e.output,aJ e.size k.size,fun i g f=>(k.block i g f).trans (e.block i g f)⟩
theorem aY.far{b B:Nat}{w w':World}(a:aY b w w')(d:B<=w.heap.size):gZ b B w w':=⟨a.os,a.tape,a.output,a.size,fun k e c=>a.block k ad c⟩
theorem Ld{b B:Nat}{w w':World}{row:Option Nat}(a:w.grownBy w' row)(e:B<=w.heap.size)(d:∀k,row=some k->B<=k):gZ b B w w':=
 ⟨a.os,a.tape,a.output,a.size,fun k g f=>a.block k ad (fun c=>by have:=d k c.symm;omega)⟩
theorem gZ.below{b B C:Nat}{w w':World}(a:gZ b B w w')(d:C<=b)(c:C<=B)(f:C<=w.heap.size):Below C w w':=⟨a.os,a.tape,a.output,a.size,fun k e=>a.block k ad ad⟩
theorem Le{b:Bytes}{c:UInt8}{t:Bytes}(a:aW b=c::t):eT c=false:=by unfold aW at a;have:=List.head?_dropWhile_not eT b;rw[a]at this;simpa using this
theorem Dw(a:Bytes):aW (aW a)=aW a:=by
 cases b:aW a with
 |nil=>rfl
 |cons c t=>
  have:=Le b;show List.dropWhile eT (c::t)=_
  rw[IC (by simp[this])]
theorem Lf(a:Bytes):ct (aW a)=ct a:=by unfold ct;rw[Dw]
theorem Lg(a:Bytes):bS (aW a)=bS a:=by unfold bS;rw[Dw]
theorem yQ{b:Bytes}(a:(aW b).head?=some 64):(bS (aW b)).length<b.length:=by
 cases d:aW b with
 |nil=>rw[d]at a;cases a
 |cons c t=>
  rw[d]at a;simp only[List.head?_cons,jY]at a;subst a;have e:=ku b;rw[d]at e;have f:bS (64::t)=t.dropWhile iP:=by unfold bS;rw[show aW (64::t)=64::t from by unfold aW;rw[IC ap],List.dropWhile_cons_of_pos ap]
  rw[f];have:=(uB (l:=t) iP).length_le;simp at e;omega
theorem Lh(l:Bytes)(c:UInt8):(lG l==((c.toNat:Nat):Int))=true->c≠0->l.head?=some c:=by
 intro a b;cases l with
 |nil=>simp[lG]at a;exact absurd (ut.1 (by simpa using a.symm)) b
 |cons d t=>
  simp only[lG,xL]at a;have:d=c:=ut.1 (by exact_mod_cast a);rw[this];rfl
theorem Dx{l:Bytes}{c:UInt8}(b:l.head?≠some c)(d:c≠0):lG l≠((c.toNat:Nat):Int):=fun a=>b (Lh l c (by simpa using a) d)
theorem Dy{l:Bytes}{c:UInt8}(a:l.head?=some c):lG l=((c.toNat:Nat):Int):=by
 cases l with
 |nil=>cases a
 |cons d t=>simp at a;subst a;rfl
theorem Li:(prog.info? 9).map (fun i=>(i.zero,i.size,i.bytes))=some (some (.string ⟨#[]⟩),1,16):=aA
theorem yR{f:Nat}{b:List Bytes}{a:Bytes}(c:(aW a).head?=some 64)(d:mp (aW a)=true):gY (f+1) b a=gY f (b++[mn (aW a)]) (bS (aW a)):=by
 conv=>lhs;unfold gY
 rw[ay c,ay d]
theorem yS{f:Nat}{b:List Bytes}{a:Bytes}(c:(aW a).head?=some 64)(d:mp (aW a)=false):gY (f+1) b a=none:=by unfold gY;rw[ay c,au (by simp[d])]
theorem yT{f:Nat}{b:List Bytes}{a:Bytes}(c:(aW a).head?≠some 64):gY f b a=some (b,aW a):=by
 cases f with
 |zero=>rfl
 |succ f=>unfold gY;rw[au c]
def Lj(a:Option (List Bytes×Bytes))(x:gB)(b B:Nat)(w:World)(c:Ending)(w':World):Prop:=
 c=.returned (.bool a.isSome)/\(∃y:gB,bM w' b y/\∀l q,a=some (l,q)->∃v,y={x with rest:=q,av:=v}/\cn w' B v l)/\gZ b B w w'
theorem Lk(b B:Nat)(x:gB)(w:World)(W:bM w b x)(ab:x.rest.length<=65536)(X:eJ x.rest)(bc:B<=w.heap.size)(h:b<B)(Y:cn w B x.av []):
 Calls prog 123 #[.pointer (some ⟨b,0,none⟩)] w (Lj (gY x.rest.length [] x.rest) x b B w):=by
 obtain⟨al,M⟩:=ar (gY x.rest.length [] x.rest);rw[<-M];have S:=ah M;obtain⟨bb,a5,a8,a9,ba⟩:=cY Li;obtain⟨rest,name,label,av,key,text,nv⟩:=x;simp only at ab X Y;clear M;go_enter func123,ntmps123
 go_wp2
 go_loopg [] rest.length (fun k wr=>∃(g:List Bytes) (v:Value) (e:Bytes) (f:Nat),e.length=k/\k<=f/\k<=65536/\g.length+k<=65536/\bM wr b ⟨e,name,label,v,key,text,nv⟩/\cn wr B v g/\Hid (eJ e)/\gZ b B w wr/\Hid (al=gY f g e))
 case atStart=>exact⟨[],av,rest,rest.length,rfl,az _,ab,aR,W,Y,X,gZ.refl _ _ _,S.o⟩
 case round=>
  obtain⟨g,v,e,f,rfl,bg,aa,be,V,A,C,hF,I⟩:=hrel;clear S W;have o:=yP b ⟨e,name,label,v,key,text,nv⟩ wr V aa;have bo:=ku e;simp only at o;have bt:=hF.size;have i:=I.o;by_cases m:(aW e).head?=some 64
  ·have y:=Dy m
   have a6:=yQ m;obtain⟨f,rfl⟩:∃aq,f=aq+1:=⟨f-1,ad⟩;rw[y,show(((64:UInt8).toNat:Nat):Int)=64 from rfl]at o;have j:=fun K n=>Dv b ⟨aW e,name,label,v,key,text,nv⟩ K n (by show(aW e).length<=_;omega) C.o.next;simp only at j;have T:=ah (C.o.next.rest);obtain⟨ag,af,rfl⟩:=eh A;have bf:b<wr.heap.size:=V.lt;cases h:mp (aW e)with
   |true=>
    rw[yR m h]at i;rw[h]at j;have a4:(mn (aW e)).length<=65536:=by
     have u:=pD (aW e);unfold mn;split
     ·simp
     ·rename_i c t d
      rw[d]at u;simp at u;split<;>simp<;>omega
    generalize mn (aW e)=a at j i a4;generalize bS (aW e)=Q at j i a6 T;have p:=ah i;clear i h m y I C;go_wp2_with fail
    refine o.mono ?_;rintro d K ⟨rfl,n,s⟩;clear o;have F:=j _ n;clear j;go_wp2_with fail
    refine F.mono ?_;rintro d R ⟨rfl,E,J⟩;clear F;have N:=s.trans J;have bq:=N.size;have an:=E.c3;simp only at an;have O:R.ownsRow B 9 1 (.slice ag g.length af) g.length (g.map encStr):=dS A N.grownBy (.inr (fun d=>by have:=(dC A b d).1;omega));clear A n s J;go_wp2_with(first
     |(at_builtin;go_must (refine jh _ rfl _ _ 48 rfl B 9 bb (.string ⟨#[]⟩) 1 16 mT a5 a8 a9 ba rfl ap _ _ _ rfl (f9 O _) ⟨R.heap.size,0,none⟩ 1 1 [.string ⟨a.toArray⟩] rfl rfl (dK _ [.string ⟨a.toArray⟩] _ _ rfl) (fun z ae=>by simp at ae;subst ae;rfl) bI ad aR ?_);intro bu H P Z bl;have L:bM H b ⟨Q,name,label,.slice ag g.length af,key,text,nv⟩:=(Z.block b (by have:=E.lt;simp;omega) (fun d=>by have:=(dC O b d.symm).1;omega)).trans (E.below aG);have bi:=L.free 3;obtain⟨G,D,rfl⟩:=eh P;have ao:=L.c3;simp only at ao)
     |fail)
    have a1:gZ b B w H:=(hF.trans (N.far ad)).trans (Ld (Dj Z) ad (fun k d=>(dC O k d).1));have a3:=L.attrs (.slice G (g.length+1) D);have a7:cn (H.setCell ⟨b,3,none⟩ (.slice G (g.length+1) D)) B (.slice G (g.length+1) D) (g++[a]):=by have u:=dS (row:=some b) (w':=H.setCell ⟨b,3,none⟩ (.slice G (g.length+1) D)) P ⟨rfl,rfl,rfl,by simp[World.setCell],fun k aa h=>fQ _ _ _ _ (fun d=>h (by rw[d]))⟩ (.inr (fun d=>by have:=(dC P b d).1;omega));unfold cn;rw[cR,iH];simpa[encStr]using u
    have a2:gZ b B w (H.setCell ⟨b,3,none⟩ (.slice G (g.length+1) D)):=a1.trans ⟨rfl,rfl,rfl,by simp[World.setCell],fun k _ h=>fQ _ _ _ _ h⟩;go_roundg Q.length
    case rel=>exact⟨g++[a],_,Q,f,rfl,ad,ad,aR,a3,a7,T.o,a2,p.o⟩
    case measure=>omega
   |false=>
    rw[yS m h]at i;rw[h]at j;have p:=ah i;clear i h m y I C;go_wp2_with fail
    refine o.mono ?_;rintro d K ⟨rfl,n,s⟩;clear o;have F:=j _ n;clear j;go_wp2_with fail
    refine F.mono ?_;rintro d R ⟨rfl,E,J⟩;clear F
    go_wp2
    go_ret;exact⟨by rw[p.o];rfl,⟨_,E,fun l q r=>by rw[p.o]at r;cases r⟩,hF.trans ((s.trans J).far ad)⟩
  ·rw[yT m]at i
   have y:=Dx m ap;have bd:(lG (aW e)==64)=false:=by rw[eu];exact y
   have p:=ah i;clear i y m I C;go_wp2_with fail
   refine o.mono ?_;rintro d K ⟨rfl,n,s⟩;clear o
   go_wp2
   go_ret;refine⟨by rw[p.o];rfl,⟨_,n,fun l q r=> ?_⟩,hF.trans (s.far ad)⟩;rw[p.o]at r;injection r with r
   injection r with u a0
   subst u;subst a0;exact⟨v,rfl,dS A s.grownBy (.inr (fun d=>by have:=(dC A b d).1;omega))⟩
theorem Ll(l:Bytes)(c:UInt8):Lib.hasSuffix l [c]=(l.getLast?==some c):=by
 unfold Lib.hasSuffix;rw[iF,List.isSuffixOf_iff_suffix,xL];constructor
 ·rintro⟨t,rfl⟩;simp
 ·intro a
  obtain⟨b,d⟩:=List.getLast?_eq_some_iff.1 a;exact⟨b,d.symm⟩
theorem Lm(l:Bytes)(w:World)(d:l.length<=1048576):Calls prog 184 #[.string ⟨l.toArray⟩,.string ⟨#[125]⟩] w fun a w'=>a=.returned (.tuple #[.string ⟨(if(l.getLast?==some 125)=true then l.dropLast else l).toArray⟩,.bool (l.getLast?==some 125)])/\w'=w:=by refine(strings_CutSuffix ⟨l.toArray⟩ ⟨#[125]⟩ w (by rw[iQ];omega)).mono ?_;rintro a w' ⟨rfl,rfl⟩;refine⟨?_,rfl⟩;have b:(⟨l.toArray⟩:ByteArray).data.toList=l:=rfl;have c:(⟨#[125]⟩:ByteArray).data.toList=[125]:=rfl;rw[b,c];unfold Lib.trimSuffix;rw[Ll,List.dropLast_eq_take];rfl
theorem Dz(l:Bytes):(kq l).length<=l.length:=by unfold kq;rw[List.length_reverse];have:=(uB (l:=l.reverse) eT).length_le;rwa[List.length_reverse]at this
theorem DA(l:Bytes):(lD l).length<=l.length:=by
 have a:=Dz (l.drop 1);rw[ln]at a;unfold lD;split
 ·rw[List.length_dropLast];omega
 ·omega
def Ln(a:Option (Bool×List aj))(x:gB)(b B:Nat)(w:World)(d:Ending)(w':World):Prop:=
 d=.returned (.bool a.isSome)/\(∃y:gB,bM w' b y/\∀t l,a=some (t,l)->x.text=false->x.nv=.slice none 0 0->∃q o c,y={x with rest:=q,text:=t,nv:=.slice o l.length c}/\cj w' B (.slice o l.length c) l)/\aY b w w'
theorem Lo(b B:Nat)(x:gB)(w:World)(bg:bM w b x)(a1:x.rest.length<=65536)(an:eJ x.rest)(bw:B<=w.heap.size)(ao:b<B):
 Calls prog 125 #[.pointer (some ⟨b,0,none⟩)] w (Ln (pA x.rest) x b B w):=by
 obtain⟨E,g⟩:=ar (pA x.rest);rw[<-g];have h:=yP b x w bg a1;have aa:=ku x.rest;obtain⟨rest,name,label,av,key,text,nv⟩:=x;simp only at a1 an h aa g;unfold pA at g;by_cases q:(aW rest).head?=some 123
 ·rw[ay q]at g
  have r:=Dy q;rw[r,show(((123:UInt8).toNat:Nat):Int)=123 from rfl]at h;have bf:1<=(aW rest).length:=by cases a:aW rest with|nil=>rw[a]at q;cases q|cons c t=>simp
  have a7:∀d,(Instr.slice 9 (.string ⟨(aW rest).toArray⟩) (some (.int .i64 1)) none none).run prog d=.ok (.string ⟨((aW rest).drop 1).toArray⟩) d:=fun d=>yO (aW rest) 1 bf d;have Q:=fun d=>KY ((aW rest).drop 1) d (by rw[ln];omega);have a8:=Dz ((aW rest).drop 1);rw[ln]at a8;have C:=fun d=>Lm (kq ((aW rest).drop 1)) d ad;have bo:=DA (aW rest);have aq:((kq ((aW rest).drop 1)).getLast?==some 125)=sC (aW rest):=rfl;rw[aq,show(if sC (aW rest)=true then(kq ((aW rest).drop 1)).dropLast else kq ((aW rest).drop 1))=lD (aW rest)from rfl]at C;have v:=fun d=>KS ⟨(lD (aW rest)).toArray⟩ d (by rw[iQ];omega);rw[show(⟨(lD (aW rest)).toArray⟩:ByteArray).data.toList=lD (aW rest)from rfl]at v;obtain⟨n,J,a5⟩:∃n J,n8 (lD (aW rest))=(n,J):=⟨_,_,rfl⟩;rw[a5]at v g;unfold mu at v;simp only at v g;generalize lD (aW rest)=bC at C v;generalize kq ((aW rest).drop 1)=tr at Q C;generalize sC (aW rest)=be at C g;generalize(aW rest).drop 1=bu at a7 Q;generalize aW rest=a9 at h a7;have y:=ah g;clear g q r aq a5 a8 bo;go_enter func125,ntmps125
  go_wp2_with fail
  refine h.mono ?_;rintro i d ⟨rfl,m,p⟩;have ae:=m.c0;simp only at ae;clear h;go_wp2_with fail
  refine(Q _).mono ?_;rintro i bb ⟨rfl,O⟩;clear Q;go_wp2_with fail
  refine(C _).mono ?_;rintro i bt ⟨rfl,rfl⟩;clear C;have a4:=v bt;clear v ae;go_wp2_with fail
  refine a4.mono ?_;rintro i R ⟨o,c,rfl,a3,A⟩;clear a4;have N:=(p.trans (aY.of O)).trans (aY.of A);have L:=(m.below O).below A;have Z:=(aE R.heap.size R).alloc (az _) (.cells #[.slice o n.length c] 51);have M:=L.below Z;have a0:=M.free 6;have bd:=M.c6;simp only at bd;have al:=N.trans (aY.of Z);have V:=M.nodes (.slice o n.length c);have Y:=lE al 6 (.slice o n.length c);have bq:cj ((R.alloc (.cells #[.slice o n.length c] 51)).setCell ⟨b,6,none⟩ (.slice o n.length c)) B (.slice o n.length c) n:=by have z:=f9 a3 (.cells #[.slice o n.length c] 51);have bB:=(p.trans (aY.of O)).size;refine mr (dS (row:=some b) z ⟨rfl,rfl,rfl,by simp[World.setCell],fun k bz ao=>fQ _ _ _ _ (fun i=>ao (by rw[i]))⟩ (.inr (fun i=>by have:=(dC z b i).1;omega))) ad
  clear m p O A N L Z M al a3;cases be with
  |true=>
   by_cases H:J=0
   ·have e:E=some (false,n):=by rw[y.o,H];rfl
    have f:=ah e;subst H;clear e y
    go_wp2
    go_ret;refine⟨by rw[f.o];rfl,⟨_,V,fun t l a ab _=> ?_⟩,Y⟩;rw[f.o]at a;injection a with a
    injection a with z T
    subst z;subst T;simp only at ab;subst ab;exact⟨_,o,c,rfl,bq⟩
   ·have e:E=none:=by rw[y.o];simp[H]
    have f:=ah e;have bA:(J==0)=false:=by rw[eu];exact H
    clear e y H
    go_wp2
    go_ret;exact⟨by rw[f.o];rfl,⟨_,V,fun t l a=>by rw[f.o]at a;cases a⟩,Y⟩
  |false=>
   have e:E=none:=by rw[y.o];rfl
   have f:=ah e;clear e y
   go_wp2
   go_ret;exact⟨by rw[f.o];rfl,⟨_,V,fun t l a=>by rw[f.o]at a;cases a⟩,Y⟩
 ·rw[au q]at g
  have r:=Dx q ap;have af:(lG (aW rest)==123)=false:=by rw[eu];exact r
  have ag:(lG (aW rest) !=123)=true:=by rw[uj];exact r
  have j:=fun d m=>pF b ⟨aW rest,name,label,av,key,text,nv⟩ d m (by show(aW rest).length<=_;omega) an.next;simp only[Lf,Lg]at j;have a6:=jN rest;have u:=fun d=>yg ⟨(bS rest).toArray⟩ d (by rw[iQ];omega);rw[show iJ kf (⟨(bS rest).toArray⟩:ByteArray).data.toList=(bS rest).all eT from rfl]at u;by_cases D:ct rest=yC
  ·rw[D]at j
   unfold yC at j;have e:E=if(bS rest).all eT=true then some (true,[])else none:=by
    rw[g];by_cases P:(bS rest).all eT=true
    ·rw[ay ⟨D,P⟩,ay P]
    ·rw[au (fun a=>P a.2),au P]
   generalize bS rest=ba at j u e;generalize lG (aW rest)=bl at h af ag;generalize aW rest=a9 at h j;generalize ba.all eT=bc at u e;have f:=ah e;clear g e q r D a6 aa;go_enter func125,ntmps125
   go_wp2_with fail
   refine h.mono ?_;rintro i d ⟨rfl,m,p⟩;clear h;have I:=j _ m;clear j;go_wp2_with fail
   refine I.mono ?_;rintro i bb ⟨rfl,s,G⟩;clear I;have a0:=s.free 5;have S:=s.c5;simp only at S;have F:=p.trans G;have K:=s.text true;have X:=lE F 5 (.bool true);have d0:=K.c0;simp only at d0;clear m p G F;go_wp2_with fail
   refine(u _).mono ?_;rintro i R ⟨rfl,A⟩;clear u;have L:=K.below A;have N:=X.trans (aY.of A)
   go_wp2
   go_ret;refine⟨?_,⟨_,L,fun t l a ab a2=> ?_⟩,N⟩
   ·rw[f.o];cases bc<;>rfl
   ·rw[f.o]at a
    split at a
    ·injection a with a
     injection a with z T
     subst z;subst T;simp only at a2;subst a2;exact⟨_,none,0,rfl,dc _ _ _ _⟩
    ·cases a
  ·have e:E=none:=by rw[g,au (fun a=>D a.1)]
   have bi:(ct rest==[116,101,120,116])=false:=by rw[eu];exact D
   generalize ct rest=W at j bi;generalize bS rest=ba at j u;generalize lG (aW rest)=bl at h af ag;generalize aW rest=a9 at h j;have f:=ah e;clear g e q r D a6 aa u;go_enter func125,ntmps125
   go_wp2_with fail
   refine h.mono ?_;rintro i d ⟨rfl,m,p⟩;clear h;have I:=j _ m;clear j;go_wp2_with fail
   refine I.mono ?_;rintro i bb ⟨rfl,s,G⟩;clear I;have a0:=s.free 5;have S:=s.c5;simp only at S;have F:=p.trans G;have K:=s.text false;have X:=lE F 5 (.bool false);clear m p G F
   go_wp2
   go_ret;exact⟨by rw[f.o];rfl,⟨_,K,fun t l a=>by rw[f.o]at a;cases a⟩,X⟩
structure PL where
 rest:Bytes
 name:Bytes
 label:Bytes
 attrs:List Bytes
 key:Bytes
 text:Bool
 nodes:List aj
def yW(p:PL):Option aw:=some ⟨p.name,p.label,p.attrs,p.key,p.text,p.nodes⟩
def pH(p:PL):Option aw:=match pA p.rest with|none=>none|some (t,a)=>yW {p with text:=t,nodes:=a}
def pI(p:PL):Option aw:=match nu p.rest with|none=>none|some (k,a)=>pH {p with key:=k,rest:=a}
def pJ(p:PL):Option aw:=match gY p.rest.length [] p.rest with|none=>none|some (l,a)=>pI {p with attrs:=l,rest:=a}
def pK(p:PL):Option aw:=if cH (ct p.rest)=false then none else pJ {p with label:=ct p.rest,rest:=bS p.rest}
def pL(p:PL):Option aw:=if ct p.rest≠[61]then none else pK {p with rest:=bS p.rest}
def pM(p:PL):Option aw:=if cH (ct p.rest)=false then none else pL {p with name:=ct p.rest,rest:=bS p.rest}
def sI(p:PL):Option aw:=if ct p.rest≠vu then none else pM {p with rest:=bS p.rest}
def qF:Nat->PL->Option aw
 |0=>sI
 |1=>pM
 |2=>pL
 |3=>pK
 |4=>pJ
 |5=>pI
 |6=>pH
 |_=>yW
theorem Lp(s:Bytes):nw s=qF 0 ⟨s,[],[],[],[],false,[]⟩:=rfl
def qG:Nat->Nat
 |0=>119
 |1=>120
 |2=>121
 |3=>122
 |4=>123
 |5=>124
 |_=>125
theorem Lq(k:Nat)(b:k<7):∀args a,(callFunc (qG k) args).run prog a=.ok (.enter (qG k) args) a:=by
 obtain rfl|rfl|rfl|rfl|rfl|rfl|rfl:k=0∨k=1∨k=2∨k=3∨k=4∨k=5∨k=6:=ad
 all_goals exact fun _ _=>rfl
structure vH(b B:Nat)(w0:World)(k:Nat)(p:PL)(w:World):Prop where
 ex:∃y:gB,bM w b y/\y.name=p.name/\y.label=p.label/\y.key=p.key/\y.text=p.text/\cn w B y.av p.attrs/\cj w B y.nv p.nodes/\(k<=6->y.rest=p.rest/\y.text=false/\y.nv=.slice none 0 0)
 asc:k<=6->eJ p.rest/\p.rest.length<=65536
 none4:k<=4->p.attrs=[]
 none5:k<=5->p.key=[]
 none6:k<=6->p.nodes=[]/\p.text=false
 far:gZ b B w0 w
 bB:b<B
 size:B<=w.heap.size
def DB(b B:Nat)(w0:World)(k:Nat)(p:PL)(c:Ending)(w':World):Prop:=
 ∃ok,c=.returned (.bool ok)/\(ok=false->qF k p=none/\gZ b B w0 w')/\(ok=true->∃a,qF k p=qF (k+1) a/\vH b B w0 (k+1) a w')
theorem qH{b B:Nat}{w w':World}{v:Value}{l:List Bytes}(a:cn w B v l)(d:aY b w w')(e:b<B):cn w' B v l:=dS a d.grownBy (.inr (fun c=>by have:=(dC a b c).1;omega))
theorem sJ{b B:Nat}{w w':World}{v:Value}{l:List aj}(a:cj w B v l)(d:aY b w w')(e:b<B):cj w' B v l:=dS a d.grownBy (.inr (fun c=>by have:=(dC a b c).1;omega))
theorem eJ.attrs{l d:Bytes}{f:Nat}{e q:List Bytes}(c:eJ l)(a:gY f e l=some (q,d)):eJ d/\d.length<=l.length:=by
 induction f generalizing e l with
 |zero=>simp[gY]at a;rw[<-a.2];exact⟨c.next,ku l⟩
 |succ f ih=>
  by_cases b:(aW l).head?=some 64
  ·cases h:mp (aW l)with
   |true=>
    rw[yR b h]at a;have:=ih c.next.rest a;exact⟨this.1,by have g:=yQ b;omega⟩
   |false=>rw[yS b h]at a;cases a
  ·rw[yT b]at a
   injection a with a
   injection a with _ g
   rw[<-g];exact⟨c.next,ku l⟩
theorem eJ.key{l c k:Bytes}(d:eJ l)(a:nu l=some (k,c)):eJ c/\c.length<=l.length:=by
 unfold nu at a;split at a
 ·split at a
  ·injection a with a
   injection a with _ b
   rw[<-b];exact⟨d.rest.rest,aJ (jN _) (jN _)⟩
  ·cases a
 ·injection a with a
  injection a with _ b
  rw[<-b];exact⟨d,az _⟩
theorem Lr(b B:Nat)(w0:World)(k:Nat)(V:k<7)(p:PL)(w:World)(a:vH b B w0 k p w):
 Calls prog (qG k) #[.pointer (some ⟨b,0,none⟩)] w (DB b B w0 k p):=by
 obtain⟨y,s,I,H,A,J,n,L,P⟩:=a.ex;obtain⟨h,C,m⟩:=P ad;obtain⟨x,K⟩:=a.asc ad;have g:=a.bB;have f:=a.size;have r:eJ y.rest:=by rw[h];exact x
 have E:y.rest.length<=65536:=by rw[h];exact K
 obtain⟨Q,W⟩:=a.none6 ad;obtain rfl|rfl|rfl|rfl|rfl|rfl|rfl:k=0∨k=1∨k=2∨k=3∨k=4∨k=5∨k=6:=ad
 ·refine(su b y w s E r).mono ?_
  rintro G w' ⟨rfl,u,e⟩;refine⟨_,rfl,fun d=>⟨?_,a.far.trans (e.far f)⟩,fun d=>⟨{p with rest:=bS p.rest},?_,?_⟩⟩
  ·show sI p=none
   unfold sI;rw[ay (by rw[h]at d;simpa using d)]
  ·show sI p=pM _
   unfold sI;rw[au (by rw[h]at d;simpa using d)]
  ·exact⟨⟨_,u,I,H,A,J,qH n e g,sJ L e g,fun _=>⟨by show bS y.rest=_;rw[h],C,m⟩⟩,fun _=>⟨x.rest,aJ (jN _) K⟩,fun _=>a.none4 (by omega),fun _=>a.none5 ad,fun _=>a.none6 ad,a.far.trans (e.far f),g,aJ f e.size⟩
 ·refine(K9 b y w s E r).mono ?_
  rintro G w' ⟨rfl,u,e⟩;refine⟨_,rfl,fun d=>⟨?_,a.far.trans (e.far f)⟩,fun d=>⟨{p with name:=ct p.rest,rest:=bS p.rest},?_,?_⟩⟩
  ·show pM p=none
   unfold pM;rw[ay (by rw[h]at d;exact d)]
  ·show pM p=pL _
   unfold pM;rw[au (by rw[h]at d;rw[d];simp)]
  ·exact⟨⟨_,u,by show ct y.rest=_;rw[h],H,A,J,qH n e g,sJ L e g,fun _=>⟨by show bS y.rest=_;rw[h],C,m⟩⟩,fun _=>⟨x.rest,aJ (jN _) K⟩,fun _=>a.none4 (by omega),fun _=>a.none5 ad,fun _=>a.none6 ad,a.far.trans (e.far f),g,aJ f e.size⟩
 ·refine(K8 b y w s E r).mono ?_
  rintro G w' ⟨rfl,u,e⟩;refine⟨_,rfl,fun d=>⟨?_,a.far.trans (e.far f)⟩,fun d=>⟨{p with rest:=bS p.rest},?_,?_⟩⟩
  ·show pL p=none
   unfold pL;rw[ay (by rw[h]at d;simpa using d)]
  ·show pL p=pK _
   unfold pL;rw[au (by rw[h]at d;simpa using d)]
  ·exact⟨⟨_,u,I,H,A,J,qH n e g,sJ L e g,fun _=>⟨by show bS y.rest=_;rw[h],C,m⟩⟩,fun _=>⟨x.rest,aJ (jN _) K⟩,fun _=>a.none4 (by omega),fun _=>a.none5 ad,fun _=>a.none6 ad,a.far.trans (e.far f),g,aJ f e.size⟩
 ·refine(La b y w s E r).mono ?_
  rintro G w' ⟨rfl,u,e⟩;refine⟨_,rfl,fun d=>⟨?_,a.far.trans (e.far f)⟩,fun d=>⟨{p with label:=ct p.rest,rest:=bS p.rest},?_,?_⟩⟩
  ·show pK p=none
   unfold pK;rw[ay (by rw[h]at d;exact d)]
  ·show pK p=pJ _
   unfold pK;rw[au (by rw[h]at d;rw[d];simp)]
  ·exact⟨⟨_,u,I,by show ct y.rest=_;rw[h],A,J,qH n e g,sJ L e g,fun _=>⟨by show bS y.rest=_;rw[h],C,m⟩⟩,fun _=>⟨x.rest,aJ (jN _) K⟩,fun _=>a.none4 (by omega),fun _=>a.none5 ad,fun _=>a.none6 ad,a.far.trans (e.far f),g,aJ f e.size⟩
 ·have R:=a.none4 ad
  rw[R]at n;refine(Lk b B y w s E r f g n).mono ?_;rintro G w' ⟨rfl,⟨z,M,j⟩,hF⟩;rw[h]at j⊢;cases i:gY p.rest.length [] p.rest with
  |none=>
   refine⟨_,rfl,fun _=>⟨?_,a.far.trans hF⟩,fun d=>by simp at d⟩;show pJ p=none
   unfold pJ;rw[i]
  |some q=>
   obtain⟨l,F⟩:=q;refine⟨_,rfl,fun d=>by simp at d,fun _=>⟨{p with attrs:=l,rest:=F},?_,?_⟩⟩
   ·show pJ p=pI _
    unfold pJ;rw[i]
   ·obtain⟨v,rfl,T⟩:=j l F i
    have N:=x.attrs i;refine⟨⟨_,M,I,H,A,J,T,?_,fun _=>⟨rfl,C,m⟩⟩,fun _=>⟨N.1,by show F.length<=_;omega⟩,fun D=>by omega,fun _=>a.none5 ad,fun _=>a.none6 ad,a.far.trans hF,g,aJ f hF.size⟩;show cj w' B y.nv p.nodes
    rw[m,Q];exact dc _ _ _ _
 ·refine(Lc b y w s E r).mono ?_
  rintro G w' ⟨rfl,⟨z,M,j⟩,e⟩;rw[h]at j⊢;cases i:nu p.rest with
  |none=>
   refine⟨_,rfl,fun _=>⟨?_,a.far.trans (e.far f)⟩,fun d=>by simp at d⟩;show pI p=none
   unfold pI;rw[i]
  |some q=>
   obtain⟨O,F⟩:=q;refine⟨_,rfl,fun d=>by simp at d,fun _=>⟨{p with key:=O,rest:=F},?_,?_⟩⟩
   ·show pI p=pH _
    unfold pI;rw[i]
   ·have:=j O F i (by rw[A];exact a.none5 ad)
    subst this;have N:=x.key i;exact⟨⟨_,M,I,H,rfl,J,qH n e g,sJ L e g,fun _=>⟨rfl,C,m⟩⟩,fun _=>⟨N.1,by show F.length<=_;omega⟩,fun D=>by omega,fun D=>ad,fun _=>a.none6 ad,a.far.trans (e.far f),g,aJ f e.size⟩
 ·refine(Lo b B y w s E r f g).mono ?_
  rintro G w' ⟨rfl,⟨z,M,j⟩,e⟩;rw[h]at j⊢;cases i:pA p.rest with
  |none=>
   refine⟨_,rfl,fun _=>⟨?_,a.far.trans (e.far f)⟩,fun d=>by simp at d⟩;show pH p=none
   unfold pH;rw[i]
  |some q=>
   obtain⟨t,l⟩:=q;refine⟨_,rfl,fun d=>by simp at d,fun _=>⟨{p with text:=t,nodes:=l},?_,?_⟩⟩
   ·show pH p=yW _
    unfold pH;rw[i]
   ·obtain⟨q,o,c,rfl,S⟩:=j t l i C m
    exact⟨⟨_,M,I,H,A,rfl,qH n e g,S,fun D=>ad⟩,fun D=>ad,fun D=>ad,fun D=>ad,fun D=>ad,a.far.trans (e.far f),g,aJ f e.size⟩
end Go.Proofs.YtnadadbndcdolaaGreatDoor
