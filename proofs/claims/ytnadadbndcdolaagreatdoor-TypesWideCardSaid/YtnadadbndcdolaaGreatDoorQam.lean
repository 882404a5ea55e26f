import Derived.Test.YtnadadbndcdolaaGreatDoorQai
import Derived.Test.YtnadadbndcdolaaGreatDoorQal
set_option linter.unusedVariables false
set_option linter.unusedSimpArgs false
set_option maxRecDepth 100000
set_option maxHeartbeats 0
namespace Go.Proofs.YtnadadbndcdolaaGreatDoor
open Go.RowKit Tryz
theorem eF.below{w w':World}{M:Nat}{ts:List aw}(b:eF w M ts)(a:Below w.heap.size w w'):eF w' M ts:=
 b.kept (row:=none) ⟨a.os,a.tape,a.output,a.size,fun k c _=>a.block k c⟩ ak
structure dI(l:List am):Prop where
 len:l.length<=1048576
 name:∀x∈l,x.t.name.length<=1048576
 label:∀x∈l,x.t.label.length<=1048576
 key:∀x∈l,x.t.key.length<=1048576
 attrs:∀x∈l,x.t.attrs.length<=1048576
 attr:∀x∈l,∀a∈x.t.attrs,a.length<=1048576
 sym:∀x∈l,∀n∈x.t.nodes,n.sym.length<=1048576
structure lz(w:World)(S P T M:Nat)(o:Option Addr)(cap:Nat)(l:List am):Prop where
 s:w.heap[S]?=some (.cells #[.slice o l.length cap] 24 (0,0))
 p:w.heap[P]?=some (.cells #[.map (some M)] 74 (0,0))
 t:w.heap[T]?=some (.cells #[.func (.func 74) #[] #[]] 153 (0,0))
 types:bR w o cap l
 places:eF w M (l.map am.t)
 mlt:M<w.heap.size
theorem lz.below{w w':World}{S P T M:Nat}{o:Option Addr}{cap:Nat}{l:List am}(a:lz w S P T M o cap l)(b:Below w.heap.size w w'):lz w' S P T M o cap l:=
 ⟨(b.block S (aU a.s)).trans a.s,(b.block P (aU a.p)).trans a.p,(b.block T (aU a.t)).trans a.t,a.types.below b,a.places.below b,by have:=b.size;have:=a.mlt;omega⟩
theorem uX(a:Int)(w:World):Calls prog 74 #[.int .i64 a,.bool true] w fun b w'=>b=.returned (.int .i64 a)/\w=w':=by
 go_enter func74,ntmps74
 go_wp2
 go_ret;exact⟨rfl,rfl⟩
theorem uY(a:Int)(w:World):Calls prog 74 #[.int .i64 a,.bool false] w fun b w'=>b=.returned (.int .i64 0)/\w=w':=by
 go_enter func74,ntmps74
 go_wp2
 go_ret;exact⟨rfl,rfl⟩
theorem uZ:∀args a,(callFunc 74 args).run prog a=.ok (.enter 74 args) a:=fun _ _=>rfl
theorem JG{w:World}{S P T M:Nat}{o:Option Addr}{cap:Nat}{l:List am}(b:lz w S P T M o cap l)(h:l.length<=1048576):
 Calls prog 78 #[.pointer (some ⟨T,0,none⟩),.pointer (some ⟨S,0,none⟩)] w fun a w'=>a=.returned (.int .i64 (if 64<l.length then 17 else 0))/\w=w':=by
 have e:=bs w S 0 _ _ _ b.s;have f:=bs w T 0 _ _ _ b.t;have g:=uZ;clear b;by_cases c:64<l.length
 ·have d:decide ((l.length:Int)>64)=true:=bQ
  rw[ay c];go_enter func78,ntmps78
  go_wp2_with fail
  refine(uX _ _).mono ?_;rintro a w' ⟨rfl,rfl⟩
  go_wp2
  go_ret;exact⟨rfl,rfl⟩
 ·have d:decide ((l.length:Int)>64)=false:=bK
  rw[au c];go_enter func78,ntmps78
  go_wp2_with fail
  refine(uY _ _).mono ?_;rintro a w' ⟨rfl,rfl⟩
  go_wp2
  go_ret;exact⟨rfl,rfl⟩
theorem JH{w:World}{S P T M:Nat}{o:Option Addr}{cap:Nat}{l:List am}(c:lz w S P T M o cap l)(i:l.length<=1048576):
 Calls prog 79 #[.pointer (some ⟨T,0,none⟩),.pointer (some ⟨S,0,none⟩)] w fun b w'=>b=.returned (.int .i64 (if l.length=0 then 18 else 0))/\w=w':=by
 have f:=bs w S 0 _ _ _ c.s;have g:=bs w T 0 _ _ _ c.t;have h:=uZ;clear c;by_cases a:l.length=0
 ·have d:((l.length:Int)==0)=true:=va
  rw[ay a];have e:=ah a;clear a;go_enter func79,ntmps79
  go_wp2_with fail
  refine(uX _ _).mono ?_;rintro b w' ⟨rfl,rfl⟩
  go_wp2
  go_ret;exact⟨rfl,rfl⟩
 ·have d:((l.length:Int)==0)=false:=gK
  rw[au a];go_enter func79,ntmps79
  go_wp2_with fail
  refine(uY _ _).mono ?_;rintro b w' ⟨rfl,rfl⟩
  go_wp2
  go_ret;exact⟨rfl,rfl⟩
def iL(t:aw):Bool:=t.text&&(!t.nodes.isEmpty|| !t.key.isEmpty)
theorem JI{a:Type}(l:List a):l.isEmpty=decide (l.length=0):=by cases l<;>simp
theorem JJ(x:am)(w:World):Calls prog 83 #[dT x] w fun f w'=>f=.returned (.bool (iL x.t))/\Below w.heap.size w w':=by
 obtain⟨l,a⟩:=ar (iL x.t);rw[<-a];unfold iL at a;obtain⟨⟨name,label,attrs,key,text,nodes⟩,g,ac,no,j⟩:=x;unfold dT typeRow;simp only at a⊢;cases text with
 |false=>
  rw[um]at a;have b:=ah a;clear a;go_enter A5,A6
  go_wp2
  go_ret;exact⟨ck b.o.symm,aG⟩
 |true=>
  rw[rJ,JI]at a;by_cases d:nodes.length=0
  ·rw[lm d,A7,Ba]at a
   obtain rfl:=qi d;cases e:key with
   |nil=>
    rw[e]at a;have b:=ah a;clear a d e;go_enter A5,A6
    go_wp2
    go_ret;exact⟨ck b.o.symm,aG⟩
   |cons c t=>
    rw[e]at a;have b:=ah a;clear a d e;go_enter A5,A6
    go_wp2
    go_ret;exact⟨ck b.o.symm,aG⟩
  ·rw[l6 d,Bb,Bool.true_or]at a
   have b:=ah a;generalize nodes.length=m at d;have i:0<m:=ad;have h:decide ((m:Int)>0)=true:=bQ;clear a d;go_enter A5,A6
   go_wp2
   go_ret;exact⟨ck b.o.symm,aG⟩
theorem JK(s:ByteArray)(w:World)(c:s.size<=9223372036854775807):Calls prog 154 #[.string s] w fun a w'=>a=.returned (.bool (!cH s.data.toList))/\Below w.heap.size w w':=by
 go_enter func154,ntmps154
 go_wp2_with fail
 refine(m9 s _ c).mono ?_;rintro a w' ⟨rfl,b⟩
 go_wp2
 go_ret;exact⟨rfl,b⟩
theorem CD:∀args a,(callFunc 154 args).run prog a=.ok (.enter 154 args) a:=fun _ _=>rfl
theorem vd(a:Bytes)(w:World)(c:a.length<=1048576):Calls prog 154 #[.string ⟨a.toArray⟩] w fun b w'=>b=.returned (.bool (!cH a))/\Below w.heap.size w w':=
 JK ⟨a.toArray⟩ w (by rw[dV];show a.length<=_;omega)
theorem JL(x:am)(w:World)(z:dZ w x.ao x.ac x.t.attrs)(L:x.t.name.length<=1048576)(M:x.t.label.length<=1048576)(N:x.t.key.length<=1048576)(O:x.t.attrs.length<=1048576)(P:∀a∈x.t.attrs,a.length<=1048576):
 Calls prog 80 #[dT x] w fun g w'=>g=.returned (.bool (kK x.t))/\Below w.heap.size w w':=by
 obtain⟨v,i⟩:=ar (kK x.t);rw[<-i];unfold kK at i;obtain⟨⟨name,label,attrs,key,text,nodes⟩,n,ac,no,D⟩:=x;unfold dT typeRow;simp only at i z L M N O P⊢;have W:=fun w=>vd name w L;have Y:=fun w=>vd label w M;have an:=fun w=>vd key w N;have J:=fun w' (af:Below w.heap.size w w')=>Cz (F:=154) (caps:=#[]) (q:=fun a=> !cH a) attrs n ac w' (z.below af) O CD (fun a ae l o=>vd a l (P a ae));have aq:=CD;have Q:Below w.heap.size w (w.alloc (.cells #[.string ⟨name.toArray⟩,.string ⟨label.toArray⟩,.slice n attrs.length ac,.string ⟨key.toArray⟩,.bool text,.slice no nodes.length D] 53)):=aG;have R:=aB w (.cells #[.string ⟨name.toArray⟩,.string ⟨label.toArray⟩,.slice n attrs.length ac,.string ⟨key.toArray⟩,.bool text,.slice no nodes.length D] 53);have S:w.heap.size<(w.alloc (.cells #[.string ⟨name.toArray⟩,.string ⟨label.toArray⟩,.slice n attrs.length ac,.string ⟨key.toArray⟩,.bool text,.slice no nodes.length D] 53)).heap.size:=ak;have X:=ah (And.intro Q (And.intro R S));clear Q R S;have m:=ah i;clear i z;go_enter func80,ntmps80
 go_wp2_with fail
 refine(W _).mono ?_;rintro g l ⟨rfl,o⟩;have C:=X.out.1.trans (o.mono X.out.1.size);have e:=(o.block w.heap.size X.out.2.2).trans X.out.2.1;have T:=aU e;have Z:=bs l w.heap.size 1 _ _ _ e;have aa:=bs l w.heap.size 2 _ _ _ e;have ab:=bs l w.heap.size 3 _ _ _ e;clear W X o;cases s:cH name with
 |false=>
  have b:v=true:=by rw[m.o,s];rfl
  have d:=ah b;clear b s e
  go_wp2
  go_ret;exact⟨ck d.o.symm,C⟩
 |true=>
  obtain⟨y,H⟩:=aD s e;clear s e;go_wp2_with fail
  refine(Y _).mono ?_;rintro g E ⟨rfl,A⟩;have p:=C.trans (A.mono C.size);have f:=(A.block w.heap.size T).trans H.o;have V:=aU f;have d2:=bs E w.heap.size 2 _ _ _ f;have d3:=bs E w.heap.size 3 _ _ _ f;clear Y A Z aa ab H T;cases u:cH label with
  |false=>
   have b:v=true:=by rw[m.o,u,y.o];rfl
   have d:=ah b;clear b u f
   go_wp2
   go_ret;exact⟨ck d.o.symm,p⟩
  |true=>
   obtain⟨G,I⟩:=aD u f;have K:=J E p;clear u f J;go_wp2_with fail
   refine K.mono ?_;rintro g ao ⟨rfl,B⟩;have r:=p.trans (B.mono p.size);have j:=(B.block w.heap.size V).trans I.o;have av:=aU j;have f3:=bs ao w.heap.size 3 _ _ _ j;clear K B d2 d3 I V;cases h:attrs.any (fun a=> !cH a)with
   |true=>
    have b:v=true:=by rw[m.o,h,G.o,y.o];rfl
    have d:=ah b;clear b h j
    go_wp2
    go_ret;exact⟨ck d.o.symm,r⟩
   |false=>
    have b:v=(!key.isEmpty&& !cH key):=by rw[m.o,h,G.o,y.o];rfl
    cases key with
    |nil=>
     have d:=ah b;clear b h j
     go_wp2
     go_ret;exact⟨ck d.o.symm,r⟩
    |cons c t=>
     have d:=ah b;clear b h j;go_wp2_with fail
     refine(an _).mono ?_;rintro g a0 ⟨rfl,ag⟩;have al:=r.trans (ag.mono r.size)
     go_wp2
     go_ret;exact⟨ck d.o.symm,al⟩
theorem gh{B:Nat}{w w':World}(a:Below B w w')(n:Nat):Below B w (w'.drewN n):=⟨a.os,a.tape,a.output,a.size,a.block⟩
theorem CE(x y:Bytes):∀a:List Bytes,ej (a++[x,y])=(ej (a++[x])||bP y x)
 |[]=>by simp[ej]
 |[c]=>by simp[ej]
 |c::d::t=>by have:=CE x y (d::t);simp only[jf,ej]at this⊢;rw[this,Bool.or_assoc]
theorem CF(b:List Bytes):∀a:List Bytes,ej a=true->ej (a++b)=true
 |[],e=>by simp[ej]at e
 |[c],e=>by simp[ej]at e
 |c::d::t,e=>by
  have:=CF b (d::t);simp only[jf,ej,di]at this e⊢;rcases e with e|e
  ·exact .inl e
  ·exact .inr (this e)
theorem JM{l:List Bytes}{k:Nat}{x y:Bytes}(c:l[k]?=some x)(d:l[k+1]?=some y):ej (l.take (k+2))=(ej (l.take (k+1))||bP y x):=by
 have a:l.take (k+1)=l.take k++[x]:=by rw[bV,c];rfl
 have b:l.take (k+2)=l.take k++[x,y]:=by rw[show k+2=(k+1)+1 from rfl,bV,d,a];simp
 rw[a,b,CE]
theorem ve(x y:Bytes):Op.bytesLess x y= !bP y x:=by rw[Go.Proofs.bytesLess_eq];unfold bP;rw[iF];simp
theorem JN(x:am)(w:World)(g:dZ w x.ao x.ac x.t.attrs)(G:x.t.attrs.length<=1048576):
 Calls prog 82 #[dT x] w fun e w'=>e=.returned (.bool (ej x.t.attrs))/\Below w.heap.size w w':=by
 obtain⟨C,j⟩:=ar (ej x.t.attrs);rw[<-j];have I:=g.2.1;have A:=g.2.2.1;unfold maxLen at A;obtain⟨⟨name,label,attrs,key,text,nodes⟩,q,ac,no,r⟩:=x;unfold dT typeRow;simp only at j g G I A⊢;have z:Below w.heap.size w (w.alloc (.cells #[.string ⟨name.toArray⟩,.string ⟨label.toArray⟩,.slice q attrs.length ac,.string ⟨key.toArray⟩,.bool text,.slice no nodes.length r] 53)):=aG;have d:=aB w (.cells #[.string ⟨name.toArray⟩,.string ⟨label.toArray⟩,.slice q attrs.length ac,.string ⟨key.toArray⟩,.bool text,.slice no nodes.length r] 53);obtain⟨X,v⟩:=aD (And.intro z d) j;clear z d j;go_enter func82,ntmps82
 go_wp2
 go_loopw [3] (fun i wr=>∃k:Nat,i=.int .i64 ((k:Int)+1)/\(k+1<=attrs.length∨k=0)/\wr.heap[w.heap.size]?=some (.cells #[.string ⟨name.toArray⟩,.string ⟨label.toArray⟩,.slice q attrs.length ac,.string ⟨key.toArray⟩,.bool text,.slice no nodes.length r] 53 (0,0))/\Below w.heap.size w wr/\Hid (ej (attrs.take (k+1))=false)) (fun i _=>attrs.length-(intOf i).toNat)
 case atStart=>
  refine⟨0,rfl,.inr rfl,X.out.2,X.out.1,?_⟩;show _=_
  cases attrs with
  |nil=>rfl
  |cons c t=>simp[ej]
 case round=>
  obtain⟨k,rfl,R,d,h,u⟩:=hrel;clear X;have O:=bs wr w.heap.size 2 _ _ _ d;have D:=ah d;clear d;by_cases J:k+1<attrs.length
  ·have H:decide ((k:Int)+1<(attrs.length:Int))=true:=bQ
   have K:(0:Int)<=k:=ad;have L:(k:Int)<attrs.length:=ad;have M:(0:Int)<=k+1:=ad;have N:(k:Int)+1<(attrs.length:Int):=ad;obtain⟨x,m⟩:∃n,attrs[k]?=some n:=⟨_,aH ad⟩;obtain⟨y,o⟩:∃n,attrs[k+1]?=some n:=⟨_,aH J⟩;have a:=JM m o;rw[u.o,Ba]at a;obtain⟨b,S,rfl,P,V⟩:=(g.below h).at m;obtain⟨b',T,e,Q,W⟩:=(g.below h).at o;injection e with e
   injection e with E F
   subst E;subst F;have t1:(((k:Int)+1).toNat)=k+1:=ad;have B:Op.bytesLess x y= !bP y x:=ve x y;cases l:bP y x with
   |true=>
    rw[l]at a B;have f:C=true:=by rw[v.o,<-mQ (k+2) attrs];exact CF _ _ a
    obtain⟨p,s⟩:=aD f a;clear f a l m o
    go_wp2
    go_quiet(fail)
    go_wp2
    go_ret;exact⟨ck p.o.symm,gh h _⟩
   |false=>
    rw[l]at a B;have s:=ah a;clear a l m o
    go_wp2
    go_quiet(fail)
    go_wp2
    go_roundw
    case rel=>exact⟨k+1,aV,.inl ad,D.o,gh h _,s.o⟩
    case measure=>exact bh
  ·have H:decide ((k:Int)+1<(attrs.length:Int))=false:=bK
   have f:C=false:=by have:=u.o;rwa[dh ad,<-v.o]at this
   have p:=ah f;clear f
   go_wp2
   go_ret;exact⟨ck p.o.symm,h⟩
theorem JO{l:List aw}{k:Nat}{t:aw}(b:l[k]?=some t):eQ (l.drop k)=if t.text=false/\bG t.nodes≠0 then bG t.nodes else eQ (l.drop (k+1)):=by obtain⟨c,a⟩:=aL.1 b;rw[rK c,a];rfl
theorem JP{w:World}{S P T M:Nat}{o:Option Addr}{cap:Nat}{l:List am}(g:lz w S P T M o cap l)(A:dI l):
 Calls prog 84 #[.pointer (some ⟨S,0,none⟩)] w fun j w'=>j=.returned (.int .i64 (eQ (l.map am.t)))/\Below w.heap.size w w':=by
 obtain⟨z,p⟩:=ar (eQ (l.map am.t));rw[<-p];have ab:=A.len;have I:=g.types.1.2.2.1;unfold maxLen at I;have G:=bs w S 0 _ _ _ g.s;have C:=ah p;clear p;go_enter func84,ntmps84
 go_wp2_with fail
 clear G;go_loopw [8] (fun v wr=>∃k:Nat,v=.int .i64 k/\k<=l.length/\Below w.heap.size w wr/\Hid (z=eQ ((l.map am.t).drop k))) (fun v _=>l.length-(intOf v).toNat)
 case atStart=>exact⟨0,rfl,aZ _,aE _ _,C.o⟩
 case round=>
  obtain⟨k,rfl,Z,h,y⟩:=hrel;by_cases K:k<l.length
  ·have J:decide ((k:Int)<l.length)=true:=bQ
   have aa:(k:Int)<l.length:=ad;obtain⟨x,i⟩:∃n,l[k]?=some n:=⟨_,aH K⟩;have u:=aX i;obtain⟨b,ag,rfl,Y,O,Q,R,V,W,X⟩:=(g.types.below h).at i;have a:=JO (l:=l.map am.t) (k:=k) (t:=x.t) (by rw[bW,i];rfl);rw[<-y.o]at a;have s:=fun w' (H:Below w.heap.size w w')=>qu x.t.nodes x.no x.nc w' ((g.types.2 x u).2.below H) (A.sym x u);obtain⟨⟨name,label,attrs,key,text,nodes⟩,F,ac,no,L⟩:=x;simp only at O Q R V W X a s;have c:=h.alloc h.size (.cells #[.string ⟨name.toArray⟩,.string ⟨label.toArray⟩,.slice F attrs.length ac,.string ⟨key.toArray⟩,.bool text,.slice no nodes.length L] 53);have d:=s _ c;clear i u s;cases text with
   |true=>
    rw[au ak]at a;have e:=ah a;clear a d
    go_wp2
    go_roundw
    case rel=>exact⟨k+1,aV,ad,c,e.o⟩
    case measure=>exact bh
   |false=>
    obtain⟨E,m⟩:=ar (bG nodes);rw[<-m]at a d;by_cases f:E=0
    ·subst f
     rw[au ak]at a;have e:=ah a;clear a m;go_wp2_with fail
     refine d.mono ?_;rintro j N ⟨rfl,q⟩;clear d;have r:=c.trans (q.mono c.size)
     go_wp2
     go_roundw
     case rel=>exact⟨k+1,aV,ad,r,e.o⟩
     case measure=>exact bh
    ·rw[ay ⟨rfl,f⟩]at a
     have ae:(E==0)=false:=by rw[eu];exact f
     have af:(E !=0)=true:=by rw[uj];exact f
     have e:=ah a;clear a m f;go_wp2_with fail
     refine d.mono ?_;rintro j N ⟨rfl,q⟩;clear d;have r:=c.trans (q.mono c.size)
     go_wp2
     go_ret;exact⟨mZ e.o.symm,r⟩
  ·have J:decide ((k:Int)<l.length)=false:=bK
   have B:z=0:=by have:=y.o;rw[Io (by rw[cf];omega)]at this;exact this
   have D:=ah B;clear B
   go_wp2
   go_ret;exact⟨mZ D.o.symm,h⟩
theorem ni(b:Bytes)(a:b.length<=1048576):keyOf prog 9 (.string ⟨b.toArray⟩)=some (.string b):=by have:=Il gq (s:=⟨b.toArray⟩) (by rw[dV];show b.length<=maxLen;unfold maxLen;omega);simpa using this
theorem px:∀a,(zeroValue 3).run prog a=.ok (.int .i64 0) a:=fun a=>aA
theorem JQ{w:World}{P M:Nat}{ts:List aw}(e:w.heap[P]?=some (.cells #[.map (some M)] 74 (0,0)))(i:eF w M ts)(b:Bytes)(l:b.length<=1048576):
 Calls prog 88 #[.string ⟨b.toArray⟩,.pointer (some ⟨P,0,none⟩)] w fun g w'=>g=.returned (.bool (placeS ts b).isNone)/\Below w.heap.size w w':=by
 have r:=bs w P 0 _ _ _ e;obtain⟨f,n,h,s,o⟩:=i;have m:=ni b l;have q:=px;have a:=h.has b;have d:(placeS ts b).isNone= !(placeS ts b).isSome:=by cases placeS ts b<;>rfl
 rw[d,<-a];clear d a e;go_enter func88,ntmps88
 go_wp2_with(first
  |(at_lookup;go_must (refine Ip _ rfl _ _ 74 rfl 9 3 .i64 (ll gq) jE cU (q _) M _ f rfl o _ _ rfl m ?_);intro c j p;clear j p)
  |fail)
 go_ret;exact⟨rfl,aE _ _⟩
theorem JR{B:Nat}{w w':World}(a:Below B w w'){k:Nat}{o:Obj}(c:w.heap[k]?=some o)(b:k<B):w'.heap[k]?=some o:=(a.block k b).trans c
theorem qB(l:List aj):(aI l).length<=1024:=by
 unfold aI;split
 ·rename_i a
  have d:l.length<=1024:=by apply ei;intro c;unfold bG at a;rw[ay ad]at a;cases a
  have b:∀l:List Bytes,(dd l).length<=l.length:=by intro l;rw[<-uS];exact AY l
  have:=b ((fB l).mergeSort bP);rw[rG]at this;have:=uU l;omega
 ·simp
theorem JS:∀args a,(callFunc 88 args).run prog a=.ok (.enter 88 args) a:=fun _ _=>rfl
theorem JT{w:World}{P M:Nat}{ts:List aw}(i:w.heap[P]?=some (.cells #[.map (some M)] 74 (0,0)))(m:eF w M ts)(x:am)(o:cO w x.no x.nc x.t.nodes)(j:∀n∈x.t.nodes,n.sym.length<=1048576):
 Calls prog 85 #[dT x,.pointer (some ⟨P,0,none⟩)] w fun e w'=>e=.returned (.bool ((aI x.t.nodes).any fun n=>(placeS ts n).isNone))/\Below w.heap.size w w':=by
 have t:∀b∈aI x.t.nodes,b.length<=1048576:=fun b a=>by obtain⟨n,I,rfl⟩:=yj a;exact j n I
 have K:=qB x.t.nodes;have c:=fun B (a:Below w.heap.size w B)=>uV x.t.nodes x.no x.nc B (o.below a) j;unfold sr at c;obtain⟨A,s⟩:=ar (aI x.t.nodes);rw[<-s]at c t K⊢;have d:=fun w' (a:Below w.heap.size w w') z y (D:dZ w' z y A)=>Cz (F:=88) (caps:=#[.pointer (some ⟨P,0,none⟩)]) (q:=fun n=>(placeS ts n).isNone) A z y w' D ad JS
  (fun b E Q p=>JQ (w:=Q) (JR (a.trans (p.mono a.size)) i (aU i)) (m.below (a.trans (p.mono a.size))) b (t b E))
 obtain⟨⟨name,label,attrs,key,text,nodes⟩,C,ac,no,L⟩:=x;unfold dT typeRow;simp only at c⊢;have f:Below w.heap.size w (w.alloc (.cells #[.string ⟨name.toArray⟩,.string ⟨label.toArray⟩,.slice C attrs.length ac,.string ⟨key.toArray⟩,.bool text,.slice no nodes.length L] 53)):=aG;have u:=c _ f;have l:=ah d;clear c d o s m j i;go_enter func85,ntmps85
 go_wp2_with fail
 refine u.mono ?_;rintro e R ⟨⟨v,rfl,h⟩,G⟩;have g:=f.trans (G.mono f.size);obtain⟨O,N,rfl⟩:=mg h;obtain⟨J,r⟩:=mh h;have d:=l.o R g O N r;clear l u r h J;go_wp2_with fail
 refine d.mono ?_;rintro e S ⟨rfl,H⟩
 go_wp2
 go_ret;exact⟨rfl,g.trans (H.mono g.size)⟩
theorem JU{w:World}{S P T M:Nat}{o:Option Addr}{cap:Nat}{l:List am}(b:lz w S P T M o cap l)(r:l.length<=1048576):
 Calls prog 81 #[.pointer (some ⟨T,0,none⟩),.pointer (some ⟨P,0,none⟩),.pointer (some ⟨S,0,none⟩)] w fun c w'=>c=.returned (.int .i64 (if dk ((l.map am.t).map aw.name)=true then 15 else 0))/\w=w':=by
 have j:=bs w S 0 _ _ _ b.s;have m:=bs w T 0 _ _ _ b.t;have p:=bs w P 0 _ _ _ b.p;have q:=uZ;obtain⟨a,n,f,h,d⟩:=b.places;have e:=Cw ((l.map am.t).map aw.name);rw[cf,cf,<-f.size]at e;have s:Maps.size a<=l.length:=by have:=d.size_le;rw[cf]at h;omega
 rw[<-e];clear b e f h;by_cases g:Maps.size a<l.length
 ·have i:decide ((Maps.size a:Int)<(l.length:Int))=true:=bQ
  rw[lm g,ay rfl];go_enter func81,ntmps81
  go_wp2_with(first
   |(at_len;refine wpList_len_own _ rfl _ 74 rfl 9 3 jE _ M _ a rfl d ?_)
   |fail)
  refine(uX _ _).mono ?_;rintro c w' ⟨rfl,rfl⟩
  go_wp2
  go_ret;exact⟨rfl,rfl⟩
 ·have i:decide ((Maps.size a:Int)<(l.length:Int))=false:=bK
  rw[l6 g,au ak];go_enter func81,ntmps81
  go_wp2_with(first
   |(at_len;refine wpList_len_own _ rfl _ 74 rfl 9 3 jE _ M _ a rfl d ?_)
   |fail)
  refine(uY _ _).mono ?_;rintro c w' ⟨rfl,rfl⟩
  go_wp2
  go_ret;exact⟨rfl,rfl⟩
theorem JV:∀(ts:List aw) (i:Nat) (n:Bytes) (a:Option Nat) (k:Nat),(∀j,a=some j->j<i+ts.length)->jn i ts n a=some k->k<i+ts.length:=by
 intro ts;induction ts with
 |nil=>intro i n a k d c;exact d k c
 |cons t ts ih=>
  intro i n a k d c;have:=ih (i+1) n (if t.name=n then some i else a) k (fun j b=>by
   split at b
   ·injection b with b;omega
   ·have:=d j b;simp at this;omega) c
  simp;omega
theorem vf{ts:List aw}{n:Bytes}{k:Nat}(a:placeS ts n=some k):k<ts.length:=by have:=JV ts 0 n none k (fun j b=>by cases b) a;omega
theorem CG{ts:List aw}{t:aw}(c:1<=ts.length){k:Nat}(a:k∈kidsS ts t):k<ts.length:=by
 unfold kidsS at a;obtain⟨n,_,rfl⟩:=fH.1 a;cases b:placeS ts n with
 |none=>simp;omega
 |some j=>have:=vf b;simpa using this
theorem CH{ts:List aw}{k:Nat}{t:aw}(a:ts[k]?=some t):labelAt ts k=t.label:=by unfold labelAt;rw[a]
theorem JW{ts:List aw}{k:Nat}{t:aw}(a:ts[k]?=some t):attrsAt ts k=t.attrs:=by unfold attrsAt;rw[a]
structure nX(D:DataW Unit)(ls:List Bytes):Prop where
 tidy:Maps.Tidy D
 has:∀n:Bytes,Maps.has D (.string n)=ls.contains n
 size:Maps.size D=iK ls
theorem nX.nil:nX (.map []) []:=⟨Maps.tidy_empty,fun n=>rfl,rfl⟩
theorem nX.snoc{f:DataW Unit}{g:List Bytes}(b:nX f g)(a:Bytes)(d:DataW Unit):nX (f.put (.string a) d) (g++[a]):=by
 refine⟨b.tidy.put dH _,fun n=> ?_,?_⟩
 ·by_cases c:a=n
  ·subst c
   rw[Ij b.tidy.isMap dH];simp
  ·rw[Ik (by simpa using fun e:n=a=>c e.symm),b.has n]
   rw[iF];simp;exact fun e=>absurd e.symm c
 ·rw[Maps.size_put b.tidy,b.has a,Cv,b.size]
theorem CI(x:am)(w:World):Below w.heap.size w (w.alloc (.cells (typeRow x).toArray 53)):=aG
theorem JX{w w':World}{B:Nat}{v:Value}{l:List Nat}{row:Option Nat}(a:cW w B v l)(b:w.grownBy w' row)(c:v.ownBlock=none∨v.ownBlock≠row):cW w' B v l:=dS a b c
theorem JY{w:World}{S P T M:Nat}{o:Option Addr}{cap:Nat}{l:List am}(c:lz w S P T M o cap l)(D:dI l)(x:am)(d:x∈l):
 Calls prog 89 #[dT x,.pointer (some ⟨S,0,none⟩),.pointer (some ⟨P,0,none⟩)] w fun f w'=>f=.returned (.bool (dk ((kidsS (l.map am.t) x.t).map (labelAt (l.map am.t)))))/\Below w.heap.size w w':=by
 have a9:1<=l.length:=by cases l with|nil=>simp at d|cons a t=>simp
 have bE:=D.len;have a2:=c.types.1.2.2.1;unfold maxLen at a2;have s:∀k∈kidsS (l.map am.t) x.t,k<l.length:=fun k h=>by have:=CG (by rw[cf];exact a9) h;rwa[cf]at this
 have a6:(kidsS (l.map am.t) x.t).length<=1024:=by unfold kidsS;rw[cf];exact qB _
 have r:=fun w' (E:Below w.heap.size w w')=>Cy (l.map am.t) x (.agg #[.slice o l.length cap]) M w' ⟨_,_,_,rfl⟩ ((c.types.2 x d).2.below E) (c.places.below E) (by have:=E.size;have:=c.mlt;omega) (by have:=qB x.t.nodes;omega) (D.sym x d);obtain⟨ks,G⟩:=ar (kidsS (l.map am.t) x.t);rw[<-G]at s a6 r⊢;have Q:=CI x w;have bB:=aU c.s;have bA:=aU c.p;have bF:= @l8 prog;have q:Below w.heap.size w ((w.alloc (.cells (typeRow x).toArray 53)).alloc (.map #[] 0)):=Q.alloc ak _;have Z:((w.alloc (.cells (typeRow x).toArray 53)).alloc (.map #[] 0)).ownsMap prog 9 (plainElem (H:=Unit) prog 3) (w.heap.size+1) 0 (.map []):=by have:=AZ (H:=Unit) (w.alloc (.cells (typeRow x).toArray 53)) prog 9 (plainElem prog 3);rwa[bj]at this
 have C:=c.below q;have cs:=bs _ S 0 _ _ _ C.s;have aq:=bs _ P 0 _ _ _ C.p;have bb:((w.alloc (.cells (typeRow x).toArray 53)).alloc (.map #[] 0)).heap[w.heap.size]?=some (.cells (typeRow x).toArray 53 (0,0)):=
  (((aE (w.heap.size+1) _).alloc ak (.map #[] 0)).block w.heap.size ad).trans (aB w _)
 have V:=r _ q;have bc:((w.alloc (.cells (typeRow x).toArray 53)).alloc (.map #[] 0)).heap.size=w.heap.size+2:=ak;have W:∀k t,l[k]?=some t->labelAt (l.map am.t) k=t.t.label:=fun k t h=>CH (by rw[bW,h];rfl);have ab:∀t∈l,t.t.label.length<=1048576:=D.label;obtain⟨⟨name,label,attrs,key,text,nodes⟩,ao,ac,no,bd⟩:=x;unfold dT typeRow at*;simp only at*;obtain⟨bt,af,an,al,bu⟩:=jJ r W ab s G;clear r W ab s G bb bc;obtain⟨m,B⟩:=ar (ks.map (labelAt (l.map am.t)));rw[<-B];have ae:=Cw m;have X:m.length=ks.length:=by rw[B,cf]
 rw[<-ae,X];have L:=ah B;clear ae X B;go_enter func89,ntmps89
 go_wp2_with fail
 refine V.mono ?_;rintro f b4 ⟨⟨v,rfl,I⟩,e⟩;have a1:=q.trans (e.mono q.size);obtain⟨bf,be,rfl,z⟩:=qA I;have a8:=World.ownsMap.kept (row:=none) Z ⟨e.os,e.tape,e.output,e.size,fun k h _=>e.block k h⟩ ak;rw[show(((w.alloc (.cells #[.string ⟨name.toArray⟩,.string ⟨label.toArray⟩,.slice ao attrs.length ac,.string ⟨key.toArray⟩,.bool text,.slice no nodes.length bd] 53)).alloc (.map #[] 0)).heap.size)=w.heap.size+2 from ak]at I;clear V e Z C cs aq Q q z
 go_wp2
 go_loopw [16] (fun i wr=>∃k n p,i=.int .i64 (k:Nat)/\k<=ks.length/\n<=k/\Hid (nX p (m.take k))/\wr.ownsMap prog 9 (plainElem (H:=Unit) prog 3) (w.heap.size+1) n p/\cW wr (w.heap.size+2) (.slice bf ks.length be) ks/\Below w.heap.size w wr) (fun i _=>ks.length-(intOf i).toNat)
 case atStart=>exact⟨0,0,_,rfl,aZ _,az _,nX.nil,a8,I,a1⟩
 case round=>
  obtain⟨k,n,p,rfl,h,bN,K,aa,F,y⟩:=hrel;have O:=c.below y;have cs:=bs _ S 0 _ _ _ O.s;by_cases s:k<ks.length
  ·have a3:decide ((k:Int)<ks.length)=true:=bQ
   have r:(k:Int)<ks.length:=ad;obtain⟨j,A⟩:∃n,ks[k]?=some n:=⟨_,aH s⟩;have a4:=al.o j (aX A);have bw:(0:Int)<=j:=ad;have bz:(j:Int)<l.length:=ad;obtain⟨x,d⟩:∃n,l[j]?=some n:=⟨_,aH a4⟩;obtain⟨b3,b2,f,z⟩:=qA F;injection f with av u a0
   subst av;subst a0;obtain⟨g,b0,rfl,bD,b7⟩:=z.at A;obtain⟨b,b1,rfl,bC,bg,b6,bi,bl,bo,bq⟩:=O.types.at d;have a5:=ni x.t.label (an.o x (aX d));have Y:m.take (k+1)=m.take k++[x.t.label]:=by rw[bV,L.o,bW,A];simp[af.o j x d]
   have ag:=ah Y;have bZ:=px;clear Y d A bg bi bl bo bq z;go_wp2_with(first
    |(at_mapUpdate;go_must (refine A3 _ rfl _ _ _ 74 rfl 9 3 (ll gq) jE _ (w.heap.size+1) _ p rfl aa bI _ _ _ rfl rfl a5 _ [] (plainElem_int cU (kM ad)) ?_);intro b5 ba R)
    |fail)
   go_roundw
   case rel=>exact⟨k+1,n+1,_,aV,ad,ad,by show nX _ _;rw[ag.o];exact K.o.snoc _ _,ba,JX F R (.inr (by have:=dC F g rfl;intro u;injection u with u;simp only at u;omega)),y.grown R y.size (fun j f=>by cases f;omega)⟩
   case measure=>exact bh
  ·have a3:decide ((k:Int)<ks.length)=false:=bK
   have a7:m.length=ks.length:=by rw[L.o,cf]
   have J:=K.o.size;rw[dh ad]at J;have N:=ah J;clear J a7;go_wp2_with(first
    |(at_len;refine wpList_len_own _ rfl _ 74 rfl 9 3 jE _ (w.heap.size+1) _ p rfl aa ?_)
    |fail)
   go_ret;exact⟨ck (by first|rw[<-N.o]|(rw[<-N.o,iF];simp)),y⟩
theorem JZ{a b:Bytes}(c:(⟨a.toArray⟩:ByteArray)=⟨b.toArray⟩):a=b:=by
 have d:a.toArray=b.toArray:=by injection c
 have:=jk Array.toList d;simpa using this
theorem J0(l:List Bytes)(o:Option Addr)(cap:Nat)(w:World)(i:dZ w o cap l)(q:l.length<=1048576)(k:Bytes):
 Calls prog 93 #[.slice o l.length cap,.string ⟨k.toArray⟩] w fun c w'=>c=.returned (.bool (l.contains k))/\w'=w:=by
 by_cases n:l.length=0
 ·obtain rfl:=qi n
  exact(slices_Contains_string_empty o cap ⟨k.toArray⟩ w).mono fun c w' ⟨d,e⟩=>⟨by rw[d];rfl,e⟩
 ·obtain⟨b,p,rfl,r,m⟩:=i.2.2.2 ad
  refine(slices_Contains_string b p l.length cap (l.map fun b=>⟨b.toArray⟩) ⟨k.toArray⟩ w (by rw[cf];exact az _) ad (fun j f=> ?_)).mono fun c w' ⟨d,e⟩=>⟨?_,e⟩
  ·rw[cf]at f
   refine m j _ ?_;rw[bW,aH f];simp[f,encStr]
  ·rw[d]
   refine ck ?_;rw[dh (by rw[cf];exact az _),iF,Lib.containsS_iff];constructor
   ·intro g
    obtain⟨a,h,c⟩:=fH.1 g;rw[JZ c]at h;simpa using h
   ·intro g
    exact fH.2 ⟨k,by simpa using g,rfl⟩
theorem J1{w:World}{S X:Nat}{o:Option Addr}{cap:Nat}{l:List am}(h:w.heap[S]?=some (.cells #[.slice o l.length cap] 24 (0,0)))(c:bR w o cap l)(e:dI l)(x:am)
 (a:w.heap[X]?=some (.cells (typeRow x).toArray 53 (0,0))) (j:Nat) (q:j<l.length):
 Calls prog 92 #[.int .i64 (j:Nat),.pointer (some ⟨S,0,none⟩),.pointer (some ⟨X,0,none⟩)] w fun m w'=>m=.returned (.bool ((attrsAt (l.map am.t) j).contains x.t.key))/\Below w.heap.size w w':=by
 obtain⟨y,d⟩:∃n,l[j]?=some n:=⟨_,aH q⟩;have g:=aX d;have f:attrsAt (l.map am.t) j=y.t.attrs:=JW (by rw[bW,d];rfl);rw[f];have E:=e.len;have p:=c.1.2.2.1;unfold maxLen at p;obtain⟨b,G,rfl,D,r,s,H,t,u,v⟩:=c.at d;have i:=fun n=>J0 y.t.attrs y.ao y.ac (w.drewN n) ((c.2 y g).1.below (gh (aE _ w) n)) (e.attrs y g) x.t.key;have cs:=bs w S 0 _ _ _ h;obtain⟨⟨name,label,attrs,key,text,nodes⟩,z,ac,no,F⟩:=x;unfold typeRow at a;simp only at a i⊢;have C:=bs w X 3 _ _ _ a;have A:(0:Int)<=j:=ad;have B:(j:Int)<l.length:=ad;clear a h c f d r s t u v;go_enter func92,ntmps92
 go_wp2
 go_quiet((go_at_call 93;exact Iq (i _)))
 go_wp2
 go_ret;exact⟨rfl,gh (aE _ w) _⟩
theorem J2:∀args a,(callFunc 92 args).run prog a=.ok (.enter 92 args) a:=fun _ _=>rfl
theorem J3{w:World}{S P T M:Nat}{o:Option Addr}{cap:Nat}{l:List am}(h:lz w S P T M o cap l)(D:dI l)(x:am)(i:x∈l):
 Calls prog 91 #[dT x,.pointer (some ⟨S,0,none⟩),.pointer (some ⟨P,0,none⟩)] w fun n w'=>n=.returned (.bool (!x.t.key.isEmpty&& !(kidsS (l.map am.t) x.t).any fun k=>(attrsAt (l.map am.t) k).contains x.t.key))/\Below w.heap.size w w':=by
 have Z:1<=l.length:=by cases l with|nil=>simp at i|cons a t=>simp
 have y:∀k∈kidsS (l.map am.t) x.t,k<l.length:=fun k r=>by have:=CG (by rw[cf];exact Z) r;rwa[cf]at this
 have Y:(kidsS (l.map am.t) x.t).length<=1024:=by unfold kidsS;rw[cf];exact qB _
 have u:=fun w' (b:Below w.heap.size w w')=>Cy (l.map am.t) x (.agg #[.slice o l.length cap]) M w' ⟨_,_,_,rfl⟩ ((h.types.2 x i).2.below b) (h.places.below b) (by have:=b.size;have:=h.mlt;omega) (by have:=qB x.t.nodes;omega) (D.sym x i);obtain⟨ks,J⟩:=ar (kidsS (l.map am.t) x.t);rw[<-J]at y Y u⊢;have d:=CI x w;have e:=h.below d;have E:=aB w (.cells (typeRow x).toArray 53);have g:=fun w' (b:Below (w.alloc (.cells (typeRow x).toArray 53)).heap.size (w.alloc (.cells (typeRow x).toArray 53)) w') j W=>
  J1 (w:=w') (S:=S) (X:=w.heap.size) (e.below b).s (e.below b).types D x ((b.block w.heap.size ak).trans E) j W
 obtain⟨q,z⟩:∃q:Nat->Bool,∀k,q k=(attrsAt (l.map am.t) k).contains x.t.key:=⟨_,fun _=>rfl⟩;rw[show(fun k=>(attrsAt (l.map am.t) k).contains x.t.key)=q from funext fun k=>(z k).symm];have I:=fun w' (b:Below (w.alloc (.cells (typeRow x).toArray 53)).heap.size (w.alloc (.cells (typeRow x).toArray 53)) w') N L (Q:kh w' N L ks)=>
  CA (F:=92) (caps:=#[.pointer (some ⟨S,0,none⟩),.pointer (some ⟨w.heap.size,0,none⟩)]) (q:=q) ks N L w' Q ad J2
   (fun k r ae R=>by rw[z];exact g ae (b.trans (R.mono b.size)) k (y k r))
 have s:=u _ d;have cs:=bs _ S 0 _ _ _ e.s;have al:=bs _ P 0 _ _ _ e.p;have B:=ah I;obtain⟨⟨name,label,attrs,key,text,nodes⟩,ag,ac,no,an⟩:=x;unfold dT typeRow at*;simp only at*;obtain⟨O,A⟩:=ar ((!key.isEmpty&& !ks.any q));rw[<-A];have C:=ah A;clear A I g u y J E e i z;cases key with
 |nil=>
  have f:O=false:=by rw[C.o];rfl
  have m:=ah f;clear f s;go_enter func91,ntmps91
  go_wp2
  go_ret;exact⟨ck m.o.symm,d⟩
 |cons c t=>
  have f:O= !ks.any q:=by rw[C.o];rfl
  have m:=ah f;clear f;go_enter func91,ntmps91
  go_wp2_with fail
  refine s.mono ?_;rintro n af ⟨⟨v,rfl,K⟩,p⟩;have G:=d.trans (p.mono d.size);obtain⟨ab,aa,rfl,g⟩:=qA K;have H:=B.o af p ab aa g;clear s g K p B d;go_wp2_with fail
  refine H.mono ?_;rintro n ao ⟨rfl,V⟩;clear H
  go_wp2
  go_ret;exact⟨ck m.o.symm,G.trans (V.mono G.size)⟩
theorem aO{w0 a c:World}(b:Below w0.heap.size w0 a)(k:Below a.heap.size a c):Below w0.heap.size w0 c:=b.trans (k.mono b.size)
theorem J4{w:World}{S P T M E W F:Nat}{caps:Array Value}{o:Option Addr}{cap:Nat}{l:List am}{q:am->Bool}(e:Int)(c:lz w S P T M o cap l)(C:dI l)
 (g:w.heap[E]?=some (.cells #[.int .i64 e] 36 (0,0))) (h:w.heap[W]?=some (.cells #[.func (.func F) #[] caps] 154 (0,0)))
 (r:∀args u,(callFunc F args).run prog u=.ok (.enter F args) u)
 (s:∀x∈l,∀d,Below w.heap.size w d->Calls prog F (#[dT x]++caps) d fun b H=>b=.returned (.bool (q x))/\Below d.heap.size d H):
 Calls prog 76 #[.pointer (some ⟨T,0,none⟩),.pointer (some ⟨E,0,none⟩),.pointer (some ⟨S,0,none⟩),.pointer (some ⟨W,0,none⟩)] w fun b w'=>b=.returned (.int .i64 (if l.any q=true then e else 0))/\Below w.heap.size w w':=by
 have j:=fun w' (a:Below w.heap.size w w')=>JD (F:=F) (caps:=caps) (q:=q) l o cap w' (c.types.below a) C.len r (fun x f d D=>s x f d (a.trans (D.mono a.size)));have y:=bs _ T 0 _ _ _ c.t;have z:=bs _ E 0 _ _ _ g;have A:=bs _ S 0 _ _ _ c.s;have B:=bs _ W 0 _ _ _ h;have J:=uZ;have f:∀w',Below w.heap.size w w'->w'.cell? ⟨T,0,none⟩=some (.func (.func 74) #[] #[])/\w'.cell? ⟨E,0,none⟩=some (.int .i64 e)/\w'.cell? ⟨S,0,none⟩=some (.slice o l.length cap)/\w'.cell? ⟨W,0,none⟩=some (.func (.func F) #[] caps):=fun w' a=>
  ⟨(a.cell (p:=⟨T,0,none⟩) (aU c.t)).trans y,(a.cell (p:=⟨E,0,none⟩) (aU g)).trans z,(a.cell (p:=⟨S,0,none⟩) (aU c.s)).trans A,(a.cell (p:=⟨W,0,none⟩) (aU h)).trans B⟩
 have I:=(aE w.heap.size w).drew;have n:=f;clear f;clear c g h s r;obtain⟨v,t⟩:=ar (l.any q);rw[<-t]at j⊢;clear t;cases v with
 |true=>
  rw[ay rfl];go_enter func76,ntmps76
  go_wp2_with fail
  go_region_held3(fun w'=>Below w.heap.size w w'/\w'.cell? ⟨T,0,none⟩=some (.func (.func 74) #[] #[])/\w'.cell? ⟨E,0,none⟩=some (.int .i64 e)/\w'.cell? ⟨S,0,none⟩=some (.slice o l.length cap)/\w'.cell? ⟨W,0,none⟩=some (.func (.func F) #[] caps)) (first|exact⟨fS,n _ fS⟩)
   (first
     |(go_at_call 77;refine(j _ fS).mono ?_;rintro b m ⟨rfl,i⟩;have G:=aO (w0:=w) fS i)
     |(go_at_call 74;refine(uX _ _).mono ?_;rintro b m ⟨rfl,rfl⟩))
  go_wp2
  go_ret;exact⟨rfl,fS⟩
 |false=>
  rw[au ak];go_enter func76,ntmps76
  go_wp2_with fail
  go_region_held3(fun w'=>Below w.heap.size w w'/\w'.cell? ⟨T,0,none⟩=some (.func (.func 74) #[] #[])/\w'.cell? ⟨E,0,none⟩=some (.int .i64 e)/\w'.cell? ⟨S,0,none⟩=some (.slice o l.length cap)/\w'.cell? ⟨W,0,none⟩=some (.func (.func F) #[] caps)) (first|exact⟨fS,n _ fS⟩)
   (first
     |(go_at_call 77;refine(j _ fS).mono ?_;rintro b m ⟨rfl,i⟩;have G:=aO (w0:=w) fS i)
     |(go_at_call 74;refine(uY _ _).mono ?_;rintro b m ⟨rfl,rfl⟩))
  go_wp2
  go_ret;exact⟨rfl,fS⟩
def jq(w:World)(os:List Obj):World:=os.foldl World.alloc w
theorem CX(os:List Obj):∀w:World,(jq w os).heap=w.heap++os.toArray:=by
 induction os with
 |nil=>intro w;simp[jq]
 |cons o t ih=>
  intro w;show(jq (w.alloc o) t).heap=_
  rw[ih];show w.heap.push o++t.toArray=_
  simp
theorem yv(w:World)(os:List Obj)(i:Nat)(a:i<os.length):(jq w os).heap[w.heap.size+i]?=os[i]?:=by rw[CX,Array.getElem?_append_right ad];simp
theorem yw(w:World)(os:List Obj):Below w.heap.size w (jq w os):=by
 induction os generalizing w with
 |nil=>exact aE _ _
 |cons o t ih=>
  show Below w.heap.size w (jq (w.alloc o) t)
  exact((aE _ w).alloc (az _) o).trans ((ih (w.alloc o)).mono ak)
theorem yx(w:World)(os:List Obj):(jq w os).heap.size=w.heap.size+os.length:=by rw[CX];simp
def askE(l:List aw):Nat->Int
 |0=>if 64<l.length then 17 else 0
 |1=>if l.length=0 then 18 else 0
 |2=>if l.any kK=true then 11 else 0
 |3=>if dk (l.map aw.name)=true then 15 else 0
 |4=>if l.any (fun t=>ej t.attrs)=true then 14 else 0
 |5=>if l.any iL=true then 12 else 0
 |6=>eQ l
 |7=>if l.any (fun t=>(aI t.nodes).any fun n=>(placeS l n).isNone)=true then 16 else 0
 |8=>if l.any (fun t=>dk ((kidsS l t).map (labelAt l)))=true then 24 else 0
 |_=>if l.any (fun t=> !t.key.isEmpty&& !(kidsS l t).any fun k=>(attrsAt l k).contains t.key)=true then 23 else 0
def askF:Nat->Nat
 |0=>78
 |1=>79
 |3=>81
 |6=>84
 |_=>76
def cZ(b:Nat):Value:=.pointer (some ⟨b,0,none⟩)
def askC(S Q:Nat):Nat->Array Value
 |0=>#[cZ (Q+1),cZ S]
 |1=>#[cZ (Q+1),cZ S]
 |2=>#[cZ (Q+1),cZ (Q+2),cZ S,cZ (Q+3)]
 |3=>#[cZ (Q+1),cZ Q,cZ S]
 |4=>#[cZ (Q+1),cZ (Q+4),cZ S,cZ (Q+5)]
 |5=>#[cZ (Q+1),cZ (Q+6),cZ S,cZ (Q+7)]
 |6=>#[cZ S]
 |7=>#[cZ (Q+1),cZ (Q+8),cZ S,cZ (Q+9)]
 |8=>#[cZ (Q+1),cZ (Q+10),cZ S,cZ (Q+11)]
 |_=>#[cZ (Q+1),cZ (Q+12),cZ S,cZ (Q+13)]
structure CY(l:List aw)(w:World)(e:Ending)(w':World):Prop where
 fns:∃G S Q,e=.returned (.slice (some ⟨G,0,none⟩) 10 10)/\G<w'.heap.size/\∀k,k<10->w'.cell? ⟨G,k,none⟩=some (.func (.func (askF k)) #[] (askC S Q k))/\
  ∀w1,Below w'.heap.size w' w1->Calls prog (askF k) (askC S Q k) w1 fun e w2=>e=.returned (.int .i64 (askE l k))/\Below w1.heap.size w1 w2
 below:Below w.heap.size w w'
def vr(S M Q:Nat):List Obj:=
 [.cells #[.map (some M)] 74,.cells #[.func (.func 74) #[] #[]] 153,
  .cells #[.int .i64 11] 36,.cells #[.func (.func 80) #[] #[]] 154,
  .cells #[.int .i64 14] 36,.cells #[.func (.func 82) #[] #[]] 154,
  .cells #[.int .i64 12] 36,.cells #[.func (.func 83) #[] #[]] 154,
  .cells #[.int .i64 16] 36,.cells #[.func (.func 85) #[] #[cZ Q]] 154,
  .cells #[.int .i64 24] 36,.cells #[.func (.func 89) #[] #[cZ S,cZ Q]] 154,
  .cells #[.int .i64 23] 36,.cells #[.func (.func 91) #[] #[cZ S,cZ Q]] 154,
  .cells ((List.range 10).map fun k=>Value.func (.func (askF k)) #[] (askC S Q k)).toArray 96]
theorem qC(k:Nat)(b:k=80∨k=82∨k=83∨k=85∨k=89∨k=91):∀args a,(callFunc k args).run prog a=.ok (.enter k args) a:=by rcases b with rfl|rfl|rfl|rfl|rfl|rfl<;>exact fun _ _=>rfl
theorem any_map{l:List am}(p:aw->Bool):(l.map am.t).any p=l.any fun x=>p x.t:=by rw[List.any_map];rfl
theorem Kl{l:List am}{o:Option Addr}{cap:Nat}{w a:World}(H:bR w o cap l)(e:dI l)(A:eF a (w.heap.size+2) (l.map am.t))(K:w.heap.size+2<a.heap.size)
 (d:Below (w.alloc (.cells #[.slice o l.length cap] 24)).heap.size (w.alloc (.cells #[.slice o l.length cap] 24)) a):
 CY (l.map am.t) w (.returned (.slice (some ⟨a.heap.size+14,0,none⟩) 10 10)) (jq a (vr w.heap.size (w.heap.size+2) a.heap.size)):=by
 have L:Below w.heap.size w (w.alloc (.cells #[.slice o l.length cap] 24)):=aG;have B:=aO L d;obtain⟨Q,p⟩:=ar (a.heap.size);obtain⟨S,v⟩:=ar (w.heap.size);rw[<-p];have C:a.heap[S]?=some (.cells #[.slice o l.length cap] 24 (0,0)):=by rw[v];exact(d.block w.heap.size ak).trans (aB w _)
 have V:S<Q:=by rw[p];exact aU C
 rw[<-v];rw[<-v]at A K;obtain⟨W,r⟩:=ar (jq a (vr S (S+2) Q));have u:Below a.heap.size a W:=by rw[r];exact yw _ _
 have z:W.heap.size=Q+15:=by rw[r,yx,<-p];rfl
 have s:∀i,i<15->W.heap[Q+i]?=(vr S (S+2) Q)[i]?:=fun i y=>by rw[r,p];exact yv _ _ _ (by rw[<-p];exact y)
 rw[<-r];have J:lz W S Q (Q+1) (S+2) o cap l:=
  ⟨(u.block S ad).trans C,s 0 ad,s 1 ad,(H.below B).below u,A.below u,by rw[z];omega⟩
 have I:=fun j (b:Below W.heap.size W j)=>J.below b;have N:=fun j (b:Below W.heap.size W j) i (y:i<15) o (R:(vr S (S+2) Q)[i]?=some o)=>(b.block (Q+i) (by rw[z];omega)).trans ((s i y).trans R);refine⟨⟨Q+14,S,Q,rfl,by rw[z];omega,fun k O=>⟨?_,fun j b=> ?_⟩⟩,aO B u⟩
 ·rw[bs W (Q+14) k _ _ _ (s 14 ad)]
  simp[O]
 ·have f:=N j b
  have g:=I j b;have m:=fun(q:am->Bool) E D F caps G=>J4 (w:=j) (S:=S) (P:=Q) (T:=Q+1) (M:=S+2) (E:=E) (W:=D) (F:=F) (caps:=caps) (o:=o) (cap:=cap) (l:=l) (q:=q) G g e;obtain rfl|rfl|rfl|rfl|rfl|rfl|rfl|rfl|rfl|rfl:k=0∨k=1∨k=2∨k=3∨k=4∨k=5∨k=6∨k=7∨k=8∨k=9:=ad
  ·refine(JG g e.len).mono ?_
   rintro h w' ⟨rfl,rfl⟩;exact⟨by show _=Ending.returned (.int .i64 (if 64<(l.map am.t).length then 17 else 0));rw[cf],aE _ _⟩
  ·refine(JH g e.len).mono ?_
   rintro h w' ⟨rfl,rfl⟩;exact⟨by show _=Ending.returned (.int .i64 (if(l.map am.t).length=0 then 18 else 0));rw[cf],aE _ _⟩
  ·refine(m (fun x=>kK x.t) (Q+2) (Q+3) 80 #[] 11 (f 2 ad _ rfl) (f 3 ad _ rfl) (qC _ ak) (fun x c a d=>JL x a (((g.types).below d).2 x c).1 (e.name x c) (e.label x c) (e.key x c) (e.attrs x c) (e.attr x c))).mono ?_
   rintro h w' ⟨rfl,b⟩;exact⟨by rw[<-any_map];rfl,b⟩
  ·refine(JU g e.len).mono ?_
   rintro h w' ⟨rfl,rfl⟩;exact⟨rfl,aE _ _⟩
  ·refine(m (fun x=>ej x.t.attrs) (Q+4) (Q+5) 82 #[] 14 (f 4 ad _ rfl) (f 5 ad _ rfl) (qC _ ak) (fun x c a d=>JN x a (((g.types).below d).2 x c).1 (e.attrs x c))).mono ?_
   rintro h w' ⟨rfl,b⟩;exact⟨by rw[<-any_map (fun t=>ej t.attrs)];rfl,b⟩
  ·refine(m (fun x=>iL x.t) (Q+6) (Q+7) 83 #[] 12 (f 6 ad _ rfl) (f 7 ad _ rfl) (qC _ ak) (fun x c a d=>JJ x a)).mono ?_
   rintro h w' ⟨rfl,b⟩;exact⟨by rw[<-any_map];rfl,b⟩
  ·exact JP g e
  ·refine(m (fun x=>(aI x.t.nodes).any fun n=>(placeS (l.map am.t) n).isNone) (Q+8) (Q+9) 85 #[cZ Q] 16 (f 8 ad _ rfl) (f 9 ad _ rfl) (qC _ ak) (fun x c a d=>JT (g.below d).p (g.below d).places x (((g.types).below d).2 x c).2 (e.sym x c))).mono ?_
   rintro h w' ⟨rfl,b⟩;exact⟨by rw[<-any_map (fun t=>(aI t.nodes).any fun n=>(placeS (l.map am.t) n).isNone)];rfl,b⟩
  ·refine(m (fun x=>dk ((kidsS (l.map am.t) x.t).map (labelAt (l.map am.t)))) (Q+10) (Q+11) 89 #[cZ S,cZ Q] 24 (f 10 ad _ rfl) (f 11 ad _ rfl) (qC _ ak) (fun x c a d=>JY (g.below d) e x c)).mono ?_
   rintro h w' ⟨rfl,b⟩;exact⟨by rw[<-any_map (fun t=>dk ((kidsS (l.map am.t) t).map (labelAt (l.map am.t))))];rfl,b⟩
  ·refine(m (fun x=> !x.t.key.isEmpty&& !(kidsS (l.map am.t) x.t).any fun k=>(attrsAt (l.map am.t) k).contains x.t.key) (Q+12) (Q+13) 91 #[cZ S,cZ Q] 23 (f 12 ad _ rfl) (f 13 ad _ rfl) (qC _ ak) (fun x c a d=>J3 (g.below d) e x c)).mono ?_
   rintro h w' ⟨rfl,b⟩;exact⟨by rw[<-any_map (fun t=> !t.key.isEmpty&& !(kidsS (l.map am.t) t).any fun k=>(attrsAt (l.map am.t) k).contains t.key)];rfl,b⟩
theorem Km(l:List am)(o:Option Addr)(cap:Nat)(w:World)(e:bR w o cap l)(a:dI l):
 Calls prog 39 #[.agg #[.slice o l.length cap]] w (CY (l.map am.t) w):=by
 have i:=fun w' (j:Below w.heap.size w w')=>Cx l o cap w' (e.below j) a.len a.name;have g:Below w.heap.size w (w.alloc (.cells #[.slice o l.length cap] 24)):=aG;have c:=i _ g;have d:(w.alloc (.cells #[.slice o l.length cap] 24)).heap.size+1=w.heap.size+2:=ak;rw[d]at c;clear i d g;go_enter func39,ntmps39
 go_wp2_with fail
 refine c.mono ?_;rintro r p ⟨rfl,b,h⟩;have f:w.heap.size+2<p.heap.size:=by obtain⟨q,n,_,_,m⟩:=b;exact m.lt
 have X:=ah (And.intro b (And.intro f h));clear c b f h;go_wp2_with go_in
 go_ret;exact Kl e a X.out.1 X.out.2.1 X.out.2.2
theorem Kn{l:List aw}(a:∀k,k<10->askE l k=0):bT l=0:=by
 have b:=a 0 ad;have c:=a 1 ad;have d:=a 2 ad;have e:=a 3 ad;have f:=a 4 ad;have g:=a 5 ad;have m:=a 6 ad;have h:=a 7 ad;have i:=a 8 ad;have j:=a 9 ad;simp only[askE]at b c d e f g m h i j;unfold bT;rw[show(fun t:aw=>t.text&&(!t.nodes.isEmpty|| !t.key.isEmpty))=iL from rfl];split at b
 ·cases b
 rename_i n;rw[au n];split at c
 ·cases c
 rename_i o;rw[au o];split at d
 ·cases d
 rename_i p;rw[au p];split at e
 ·cases e
 rename_i q;rw[au q];split at f
 ·cases f
 rename_i r;rw[au r];split at g
 ·cases g
 rename_i s;rw[au s,au (by simpa using m)];split at h
 ·cases h
 rename_i u;rw[au u];split at i
 ·cases i
 rename_i v;rw[au v];split at j
 ·cases j
 rename_i w;rw[au w]
theorem Ko{l:List aw}{k:Nat}(i:k<10)(b:∀j,j<k->askE l j=0)(c:askE l k≠0):bT l=askE l k:=by
 have cond:∀j,j<k->askE l j=0:=b;unfold bT;rw[show(fun t:aw=>t.text&&(!t.nodes.isEmpty|| !t.key.isEmpty))=iL from rfl];have step:∀(p:Prop) [Decidable p] (a:Int),(if p then a else 0)=0->a≠0->¬p:=fun p _ a b h e=>by rw[ay e]at b;exact h b
 have d:∀(p:Prop) [Decidable p] (a:Int),(if p then a else 0)≠0->p:=fun p _ a b=>by by_cases e:p;exact e;rw[au e]at b;exact absurd rfl b
 obtain rfl|rfl|rfl|rfl|rfl|rfl|rfl|rfl|rfl|rfl:k=0∨k=1∨k=2∨k=3∨k=4∨k=5∨k=6∨k=7∨k=8∨k=9:=ad
 ·have g:=d _ _ c
  rw[ay g];exact(ay g).symm
 all_goals rw[au (step _ _ (b 0 ad) ap)]
 ·have g:=d _ _ c
  rw[ay g];exact(ay g).symm
 all_goals rw[au (step _ _ (b 1 ad) ap)]
 ·have g:=d _ _ c
  rw[ay g];exact(ay g).symm
 all_goals rw[au (step _ _ (b 2 ad) ap)]
 ·have g:=d _ _ c
  rw[ay g];exact(ay g).symm
 all_goals rw[au (step _ _ (b 3 ad) ap)]
 ·have g:=d _ _ c
  rw[ay g];exact(ay g).symm
 all_goals rw[au (step _ _ (b 4 ad) ap)]
 ·have g:=d _ _ c
  rw[ay g];exact(ay g).symm
 all_goals rw[au (step _ _ (b 5 ad) ap)]
 ·rw[ay (show eQ l≠0 from c)];rfl
 all_goals rw[au (show¬eQ l≠0 from fun f=>f (b 6 ad))]
 ·have g:=d _ _ c
  rw[ay g];exact(ay g).symm
 all_goals rw[au (step _ _ (b 7 ad) ap)]
 ·have g:=d _ _ c
  rw[ay g];exact(ay g).symm
 all_goals rw[au (step _ _ (b 8 ad) ap)]
 ·have g:=d _ _ c
  rw[ay g];exact(ay g).symm
theorem Kq(k:Nat)(b:k<10):∀args a,(callFunc (askF k) args).run prog a=.ok (.enter (askF k) args) a:=by
 obtain rfl|rfl|rfl|rfl|rfl|rfl|rfl|rfl|rfl|rfl:k=0∨k=1∨k=2∨k=3∨k=4∨k=5∨k=6∨k=7∨k=8∨k=9:=ad
 all_goals exact fun _ _=>rfl
theorem check_any(l:List am)(o:Option Addr)(cap:Nat)(w:World)(A:bR w o cap l)(B:dI l):
 Calls prog 16 #[.agg #[.slice o l.length cap]] w fun c w'=>c=.returned (.int .i64 (bT (l.map am.t)))/\Below w.heap.size w w':=by
 have q:Below w.heap.size w (w.alloc (.cells #[.slice o l.length cap] 24)):=aG;have n:=Km l o cap _ (A.below q) B;obtain⟨z,a⟩:=ar (bT (l.map am.t));rw[<-a];obtain⟨ts,K⟩:=ar (l.map am.t);rw[<-K]at n a;have y:=ah a;clear a K A B;go_enter func16,ntmps16
 go_wp2_with fail
 refine n.mono ?_;rintro c L ⟨⟨M,S,Q,rfl,O,i⟩,D⟩;have G:=aO q D;clear n q D
 go_wp2
 go_loopw [9] (fun v wr=>∃k:Nat,v=.int .i64 k/\k<=10/\Below L.heap.size L wr/\Hid (∀j,j<k->askE ts j=0)) (fun v _=>10-(intOf v).toNat)
 case atStart=>exact⟨0,rfl,ad,aE _ _,fun j u=>absurd u ad⟩
 case round=>
  obtain⟨k,rfl,Z,e,f⟩:=hrel;by_cases x:k<10
  ·have P:decide ((k:Int)<10)=true:=bQ
   have X:(0:Int)<=k:=ad;have Y:(k:Int)<10:=ad;obtain⟨H,J⟩:=i k x;have I:=(e.cell (p:=⟨M,k,none⟩) O).trans H;have b:=J wr e;have R:=Kq k x;have h:=fun T=>Ko (l:=ts) (k:=k) x f.o T;obtain⟨E,g⟩:=ar (askE ts k);rw[<-g]at h b;generalize askF k=F at I b R;generalize askC S Q k=C at I b;have t:=i;clear i H J;by_cases d:E=0
   ·subst d
    have N:Hid (∀j,j<k+1->askE ts j=0):=fun j u=>by
     by_cases c:j=k
     ·subst c;exact g.symm
     ·exact f.o j ad
    have W:=ah t;clear h g f t;go_wp2_with fail
    refine b.mono ?_;rintro c V ⟨rfl,r⟩;clear b;have s:=aO e r
    go_wp2
    go_roundw
    case rel=>exact⟨k+1,aV,ad,s,N⟩
    case measure=>exact bh
   ·have a:z=E:=by rw[y.o];exact h d
    have m:=ah a;have aa:(E !=0)=true:=by rw[uj];exact d
    have ab:(E==0)=false:=by rw[eu];exact d
    clear h g a d t;go_wp2_with fail
    refine b.mono ?_;rintro c V ⟨rfl,r⟩;clear b;have s:=aO e r
    go_wp2
    go_ret;exact⟨mZ m.o.symm,aO G s⟩
  ·have P:decide ((k:Int)<10)=false:=bK
   have a:z=0:=by rw[y.o];exact Kn fun j u=>f.o j ad
   have m:=ah a;clear a i
   go_wp2
   go_ret;exact⟨mZ m.o.symm,aO G e⟩
def qD(a:Int×Int)(w:World)(b:Ending)(w':World):Prop:=b=.returned (.tuple #[.int .i64 a.1,.int .i64 a.2])/\Below w.heap.size w w'
theorem qD.of{d:Int×Int}{a b:Int}{w w':World}{c:Ending}(e:d=(a,b))(g:c=.returned (.tuple #[.int .i64 a,.int .i64 b]))(f:Below w.heap.size w w'):qD d w c w':=by subst e;exact⟨g,f⟩
theorem vt(l:List am)(o:Option Addr)(cap:Nat)(w:World)(j:bR w o cap l)(x:dI l)(n:Bytes)(S:n.length<=1048576):
 Calls prog 27 #[.agg #[.slice o l.length cap],.string ⟨n.toArray⟩] w (qD (nW (l.map am.t) n) w):=by
 have p:Below w.heap.size w (w.alloc (.cells #[.slice o l.length cap] 24)):=aG;have M:=aB w (.cells #[.slice o l.length cap] 24);have P:w.heap.size<(w.alloc (.cells #[.slice o l.length cap] 24)).heap.size:=ak;have f:=check_any l o cap _ (j.below p) x;have s:=fun w' (R:Below w.heap.size w w')=>Cx l o cap w' (j.below R) x.len x.name;have I:=ni n S;have O:=px;obtain⟨D,a⟩:=ar (nW (l.map am.t) n);rw[<-a];unfold nW at a;obtain⟨ts,z⟩:=ar (l.map am.t);rw[<-z]at f s a;obtain⟨E,v⟩:=ar (bT ts);rw[<-v]at f a;by_cases e:E=0
 ·rw[ay e]at a
  subst e;obtain⟨C,d⟩:=aD s a;clear a v z s j;go_enter func27,ntmps27
  go_wp2_with fail
  refine f.mono ?_;rintro F A ⟨rfl,i⟩;have q:=aO p i;have N:=(i.block w.heap.size P).trans M;have cs:=bs A w.heap.size 0 _ _ _ N;have K:=C.o A q;clear f p i M N P C;go_wp2_with fail
  refine K.mono ?_;rintro F X ⟨rfl,Q,G⟩;have H:=aO q G;obtain⟨B,m,u,T,J⟩:=Q;have r:=u.has n;have y:=u.at0 n;clear K G cs u;cases g:placeS ts n with
  |none=>
   rw[g]at r y;have h:D=(0,16):=by rw[d.o,g]
   have t:=ah h;clear h g d;go_wp2_with(first
    |(at_lookup;go_must (refine Ip _ rfl _ _ 74 rfl 9 3 .i64 (ll gq) jE cU (O _) _ _ B rfl J _ _ rfl I ?_);intro c b L;rw[r];clear b L)
    |fail)
   go_ret2
   exact qD.of t.o rfl H
  |some k=>
   rw[g]at r y;have h:D=((k:Int),0):=by rw[d.o,g]
   have t:=ah h;clear h g d;go_wp2_with(first
    |(at_lookup;go_must (refine Ip _ rfl _ _ 74 rfl 9 3 .i64 (ll gq) jE cU (O _) _ _ B rfl J _ _ rfl I ?_);intro c b L;rw[r];obtain rfl:c=(k:Int):=by{rw[y]at b;injection b with b;injection b with _ b;exact b.symm})
    |fail)
   go_ret2
   exact qD.of t.o rfl H
 ·rw[au e]at a
  have d:=ah a;have V:(E !=0)=true:=by rw[uj];exact e
  have W:(E==0)=false:=by rw[eu];exact e
  clear a v z s j e;go_enter func27,ntmps27
  go_wp2_with fail
  refine f.mono ?_;rintro F A ⟨rfl,i⟩;have q:=aO p i;clear f
  go_wp2
  go_ret2
  exact qD.of d.o rfl q
def vI(b:Nat):Array Value:=((List.range 7).map fun k=>Value.func (.func (qG k)) #[.pointer (some ⟨b,0,none⟩)] #[]).toArray
theorem Ls(b k:Nat)(a:k<7):(vI b)[k]?=some (.func (.func (qG k)) #[.pointer (some ⟨b,0,none⟩)] #[]):=by simp[vI,a]
def pN:Value:=.agg #[.string ⟨#[]⟩,.string ⟨#[]⟩,.slice none 0 0,.string ⟨#[]⟩,.bool false,.slice none 0 0]
def kw(w:World)(B:Nat)(x:am):Prop:=cn w B (.slice x.ao x.t.attrs.length x.ac) x.t.attrs/\cj w B (.slice x.no x.t.nodes.length x.nc) x.t.nodes
def pO(b:Option aw)(w:World)(a:Ending)(w':World):Prop:=
 (match b with
  |none=>a=.returned (.tuple #[pN,.bool false])
  |some t=>∃x:am,x.t=t/\a=.returned (.tuple #[dT x,.bool true])/\kw w' w.heap.size x)/\Below w.heap.size w w'
theorem pO.no{b:Option aw}{w w':World}{a:Ending}(c:b=none)(e:a=.returned (.tuple #[pN,.bool false]))(d:Below w.heap.size w w'):pO b w a w':=by subst c;exact⟨e,d⟩
theorem pO.yes{b:Option aw}{t:aw}{w w':World}{a:Ending}(c:b=some t)(x:am)(g:x.t=t)(e:a=.returned (.tuple #[dT x,.bool true]))(f:kw w' w.heap.size x)(d:Below w.heap.size w w'):pO b w a w':=by subst c;exact⟨⟨x,g,e,f⟩,d⟩
theorem Lt(s:Bytes)(w:World)(bB:s.length<=65536)(bl:eJ s):
 Calls prog 53 #[.string ⟨s.toArray⟩] w (pO (nw s) w):=by
 obtain⟨G,H⟩:=ar (nw s);rw[<-H];rw[Lp]at H;have an:=ah H;clear H;go_enter func53,ntmps53
 go_wp2_with fail
 obtain⟨os,j⟩:∃os:List Obj,os=[.cells #[.string ⟨#[]⟩,.string ⟨#[]⟩,.slice none 0 0,.string ⟨#[]⟩,.bool false,.slice none 0 0] 53,.cells (vG ⟨s,[],[],.slice none 0 0,[],false,.slice none 0 0⟩) 201,.cells (vI (w.heap.size+1)) 35]:=⟨_,rfl⟩;obtain⟨b,d⟩:=ar (jq w os);have bE:b.heap.size=w.heap.size+3:=by rw[d,yx,j];rfl
 have I:∀i,i<3->b.heap[w.heap.size+i]?=os[i]?:=fun i bz=>by rw[d];exact yv w os i (by rw[j];exact bz)
 have A:b.heap[w.heap.size]?=some (.cells #[.string ⟨#[]⟩,.string ⟨#[]⟩,.slice none 0 0,.string ⟨#[]⟩,.bool false,.slice none 0 0] 53 (0,0)):=(I 0 ad).trans (by rw[j];rfl);have Y:bM b (w.heap.size+1) ⟨s,[],[],.slice none 0 0,[],false,.slice none 0 0⟩:=(I 1 ad).trans (by rw[j];rfl);have O:b.heap[w.heap.size+2]?=some (.cells (vI (w.heap.size+1)) 35 (0,0)):=(I 2 ad).trans (by rw[j];rfl);have J:Below w.heap.size w b:=by rw[d];exact yw _ _
 rw[j]at d;clear I j;have R:vH (w.heap.size+1) (w.heap.size+3) b 0 ⟨s,[],[],[],[],false,[]⟩ b:=
  ⟨⟨_,Y,rfl,rfl,rfl,rfl,dc _ _ _ _,dc _ _ _ _,fun _=>⟨rfl,rfl,rfl⟩⟩,fun _=>⟨bl,bB⟩,fun _=>rfl,fun _=>rfl,fun _=>⟨rfl,rfl⟩,gZ.refl _ _ _,ad,ad⟩
 go_loopw [26] (fun v wr=>∃(k:Nat) (p:PL),v=.int .i64 k/\k<=7/\vH (w.heap.size+1) (w.heap.size+3) b k p wr/\Hid (G=qF k p)) (fun v _=>7-(intOf v).toNat)
 case atStart=>exact⟨0,_,rfl,ad,by rw[d]at R;rw[d];exact R,an.o⟩
 case round=>
  obtain⟨k,p,rfl,bA,t,D⟩:=hrel;clear an R;have x:=t.far;have c:=(x.block w.heap.size ad ad).trans A;have W:=(x.block (w.heap.size+2) ad ad).trans O;have bq:=J.trans (x.below (C:=w.heap.size) ad ad ad);by_cases T:k<7
  ·have bu:decide ((k:Int)<7)=true:=bQ
   have bC:(0:Int)<=k:=ad;have bD:(k:Int)<7:=ad;have S:=bs wr (w.heap.size+2) k _ _ _ W;rw[Ls _ k T]at S;have K:=Lr (w.heap.size+1) (w.heap.size+3) b k T p wr t;have bw:=Lq k T;have z:=D.o;unfold DB at K;generalize qG k=F at S K bw;obtain⟨E,X⟩:=aD z (And.intro A (And.intro O J));clear z D A O J Y c W d t x;go_wp2_with fail
   refine K.mono ?_;rintro m l ⟨ok,rfl,V,Z⟩;clear K S;cases ok with
   |false=>
    obtain⟨a3,Q⟩:=V rfl;have r:G=none:=by rw[E.o];exact a3
    have P:=ah r;have e:=(Q.block w.heap.size ad ad).trans X.out.1;have aa:=bs l w.heap.size 0 _ _ _ e;have ab:=bs l w.heap.size 1 _ _ _ e;have ae:=bs l w.heap.size 2 _ _ _ e;have af:=bs l w.heap.size 3 _ _ _ e;have ag:=bs l w.heap.size 4 _ _ _ e;have al:=bs l w.heap.size 5 _ _ _ e;have bg:∀o,l.frozen? ⟨w.heap.size,o,none⟩=false:=fun o=>by simp[World.frozen?,e]
    have bt:=X.out.2.2.trans (Q.below (C:=w.heap.size) ad ad ad);clear V Z a3 r X Q e;go_wp2_with fail
    refine cg (v:=.tuple #[pN,.bool false]) (by simp[results,results53,go_sem,aa,ab,ae,af,ag,al,pN]) rfl (pO.no P.o rfl ?_);exact(((((bt.setCell (az _) _).setCell (az _) _).setCell (az _) _).setCell (az _) _).setCell (az _) _).setCell (az _) _
   |true=>
    obtain⟨a8,a5,bi⟩:=Z rfl;have r:G=qF (k+1) a8:=by rw[E.o];exact a5
    have P:=ah r;have A:=X.out.1;clear V Z a5 r
    go_wp2
    go_roundw
    case rel=>exact⟨k+1,a8,aV,ad,bi,P.o⟩
    case measure=>exact bh
  ·have bu:decide ((k:Int)<7)=false:=bK
   obtain rfl:k=7:=ad;obtain⟨y,h,a2,a1,a0,a7,N,M,_⟩:=t.ex;obtain⟨q,ac,ao⟩:=eh N;obtain⟨no,B,a4⟩:=eh M;obtain⟨rest,name,label,av,key,text,nv⟩:=y;obtain⟨b0,bZ,bN,f,bF,b1,g⟩:=p;simp only at a2 a1 a0 a7 ao a4 N M;subst a2;subst a1;subst a0;subst a7;subst ao;subst a4;have z:G=some ⟨name,label,f,key,text,g⟩:=D.o;obtain⟨E,a9⟩:=aD z (And.intro N M);have ba:=h.c1;have bb:=h.c2;have bc:=h.c3;have bd:=h.c4;have be:=h.c5;have bf:=h.c6;simp only at ba bb bc bd be bf;have aa:=bs wr w.heap.size 0 _ _ _ c;have ab:=bs wr w.heap.size 1 _ _ _ c;have ae:=bs wr w.heap.size 2 _ _ _ c;have af:=bs wr w.heap.size 3 _ _ _ c;have ag:=bs wr w.heap.size 4 _ _ _ c;have al:=bs wr w.heap.size 5 _ _ _ c;have bg:∀o,wr.frozen? ⟨w.heap.size,o,none⟩=false:=fun o=>by simp[World.frozen?,c]
   clear t x c W h N M D z A Y O J d;go_wp2_with fail
   refine cg (v:=.tuple #[.agg #[.string ⟨name.toArray⟩,.string ⟨label.toArray⟩,.slice q f.length ac,.string ⟨key.toArray⟩,.bool text,.slice no g.length B],.bool true]) (by simp[results,results53,go_sem,aa,ab,ae,af,ag,al]) rfl (pO.yes E.o ⟨⟨name,label,f,key,text,g⟩,q,ac,no,B⟩ rfl rfl ?_ (((((((bq.setCell (az _) _).setCell (az _) _).setCell (az _) _).setCell (az _) _).setCell (az _) _).setCell (az _) _)));have a6:∀(a:World) (o:Nat) (u:Value),a.grownBy (a.setCell ⟨w.heap.size,o,none⟩ u) (some w.heap.size):=fun a o u=>⟨rfl,rfl,rfl,by simp[World.setCell],fun k bA bo=>fQ _ _ _ _ (fun m=>bo (by rw[m]))⟩;have n:∀(a:World) (o:Nat) (u:Value),cn a (w.heap.size+3) (.slice q f.length ac) f/\cj a (w.heap.size+3) (.slice no g.length B) g->cn (a.setCell ⟨w.heap.size,o,none⟩ u) (w.heap.size+3) (.slice q f.length ac) f/\cj (a.setCell ⟨w.heap.size,o,none⟩ u) (w.heap.size+3) (.slice no g.length B) g:=fun a o u L=>
    ⟨dS L.1 (a6 a o u) (.inr (fun m=>by have:=(dC L.1 _ m).1;omega)),dS L.2 (a6 a o u) (.inr (fun m=>by have:=(dC L.2 _ m).1;omega))⟩
   have aq:=n _ 5 (.slice no g.length B) (n _ 4 (.bool text) (n _ 3 (.string ⟨key.toArray⟩) (n _ 2 (.slice q f.length ac) (n _ 1 (.string ⟨label.toArray⟩) (n wr 0 (.string ⟨name.toArray⟩) a9.o)))));exact⟨mr aq.1 ad,mr aq.2 ad⟩
end Go.Proofs.YtnadadbndcdolaaGreatDoor
