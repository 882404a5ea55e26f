import Derived.Test.YtnadadbndcdolaaGreatDoorQbr
import Derived.Test.YtnadadbndcdolaaGreatDoorQbs
import Derived.Test.YtnadadbndcdolaaGreatDoorQbu
set_option linter.unusedVariables false
set_option linter.unusedSimpArgs false
set_option maxRecDepth 100000
set_option maxHeartbeats 0
namespace Go.Proofs.YtnadadbndcdolaaGreatDoor
open Go.RowKit Tryz
theorem Q8(c a f1 d b f2:Value)(g:Option Addr)(f e:Nat)(w:World):Calls prog 106 #[.agg #[c,a,f1],.agg #[d,b,f2],.slice g f e] w fun h w'=>h=.returned (.func (.func 167) #[] #[.pointer (some ⟨w.heap.size+2,0,none⟩),.pointer (some ⟨w.heap.size,0,none⟩),.pointer (some ⟨w.heap.size+1,0,none⟩)])/\
 w'=((w.alloc (.cells #[c,a,f1] 174)).alloc (.cells #[d,b,f2] 174)).alloc (.cells #[.slice g f e] 175):=by
 go_enter func106,ntmps106
 go_wp2
 go_ret;exact⟨rfl,rfl⟩
theorem Q9(d c f1:Value)(g:Option Addr)(f e a:Nat)(b:Array Value)(w:World):Calls prog 110 #[.agg #[d,c,f1],.slice g f e,.func (.func a) #[] b] w fun h w'=>h=.returned (.func (.func 175) #[] #[.pointer (some ⟨w.heap.size+1,0,none⟩),.pointer (some ⟨w.heap.size,0,none⟩),.pointer (some ⟨w.heap.size+2,0,none⟩)])/\
 w'=((w.alloc (.cells #[d,c,f1] 174)).alloc (.cells #[.slice g f e] 175)).alloc (.cells #[.func (.func a) #[] b] 181):=by
 go_enter func110,ntmps110
 go_wp2
 go_ret;exact⟨rfl,rfl⟩
theorem xu(w:World)(a b c:Obj):Below w.heap.size w (((w.alloc a).alloc b).alloc c)/\(((w.alloc a).alloc b).alloc c).heap[w.heap.size]?=some a/\(((w.alloc a).alloc b).alloc c).heap[w.heap.size+1]?=some b/\(((w.alloc a).alloc b).alloc c).heap[w.heap.size+2]?=some c:=by
 refine⟨(aG.alloc ak _).alloc aR _,(bk _ _ _ aR).trans ((bk _ _ _ ak).trans (aB w _)),?_,?_⟩
 ·have:=aB (w.alloc a) b
  rw[bj]at this;exact(bk _ _ _ ak).trans this
 ·have:=aB ((w.alloc a).alloc b) c
  rw[bj,bj]at this;exact this
section
variable{x y:aw} {k1 k2:List St} {r1 r2:List (List Nat)}
theorem gF.sizes{l:List aj}{keys:List St}{b:List (List Nat)}(a:gF l keys b):b.length=keys.length/\keys.length<=256:=⟨a.ok.len,a.ok.most⟩
theorem Ra(s:gE x y)(an:bG x.nodes=0)(V:x.nodes.length<=60)(ao:y.nodes.length<=60)(n:gF x.nodes k1 r1)(o:gF y.nodes k2 r2)(g B A' h U:Nat){z f1 A f2 W X F G:Nat}{Y Z:Value}(L:List Pr)(u:Value)(ab:L.length<=1024)(aa:∀p∈L,p.1<(bm (aI x.nodes)).length)(w:World)
 (Q:w.heap[U]?=some (.cells #[u] 175)) (ae:lQ w u L)
 (K:w.heap[g]?=some (.cells #[Y,.slice (some ⟨z,0,none⟩) k1.length W,.slice (some ⟨f1,0,none⟩) k1.length F] 174)) (j:w.heap[B]?=some (.cells #[Z,.slice (some ⟨A,0,none⟩) k2.length X,.slice (some ⟨f2,0,none⟩) k2.length G] 174))
 (M:w.heap[A']?=some (.cells #[Y,.slice (some ⟨z,0,none⟩) k1.length W,.slice (some ⟨f1,0,none⟩) k1.length F] 174)) (N:w.heap[h]?=some (.cells #[Z,.slice (some ⟨A,0,none⟩) k2.length X,.slice (some ⟨f2,0,none⟩) k2.length G] 174))
 (O:jW w x.nodes k1 r1 z f1) (P:jW w y.nodes k2 r2 A f2):
 Calls prog 105 #[.func (.func 167) #[] #[.pointer (some ⟨U,0,none⟩),.pointer (some ⟨A',0,none⟩),.pointer (some ⟨h,0,none⟩)],.func (.func 104) #[] #[.pointer (some ⟨g,0,none⟩),.pointer (some ⟨B,0,none⟩)]] w fun H w'=>H=.returned (.bool false)/\Below w.heap.size w w':=by
 obtain⟨aq,av⟩:=n.sizes;obtain⟨a0,a1⟩:=o.sizes;have m:∀p,oT x y k1 k2 p->p.1<k1.length/\p.2<k2.length:=fun p d=>Qk d;have af:=Gj 167 104 #[.pointer (some ⟨U,0,none⟩),.pointer (some ⟨A',0,none⟩),.pointer (some ⟨h,0,none⟩)] #[.pointer (some ⟨g,0,none⟩),.pointer (some ⟨B,0,none⟩)] (fun _ _=>rfl) (fun _ _=>rfl) w (oT x y k1 k2) (fun p=>finAt x.nodes k1 p.1&& !finAt y.nodes k2 p.2)
  (fun p d=>by obtain⟨I,J⟩:=m p d;omega) (Qi n o)
  (fun a b E d c=>by
    obtain⟨q,r⟩:=m _ d;obtain⟨C,e,t1,t2⟩:=n.row q;obtain⟨D,f,t3,t4⟩:=o.row r;have a2:(bm (aI x.nodes)).length<=60:=aJ (tM _) (aJ (rp _) V);have a3:(bm (aI y.nodes)).length=(bm (aI x.nodes)).length:=by rw[s.syms]
    exact Q6 (oT x y k1 k2) A' h U L u a b C D e f ad ad ad ad ab (fun p ag=>by
     have al:=aa p ag;have S:=aH (l:=C) (i:=p.1) ad;have T:=aH (l:=D) (i:=p.1) ad;exact⟨_,_,S,T,by have:=t2 _ (AW (ad:p.1<C.length));omega,by have:=t4 _ (AW (ad:p.1<D.length));omega,Qj s n o d al e f S T⟩) E
     ((c.block _ (ax Q)).trans Q) (ae.below c) (by rw[aq];exact(c.block _ (ax M)).trans M) (by rw[a0];exact(c.block _ (ax N)).trans N) (O.below c) (P.below c))
  (fun a b E d c=>by obtain⟨q,r⟩:=m _ d;exact QE g B a b q r av a1 E ((c.block _ (ax K)).trans K) ((c.block _ (ax j)).trans j) (O.below c) (P.below c))
 refine af.mono ?_;rintro H w' ⟨⟨b,rfl,c⟩,j⟩;refine⟨?_,j⟩;cases b with
 |false=>rfl
 |true=>
  obtain⟨p,d,R⟩:=c rfl;obtain⟨I,J⟩:=m p d;rw[cS]at R;obtain⟨t,v⟩:=R;have e:=aH I;have f:=aH J;unfold finAt at t v;rw[e]at t;rw[f]at v;have:=Ql s an V ao d e f t;simp[this]at v
theorem Rb(Q:x.nodes.length<=60)(h:gF x.nodes k1 r1)(e A' U F X:Nat){g f1 D o:Nat}{E:Value}(L:List Pr)(u:Value)(J:L.length<=1024)(I:∀p∈L,p.1<(bm (aI x.nodes)).length)(m:Pr)(w:World)
 (y:w.heap[U]?=some (.cells #[u] 175)) (K:lQ w u L) (hF:w.heap[F]?=some (.cells #[.func (.func 108) #[] #[.pointer (some ⟨X,0,none⟩)]] 181)) (M:w.rangeAt X 0 (wdRow m)) (z:X<w.heap.size)
 (s:w.heap[e]?=some (.cells #[E,.slice (some ⟨g,0,none⟩) k1.length D,.slice (some ⟨f1,0,none⟩) k1.length o] 174)) (t:w.heap[A']?=some (.cells #[E,.slice (some ⟨g,0,none⟩) k1.length D,.slice (some ⟨f1,0,none⟩) k1.length o] 174)) (v:jW w x.nodes k1 r1 g f1):
 Calls prog 105 #[.func (.func 175) #[] #[.pointer (some ⟨U,0,none⟩),.pointer (some ⟨A',0,none⟩),.pointer (some ⟨F,0,none⟩)],.func (.func 109) #[] #[.pointer (some ⟨e,0,none⟩)]] w fun q w'=>(∃b,q=.returned (.bool b))/\Below w.heap.size w w':=by
 obtain⟨S,T⟩:=h.sizes;have O:=h.start.lt;have N:=Gj 175 109 #[.pointer (some ⟨U,0,none⟩),.pointer (some ⟨A',0,none⟩),.pointer (some ⟨F,0,none⟩)] #[.pointer (some ⟨e,0,none⟩)] (fun _ _=>rfl) (fun _ _=>rfl) w (fun p=>p.1<k1.length/\p.2<=2) (fun p=>finAt x.nodes k1 p.1&&decide (0<p.2))
  (fun p d=>by obtain⟨V,W⟩:=d;omega) ⟨O,ap⟩
  (fun a b n d c=>by
    obtain⟨A,f⟩:=d;simp only at A f;obtain⟨j,G,t1,t2⟩:=h.row A;have Z:(bm (aI x.nodes)).length<=60:=aJ (tM _) (aJ (rp _) Q);exact Q7 (fun p=>p.1<k1.length/\p.2<=2) A' U F 108 #[.pointer (some ⟨X,0,none⟩)] (fun _ _=>rfl) L u (fun p=>decide (p.1=m.1)) a b f j G ad ad J (fun p C=>by
     have Y:=I p C;have P:=aH (l:=j) (i:=p.1) ad;have r:=t2 _ (AW (ad:p.1<j.length));exact⟨_,P,ad,⟨r,f⟩,r,Nat.min_le_right _ _⟩) n
     ((c.block _ (ax y)).trans y) ((c.block _ (ax hF)).trans hF) (K.below c) (by rw[S];exact(c.block _ (ax t)).trans t) (v.below c)
     (fun p C R B=>QD X m p R (il M z (c.trans (B.mono c.size))) (dn z (aJ c.size B.size))))
  (fun a b n d c=>QF e a b d.1 T n ((c.block _ (ax s)).trans s) (v.below c))
 refine N.mono ?_;rintro q w' ⟨⟨b,rfl,_⟩,H⟩;exact⟨⟨b,rfl⟩,H⟩
end
theorem Rc(e f i:Nat)(g h:List am)(E F:Option Addr)(s t:Nat)(x y:am)(Q:g[i]?=some x)(S:h[i]?=some y)(X:g.length<=64)(Y:h.length<=64)(j:y.t.key=x.t.key∨y.t.key=[])(D:Option Addr)(C B:Nat){aa ab ae af ag al:Value}(w:World)
 (z:w.heap[e]?=some (.cells #[.slice E g.length s,aa,ab,ae] 78)) (A:w.heap[f]?=some (.cells #[.slice F h.length t,af,ag,al] 78)) (N:bR w E s g) (O:bR w F t h):
 Calls prog 107 #[fY e f,.agg #[.int .i64 (i:Nat),.int .i64 (i:Nat)],.slice D C B] w fun K w'=>K=.returned (.tuple #[.bool false,.int .i64 0])/\Below w.heap.size w w':=by
 obtain⟨W,v⟩:=ar (((w.alloc (.cells #[.pointer (some ⟨e,0,none⟩),.pointer (some ⟨f,0,none⟩)] 104)).alloc (.cells #[.int .i64 (i:Nat),.int .i64 (i:Nat)] 106)).alloc (.cells #[.slice D C B] 109));obtain⟨a,n,o,V⟩:=xu w (.cells #[.pointer (some ⟨e,0,none⟩),.pointer (some ⟨f,0,none⟩)] 104) (.cells #[.int .i64 (i:Nat),.int .i64 (i:Nat)] 106) (.cells #[.slice D C B] 109);rw[<-v]at a n o V;have an:=ai 0 n;have ao:=ai 1 n;have aq:=ai 0 o;have av:=ai 1 o;have l:=Au e f i g h E F s t x y Q S X Y W ((a.block _ (ax z)).trans z) ((a.block _ (ax A)).trans A) (N.below a) (O.below a);unfold dT typeRow fY at l;obtain⟨p,R⟩:=ar (x.t.key);obtain⟨d,T⟩:=ar (y.t.key);rw[<-R,<-T]at l j;obtain⟨I,q⟩:=aD l a;clear l a Q S N O z A n o V R T;unfold fY;go_enter func107,ntmps107
 go_wp2_with(first|(rw[<-v];clear v)|fail)
 refine I.o.mono ?_;rintro K c ⟨rfl,r⟩;obtain⟨G,b⟩:=ar ((c.alloc (.cells #[.string ⟨x.t.name.toArray⟩,.string ⟨x.t.label.toArray⟩,.slice x.ao x.t.attrs.length x.ac,.string ⟨p.toArray⟩,.bool x.t.text,.slice x.no x.t.nodes.length x.nc] 53)).alloc (.cells #[.string ⟨y.t.name.toArray⟩,.string ⟨y.t.label.toArray⟩,.slice y.ao y.t.attrs.length y.ac,.string ⟨d.toArray⟩,.bool y.t.text,.slice y.no y.t.nodes.length y.nc] 53));have J:Below c.heap.size c G:=by rw[b];exact aG.alloc ak _
 have L:G.heap[c.heap.size]?=some (.cells #[.string ⟨x.t.name.toArray⟩,.string ⟨x.t.label.toArray⟩,.slice x.ao x.t.attrs.length x.ac,.string ⟨p.toArray⟩,.bool x.t.text,.slice x.no x.t.nodes.length x.nc] 53):=by rw[b];exact(bk _ _ _ ak).trans (aB c _)
 have M:G.heap[c.heap.size+1]?=some (.cells #[.string ⟨y.t.name.toArray⟩,.string ⟨y.t.label.toArray⟩,.slice y.ao y.t.attrs.length y.ac,.string ⟨d.toArray⟩,.bool y.t.text,.slice y.no y.t.nodes.length y.nc] 53):=by rw[b];have:=aB (c.alloc (.cells #[.string ⟨x.t.name.toArray⟩,.string ⟨x.t.label.toArray⟩,.slice x.ao x.t.attrs.length x.ac,.string ⟨p.toArray⟩,.bool x.t.text,.slice x.no x.t.nodes.length x.nc] 53)) (.cells #[.string ⟨y.t.name.toArray⟩,.string ⟨y.t.label.toArray⟩,.slice y.ao y.t.attrs.length y.ac,.string ⟨d.toArray⟩,.bool y.t.text,.slice y.no y.t.nodes.length y.nc] 53);rwa[bj]at this
 have P:=(q.o.trans (r.mono q.o.size)).trans (J.mono (aJ q.o.size r.size));have H:=ah P;have a1:=ai 3 L;have a2:=ai 3 M;clear r J L M P I an ao aq av;by_cases m:d=[]
 ·subst m
  clear j;go_wp2_with(first|(rw[<-b];clear b)|fail)
  go_ret2
  exact⟨rfl,H.o⟩
 ·have Z:d=p:=by rcases j with u|u;exact u;exact absurd u m
  subst Z;have a0:(d==[])=false:=by rw[eu];exact m
  clear j m;go_wp2_with(first|(rw[<-b];clear b)|fail)
  go_ret2
  exact⟨rfl,H.o⟩
section
variable{W0 w w':World} {a b:KB} {o1 o2:Option Addr} {c1 c2:Nat} {l1 l2:List am} {B n:Nat} {v:Value} {xs:List Value}
theorem qc(g:w.ownsRow B 180 4 v n xs)(f:w.grownBy w' v.ownBlock){q a:Nat}{cs:Array Value}{c:Nat×Nat}(b:w.heap[q]?=some (.cells cs a c))(e:180≠a):w'.heap[q]?=some (.cells cs a c):=
 (f.block q (ax b) (fun d=>gR g b e d.symm)).trans b
theorem dg.rowed(e:dg W0 a b o1 c1 l1 o2 c2 l2 w)(f:w.ownsRow B 180 4 v n xs)(i:W0.heap.size<=B)(c:w.grownBy w' v.ownBlock):dg W0 a b o1 c1 l1 o2 c2 l2 w':=by
 cases d:v.ownBlock with
 |none=>
  rw[d]at c;exact e.below ⟨c.os,c.tape,c.output,c.size,fun k h=>c.block k h ak⟩
 |some q=>
  rw[d]at c;obtain⟨cs,g⟩:=jV f d;exact e.other c (by have:=(aF f d).1;omega) g ap ⟨ap,ap,ap,ap⟩
theorem fM.rowed{l:List aj}{keys:List St}{e:List (List Nat)}{c:Nat}{u:Value}(d:fM w c u l keys e)(h:w.ownsRow B 180 4 v n xs)(a:w.grownBy w' v.ownBlock):fM w' c u l keys e:=by
 cases b:v.ownBlock with
 |none=>
  rw[b]at a;exact d.grown a (fun q f=>by cases f)
 |some q=>
  rw[b]at a;obtain⟨cs,g⟩:=jV h b;exact d.other a g ⟨ap,ap,ap,ap⟩
end
theorem fM.at_{w:World}{B q b a k n m j e:Nat}{p:Option Addr}{l:List aj}{keys:List St}{d:List (List Nat)}(g:fM w B (.agg #[.slice p q k,.slice (some ⟨b,0,none⟩) n j,.slice (some ⟨a,0,none⟩) m e]) l keys d):jW w l keys d b a:=by
 obtain⟨v,u,o,t,f,r,s,_,c⟩:=g.cells;have h:o=b:=by simp_all
 have i:f=a:=by simp_all
 rw[h,i]at c;exact c
def Ay(W0:World)(a b:KB)(o1:Option Addr)(c1:Nat)(l1:List am)(o2:Option Addr)(c2:Nat)(l2:List am)(w:World)(e:Ending)(w':World):Prop:=
 ∃d c,e=.returned (.tuple #[d,.bool true,.int .i64 0])/\eO w' w.heap.size d c/\c.length<=1024/\(∀p∈c,∃k,p=(k,k)/\k<l1.length)/\dg W0 a b o1 c1 l1 o2 c2 l2 w'/\cC a.M2 b.M2 b.M3 w w'
def Az(b:World)(n:Nat)(m:Nat)(d c:Value)(wr:World):Prop:=
 ∃(j:Nat) (a:List Pr),c=.int .i64 (j:Nat)/\j<=m/\a.length<=j/\eO wr b.heap.size d a/\(∀p∈a,∃k,p=(k,k)/\k<n)/\Below b.heap.size b wr
theorem yl(W0:World)(hs:Gl W0)(a b:KB)(o1 o2:Option Addr)(c1 c2:Nat)(l1 l2:List am)(b4:bR W0 o1 c1 l1)(b5:bR W0 o2 c2 l2)(ht:dI l1)(hu:dI l2)(ec:bT (l1.map am.t)=0)(ed:bT (l2.map am.t)=0)(ea:dG (l1.map am.t) (l2.map am.t))
 (hq:∀x∈l1,x.t.text=false->iB x) (hr:∀x∈l2,x.t.text=false->iB x) (H:Nat) (h:List Bool) (hR:h.length=l1.length) (i:Nat) (x y:am) (bB:l1[i]?=some x) (bC:l2[i]?=some y) (w:World) (eg:dg W0 a b o1 c1 l1 o2 c2 l2 w) (ds:w.heap[H]?=some (.cells (h.map Value.bool).toArray 4)):
 Calls prog 47 #[fY a.K b.K,.agg #[.int .i64 (i:Nat),.int .i64 (i:Nat)],.slice (some ⟨H,0,none⟩) h.length h.length] w (Ay W0 a b o1 c1 l1 o2 c2 l2 w):=by
 have eE:l1.length<=64:=by have:=(lO.1 ec).1;rw[cf]at this;omega
 have eN:l2.length<=64:=by have:=(lO.1 ed).1;rw[cf]at this;omega
 have eU:gE x.t y.t:=ea.2 i x.t y.t (by rw[bW,bB];rfl) (by rw[bW,bC];rfl);have hS:=aX bB;have hT:=aX bC;obtain⟨X,en⟩:=ar (((w.alloc (.cells #[.pointer (some ⟨a.K,0,none⟩),.pointer (some ⟨b.K,0,none⟩)] 104)).alloc (.cells #[.int .i64 (i:Nat),.int .i64 (i:Nat)] 106)).alloc (.cells #[.slice (some ⟨H,0,none⟩) h.length h.length] 109));obtain⟨a7,bD,bE,ci⟩:=xu w (.cells #[.pointer (some ⟨a.K,0,none⟩),.pointer (some ⟨b.K,0,none⟩)] 104) (.cells #[.int .i64 (i:Nat),.int .i64 (i:Nat)] 106) (.cells #[.slice (some ⟨H,0,none⟩) h.length h.length] 109);rw[<-en]at a7 bD bE ci;have cv:∀W,dg W0 a b o1 c1 l1 o2 c2 l2 W->∃kb kc kg kk kl km,W.heap[a.K]?=some (.cells #[.slice o1 l1.length c1,kb,kc,kg] 78)/\W.heap[b.K]?=some (.cells #[.slice o2 l2.length c2,kk,kl,km] 78)/\bR W o1 c1 l1/\bR W o2 c2 l2:=fun W af=>⟨_,_,_,_,_,_,af.fst.blk,af.snd.blk,b4.below af.fst.base,b5.below af.snd.base⟩;have ek:=eg.below a7;obtain⟨_,_,_,_,_,_,u1,u2,u3,u4⟩:=cv X ek;have e0:=Au a.K b.K i l1 l2 o1 o2 c1 c2 x y bB bC eE eN X u1 u2 u3 u4;unfold dT typeRow fY at e0;have k0:=ai 0 bD;have k1:=ai 1 bD;have k2:=ai 0 bE;have k3:=ai 1 bE;have k4:=ai 0 ci;obtain⟨ha,io⟩:=aD e0 ek;have lP:Hid (W0.heap.size<=w.heap.size):=ah eg.fst.base.size;obtain⟨E,F,i0,fw,gb,ib,ia,cF,cN,ic⟩:=ju bD bE ci a7 cv ((a7.block _ (ax ds)).trans ds) hs (And.intro ht hu) (And.intro ec ed) ea;obtain⟨bN,P,fs,ga,g9,hb⟩:=g6 eU (And.intro bB bC) (And.intro b4 b5) (And.intro (hq x hS) (hr y hT)) eU.text hR;clear e0 ek eg bD bE ci a7 cv ds hs ht hu ec ed ea eU bB bC b4 b5 hq hr hS hT u1 u2 u3 u4 hR;unfold fY;go_enter func47,ntmps47
 go_wp2_with(first|(rw[<-en];clear en)|fail)
 refine ha.o.mono ?_;rintro f ag ⟨rfl,c7⟩;obtain⟨C,bz⟩:=ar ((ag.alloc (.cells #[.string ⟨x.t.name.toArray⟩,.string ⟨x.t.label.toArray⟩,.slice x.ao x.t.attrs.length x.ac,.string ⟨x.t.key.toArray⟩,.bool x.t.text,.slice x.no x.t.nodes.length x.nc] 53)).alloc (.cells #[.string ⟨y.t.name.toArray⟩,.string ⟨y.t.label.toArray⟩,.slice y.ao y.t.attrs.length y.ac,.string ⟨y.t.key.toArray⟩,.bool y.t.text,.slice y.no y.t.nodes.length y.nc] 53));have hj:Below ag.heap.size ag C:=by rw[bz];exact aG.alloc ak _
 have hm:C.heap[ag.heap.size]?=some (.cells #[.string ⟨x.t.name.toArray⟩,.string ⟨x.t.label.toArray⟩,.slice x.ao x.t.attrs.length x.ac,.string ⟨x.t.key.toArray⟩,.bool x.t.text,.slice x.no x.t.nodes.length x.nc] 53):=by rw[bz];exact(bk _ _ _ ak).trans (aB ag _)
 have hn:C.heap[ag.heap.size+1]?=some (.cells #[.string ⟨y.t.name.toArray⟩,.string ⟨y.t.label.toArray⟩,.slice y.ao y.t.attrs.length y.ac,.string ⟨y.t.key.toArray⟩,.bool y.t.text,.slice y.no y.t.nodes.length y.nc] 53):=by rw[bz];have:=aB (ag.alloc (.cells #[.string ⟨x.t.name.toArray⟩,.string ⟨x.t.label.toArray⟩,.slice x.ao x.t.attrs.length x.ac,.string ⟨x.t.key.toArray⟩,.bool x.t.text,.slice x.no x.t.nodes.length x.nc] 53)) (.cells #[.string ⟨y.t.name.toArray⟩,.string ⟨y.t.label.toArray⟩,.slice y.ao y.t.attrs.length y.ac,.string ⟨y.t.key.toArray⟩,.bool y.t.text,.slice y.no y.t.nodes.length y.nc] 53);rwa[bj]at this
 have aa:Below X.heap.size X C:=c7.trans (hj.mono c7.size);have el:=io.o.below aa;obtain⟨_,_,_,_,_,_,u1,u2,u3,u4⟩:=gb.o C el;have eo:=QK a.K b.K i l1 l2 o1 o2 c1 c2 x y P.o.1 P.o.2 eE eN bN.o.label bN.o.attrs (cF.o.1.attrs x (aX P.o.1)) C u1 u2 u3 u4;unfold fY at eo;obtain⟨gv,ip,fx,fq,fr⟩:=jJ eo el aa hm hn;have e4:C.cell? ⟨w.heap.size,0,none⟩=_:=ai 0 ((aa.block _ (ax E.out)).trans E.out);have e5:C.cell? ⟨w.heap.size,1,none⟩=_:=ai 1 ((aa.block _ (ax E.out)).trans E.out);have e6:C.cell? ⟨w.heap.size+1,0,none⟩=_:=ai 0 ((aa.block _ (ax F.out)).trans F.out);have e7:C.cell? ⟨w.heap.size+1,1,none⟩=_:=ai 1 ((aa.block _ (ax F.out)).trans F.out);clear c7 hj hm hn aa el u1 u2 u3 u4 eo ha k0 k1 k2 k3 k4;go_wp2_with(first|(rw[<-bz];clear bz)|fail)
 refine gv.o.mono ?_;rintro f o ⟨rfl,be⟩;have hy:=ip.o.below be;have c6:Below X.heap.size X o:=fx.o.trans (be.mono fx.o.size);have cq:=ai 4 ((be.block _ (ax fq.out)).trans fq.out);have bF:=ai 4 ((be.block _ (ax fr.out)).trans fr.out);simp at cq bF;obtain⟨bc,a8⟩:=aD hy c6;have cx:Hid (cC a.M2 b.M2 b.M3 w o):=ah (cC.below (fw.o.trans (c6.mono fw.o.size)));clear be hy c6 gv e4 e5 e6 e7;rw[g9.o]at bF;cases a0:x.t.text with
 |true=>
  rw[a0]at cq bF;have h8:Hid (∀q,Ay W0 a b o1 c1 l1 o2 c2 l2 w (.returned (.tuple #[.slice none 0 0,.bool true,.int .i64 0])) (o.drewN q)):=ah fun q=>
   ⟨_,[],rfl,dc _ _ _ _,ak,fun p g=>by simp at g,bc.o.below (gh (aE _ o) q),cx.o.trans (cC.below (gh (aE _ o) q))⟩
  clear a0
  go_wp2
  go_quiet(fail)
  go_wp2_with fail
  (try simp only[Exit.inBlock,Exit.then])
  exact cg (v:=.tuple #[.slice none 0 0,.bool true,.int .i64 0]) (by simp[results,results47]) rfl (h8.o _)
 |false=>
  rw[a0]at cq bF;have eB:=ga.o.1 a0;have eC:=ga.o.2 (by rw[g9.o];exact a0);have er:=QZ W0 ia.o a b o1 o2 c1 c2 l1 l2 fs.o.1 fs.o.2 cF.o.1 cF.o.2 cN.o.1 cN.o.2 ic.o i x y P.o.1 P.o.2 eB eC o bc.o;unfold fY at er;obtain⟨gG,bb⟩:=aD er (And.intro eB eC);have e4:o.cell? ⟨w.heap.size,0,none⟩=_:=ai 0 ((a8.o.block _ (ax E.out)).trans E.out);have e5:o.cell? ⟨w.heap.size,1,none⟩=_:=ai 1 ((a8.o.block _ (ax E.out)).trans E.out);have e6:o.cell? ⟨w.heap.size+1,0,none⟩=_:=ai 0 ((a8.o.block _ (ax F.out)).trans F.out);have e7:o.cell? ⟨w.heap.size+1,1,none⟩=_:=ai 1 ((a8.o.block _ (ax F.out)).trans F.out);clear er eB eC a0;go_wp2_with fail
  refine gG.o.mono ?_;rintro f D ⟨co,cp,u,d,k5,r,k7,rfl,ca,cb,ew,ez,bu⟩;obtain⟨N,M,K,J,I,G,rfl,_,bl⟩:=ew.cells;obtain⟨a4,a3,a2,a1,aq,ao,rfl,_,b7⟩:=ez.cells;obtain⟨h1,h0,rfl⟩:=bL bu;obtain⟨al,bA⟩:=ar ((D.alloc (.cells #[.slice N (bm (aI x.t.nodes)).length M,.slice (some ⟨K,0,none⟩) d.length J,.slice (some ⟨I,0,none⟩) d.length G] 174)).alloc (.cells #[.slice a4 (bm (aI y.t.nodes)).length a3,.slice (some ⟨a2,0,none⟩) r.length a1,.slice (some ⟨aq,0,none⟩) r.length ao] 174));have R:Below D.heap.size D al:=by rw[bA];exact aG.alloc ak _
  have hg:al.heap[D.heap.size]?=some (.cells #[.slice N (bm (aI x.t.nodes)).length M,.slice (some ⟨K,0,none⟩) d.length J,.slice (some ⟨I,0,none⟩) d.length G] 174):=by rw[bA];exact(bk _ _ _ ak).trans (aB D _)
  have hl:al.heap[D.heap.size+1]?=some (.cells #[.slice a4 (bm (aI y.t.nodes)).length a3,.slice (some ⟨a2,0,none⟩) r.length a1,.slice (some ⟨aq,0,none⟩) r.length ao] 174):=by rw[bA];have:=aB (D.alloc (.cells #[.slice N (bm (aI x.t.nodes)).length M,.slice (some ⟨K,0,none⟩) d.length J,.slice (some ⟨I,0,none⟩) d.length G] 174)) (.cells #[.slice a4 (bm (aI y.t.nodes)).length a3,.slice (some ⟨a2,0,none⟩) r.length a1,.slice (some ⟨aq,0,none⟩) r.length ao] 174);rwa[bj]at this
  obtain⟨L,b9⟩:=ar (gH (l1.map am.t) (bm (aI x.t.nodes)));rw[<-b9]at bu⊢;have hw:L.length<=60:=by rw[b9,Ar];exact aJ (tM _) (aJ (rp _) bb.o.1.len)
  have eb:∀p∈L,p.1<(bm (aI x.t.nodes)).length/\p.2<l1.length:=fun p g=>by rw[b9]at g;obtain⟨ko,hL,jp⟩:=Qo g;have jv:ko∈aI x.t.nodes:=wT.1 (aX hL);obtain⟨t,j1,_⟩:=Gd cN.o.1 (l9 (aX P.o.1)) jv;have:=(aL.1 j1).1;rw[cf]at this;exact⟨(aL.1 hL).1,by rw[jp];exact this⟩
  have bw:oU al o.heap.size (.slice h1 L.length h0) L:=aP bu (fun q B=>R.block q (aF bu B).2);have hK:=bc.o.maps;have bq:∀{q f:Nat} {cs:Array Value} {c9:Nat×Nat},X.heap[q]?=some (.cells cs f c9)->al.heap[q]?=some (.cells cs f c9):=fun{q f cs c9} B=>by have jb:=(a8.o.block _ (ax B)).trans B;have ho:=cb.cells hK jb;exact(R.block _ (ax ho)).trans ho
  have c0:=bq i0.out;have fu:=bq ib.o;have hD:=Qw 103 #[.pointer (some ⟨w.heap.size+2,0,none⟩)] (fun _ _=>rfl) al o.heap.size L (.slice h1 L.length h0) (fun p=> !(h.getD p.2 false)) ad bw (fun p g W hI=>
   QC (w.heap.size+2) H 0 h.length h p (by rw[hb.o];exact(eb p g).2) (by rw[hb.o];omega) W (qc bw hI c0 ap) (qc bw hI fu ap))
  obtain⟨g1,A,gs,fN,fz,fG,fg,fo,hc,hd⟩:=ju hD bw (ca.below R) ((cx.o.trans cb).trans (cC.below R)) (ew.far (cC.below R) ca.maps) (ez.far (cC.below R) ca.maps) hg hl (bq E.out) (bq F.out);obtain⟨he,gg,gl⟩:=bH c0 hw eb;have g5:Hid (W0.heap.size<=o.heap.size/\o.heap.size<=al.heap.size):=ah ⟨bc.o.fst.base.size,aJ cb.size R.size⟩;clear ca cb ew ez bu bl b7 R hg hl bw hK c0 fu hD bq e4 e5 e6 e7 cq bF hw eb b9 gG;go_wp2_with(first|(rw[<-bA];clear bA)|fail)
  rw[show w.heap.size+1+1=w.heap.size+2 from rfl];refine g1.o.mono ?_;rintro f l ⟨u9,rfl,bo,m⟩;clear g1;have hz:=gs.o.rowed A.o g5.o.1 m;have ex:=fz.o.rowed A.o m;have eA:=fG.o.rowed A.o m;have Y:=qc A.o m fg.out ap;have an:=qc A.o m fo.out ap;have hW:=qc A.o m hc.out ap;have hX:=qc A.o m hd.out ap;have hY:=qc A.o m he.out ap;have mo:o.heap.size<=l.heap.size:=aJ g5.o.2 m.size;have hE:cC a.M2 b.M2 b.M3 w l:=by have av:=fN.o;refine⟨m.os.trans av.os,m.tape.trans av.tape,m.output.trans av.output,aJ av.size m.size,fun q hV kp ks kv=>(m.block q (dn hV av.size) (fun f=> ?_)).trans (av.block q hV kp ks kv)⟩;have b4:=(aF A.o f.symm).1;have b5:=cx.o.size;omega
  have bl:=ex.at_;have b7:=eA.at_;have b8:∀p∈L.filter (fun p=> !!h.getD p.2 false),p.1<(bm (aI x.t.nodes)).length/\p.2<l1.length:=fun p g=>gl.o p ((nR.1 g).1);have jc:(L.filter (fun p=> !!h.getD p.2 false)).length<=60:=aJ (lq _ _) gg.o;obtain⟨e,hv⟩:=ar (L.filter (fun p=> !!h.getD p.2 false));rw[<-hv]at b8 jc bo;clear hv;obtain⟨ch,d9,rfl,l5,l7,hC⟩:=id bo;obtain⟨lo,cd⟩:=ar (((l.alloc (.cells #[.slice N (bm (aI x.t.nodes)).length M,.slice (some ⟨K,0,none⟩) d.length J,.slice (some ⟨I,0,none⟩) d.length G] 174)).alloc (.cells #[.slice a4 (bm (aI y.t.nodes)).length a3,.slice (some ⟨a2,0,none⟩) r.length a1,.slice (some ⟨aq,0,none⟩) r.length ao] 174)).alloc (.cells #[.slice ch e.length d9] 175));obtain⟨Q,t0,t1,t2⟩:=xu l (.cells #[.slice N (bm (aI x.t.nodes)).length M,.slice (some ⟨K,0,none⟩) d.length J,.slice (some ⟨I,0,none⟩) d.length G] 174) (.cells #[.slice a4 (bm (aI y.t.nodes)).length a3,.slice (some ⟨a2,0,none⟩) r.length a1,.slice (some ⟨aq,0,none⟩) r.length ao] 174) (.cells #[.slice ch e.length d9] 175);rw[<-cd]at Q t0 t1 t2;have eV:=Q8 (.slice N (bm (aI x.t.nodes)).length M) (.slice (some ⟨K,0,none⟩) d.length J) (.slice (some ⟨I,0,none⟩) d.length G) (.slice a4 (bm (aI y.t.nodes)).length a3) (.slice (some ⟨a2,0,none⟩) r.length a1) (.slice (some ⟨aq,0,none⟩) r.length ao) ch e.length d9 l;rw[<-cd]at eV;have es:gF x.t.nodes d k5:=by obtain⟨_,_,_,_,T,_⟩:=ex;exact T
  have hB:gF y.t.nodes r k7:=by obtain⟨_,_,_,_,T,_⟩:=eA;exact T
  have hH:=Ra bN.o bb.o.1.ok bb.o.1.len bb.o.2.len es hB D.heap.size (D.heap.size+1) l.heap.size (l.heap.size+1) (l.heap.size+2) e (.slice ch e.length d9) ad (fun p g=>(b8 p g).1) lo t2 (bo.below Q)
   ((Q.block _ (ax Y)).trans Y) ((Q.block _ (ax an)).trans an) t0 t1 (bl.below Q) (b7.below Q)
  obtain⟨g7,g3⟩:=aD eV hH;have i2:=ai 0 Y;have i3:=ai 1 Y;have i4:=ai 2 Y;have i5:=ai 0 an;have i7:=ai 1 an;have i9:=ai 2 an;obtain⟨gu,fT,iv,fl,bZ,b0,hf,h7,h5,gf⟩:=ju hz hE bo Y hW hX hY bl es b8;obtain⟨fv,lU,iT⟩:=bH Q cd hC;clear hz ex eA Y an hW hX hY hE bl b7 b8 bo Q t0 t1 t2 eV es hB hH cd m gs fN fz fG fg fo hc hd he A gl gg bc hC;go_wp2_with fail
  refine g7.o.mono ?_;rintro f mE ⟨rfl,rfl⟩;clear g7 i2 i3 i4 i5 i7 i9;go_wp2_with fail
  refine g3.o.mono ?_;rintro f fb ⟨rfl,hh⟩;clear g3;have S:Below l.heap.size l fb:=fv.o.trans (hh.mono fv.o.size);have hx:=gu.o.below S;obtain⟨_,_,_,_,_,_,u1,u2,u3,u4⟩:=gb.o fb hx;have eZ:=Rc a.K b.K i l1 l2 o1 o2 c1 c2 x y P.o.1 P.o.2 eE eN bN.o.key (some ⟨H,0,none⟩) h.length h.length fb u1 u2 u3 u4;unfold fY at eZ;have g8:=ah eZ;have ls:=ai 0 ((S.block _ (ax bZ.out)).trans bZ.out);have lv:=ai 1 ((S.block _ (ax bZ.out)).trans bZ.out);have lx:=ai 0 ((S.block _ (ax b0.out)).trans b0.out);have ly:=ai 1 ((S.block _ (ax b0.out)).trans b0.out);have lF:=ai 0 ((S.block _ (ax hf.out)).trans hf.out);have fy:=ah S;clear hh S hx u1 u2 u3 u4 eZ;go_wp2_with fail
  refine g8.o.mono ?_;rintro f V ⟨rfl,hi⟩;have a9:=ah (fy.o.trans (hi.mono fy.o.size));clear g8 ls lv lx ly lF hi
  go_wp2
  go_loopw [20,90] (fun j7 e3 wr=>Az V l1.length e.length j7 e3 wr) (fun _ e3 _=>e.length-(intOf e3).toNat)
  case atStart=>exact⟨0,[],rfl,aZ _,az _,dc _ _ _ _,ak,aE _ _⟩
  case round=>
  obtain⟨j,c,rfl,mc,md,ae,cc,bi⟩:=hrel;obtain⟨go,gc,rfl⟩:=bL ae;by_cases eD:j<e.length
  ·obtain⟨p,g⟩:∃p,e[j]?=some p:=⟨_,aH eD⟩
   have ab:Below l.heap.size l wr:=a9.o.trans (bi.mono a9.o.size);obtain⟨b3,rfl,je,hQ⟩:=iT.o ad;have j0:=il (hQ j p g) je ab;have mv:(0:Int)<=j:=ad;have mw:(j:Int)<e.length:=ad;obtain⟨h3,ce,hk⟩:=dF wr (.cells #[.int .i64 0,.int .i64 0,.int .i64 0,.int .i64 0] 180);have lg:h3.there wr.heap.size 0 4:=by rw[ce];exact jt (cs:=wdRow (0,0)) (ty:=180) (aB wr _) (az _)
   have hP:=gf.o p (aX g);have h4:Hid (∀s,dU h3 s wr.heap.size 0 (wdRow p)->Below wr.heap.size wr s/\s.rangeAt wr.heap.size 0 (wdRow p)/\wr.heap.size<s.heap.size):=ah fun s em=>⟨em.below hk (az _),em.here,by rw[em.size,ce];simp⟩;obtain⟨ii,gr,g4,h6,ba⟩:=jJ hP ae cc bi ab;clear g hQ hk hP ae cc bi ab;go_wp2_with(first
    |(rw[<-ce];clear ce)
    |((with_reducible apply dj (ty:=180));exact rfl;exact rfl;exact rfl;assumption;exact rT;exact rfl;exact kZ)
    |(((with_reducible apply cQ (ty:=180));exact rfl;exact rfl;exact rfl;exact rfl;assumption;exact kZ;exact tN _);intro s hA;obtain⟨c3,hZ,hU⟩:=h4.o s hA;have bd:=((ba.o.trans (c3.mono ba.o.size)).block _ (ax fl.out)).trans fl.out;have la:=ai 0 bd;have lb:=ai 1 bd;have lc:=ai 2 bd;have a6:=ah c3;have b1:=ah (And.intro hZ hU);have fd:=ah bd;clear hA lg j0 c3 hZ hU bd)
    |fail)
   obtain⟨h2,e1⟩:=ar (((s.alloc (.cells #[.slice N (bm (aI x.t.nodes)).length M,.slice (some ⟨K,0,none⟩) d.length J,.slice (some ⟨I,0,none⟩) d.length G] 174)).alloc (.cells #[.slice (some ⟨b3,0,none⟩) e.length d9] 175)).alloc (.cells #[.func (.func 108) #[] #[.pointer (some ⟨wr.heap.size,0,none⟩)]] 181));obtain⟨Z,e9,co,cp⟩:=xu s (.cells #[.slice N (bm (aI x.t.nodes)).length M,.slice (some ⟨K,0,none⟩) d.length J,.slice (some ⟨I,0,none⟩) d.length G] 174) (.cells #[.slice (some ⟨b3,0,none⟩) e.length d9] 175) (.cells #[.func (.func 108) #[] #[.pointer (some ⟨wr.heap.size,0,none⟩)]] 181);rw[<-e1]at Z e9 co cp;have ev:=Q9 (.slice N (bm (aI x.t.nodes)).length M) (.slice (some ⟨K,0,none⟩) d.length J) (.slice (some ⟨I,0,none⟩) d.length G) (some ⟨b3,0,none⟩) e.length d9 108 #[.pointer (some ⟨wr.heap.size,0,none⟩)] s;rw[<-e1]at ev;have c8:Below l.heap.size l h2:=(ba.o.trans (a6.out.mono ba.o.size)).trans (Z.mono (aJ ba.o.size a6.out.size));have e8:=il b1.out.1 b1.out.2 Z;have hG:=Rb bb.o.1.len h5.o D.heap.size s.heap.size (s.heap.size+1) (s.heap.size+2) wr.heap.size e (.slice (some ⟨b3,0,none⟩) e.length d9) ad (fun p g=>(gf.o p g).1) p h2 co (iv.o.below c8) cp e8 (dn b1.out.2 Z.size)
    ((Z.block _ (ax fd.out)).trans fd.out) e9 (h7.o.below c8)
   obtain⟨g0,g2,cu,i1⟩:=cr ev hG Z e8;clear Z e9 co cp ev c8 e8 hG e1;refine g0.o.mono ?_;rintro f mG ⟨rfl,rfl⟩;clear g0 la lb lc;go_wp2_with fail
   refine g2.o.mono ?_;rintro f O ⟨⟨b,rfl⟩,c4⟩;have b2:Below wr.heap.size wr O:=(a6.out.trans (cu.out.mono a6.out.size)).trans (c4.mono (aJ a6.out.size cu.out.size));have cl:=il i1.out (dn b1.out.2 cu.out.size) c4;have bt:eO O V.heap.size (.slice go c.length gc) c:=aP gr.o (fun q B=>b2.block q (aF gr.o B).2);have b6:=aO h6.o b2;clear g2 c4;cases b with
   |false=>
    have cG:Hid (Az V l1.length e.length (.slice go c.length gc) (.int .i64 ((j:Int)+1)) O):=ah ⟨j+1,c,aV,eD,ad,bt,g4.o,b6⟩;clear cl bt b6 b2
    go_wp2
    go_roundw
    case rel=>exact cG.o
    case measure=>exact bh
   |true=>
    obtain⟨mB,n⟩:=p;have l0:O.cell? ⟨wr.heap.size,2,none⟩=some (.int .i64 (n:Nat)):=cl 2 _ rfl;have l3:O.cell? ⟨wr.heap.size,3,none⟩=some (.int .i64 (n:Nat)):=cl 3 _ rfl;obtain⟨fc,e2,c5⟩:=dF O (.cells #[.int .i64 (n:Nat),.int .i64 (n:Nat)] 106);have hM:fc.ownsRow V.heap.size 106 2 (.slice go c.length gc) c.length (dY c):=aP bt (fun q B=>c5.block q (aF bt B).2);have jy:∀j u,[Value.int .i64 (n:Nat),.int .i64 (n:Nat)][j]?=some u->fc.cell? ((⟨O.heap.size,0,none⟩:Addr).add j)=some u:=by rw[e2];exact dK O [.int .i64 (n:Nat),.int .i64 (n:Nat)] 106 _ rfl
    have dr:=aO b6 c5;have hp:=dr.size;obtain⟨j6,jj,j3,j4,j5⟩:=cY tO;have iw:Hid (∀(bf bg:Nat) (a5:World),a5.ownsRow V.heap.size 106 2 (.slice (some ⟨bf,0,none⟩) (c.length+1) bg) (c.length+1) (dY c++fe (n,n))->fc.grownBy a5 (Value.slice go c.length gc).ownBlock->Az V l1.length e.length (.slice (some ⟨bf,0,none⟩) (c.length+1) bg) (.int .i64 ((j:Int)+1)) a5):=ah fun bf bg a5 ae ji=>
     ⟨j+1,c++[(n,n)],aV,eD,aR,Ax rfl ae,fun q B=>by
       rcases fA.1 B with T|T
       ·exact g4.o q T
       ·simp at T;exact⟨n,T,ii.o.2⟩,dr.grown ji hp (fun q f=>(aF hM f).1)⟩
    have mm:c.length<=60:=ad;clear cl bt b6 b2 c5 dr;go_wp2_with(first
     |(rw[<-e2];clear e2)
     |(at_builtin;refine is _ rfl _ _ 112 rfl V.heap.size 106 j6 _ 2 16 uM jj j3 j4 j5 rfl ad (.slice go c.length gc) c.length (dY c) rfl hM ⟨O.heap.size,0,none⟩ 1 1 [.int .i64 (n:Nat),.int .i64 (n:Nat)] rfl rfl jy (fun z af=>by simp at af;rcases af with rfl|rfl<;>rfl) ad bI ad hp _ rfl ?_;intro bf bg a5 hN hJ jd js;have cG:=ah (iw.o bf bg a5 hN hJ);clear hN hJ jd js)
     |fail)
    go_roundw
    case rel=>exact cG.o
    case measure=>exact bh
  ·obtain rfl:j=e.length:=ad
   have ab:Below l.heap.size l wr:=a9.o.trans (bi.mono a9.o.size);have j2:w.heap.size<=V.heap.size:=aJ fT.o.size a9.o.size;have h9:Hid (Ay W0 a b o1 c1 l1 o2 c2 l2 w (.returned (.tuple #[.slice go c.length gc,.bool true,.int .i64 0])) wr):=ah
    ⟨_,c,rfl,dR ae j2,ad,cc,gu.o.below ab,fT.o.trans (cC.below ab)⟩
   clear ab ae cc bi;go_wp2_with fail
   (try simp only[Exit.inBlock,Exit.then])
   exact cg (v:=.tuple #[.slice go c.length gc,.bool true,.int .i64 0]) (by simp[results,results47]) rfl h9.o
def AC(n:Nat)(p:Pr):Prop:=∃k,p=(k,k)/\k<n
theorem AC.sm{n:Nat}{p:Pr}(a:AC n p)(c:n<=64):im p:=by obtain⟨k,rfl,b⟩:=a;exact⟨by show k<_;omega,by show k<_;omega⟩
structure nN(W1 W5:World)(a b:KB)(o1:Option Addr)(c1:Nat)(l1:List am)(o2:Option Addr)(c2:Nat)(l2:List am)(L:List Pr)(tv:Value)(wr:World):Prop where
 fd:iX W5.heap.size W5.heap.size L tv wr
 eq:∀p∈L,AC l1.length p
 some:L≠[]
 two:dg W1 a b o1 c1 l1 o2 c2 l2 wr
 far:cC a.M2 b.M2 b.M3 W5 wr
section
variable{W1 W5 w w':World} {a b:KB} {o1 o2:Option Addr} {c1 c2:Nat} {l1 l2:List am} {L:List Pr} {tv:Value}
theorem nN.below(c:nN W1 W5 a b o1 c1 l1 o2 c2 l2 L tv w)(d:Below w.heap.size w w'):nN W1 W5 a b o1 c1 l1 o2 c2 l2 L tv w':=
 ⟨c.fd.below d,c.eq,c.some,c.two.below d,c.far.trans (cC.below d)⟩
theorem nN.over(c:nN W1 W5 a b o1 c1 l1 o2 c2 l2 L tv w)(i:tT a.M2 b.M2 b.M3 W5)(g:cC a.M2 b.M2 b.M3 w w')(h:dg W1 a b o1 c1 l1 o2 c2 l2 w'):nN W1 W5 a b o1 c1 l1 o2 c2 l2 L tv w':=by obtain⟨⟨_,_,d⟩,⟨_,_,e⟩,_,_,f⟩:=i;have d:=ax d;have e:=ax e;have f:=ax f;exact⟨c.fd.over (fun q l j=>g.block q j ad ad ad),c.eq,c.some,h,c.far.trans g⟩
theorem dg.pairs{B n:Nat}{v:Value}{xs:List Value}(e:dg W1 a b o1 c1 l1 o2 c2 l2 w)(f:w.ownsRow B 106 2 v n xs)(i:W1.heap.size<=B)(c:w.grownBy w' v.ownBlock):dg W1 a b o1 c1 l1 o2 c2 l2 w':=by
 cases d:v.ownBlock with
 |none=>
  rw[d]at c;exact e.below ⟨c.os,c.tape,c.output,c.size,fun k h=>c.block k h ak⟩
 |some q=>
  rw[d]at c;obtain⟨cs,g⟩:=jV f d;exact e.other c (by have:=(aF f d).1;omega) g ap ⟨ap,ap,ap,ap⟩
end
def AE(W1 W5:World)(a b:KB)(o1:Option Addr)(c1:Nat)(l1:List am)(o2:Option Addr)(c2:Nat)(l2:List am)(g:Nat)(tv av:Value)(wr:World):Prop:=
 ∃(L:List Pr) (k:Nat),g=65537-k/\av=.int .i64 (k:Nat)/\k<=L.length/\nN W1 W5 a b o1 c1 l1 o2 c2 l2 L tv wr
def xx(W1 W5:World)(a b:KB)(o1:Option Addr)(c1:Nat)(l1:List am)(o2:Option Addr)(c2:Nat)(l2:List am)(k:Nat)(d:Value)(c:List Pr)(g:Nat)(tv e:Value)(wr:World):Prop:=
 ∃(L:List Pr) (j:Nat),g=c.length-j/\e=.int .i64 (j:Nat)/\j<=c.length/\k<L.length/\nN W1 W5 a b o1 c1 l1 o2 c2 l2 L tv wr/\eO wr W5.heap.size d c/\∀b,d.ownBlock=some b->tv.ownBlock≠some b
theorem AF(o1 o2:Option Addr)(c1 c2:Nat)(l1 l2:List am)(cl:dI l1)(co:dI l2)(bz:bT (l1.map am.t)=0)(bA:bT (l2.map am.t)=0)(cp:dG (l1.map am.t) (l2.map am.t))
 (ew:∀x∈l1,x.t.text=false->iB x) (ex:∀x∈l2,x.t.text=false->iB x) (n:Bytes) (hk:n.length<=1048576) (i:Nat) (c0:placeS (l1.map am.t) n=some i) (fx:placeS (l2.map am.t) n=some i)
 (w:World) (eA:Gl w) (G:bR w o1 c1 l1) (O:bR w o2 c2 l2):
 Calls prog 20 #[.agg #[.slice o1 l1.length c1],.string ⟨n.toArray⟩,.agg #[.slice o2 l2.length c2],.string ⟨n.toArray⟩] w fun l w'=>l=.returned (.tuple #[.bool true,.int .i64 0])/\Below w.heap.size w w':=by
 have fo:l1.length<=64:=by have:=(lO.1 bz).1;rw[cf]at this;omega
 have hg:l2.length<=64:=by have:=(lO.1 bA).1;rw[cf]at this;omega
 have fq:l2.length=l1.length:=by have:=cp.1;rwa[cf,cf]at this
 have fc:i<l1.length:=by obtain⟨t,bD,_⟩:=pP c0;have:=(aL.1 bD).1;rwa[cf]at this
 obtain⟨W1,a2⟩:=ar ((w.alloc (.cells #[.slice o1 l1.length c1] 24)).alloc (.cells #[.slice o2 l2.length c2] 24));have af:Below w.heap.size w W1:=by rw[a2];exact aG.alloc ak _
 have gu:W1.heap[w.heap.size]?=some (.cells #[.slice o1 l1.length c1] 24):=by rw[a2];exact(bk _ _ _ ak).trans (aB w _)
 have gv:W1.heap[w.heap.size+1]?=some (.cells #[.slice o2 l2.length c2] 24):=by rw[a2];have:=aB (w.alloc (.cells #[.slice o1 l1.length c1] 24)) (.cells #[.slice o2 l2.length c2] 24);rwa[bj]at this
 have d0:=ai 0 gu;have d1:=ai 0 gv;have eB:=eA.below af;have t1:=G.below af;have t2:=O.below af;have e3:=QL o1 o2 c1 c2 l1 l2 cl co bz bA n hk i c0 fx W1 t1 t2;obtain⟨eb,g5,c8,ag,b4,b6,g2,Y,bc⟩:=qM e3 fq eB (And.intro t1 t2) (And.intro cl co) (And.intro bz bA) cp (And.intro ew ex) af;have hj:= @l8 prog;clear fq e3 eB eA t1 t2 cl co bz bA cp ew ex af gu gv G O c0 fx;go_enter func20,ntmps20
 go_wp2_with(first|(rw[<-a2];clear a2)|fail)
 refine eb.o.mono ?_;rintro l r ⟨a,b,rfl,eZ,hb,hd,he⟩;unfold fY;obtain⟨bg,a3⟩:=ar ((r.alloc (.cells #[.pointer (some ⟨a.K,0,none⟩),.pointer (some ⟨b.K,0,none⟩)] 104)).alloc (.cells #[.int .i64 (i:Nat),.int .i64 (i:Nat)] 106));have en:Below r.heap.size r bg:=by rw[a3];exact aG.alloc ak _
 have P:bg.heap[r.heap.size]?=some (.cells #[.pointer (some ⟨a.K,0,none⟩),.pointer (some ⟨b.K,0,none⟩)] 104):=by rw[a3];exact(bk _ _ _ ak).trans (aB r _)
 have gl:bg.heap[r.heap.size+1]?=some (.cells #[.int .i64 (i:Nat),.int .i64 (i:Nat)] 106):=by rw[a3];have:=aB (r.alloc (.cells #[.pointer (some ⟨a.K,0,none⟩),.pointer (some ⟨b.K,0,none⟩)] 104)) (.cells #[.int .i64 (i:Nat),.int .i64 (i:Nat)] 106);rwa[bj]at this
 have cq:=eZ.below en;have cv:=QM W1 c8.o a b o1 o2 c1 c2 l1 l2 ag.o.1 ag.o.2 fo hg Y.o.1 Y.o.2 bg cq;unfold fY at cv;have ec:=ah cv;have hB:=ai 0 P;have hC:=ai 1 P;obtain⟨g8,ha,dr⟩:=bH P gl cq;clear cv P gl cq en eZ hb hd he eb d0 d1;go_wp2_with(first|(rw[<-a3];clear a3)|fail)
 refine ec.o.mono ?_;rintro l hM ⟨rfl,cs,cF⟩;clear ec hB hC;have V:=cF.cells dr.o.maps g8.out;have gr:=cF.cells dr.o.maps ha.out;have fT:=GB l1 o1 c1 W1 ag.o.1 b4.o.1 b6.o.1 _ a.K a.M1 a.M2 a.M3 (fun x a7 bD=>⟨(Y.o.1 x a7 bD).ok,(Y.o.1 x a7 bD).len⟩) hM cs.fst;obtain⟨el,ds,b7,b8⟩:=cr fT cs V gr;have hD:=ai 0 V;clear fT cs cF V gr;go_wp2_with fail
 refine el.o.mono ?_;rintro l e ⟨_,H,bE,_,_,rfl,T⟩;clear el hD;have ga:bE.length=l1.length:=by rw[T.len,cf]
 rw[cf];have cu:=ds.o.below T.base;have cx:=T.at (k:=i) (by rw[cf];exact fc);have eE:=T.row;have gg:=(T.base.block _ (ax b7.out)).trans b7.out;have b3:=(T.base.block _ (ax b8.out)).trans b8.out;have hE:=ai 0 b3;have hG:=ai 1 b3;have hs:(0:Int)<=i:=ad;have ht:(i:Int)<l1.length:=ad;have es:Below w.heap.size w e:=bc.o.trans (cu.fst.base.mono bc.o.size);obtain⟨gG,be,g1,g9,N,em⟩:=g6 es cu eE gg b3 ga;clear es cu eE gg b3 ga T ds b7 b8;cases bF:bE.getD i false with
 |false=>
  rw[bF]at cx;clear bF;go_wp2_with fail
  (try simp only[Exit.inBlock,Exit.then])
  exact cg (v:=.tuple #[.bool true,.int .i64 0]) (by simp[results,results20]) rfl ⟨rfl,gG.o⟩
 |true=>
 rw[bF]at cx;clear bF;obtain⟨Q,bN,bi⟩:=dF e (.map #[] 0);have gf:bp Q prog 106 e.heap.size 0 (fun _=>none):=by rw[bN];exact bp.made e _ _
 have bC:im (i,i):=⟨by show i<_;omega,by show i<_;omega⟩;obtain⟨C,a5,fu,s,a6⟩:=gf.set ru B9 bI (val:=.int .i64 0) (tP bC) (p9 bC);have fz:(Instr.mapUpdate 111 (.map (some e.heap.size)) (.agg #[.int .i64 (i:Nat),.int .i64 (i:Nat)]) (.int .i64 0)).run prog Q=.ok () C:=a5;have c3:fL C e.heap.size [(i,i)]:=fL.put (L:=[]) bC (fun q o=>⟨fun aa=>by simp at aa,fun _=>rfl⟩) fu;have hL:Q.heap.size=e.heap.size+1:=by rw[bN];simp
 have Z:Below e.heap.size e C:=bi.grown s ad (fun k l=>by cases l;exact az _);have hH:Q.cell? ⟨r.heap.size+1,0,none⟩=_:=ai 0 ((bi.block _ (ax N.out)).trans N.out);have hI:Q.cell? ⟨r.heap.size+1,1,none⟩=_:=ai 1 ((bi.block _ (ax N.out)).trans N.out);have hJ:C.cell? ⟨r.heap.size+1,0,none⟩=_:=ai 0 ((Z.block _ (ax N.out)).trans N.out);have hK:C.cell? ⟨r.heap.size+1,1,none⟩=_:=ai 1 ((Z.block _ (ax N.out)).trans N.out);obtain⟨c7,bZ⟩:=ar (C.alloc (.cells #[.int .i64 (i:Nat),.int .i64 (i:Nat)] 106));have er:c7.heap[C.heap.size]?=some (.cells #[.int .i64 (i:Nat),.int .i64 (i:Nat)] 106):=by rw[bZ];exact aB C _
 have b9:Below C.heap.size C c7:=by rw[bZ];exact aG
 have F:=Z.trans (b9.mono Z.size);have h0:=Z.size;have fN:Hid (AE W1 e a b o1 c1 l1 o2 c2 l2 65537 (.slice (some ⟨C.heap.size,0,none⟩) 1 1) (.int .i64 0) c7):=ah
  ⟨[(i,i)],0,rfl,rfl,ak,⟨az _,c3.of_block (b9.block _ c3.lt),⟨rfl,.inr ⟨_,1,_,rfl,ad,er,az _,bI,rfl,rfl⟩⟩,ak⟩,
    fun p m=>by simp at m;subst m;exact⟨i,rfl,fc⟩,ak,be.o.below F,cC.below F⟩
 have b5:=ah be.o.maps;have ea:Hid (W1.heap.size<=e.heap.size):=ah be.o.fst.base.size;clear bi gf bC a5 fu s a6 c3 hL Z er b9 F be;go_wp2_with(first|(rw[<-bN];clear bN)|(rw[<-bZ];clear bZ)|fail)
 clear fz hj hH hI hJ hK hE hG cx;go_loopg [16,17] 65537 (fun g tv av wr=>AE W1 e a b o1 c1 l1 o2 c2 l2 g tv av wr)
 case atStart=>exact fN.out
 case round=>
 clear fN hs ht;obtain⟨L,k,e7,rfl,hX,B⟩:=hrel;have hZ:=xn B.fd.nodup (fun p m=>by obtain⟨q,rfl,o⟩:=B.eq p m;exact⟨by show q<_;omega,by show q<_;omega⟩);obtain⟨h9,gs,rfl⟩:=bL B.fd.row;obtain⟨g4,J⟩:=aD e7 B;clear e7 B;by_cases fg:k<L.length
 ·obtain⟨p,m⟩:∃p,L[k]?=some p:=⟨_,aH fg⟩
  obtain⟨q,rfl,o⟩:=J.o.eq p (aX m);obtain⟨g,c,l,hU,bl,bo⟩:=eO.cells J.o.fd.row m;simp only at bl bo;injection l with cb K cc
  subst cb cc;have hw:(0:Int)<=k:=ad;have hx:(k:Int)<L.length:=ad;obtain⟨x,a7⟩:∃x,l1[q]?=some x:=⟨_,aH o⟩;obtain⟨y,gb⟩:∃y,l2[q]?=some y:=⟨_,aH (by have:=g5.o;omega)⟩;have eo:Below wr.heap.size wr wr.drew:=(aE _ wr).drew;have a1:=J.o.below eo;have eN:wr.drew.heap[H]?=some (.cells (bE.map Value.bool).toArray 4):=a1.far.cells b5.o g1.o;have b2:=yl W1 c8.o a b o1 o2 c1 c2 l1 l2 ag.o.1 ag.o.2 b4.o.1 b4.o.2 b6.o.1 b6.o.2 g2.o Y.o.1 Y.o.2 H bE em.o q x y a7 gb wr.drew a1.two eN;unfold fY at b2;rw[em.o]at b2;have c9:Hid (∀E,nN W1 e a b o1 c1 l1 o2 c2 l2 L (.slice (some ⟨g,0,none⟩) L.length gs) E->(E.cell? ⟨r.heap.size,0,none⟩=some (.pointer (some ⟨a.K,0,none⟩))/\E.cell? ⟨r.heap.size,1,none⟩=some (.pointer (some ⟨b.K,0,none⟩)))/\
   E.cell? ⟨g,k*2,none⟩=some (.int .i64 (q:Nat))/\E.cell? ⟨g,k*2+1,none⟩=some (.int .i64 (q:Nat))):=ah fun E a8=>by
   have e5:=a8.far.cells b5.o g9.out;obtain⟨hR,c2,K,_,hy,hz⟩:=eO.cells a8.fd.row m;injection K with K _ _
   injection K with K
   injection K with K
   subst K;exact⟨⟨ai 0 e5,ai 1 e5⟩,hy,hz⟩
  have eU:=c9.o wr.drew a1;obtain⟨g7,bb⟩:=aD b2 a1;clear b2 eN a1 eo a7 gb m bl bo J;go_wp2_with fail
  go_region_held3(fun E=>(E.cell? ⟨r.heap.size,0,none⟩=some (.pointer (some ⟨a.K,0,none⟩))/\E.cell? ⟨r.heap.size,1,none⟩=some (.pointer (some ⟨b.K,0,none⟩)))/\E.cell? ⟨g,k*2,none⟩=some (.int .i64 (q:Nat))/\E.cell? ⟨g,k*2+1,none⟩=some (.int .i64 (q:Nat)))
   (first|exact eV|exact eU)
   (first
     |(go_at_call 47;refine g7.o.mono ?_;rintro l Q ⟨h3,h,rfl,bt,hT,eC,e0,e6⟩;have ch:=bb.o.over b5.o e6 e0;have eV:=c9.o Q ch;obtain⟨go,gc,rfl⟩:=bL bt;
       have fd:Hid (xx W1 e a b o1 c1 l1 o2 c2 l2 k (.slice go h.length gc) h h.length (.slice (some ⟨g,0,none⟩) L.length gs) (.int .i64 0) Q):=ah
        ⟨L,0,rfl,rfl,aZ _,fg,ch,dR bt bb.o.far.size,fun b G O=>by have ce:=(aF bt G).1;have hS:=(aF bb.o.fd.row O).2;omega⟩;
       have g0:=ah eC;clear bt e0 e6 ch eC))
  go_wp2
  go_loopg [16,82] h.length (fun g tv hv hN=>xx W1 e a b o1 c1 l1 o2 c2 l2 k (.slice go h.length gc) h g tv hv hN)
  case atStart=>exact fd.out
  case round=>
  clear fd bb eU eV;obtain⟨f,j,e8,rfl,hW,fl,B,eD,e9⟩:=hrel;have hh:=xn B.fd.nodup (fun p m=>by obtain⟨q,rfl,o⟩:=B.eq p m;exact⟨by show q<_;omega,by show q<_;omega⟩);obtain⟨X,W,rfl⟩:=bL B.fd.row;obtain⟨ed,J,bd,bf⟩:=cr e8 B eD e9;clear e8 B eD e9 hw hx;by_cases cG:j<h.length
  ·obtain⟨p,m⟩:∃p,h[j]?=some p:=⟨_,aH cG⟩
   obtain⟨d,rfl,fy⟩:=g0.o p (aX m);have c4:im (d,d):=⟨by show d<_;omega,by show d<_;omega⟩;obtain⟨ao,hP,l,hV,bl,bo⟩:=eO.cells bd.o m;simp only at bl bo;injection l with cb K cc
   subst cb cc;have h1:(0:Int)<=j:=ad;have h2:(j:Int)<h.length:=ad;obtain⟨a9,b1,ca,bq⟩:=cm wr (.cells #[.int .i64 (d:Nat),.int .i64 (d:Nat)] 106);have h5:=ai 0 bq;have h6:=ai 1 bq;have ci:=J.o.below ca;obtain⟨v,fr⟩:=ci.fd.look c4;have fs:(Instr.lookup 111 (.map (some e.heap.size)) (.agg #[.int .i64 (d:Nat),.int .i64 (d:Nat)]) true).run prog a9=.ok (.tuple #[.int .i64 v,.bool (decide ((d,d)∈f))]) a9:=fr;have al:Hid (eO a9 e.heap.size (.slice (some ⟨ao,0,none⟩) h.length gc) h):=ah (aP bd.o (fun q o=>ca.block q (aF bd.o o).2));obtain⟨A,ek,eg,ba⟩:=cr ci c4 fy bq;clear fr ci ca bq m c4 fy;by_cases ae:(d,d)∈f
   ·have a4:decide ((d,d)∈f)=true:=lm ae
    rw[a4]at fs;have an:Hid (xx W1 e a b o1 c1 l1 o2 c2 l2 k (.slice (some ⟨ao,0,none⟩) h.length gc) h (h.length-(j+1)) (.slice X f.length W) (.int .i64 ((j:Int)+1)) a9):=ah
     ⟨f,j+1,rfl,aV,cG,fl,A.o,al.o,bf.o⟩
    clear a4 ae;go_wp2_with(first|(rw[<-b1];clear b1)|fail)
    go_roundg(h.length-(j+1))
    case rel=>exact an.o
    case measure=>have:=ed.o;omega
   ·have a4:decide ((d,d)∈f)=false:=l6 ae
    rw[a4]at fs;obtain⟨M,a5,a6,cN,s,hr⟩:=A.o.fd.put ek.o ae hh (f.length:Nat);have fz:(Instr.mapUpdate 111 (.map (some e.heap.size)) (.agg #[.int .i64 (d:Nat),.int .i64 (d:Nat)]) (.int .i64 (f.length:Nat))).run prog a9=.ok () M:=a5;obtain⟨hQ,h4,bw⟩:=A.o.fd.seen.block;have cd:=(s.block _ (ax ba.out) (fun l=>by injection l with l;rw[<-l,ba.out]at bw;cases bw)).trans ba.out;have h7:=ai 0 cd;have h8:=ai 1 cd;have e1:dg W1 a b o1 c1 l1 o2 c2 l2 M:=by obtain⟨hA,fw⟩:=List.exists_mem_of_ne_nil _ A.o.some;exact A.o.two.seen A.o.fd.seen ((A.o.eq hA fw).sm fo) fw ea.o s
    obtain⟨R,b0⟩:=ar (M.alloc (.cells #[.int .i64 (d:Nat),.int .i64 (d:Nat)] 106));have F:Below M.heap.size M R:=by rw[b0];exact aG
    have bB:R.ownsRow e.heap.size 106 2 (.slice X f.length W) f.length (dY f):=aP cN (fun q o=>F.block q (aF cN o).2);have fG:=a6.of_block (F.block _ a6.lt);have hl:∀j u,[Value.int .i64 (d:Nat),.int .i64 (d:Nat)][j]?=some u->R.cell? ((⟨M.heap.size,0,none⟩:Addr).add j)=some u:=by rw[b0];exact dK M [.int .i64 (d:Nat),.int .i64 (d:Nat)] 106 _ rfl
    have e2:=e1.below F;have ab:cC a.M2 b.M2 b.M3 e R:=by have a0:=A.o.far;have hn:=a0.size;refine cC.trans ⟨s.os.trans a0.os,s.tape.trans a0.tape,s.output.trans a0.output,aJ hn s.size,fun q c5 c6 P V=>(s.block q ad (fun l=>by injection l with l;omega)).trans (a0.block q c5 c6 P V)⟩ (cC.below F)
    have ev:=ab.size;have bu:eO R e.heap.size (.slice (some ⟨ao,0,none⟩) h.length gc) h:=by have G:eO M e.heap.size (.slice (some ⟨ao,0,none⟩) h.length gc) h:=aP al.o (fun q o=>s.block q (aF al.o o).2 (fun l=>kD al.o bw (by rw[o,l])));exact aP G (fun q o=>F.block q (aF G o).2)
    obtain⟨hu,hf,ho,hp,hq⟩:=cY tO;have ez:∀D,R.grownBy D (Value.slice X f.length W).ownBlock->cC a.M2 b.M2 b.M3 e D:=fun D I=>
     ⟨I.os.trans ab.os,I.tape.trans ab.tape,I.output.trans ab.output,aJ ev I.size,fun q c5 c6 P V=>(I.block q ad (fun l=>by have:=(aF bB l.symm).1;omega)).trans (ab.block q c5 c6 P V)⟩
    have g3:Hid (∀(S aq:Nat) (D:World),D.ownsRow e.heap.size 106 2 (.slice (some ⟨S,0,none⟩) (f.length+1) aq) (f.length+1) (dY f++fe (d,d))->R.grownBy D (Value.slice X f.length W).ownBlock->((Value.slice X f.length W).ownBlock=some S∨S=R.heap.size)->
     xx W1 e a b o1 c1 l1 o2 c2 l2 k (.slice (some ⟨ao,0,none⟩) h.length gc) h (h.length-(j+1)) (.slice (some ⟨S,0,none⟩) (f.length+1) aq) (.int .i64 ((j:Int)+1)) D):=ah fun S aq D hm I hc=>by
     refine⟨f++[(d,d)],j+1,rfl,aV,cG,aR,⟨A.o.fd.add ae fG bB I hm,fun p m=> ?_,ak,e2.pairs bB ea.o I,ez D I⟩,aP bu (fun q o=>I.block q (aF bu o).2 (fun l=>bf.o q o l.symm)),fun b G O=> ?_⟩
     ·rcases fA.1 m with aa|aa
      ·exact A.o.eq p aa
      ·simp at aa;subst aa;exact⟨d,rfl,eg.o⟩
     ·injection O with O
      subst O;rcases hc with ce|ce
      ·exact bf.o _ G ce
      ·have:=(aF bu G).2
       simp only at this;omega
    have hY:f.length+1<=65537:=ad;clear a4 ae a5 a6 cN s hr bw cd F fG bu A al ek eg ba J bd bf e1 e2 ab ez;go_wp2_with(first
     |(rw[<-b1];clear b1)
     |(rw[<-b0];clear b0)
     |(at_builtin;refine is _ rfl _ _ 112 rfl e.heap.size 106 hu _ 2 16 uM hf ho hp hq rfl ad (.slice X f.length W) f.length (dY f) rfl bB ⟨M.heap.size,0,none⟩ 1 1 [.int .i64 (d:Nat),.int .i64 (d:Nat)] rfl rfl hl (fun z a8=>by simp at a8;rcases a8 with rfl|rfl<;>rfl) ad bI ad ev _ rfl ?_;intro S aq D fv fb e4 hi;have an:=ah (g3.o S aq D fv fb e4);clear fv fb e4 hi)
     |fail)
    go_roundg(h.length-(j+1))
    case rel=>exact an.o
    case measure=>have:=ed.o;omega
  ·obtain rfl:j=h.length:=ad
   have an:Hid (AE W1 e a b o1 c1 l1 o2 c2 l2 (65537-(k+1)) (.slice X f.length W) (.int .i64 ((k:Int)+1)) wr):=ah
    ⟨f,k+1,rfl,aV,fl,J.o⟩
   go_wp2
   go_roundg(65537-(k+1))
   case rel=>exact an.o
   case measure=>have:=g4.o;omega
 ·obtain rfl:k=L.length:=ad
  go_wp2_with fail
  (try simp only[Exit.inBlock,Exit.then])
  exact cg (v:=.tuple #[.bool true,.int .i64 0]) (by simp[results,results20]) rfl ⟨rfl,bc.o.trans (J.o.two.fst.base.mono bc.o.size)⟩
end Go.Proofs.YtnadadbndcdolaaGreatDoor
