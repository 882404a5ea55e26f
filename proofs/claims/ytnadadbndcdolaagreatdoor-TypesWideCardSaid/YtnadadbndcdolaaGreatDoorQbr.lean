import Derived.Test.YtnadadbndcdolaaGreatDoorQbo
import Derived.Test.YtnadadbndcdolaaGreatDoorQbp
import Derived.Test.YtnadadbndcdolaaGreatDoorQbq
set_option linter.unusedVariables false
set_option linter.unusedSimpArgs false
set_option maxRecDepth 100000
set_option maxHeartbeats 0
namespace Go.Proofs.YtnadadbndcdolaaGreatDoor
open Go.RowKit Tryz
def tT(x y z:Nat)(w:World):Prop:=(∃a c,w.heap[x]?=some (Obj.map a c))/\(∃a c,w.heap[y]?=some (Obj.map a c))/\∃a c,w.heap[z]?=some (Obj.map a c)
theorem dg.maps{W0 w:World}{a b:KB}{o1 o2:Option Addr}{c1 c2:Nat}{l1 l2:List am}(c:dg W0 a b o1 c1 l1 o2 c2 l2 w):tT a.M2 b.M2 b.M3 w:=⟨c.made1.block,c.made2.block,c.snd.block3⟩
section
variable{x y z:Nat} {w w':World}
theorem cC.cells{q b:Nat}{cs:Array Value}{c:Nat×Nat}(g:cC x y z w w')(h:tT x y z w)(a:w.heap[q]?=some (.cells cs b c)):w'.heap[q]?=some (.cells cs b c):=by
 obtain⟨⟨i,d1,d⟩,⟨j,d2,e⟩,l,d3,f⟩:=h;refine(g.block q (ax a) ?_ ?_ ?_).trans a
 ·rintro rfl;rw[a]at d;cases d
 ·rintro rfl;rw[a]at e;cases e
 ·rintro rfl;rw[a]at f;cases f
theorem cC.row{B a size n:Nat}{v:Value}{xs:List Value}(d:cC x y z w w')(f:tT x y z w)(b:w.ownsRow B a size v n xs):w'.ownsRow B a size v n xs:=
 aP b (fun g e=>by obtain⟨cs,c⟩:=jV b e;rw[d.cells f c,c])
theorem fM.far{B:Nat}{v:Value}{l:List aj}{keys:List St}{c:List (List Nat)}(e:fM w B v l keys c)(a:cC x y z w w')(b:tT x y z w):fM w' B v l keys c:=by obtain⟨s,nv,d,t,f,g,h,i,m,n,o⟩:=e;exact⟨s,nv,d,t,f,g,a.row b h,a.row b i,m,fun j v r p q=>a.row b (n j v r p q),a.row b o⟩
theorem fM.other{B q a:Nat}{v:Value}{l:List aj}{keys:List St}{f:List (List Nat)}{cs:Array Value}(o:fM w B v l keys f)(D:w.grownBy w' (some q))(C:w.heap[q]?=some (.cells cs a (0,0)))(b:a≠9/\a≠125/\a≠3/\a≠4):fM w' B v l keys f:=by obtain⟨I,nv,m,J,p,r,s,x,y,z,A⟩:=o;have c:∀{t size n:Nat} {u:Value} {xs:List Value},a≠t->w.ownsRow B t size u n xs->w'.ownsRow B t size u n xs:=fun E d=>aP d (fun g e=>D.block g (aF d e).2 (fun h=>gR d C (fun i=>E i.symm) (by rw[e,h])));exact⟨I,nv,m,J,p,r,c b.1 s,c b.2.1 x,y,fun j v H F G=>c b.2.2.1 (z j v H F G),c b.2.2.2 A⟩
end
theorem fM.words{w:World}{B:Nat}{b nv c:Value}{l:List aj}{keys:List St}{f:List (List Nat)}(d:fM w B (.agg #[b,nv,c]) l keys f):cn w B b (bm (aI l)):=by
 obtain⟨i,h,g,j,_,a,e,_⟩:=d;injection a with a
 have:=jk Array.toList a;simp at this;rw[this.1];exact e
def xt:Array Value:=#[.slice none 0 0,.slice none 0 0,.slice none 0 0]
structure jB(W0 W:World)(a b:KB)(o1:Option Addr)(c1:Nat)(l1:List am)(o2:Option Addr)(c2:Nat)(l2:List am)(i:Nat)(x y:am)(v1 v2:Value)(k1:List St)(r1:List (List Nat))(k2:List St)(r2:List (List Nat))(cs1 cs2:Array Value)(w:World):Prop where
 two:dg W0 a b o1 c1 l1 o2 c2 l2 w
 far:cC a.M2 b.M2 b.M3 W w
 d1:fM w W0.heap.size v1 x.t.nodes k1 r1
 d2:fM w W0.heap.size v2 y.t.nodes k2 r2
 cp:w.heap[W.heap.size]?=some (.cells #[.pointer (some ⟨a.K,0,none⟩),.pointer (some ⟨b.K,0,none⟩)] 104)
 pr:w.heap[W.heap.size+1]?=some (.cells #[.int .i64 (i:Nat),.int .i64 (i:Nat)] 106)
 b1:w.heap[W.heap.size+2]?=some (.cells cs1 174)
 b2:w.heap[W.heap.size+3]?=some (.cells cs2 174)
section
variable{W0 W w w':World} {a b:KB} {o1 o2:Option Addr} {c1 c2 i:Nat} {l1 l2:List am} {x y:am} {v1 v2:Value} {k1 k2:List St} {r1 r2:List (List Nat)} {cs1 cs2:Array Value}
theorem jB.below(c:jB W0 W a b o1 c1 l1 o2 c2 l2 i x y v1 v2 k1 r1 k2 r2 cs1 cs2 w)(d:Below w.heap.size w w'):jB W0 W a b o1 c1 l1 o2 c2 l2 i x y v1 v2 k1 r1 k2 r2 cs1 cs2 w':=
 ⟨c.two.below d,c.far.trans (cC.below d),c.d1.far (cC.below d) c.two.maps,c.d2.far (cC.below d) c.two.maps,(d.block _ (ax c.cp)).trans c.cp,(d.block _ (ax c.pr)).trans c.pr,(d.block _ (ax c.b1)).trans c.b1,(d.block _ (ax c.b2)).trans c.b2⟩
theorem jB.kids(c:jB W0 W a b o1 c1 l1 o2 c2 l2 i x y v1 v2 k1 r1 k2 r2 cs1 cs2 w)(g:cT W0 (fun q=>q=b.M2∨q=a.M2∨q=a.M3) w' b.K b.M1 b.M2 b.M3 o2 c2 l2)(f:w.grownBy w' (some b.M3)):jB W0 W a b o1 c1 l1 o2 c2 l2 i x y v1 v2 k1 r1 k2 r2 cs1 cs2 w':=by have d:cC a.M2 b.M2 b.M3 w w':=cC.grown f (.inr (.inr rfl));have e:=c.two.maps;exact⟨c.two.set3 g f,c.far.trans d,c.d1.far d e,c.d2.far d e,d.cells e c.cp,d.cells e c.pr,d.cells e c.b1,d.cells e c.b2⟩
theorem jB.other{q d:Nat}{cs:Array Value}(c:jB W0 W a b o1 c1 l1 o2 c2 l2 i x y v1 v2 k1 r1 k2 r2 cs1 cs2 w)(e:w.grownBy w' (some q))(g:w.heap[q]?=some (.cells cs d (0,0)))(v:W.heap.size+4<=q)(u:W0.heap.size<=W.heap.size)(m:d≠78)(h:d≠9/\d≠125/\d≠3/\d≠4):jB W0 W a b o1 c1 l1 o2 c2 l2 i x y v1 v2 k1 r1 k2 r2 cs1 cs2 w':=by
 have f:∀p,p<w.heap.size->p≠q->w'.heap[p]?=w.heap[p]?:=fun p j l=>e.block p j (fun d=>l (by injection d));have n:=c.far.size;refine⟨c.two.other e ad g m h,⟨e.os.trans c.far.os,e.tape.trans c.far.tape,e.output.trans c.far.output,aJ n e.size,fun p o r s t=>(f p ad ad).trans (c.far.block p o r s t)⟩,c.d1.other e g h,c.d2.other e g h,
  (f _ (ax c.cp) ad).trans c.cp,(f _ (ax c.pr) ad).trans c.pr,(f _ (ax c.b1) ad).trans c.b1,(f _ (ax c.b2) ad).trans c.b2⟩
theorem jB.rowed{B n:Nat}{v:Value}{xs:List Value}(e:jB W0 W a b o1 c1 l1 o2 c2 l2 i x y v1 v2 k1 r1 k2 r2 cs1 cs2 w)(f:w.ownsRow B 180 4 v n xs)(l:W.heap.size+4<=B)(g:W0.heap.size<=W.heap.size)(c:w.grownBy w' v.ownBlock):jB W0 W a b o1 c1 l1 o2 c2 l2 i x y v1 v2 k1 r1 k2 r2 cs1 cs2 w':=by
 cases d:v.ownBlock with
 |none=>
  rw[d]at c;exact e.below ⟨c.os,c.tape,c.output,c.size,fun k j=>c.block k j ak⟩
 |some q=>
  rw[d]at c;obtain⟨cs,h⟩:=jV f d;exact e.other c h (by have:=(aF f d).1;omega) g ap ⟨ap,ap,ap,ap⟩
end
def Gv(W0:World)(a b:KB)(o1:Option Addr)(c1:Nat)(l1:List am)(o2:Option Addr)(c2:Nat)(l2:List am)(x y:am)(w:World)(c:Ending)(w':World):Prop:=
 ∃v1 v2 u k1 r1 k2 r2,c=.returned (.tuple #[v1,v2,u,.int .i64 0])/\dg W0 a b o1 c1 l1 o2 c2 l2 w'/\cC a.M2 b.M2 b.M3 w w'/\fM w' W0.heap.size v1 x.t.nodes k1 r1/\fM w' W0.heap.size v2 y.t.nodes k2 r2/\oU w' w.heap.size u (gH (l1.map am.t) (bm (aI x.t.nodes)))
theorem bR.names{w:World}{b f cap:Nat}{l:List am}(e:bR w (some ⟨b,f,none⟩) cap l){k:Nat}{x:am}(i:l[k]?=some x):w.cell? ⟨b,f+k*6,none⟩=some (.string ⟨x.t.name.toArray⟩)/\w.cell? ⟨b,f+k*6+1,none⟩=some (.string ⟨x.t.label.toArray⟩):=by
 obtain⟨b',j,a,_,g,h,_⟩:=e.at i;injection a with a
 injection a with c d
 subst c d;exact⟨g,h⟩
def Gw(W0 W c:World)(a b:KB)(o1:Option Addr)(c1:Nat)(l1:List am)(o2:Option Addr)(c2:Nat)(l2:List am)(i:Nat)(x y:am)(v1 v2:Value)(k1:List St)(r1:List (List Nat))(k2:List St)(r2:List (List Nat))(cs1 cs2:Array Value)(d:List Bytes)(f e:Value)(wr:World):Prop:=
 ∃k:Nat,e=.int .i64 (k:Nat)/\k<=d.length/\jB W0 W a b o1 c1 l1 o2 c2 l2 i x y v1 v2 k1 r1 k2 r2 cs1 cs2 wr/\c.heap.size<=wr.heap.size/\wr.ownsRow c.heap.size 180 4 f k (ik ((gH (l1.map am.t) d).take k))
theorem QZ(W0:World)(ed:Gl W0)(a b:KB)(o1 o2:Option Addr)(c1 c2:Nat)(l1 l2:List am)(c9:bR W0 o1 c1 l1)(hf:bR W0 o2 c2 l2)(eg:dI l1)(ek:dI l2)(em:bT (l1.map am.t)=0)(en:bT (l2.map am.t)=0)(hn:dG (l1.map am.t) (l2.map am.t))
 (i:Nat) (x y:am) (e1:l1[i]?=some x) (hY:l2[i]?=some y) (b8:iB x) (hj:iB y) (w:World) (eo:dg W0 a b o1 c1 l1 o2 c2 l2 w):
 Calls prog 101 #[fY a.K b.K,.agg #[.int .i64 (i:Nat),.int .i64 (i:Nat)]] w (Gv W0 a b o1 c1 l1 o2 c2 l2 x y w):=by
 have kk:=eg.len;have kl:=ek.len;have i5:l1.length<=64:=by have:=(lO.1 em).1;rw[cf]at this;omega
 have i4:l2.length<=64:=by have:=(lO.1 en).1;rw[cf]at this;omega
 obtain⟨K,a3⟩:=ar ((w.alloc (.cells #[.pointer (some ⟨a.K,0,none⟩),.pointer (some ⟨b.K,0,none⟩)] 104)).alloc (.cells #[.int .i64 (i:Nat),.int .i64 (i:Nat)] 106));have cv:Below w.heap.size w K:=by rw[a3];exact aG.alloc ak _
 have cp:K.heap.size=w.heap.size+2:=by rw[a3];simp
 have e7:K.heap[w.heap.size]?=some (.cells #[.pointer (some ⟨a.K,0,none⟩),.pointer (some ⟨b.K,0,none⟩)] 104):=by rw[a3];exact(bk _ _ _ ak).trans (aB w _)
 have e9:K.heap[w.heap.size+1]?=some (.cells #[.int .i64 (i:Nat),.int .i64 (i:Nat)] 106):=by rw[a3];have:=aB (w.alloc (.cells #[.pointer (some ⟨a.K,0,none⟩),.pointer (some ⟨b.K,0,none⟩)] 104)) (.cells #[.int .i64 (i:Nat),.int .i64 (i:Nat)] 106);rwa[bj]at this
 obtain⟨ao,bz⟩:=ar ((K.alloc (.cells #[.slice none 0 0,.slice none 0 0,.slice none 0 0] 174)).alloc (.cells #[.slice none 0 0,.slice none 0 0,.slice none 0 0] 174));have bZ:Below K.heap.size K ao:=by rw[bz];exact aG.alloc ak _
 have cu:ao.heap[w.heap.size+2]?=some (.cells xt 174):=by rw[bz,<-cp];exact(bk _ _ _ ak).trans (aB K _)
 have h2:ao.heap[w.heap.size+3]?=some (.cells xt 174):=by rw[bz];have:=aB (K.alloc (.cells #[.slice none 0 0,.slice none 0 0,.slice none 0 0] 174)) (.cells #[.slice none 0 0,.slice none 0 0,.slice none 0 0] 174);rw[bj,cp]at this;exact this
 have e8:=(bZ.block _ (ax e7)).trans e7;have fb:=(bZ.block _ (ax e9)).trans e9;have ea:Below w.heap.size w ao:=cv.trans (bZ.mono cv.size);have bw:=eo.below ea;have ho:=bw.maps;have ip:=ai 0 e8;have j1:=ai 0 fb;have cd:=xm l1 o1 c1 W0 ed c9 i5 _ a.K a.M1 a.M2 a.M3 (.inl rfl) i x e1 b8.ok b8.len ao bw.fst bw.made1;obtain⟨gs,gb,bc,fx,g0,g1,g2,g3,fz,c0⟩:=ju cd bw ho ea e8 fb cu h2 b8 hj;obtain⟨h5,fs,b0,bf,b3,fT,h6,ga,h8,b2⟩:=ju ed c9 hf e1 hY eg ek em en hn;have be:Hid (W0.heap.size<=w.heap.size):=ah eo.fst.base.size;have h9:=ah cp;clear cd bw ho ea e8 fb cu h2 b8 hj ed c9 hf e1 hY eg ek em en hn cv cp e7 e9 bZ eo;unfold fY;go_enter func101,ntmps101
 go_wp2_with(first|(rw[<-a3];clear a3)|(rw[<-bz];clear bz)|fail)
 rw[h9.o,show w.heap.size+2+1=w.heap.size+3 from rfl];refine gs.o.mono ?_;rintro aa bN ⟨⟨hk,hp,eC⟩,ev⟩;rcases ev with⟨v1,rfl,bD⟩|⟨e0,_⟩
 rotate_left
 ·exact absurd e0 fz.o.narrow
 clear gs ip j1;obtain⟨k1,r1,ew⟩:=Gk bD;obtain⟨Z,Y,W,T,Q,O,rfl,hV,_⟩:=ew.cells;have a4:cC a.M2 b.M2 b.M3 ao bN:=cC.grown eC (.inl rfl);have hw:=gb.o.set1 hk hp eC;have o:=a4.cells bc.o g2.out;have ba:=a4.cells bc.o g0.out;have bb:=a4.cells bc.o g1.out;have l:=a4.cells bc.o g3.out;unfold xt at o;have f20:=aT o 0;have f21:=aT o 1;have f22:=aT o 2;have d20:=ai 0 o;have d21:=ai 1 o;have d22:=ai 2 o;obtain⟨d,hX⟩:=ar (bm (aI x.t.nodes));obtain⟨p,bE⟩:=ar (((bN.setCell ⟨w.heap.size+2,0,none⟩ (.slice Z (bm (aI x.t.nodes)).length Y)).setCell ⟨w.heap.size+2,1,none⟩ (.slice (some ⟨W,0,none⟩) k1.length T)).setCell ⟨w.heap.size+2,2,none⟩ (.slice (some ⟨Q,0,none⟩) k1.length O));have E:bN.grownBy p (some (w.heap.size+2)):=by rw[bE];exact((iz bN _ 0 _).trans (iz _ _ 1 _)).trans (iz _ _ 2 _)
 have bB:∀q,q≠w.heap.size+2->p.heap[q]?=bN.heap[q]?:=fun q g=>by rw[bE];exact(aS _ _ _ _ _ g).trans ((aS _ _ _ _ _ g).trans (aS _ _ _ _ _ g))
 have b9:=hw.other E (by have:=be.o;omega) o ap ⟨ap,ap,ap,ap⟩;have hG:=ew.other E o ⟨ap,ap,ap,ap⟩;have g4:p.heap[w.heap.size+2]?=some (.cells #[.slice Z (bm (aI x.t.nodes)).length Y,.slice (some ⟨W,0,none⟩) k1.length T,.slice (some ⟨Q,0,none⟩) k1.length O] 174):=by rw[bE];exact bn _ _ 2 _ (bn _ _ 1 _ (bn _ _ 0 _ o))
 have c7:=(bB w.heap.size ad).trans ba;have c8:=(bB (w.heap.size+1) ad).trans bb;have g5:=(bB (w.heap.size+3) ad).trans l;have hH:cC a.M2 b.M2 b.M3 w p:=by have bt:=(cC.below fx.o).trans a4;exact⟨E.os.trans bt.os,E.tape.trans bt.tape,E.output.trans bt.output,aJ bt.size E.size,fun q m n e5 e6=>(bB q ad).trans (bt.block q m n e5 e6)⟩
 have hL:=xm l2 o2 c2 W0 h5.o b0.o i4 _ b.K b.M1 b.M2 b.M3 (.inl rfl) i y b3.o c0.o.ok c0.o.len p b9.snd b9.made2;have gu:=ah hL;have iv:=ai 1 c7;have j2:=ai 1 c8;obtain⟨c3,fy,fG,fd,fg,fl,fo,J,ia⟩:=qM b9 hG hH c7 c8 g4 g5 hX hV;clear bD ew a4 hw ba bb o l E bB b9 hG c7 c8 g4 g5 hH hL hk hp eC hV hX;go_wp2_with(first|(rw[<-bE];clear bE d20 d21 d22 f20 f21 f22)|fail)
 refine gu.o.mono ?_;rintro aa r ⟨⟨hl,hq,ag⟩,ev⟩;rcases ev with⟨v2,rfl,bD⟩|⟨e0,_⟩
 rotate_left
 ·exact absurd e0 c0.o.narrow
 clear gu iv j2;obtain⟨k2,r2,ez⟩:=Gk bD;obtain⟨H,G,X,V,R,P,rfl,jj,_⟩:=ez.cells;have af:cC a.M2 b.M2 b.M3 p r:=cC.grown ag (.inr (.inl rfl));have a2:=c3.o.maps;have hx:=c3.o.set2 hl hq ag;have hE:=fy.o.far af a2;have ba:=af.cells a2 fd.out;have bb:=af.cells a2 fg.out;have o:=af.cells a2 fl.out;have l:=af.cells a2 fo.out;unfold xt at l;have f30:=aT l 0;have f31:=aT l 1;have f32:=aT l 2;have d30:=ai 0 l;have d31:=ai 1 l;have d32:=ai 2 l;obtain⟨h,a6⟩:=ar (((r.setCell ⟨w.heap.size+3,0,none⟩ (.slice H (bm (aI y.t.nodes)).length G)).setCell ⟨w.heap.size+3,1,none⟩ (.slice (some ⟨X,0,none⟩) k2.length V)).setCell ⟨w.heap.size+3,2,none⟩ (.slice (some ⟨R,0,none⟩) k2.length P));have S:r.grownBy h (some (w.heap.size+3)):=by rw[a6];exact((iz r _ 0 _).trans (iz _ _ 1 _)).trans (iz _ _ 2 _)
 have bC:∀q,q≠w.heap.size+3->h.heap[q]?=r.heap[q]?:=fun q g=>by rw[a6];exact(aS _ _ _ _ _ g).trans ((aS _ _ _ _ _ g).trans (aS _ _ _ _ _ g))
 have hy:=hx.other S (by have:=be.o;omega) l ap ⟨ap,ap,ap,ap⟩;have cb:=hE.other S l ⟨ap,ap,ap,ap⟩;have cc:=ez.other S l ⟨ap,ap,ap,ap⟩;have b6:h.heap[w.heap.size+3]?=some (.cells #[.slice H (bm (aI y.t.nodes)).length G,.slice (some ⟨X,0,none⟩) k2.length V,.slice (some ⟨R,0,none⟩) k2.length P] 174):=by rw[a6];exact bn _ _ 2 _ (bn _ _ 1 _ (bn _ _ 0 _ l))
 have g8:=(bC w.heap.size ad).trans ba;have g9:=(bC (w.heap.size+1) ad).trans bb;have bl:=(bC (w.heap.size+2) ad).trans o;have hI:cC a.M2 b.M2 b.M3 w h:=by have bu:=fG.o.trans af;exact⟨S.os.trans bu.os,S.tape.trans bu.tape,S.output.trans bu.output,aJ bu.size S.size,fun q m n e5 e6=>(bC q ad).trans (bu.block q m n e5 e6)⟩
 have ci:aI y.t.nodes=aI x.t.nodes:=by have:=b2.o.2 i x.t y.t (by rw[bW,bf.o];rfl) (by rw[bW,b3.o];rfl);exact this.syms
 rw[ci,<-J.o]at cc b6 a6;rw[<-J.o]at bl cb;obtain⟨M,eb⟩:∃C,C=#[Value.slice Z d.length Y,.slice (some ⟨W,0,none⟩) k1.length T,.slice (some ⟨Q,0,none⟩) k1.length O]:=⟨_,rfl⟩;obtain⟨N,ec⟩:∃C,C=#[Value.slice H d.length G,.slice (some ⟨X,0,none⟩) k2.length V,.slice (some ⟨R,0,none⟩) k2.length P]:=⟨_,rfl⟩;have iw:=ai 0 bl;rw[<-eb]at bl cb;rw[<-ec]at b6 cc;have a1:jB W0 w a b o1 c1 l1 o2 c2 l2 i x y (.agg M) (.agg N) k1 r1 k2 r2 M N h:=⟨hy,hI,cb,cc,g8,g9,bl,b6⟩;rw[ci,<-J.o];obtain⟨cF,cN,b1,io⟩:=cr a1 eb ec ci;clear af a2 hx hE ba bb o l S bC hy cb cc g8 g9 bl b6 hI a1 eb ec bD ez jj hl hq ag c3 fy fG fd fg fl fo ia gb bc fx g0 g1 g2 g3 ci;go_wp2_with(first|(rw[<-a6];clear a6 d30 d31 d32 f30 f31 f32)|fail)
 clear iw;go_loopw [6,43] (fun j3 e3 wr=>Gw W0 w h a b o1 c1 l1 o2 c2 l2 i x y (.agg M) (.agg N) k1 r1 k2 r2 M N d j3 e3 wr) (fun _ e3 _=>d.length-(intOf e3).toNat)
 case atStart=>exact⟨0,rfl,aZ _,cF.o,az _,dc _ _ _ _⟩
 case round=>
 obtain⟨k,rfl,cd,D,eU,ae⟩:=hrel;obtain⟨B,A,rfl⟩:=bL ae;by_cases eD:k<d.length
 ·obtain⟨I,ch⟩:∃I,d[k]?=some I:=⟨_,aH eD⟩
  have eN:I∈aI x.t.nodes:=wT.1 (by rw[<-J.o];exact aX ch);have e2:x.t∈l1.map am.t:=l9 (aX bf.o);obtain⟨t,a5,eV⟩:=Gd ga.o e2 eN;have hR:gE x.t y.t:=b2.o.2 i x.t y.t (by rw[bW,bf.o];rfl) (by rw[bW,b3.o];rfl);have ca:=Qp ga.o b2.o e2 hR eN;have eE:labelAt (l1.map am.t) (cI (l1.map am.t) I)=t.label:=by unfold labelAt;rw[a5]
  obtain⟨t2,cl,hQ⟩:=b2.o.at a5;obtain⟨f,ce⟩:=ar (cI (l1.map am.t) I);rw[<-ce]at a5 cl ca eE;rw[eE]at ca;obtain⟨z,L,rfl⟩:∃z,l1[f]?=some z/\z.t=t:=by rw[bW]at a5;exact mV.1 a5
  obtain⟨cu,a7,rfl⟩:∃z,l2[f]?=some z/\z.t=t2:=by rw[bW]at cl;exact mV.1 cl
  have hS:cu.t.name=I:=by rw[hQ.name,eV]
  have hT:I.length<=1048576:=by rw[<-eV];exact fT.o.name z (aX L)
  have hN:z.t.label.length<=1048576:=fT.o.label z (aX L);have kc:=(aL.1 L).1;have kg:=(aL.1 a7).1;obtain⟨aq,f1,jc,_⟩:=fs.o.at L;obtain⟨av,f2,jd,_⟩:=b0.o.at a7;subst jc jd;have ex:=D.d1;rw[cN.o]at ex;have al:=ex.words;rw[<-J.o]at al;obtain⟨j7,os,ji,kb,i2⟩:=((mh al).2).at ch;subst ji;have hP:=tS D.two.fst.places hT;rw[<-ce]at hP;have kv:(0:Int)<=k:=ad;have k0:(k:Int)<d.length:=ad;have ko:(0:Int)<=f:=ad;have kp:(f:Int)<l1.length:=ad;have ks:(f:Int)<l2.length:=ad;have iT:=ai 0 D.cp;have j0:=ai 1 D.two.fst.blk;obtain⟨an,hW,c6,ha⟩:=cm wr (.cells #[.int .i64 (k:Nat),.int .i64 (-1),.int .i64 (f:Nat),.int .i64 (-1)] 180);have ds:=D.below c6;have hB:an.ownsRow h.heap.size 180 4 (.slice B k A) k (ik ((gH (l1.map am.t) d).take k)):=aP ae (fun q g=>c6.block q (aF ae g).2);have bd:Hid (∀e,jB W0 w a b (some ⟨aq,f1,none⟩) c1 l1 (some ⟨av,f2,none⟩) c2 l2 i x y (.agg M) (.agg N) k1 r1 k2 r2 M N e->(e.cell? ⟨w.heap.size,0,none⟩=some (.pointer (some ⟨a.K,0,none⟩))/\e.cell? ⟨w.heap.size,1,none⟩=some (.pointer (some ⟨b.K,0,none⟩))/\e.cell? ⟨w.heap.size+1,1,none⟩=some (.int .i64 (i:Nat))/\
   e.cell? ⟨a.K,0,none⟩=some (.slice (some ⟨aq,f1,none⟩) l1.length c1)/\e.cell? ⟨aq,f1+f*6+1,none⟩=some (.string ⟨z.t.label.toArray⟩))/\
   (e.cell? ⟨w.heap.size+3,0,none⟩=some (.slice H d.length G)/\e.cell? ⟨w.heap.size,1,none⟩=some (.pointer (some ⟨b.K,0,none⟩))/\e.cell? ⟨b.K,0,none⟩=some (.slice (some ⟨av,f2,none⟩) l2.length c2)/\e.cell? ⟨av,f2+f*6,none⟩=some (.string ⟨I.toArray⟩))):=ah fun e F=>by
   have hZ:=(fs.o.below F.two.fst.base).names L;have e4:=(b0.o.below F.two.snd.base).names a7;rw[hS]at e4;have d20:=ai 0 F.b2;rw[b1.o]at d20;exact⟨⟨ai 0 F.cp,ai 1 F.cp,ai 1 F.pr,ai 0 F.two.fst.blk,hZ.2⟩,d20,ai 1 F.cp,ai 0 F.two.snd.blk,e4.1⟩
  have s:=ds.below (aE _ an).drew;have hr:=(bd.o an.drew s).1;have hM:=Ej l2 _ c2 W0 b0.o h6.o h8.o (fun q=>q=b.M2∨q=a.M2∨q=a.M3) b.K b.M1 b.M2 b.M3 i y b3.o an.drew (fun q g=>by
   rcases g with rfl|rfl|rfl
   ·obtain⟨hb,c,bA⟩:=s.two.made2.block;exact ax bA
   ·obtain⟨hb,c,bA⟩:=s.two.made1.block;exact ax bA
   ·obtain⟨hb,c,bA⟩:=s.two.fst.block3;exact ax bA) s.two.snd
  obtain⟨gv,cG,h3,gf,fr,ib,gG,ic,ii⟩:=qM hM s ds hB ha ca ch ce hN;have c5:Hid (h.heap.size<=wr.heap.size/\w.heap.size+4<=wr.heap.size):=ah ⟨eU,ax D.b2⟩;have gg:Hid (∀q,(Value.slice B k A).ownBlock=some q->q<wr.heap.size):=ah fun q g=>(aF ae g).2;clear eN e2 a5 eV hR ca eE cl hQ ce L a7 hS hT hN ex al ch c6 ha ds hB s hM D ae eU;go_wp2_with(first|(rw[<-hW];clear hW)|fail)
  clear hP i2 j0 iT;go_region_held3(fun e=>e.cell? ⟨w.heap.size,0,none⟩=some (.pointer (some ⟨a.K,0,none⟩))/\e.cell? ⟨w.heap.size,1,none⟩=some (.pointer (some ⟨b.K,0,none⟩))/\e.cell? ⟨w.heap.size+1,1,none⟩=some (.int .i64 (i:Nat))/\
   e.cell? ⟨a.K,0,none⟩=some (.slice (some ⟨aq,f1,none⟩) l1.length c1)/\e.cell? ⟨aq,f1+f*6+1,none⟩=some (.string ⟨z.t.label.toArray⟩))
   (first|exact hs|exact hr)
   (first
     |(go_at_call 63;refine gv.o.mono ?_;rintro aa p ⟨j6,rfl,hm,fN,E⟩;have i7:=zy hm ib.o.symm ii.o;have dr:=cG.o.kids fN E;have hs:=(bd.o p dr).1;have gr:=ah E;have fu:=ah dr;clear hm fN E dr))
  have eB:cC a.M2 b.M2 b.M3 an.drew p:=cC.grown gr.o (.inr (.inr rfl));have el:=cG.o.two.maps;have bg:p.heap[wr.heap.size]?=some (.cells #[.int .i64 (k:Nat),.int .i64 (-1),.int .i64 (f:Nat),.int .i64 (-1)] 180):=eB.cells el (q:=wr.heap.size) (w:=an.drew) fr.out;have er:p.ownsRow h.heap.size 180 4 (.slice B k A) k (ik ((gH (l1.map am.t) d).take k)):=eB.row el (w:=an.drew) gf.o;have j4:=ai 3 bg;have f63:=aT bg 3;obtain⟨r,co⟩:=ar (p.setCell ⟨wr.heap.size,3,none⟩ (.int .i64 (f:Nat)));have ag:p.grownBy r (some wr.heap.size):=by rw[co];exact iz p _ 3 _
  have g7:r.heap[wr.heap.size]?=some (.cells #[.int .i64 (k:Nat),.int .i64 (-1),.int .i64 (f:Nat),.int .i64 (f:Nat)] 180):=by rw[co];exact bn _ _ 3 _ bg
  have hh:=fu.o.other ag bg c5.o.2 be.o ap ⟨ap,ap,ap,ap⟩;have hA:r.ownsRow h.heap.size 180 4 (.slice B k A) k (ik ((gH (l1.map am.t) d).take k)):=aP er (fun q g=>ag.block q (aF er g).2 (fun aa=>by injection aa with aa;have:=gg.o q g;omega));have b7:=hh.below (aE _ r).drew;have ht:=(bd.o r.drew b7).2;have eA:=b7.d2;rw[b1.o]at eA;have al:=eA.words;rw[io.o,<-J.o]at al;have js:d.length<=1048576:=by rw[J.o];exact aJ (tM _) (aJ (rp _) (by have:=fz.o.len;omega))
  obtain⟨gl,fv,cx,c4⟩:=cr (Fy d H G k I r.drew (mh al).2 (by rw[J.o];exact Aa _) gG.o js) b7 g7 hA;clear eB el bg er ag g7 hh hA b7 eA al i7 hs hr gr fu cG h3 gf fr gv;go_wp2_with(first|(rw[<-co];clear co j4 f63)|fail)
  go_region_held3(fun e=>e.cell? ⟨w.heap.size+3,0,none⟩=some (.slice H d.length G)/\e.cell? ⟨w.heap.size,1,none⟩=some (.pointer (some ⟨b.K,0,none⟩))/\e.cell? ⟨b.K,0,none⟩=some (.slice (some ⟨av,f2,none⟩) l2.length c2)/\e.cell? ⟨av,f2+f*6,none⟩=some (.string ⟨I.toArray⟩))
   (first|exact hv|exact hu|exact ht)
   (first
     |(go_at_call 165;refine gl.o.mono ?_;rintro aa cs ⟨rfl,b5⟩;have a1:=fv.o.below b5;have bi:=(b5.block _ (ax (w:=r.drew) cx.out)).trans (show r.drew.heap[wr.heap.size]?=_ from cx.out);have j5:=ai 1 bi;have f81:=aT bi 1;have hu:=(bd.o cs a1).2;have ab:=a1.other (iz cs wr.heap.size 1 (.int .i64 (k:Nat))) bi c5.o.2 be.o ap ⟨ap,ap,ap,ap⟩;have hv:=(bd.o _ ab).2;have fw:=ah ab;have fq:=ah bi;have fc:=ah b5;clear a1 bi ab b5))
  obtain⟨a8,bF⟩:=ar (cs.setCell ⟨wr.heap.size,1,none⟩ (.int .i64 (k:Nat)));rw[<-bF];have ab:=fw.o;rw[<-bF]at ab;have a0:a8.heap[wr.heap.size]?=some (.cells #[.int .i64 (k:Nat),.int .i64 (k:Nat),.int .i64 (f:Nat),.int .i64 (f:Nat)] 180):=by rw[bF];exact bn _ _ 1 _ fq.out
  have hD:cs.ownsRow h.heap.size 180 4 (.slice B k A) k (ik ((gH (l1.map am.t) d).take k)):=aP c4.o (fun q g=>fc.out.block q (aF c4.o g).2);have es:a8.ownsRow h.heap.size 180 4 (.slice B k A) k (ik ((gH (l1.map am.t) d).take k)):=aP hD (fun q g=>by rw[bF];exact aS _ _ _ _ _ (fun aa=>by have:=gg.o q g;omega));have ba:=ai 0 a0;have bb:=ai 1 a0;have o:=ai 2 a0;have l:=ai 3 a0;obtain⟨cq,eZ,b4⟩:=dF a8 (.cells #[.int .i64 (k:Nat),.int .i64 (k:Nat),.int .i64 (f:Nat),.int .i64 (f:Nat)] 180);have hg:=ab.below b4;have hz:cq.ownsRow h.heap.size 180 4 (.slice B k A) k (ik ((gH (l1.map am.t) d).take k)):=aP es (fun q g=>b4.block q (aF es g).2);have jb:∀j u,[Value.int .i64 (k:Nat),.int .i64 (k:Nat),.int .i64 (f:Nat),.int .i64 (f:Nat)][j]?=some u->cq.cell? ((⟨a8.heap.size,0,none⟩:Addr).add j)=some u:=by rw[eZ];exact dK a8 [.int .i64 (k:Nat),.int .i64 (k:Nat),.int .i64 (f:Nat),.int .i64 (f:Nat)] 180 _ rfl
  have km:=ax a0;have hi:h.heap.size<=cq.heap.size:=by have:=b4.size;have:=c5.o.1;omega
  have jp:w.heap.size+4<=h.heap.size:=ax cF.o.b2;obtain⟨jy,i3,F,jv,a7⟩:=cY Qq;have bf:Hid (∀(bo bq:Nat) (a9:World),a9.ownsRow h.heap.size 180 4 (.slice (some ⟨bo,0,none⟩) (k+1) bq) (k+1) (ik ((gH (l1.map am.t) d).take k)++[Value.int .i64 (k:Nat),.int .i64 (k:Nat),.int .i64 (f:Nat),.int .i64 (f:Nat)])->cq.grownBy a9 (Value.slice B k A).ownBlock->
   Gw W0 w h a b (some ⟨aq,f1,none⟩) c1 l1 (some ⟨av,f2,none⟩) c2 l2 i x y (.agg M) (.agg N) k1 r1 k2 r2 M N d (.slice (some ⟨bo,0,none⟩) (k+1) bq) (.int .i64 ((k:Int)+1)) a9):=ah fun bo bq a9 je hJ=>
   ⟨k+1,aV,eD,hg.rowed hz jp be.o hJ,aJ hi hJ.size,by rw[Qn gG.o,Qr,<-ic.o];exact je⟩
  clear ab a0 hD es b4 hg fw fq fc c4 cx fv gl ht hu hv j5 f81 bF;go_wp2_with(first
   |(rw[<-eZ];clear eZ)
   |(at_builtin;refine is _ rfl _ _ 175 rfl h.heap.size 180 jy _ 4 32 IZ i3 F jv a7 rfl ad (.slice B k A) k (ik ((gH (l1.map am.t) d).take k)) rfl hz ⟨a8.heap.size,0,none⟩ 1 1 [Value.int .i64 (k:Nat),.int .i64 (k:Nat),.int .i64 (f:Nat),.int .i64 (f:Nat)] rfl rfl jb (fun z L=>by simp at L;rcases L with rfl|rfl<;>rfl) ad bI ad hi _ rfl ?_;intro bo bq a9 hU hK i1 i9;have h7:=ah (bf.o bo bq a9 hU hK);clear hU hK i1 i9)
   |fail)
  go_roundw
  case rel=>exact h7.o
  case measure=>exact bh
 ·obtain rfl:k=d.length:=ad
  have m:=D.b1;have n:=D.b2;rw[cN.o]at m;rw[b1.o]at n;have d0:wr.drew.cell? ⟨w.heap.size+2,0,none⟩=_:=ai 0 m;have d1:wr.drew.cell? ⟨w.heap.size+2,1,none⟩=_:=ai 1 m;have d2:wr.drew.cell? ⟨w.heap.size+2,2,none⟩=_:=ai 2 m;have hc:wr.drew.cell? ⟨w.heap.size+3,0,none⟩=_:=ai 0 n;have hd:wr.drew.cell? ⟨w.heap.size+3,1,none⟩=_:=ai 1 n;have he:wr.drew.cell? ⟨w.heap.size+3,2,none⟩=_:=ai 2 n;have t0:wr.drew.setCell ⟨w.heap.size+2,0,none⟩ (.slice Z d.length Y)=wr.drew:=lR (w:=wr.drew) m rfl;have t1:wr.drew.setCell ⟨w.heap.size+2,1,none⟩ (.slice (some ⟨W,0,none⟩) k1.length T)=wr.drew:=lR (w:=wr.drew) m rfl;have t2:wr.drew.setCell ⟨w.heap.size+2,2,none⟩ (.slice (some ⟨Q,0,none⟩) k1.length O)=wr.drew:=lR (w:=wr.drew) m rfl;have la:wr.drew.setCell ⟨w.heap.size+3,0,none⟩ (.slice H d.length G)=wr.drew:=lR (w:=wr.drew) n rfl;have v1:wr.drew.setCell ⟨w.heap.size+3,1,none⟩ (.slice (some ⟨X,0,none⟩) k2.length V)=wr.drew:=lR (w:=wr.drew) n rfl;have v2:wr.drew.setCell ⟨w.heap.size+3,2,none⟩ (.slice (some ⟨R,0,none⟩) k2.length P)=wr.drew:=lR (w:=wr.drew) n rfl;have k3:wr.drew.frozen? ⟨w.heap.size+2,0,none⟩=false:=aT (w:=wr.drew) m 0;have k4:wr.drew.frozen? ⟨w.heap.size+2,1,none⟩=false:=aT (w:=wr.drew) m 1;have k5:wr.drew.frozen? ⟨w.heap.size+2,2,none⟩=false:=aT (w:=wr.drew) m 2;have k7:wr.drew.frozen? ⟨w.heap.size+3,0,none⟩=false:=aT (w:=wr.drew) n 0;have hZ:wr.drew.frozen? ⟨w.heap.size+3,1,none⟩=false:=aT (w:=wr.drew) n 1;have e4:wr.drew.frozen? ⟨w.heap.size+3,2,none⟩=false:=aT (w:=wr.drew) n 2;have h4:Hid (Gv W0 a b o1 c1 l1 o2 c2 l2 x y w (.returned (.tuple #[.agg #[.slice Z d.length Y,.slice (some ⟨W,0,none⟩) k1.length T,.slice (some ⟨Q,0,none⟩) k1.length O],.agg #[.slice H d.length G,.slice (some ⟨X,0,none⟩) k2.length V,.slice (some ⟨R,0,none⟩) k2.length P],.slice B d.length A,.int .i64 0])) wr.drew):=ah (by have s:=D.below (aE _ wr).drew;have h0:=s.d1;have h1:=s.d2;rw[cN.o]at h0;rw[b1.o]at h1;refine⟨_,_,_,k1,r1,k2,r2,rfl,s.two,s.far,h0,h1,?_⟩;rw[<-J.o];unfold oU;rw[Ar];have hC:wr.drew.ownsRow h.heap.size 180 4 (.slice B d.length A) d.length (ik ((gH (l1.map am.t) d).take d.length)):=ae;rw[dh (by rw[Ar];exact az _)]at hC;exact dR hC cF.o.far.size)
  have i0:(wr.drew.cell? ⟨w.heap.size+2,0,none⟩=some (.slice Z d.length Y)/\wr.drew.cell? ⟨w.heap.size+2,1,none⟩=some (.slice (some ⟨W,0,none⟩) k1.length T)/\wr.drew.cell? ⟨w.heap.size+2,2,none⟩=some (.slice (some ⟨Q,0,none⟩) k1.length O))/\wr.drew.cell? ⟨w.heap.size+3,0,none⟩=some (.slice H d.length G)/\wr.drew.cell? ⟨w.heap.size+3,1,none⟩=some (.slice (some ⟨X,0,none⟩) k2.length V)/\wr.drew.cell? ⟨w.heap.size+3,2,none⟩=some (.slice (some ⟨R,0,none⟩) k2.length P):=⟨⟨d0,d1,d2⟩,hc,hd,he⟩;clear m n D ae eU cd eD;go_wp2_with fail
  go_region_held3(fun e=>(e.cell? ⟨w.heap.size+2,0,none⟩=some (.slice Z d.length Y)/\e.cell? ⟨w.heap.size+2,1,none⟩=some (.slice (some ⟨W,0,none⟩) k1.length T)/\e.cell? ⟨w.heap.size+2,2,none⟩=some (.slice (some ⟨Q,0,none⟩) k1.length O))/\e.cell? ⟨w.heap.size+3,0,none⟩=some (.slice H d.length G)/\e.cell? ⟨w.heap.size+3,1,none⟩=some (.slice (some ⟨X,0,none⟩) k2.length V)/\e.cell? ⟨w.heap.size+3,2,none⟩=some (.slice (some ⟨R,0,none⟩) k2.length P))
   (exact i0) (fail)
  go_wp2_with fail
  (try simp only[Exit.inBlock,Exit.then])
  exact cg (v:=.tuple #[.agg #[.slice Z d.length Y,.slice (some ⟨W,0,none⟩) k1.length T,.slice (some ⟨Q,0,none⟩) k1.length O],.agg #[.slice H d.length G,.slice (some ⟨X,0,none⟩) k2.length V,.slice (some ⟨R,0,none⟩) k2.length P],.slice B d.length A,.int .i64 0]) (by simp[results,results101,go_sem,d0,d1,d2,hc,hd,he,rS]) rfl h4.o
end Go.Proofs.YtnadadbndcdolaaGreatDoor
