import Derived.Test.YtbacloblanpghaaGreatDoorQbb
import Derived.Test.YtbacloblanpghaaGreatDoorQbg
set_option linter.unusedVariables false
set_option linter.unusedSimpArgs false
set_option maxRecDepth 100000
set_option maxHeartbeats 0
namespace Go.Proofs.YtbacloblanpghaaGreatDoor
open Go.RowKit Tryz
def Dr:Prop:=∀(t:Tr) (r:KA) (w:World),Gl w->dN w t r->(∀m∈nodesT t,kT m)->Calls prog 30 #[bJ t r] w fun a w'=>a=.returned (.int .i64 (fW t))/\Below w.heap.size w w'
def uP(ts:List ax)(n:Bytes)(t:Tr)(q:Int):Prop:=
 (bW ts≠0/\q=bW ts)∨(bW ts=0/\((placeS ts n=none/\q=16)∨∃a,placeS ts n=some a/\((fW t≠0/\q=fW t)∨(fW t=0/\((fw ts a t/\q=0)∨(¬fw ts a t/\q=22))))))
def yl(ts:List ax)(n:Bytes)(t:Tr)(w:World)(a:Ending)(w':World):Prop:=(∃q,a=.returned (.int .i64 q)/\uP ts n t q)/\Below w.heap.size w w'
theorem Dt(bi:xZ)(bq:Dr)(l:List am)(o:Option Addr)(cap:Nat)(I:ej l)(bm:∀x∈l,x.t.nodes.length<=60)(n:Bytes)(bl:n.length<=1048576)(t:Tr)(r:KA)(w:World)(Y:Gl w)(j:cn w o cap l)(ao:dN w t r)(an:∀m∈nodesT t,kT m):
 Calls prog 10 #[.agg #[.slice o l.length cap],.string ⟨n.toArray⟩,bJ t r] w (yl (l.map am.t) n t w):=by
 have bw:=j.1.2.1;have be:=j.1.2.2.1;unfold maxLen at be;obtain⟨w1,u⟩:=aj ((w.alloc (.cells #[.slice o l.length cap] 24)).alloc (.cells #[.string ⟨t.label.toArray⟩,.string ⟨t.text.toArray⟩,.slice r.ao t.attrs.length r.ac,.slice r.ko t.kids.length r.kc] 29));have g:Below w.heap.size w w1:=by rw[u];exact az.alloc ak _
 have G:w1.heap[w.heap.size]?=some (.cells #[.slice o l.length cap] 24):=by rw[u];exact(bH _ _ _ ak).trans (aC w _)
 have H:w1.heap[w.heap.size+1]?=some (.cells #[.string ⟨t.label.toArray⟩,.string ⟨t.text.toArray⟩,.slice r.ao t.attrs.length r.ac,.slice r.ko t.kids.length r.kc] 29):=by rw[u];have:=aC (w.alloc (.cells #[.slice o l.length cap] 24)) (.cells #[.string ⟨t.label.toArray⟩,.string ⟨t.text.toArray⟩,.slice r.ao t.attrs.length r.ac,.slice r.ko t.kids.length r.kc] 29);rwa[bI]at this
 have M:=CS l o cap w1 (j.below g) I;unfold xQ at M;have bc:=ai 0 G;have bu:=aL G;have bg:=aL H;have V:∀(q:Int) (b:World),Below w1.heap.size w1 b->uP (l.map am.t) n t q->yl (l.map am.t) n t w (.returned (.int .i64 q)) b:=fun q b e bo=>⟨⟨q,rfl,bo⟩,aD g e⟩;obtain⟨h,a4⟩:=aE V M;have f:Hid (∀b,Below w1.heap.size w1 b->cn b o cap l/\dN b t r/\Gl b):=fun b e=>⟨(j.below g).below e,(ao.below g).below e,(Y.below g).below e⟩;have R:Hid (∀b,Below w1.heap.size w1 b->b.cell? ⟨w.heap.size+1,0,none⟩=some (.string ⟨t.label.toArray⟩)/\b.cell? ⟨w.heap.size+1,1,none⟩=some (.string ⟨t.text.toArray⟩)/\b.cell? ⟨w.heap.size+1,2,none⟩=some (.slice r.ao t.attrs.length r.ac)/\b.cell? ⟨w.heap.size+1,3,none⟩=some (.slice r.ko t.kids.length r.kc)):=fun b e=>by have z:=(e.block _ bg).trans H;exact⟨ai 0 z,ai 1 z,ai 2 z,ai 3 z⟩
 have W:=ah an;clear M V g G H j ao Y an;unfold bJ;go_enter func10,ntmps10
 go_wp2_with fail
 rw[<-u];clear u;go_wp2_with fail
 refine a4.o.mono ?_;rintro c P ⟨L,⟨O,rfl⟩|⟨K,a6,rfl,a7,a9,ba,Z,_⟩⟩
 ·have bf:(bW (l.map am.t)==0)=false:=by simpa using O
  have d:=ah (h.o _ P L (.inl ⟨O,rfl⟩));clear O
  go_wp2
  go_ret;exact d.o
 have S:=ah (Z (fun _=>False));have bd:=S.o.blk;have aq:=ai 0 bd;have B:=Ba l o cap P (f.o P L).1 I n bl;have i:=ah K;unfold kQ at B;rw[au K]at B;have T:=ah B;clear K Z B bc;go_wp2_with fail
 refine T.o.mono ?_;rintro c v ⟨rfl,ag⟩;clear T;have p:=aD L ag;cases s:placeS (l.map am.t) n with
 |none=>
  have d:=ah (h.o 16 v p (.inr ⟨i.o,.inl ⟨s,rfl⟩⟩));clear s aq
  go_wp2
  go_ret;exact d.o
 |some a=>
 have E:=ah s;have ab:=tF s;rw[cd]at ab;obtain⟨av,a0,a1,a2⟩:=R.o v p;have D:=bq t r v (f.o v p).2.2 (f.o v p).2.1 W.o;unfold bJ at D;obtain⟨F,J⟩:=aj (fW t);rw[<-J]at D;obtain⟨y,X⟩:=aE J D;clear s aq J D;go_wp2_with fail
 refine X.o.mono ?_;rintro c Q ⟨rfl,al⟩;clear X av a0 a1 a2;have ae:=aD p al;by_cases C:F=0
 ·subst C
  obtain⟨av,a0,a1,a2⟩:=R.o Q ae;have N:=LU bi l o cap i.o I bm w1 (f.o w1 (aA _ _)).2.2 (f.o w1 (aA _ _)).1 a6 a7 a9 ba (SizeOf.sizeOf t) a t r (fun _=>False) Q (aB _) ab (f.o w1 (aA _ _)).2.1 W.o (fun q c=>c.elim) ((S.o.kept (bP ag none) (fun q c=>by cases c)).kept (bP al none) (fun q c=>by cases c));unfold uK bJ at N;have a5:=ah N;clear N;go_wp2_with fail
  refine a5.o.mono ?_;rintro c a3 ⟨⟨bb,rfl,A⟩,aa,bt⟩;have af:=aa.base;clear aa;cases bb with
  |true=>
   have d:=ah (h.o 0 a3 af (.inr ⟨i.o,.inr ⟨a,E.o,.inr ⟨y.o.symm,.inl ⟨A.1 rfl,rfl⟩⟩⟩⟩));clear A
   go_wp2
   go_ret;exact d.o
  |false=>
   have d:=ah (h.o 22 a3 af (.inr ⟨i.o,.inr ⟨a,E.o,.inr ⟨y.o.symm,.inr ⟨(fun c=>by cases A.2 c),rfl⟩⟩⟩⟩));clear A
   go_wp2
   go_ret;exact d.o
 ·have bf:(F==0)=false:=by simpa using C
  have d:=ah (h.o F Q ae (.inr ⟨i.o,.inr ⟨a,E.o,.inl ⟨by rw[<-y.o];exact C,y.o⟩⟩⟩));clear C
  go_wp2
  go_ret;exact d.o
section
def rR:Array Value:=#[.int .i64 12,.func (.func 96) #[] #[],.int .i64 11,.func (.func 97) #[] #[],.int .i64 10,.func (.func 101) #[] #[],.int .i64 18,.func (.func 104) #[] #[],.int .i64 14,.func (.func 105) #[] #[],.int .i64 15,.func (.func 106) #[] #[]]
theorem Mq(w:World):Calls prog 61 #[] w fun a w'=>a=.returned (.slice (some ⟨w.heap.size,0,none⟩) 6 6)/\w'=w.alloc (.cells rR 128):=by
 unfold rR;go_enter func61,ntmps61
 go_wp2
 go_ret;exact⟨rfl,rfl⟩
theorem Du{W:World}{B b size n l:Nat}{v:Value}{xs:List Value}{o o':Obj}(h:W.ownsRow B b size v n xs)(j:W.heap[l]?=some o)(i:o.isCells=false):(W.putObj l o').ownsRow B b size v n xs:=by
 refine⟨h.1,?_⟩;rcases h.2 with d|⟨g,cap,c,m,f,a,e⟩
 ·exact .inl d
 ·refine .inr ⟨g,cap,c,m,f,?_,e⟩
  rw[dJ (fun b=>by
   subst b;rw[j]at a;injection a with a
   subst a;cases i)]
  exact a
theorem aY{W W':World}{B a size n:Nat}{v:Value}{xs:List Value}(h:W.ownsRow B a size v n xs)(f:∀g,v.ownBlock=some g->W'.heap[g]?=W.heap[g]?):W'.ownsRow B a size v n xs:=by
 refine⟨h.1,?_⟩;rcases h.2 with c|⟨g,cap,b,rfl,e,i,d⟩
 ·exact .inl c
 ·exact .inr ⟨g,cap,b,rfl,e,(f g rfl).trans i,d⟩
def SCk(a:Nat)(W:World)(b:Nat):Prop:=(∃v n xs,W.heap[a]?=some (.cells #[v] 27)/\W.ownsRow (a+1) 29 4 v n xs/\v.ownBlock≠some b)/\b≠a/\b<W.heap.size
theorem aV{W:World}{B a size n g:Nat}{v:Value}{xs:List Value}(h:W.ownsRow B a size v n xs)(d:v.ownBlock=some g):B<=g/\g<W.heap.size:=by obtain⟨b,c,_⟩:=uJ h g d;exact⟨b,c⟩
theorem jY(r:Nat):lT (SCk r):=by
 refine⟨fun h=>h.2.2,?_,?_,?_⟩
 ·rintro W W' b ⟨⟨v,n,xs,a,c,e⟩,f,i⟩ d
  exact⟨⟨v,n,xs,(d.block _ (aN a)).trans a,aY c (fun g m=>d.block g (aV c m).2),e⟩,f,eR i d.size⟩
 ·rintro W W' b t ⟨⟨v,n,xs,a,c,e⟩,f,i⟩ d w s
  have:=aN a;exact⟨⟨v,n,xs,(d.block _ (aN a)).trans a,aY c (fun g m=>d.block g (aV c m).2),fun j=>by have:=(aV c j).2;omega⟩,ad,s⟩
 ·rintro W b l o o' ⟨⟨v,n,xs,a,c,e⟩,f,i⟩ q p u
  refine⟨⟨v,n,xs,?_,Du c q p,e⟩,f,by rw[k9];exact i⟩;rw[dJ (fun j=>by
   subst j;rw[q]at a;injection a with a
   subst a;cases p)]
  exact a
structure kE(w0:World)(NB:Nat)(t:Tr)(k:Nat)(W:World)(v:Value)(rs:List KA):Prop where
 base:Below w0.heap.size w0 W
 nb:w0.heap.size<=NB
 box:W.heap[NB]?=some (.cells #[v] 27)
 len:rs.length=k
 own:W.ownsRow (NB+1) 29 4 v k (kidRows ((nodesT t).take k) rs)
 tr:∀(i:Nat) (m:Tr) (q:KA),(nodesT t)[i]?=some m->rs[i]?=some q->cg W (SCk NB W) m q
theorem kE.below{w0 W W':World}{a:Nat}{t:Tr}{k:Nat}{v:Value}{rs:List KA}(h:kE w0 a t k W v rs)(b:Below W.heap.size W W'):kE w0 a t k W' v rs:=
 ⟨h.base.trans (b.mono h.base.size),h.nb,(b.block _ (aN h.box)).trans h.box,h.len,aY h.own (fun g e=>b.block g (aV h.own e).2),fun i m q c d=>(Kp.of (jY a) b).tree (jY a) (h.tr i m q c d)⟩
theorem kE.put{w0 W:World}{c:Nat}{t:Tr}{k l:Nat}{v:Value}{rs:List KA}{o o':Obj}(h:kE w0 c t k W v rs)(p:w0.heap.size<=l)(e:W.heap[l]?=some o)(d:o.isCells=false)(n:o'.isCells=false):kE w0 c t k (W.putObj l o') v rs:=
 ⟨⟨h.base.os,h.base.tape,h.base.output,by rw[k9];exact h.base.size,fun b j=>(dJ ad).trans (h.base.block b j)⟩,h.nb,
   (dJ (fun f=>by have a:=h.box;rw[f,e]at a;injection a with a;subst a;cases d)).trans h.box,h.len,Du h.own e d,fun i m q a g=>uN (jY c) e d n (h.tr i m q a g)⟩
structure mN(NB:Nat)(X Y:World)(v v':Value)(k:Nat)(row:List Value)(nb:Value):Prop where
 os:Y.os=X.os
 tape:Y.tape=X.tape
 output:Y.output=X.output
 size:X.heap.size<=Y.heap.size
 block:∀b,b<X.heap.size->b≠NB->v.ownBlock≠some b->Y.heap[b]?=X.heap[b]?
 own:Y.ownsRow (NB+1) 29 4 v' (k+1) row
 nbc:Y.heap[NB]?=some (.cells #[nb] 27)
 nblk:∀g,v'.ownBlock=some g->v.ownBlock=some g∨X.heap.size<=g
theorem Mr{ks:List Tr}{rs:List KA}{k:Tr}{q:KA}(h:rs.length=ks.length):kidRows (ks++[k]) (rs++[q])=kidRows ks rs++lx k q:=by unfold kidRows;rw[List.zip_append ad,pE];simp
theorem mN.done{w0 X Y:World}{e:Nat}{t:Tr}{k:Nat}{v g:Value}{rs:List KA}{x:Tr}{q:KA}(h:kE w0 e t k X v rs)(n:(nodesT t)[k]?=some x)(u:cg X (SCk e X) x q)(c:mN e X Y v g k (kidRows ((nodesT t).take k) rs++lx x q) g):
 kE w0 e t (k+1) Y g (rs++[q])/\Kp (SCk e) X Y:=by
 have z:=(aP.1 n).1;have j:Kp (SCk e) X Y:=⟨c.size,fun b l=>by
  obtain⟨⟨y,B,C,a,d,p⟩,r,s⟩:=l;have f:y=v:=by rw[h.box]at a;injection a with a;injection a with a;simpa using a.symm
  subst f;refine⟨⟨⟨g,_,_,c.nbc,c.own,fun f=> ?_⟩,r,eR s c.size⟩,c.block b s r p⟩;rcases c.nblk b f with o|o
  ·exact p o
  ·omega⟩
 refine⟨⟨⟨c.os.trans h.base.os,c.tape.trans h.base.tape,c.output.trans h.base.output,aR h.base.size c.size,fun b l=> ?_⟩,h.nb,c.nbc,by simp[h.len],?_,fun i m w a d=> ?_⟩,j⟩
 ·have A:=h.base.size
  have:=h.nb;refine(c.block b ad ad (fun f=> ?_)).trans (h.base.block b l);have:=(aV h.own f).1;omega
 ·rw[bG,n,dR,Mr (by rw[dx,h.len];omega)]
  exact c.own
 ·by_cases f:i<k
  ·rw[eF (by rw[h.len];exact f)]at d
   exact j.tree (jY e) (h.tr i m w a d)
  ·rw[gH (by rw[h.len];omega),h.len]at d
   have:i=k:=by have:=(aP.1 d).1;simp at this;omega
   subst this;rw[qE]at d;injection d with d
   subst d;rw[n]at a;injection a with a
   subst a;exact j.tree (jY e) u
structure R7(v xv kv:Value)(own:World->Value->Prop)(C:World->Value->Bool->Bool->Prop)(AD:Value->Value->Prop)(IB:World->Prop)(B:Nat->Bool)(Y:World)(v19 v20 v21 v22 v23 v24:Value):Prop where
 j0:B 0=true->v19=v
 j1:B 1=true->v20=xv
 j2:B 2=true->v21=kv
 j3:B 3=true->B 4=false->own Y v22
 j5:B 5=true->AD v23 v24
 jp:B 4=true->C Y v23 (B 6) (B 7)
 jb:B 4=false->IB Y
 d4:B 4=true->B 0=true/\B 1=true/\B 2=true/\B 3=true
 d5:B 5=true->B 4=true
 d6:B 6=true->B 5=true
 d7:B 7=true->B 4=true
section
variable{v xv kv:Value} {own:World->Value->Prop} {C:World->Value->Bool->Bool->Prop} {AD:Value->Value->Prop} {IB:World->Prop} {B B':Nat->Bool} {Y Y':World} {v19 v20 v21 v22 v23 v24:Value}
 (h:R7 v xv kv own C AD IB B Y v19 v20 v21 v22 v23 v24)
include h
theorem R7.n4{i:Nat}(m:i=0∨i=1∨i=2∨i=3)(n:B i=false):B 4=false/\B 5=false/\B 6=false/\B 7=false:=by
 have f:B 4=false:=by
  cases e:B 4 with
  |false=>rfl
  |true=>
   obtain⟨a,b,c,d⟩:=h.d4 e;rcases m with rfl|rfl|rfl|rfl<;>simp_all
 have g:B 5=false:=by cases e:B 5 with
  |false=>rfl
  |true=>rw[h.d5 e]at f;cases f
 have j:B 6=false:=by cases e:B 6 with
  |false=>rfl
  |true=>rw[h.d6 e]at g;cases g
 have l:B 7=false:=by cases e:B 7 with
  |false=>rfl
  |true=>rw[h.d7 e]at f;cases f
 exact⟨f,g,j,l⟩
theorem R7.s0(b:∀j,B' j=(decide (j=0)||B j))(g:B 0=false):R7 v xv kv own C AD IB B' Y v v20 v21 v22 v23 v24:=by obtain⟨c,d,e,f⟩:=h.n4 (i:=0) ak g;exact⟨fun _=>rfl,fun a=>h.j1 (by simpa[b]using a),fun a=>h.j2 (by simpa[b]using a),fun a _=>h.j3 (by simpa[b]using a) c,fun a=>by simp[b,d]at a,fun a=>by simp[b,c]at a,fun _=>h.jb c,fun a=>by simp[b,c]at a,fun a=>by simp[b,d]at a,fun a=>by simp[b,e]at a,fun a=>by simp[b,f]at a⟩
theorem R7.s1(b:∀j,B' j=(decide (j=1)||B j))(g:B 1=false):R7 v xv kv own C AD IB B' Y v19 xv v21 v22 v23 v24:=by obtain⟨c,d,e,f⟩:=h.n4 (i:=1) ak g;exact⟨fun a=>h.j0 (by simpa[b]using a),fun _=>rfl,fun a=>h.j2 (by simpa[b]using a),fun a _=>h.j3 (by simpa[b]using a) c,fun a=>by simp[b,d]at a,fun a=>by simp[b,c]at a,fun _=>h.jb c,fun a=>by simp[b,c]at a,fun a=>by simp[b,d]at a,fun a=>by simp[b,e]at a,fun a=>by simp[b,f]at a⟩
theorem R7.s2(b:∀j,B' j=(decide (j=2)||B j))(g:B 2=false):R7 v xv kv own C AD IB B' Y v19 v20 kv v22 v23 v24:=by obtain⟨c,d,e,f⟩:=h.n4 (i:=2) ak g;exact⟨fun a=>h.j0 (by simpa[b]using a),fun a=>h.j1 (by simpa[b]using a),fun _=>rfl,fun a _=>h.j3 (by simpa[b]using a) c,fun a=>by simp[b,d]at a,fun a=>by simp[b,c]at a,fun _=>h.jb c,fun a=>by simp[b,c]at a,fun a=>by simp[b,d]at a,fun a=>by simp[b,e]at a,fun a=>by simp[b,f]at a⟩
theorem R7.s3{u:Value}(b:∀j,B' j=(decide (j=3)||B j))(l:B 3=false)(m:own Y' u)(g:IB Y'):R7 v xv kv own C AD IB B' Y' v19 v20 v21 u v23 v24:=by obtain⟨c,d,e,f⟩:=h.n4 (i:=3) ak l;exact⟨fun a=>h.j0 (by simpa[b]using a),fun a=>h.j1 (by simpa[b]using a),fun a=>h.j2 (by simpa[b]using a),fun _ _=>m,fun a=>by simp[b,d]at a,fun a=>by simp[b,c]at a,fun _=>g,fun a=>by simp[b,c]at a,fun a=>by simp[b,d]at a,fun a=>by simp[b,e]at a,fun a=>by simp[b,f]at a⟩
theorem R7.s4{u:Value}(b:∀j,B' j=(decide (j=4)||B j))(d:B 4=false)(e:B 0=true)(f:B 1=true)(g:B 2=true)(m:B 3=true)(n:C Y' u false false):R7 v xv kv own C AD IB B' Y' v19 v20 v21 v22 u v24:=by
 have c:B 5=false:=by cases a:B 5 with
  |false=>rfl
  |true=>rw[h.d5 a]at d;cases d
 have i:B 6=false:=by cases a:B 6 with
  |false=>rfl
  |true=>rw[h.d6 a]at c;cases c
 have l:B 7=false:=by cases a:B 7 with
  |false=>rfl
  |true=>rw[h.d7 a]at d;cases d
 exact⟨fun _=>h.j0 e,fun _=>h.j1 f,fun _=>h.j2 g,fun _ a=>by simp[b]at a,fun a=>by simp[b,c]at a,fun _=>by simpa[b,i,l]using n,fun a=>by simp[b]at a,fun _=>by simp[b,e,f,g,m],fun a=>by simp[b,c]at a,fun a=>by simp[b,i]at a,fun a=>by simp[b,l]at a⟩
theorem R7.s5{u:Value}(a:∀j,B' j=(decide (j=5)||B j))(g:B 5=false)(c:B 4=true)(l:AD v23 u):R7 v xv kv own C AD IB B' Y v19 v20 v21 v22 v23 u:=by
 have m:B 6=false:=by cases b:B 6 with
  |false=>rfl
  |true=>rw[h.d6 b]at g;cases g
 obtain⟨d,e,f,i⟩:=h.d4 c;exact⟨fun _=>h.j0 d,fun _=>h.j1 e,fun _=>h.j2 f,fun _ b=>by simp[a,c]at b,fun _=>l,fun _=>by have:=h.jp c;simpa[a]using this,fun b=>by simp[a,c]at b,fun _=>by simp[a,d,e,f,i],fun _=>by simp[a,c],fun b=>by simp[a],fun _=>by simp[a,c]⟩
theorem R7.s6(a:∀j,B' j=(decide (j=6)||B j))(m:B 6=false)(d:B 5=true)(l:C Y' v23 true (B 7)):R7 v xv kv own C AD IB B' Y' v19 v20 v21 v22 v23 v24:=by have b:=h.d5 d;obtain⟨e,f,g,i⟩:=h.d4 b;exact⟨fun _=>h.j0 e,fun _=>h.j1 f,fun _=>h.j2 g,fun _ c=>by simp[a,b]at c,fun _=>h.j5 d,fun _=>by simpa[a]using l,fun c=>by simp[a,b]at c,fun _=>by simp[a,e,f,g,i],fun _=>by simp[a,b],fun c=>by simp[a,d],fun _=>by simp[a,b]⟩
theorem R7.s7(a:∀j,B' j=(decide (j=7)||B j))(l:B 7=false)(c:B 4=true)(i:C Y' v23 (B 6) true):R7 v xv kv own C AD IB B' Y' v19 v20 v21 v22 v23 v24:=by obtain⟨d,e,f,g⟩:=h.d4 c;exact⟨fun _=>h.j0 d,fun _=>h.j1 e,fun _=>h.j2 f,fun _ b=>by simp[a,c]at b,fun b=>h.j5 (by simpa[a]using b),fun _=>by simpa[a]using i,fun b=>by simp[a,c]at b,fun _=>by simp[a,d,e,f,g],fun _=>by simp[a,c],fun b=>by have:=h.d6 (by simpa[a]using b);simp[a,this],fun _=>by simp[a,c]⟩
end
def kF:List Value:=[.string ⟨#[]⟩,.string ⟨#[]⟩,.slice none 0 0,.slice none 0 0]
theorem Ms{w0 X Y:World}{c:Nat}{t:Tr}{k g:Nat}{v:Value}{rs:List KA}(h:kE w0 c t k X v rs)(a:Below X.heap.size X Y)(i:Y.heap[g]?=some (.cells kF.toArray 29))(H:k<=1048576):
 ∃m Y',(∀ty,(Builtin.append_ #[27,27] ty #[v,.slice (some ⟨g,0,none⟩) 1 1]).run prog Y=.ok m Y')/\mN c X Y' v m k (kidRows ((nodesT t).take k) rs++kF) v/\∃e cap,m=.slice (some ⟨e,0,none⟩) (k+1) cap:=by
 obtain⟨E,w,B,C,D⟩:=cL xD;have x:Y.ownsRow (c+1) 29 4 v k (kidRows ((nodesT t).take k) rs):=aY h.own (fun g u=>a.block g (aV h.own u).2);have r:=aN h.box;obtain⟨e,cap,Y',y,n,d,f,F⟩:=run_append_lies (P:=prog) Y 27 27 (c+1) 29 E (.agg kF.toArray) 4 80 FD w B C D rfl aw v k _ x ⟨g,0,none⟩ 1 1 kF rfl (World.news_of_block i) (fun z i=>by simp[kF]at i;rcases i with rfl|rfl|rfl|rfl<;>rfl) aw bN ad (by have:=a.size;omega) Y.heap.size rfl;have A:=a.size;refine⟨_,Y',fun ty=>by rw[<-y];rfl,⟨d.os.trans a.os,d.tape.trans a.tape,d.output.trans a.output,aR A d.size,fun b o G p=>(d.block b ad (fun j=>p j.symm)).trans (a.block b o),n,?_,fun q l=> ?_⟩,e,cap,rfl⟩
 ·have s:c<Y.heap.size:=ad
  refine(d.block c s (fun j=> ?_)).trans ((a.block _ r).trans h.box);have:=(aV h.own j.symm).1;omega
 ·injection l with l
  subst l;rcases f with f|f
  ·exact .inl f
  ·exact .inr (by show X.heap.size<=e;omega)
theorem Mt{e:List Value}{a b c d f g i j:Value}{k:Nat}(h:e.length=k*4):((((e++[f,g,i,j]).set (k*4) a).set (k*4+1) b).set (k*4+2) c).set (k*4+3) d=e++[a,b,c,d]:=by rw[<-h];simp[List.set_append]
theorem Mu{X Y:World}{e k g cap:Nat}{v n a b c d:Value}{j:List Value}(h:mN e X Y v (.slice (some ⟨g,0,none⟩) (k+1) cap) k (j++kF) n)(y:j.length=k*4):
 mN e X ((((Y.setCell ⟨g,k*4,none⟩ a).setCell ⟨g,k*4+1,none⟩ b).setCell ⟨g,k*4+2,none⟩ c).setCell ⟨g,k*4+3,none⟩ d) v (.slice (some ⟨g,0,none⟩) (k+1) cap) k (j++[a,b,c,d]) n:=by
 obtain⟨z,p⟩:=h.own.stored (k*4) a;obtain⟨A,r⟩:=z.stored (k*4+1) b;obtain⟨B,s⟩:=A.stored (k*4+2) c;obtain⟨o,t⟩:=B.stored (k*4+3) d;have f:=((p.trans r).trans s).trans t;have C:e+1<=g:=(aV h.own rfl).1;have x:(Value.slice (some ⟨g,0,none⟩) (k+1) cap).ownBlock≠some e:=fun i=>by have:g=e:=by simpa[Value.ownBlock]using i
                                                                                                                                                                                                                                                                                     omega
 rw[show kF=[Value.string ⟨#[]⟩,.string ⟨#[]⟩,.slice none 0 0,.slice none 0 0]from rfl,Mt y]at o;refine⟨f.os.trans h.os,f.tape.trans h.tape,f.output.trans h.output,aR h.size f.size,fun q u w m=>(f.block q (by have:=h.size;omega) (fun i=> ?_)).trans (h.block q u w m),o,(f.block e (aN h.nbc) x.symm).trans h.nbc,h.nblk⟩;injection i with i
 subst i;rcases h.nblk q rfl with l|l
 ·exact m l
 ·omega
theorem Mv{X Y:World}{a k:Nat}{v c f u:Value}{row:List Value}(h:mN a X Y v c k row f)(g:a<X.heap.size):mN a X (Y.setCell ⟨a,0,none⟩ u) v c k row u:=by refine⟨h.os,h.tape,h.output,by rw[dK];exact h.size,fun q d b e=>(eG _ _ _ _ b).trans (h.block q d b e),ownsRow_setCell_below h.own ak u,one_setCell h.nbc,h.nblk⟩
theorem Mw{X Y:World}{d k g cap:Nat}{v f:Value}{c:List Value}(h:mN d X Y v (.slice (some ⟨g,0,none⟩) (k+1) cap) k (c++kF) f)(e:c.length=k*4):
 (Y.cell? ⟨g,k*4,none⟩=some (.string ⟨#[]⟩)/\Y.cell? ⟨g,k*4+1,none⟩=some (.string ⟨#[]⟩)/\Y.cell? ⟨g,k*4+2,none⟩=some (.slice none 0 0)/\Y.cell? ⟨g,k*4+3,none⟩=some (.slice none 0 0))/\∀j,Y.frozen? ⟨g,j,none⟩=false:=by
 have a:=fun j (i:j<4)=>h.own.cellAt (k*4+j) ad;have b:∀j,(c++kF)[k*4+j]?=kF[j]?:=fun j=>by rw[gH ad,e,Fu]
 refine⟨⟨?_,?_,?_,?_⟩,fun j=>h.own.frozenAt j⟩
 ·exact(a 0 ad).trans (b 0)
 ·exact(a 1 ad).trans (b 1)
 ·exact(a 2 ad).trans (b 2)
 ·exact(a 3 ad).trans (b 3)
attribute [local go_sem] sT
theorem Mx:∀(n:Nat) (t:Tr),SizeOf.sizeOf t<=n->(nodesT t).length=fi t:=by
 intro n;induction n with
 |zero=>intro t h;cases t;simp at h
 |succ n ih=>
  intro t h;have b:∀ks:List Tr,(∀k∈ks,(nodesT k).length=fi k)->(cf ks).length=eJ ks:=fun ks=>by
   induction ks with
   |nil=>intro _;simp[cf,eJ]
   |cons k ks d=>intro a;simp only[cf,eJ,cm];rw[a k ak,d fun x c=>a x (by simp[c])]
  rw[yi,Dh,b _ fun k a=>ih k (by have:=uF a;omega)];omega
theorem My{listed:Array Bool}{i:Nat}(b:i<listed.size)(j:Nat):(listed.setIfInBounds i true).getD j false=(decide (j=i)||listed.getD j false):=by
 have h:=Dk b j;cases a:(listed.setIfInBounds i true).getD j false with
 |true=>rcases h.1 a with h|h<;>simp[h]
 |false=>
  rw[a]at h;simp only[kh,false_iff,not_or]at h;simp[h.1,h.2]
theorem Mz{listed:Array Bool}{i:Nat}(h:listed.getD i true=false):listed.getD i false=false:=by have:=Dl h;simpa using this
theorem cC{W:World}{B a size n:Nat}{v:Value}{xs:List Value}(h:W.ownsRow B a size v n xs):∃o c,v=.slice o n c:=by
 rcases h.2 with⟨b,d⟩|⟨g,cap,f,e,_⟩
 ·subst d
  exact⟨_,_,b⟩
 ·exact⟨_,_,e⟩
theorem pp{W:World}{B e size n c:Nat}{o:Option Addr}{xs:List Value}(h:W.ownsRow B e size (.slice o n c) n xs):cS W o n c size xs:=by
 by_cases w:n=0
 ·subst w
  rcases h.2 with⟨e,d⟩|⟨g,cap,y,f,q,C,m,p,z,A⟩
  ·injection e with a i b
   subst a;subst b;exact⟨h.1,aB _,aK _,fun d=>absurd d (sJ 0)⟩
  ·injection f with a i b
   subst a;subst b;exact⟨h.1,m,p,fun d=>absurd d (sJ 0)⟩
 ·obtain⟨g,x,f,q,s,v,r⟩:=pZ h ad
  injection f with a i b
  subst a;subst b;refine⟨h.1,v,r,fun _=>⟨g,0,rfl,s,fun j u l=> ?_⟩⟩;have t:j<n*size:=by rw[<-h.1];exact(aP.1 l).1
  rw[cE];exact(vz h j t).trans l
def gC:List (Int×Nat×(Tr->Bool)):=[(12,96,lw),(11,97,ni),(10,101,nj),(18,104,oC),(14,105,oD),(15,106,oE)]
theorem MA{f:Int×Nat×(Tr->Bool)}(h:f∈gC):∀args a,(callFunc f.2.1 args).run prog a=.ok (.enter f.2.1 args) a:=by simp only[gC,eH,qK,qL]at h;intro args a;rcases h with rfl|rfl|rfl|rfl|rfl|rfl<;>rfl
theorem MB{f:Int×Nat×(Tr->Bool)}(h:f∈gC)(m:Tr)(q:KA)(w:World)(d:Gl w)(b:dN w m q)(a:kT m):
 Calls prog f.2.1 #[bJ m q] w fun c w'=>c=.returned (.bool (f.2.2 m))/\Below w.heap.size w w':=by
 simp only[gC,eH,qK,qL]at h;rcases h with rfl|rfl|rfl|rfl|rfl|rfl
 ·exact Ib m q w
 ·exact Id m q w b a
 ·exact Mm m q w d b a
 ·exact Ic m q w
 ·exact Mo m q w b a
 ·exact Mp m q w b a
theorem MC{i:Nat}{f:Int×Nat×(Tr->Bool)}(h:gC[i]?=some f):rR[i*2]?=some (.int .i64 f.1)/\rR[i*2+1]?=some (.func (.func f.2.1) #[] #[]):=by have a:=(aP.1 h).1;simp only[gC,de,ga]at a;rcases(show i=0∨i=1∨i=2∨i=3∨i=4∨i=5 by omega)with rfl|rfl|rfl|rfl|rfl|rfl<;>(simp[gC]at h;subst h;exact⟨rfl,rfl⟩)
theorem MD{t:Tr}(h:¬(4096<fi t∨32<dS t)){i:Nat}{f:Int×Nat×(Tr->Bool)}(a:gC[i]?=some f)(b:∀g∈gC.take i,(nodesT t).any g.2.2=false)(d:(nodesT t).any f.2.2=true):fW t=f.1:=by have c:=(aP.1 a).1;simp only[gC,de,ga]at c;unfold fW;rw[ap h];rcases(show i=0∨i=1∨i=2∨i=3∨i=4∨i=5 by omega)with rfl|rfl|rfl|rfl|rfl|rfl<;>(simp[gC]at a;subst a;simp[gC,-List.any_eq_false,-List.any_eq_true]at b;simp only[b,d];simp)
theorem ME{t:Tr}(h:¬(4096<fi t∨32<dS t))(a:∀g∈gC,(nodesT t).any g.2.2=false):fW t=0:=by unfold fW;rw[ap h];simp[gC,-List.any_eq_false,-List.any_eq_true]at a;simp only[a];simp
theorem Dv{w W:World}{a:Nat->Prop}{t:Tr}{r:KA}(f:cg w (fun _=>True) t r)(c:Below w.heap.size w W)(e:∀b,b<w.heap.size->a b):cg W a t r:=cg.kept f c.size fun b g d _=>⟨c.cell (p:=⟨b,g,none⟩) d,e b d⟩
theorem Dw:Dr:=by
 intro t r w e4 dr P;obtain⟨an,av⟩:=aj ((w.alloc (.cells #[.string ⟨t.label.toArray⟩,.string ⟨t.text.toArray⟩,.slice r.ao t.attrs.length r.ac,.slice r.ko t.kids.length r.kc] 29)).alloc (.cells #[.int .i64 4096] 3));have co:Below w.heap.size w an:=by rw[av];exact az.alloc ak _
 have i3:an.heap.size=w.heap.size+2:=by rw[av];simp
 have a1:an.heap[w.heap.size]?=some (.cells #[.string ⟨t.label.toArray⟩,.string ⟨t.text.toArray⟩,.slice r.ao t.attrs.length r.ac,.slice r.ko t.kids.length r.kc] 29):=by rw[av];exact(bH _ _ _ ak).trans (aC w _)
 have dz:an.heap[w.heap.size+1]?=some (.cells #[.int .i64 (4096:Nat)] 3 (0,0)):=by rw[av];have:=aC (w.alloc (.cells #[.string ⟨t.label.toArray⟩,.string ⟨t.text.toArray⟩,.slice r.ao t.attrs.length r.ac,.slice r.ko t.kids.length r.kc] 29)) (.cells #[.int .i64 4096] 3);rwa[bI]at this
 have fz:cg an (fun b=>b≠w.heap.size+1) t r:=Dv dr co (fun b h=>ad);have c1:=Me (w.heap.size+1) _ t r 32 4096 an (aB _) fz dz aw aw;have ba:=ai 0 a1;have bb:=ai 1 a1;have bc:=ai 2 a1;have bd:=ai 3 a1;obtain⟨hc,eb,g1,g9,en,d5⟩:=gR dr P e4 dz a1 co;clear dr P e4 dz a1 co fz;unfold bJ at c1;unfold bJ;refine(jF (n:=9)).1 (Fz func30 rfl trivial ?_ rfl);simp only[ntmps30,zC,de,ga,Nat.reduceAdd,Nat.reduceSub,zD,zE,zF,zH,lm,fH]
 gi_wp2_with fail
 refine vH.2 (wp_scope_straight ((vH (n:=9)).1 ?_))
 gi_wp2_with (first
  |(rw[<-av];clear av)
  |fail)
 refine⟨trivial,(jF.2 c1).mono ?_⟩;rintro y d ⟨n',rfl,iT,ho,fg,b4⟩;clear c1 ba bb bc bd ho fg;have cp:Below w.heap.size w d:=d5.o.grown b4 ad (fun k y=>by cases y;omega);have i4:=b4.size;have b8:=(b4.block w.heap.size ad (fun y=>by injection y with y;omega)).trans en.o;clear en g9 d5 b4;obtain⟨ab,g4⟩:=aE cp b8;by_cases e8:dS t<=32/\fi t<=4096
 ·rw[ox e8]
  have b2:¬(4096<fi t∨32<dS t):=ad;obtain⟨M,bi⟩:=aj (d.alloc (.cells #[.slice none 0 0] 27));have cq:Below d.heap.size d M:=by rw[bi];exact az
  have hQ:M.heap.size=d.heap.size+1:=by rw[bi];simp
  have bq:M.heap[d.heap.size]?=some (.cells #[.slice none 0 0] 27):=by rw[bi];exact aC d _
  have a2:=(cq.block w.heap.size ad).trans b8;have ba:=ai 0 a2;have bb:=ai 1 a2;have bc:=ai 2 a2;have bd:=ai 3 a2;have ds:=Do t r M;unfold bJ at ds;obtain⟨d2,eg,er⟩:=bO (cp.trans (cq.mono ad)) bq a2;clear b8 cp a2 bq cq
  gi_wp2_with (first
   |(rw[<-bi];clear bi)
   |fail)
  refine⟨trivial,?_⟩;refine(jF.2 ds).mono ?_;rintro y I ⟨rfl,bZ⟩;have bA:Below M.heap.size M I:=by rw[bZ];exact az
  have i5:I.heap.size=M.heap.size+1:=by rw[bZ];simp
  have eE:I.heap[M.heap.size]?=some (.cells #[.string ⟨t.label.toArray⟩,.string ⟨t.text.toArray⟩,.slice r.ao t.attrs.length r.ac,.slice r.ko t.kids.length r.kc] 29):=by rw[bZ];exact aC M _
  have f5:=(bA.block d.heap.size ad).trans eg.o;obtain⟨d6,g7,el,h0⟩:=cI (d2.o.trans (bA.mono ad)) eE f5 ((bA.block w.heap.size ad).trans er.o);clear ba bb bc bd ds bZ eE f5 eg er d2 g4 ab bA;have d0:I.ownsRow (d.heap.size+1) 29 4 (.slice none 0 0) 0 []:=⟨rfl,.inl ⟨rfl,rfl⟩⟩;have b7:∀b,b<I.heap.size->b≠d.heap.size->SCk d.heap.size I b:=fun b e1 cN=>⟨⟨_,0,[],el.o,d0,fun y=>by cases y⟩,cN,e1⟩;have fy:cg I (SCk d.heap.size I) t r:=Dv hc.o d6.o (fun b z=>b7 b ad ad);have hE:=Mx _ t (aB _);have i0:(nodesT t).length<=4096:=ad;clear hE;have fN:=Ml (SCk d.heap.size) (jY _) _ t r M.heap.size I (aB _) fy (fun m P=>(eb.o m P).kids) ad g7.o (b7 _ ad ad);have e3:kE w d.heap.size t 0 I (.slice none 0 0) []:=⟨d6.o,ad,el.o,rfl,d0,fun i m q e1 cN=>by simp at cN⟩;obtain⟨es,g0⟩:=aE fN e3;have fv:=b7 w.heap.size ad ad;clear fN e3 d0 b7 fy;rw[hQ]at es
  gi_wp2
  refine Df (jY _) w.heap.size fv 9 95 _ (nodesT t).length (uO (SCk d.heap.size) t) rfl Dp es.o (fun k X args h=>Dn h)
   (fun k W=>∃v rs,kE w d.heap.size t k W v rs) ?_ ?_ ?_ ?_ ?_
  ·rintro k gv B ⟨v,rs,h⟩ z
   exact⟨v,rs,h.below z⟩
  ·rintro k gv h1 o o' ⟨v,rs,h⟩ fg G hG hH
   exact⟨v,rs,h.put ad G hG hH⟩
  ·exact⟨_,_,g0.o⟩
  ·rintro du k X args busy m ii ⟨v,rs,e5⟩ hI io ⟨hP,c6⟩
   obtain⟨x,p,hN,hM,hL,fT,rfl,f0,hJ,i1⟩:=hI;unfold bJ;obtain⟨E,N⟩:=aj (X.alloc (.cells #[.string ⟨x.label.toArray⟩,.string ⟨x.text.toArray⟩,.slice p.ao x.attrs.length p.ac,.slice p.ko x.kids.length p.kc] 29));have K:Below X.heap.size X E:=by rw[N];exact az
   have gl:E.heap.size=X.heap.size+1:=by rw[N];simp
   have e6:E.heap[X.heap.size]?=some (.cells #[.string ⟨x.label.toArray⟩,.string ⟨x.text.toArray⟩,.slice p.ao x.attrs.length p.ac,.slice p.ko x.kids.length p.kc] 29):=by rw[N];exact aC X _
   gi_wp2_with (first
    |(rw[<-N];clear N)
    |fail)
   refine⟨K,?_⟩;have hB:du<X.heap.size:=(gW.1 c6).1;obtain⟨R,a0⟩:=aj (E.putObj du (.loop busy));rw[<-a0];have c7:E.heap[du]?=some (.loop hP):=(K.block _ hB).trans c6;have c0:kE w d.heap.size t k R v rs:=by rw[a0];exact(e5.below K).put ad c7 rfl rfl
   have f1:cg R (SCk d.heap.size R) x p:=by rw[a0];exact uN (jY _) c7 rfl rfl ((Kp.of (jY _) K).tree (jY _) f0)
   have f4:R.heap[X.heap.size]?=some (.cells #[.string ⟨x.label.toArray⟩,.string ⟨x.text.toArray⟩,.slice p.ao x.attrs.length p.ac,.slice p.ko x.kids.length p.kc] 29):=by rw[a0];exact(dJ ad).trans e6
   have hR:R.heap.size=X.heap.size+1:=by rw[a0,k9];exact gl
   clear a0 c6 c7 e5 K f0 hJ e6;obtain⟨af,b0⟩:=aj (World.drew R);have a9:Below R.heap.size R af:=by rw[b0];exact(aA _ _).drew
   have i7:af.heap.size=X.heap.size+1:=by rw[b0];exact hR
   obtain⟨al,he⟩:=aE (c0.below a9) ((Kp.of (jY _) a9).tree (jY _) f1);have bq:=(a9.block _ ad).trans f4;obtain⟨cc,a3,rfl⟩:=cC c0.own;have iv:=al.o.len;have hm:=aN al.o.box;have fu:(kidRows ((nodesT t).take k) rs).length=k*4:=al.o.own.1;have d3:Hid (∀Y,Below af.heap.size af Y->Y.cell? ⟨d.heap.size,0,none⟩=some (.slice cc k a3)/\Y.cell? ⟨X.heap.size,0,none⟩=some (.string ⟨x.label.toArray⟩)/\Y.cell? ⟨X.heap.size,1,none⟩=some (.string ⟨x.text.toArray⟩)/\Y.cell? ⟨X.heap.size,2,none⟩=some (.slice p.ao x.attrs.length p.ac)/\Y.cell? ⟨X.heap.size,3,none⟩=some (.slice p.ko x.kids.length p.kc)):=fun Y z=>by have S:=(z.block _ hm).trans al.o.box;have ao:=(z.block _ ad).trans bq;exact⟨ai 0 S,ai 0 ao,ai 1 ao,ai 2 ao,ai 3 ao⟩
   obtain⟨g3,hd⟩:=aE (Kp.of (jY d.heap.size) a9) fT;clear c0 f1 f4 bq a9 fT
   gi_wp2
   refine wpIn_region_any ay ?_;change wpAnyIn _ _ _ _ _ _ _ _ _ (World.drew R);rw[<-b0];clear b0;refine Dj (fun listed a Y=>listed.size=8/\∃v19 v20 v21 v22 v23 v24:Value,a={tmps:=#[.agg #[.string ⟨t.label.toArray⟩,.string ⟨t.text.toArray⟩,.slice r.ao t.attrs.length r.ac,.slice r.ko t.kids.length r.kc],.pointer (some ⟨w.heap.size,0,none⟩),.int .i64 0,.pointer (some ⟨w.heap.size+1,0,none⟩),.pointer (some ⟨d.heap.size,0,none⟩),undef,.pointer (some ⟨X.heap.size,0,none⟩),undef,undef,undef,undef,undef,.agg #[.string ⟨t.label.toArray⟩,.string ⟨t.text.toArray⟩,.slice r.ao t.attrs.length r.ac,.slice r.ko t.kids.length r.kc],.bool true,.bool false,.agg #[.string ⟨t.label.toArray⟩,.string ⟨t.text.toArray⟩,.slice r.ao t.attrs.length r.ac,.slice r.ko t.kids.length r.kc],.func (.func 95) #[] #[.pointer (some ⟨d.heap.size+1,0,none⟩)],.slice hN hM hL,.agg #[.string ⟨x.label.toArray⟩,.string ⟨x.text.toArray⟩,.slice p.ao x.attrs.length p.ac,.slice p.ko x.kids.length p.kc],v19,v20,v21,v22,v23,v24,undef,undef,undef,undef,undef,undef,undef,undef,undef,undef,undef,undef,undef,undef,undef,undef,undef,undef,undef,undef,undef],defers:=[]}/\
    R7 (.slice cc k a3) (.agg #[.string ⟨x.label.toArray⟩,.string ⟨x.text.toArray⟩,.slice p.ao x.attrs.length p.ac,.slice p.ko x.kids.length p.kc]) (.int .i64 (k:Nat))
     (fun Y u=>∃g,u=.slice (some ⟨g,0,none⟩) 1 1/\Y.heap[g]?=some (.cells kF.toArray 29))
     (fun Y b9 hf hg=>∃F cap,b9=.slice (some ⟨F,0,none⟩) (k+1) cap/\mN d.heap.size af Y (.slice cc k a3) b9 k (kidRows ((nodesT t).take k) rs++if hf=true then lx x p else kF) (if hg=true then b9 else .slice cc k a3))
     (fun u1 u2=>∃F cap,u1=.slice (some ⟨F,0,none⟩) (k+1) cap/\u2=.pointer (some ⟨F,k*4,none⟩))
     (fun Y=>Below af.heap.size af Y) (fun i=>listed.getD i false) Y v19 v20 v21 v22 v23 v24) ?_ ?_ 8 (Array.replicate 8 false) _ _ rfl aw ?_
   ·rintro listed a Y i ⟨fx,v19,v20,v21,v22,v23,v24,rfl,l⟩ hu
    obtain⟨hD,o,G,O⟩:=gh.1 hu;have D:=Mz hD;have h9:i<8:=(gW.1 G).1;have T:=My (listed:=listed) (i:=i) ad;have aa:(listed.setIfInBounds i true).size=8:=by simpa using fx
    rcases(show i=0∨i=1∨i=2∨i=3∨i=4∨i=5∨i=6∨i=7 by omega)with rfl|rfl|rfl|rfl|rfl|rfl|rfl|rfl
    ·obtain⟨hV,gr,hW,hX,hY⟩:=d3.o Y (l.jb (l.n4 (i:=0) ak D).1)
     refine ja rfl (fun ae A=> ?_);go_simp;refine A _ _ ?_;exact⟨aa,_,v20,v21,v22,v23,v24,rfl,l.s0 T D⟩
    ·obtain⟨hV,gr,hW,hX,hY⟩:=d3.o Y (l.jb (l.n4 (i:=1) ak D).1)
     refine ja rfl (fun ae A=> ?_);go_simp;refine A _ _ ?_;exact⟨aa,v19,_,v21,v22,v23,v24,rfl,l.s1 T D⟩
    ·simp only[ig,gq,jD,gV]at G
     subst G;have bB:=O {on:=0,ground:=.data} ak rfl;obtain rfl:=l.j0 bB;refine ja rfl (fun ae A=> ?_);go_simp;refine A _ _ ?_;exact⟨aa,_,v20,_,v22,v23,v24,rfl,l.s2 T D⟩
    ·have b1:=l.jb (l.n4 (i:=3) ak D).1
     refine ja rfl (fun ae A=> ?_);go_simp;refine A _ _ ?_;exact⟨aa,v19,v20,v21,_,v23,v24,rfl,l.s3 T D ⟨Y.heap.size,rfl,aC Y _⟩ (b1.alloc b1.size _)⟩
    ·have b1:=l.jb D
     simp only[ig,gq,jD,gV]at G;subst G;have bB:=O {on:=0,ground:=.data} ak rfl;have cu:=O {on:=1,ground:=.phase} ak rfl;have cx:=O {on:=2,ground:=.phase} ak rfl;have eB:=O {on:=3,ground:=.data} ak rfl;obtain rfl:=l.j0 bB;obtain⟨g,rfl,H⟩:=l.j3 eB D;obtain⟨b9,Y',hK,hp,F,cap,rfl⟩:=Ms al.o b1 H ad;refine ja rfl (fun ae A=> ?_);rw[au (by simp[Region.wanted])];unfold Oper.wpIn;refine⟨by simp[Oper.about,resolve,Target.leads,sW],?_⟩;rw[Oper.semAt_plain _ _ _ (by intro c hn;cases hn)];simp[execOp,resolve,invoke,builtin,hK,Result.andThen,Act.eval];exact A _ _ ⟨aa,_,v20,v21,_,_,v24,rfl,l.s4 T D bB cu cx eB ⟨F,cap,rfl,by simpa using hp⟩⟩
    ·simp only[ig,gq,jD,gV]at G
     subst G;have ag:=O {on:=4,ground:=.data} ak rfl;have cx:=O {on:=2,ground:=.data} ak rfl;obtain⟨F,cap,rfl,e⟩:=l.jp ag;obtain rfl:=l.j2 cx;have hz:(k:Int)<k+1:=ad;have hw:(0:Int)<=k:=ad;refine ja rfl (fun ae A=> ?_);go_simp;refine A _ _ ?_;exact⟨aa,v19,v20,_,v22,_,_,rfl,l.s5 T D ag ⟨F,cap,rfl,rfl⟩⟩
    ·simp only[ig,gq,jD,gV]at G
     subst G;have cG:=O {on:=5,ground:=.data} ak rfl;have cu:=O {on:=1,ground:=.data} ak rfl;have ag:=l.d5 cG;obtain⟨F,cap,rfl,e⟩:=l.jp ag;obtain⟨h3,h2,S,rfl⟩:=l.j5 cG;injection S with S eD ao
     injection S with S
     injection S with S
     subst S;subst ao;obtain rfl:=l.j1 cu;rw[D,ap ak]at e;obtain⟨⟨d1,gs,je,ji⟩,hZ⟩:=Mw e fu;refine ja rfl (fun ae A=> ?_);go_simp;refine A _ _ ?_;exact⟨aa,v19,_,v21,v22,_,_,rfl,l.s6 T D cG ⟨F,_,rfl,Mu e fu⟩⟩
    ·simp only[ig,gq,jD,gV]at G
     subst G;have ag:=O {on:=4,ground:=.data} ak rfl;obtain⟨F,cap,rfl,e⟩:=l.jp ag;rw[D,ap (show¬(false=true) by simp)]at e;have d1:=ai 0 e.nbc;have hZ:=free_of_one e.nbc;refine ja rfl (fun ae A=> ?_);go_simp;refine A _ _ ?_;exact⟨aa,v19,v20,v21,v22,_,v24,rfl,l.s7 T D ag ⟨F,_,rfl,Mv e ad⟩⟩
   ·rintro listed a Y ⟨fx,v19,v20,v21,v22,v23,v24,rfl,l⟩ Z
    have aq:listed.getD 0 false=true:=by
     apply fq;intro e;have:(0:Nat)∈([]:List Nat):=by rw[<-Z];exact gh.2 ⟨jf ad (by simpa using e),_,rfl,fun y s=>by simp at s⟩
     cases this
    have be:listed.getD 1 false=true:=by
     apply fq;intro e;have:(1:Nat)∈([]:List Nat):=by rw[<-Z];exact gh.2 ⟨jf ad (by simpa using e),_,rfl,fun y s=>by simp at s⟩
     cases this
    have bf:listed.getD 2 false=true:=by
     apply fq;intro e;have:(2:Nat)∈([]:List Nat):=by rw[<-Z];exact gh.2 ⟨jf ad (by simpa using e),_,rfl,fun y s _=>by simp at s;subst s;exact aq⟩
     cases this
    have bg:listed.getD 3 false=true:=by
     apply fq;intro e;have:(3:Nat)∈([]:List Nat):=by rw[<-Z];exact gh.2 ⟨jf ad (by simpa using e),_,rfl,fun y s=>by simp at s⟩
     cases this
    have V:listed.getD 4 false=true:=by
     apply fq;intro e;have:(4:Nat)∈([]:List Nat):=by rw[<-Z];exact gh.2 ⟨jf ad (by simpa using e),_,rfl,fun y s _=>by simp at s;rcases s with rfl|rfl|rfl|rfl|rfl|rfl;exact aq;exact bg;exact aq;exact be;exact bf;exact bg⟩
     cases this
    have hh:listed.getD 5 false=true:=by
     apply fq;intro e;have:(5:Nat)∈([]:List Nat):=by
      rw[<-Z];refine gh.2 ⟨jf ad (by simpa using e),_,rfl,fun y s z=> ?_⟩;simp at s;rcases s with rfl|rfl|rfl|rfl|rfl|rfl|rfl|rfl
      ·exact V
      ·exact bf
      ·exact aq
      ·exact be
      ·exact bf
      ·exact bg
      ·exact V
      ·cases z
     cases this
    have hi:listed.getD 6 false=true:=by
     apply fq;intro e;have:(6:Nat)∈([]:List Nat):=by
      rw[<-Z];refine gh.2 ⟨jf ad (by simpa using e),_,rfl,fun y s z=> ?_⟩;simp at s;rcases s with rfl|rfl|rfl|rfl|rfl|rfl|rfl|rfl|rfl
      ·exact hh
      ·exact be
      ·exact V
      ·exact aq
      ·exact be
      ·exact bf
      ·exact bg
      ·exact V
      ·cases z
     cases this
    have hj:listed.getD 7 false=true:=by
     apply fq;intro e;have:(7:Nat)∈([]:List Nat):=by
      rw[<-Z];refine gh.2 ⟨jf ad (by simpa using e),_,rfl,fun y s z=> ?_⟩;simp at s;rcases s with rfl|rfl|rfl|rfl|rfl|rfl|rfl|rfl|rfl|rfl
      ·exact V
      ·exact V
      ·cases z
      ·exact aq
      ·exact be
      ·exact bf
      ·exact bg
      ·exact V
      ·cases z
      ·cases z
     cases this
    obtain⟨F,cap,rfl,e⟩:=l.jp V;rw[hi,hj,au rfl,au rfl]at e;obtain⟨hq,hr⟩:=e.done al.o hd.o he.o
    gi_wp2
    exact⟨⟨_,_,hq⟩,g3.o.trans hr⟩
   ·have C:∀i,(Array.replicate 8 false).getD i false=false:=fun i=>getD_replicate_false 8 i
    exact⟨ak,undef,undef,undef,undef,undef,undef,rfl,⟨fun h=>(by rw[C]at h;cases h),fun h=>(by rw[C]at h;cases h),fun h=>(by rw[C]at h;cases h),fun h _=>(by rw[C]at h;cases h),fun h=>(by rw[C]at h;cases h),fun h=>(by rw[C]at h;cases h),fun _=>aA _ _,fun h=>(by rw[C]at h;cases h),fun h=>(by rw[C]at h;cases h),fun h=>(by rw[C]at h;cases h),fun h=>(by rw[C]at h;cases h)⟩⟩
  ·rintro X ⟨v,rs,bE⟩ b3 hT hA
   have hk:0<(nodesT t).length:=by rw[yi];omega
   obtain⟨g,a3,rfl,h6,h7,_,_⟩:=pZ bE.own hk;have fb:=Mq X;have bF:=bE.base;obtain⟨d4,bw⟩:=aE bE b3;clear bE b3 hT hA fv
   gi_wp2
   refine wpIn_label ?_
   gi_wp2
   refine⟨trivial,?_⟩;refine(jF.2 fb).mono ?_;rintro y E ⟨rfl,N⟩;have K:Below X.heap.size X E:=by rw[N];exact az
   have gl:E.heap.size=X.heap.size+1:=by rw[N];simp
   have eN:E.heap[X.heap.size]?=some (.cells rR 128):=by rw[N];exact aC X _
   obtain⟨a6,g5,g8⟩:=bO (d4.o.below K) ((K.block _ (aN bw.o)).trans bw.o) eN;have h5:=aN bw.o;have eD:I.heap.size=d.heap.size+1+1:=ad;have e9:E.heap[d.heap.size+1+1]?=some (.deferred (some [])):=by rw[<-eD];exact g5.o
   have d7:=ah e9;clear e9;obtain⟨bu,g2⟩:=aE (bF.trans (K.mono bF.size)) (g1.o.grow (bF.trans (K.mono bF.size)) (aB _));clear fb N d4 bw eN K
   gi_wp2
   refine wpIn_loop (fun a J=>∃(i:Nat) (u9 u11 u28 u29 u30 u31 u32 u33 u34 u35 u36 u37 u38 u39 u40 u41 u42 u43 u44:Value),a={tmps:=#[.agg #[.string ⟨t.label.toArray⟩,.string ⟨t.text.toArray⟩,.slice r.ao t.attrs.length r.ac,.slice r.ko t.kids.length r.kc],.pointer (some ⟨w.heap.size,0,none⟩),.int .i64 0,.pointer (some ⟨w.heap.size+1,0,none⟩),.pointer (some ⟨d.heap.size,0,none⟩),undef,undef,.int .i64 0,undef,u9,undef,u11,.agg #[.string ⟨t.label.toArray⟩,.string ⟨t.text.toArray⟩,.slice r.ao t.attrs.length r.ac,.slice r.ko t.kids.length r.kc],.bool true,.bool false,.agg #[.string ⟨t.label.toArray⟩,.string ⟨t.text.toArray⟩,.slice r.ao t.attrs.length r.ac,.slice r.ko t.kids.length r.kc],.func (.func 95) #[] #[.pointer (some ⟨d.heap.size+1,0,none⟩)],undef,undef,undef,undef,undef,undef,undef,undef,.slice (some ⟨X.heap.size,0,none⟩) 6 6,.int .i64 6,.int .i64 (i:Nat),u28,u29,u30,u31,u32,u33,u34,u35,u36,u37,u38,u39,u40,u41,u42,u43,u44,undef],defers:=[{target:=.collected (d.heap.size+1+1),args:=#[]}]}/\i<=6/\Hid (Below E.heap.size E J)/\Hid (∀g∈gC.take i,(nodesT t).any g.2.2=false))
    (fun a _=>6-(intOf (a.tmps.getD 27 undef)).toNat) ?_ ?_
   ·exact⟨0,_,_,_,_,_,_,_,_,_,_,_,_,_,_,_,_,_,_,_,rfl,aK _,aA _ _,fun g c4=>by simp at c4⟩
   ·rintro a J ⟨i,u9,u11,u28,u29,u30,u31,u32,u33,u34,u35,u36,u37,u38,u39,u40,u41,u42,u43,u44,rfl,h8,a4,ci⟩
    by_cases hC:i<6
    ·have ht:decide ((i:Int)<6)=true:=aM
     have hz:(i:Int)<6:=ad;have hw:(0:Int)<=i:=ad;obtain⟨f,C⟩:∃f,gC[i]?=some f:=⟨_,aF (by simpa[gC]using hC)⟩;have fc:=aU C;obtain⟨eZ,e0⟩:=MC C;have c2:=(a4.o.block X.heap.size ad).trans g8.o;have d1:=(aZ _ _ (i*2) _ _ _ c2).trans eZ;have gs:=(aZ _ _ (i*2+1) _ _ _ c2).trans e0;obtain⟨a7,bm⟩:=aj (J.alloc (.cells #[.int .i64 f.1,.func (.func f.2.1) #[] #[]] 128));have ez:Below J.heap.size J a7:=by rw[bm];exact az
     have jc:a7.heap.size=J.heap.size+1:=by rw[bm];simp
     have f2:a7.heap[J.heap.size]?=some (.cells #[.int .i64 f.1,.func (.func f.2.1) #[] #[]] 128):=by rw[bm];exact aC J _
     have hS:=a4.o.size;have a5:=ah (a4.o.trans (ez.mono hS));have e7:=(a5.o.block _ (aN a6.o.box)).trans a6.o.box;have gr:=ai 0 e7;obtain⟨ed,ea,d8⟩:=bO f2 fc C;clear c2 eZ e0 ez f2 e7 fc C
     gi_wp2_with (first
      |(rw[<-bm];clear bm d1 gs)
      |fail)
     refine wpIn_loop (fun a Y=>∃(j:Nat) (u11 u34 u35 u36 u37 u38 u39 u40 u41 u42 u43 u44:Value),a={tmps:=#[.agg #[.string ⟨t.label.toArray⟩,.string ⟨t.text.toArray⟩,.slice r.ao t.attrs.length r.ac,.slice r.ko t.kids.length r.kc],.pointer (some ⟨w.heap.size,0,none⟩),.int .i64 0,.pointer (some ⟨w.heap.size+1,0,none⟩),.pointer (some ⟨d.heap.size,0,none⟩),undef,undef,.int .i64 0,undef,.pointer (some ⟨J.heap.size,0,none⟩),undef,u11,.agg #[.string ⟨t.label.toArray⟩,.string ⟨t.text.toArray⟩,.slice r.ao t.attrs.length r.ac,.slice r.ko t.kids.length r.kc],.bool true,.bool false,.agg #[.string ⟨t.label.toArray⟩,.string ⟨t.text.toArray⟩,.slice r.ao t.attrs.length r.ac,.slice r.ko t.kids.length r.kc],.func (.func 95) #[] #[.pointer (some ⟨d.heap.size+1,0,none⟩)],undef,undef,undef,undef,undef,undef,undef,undef,.slice (some ⟨X.heap.size,0,none⟩) 6 6,.int .i64 6,.int .i64 (i:Nat),.bool true,.pointer (some ⟨X.heap.size,i*2,none⟩),.agg #[.int .i64 f.1,.func (.func f.2.1) #[] #[]],.slice (some ⟨g,0,none⟩) (nodesT t).length a3,.int .i64 ((nodesT t).length:Nat),.int .i64 (j:Nat),u34,u35,u36,u37,u38,u39,u40,u41,u42,u43,u44,undef],defers:=[{target:=.collected (d.heap.size+1+1),args:=#[]}]}/\j<=(nodesT t).length/\Hid (Below a7.heap.size a7 Y)/\Hid (((nodesT t).take j).any f.2.2=false))
      (fun a _=>(nodesT t).length-(intOf (a.tmps.getD 33 undef)).toNat) ?_ ?_
     ·exact⟨0,_,_,_,_,_,_,_,_,_,_,_,_,rfl,aK _,aA _ _,by rfl⟩
     ·rintro a Y ⟨j,u11,u34,u35,u36,u37,u38,u39,u40,u41,u42,u43,u44,rfl,ia,bt,em⟩
      by_cases hv:j<(nodesT t).length
      ·have hs:decide ((j:Int)<((nodesT t).length:Int))=true:=aM
       have ic:(j:Int)<((nodesT t).length:Int):=ad;have ib:(0:Int)<=j:=ad;obtain⟨m,P⟩:∃m,(nodesT t)[j]?=some m:=⟨_,aF hv⟩;have ch:=ah (a5.o.trans (bt.o.mono ad));have c9:=pp a6.o.own;rw[bx (aB _)]at c9;have fs:=cS.below c9 ch.o;obtain⟨b',i2,q,fr,c5,h4,gb,gd,gf,gg⟩:=jl a6.o.len fs P;injection c5 with c5
       injection c5 with hx hy
       subst hx;subst hy;rw[cE]at gb gd gf gg;have fG:dN Y m q:=(a6.o.tr j m q P fr).at_.below ch.o;have hl:=bt.o.size;obtain⟨bz,bl⟩:=aj (Y.alloc (.cells #[.string ⟨m.label.toArray⟩,.string ⟨m.text.toArray⟩,.slice q.ao m.attrs.length q.ac,.slice q.ko m.kids.length q.kc] 29));have cs:Below Y.heap.size Y bz:=by rw[bl];exact az
       have i9:bz.heap.size=Y.heap.size+1:=by rw[bl];simp
       have bo:bz.heap[Y.heap.size]?=some (.cells #[.string ⟨m.label.toArray⟩,.string ⟨m.text.toArray⟩,.slice q.ao m.attrs.length q.ac,.slice q.ko m.kids.length q.kc] 29):=by rw[bl];exact aC Y _
       have ce:=ah (bt.o.trans (cs.mono hl));have f6:=(ce.o.block _ ad).trans ed.o;have hU:=ai 1 f6;have ba:=ai 0 bo;have bb:=ai 1 bo;have bc:=ai 2 bo;have bd:=ai 3 bo;have c3:=MB ea.o m q bz (g2.o.grow (a5.o.trans (ce.o.mono ad)) (aB _)) (fG.below cs) (eb.o m (aU P));unfold bJ at c3;have s:=MA ea.o;have ec:=ah P;clear bo f6 cs fG fr c9 fs ch P
       gi_wp2_with (first
        |(rw[<-bl];clear bl gb gd gf gg)
        |fail)
       refine⟨trivial,(jF.2 c3).mono ?_⟩;rintro y cl ⟨rfl,ex⟩;have ab:=ah (ce.o.trans (ex.mono ad));have f7:=(ab.o.block _ ad).trans ed.o;have jd:=ai 0 f7;have jb:=ab.o.size;clear c3 hU ba bb bc bd f7 ex;cases b6:f.2.2 m with
       |true=>
        have c8:=MD b2 d8.o ci.o (gt.2 ⟨m,aU ec.o,b6⟩);clear b6
        gi_wp2
        rw[l8];have e2:Below E.heap.size E cl:=a5.o.trans (ab.o.mono ad);change LeavesInM Fence.wide 9 prog f30 _ _ (([d.heap.size+1+1]:List Nat).map fun Q=>{target:=.collected Q,args:=#[]}) .returning cl;refine rQ (fun Y=>Below w.heap.size w Y) (fun Y h=>⟨_,by simp[results,results30,go_sem];rfl,by rw[c8];exact⟨rfl,h⟩⟩) _ cl ak (fun Q L=> ?_) (bu.o.trans (e2.mono bu.o.size)) (fun Y Q L b3 H=> ?_)
        ·rw[qO]at L
         subst L;exact(e2.block _ ad).trans d7.o
        ·rw[qO]at L
         subst L;exact⟨H.os,H.tape,H.output,by rw[k9];exact H.size,fun b z=>(dJ ad).trans (H.block b z)⟩
       |false=>
        have fo:((nodesT t).take (j+1)).any f.2.2=false:=by rw[bG,ec.o,dR,iX,em.o];simp[b6]
        have hb:=ah fo;clear b6 fo
        gi_wp2
        refine⟨⟨j+1,_,_,_,_,_,_,_,_,_,_,_,_,rfl,ad,ab,hb⟩,?_⟩;simp[intOf];omega
      ·have hs:decide ((j:Int)<((nodesT t).length:Int))=false:=aJ
       obtain rfl:j=(nodesT t).length:=ad;have fl:∀h∈gC.take (i+1),(nodesT t).any h.2.2=false:=fun h b5=>by
        rw[bG,d8.o,dR,fe,qO]at b5;rcases b5 with b5|rfl
        ·exact ci.o h b5
        ·have:=em.o;rwa[bx (aB _)]at this
       obtain⟨ha,gG⟩:=aE fl (a5.o.trans (bt.o.mono ad));clear fl
       gi_wp2
       refine⟨⟨i+1,_,_,_,_,_,_,_,_,_,_,_,_,_,_,_,_,_,_,_,rfl,ad,gG,ha⟩,?_⟩;simp[intOf];omega
    ·have ht:decide ((i:Int)<6)=false:=aJ
     obtain rfl:i=6:=ad;have c8:=ME b2 (fun g c4=>ci.o g (by simpa[gC]using c4))
     gi_wp2
     rw[l8];change LeavesInM Fence.wide 9 prog f30 _ _ (([d.heap.size+1+1]:List Nat).map fun Q=>{target:=.collected Q,args:=#[]}) .returning J;refine rQ (fun Y=>Below w.heap.size w Y) (fun Y h=>⟨_,by simp[results,results30,go_sem];rfl,by rw[c8];exact⟨rfl,h⟩⟩) _ J ak (fun Q L=> ?_) (bu.o.trans (a4.o.mono bu.o.size)) (fun Y Q L b3 H=> ?_)
     ·rw[qO]at L
      subst L;exact(a4.o.block _ ad).trans d7.o
     ·rw[qO]at L
      subst L;exact⟨H.os,H.tape,H.output,by rw[k9];exact H.size,fun b z=>(dJ ad).trans (H.block b z)⟩
 ·rw[pI e8]
  have b2:fW t=17:=by unfold fW;rw[au ad]
  clear b8
  gi_wp2
  rw[l8];change LeavesInM Fence.wide 9 prog f30 _ _ (([]:List Nat).map fun Q=>{target:=.collected Q,args:=#[]}) .returning d;refine rQ (fun X=>X=d) (fun X h=>⟨_,by simp[results,results30,go_sem];rfl,by rw[h];exact⟨by rw[b2],ab.o⟩⟩) [] d vD ak rfl ak
end
end Go.Proofs.YtbacloblanpghaaGreatDoor
