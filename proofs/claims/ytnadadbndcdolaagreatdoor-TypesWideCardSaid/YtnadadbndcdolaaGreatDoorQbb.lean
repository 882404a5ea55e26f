import Derived.Test.YtnadadbndcdolaaGreatDoorQax
import Derived.Test.YtnadadbndcdolaaGreatDoorQba
set_option linter.unusedVariables false
set_option linter.unusedSimpArgs false
set_option maxRecDepth 100000
set_option maxHeartbeats 0
namespace Go.Proofs.YtnadadbndcdolaaGreatDoor
open Go.RowKit Tryz
def EU:Prop:=∀(t:Tr) (a:KA) (w:World),Gl w->eR w t a->(∀m∈nodesT t,nj m)->Calls prog 28 #[cP t a] w fun b w'=>b=.returned (.int .i64 (kL t))/\Below w.heap.size w w'
def zL(ts:List aw)(n:Bytes)(t:Tr)(q:Int):Prop:=
 (bT ts≠0/\q=bT ts)∨(bT ts=0/\((placeS ts n=none/\q=16)∨∃a,placeS ts n=some a/\((kL t≠0/\q=kL t)∨(kL t=0/\((jo ts a t/\q=0)∨(¬jo ts a t/\q=22))))))
def zM(ts:List aw)(n:Bytes)(t:Tr)(w:World)(a:Ending)(w':World):Prop:=(∃q,a=.returned (.int .i64 q)/\zL ts n t q)/\Below w.heap.size w w'
theorem NM(bd:zx)(bi:EU)(l:List am)(o:Option Addr)(cap:Nat)(J:dI l)(bf:∀x∈l,x.t.nodes.length<=60)(n:Bytes)(be:n.length<=1048576)(t:Tr)(b:KA)(w:World)(Z:Gl w)(r:bR w o cap l)(aq:eR w t b)(ao:∀m∈nodesT t,nj m):
 Calls prog 10 #[.agg #[.slice o l.length cap],.string ⟨n.toArray⟩,cP t b] w (zM (l.map am.t) n t w):=by
 have bq:=r.1.2.1;have ba:=r.1.2.2.1;unfold maxLen at ba;obtain⟨d,v⟩:=ar ((w.alloc (.cells #[.slice o l.length cap] 24)).alloc (.cells #[.string ⟨t.label.toArray⟩,.string ⟨t.text.toArray⟩,.slice b.ao t.attrs.length b.ac,.slice b.ko t.kids.length b.kc] 29));have i:Below w.heap.size w d:=by rw[v];exact aG.alloc ak _
 have H:d.heap[w.heap.size]?=some (.cells #[.slice o l.length cap] 24):=by rw[v];exact(bk _ _ _ ak).trans (aB w _)
 have I:d.heap[w.heap.size+1]?=some (.cells #[.string ⟨t.label.toArray⟩,.string ⟨t.text.toArray⟩,.slice b.ao t.attrs.length b.ac,.slice b.ko t.kids.length b.kc] 29):=by rw[v];have:=aB (w.alloc (.cells #[.slice o l.length cap] 24)) (.cells #[.string ⟨t.label.toArray⟩,.string ⟨t.text.toArray⟩,.slice b.ao t.attrs.length b.ac,.slice b.ko t.kids.length b.kc] 29);rwa[bj]at this
 have N:=wj l o cap d (r.below i) J;unfold zo at N;have a8:=ai 0 H;have bo:=ax H;have bc:=ax I;have W:∀(q:Int) (c:World),Below d.heap.size d c->zL (l.map am.t) n t q->zM (l.map am.t) n t w (.returned (.int .i64 q)) c:=fun q c g bg=>⟨⟨q,rfl,bg⟩,aO i g⟩;obtain⟨j,a1⟩:=aD W N;have h:Hid (∀c,Below d.heap.size d c->bR c o cap l/\eR c t b/\Gl c):=fun c g=>⟨(r.below i).below g,(aq.below i).below g,(Z.below i).below g⟩;have S:Hid (∀c,Below d.heap.size d c->c.cell? ⟨w.heap.size+1,0,none⟩=some (.string ⟨t.label.toArray⟩)/\c.cell? ⟨w.heap.size+1,1,none⟩=some (.string ⟨t.text.toArray⟩)/\c.cell? ⟨w.heap.size+1,2,none⟩=some (.slice b.ao t.attrs.length b.ac)/\c.cell? ⟨w.heap.size+1,3,none⟩=some (.slice b.ko t.kids.length b.kc)):=fun c g=>by have A:=(g.block _ bc).trans I;exact⟨ai 0 A,ai 1 A,ai 2 A,ai 3 A⟩
 have X:=ah ao;clear N W i H I r aq Z ao;unfold cP;go_enter func10,ntmps10
 go_wp2_with fail
 rw[<-v];clear v;go_wp2_with fail
 refine a1.o.mono ?_;rintro e Q ⟨M,⟨P,rfl⟩|⟨L,a3,rfl,a4,a5,a6,aa,_⟩⟩
 ·have bb:(bT (l.map am.t)==0)=false:=by simpa using P
  have f:=ah (j.o _ Q M (.inl ⟨P,rfl⟩));clear P
  go_wp2
  go_ret;exact f.o
 have T:=ah (aa (fun _=>False));have a9:=T.o.blk;have av:=ai 0 a9;have C:=vt l o cap Q (h.o Q M).1 J n be;have p:=ah L;unfold nW at C;rw[ay L]at C;have V:=ah C;clear L aa C a8;go_wp2_with fail
 refine V.o.mono ?_;rintro e y ⟨rfl,al⟩;clear V;have s:=aO M al;cases u:placeS (l.map am.t) n with
 |none=>
  have f:=ah (j.o 16 y s (.inr ⟨p.o,.inl ⟨u,rfl⟩⟩));clear u av
  go_wp2
  go_ret;exact f.o
 |some a=>
 have F:=ah u;have ae:=vf u;rw[cf]at ae;obtain⟨t0,t1,t2,t3⟩:=S.o y s;have E:=bi t b y (h.o y s).2.2 (h.o y s).2.1 X.o;unfold cP at E;obtain⟨G,K⟩:=ar (kL t);rw[<-K]at E;obtain⟨z,Y⟩:=aD K E;clear u av K E;go_wp2_with fail
 refine Y.o.mono ?_;rintro e R ⟨rfl,an⟩;clear Y t0 t1 t2 t3;have af:=aO s an;by_cases D:G=0
 ·subst D
  obtain⟨t0,t1,t2,t3⟩:=S.o R af;have O:=Nc bd l o cap p.o J bf d (h.o d (aE _ _)).2.2 (h.o d (aE _ _)).1 a3 a4 a5 a6 (SizeOf.sizeOf t) a t b (fun _=>False) R (az _) ae (h.o d (aE _ _)).2.1 X.o (fun q e=>e.elim) ((T.o.kept (bJ al none) (fun q e=>by cases e)).kept (bJ an none) (fun q e=>by cases e));unfold wu cP at O;have a2:=ah O;clear O;go_wp2_with fail
  refine a2.o.mono ?_;rintro e a0 ⟨⟨a7,rfl,B⟩,ab,bl⟩;have ag:=ab.base;clear ab;cases a7 with
  |true=>
   have f:=ah (j.o 0 a0 ag (.inr ⟨p.o,.inr ⟨a,F.o,.inr ⟨z.o.symm,.inl ⟨B.1 rfl,rfl⟩⟩⟩⟩));clear B
   go_wp2
   go_ret;exact f.o
  |false=>
   have f:=ah (j.o 22 a0 ag (.inr ⟨p.o,.inr ⟨a,F.o,.inr ⟨z.o.symm,.inr ⟨(fun e=>by cases B.2 e),rfl⟩⟩⟩⟩));clear B
   go_wp2
   go_ret;exact f.o
 ·have bb:(G==0)=false:=by simpa using D
  have f:=ah (j.o G R af (.inr ⟨p.o,.inr ⟨a,F.o,.inl ⟨by rw[<-z.o];exact D,z.o⟩⟩⟩));clear D
  go_wp2
  go_ret;exact f.o
section
def th:Array Value:=#[.int .i64 12,.func (.func 132) #[] #[],.int .i64 11,.func (.func 133) #[] #[],.int .i64 10,.func (.func 136) #[] #[],.int .i64 18,.func (.func 139) #[] #[],.int .i64 14,.func (.func 140) #[] #[],.int .i64 15,.func (.func 141) #[] #[]]
theorem NO(w:World):Calls prog 60 #[] w fun a w'=>a=.returned (.slice (some ⟨w.heap.size,0,none⟩) 6 6)/\w'=w.alloc (.cells th 138):=by
 unfold th;go_enter func60,ntmps60
 go_wp2
 go_ret;exact⟨rfl,rfl⟩
theorem EV{W:World}{B b size n l:Nat}{v:Value}{xs:List Value}{o o':Obj}(h:W.ownsRow B b size v n xs)(j:W.heap[l]?=some o)(i:o.isCells=false):(W.putObj l o').ownsRow B b size v n xs:=by
 refine⟨h.1,?_⟩;rcases h.2 with d|⟨g,cap,c,m,f,a,e⟩
 ·exact .inl d
 ·refine .inr ⟨g,cap,c,m,f,?_,e⟩
  rw[dN (fun b=>by
   subst b;rw[j]at a;injection a with a
   subst a;cases i)]
  exact a
theorem aP{W W':World}{B a size n:Nat}{v:Value}{xs:List Value}(h:W.ownsRow B a size v n xs)(f:∀g,v.ownBlock=some g->W'.heap[g]?=W.heap[g]?):W'.ownsRow B a size v n xs:=by
 refine⟨h.1,?_⟩;rcases h.2 with c|⟨g,cap,b,rfl,e,i,d⟩
 ·exact .inl c
 ·exact .inr ⟨g,cap,b,rfl,e,(f g rfl).trans i,d⟩
def SCk(a:Nat)(W:World)(b:Nat):Prop:=(∃v n xs,W.heap[a]?=some (.cells #[v] 27)/\W.ownsRow (a+1) 29 4 v n xs/\v.ownBlock≠some b)/\b≠a/\b<W.heap.size
theorem aF{W:World}{B a size n g:Nat}{v:Value}{xs:List Value}(h:W.ownsRow B a size v n xs)(d:v.ownBlock=some g):B<=g/\g<W.heap.size:=by obtain⟨b,c,_⟩:=wn h g d;exact⟨b,c⟩
theorem kA(r:Nat):mF (SCk r):=by
 refine⟨fun h=>h.2.2,?_,?_,?_⟩
 ·rintro W W' b ⟨⟨v,n,xs,a,c,e⟩,f,i⟩ d
  exact⟨⟨v,n,xs,(d.block _ (aU a)).trans a,aP c (fun g m=>d.block g (aF c m).2),e⟩,f,dn i d.size⟩
 ·rintro W W' b t ⟨⟨v,n,xs,a,c,e⟩,f,i⟩ d w s
  have:=aU a;exact⟨⟨v,n,xs,(d.block _ (aU a)).trans a,aP c (fun g m=>d.block g (aF c m).2),fun j=>by have:=(aF c j).2;omega⟩,ad,s⟩
 ·rintro W b l o o' ⟨⟨v,n,xs,a,c,e⟩,f,i⟩ q p u
  refine⟨⟨v,n,xs,?_,EV c q p,e⟩,f,by rw[lK];exact i⟩;rw[dN (fun j=>by
   subst j;rw[q]at a;injection a with a
   subst a;cases p)]
  exact a
structure kU(w0:World)(NB:Nat)(t:Tr)(k:Nat)(W:World)(v:Value)(rs:List KA):Prop where
 base:Below w0.heap.size w0 W
 nb:w0.heap.size<=NB
 box:W.heap[NB]?=some (.cells #[v] 27)
 len:rs.length=k
 own:W.ownsRow (NB+1) 29 4 v k (kidRows ((nodesT t).take k) rs)
 tr:∀(i:Nat) (m:Tr) (q:KA),(nodesT t)[i]?=some m->rs[i]?=some q->dm W (SCk NB W) m q
theorem kU.below{w0 W W':World}{a:Nat}{t:Tr}{k:Nat}{v:Value}{rs:List KA}(h:kU w0 a t k W v rs)(b:Below W.heap.size W W'):kU w0 a t k W' v rs:=
 ⟨h.base.trans (b.mono h.base.size),h.nb,(b.block _ (aU h.box)).trans h.box,h.len,aP h.own (fun g e=>b.block g (aF h.own e).2),fun i m q c d=>(Kp.of (kA a) b).tree (kA a) (h.tr i m q c d)⟩
theorem kU.put{w0 W:World}{c:Nat}{t:Tr}{k l:Nat}{v:Value}{rs:List KA}{o o':Obj}(h:kU w0 c t k W v rs)(p:w0.heap.size<=l)(e:W.heap[l]?=some o)(d:o.isCells=false)(n:o'.isCells=false):kU w0 c t k (W.putObj l o') v rs:=
 ⟨⟨h.base.os,h.base.tape,h.base.output,by rw[lK];exact h.base.size,fun b j=>(dN ad).trans (h.base.block b j)⟩,h.nb,
   (dN (fun f=>by have a:=h.box;rw[f,e]at a;injection a with a;subst a;cases d)).trans h.box,h.len,EV h.own e d,fun i m q a g=>wK (kA c) e d n (h.tr i m q a g)⟩
structure nG(NB:Nat)(X Y:World)(v v':Value)(k:Nat)(row:List Value)(nb:Value):Prop where
 os:Y.os=X.os
 tape:Y.tape=X.tape
 output:Y.output=X.output
 size:X.heap.size<=Y.heap.size
 block:∀b,b<X.heap.size->b≠NB->v.ownBlock≠some b->Y.heap[b]?=X.heap[b]?
 own:Y.ownsRow (NB+1) 29 4 v' (k+1) row
 nbc:Y.heap[NB]?=some (.cells #[nb] 27)
 nblk:∀g,v'.ownBlock=some g->v.ownBlock=some g∨X.heap.size<=g
theorem NP{ks:List Tr}{rs:List KA}{k:Tr}{q:KA}(h:rs.length=ks.length):kidRows (ks++[k]) (rs++[q])=kidRows ks rs++sk k q:=by unfold kidRows;rw[List.zip_append ad,ug];simp
theorem nG.done{w0 X Y:World}{e:Nat}{t:Tr}{k:Nat}{v g:Value}{rs:List KA}{x:Tr}{q:KA}(h:kU w0 e t k X v rs)(n:(nodesT t)[k]?=some x)(u:dm X (SCk e X) x q)(c:nG e X Y v g k (kidRows ((nodesT t).take k) rs++sk x q) g):
 kU w0 e t (k+1) Y g (rs++[q])/\Kp (SCk e) X Y:=by
 have z:=(aL.1 n).1;have j:Kp (SCk e) X Y:=⟨c.size,fun b l=>by
  obtain⟨⟨y,B,C,a,d,p⟩,r,s⟩:=l;have f:y=v:=by rw[h.box]at a;injection a with a;injection a with a;simpa using a.symm
  subst f;refine⟨⟨⟨g,_,_,c.nbc,c.own,fun f=> ?_⟩,r,dn s c.size⟩,c.block b s r p⟩;rcases c.nblk b f with o|o
  ·exact p o
  ·omega⟩
 refine⟨⟨⟨c.os.trans h.base.os,c.tape.trans h.base.tape,c.output.trans h.base.output,aJ h.base.size c.size,fun b l=> ?_⟩,h.nb,c.nbc,by simp[h.len],?_,fun i m w a d=> ?_⟩,j⟩
 ·have A:=h.base.size
  have:=h.nb;refine(c.block b ad ad (fun f=> ?_)).trans (h.base.block b l);have:=(aF h.own f).1;omega
 ·rw[bV,n,fF,NP (by rw[fm,h.len];omega)]
  exact c.own
 ·by_cases f:i<k
  ·rw[eP (by rw[h.len];exact f)]at d
   exact j.tree (kA e) (h.tr i m w a d)
  ·rw[fZ (by rw[h.len];omega),h.len]at d
   have:i=k:=by have:=(aL.1 d).1;simp at this;omega
   subst this;rw[xF]at d;injection d with d
   subst d;rw[n]at a;injection a with a
   subst a;exact j.tree (kA e) u
structure R7(v xv kv:Value)(own:World->Value->Prop)(C:World->Value->Bool->Bool->Prop)(AD:Value->Value->Prop)(IB:World->Prop)(B:Nat->Bool)(Y:World)(v19 v20 v21 v22 v23 v24:Value):Prop where
 j0:B 0=true->v19=v
 j1:B 1=true->v20=xv
 j2:B 2=true->v21=kv
 j3:B 3=true->B 4=false->own Y v22
 j5:B 5=true->AD v23 v24
 jp:B 4=true->C Y v23 (B 6) (B 7)
 jb:B 4=false->IB Y
 d4:B 4=true->B 0=true/\B 1=true/\B 2=true/\B 3=true
 d5:B 5=true->B 4=true
 d6:B 6=true->B 5=true
 d7:B 7=true->B 4=true
section
variable{v xv kv:Value} {own:World->Value->Prop} {C:World->Value->Bool->Bool->Prop} {AD:Value->Value->Prop} {IB:World->Prop} {B B':Nat->Bool} {Y Y':World} {v19 v20 v21 v22 v23 v24:Value}
 (h:R7 v xv kv own C AD IB B Y v19 v20 v21 v22 v23 v24)
include h
theorem R7.n4{i:Nat}(m:i=0∨i=1∨i=2∨i=3)(n:B i=false):B 4=false/\B 5=false/\B 6=false/\B 7=false:=by
 have f:B 4=false:=by
  cases e:B 4 with
  |false=>rfl
  |true=>
   obtain⟨a,b,c,d⟩:=h.d4 e;rcases m with rfl|rfl|rfl|rfl<;>simp_all
 have g:B 5=false:=by cases e:B 5 with
  |false=>rfl
  |true=>rw[h.d5 e]at f;cases f
 have j:B 6=false:=by cases e:B 6 with
  |false=>rfl
  |true=>rw[h.d6 e]at g;cases g
 have l:B 7=false:=by cases e:B 7 with
  |false=>rfl
  |true=>rw[h.d7 e]at f;cases f
 exact⟨f,g,j,l⟩
theorem R7.s0(b:∀j,B' j=(decide (j=0)||B j))(g:B 0=false):R7 v xv kv own C AD IB B' Y v v20 v21 v22 v23 v24:=by obtain⟨c,d,e,f⟩:=h.n4 (i:=0) ak g;exact⟨fun _=>rfl,fun a=>h.j1 (by simpa[b]using a),fun a=>h.j2 (by simpa[b]using a),fun a _=>h.j3 (by simpa[b]using a) c,fun a=>by simp[b,d]at a,fun a=>by simp[b,c]at a,fun _=>h.jb c,fun a=>by simp[b,c]at a,fun a=>by simp[b,d]at a,fun a=>by simp[b,e]at a,fun a=>by simp[b,f]at a⟩
theorem R7.s1(b:∀j,B' j=(decide (j=1)||B j))(g:B 1=false):R7 v xv kv own C AD IB B' Y v19 xv v21 v22 v23 v24:=by obtain⟨c,d,e,f⟩:=h.n4 (i:=1) ak g;exact⟨fun a=>h.j0 (by simpa[b]using a),fun _=>rfl,fun a=>h.j2 (by simpa[b]using a),fun a _=>h.j3 (by simpa[b]using a) c,fun a=>by simp[b,d]at a,fun a=>by simp[b,c]at a,fun _=>h.jb c,fun a=>by simp[b,c]at a,fun a=>by simp[b,d]at a,fun a=>by simp[b,e]at a,fun a=>by simp[b,f]at a⟩
theorem R7.s2(b:∀j,B' j=(decide (j=2)||B j))(g:B 2=false):R7 v xv kv own C AD IB B' Y v19 v20 kv v22 v23 v24:=by obtain⟨c,d,e,f⟩:=h.n4 (i:=2) ak g;exact⟨fun a=>h.j0 (by simpa[b]using a),fun a=>h.j1 (by simpa[b]using a),fun _=>rfl,fun a _=>h.j3 (by simpa[b]using a) c,fun a=>by simp[b,d]at a,fun a=>by simp[b,c]at a,fun _=>h.jb c,fun a=>by simp[b,c]at a,fun a=>by simp[b,d]at a,fun a=>by simp[b,e]at a,fun a=>by simp[b,f]at a⟩
theorem R7.s3{u:Value}(b:∀j,B' j=(decide (j=3)||B j))(l:B 3=false)(m:own Y' u)(g:IB Y'):R7 v xv kv own C AD IB B' Y' v19 v20 v21 u v23 v24:=by obtain⟨c,d,e,f⟩:=h.n4 (i:=3) ak l;exact⟨fun a=>h.j0 (by simpa[b]using a),fun a=>h.j1 (by simpa[b]using a),fun a=>h.j2 (by simpa[b]using a),fun _ _=>m,fun a=>by simp[b,d]at a,fun a=>by simp[b,c]at a,fun _=>g,fun a=>by simp[b,c]at a,fun a=>by simp[b,d]at a,fun a=>by simp[b,e]at a,fun a=>by simp[b,f]at a⟩
theorem R7.s4{u:Value}(b:∀j,B' j=(decide (j=4)||B j))(d:B 4=false)(e:B 0=true)(f:B 1=true)(g:B 2=true)(m:B 3=true)(n:C Y' u false false):R7 v xv kv own C AD IB B' Y' v19 v20 v21 v22 u v24:=by
 have c:B 5=false:=by cases a:B 5 with
  |false=>rfl
  |true=>rw[h.d5 a]at d;cases d
 have i:B 6=false:=by cases a:B 6 with
  |false=>rfl
  |true=>rw[h.d6 a]at c;cases c
 have l:B 7=false:=by cases a:B 7 with
  |false=>rfl
  |true=>rw[h.d7 a]at d;cases d
 exact⟨fun _=>h.j0 e,fun _=>h.j1 f,fun _=>h.j2 g,fun _ a=>by simp[b]at a,fun a=>by simp[b,c]at a,fun _=>by simpa[b,i,l]using n,fun a=>by simp[b]at a,fun _=>by simp[b,e,f,g,m],fun a=>by simp[b,c]at a,fun a=>by simp[b,i]at a,fun a=>by simp[b,l]at a⟩
theorem R7.s5{u:Value}(a:∀j,B' j=(decide (j=5)||B j))(g:B 5=false)(c:B 4=true)(l:AD v23 u):R7 v xv kv own C AD IB B' Y v19 v20 v21 v22 v23 u:=by
 have m:B 6=false:=by cases b:B 6 with
  |false=>rfl
  |true=>rw[h.d6 b]at g;cases g
 obtain⟨d,e,f,i⟩:=h.d4 c;exact⟨fun _=>h.j0 d,fun _=>h.j1 e,fun _=>h.j2 f,fun _ b=>by simp[a,c]at b,fun _=>l,fun _=>by have:=h.jp c;simpa[a]using this,fun b=>by simp[a,c]at b,fun _=>by simp[a,d,e,f,i],fun _=>by simp[a,c],fun b=>by simp[a],fun _=>by simp[a,c]⟩
theorem R7.s6(a:∀j,B' j=(decide (j=6)||B j))(m:B 6=false)(d:B 5=true)(l:C Y' v23 true (B 7)):R7 v xv kv own C AD IB B' Y' v19 v20 v21 v22 v23 v24:=by have b:=h.d5 d;obtain⟨e,f,g,i⟩:=h.d4 b;exact⟨fun _=>h.j0 e,fun _=>h.j1 f,fun _=>h.j2 g,fun _ c=>by simp[a,b]at c,fun _=>h.j5 d,fun _=>by simpa[a]using l,fun c=>by simp[a,b]at c,fun _=>by simp[a,e,f,g,i],fun _=>by simp[a,b],fun c=>by simp[a,d],fun _=>by simp[a,b]⟩
theorem R7.s7(a:∀j,B' j=(decide (j=7)||B j))(l:B 7=false)(c:B 4=true)(i:C Y' v23 (B 6) true):R7 v xv kv own C AD IB B' Y' v19 v20 v21 v22 v23 v24:=by obtain⟨d,e,f,g⟩:=h.d4 c;exact⟨fun _=>h.j0 d,fun _=>h.j1 e,fun _=>h.j2 f,fun _ b=>by simp[a,c]at b,fun b=>h.j5 (by simpa[a]using b),fun _=>by simpa[a]using i,fun b=>by simp[a,c]at b,fun _=>by simp[a,d,e,f,g],fun _=>by simp[a,c],fun b=>by have:=h.d6 (by simpa[a]using b);simp[a,this],fun _=>by simp[a,c]⟩
end
def kV:List Value:=[.string ⟨#[]⟩,.string ⟨#[]⟩,.slice none 0 0,.slice none 0 0]
theorem NQ{w0 X Y:World}{c:Nat}{t:Tr}{k g:Nat}{v:Value}{rs:List KA}(h:kU w0 c t k X v rs)(a:Below X.heap.size X Y)(i:Y.heap[g]?=some (.cells kV.toArray 29))(H:k<=1048576):
 ∃m Y',(∀ty,(Builtin.append_ #[27,27] ty #[v,.slice (some ⟨g,0,none⟩) 1 1]).run prog Y=.ok m Y')/\nG c X Y' v m k (kidRows ((nodesT t).take k) rs++kV) v/\∃e cap,m=.slice (some ⟨e,0,none⟩) (k+1) cap:=by
 obtain⟨E,w,B,C,D⟩:=cY DV;have x:Y.ownsRow (c+1) 29 4 v k (kidRows ((nodesT t).take k) rs):=aP h.own (fun g u=>a.block g (aF h.own u).2);have r:=aU h.box;obtain⟨e,cap,Y',y,n,d,f,F⟩:=run_append_lies (P:=prog) Y 27 27 (c+1) 29 E (.agg kV.toArray) 4 80 underlying27 w B C D rfl ap v k _ x ⟨g,0,none⟩ 1 1 kV rfl (World.news_of_block i) (fun z i=>by simp[kV]at i;rcases i with rfl|rfl|rfl|rfl<;>rfl) ap bI ad (by have:=a.size;omega) Y.heap.size rfl;have A:=a.size;refine⟨_,Y',fun ty=>by rw[<-y];rfl,⟨d.os.trans a.os,d.tape.trans a.tape,d.output.trans a.output,aJ A d.size,fun b o G p=>(d.block b ad (fun j=>p j.symm)).trans (a.block b o),n,?_,fun q l=> ?_⟩,e,cap,rfl⟩
 ·have s:c<Y.heap.size:=ad
  refine(d.block c s (fun j=> ?_)).trans ((a.block _ r).trans h.box);have:=(aF h.own j.symm).1;omega
 ·injection l with l
  subst l;rcases f with f|f
  ·exact .inl f
  ·exact .inr (by show X.heap.size<=e;omega)
theorem NR{e:List Value}{a b c d f g i j:Value}{k:Nat}(h:e.length=k*4):((((e++[f,g,i,j]).set (k*4) a).set (k*4+1) b).set (k*4+2) c).set (k*4+3) d=e++[a,b,c,d]:=by rw[<-h];simp[List.set_append]
theorem NS{X Y:World}{e k g cap:Nat}{v n a b c d:Value}{j:List Value}(h:nG e X Y v (.slice (some ⟨g,0,none⟩) (k+1) cap) k (j++kV) n)(y:j.length=k*4):
 nG e X ((((Y.setCell ⟨g,k*4,none⟩ a).setCell ⟨g,k*4+1,none⟩ b).setCell ⟨g,k*4+2,none⟩ c).setCell ⟨g,k*4+3,none⟩ d) v (.slice (some ⟨g,0,none⟩) (k+1) cap) k (j++[a,b,c,d]) n:=by
 obtain⟨z,p⟩:=h.own.stored (k*4) a;obtain⟨A,r⟩:=z.stored (k*4+1) b;obtain⟨B,s⟩:=A.stored (k*4+2) c;obtain⟨o,t⟩:=B.stored (k*4+3) d;have f:=((p.trans r).trans s).trans t;have C:e+1<=g:=(aF h.own rfl).1;have x:(Value.slice (some ⟨g,0,none⟩) (k+1) cap).ownBlock≠some e:=fun i=>by have:g=e:=by simpa[Value.ownBlock]using i
                                                                                                                                                                                                                                                                                     omega
 rw[show kV=[Value.string ⟨#[]⟩,.string ⟨#[]⟩,.slice none 0 0,.slice none 0 0]from rfl,NR y]at o;refine⟨f.os.trans h.os,f.tape.trans h.tape,f.output.trans h.output,aJ h.size f.size,fun q u w m=>(f.block q (by have:=h.size;omega) (fun i=> ?_)).trans (h.block q u w m),o,(f.block e (aU h.nbc) x.symm).trans h.nbc,h.nblk⟩;injection i with i
 subst i;rcases h.nblk q rfl with l|l
 ·exact m l
 ·omega
theorem NT{X Y:World}{a k:Nat}{v c f u:Value}{row:List Value}(h:nG a X Y v c k row f)(g:a<X.heap.size):nG a X (Y.setCell ⟨a,0,none⟩ u) v c k row u:=by refine⟨h.os,h.tape,h.output,by rw[dE];exact h.size,fun q d b e=>(fQ _ _ _ _ b).trans (h.block q d b e),ownsRow_setCell_below h.own ak u,one_setCell h.nbc,h.nblk⟩
theorem NU{X Y:World}{d k g cap:Nat}{v f:Value}{c:List Value}(h:nG d X Y v (.slice (some ⟨g,0,none⟩) (k+1) cap) k (c++kV) f)(e:c.length=k*4):
 (Y.cell? ⟨g,k*4,none⟩=some (.string ⟨#[]⟩)/\Y.cell? ⟨g,k*4+1,none⟩=some (.string ⟨#[]⟩)/\Y.cell? ⟨g,k*4+2,none⟩=some (.slice none 0 0)/\Y.cell? ⟨g,k*4+3,none⟩=some (.slice none 0 0))/\∀j,Y.frozen? ⟨g,j,none⟩=false:=by
 have a:=fun j (i:j<4)=>h.own.cellAt (k*4+j) ad;have b:∀j,(c++kV)[k*4+j]?=kV[j]?:=fun j=>by rw[fZ ad,e,Iz]
 refine⟨⟨?_,?_,?_,?_⟩,fun j=>h.own.frozenAt j⟩
 ·exact(a 0 ad).trans (b 0)
 ·exact(a 1 ad).trans (b 1)
 ·exact(a 2 ad).trans (b 2)
 ·exact(a 3 ad).trans (b 3)
attribute [local go_sem] uC
theorem NV:∀(n:Nat) (t:Tr),SizeOf.sizeOf t<=n->(nodesT t).length=gz t:=by
 intro n;induction n with
 |zero=>intro t h;cases t;simp at h
 |succ n ih=>
  intro t h;have b:∀ks:List Tr,(∀k∈ks,(nodesT k).length=gz k)->(dz ks).length=fC ks:=fun ks=>by
   induction ks with
   |nil=>intro _;simp[dz,fC]
   |cons k ks d=>intro a;simp only[dz,fC,cR];rw[a k ak,d fun x c=>a x (by simp[c])]
  rw[zI,EK,b _ fun k a=>ih k (by have:=zn a;omega)];omega
theorem NW{listed:Array Bool}{i:Nat}(b:i<listed.size)(j:Nat):(listed.setIfInBounds i true).getD j false=(decide (j=i)||listed.getD j false):=by
 have h:=EN b j;cases a:(listed.setIfInBounds i true).getD j false with
 |true=>rcases h.1 a with h|h<;>simp[h]
 |false=>
  rw[a]at h;simp only[j8,false_iff,not_or]at h;simp[h.1,h.2]
theorem NX{listed:Array Bool}{i:Nat}(h:listed.getD i true=false):listed.getD i false=false:=by have:=EO h;simpa using this
theorem bL{W:World}{B a size n:Nat}{v:Value}{xs:List Value}(h:W.ownsRow B a size v n xs):∃o c,v=.slice o n c:=by
 rcases h.2 with⟨b,d⟩|⟨g,cap,f,e,_⟩
 ·subst d
  exact⟨_,_,b⟩
 ·exact⟨_,_,e⟩
theorem jx{W:World}{B e size n c:Nat}{o:Option Addr}{xs:List Value}(h:W.ownsRow B e size (.slice o n c) n xs):dp W o n c size xs:=by
 by_cases w:n=0
 ·subst w
  rcases h.2 with⟨e,d⟩|⟨g,cap,y,f,q,C,m,p,z,A⟩
  ·injection e with a i b
   subst a;subst b;exact⟨h.1,az _,aZ _,fun d=>absurd d (ue 0)⟩
  ·injection f with a i b
   subst a;subst b;exact⟨h.1,m,p,fun d=>absurd d (ue 0)⟩
 ·obtain⟨g,x,f,q,s,v,r⟩:=pB h ad
  injection f with a i b
  subst a;subst b;refine⟨h.1,v,r,fun _=>⟨g,0,rfl,s,fun j u l=> ?_⟩⟩;have t:j<n*size:=by rw[<-h.1];exact(aL.1 l).1
  rw[cD];exact(rH h j t).trans l
def gO:List (Int×Nat×(Tr->Bool)):=[(12,132,qv),(11,133,r9),(10,136,se),(18,139,uT),(14,140,sh),(15,141,si)]
theorem NY{f:Int×Nat×(Tr->Bool)}(h:f∈gO):∀args a,(callFunc f.2.1 args).run prog a=.ok (.enter f.2.1 args) a:=by simp only[gO,du,qk,ql]at h;intro args a;rcases h with rfl|rfl|rfl|rfl|rfl|rfl<;>rfl
theorem NZ{f:Int×Nat×(Tr->Bool)}(h:f∈gO)(m:Tr)(q:KA)(w:World)(d:Gl w)(b:eR w m q)(a:nj m):
 Calls prog f.2.1 #[cP m q] w fun c w'=>c=.returned (.bool (f.2.2 m))/\Below w.heap.size w w':=by
 simp only[gO,du,qk,ql]at h;rcases h with rfl|rfl|rfl|rfl|rfl|rfl
 ·exact J9 m q w
 ·exact Kb m q w b a
 ·exact NI m q w d b a
 ·exact Ka m q w
 ·exact NK m q w b a
 ·exact NL m q w b a
theorem N0{i:Nat}{f:Int×Nat×(Tr->Bool)}(h:gO[i]?=some f):th[i*2]?=some (.int .i64 f.1)/\th[i*2+1]?=some (.func (.func f.2.1) #[] #[]):=by have a:=(aL.1 h).1;simp only[gO,db,ge]at a;rcases(show i=0∨i=1∨i=2∨i=3∨i=4∨i=5 by omega)with rfl|rfl|rfl|rfl|rfl|rfl<;>(simp[gO]at h;subst h;exact⟨rfl,rfl⟩)
theorem N6{t:Tr}(h:¬(4096<gz t∨32<fR t)){i:Nat}{f:Int×Nat×(Tr->Bool)}(a:gO[i]?=some f)(b:∀g∈gO.take i,(nodesT t).any g.2.2=false)(d:(nodesT t).any f.2.2=true):kL t=f.1:=by have c:=(aL.1 a).1;simp only[gO,db,ge]at c;unfold kL;rw[au h];rcases(show i=0∨i=1∨i=2∨i=3∨i=4∨i=5 by omega)with rfl|rfl|rfl|rfl|rfl|rfl<;>(simp[gO]at a;subst a;simp[gO,-List.any_eq_false,-List.any_eq_true]at b;simp only[b,d];simp)
theorem N9{t:Tr}(h:¬(4096<gz t∨32<fR t))(a:∀g∈gO,(nodesT t).any g.2.2=false):kL t=0:=by unfold kL;rw[au h];simp[gO,-List.any_eq_false,-List.any_eq_true]at a;simp only[a];simp
theorem EW{w W:World}{a:Nat->Prop}{t:Tr}{e:KA}(g:dm w (fun _=>True) t e)(c:Below w.heap.size w W)(f:∀b,b<w.heap.size->a b):dm W a t e:=dm.kept g c.size fun b h d _=>⟨c.cell (p:=⟨b,h,none⟩) d,f b d⟩
theorem Oa:EU:=by
 intro t d w ex cu M;obtain⟨al,aq⟩:=ar ((w.alloc (.cells #[.string ⟨t.label.toArray⟩,.string ⟨t.text.toArray⟩,.slice d.ao t.attrs.length d.ac,.slice d.ko t.kids.length d.kc] 29)).alloc (.cells #[.int .i64 4096] 3));have b7:Below w.heap.size w al:=by rw[aq];exact aG.alloc ak _
 have h8:al.heap.size=w.heap.size+2:=by rw[aq];simp
 have t1:al.heap[w.heap.size]?=some (.cells #[.string ⟨t.label.toArray⟩,.string ⟨t.text.toArray⟩,.slice d.ao t.attrs.length d.ac,.slice d.ko t.kids.length d.kc] 29):=by rw[aq];exact(bk _ _ _ ak).trans (aB w _)
 have cF:al.heap[w.heap.size+1]?=some (.cells #[.int .i64 (4096:Nat)] 3 (0,0)):=by rw[aq];have:=aB (w.alloc (.cells #[.string ⟨t.label.toArray⟩,.string ⟨t.text.toArray⟩,.slice d.ao t.attrs.length d.ac,.slice d.ko t.kids.length d.kc] 29)) (.cells #[.int .i64 4096] 3);rwa[bj]at this
 have e6:dm al (fun b=>b≠w.heap.size+1) t d:=EW cu b7 (fun b h=>ad);have cd:=NA (w.heap.size+1) _ t d 32 4096 al (az _) e6 cF ap ap;have a5:=ai 0 t1;have a6:=ai 1 t1;have a7:=ai 2 t1;have a8:=ai 3 t1;obtain⟨gG,c8,fT,gs,ec,c3⟩:=g6 cu M ex cF t1 b7;clear cu M ex cF t1 b7 e6;unfold cP at cd;unfold cP;refine(j9 (n:=9)).1 (ID func28 rfl trivial ?_ rfl);simp only[ntmps28,Bm,db,ge,Nat.reduceAdd,Nat.reduceSub,Bn,Bo,Br,Bt,mS,jf]
 gi_wp2_with fail
 refine xR.2 (wp_scope_straight ((xR (n:=9)).1 ?_))
 gi_wp2_with (first
  |(rw[<-aq];clear aq)
  |fail)
 refine⟨trivial,(j9.2 cd).mono ?_⟩;rintro y e ⟨n',rfl,h4,hc,eU,bE⟩;clear cd a5 a6 a7 a8 hc eU;have b8:Below w.heap.size w e:=c3.o.grown bE ad (fun k y=>by cases y;omega);have h9:=bE.size;have t2:=(bE.block w.heap.size ad (fun y=>by injection y with y;omega)).trans ec.o;clear ec gs c3 bE;obtain⟨ab,gf⟩:=aD b8 t2;by_cases eC:fR t<=32/\gz t<=4096
 ·rw[lm eC]
  have bC:¬(4096<gz t∨32<fR t):=ad;obtain⟨O,bt,b9⟩:=dF e (.cells #[.slice none 0 0] 27);have hC:O.heap.size=e.heap.size+1:=by rw[bt];simp
  have bd:O.heap[e.heap.size]?=some (.cells #[.slice none 0 0] 27):=by rw[bt];exact aB e _
  have t3:=(b9.block w.heap.size ad).trans t2;have a5:=ai 0 t3;have a6:=ai 1 t3;have a7:=ai 2 t3;have a8:=ai 3 t3;have cv:=ER t d O;unfold cP at cv;obtain⟨c0,ds,ed⟩:=bH (b8.trans (b9.mono ad)) bd t3;clear t2 b8 t3 bd b9
  gi_wp2_with (first
   |(rw[<-bt];clear bt)
   |fail)
  refine⟨trivial,?_⟩;refine(j9.2 cv).mono ?_;rintro y I ⟨rfl,bu⟩;have bl:Below O.heap.size O I:=by rw[bu];exact aG
  have ia:I.heap.size=O.heap.size+1:=by rw[bu];simp
  have f4:I.heap[O.heap.size]?=some (.cells #[.string ⟨t.label.toArray⟩,.string ⟨t.text.toArray⟩,.slice d.ao t.attrs.length d.ac,.slice d.ko t.kids.length d.kc] 29):=by rw[bu];exact aB O _
  have fl:=(bl.block e.heap.size ad).trans ds.o;obtain⟨c4,gl,ea,hN⟩:=cr (c0.o.trans (bl.mono ad)) f4 fl ((bl.block w.heap.size ad).trans ed.o);clear a5 a6 a7 a8 cv bu f4 fl ds ed c0 gf ab bl;have cG:I.ownsRow (e.heap.size+1) 29 4 (.slice none 0 0) 0 []:=⟨rfl,.inl ⟨rfl,rfl⟩⟩;have bZ:∀b,b<I.heap.size->b≠e.heap.size->SCk e.heap.size I b:=fun b es cb=>⟨⟨_,0,[],ea.o,cG,fun y=>by cases y⟩,cb,es⟩;have e5:dm I (SCk e.heap.size I) t d:=EW gG.o c4.o (fun b z=>bZ b ad ad);have hs:=NV _ t (az _);have h5:(nodesT t).length<=4096:=ad;clear hs;have e8:=NH (SCk e.heap.size) (kA _) _ t d O.heap.size I (az _) e5 (fun m M=>(c8.o m M).kids) ad gl.o (bZ _ ad ad);have ew:kU w e.heap.size t 0 I (.slice none 0 0) []:=⟨c4.o,ad,ea.o,rfl,cG,fun i m q es cb=>by simp at cb⟩;obtain⟨eg,fN⟩:=aD e8 ew;have e3:=bZ w.heap.size ad ad;clear e8 ew cG bZ e5;rw[hC]at eg
  gi_wp2
  refine EI (kA _) w.heap.size e3 9 131 _ (nodesT t).length (wL (SCk e.heap.size) t) rfl ES eg.o (fun k X args h=>EQ h)
   (fun k W=>∃v rs,kU w e.heap.size t k W v rs) ?_ ?_ ?_ ?_ ?_
  ·rintro k fz B ⟨v,rs,h⟩ z
   exact⟨v,rs,h.below z⟩
  ·rintro k fz hP o o' ⟨v,rs,h⟩ eU G ht hu
   exact⟨v,rs,h.put ad G ht hu⟩
  ·exact⟨_,_,fN.o⟩
  ·rintro cx k X args busy m h1 ⟨v,rs,ez⟩ hv h2 ⟨hB,co⟩
   obtain⟨x,r,hA,hz,hy,e9,rfl,fb,hw,h6⟩:=hv;unfold cP;obtain⟨E,S,J⟩:=dF X (.cells #[.string ⟨x.label.toArray⟩,.string ⟨x.text.toArray⟩,.slice r.ao x.attrs.length r.ac,.slice r.ko x.kids.length r.kc] 29);have fw:E.heap.size=X.heap.size+1:=by rw[S];simp
   have eA:E.heap[X.heap.size]?=some (.cells #[.string ⟨x.label.toArray⟩,.string ⟨x.text.toArray⟩,.slice r.ao x.attrs.length r.ac,.slice r.ko x.kids.length r.kc] 29):=by rw[S];exact aB X _
   gi_wp2_with (first
    |(rw[<-S];clear S)
    |fail)
   refine⟨J,?_⟩;have hp:cx<X.heap.size:=(iq.1 co).1;obtain⟨P,av⟩:=ar (E.putObj cx (.loop busy));rw[<-av];have cp:E.heap[cx]?=some (.loop hB):=(J.block _ hp).trans co;have cc:kU w e.heap.size t k P v rs:=by rw[av];exact(ez.below J).put ad cp rfl rfl
   have fc:dm P (SCk e.heap.size P) x r:=by rw[av];exact wK (kA _) cp rfl rfl ((Kp.of (kA _) J).tree (kA _) fb)
   have fg:P.heap[X.heap.size]?=some (.cells #[.string ⟨x.label.toArray⟩,.string ⟨x.text.toArray⟩,.slice r.ao x.attrs.length r.ac,.slice r.ko x.kids.length r.kc] 29):=by rw[av];exact(dN ad).trans eA
   have hD:P.heap.size=X.heap.size+1:=by rw[av,lK];exact fw
   clear av co cp ez J fb hw eA;obtain⟨af,bw⟩:=ar (World.drew P);have a4:Below P.heap.size P af:=by rw[bw];exact(aE _ _).drew
   have ib:af.heap.size=X.heap.size+1:=by rw[bw];exact hD
   obtain⟨ag,g1⟩:=aD (cc.below a4) ((Kp.of (kA _) a4).tree (kA _) fc);have bd:=(a4.block _ ad).trans fg;obtain⟨b1,a0,rfl⟩:=bL cc.own;have h3:=ag.o.len;have ha:=aU ag.o.box;have e2:(kidRows ((nodesT t).take k) rs).length=k*4:=ag.o.own.1;have c1:Hid (∀Y,Below af.heap.size af Y->Y.cell? ⟨e.heap.size,0,none⟩=some (.slice b1 k a0)/\Y.cell? ⟨X.heap.size,0,none⟩=some (.string ⟨x.label.toArray⟩)/\Y.cell? ⟨X.heap.size,1,none⟩=some (.string ⟨x.text.toArray⟩)/\Y.cell? ⟨X.heap.size,2,none⟩=some (.slice r.ao x.attrs.length r.ac)/\Y.cell? ⟨X.heap.size,3,none⟩=some (.slice r.ko x.kids.length r.kc)):=fun Y z=>by have R:=(z.block _ ha).trans ag.o.box;have an:=(z.block _ ad).trans bd;exact⟨ai 0 R,ai 0 an,ai 1 an,ai 2 an,ai 3 an⟩
   obtain⟨gb,g0⟩:=aD (Kp.of (kA e.heap.size) a4) e9;clear cc fc fg bd a4 e9
   gi_wp2
   refine wpIn_region_any aA ?_;change wpAnyIn _ _ _ _ _ _ _ _ _ (World.drew P);rw[<-bw];clear bw;refine EM (fun listed a Y=>listed.size=8/\∃v19 v20 v21 v22 v23 v24:Value,a={tmps:=#[.agg #[.string ⟨t.label.toArray⟩,.string ⟨t.text.toArray⟩,.slice d.ao t.attrs.length d.ac,.slice d.ko t.kids.length d.kc],.pointer (some ⟨w.heap.size,0,none⟩),.int .i64 0,.pointer (some ⟨w.heap.size+1,0,none⟩),.pointer (some ⟨e.heap.size,0,none⟩),undef,.pointer (some ⟨X.heap.size,0,none⟩),undef,undef,undef,undef,undef,.agg #[.string ⟨t.label.toArray⟩,.string ⟨t.text.toArray⟩,.slice d.ao t.attrs.length d.ac,.slice d.ko t.kids.length d.kc],.bool true,.bool false,.agg #[.string ⟨t.label.toArray⟩,.string ⟨t.text.toArray⟩,.slice d.ao t.attrs.length d.ac,.slice d.ko t.kids.length d.kc],.func (.func 131) #[] #[.pointer (some ⟨e.heap.size+1,0,none⟩)],.slice hA hz hy,.agg #[.string ⟨x.label.toArray⟩,.string ⟨x.text.toArray⟩,.slice r.ao x.attrs.length r.ac,.slice r.ko x.kids.length r.kc],v19,v20,v21,v22,v23,v24,undef,undef,undef,undef,undef,undef,undef,undef,undef,undef,undef,undef,undef,undef,undef,undef,undef,undef,undef,undef,undef],defers:=[]}/\
    R7 (.slice b1 k a0) (.agg #[.string ⟨x.label.toArray⟩,.string ⟨x.text.toArray⟩,.slice r.ao x.attrs.length r.ac,.slice r.ko x.kids.length r.kc]) (.int .i64 (k:Nat))
     (fun Y u=>∃g,u=.slice (some ⟨g,0,none⟩) 1 1/\Y.heap[g]?=some (.cells kV.toArray 29))
     (fun Y b0 g2 g3=>∃F cap,b0=.slice (some ⟨F,0,none⟩) (k+1) cap/\nG e.heap.size af Y (.slice b1 k a0) b0 k (kidRows ((nodesT t).take k) rs++if g2=true then sk x r else kV) (if g3=true then b0 else .slice b1 k a0))
     (fun u1 u2=>∃F cap,u1=.slice (some ⟨F,0,none⟩) (k+1) cap/\u2=.pointer (some ⟨F,k*4,none⟩))
     (fun Y=>Below af.heap.size af Y) (fun i=>listed.getD i false) Y v19 v20 v21 v22 v23 v24) ?_ ?_ 8 (Array.replicate 8 false) _ _ rfl ap ?_
   ·rintro listed a Y i ⟨e4,v19,v20,v21,v22,v23,v24,rfl,p⟩ hi
    obtain⟨hr,o,G,L⟩:=gx.1 hi;have D:=NX hr;have hX:i<8:=(iq.1 G).1;have T:=NW (listed:=listed) (i:=i) ad;have aa:(listed.setIfInBounds i true).size=8:=by simpa using e4
    rcases(show i=0∨i=1∨i=2∨i=3∨i=4∨i=5∨i=6∨i=7 by omega)with rfl|rfl|rfl|rfl|rfl|rfl|rfl|rfl
    ·obtain⟨hI,fx,hJ,hK,hL⟩:=c1.o Y (p.jb (p.n4 (i:=0) ak D).1)
     refine jF rfl (fun ae A=> ?_);go_simp;refine A _ _ ?_;exact⟨aa,_,v20,v21,v22,v23,v24,rfl,p.s0 T D⟩
    ·obtain⟨hI,fx,hJ,hK,hL⟩:=c1.o Y (p.jb (p.n4 (i:=1) ak D).1)
     refine jF rfl (fun ae A=> ?_);go_simp;refine A _ _ ?_;exact⟨aa,v19,_,v21,v22,v23,v24,rfl,p.s1 T D⟩
    ·simp only[gU,gI,jZ,jY]at G
     subst G;have d0:=L {on:=0,ground:=.data} ak rfl;obtain rfl:=p.j0 d0;refine jF rfl (fun ae A=> ?_);go_simp;refine A _ _ ?_;exact⟨aa,_,v20,_,v22,v23,v24,rfl,p.s2 T D⟩
    ·have bB:=p.jb (p.n4 (i:=3) ak D).1
     refine jF rfl (fun ae A=> ?_);go_simp;refine A _ _ ?_;exact⟨aa,v19,v20,v21,_,v23,v24,rfl,p.s3 T D ⟨Y.heap.size,rfl,aB Y _⟩ (bB.alloc bB.size _)⟩
    ·have bB:=p.jb D
     simp only[gU,gI,jZ,jY]at G;subst G;have d0:=L {on:=0,ground:=.data} ak rfl;have d1:=L {on:=1,ground:=.phase} ak rfl;have d2:=L {on:=2,ground:=.phase} ak rfl;have d3:=L {on:=3,ground:=.data} ak rfl;obtain rfl:=p.j0 d0;obtain⟨g,rfl,H⟩:=p.j3 d3 D;obtain⟨b0,Y',hx,hd,F,cap,rfl⟩:=NQ ag.o bB H ad;refine jF rfl (fun ae A=> ?_);rw[ay (by simp[Region.wanted])];unfold Oper.wpIn;refine⟨by simp[Oper.about,resolve,Target.leads,uF],?_⟩;rw[Oper.semAt_plain _ _ _ (by intro c hb;cases hb)];simp[execOp,resolve,invoke,builtin,hx,Result.andThen,Act.eval];exact A _ _ ⟨aa,_,v20,v21,_,_,v24,rfl,p.s4 T D d0 d1 d2 d3 ⟨F,cap,rfl,by simpa using hd⟩⟩
    ·simp only[gU,gI,jZ,jY]at G
     subst G;have d4:=L {on:=4,ground:=.data} ak rfl;have d2:=L {on:=2,ground:=.data} ak rfl;obtain⟨F,cap,rfl,l⟩:=p.jp d4;obtain rfl:=p.j2 d2;have hn:(k:Int)<k+1:=ad;have hk:(0:Int)<=k:=ad;refine jF rfl (fun ae A=> ?_);go_simp;refine A _ _ ?_;exact⟨aa,v19,v20,_,v22,_,_,rfl,p.s5 T D d4 ⟨F,cap,rfl,rfl⟩⟩
    ·simp only[gU,gI,jZ,jY]at G
     subst G;have d5:=L {on:=5,ground:=.data} ak rfl;have d1:=L {on:=1,ground:=.data} ak rfl;have d4:=p.d5 d5;obtain⟨F,cap,rfl,l⟩:=p.jp d4;obtain⟨hR,hQ,R,rfl⟩:=p.j5 d5;injection R with R em an
     injection R with R
     injection R with R
     subst R;subst an;obtain rfl:=p.j1 d1;rw[D,au ak]at l;obtain⟨⟨cN,fy,iv,iw⟩,hM⟩:=NU l e2;refine jF rfl (fun ae A=> ?_);go_simp;refine A _ _ ?_;exact⟨aa,v19,_,v21,v22,_,_,rfl,p.s6 T D d5 ⟨F,_,rfl,NS l e2⟩⟩
    ·simp only[gU,gI,jZ,jY]at G
     subst G;have d4:=L {on:=4,ground:=.data} ak rfl;obtain⟨F,cap,rfl,l⟩:=p.jp d4;rw[D,au (show¬(false=true) by simp)]at l;have cN:=ai 0 l.nbc;have hM:=free_of_one l.nbc;refine jF rfl (fun ae A=> ?_);go_simp;refine A _ _ ?_;exact⟨aa,v19,v20,v21,v22,_,v24,rfl,p.s7 T D d4 ⟨F,_,rfl,NT l ad⟩⟩
   ·rintro listed a Y ⟨e4,v19,v20,v21,v22,v23,v24,rfl,p⟩ Z
    have ao:listed.getD 0 false=true:=by
     apply ei;intro l;have:(0:Nat)∈([]:List Nat):=by rw[<-Z];exact gx.2 ⟨jG ad (by simpa using l),_,rfl,fun y s=>by simp at s⟩
     cases this
    have a9:listed.getD 1 false=true:=by
     apply ei;intro l;have:(1:Nat)∈([]:List Nat):=by rw[<-Z];exact gx.2 ⟨jG ad (by simpa using l),_,rfl,fun y s=>by simp at s⟩
     cases this
    have ba:listed.getD 2 false=true:=by
     apply ei;intro l;have:(2:Nat)∈([]:List Nat):=by rw[<-Z];exact gx.2 ⟨jG ad (by simpa using l),_,rfl,fun y s _=>by simp at s;subst s;exact ao⟩
     cases this
    have bb:listed.getD 3 false=true:=by
     apply ei;intro l;have:(3:Nat)∈([]:List Nat):=by rw[<-Z];exact gx.2 ⟨jG ad (by simpa using l),_,rfl,fun y s=>by simp at s⟩
     cases this
    have V:listed.getD 4 false=true:=by
     apply ei;intro l;have:(4:Nat)∈([]:List Nat):=by rw[<-Z];exact gx.2 ⟨jG ad (by simpa using l),_,rfl,fun y s _=>by simp at s;rcases s with rfl|rfl|rfl|rfl|rfl|rfl;exact ao;exact bb;exact ao;exact a9;exact ba;exact bb⟩
     cases this
    have g4:listed.getD 5 false=true:=by
     apply ei;intro l;have:(5:Nat)∈([]:List Nat):=by
      rw[<-Z];refine gx.2 ⟨jG ad (by simpa using l),_,rfl,fun y s z=> ?_⟩;simp at s;rcases s with rfl|rfl|rfl|rfl|rfl|rfl|rfl|rfl
      ·exact V
      ·exact ba
      ·exact ao
      ·exact a9
      ·exact ba
      ·exact bb
      ·exact V
      ·cases z
     cases this
    have g5:listed.getD 6 false=true:=by
     apply ei;intro l;have:(6:Nat)∈([]:List Nat):=by
      rw[<-Z];refine gx.2 ⟨jG ad (by simpa using l),_,rfl,fun y s z=> ?_⟩;simp at s;rcases s with rfl|rfl|rfl|rfl|rfl|rfl|rfl|rfl|rfl
      ·exact g4
      ·exact a9
      ·exact V
      ·exact ao
      ·exact a9
      ·exact ba
      ·exact bb
      ·exact V
      ·cases z
     cases this
    have g7:listed.getD 7 false=true:=by
     apply ei;intro l;have:(7:Nat)∈([]:List Nat):=by
      rw[<-Z];refine gx.2 ⟨jG ad (by simpa using l),_,rfl,fun y s z=> ?_⟩;simp at s;rcases s with rfl|rfl|rfl|rfl|rfl|rfl|rfl|rfl|rfl|rfl
      ·exact V
      ·exact V
      ·cases z
      ·exact ao
      ·exact a9
      ·exact ba
      ·exact bb
      ·exact V
      ·cases z
      ·cases z
     cases this
    obtain⟨F,cap,rfl,l⟩:=p.jp V;rw[g5,g7,ay rfl,ay rfl]at l;obtain⟨he,hf⟩:=l.done ag.o g0.o g1.o
    gi_wp2
    exact⟨⟨_,_,he⟩,gb.o.trans hf⟩
   ·have C:∀i,(Array.replicate 8 false).getD i false=false:=fun i=>getD_replicate_false 8 i
    exact⟨ak,undef,undef,undef,undef,undef,undef,rfl,⟨fun h=>(by rw[C]at h;cases h),fun h=>(by rw[C]at h;cases h),fun h=>(by rw[C]at h;cases h),fun h _=>(by rw[C]at h;cases h),fun h=>(by rw[C]at h;cases h),fun h=>(by rw[C]at h;cases h),fun _=>aE _ _,fun h=>(by rw[C]at h;cases h),fun h=>(by rw[C]at h;cases h),fun h=>(by rw[C]at h;cases h),fun h=>(by rw[C]at h;cases h)⟩⟩
  ·rintro X ⟨v,rs,bo⟩ bD hG ho
   have g8:0<(nodesT t).length:=by rw[zI];omega
   obtain⟨g,a0,rfl,hU,hV,_,_⟩:=pB bo.own g8;have eE:=NO X;have bq:=bo.base;obtain⟨c2,bg⟩:=aD bo bD;clear bo bD hG ho e3
   gi_wp2
   refine wpIn_label ?_
   gi_wp2
   refine⟨trivial,?_⟩;refine(j9.2 eE).mono ?_;rintro y E ⟨rfl,S⟩;have J:Below X.heap.size X E:=by rw[S];exact aG
   have fw:E.heap.size=X.heap.size+1:=by rw[S];simp
   have en:E.heap[X.heap.size]?=some (.cells th 138):=by rw[S];exact aB X _
   obtain⟨a3,gg,gr⟩:=bH (c2.o.below J) ((J.block _ (aU bg.o)).trans bg.o) en;have hT:=aU bg.o;have em:I.heap.size=e.heap.size+1+1:=ad;have eD:E.heap[e.heap.size+1+1]?=some (.deferred (some [])):=by rw[<-em];exact gg.o
   have c5:=ah eD;clear eD;obtain⟨bf,ga⟩:=aD (bq.trans (J.mono bq.size)) (fT.o.grow (bq.trans (J.mono bq.size)) (az _));clear eE S c2 bg en J
   gi_wp2
   refine wpIn_loop (fun a Q=>∃(i:Nat) (u9 u11 u28 u29 u30 u31 u32 u33 u34 u35 u36 u37 u38 u39 u40 u41 u42 u43 u44:Value),a={tmps:=#[.agg #[.string ⟨t.label.toArray⟩,.string ⟨t.text.toArray⟩,.slice d.ao t.attrs.length d.ac,.slice d.ko t.kids.length d.kc],.pointer (some ⟨w.heap.size,0,none⟩),.int .i64 0,.pointer (some ⟨w.heap.size+1,0,none⟩),.pointer (some ⟨e.heap.size,0,none⟩),undef,undef,.int .i64 0,undef,u9,undef,u11,.agg #[.string ⟨t.label.toArray⟩,.string ⟨t.text.toArray⟩,.slice d.ao t.attrs.length d.ac,.slice d.ko t.kids.length d.kc],.bool true,.bool false,.agg #[.string ⟨t.label.toArray⟩,.string ⟨t.text.toArray⟩,.slice d.ao t.attrs.length d.ac,.slice d.ko t.kids.length d.kc],.func (.func 131) #[] #[.pointer (some ⟨e.heap.size+1,0,none⟩)],undef,undef,undef,undef,undef,undef,undef,undef,.slice (some ⟨X.heap.size,0,none⟩) 6 6,.int .i64 6,.int .i64 (i:Nat),u28,u29,u30,u31,u32,u33,u34,u35,u36,u37,u38,u39,u40,u41,u42,u43,u44,undef],defers:=[{target:=.collected (e.heap.size+1+1),args:=#[]}]}/\i<=6/\Hid (Below E.heap.size E Q)/\Hid (∀g∈gO.take i,(nodesT t).any g.2.2=false))
    (fun a _=>6-(intOf (a.tmps.getD 27 undef)).toNat) ?_ ?_
   ·exact⟨0,_,_,_,_,_,_,_,_,_,_,_,_,_,_,_,_,_,_,_,rfl,aZ _,aE _ _,fun g ci=>by simp at ci⟩
   ·rintro a Q ⟨i,u9,u11,u28,u29,u30,u31,u32,u33,u34,u35,u36,u37,u38,u39,u40,u41,u42,u43,u44,rfl,hW,a1,b4⟩
    by_cases hq:i<6
    ·have hh:decide ((i:Int)<6)=true:=bQ
     have hn:(i:Int)<6:=ad;have hk:(0:Int)<=i:=ad;obtain⟨f,C⟩:∃f,gO[i]?=some f:=⟨_,aH (by simpa[gO]using hq)⟩;have eN:=aX C;obtain⟨eo,er⟩:=N0 C;have ce:=(a1.o.block X.heap.size ad).trans gr.o;have cN:=(bs _ _ (i*2) _ _ _ ce).trans eo;have fy:=(bs _ _ (i*2+1) _ _ _ ce).trans er;obtain⟨bi,bA,el⟩:=dF Q (.cells #[.int .i64 f.1,.func (.func f.2.1) #[] #[]] 138);have io:bi.heap.size=Q.heap.size+1:=by rw[bA];simp
     have fd:bi.heap[Q.heap.size]?=some (.cells #[.int .i64 f.1,.func (.func f.2.1) #[] #[]] 138):=by rw[bA];exact aB Q _
     have hE:=a1.o.size;have a2:=ah (a1.o.trans (el.mono hE));have eB:=(a2.o.block _ (aU a3.o.box)).trans a3.o.box;have fx:=ai 0 eB;obtain⟨dr,c7,c6⟩:=bH fd eN C;clear ce eo er el fd eB eN C
     gi_wp2_with (first
      |(rw[<-bA];clear bA cN fy)
      |fail)
     refine wpIn_loop (fun a Y=>∃(j:Nat) (u11 u34 u35 u36 u37 u38 u39 u40 u41 u42 u43 u44:Value),a={tmps:=#[.agg #[.string ⟨t.label.toArray⟩,.string ⟨t.text.toArray⟩,.slice d.ao t.attrs.length d.ac,.slice d.ko t.kids.length d.kc],.pointer (some ⟨w.heap.size,0,none⟩),.int .i64 0,.pointer (some ⟨w.heap.size+1,0,none⟩),.pointer (some ⟨e.heap.size,0,none⟩),undef,undef,.int .i64 0,undef,.pointer (some ⟨Q.heap.size,0,none⟩),undef,u11,.agg #[.string ⟨t.label.toArray⟩,.string ⟨t.text.toArray⟩,.slice d.ao t.attrs.length d.ac,.slice d.ko t.kids.length d.kc],.bool true,.bool false,.agg #[.string ⟨t.label.toArray⟩,.string ⟨t.text.toArray⟩,.slice d.ao t.attrs.length d.ac,.slice d.ko t.kids.length d.kc],.func (.func 131) #[] #[.pointer (some ⟨e.heap.size+1,0,none⟩)],undef,undef,undef,undef,undef,undef,undef,undef,.slice (some ⟨X.heap.size,0,none⟩) 6 6,.int .i64 6,.int .i64 (i:Nat),.bool true,.pointer (some ⟨X.heap.size,i*2,none⟩),.agg #[.int .i64 f.1,.func (.func f.2.1) #[] #[]],.slice (some ⟨g,0,none⟩) (nodesT t).length a0,.int .i64 ((nodesT t).length:Nat),.int .i64 (j:Nat),u34,u35,u36,u37,u38,u39,u40,u41,u42,u43,u44,undef],defers:=[{target:=.collected (e.heap.size+1+1),args:=#[]}]}/\j<=(nodesT t).length/\Hid (Below bi.heap.size bi Y)/\Hid (((nodesT t).take j).any f.2.2=false))
      (fun a _=>(nodesT t).length-(intOf (a.tmps.getD 33 undef)).toNat) ?_ ?_
     ·exact⟨0,_,_,_,_,_,_,_,_,_,_,_,_,rfl,aZ _,aE _ _,by rfl⟩
     ·rintro a Y ⟨j,u11,u34,u35,u36,u37,u38,u39,u40,u41,u42,u43,u44,rfl,hY,be,eb⟩
      by_cases hj:j<(nodesT t).length
      ·have hg:decide ((j:Int)<((nodesT t).length:Int))=true:=bQ
       have h0:(j:Int)<((nodesT t).length:Int):=ad;have hZ:(0:Int)<=j:=ad;obtain⟨m,M⟩:∃m,(nodesT t)[j]?=some m:=⟨_,aH hj⟩;have b3:=ah (a2.o.trans (be.o.mono ad));have cs:=jx a3.o.own;rw[dh (az _)]at cs;have e1:=dp.below cs b3.o;obtain⟨b',h7,q,e0,cl,hS,fr,fs,fu,fv⟩:=nh a3.o.len e1 M;injection cl with cl
       injection cl with hl hm
       subst hl;subst hm;rw[cD]at fr fs fu fv;have e7:eR Y m q:=(a3.o.tr j m q M e0).at_.below b3.o;have g9:=be.o.size;obtain⟨b5,bz,ca⟩:=dF Y (.cells #[.string ⟨m.label.toArray⟩,.string ⟨m.text.toArray⟩,.slice q.ao m.attrs.length q.ac,.slice q.ko m.kids.length q.kc] 29);have ic:b5.heap.size=Y.heap.size+1:=by rw[bz];simp
       have bc:b5.heap[Y.heap.size]?=some (.cells #[.string ⟨m.label.toArray⟩,.string ⟨m.text.toArray⟩,.slice q.ao m.attrs.length q.ac,.slice q.ko m.kids.length q.kc] 29):=by rw[bz];exact aB Y _
       have b2:=ah (be.o.trans (ca.mono g9));have fo:=(b2.o.block _ ad).trans dr.o;have hH:=ai 1 fo;have a5:=ai 0 bc;have a6:=ai 1 bc;have a7:=ai 2 bc;have a8:=ai 3 bc;have ch:=NZ c7.o m q b5 (ga.o.grow (a2.o.trans (b2.o.mono ad)) (az _)) (e7.below ca) (c8.o m (aX M));unfold cP at ch;have s:=NY c7.o;have c9:=ah M;clear bc fo ca e7 e0 cs e1 b3 M
       gi_wp2_with (first
        |(rw[<-bz];clear bz fr fs fu fv)
        |fail)
       refine⟨trivial,(j9.2 ch).mono ?_⟩;rintro y b6 ⟨rfl,ek⟩;have ab:=ah (b2.o.trans (ek.mono ad));have fq:=(ab.o.block _ ad).trans dr.o;have ip:=ai 0 fq;have ii:=ab.o.size;clear ch hH a5 a6 a7 a8 fq ek;cases bN:f.2.2 m with
       |true=>
        have cq:=N6 bC c6.o b4.o (ir.2 ⟨m,aX c9.o,bN⟩);clear bN
        gi_wp2
        rw[lp];have ev:Below E.heap.size E b6:=a2.o.trans (ab.o.mono ad);change LeavesInM Fence.wide 9 prog f28 _ _ (([e.heap.size+1+1]:List Nat).map fun N=>{target:=.collected N,args:=#[]}) .returning b6;refine tg (fun Y=>Below w.heap.size w Y) (fun Y h=>⟨_,by simp[results,results28,go_sem];rfl,by rw[cq];exact⟨rfl,h⟩⟩) _ b6 ak (fun N K=> ?_) (bf.o.trans (ev.mono bf.o.size)) (fun Y N K bD H=> ?_)
        ·rw[uE]at K
         subst K;exact(ev.block _ ad).trans c5.o
        ·rw[uE]at K
         subst K;exact⟨H.os,H.tape,H.output,by rw[lK];exact H.size,fun b z=>(dN ad).trans (H.block b z)⟩
       |false=>
        have eZ:((nodesT t).take (j+1)).any f.2.2=false:=by rw[bV,c9.o,fF,uk,eb.o];simp[bN]
        have gv:=ah eZ;clear bN eZ
        gi_wp2
        refine⟨⟨j+1,_,_,_,_,_,_,_,_,_,_,_,_,rfl,ad,ab,gv⟩,?_⟩;simp[intOf];omega
      ·have hg:decide ((j:Int)<((nodesT t).length:Int))=false:=bK
       obtain rfl:j=(nodesT t).length:=ad;have eV:∀h∈gO.take (i+1),(nodesT t).any h.2.2=false:=fun h bF=>by
        rw[bV,c6.o,fF,fA,uE]at bF;rcases bF with bF|rfl
        ·exact b4.o h bF
        ·have:=eb.o;rwa[dh (az _)]at this
       obtain⟨gu,fG⟩:=aD eV (a2.o.trans (be.o.mono ad));clear eV
       gi_wp2
       refine⟨⟨i+1,_,_,_,_,_,_,_,_,_,_,_,_,_,_,_,_,_,_,_,rfl,ad,fG,gu⟩,?_⟩;simp[intOf];omega
    ·have hh:decide ((i:Int)<6)=false:=bK
     obtain rfl:i=6:=ad;have cq:=N9 bC (fun g ci=>b4.o g (by simpa[gO]using ci))
     gi_wp2
     rw[lp];change LeavesInM Fence.wide 9 prog f28 _ _ (([e.heap.size+1+1]:List Nat).map fun N=>{target:=.collected N,args:=#[]}) .returning Q;refine tg (fun Y=>Below w.heap.size w Y) (fun Y h=>⟨_,by simp[results,results28,go_sem];rfl,by rw[cq];exact⟨rfl,h⟩⟩) _ Q ak (fun N K=> ?_) (bf.o.trans (a1.o.mono bf.o.size)) (fun Y N K bD H=> ?_)
     ·rw[uE]at K
      subst K;exact(a1.o.block _ ad).trans c5.o
     ·rw[uE]at K
      subst K;exact⟨H.os,H.tape,H.output,by rw[lK];exact H.size,fun b z=>(dN ad).trans (H.block b z)⟩
 ·rw[l6 eC]
  have bC:kL t=17:=by unfold kL;rw[ay ad]
  clear t2
  gi_wp2
  rw[lp];change LeavesInM Fence.wide 9 prog f28 _ _ (([]:List Nat).map fun N=>{target:=.collected N,args:=#[]}) .returning e;refine tg (fun X=>X=e) (fun X h=>⟨_,by simp[results,results28,go_sem];rfl,by rw[h];exact⟨by rw[bC],ab.o⟩⟩) [] e xO ak rfl ak
end
end Go.Proofs.YtnadadbndcdolaaGreatDoor
