import Derived.Test.YtnadadbndcdolaaGreatDoorQbl
import Derived.Test.YtnadadbndcdolaaGreatDoorQbm
set_option linter.unusedVariables false
set_option linter.unusedSimpArgs false
set_option maxRecDepth 100000
set_option maxHeartbeats 0
namespace Go.Proofs.YtnadadbndcdolaaGreatDoor
open Go.RowKit Tryz
structure gE(x y:aw):Prop where
 name:y.name=x.name
 label:y.label=x.label
 attrs:y.attrs=x.attrs
 text:y.text=x.text
 syms:aI y.nodes=aI x.nodes
 key:y.key=x.key∨y.key=[]
 right:bG x.nodes=0->bG y.nodes=0
 more:∀ws,gW x.nodes ws->gW y.nodes ws
 leaf:x.text=true->y.nodes=x.nodes
def dG(ts us:List aw):Prop:=us.length=ts.length/\∀(k:Nat) (x y:aw),ts[k]?=some x->us[k]?=some y->gE x y
theorem gE.refl(x:aw):gE x x:=⟨rfl,rfl,rfl,rfl,rfl,.inl rfl,id,fun _=>id,fun _=>rfl⟩
theorem dG.set2{ts:List aw}{i:Nat}{y z:aw}(g:gE y z):dG (ts.set i y) (ts.set i z):=by
 refine⟨ak,fun k a b d c=> ?_⟩;rw[AX]at d c;by_cases e:i=k
 ·rw[ay e]at d c
  by_cases f:i<ts.length
  ·rw[ay f]at d c
   injection d with d;injection c with c
   rw[<-d,<-c];exact g
  ·rw[au f]at d
   cases d
 ·rw[au e]at d c
  rw[d]at c;injection c with c
  rw[c];exact .refl _
theorem dG.set1{ts:List aw}{i:Nat}{x y:aw}(b:ts[i]?=some x)(c:gE x y):dG ts (ts.set i y):=by
 have:=dG.set2 (ts:=ts) (i:=i) c;have a:ts.set i x=ts:=by
  apply IV;intro k;rw[AX];split
  ·rename_i a;subst a
   rw[b,ay (aL.1 b).1]
  ·rfl
 rwa[a]at this
section
variable{ts us:List aw}
theorem dG.at(a:dG ts us){k:Nat}{x:aw}(b:ts[k]?=some x):∃y,us[k]?=some y/\gE x y:=by have c:=(aL.1 b).1;exact⟨us[k]'(by rw[a.1];exact c),aH _,a.2 k _ _ b (aH _)⟩
theorem dG.back(a:dG ts us){k:Nat}{y:aw}(b:us[k]?=some y):∃x,ts[k]?=some x/\gE x y:=by have c:=(aL.1 b).1;exact⟨ts[k]'(by rw[<-a.1];exact c),aH _,a.2 k _ _ (aH _) b⟩
theorem dG.mem(a:dG ts us){y:aw}(e:y∈us):∃x∈ts,gE x y:=by obtain⟨k,b⟩:=xZ e;obtain⟨x,d,c⟩:=a.back b;exact⟨x,aX d,c⟩
theorem dG.maps{g:Type}(b:dG ts us){f:aw->g}(c:∀x y,gE x y->f y=f x):us.map f=ts.map f:=by
 apply IV;intro k;rw[bW,bW];cases a:ts[k]? with
 |some x=>obtain⟨y,e,d⟩:=b.at a;rw[e];simp[c x y d]
 |none=>
  have:us[k]?=none:=by rw[IW]at a⊢;rw[b.1];exact a
  rw[this]
theorem dG.names(a:dG ts us):us.map aw.name=ts.map aw.name:=a.maps fun _ _ a=>a.name
theorem FZ:∀(ts us:List aw) (i:Nat) (n:Bytes) (b:Option Nat),us.map aw.name=ts.map aw.name->jn i us n b=jn i ts n b
 |[],[],i,n,b,a=>rfl
 |[],u::us,i,n,b,a=>by simp at a
 |t::ts,[],i,n,b,a=>by simp at a
 |t::ts,u::us,i,n,b,a=>by simp only[gd,xM]at a;unfold jn;rw[a.1];exact FZ ts us _ n _ a.2
theorem dG.place(a:dG ts us)(n:Bytes):placeS us n=placeS ts n:=FZ ts us 0 n none a.names
theorem dG.labelAt(b:dG ts us)(k:Nat):labelAt us k=Go.Proofs.YtnadadbndcdolaaGreatDoor.labelAt ts k:=by
 unfold Go.Proofs.YtnadadbndcdolaaGreatDoor.labelAt;cases a:ts[k]? with
 |some x=>obtain⟨y,d,c⟩:=b.at a;rw[d];exact c.label
 |none=>
  have:us[k]?=none:=by rw[IW]at a⊢;rw[b.1];exact a
  rw[this]
theorem dG.attrsAt(b:dG ts us)(k:Nat):attrsAt us k=Go.Proofs.YtnadadbndcdolaaGreatDoor.attrsAt ts k:=by
 unfold Go.Proofs.YtnadadbndcdolaaGreatDoor.attrsAt;cases a:ts[k]? with
 |some x=>obtain⟨y,d,c⟩:=b.at a;rw[d];exact c.attrs
 |none=>
  have:us[k]?=none:=by rw[IW]at a⊢;rw[b.1];exact a
  rw[this]
theorem dG.kids(a:dG ts us){x y:aw}(b:gE x y):kidsS us y=kidsS ts x:=by unfold kidsS;rw[b.syms];exact IU fun n _=>by rw[a.place]
end
theorem lO{ts:List aw}:bT ts=0↔(¬64<ts.length)/\(¬ts.length=0)/\(¬ts.any kK=true)/\(¬dk (ts.map aw.name)=true)/\(¬ts.any (fun t=>ej t.attrs)=true)/\
 (¬ts.any (fun t=>t.text&&(!t.nodes.isEmpty|| !t.key.isEmpty))=true)/\(¬eQ ts≠0)/\(¬ts.any (fun t=>(aI t.nodes).any fun n=>(placeS ts n).isNone)=true)/\
 (¬ts.any (fun t=>dk ((kidsS ts t).map (labelAt ts)))=true)/\(¬ts.any (fun t=> !t.key.isEmpty&& !(kidsS ts t).any fun k=>(attrsAt ts k).contains t.key)=true):=by
 constructor
 ·intro a
  unfold bT at a;split at a
  ·exact absurd a ap
  split at a
  ·exact absurd a ap
  split at a
  ·exact absurd a ap
  split at a
  ·exact absurd a ap
  split at a
  ·exact absurd a ap
  split at a
  ·exact absurd a ap
  split at a
  ·rename_i b;exact absurd a b
  split at a
  ·exact absurd a ap
  split at a
  ·exact absurd a ap
  split at a
  ·exact absurd a ap
  rename_i c e f g h i b j l d;exact⟨c,e,f,g,h,i,b,j,l,d⟩
 ·rintro⟨c,e,f,g,h,i,b,j,l,d⟩
  unfold bT;rw[au c,au e,au f,au g,au h,au i,au b,au j,au l,au d]
theorem tK:∀{ts:List aw},eQ ts=0↔∀t∈ts,t.text=false->bG t.nodes=0
 |[]=>by simp[eQ]
 |t::ts=>by
  unfold eQ;by_cases a:t.text=false/\bG t.nodes≠0
  ·rw[ay a]
   exact⟨fun c=>absurd c a.2,fun H=>H t ak a.1⟩
  ·rw[au a,tK]
   constructor
   ·intro H u b
    rcases du.1 b with rfl|b
    ·exact fun c=>ei fun d=>a ⟨c,d⟩
    ·exact H u b
   ·exact fun H u b=>H u (by simp[b])
theorem ri{ts us:List aw}(c:dG ts us){p q:aw->Bool}(H:∀x y,gE x y->p x=false->q y=false)(e:¬ts.any p=true):¬us.any q=true:=by
 intro f;obtain⟨y,h,a⟩:=ir.1 f;obtain⟨x,g,d⟩:=c.mem h;have:p x=false:=by
  cases b:p x with
  |false=>rfl
  |true=>exact absurd (ir.2 ⟨x,g,b⟩) e
 rw[H x y d this]at a;cases a
theorem F0{ts us:List aw}(r:bT ts=0)(c:dG ts us):bT us=0:=by
 obtain⟨e,g,h,i,j,l,m,p,q,f⟩:=lO.1 r;refine lO.2 ⟨by rw[c.1];exact e,by rw[c.1];exact g,ri c (fun x y b a=> ?_) h,by rw[c.names];exact i,ri c (fun x y b a=>by rw[b.attrs];exact a) j,ri c (fun x y b a=> ?_) l,?_,
  ri c (fun x y b a=> ?_) p,ri c (fun x y b a=> ?_) q,ri c (fun x y b a=> ?_) f⟩
 ·unfold kK at a⊢
  rw[b.name,b.label,b.attrs];rcases b.key with k|k
  ·rw[k];exact a
  ·rw[k]
   simp only[IF]at a⊢;exact⟨a.1,rfl⟩
 ·(try simp only at a⊢)
  rw[b.text];cases d:x.text with
  |false=>rfl
  |true=>
   rw[d]at a;rw[b.leaf d];rcases b.key with k|k
   ·rw[k];exact a
   ·rw[k]
    simp only[rJ,IF]at a⊢;exact⟨a.1,rfl⟩
 ·have o:=tK.1 (IQ.1 m)
  exact fun s=>s (tK.2 fun t u v=>by obtain⟨x,d,b⟩:=c.mem u;exact b.right (o x d (by rw[<-b.text];exact v)))
 ·(try simp only at a⊢)
  rw[b.syms];rw[<-a];congr 1
  funext n
  rw[c.place]
 ·(try simp only at a⊢)
  rw[c.kids b,<-a];congr 2
  funext k
  exact c.labelAt k
 ·(try simp only at a⊢)
  rcases b.key with k|k
  ·rw[k,c.kids b,<-a]
   congr 3
   funext k
   rw[c.attrsAt]
  ·rw[k];rfl
def p7(x:aw):aw:={x with nodes:=cJ x.nodes,key:=[]}
def rj(x:aw):aw:={x with nodes:=et x.nodes,key:=[]}
theorem PQ{x:aw}(e:x.text=false)(a:bG x.nodes=0)(b:x.nodes.length<=1022):gE x (p7 x):=
 ⟨rfl,rfl,rfl,rfl,FU a b,.inr rfl,fun _=>xg a b,fun f d=>(FX a b f).2 (.inl d),fun c=>by rw[e]at c;cases c⟩
theorem PR{x:aw}(d:x.text=false)(a:bG x.nodes=0)(f:x.nodes.length<=1022):gE x (rj x):=
 ⟨rfl,rfl,rfl,rfl,FV a ad,.inr rfl,fun _=>tJ a ad,fun e c=>FY a ad e (.inl c),fun b=>by rw[d]at b;cases b⟩
theorem PS{x:aw}(f:x.text=false)(a:bG x.nodes=0)(c:x.nodes.length<=1022):gE (p7 x) (rj x):=
 ⟨rfl,rfl,rfl,rfl,(FV a ad).trans (FU a c).symm,.inl rfl,fun _=>tJ a ad,fun d e=>FY a ad d ((FX a c d).1 e),fun b=>by simp only[p7]at b;rw[f]at b;cases b⟩
def iV(w:World)(B:Nat)(v:Value)(l:List aj):Prop:=
 ∃n keys b e nv c a,eL (true,0) 256 (cB l (bm (aI l))) n=some (keys,b)/\keys.length=n/\v=.agg #[e,nv,c]/\cn w B e (bm (aI l))/\w.ownsRow B 125 1 nv a.length a/\a.length=b.length/\
  (∀(j:Nat) (v:Value) (d:List Nat),a[j]?=some v->b[j]?=some d->cW w B v d)/\w.ownsRow B 4 1 c keys.length (keys.map fun s=>.bool (kX l s))
def rq(l:List aj):Prop:=∃n keys a k,eL (true,0) 256 (cB l (bm (aI l))) n=some (keys,a)/\keys[n]?=some k/\eK 256 keys (cB l (bm (aI l)) k)=none
theorem oR{w w':World}{B a size n:Nat}{v:Value}{xs:List Value}{row:Option Nat}(b:w.ownsRow B a size v n xs)(h:w.grownBy w' row)(i:∀q,row=some q->(∃e c,w.heap[q]?=some (.map e c))∨q<B):w'.ownsRow B a size v n xs:=
 aP b (fun g d=>h.block g (aF b d).2 (fun a=>by
  rcases i g a.symm with⟨e,c,f⟩|f
  ·exact kD b f d
  ·have:=(aF b d).1;omega))
theorem iV.grown{w w':World}{B:Nat}{v:Value}{l:List aj}{row:Option Nat}(f:iV w B v l)(a:w.grownBy w' row)(b:∀q,row=some q->(∃d c,w.heap[q]?=some (.map d c))∨q<B):iV w' B v l:=by obtain⟨n,keys,y,z,nv,e,A,g,h,i,m,o,p,r,s⟩:=f;exact⟨n,keys,y,z,nv,e,A,g,h,i,oR m a b,oR o a b,p,fun j v x t u=>oR (r j v x t u) a b,oR s a b⟩
theorem iV.low{w:World}{B b:Nat}{v:Value}{l:List aj}(d:iV w B v l)(a:b<=B):iV w b v l:=by obtain⟨n,keys,t,u,nv,c,x,e,f,g,h,i,m,o,p⟩:=d;exact⟨n,keys,t,u,nv,c,x,e,f,g,dR h a,dR i a,m,fun j v s q r=>dR (o j v s q r) a,dR p a⟩
def gp(w:World)(B b:Nat)(l:List am):Prop:=
 ∃n f,bp w prog 3 b n f/\n<=((List.range l.length).filter (fun a=>(f (.int .i64 (a:Nat))).isSome)).length/\∀(a:Nat) (v:Value),f (.int .i64 (a:Nat))=some v->∃x,l[a]?=some x/\iV w B v x.t.nodes
theorem gp.grown{w w':World}{B b:Nat}{l:List am}{row:Option Nat}(i:gp w B b l)(e:w.grownBy w' row)(g:∀q,row=some q->((∃h c,w.heap[q]?=some (.map h c))∨q<B)/\q≠b):gp w' B b l:=by obtain⟨n,f,j,m,o⟩:=i;exact⟨n,f,j.kept e (fun d=>(g _ d.symm).2 rfl),m,fun a v r=>by obtain⟨x,s,p⟩:=o a v r;exact⟨x,s,p.grown e (fun q d=>(g q d).1)⟩⟩
def Ao(b:World)(d:Nat->Prop)(e f a g:Nat)(l:List am)(o:Option Addr)(cap:Nat)(x:am)(w:World)(c:Ending)(w':World):Prop:=
 (cT b d w' e f a g o cap l/\gp w' b.heap.size a l/\w.grownBy w' (some a))/\
 ((∃v,c=.returned (.tuple #[v,.int .i64 0])/\iV w' b.heap.size v x.t.nodes)∨(rq x.t.nodes/\c=.returned (.tuple #[.agg #[.slice none 0 0,.slice none 0 0,.slice none 0 0],.int .i64 17])))
theorem xm(l:List am)(o:Option Addr)(cap:Nat)(A:World)(er:Gl A)(cd:bR A o cap l)(fq:l.length<=64)(Y:Nat->Prop)(E ag g al:Nat)(en:Y g)(k:Nat)(x:am)(b4:l[k]?=some x)(eo:bG x.t.nodes=0)(eV:x.t.nodes.length<=60)(w:World)
 (j:cT A Y w E ag g al o cap l) (ew:gp w A.heap.size g l):
 Calls prog 126 #[.pointer (some ⟨E,0,none⟩),.int .i64 (k:Nat)] w (Ao A Y E ag g al l o cap x w):=by
 have eU:k<l.length:=(aL.1 b4).1;have fo:(k:Int)<l.length:=ad;obtain⟨a2,f2,bg,bo,b2⟩:=ew;have cl:=j.blk;have bF:=ax cl;have b3:keyOf prog 3 (.int .i64 (k:Nat))=some (.int .i64 (k:Nat)):=pj cU (kM ad);have c0:∀w:World,(zeroValue 174).run prog w=.ok (.agg #[.slice none 0 0,.slice none 0 0,.slice none 0 0]) w:=fun _=>aA;obtain⟨bt,av,be,c6⟩:=cm w (.cells #[.slice none 0 0,.slice none 0 0,.slice none 0 0] 174);have e5:bt.heap.size=w.heap.size+1:=by rw[av];simp
 have bN:=bg.kept (bJ be none) ak;have bi:=bN.look_ok (gw cU) underlying75 (c0 bt) dH b3;have c2:=ai 2 ((be.block _ bF).trans cl);obtain⟨H,a8⟩:=aD j j;have bw:Hid (gp w A.heap.size g l):=ah ⟨a2,f2,bg,bo,b2⟩;obtain⟨a6,bb,ba,b9,ca,a9⟩:=g6 be c6 b4 b2 bo bg;clear c0 j be c6 b4 b2 bo bg;cases ab:f2 (.int .i64 (k:Nat))with
 |some v=>
  obtain⟨y,bq,b0⟩:=b9.o k v ab;rw[ba.o]at bq;injection bq with bq
  subst bq;obtain⟨n,keys,a4,e6,nv,em,e,d1,d2,rfl,d4,d5,d6,d7,d8⟩:=b0;obtain⟨s,r,rfl⟩:=bL d4;obtain⟨no,m,rfl⟩:=bL d5;obtain⟨i,h,rfl⟩:=bL d8;rw[ab]at bi;have c8:Hid (iV w A.heap.size _ x.t.nodes):=ah ⟨n,keys,a4,_,_,_,e,d1,d2,rfl,d4,d5,d6,d7,d8⟩;obtain⟨Q,a0,J,a5⟩:=cm bt (.cells #[.slice s (bm (aI x.t.nodes)).length r,.slice no e.length m,.slice i keys.length h] 174);rw[e5]at a5;have T:=(J.block _ (ax bb.out)).trans bb.out;have bc:=ai 0 a5;have a1:=ai 1 a5;have bd:=ai 2 a5;have bA:=ai 0 T;have bB:=ai 1 T;have bC:=ai 2 T;have f0:=aT T 0;have f1:=aT T 1;have f2:=aT T 2;obtain⟨Z,an⟩:=aD (aO a6.out J) T;clear ab d1 d2 d4 d5 d6 d7 d8 b3 bN J a5 T;go_enter func126,ntmps126
  go_wp2_with(first|(rw[<-av];clear av)|(rw[<-a0];clear a0)|fail)
  have B:(((Q.setCell ⟨w.heap.size,0,none⟩ (.slice s (bm (aI x.t.nodes)).length r)).setCell ⟨w.heap.size,1,none⟩ (.slice no e.length m)).setCell ⟨w.heap.size,2,none⟩ (.slice i keys.length h)).heap[w.heap.size]?=some (.cells #[.slice s (bm (aI x.t.nodes)).length r,.slice no e.length m,.slice i keys.length h] 174):=
   bn _ _ 2 _ (bn _ _ 1 _ (bn _ _ 0 _ an.out))
  have N:Below w.heap.size w (((Q.setCell ⟨w.heap.size,0,none⟩ (.slice s (bm (aI x.t.nodes)).length r)).setCell ⟨w.heap.size,1,none⟩ (.slice no e.length m)).setCell ⟨w.heap.size,2,none⟩ (.slice i keys.length h)):=((Z.out.setCell ak _).setCell ak _).setCell ak _;have a3:=ai 0 B;have K:=ai 1 B;have G:=ai 2 B;have b1:Ao A Y E ag g al l o cap x w (.returned (.tuple #[.agg #[.slice s (bm (aI x.t.nodes)).length r,.slice no e.length m,.slice i keys.length h],.int .i64 0])) _:=
   ⟨⟨a8.o.kept (bJ N none) (fun q d=>by cases d),bw.o.grown (bJ N none) (fun q d=>by cases d),bJ N _⟩,.inl ⟨_,rfl,c8.o.grown (bJ N none) (fun q d=>by cases d)⟩⟩
  (try simp only[Exit.inBlock,Exit.then])
  exact cg (v:=.tuple #[.agg #[.slice s (bm (aI x.t.nodes)).length r,.slice no e.length m,.slice i keys.length h],.int .i64 0]) (by simp[results,IX,go_sem,a3,K,G,rS]) rfl b1
 |none=>
  rw[ab]at bi;have dr:=ah ab;have ce:=cd.below (H.o.base.trans (a6.out.mono H.o.base.size));obtain⟨bz,b6,rfl,eC,e7,e8,e9,fb,fc,c4⟩:=ce.at ba.o;have c1:=ai 0 ((a6.out.block _ bF).trans H.o.blk);obtain⟨Q,a0,J⟩:=dF bt (.cells #[.slice none 0 0,.slice none 0 0,.slice none 0 0] 174);obtain⟨Z,an⟩:=aD (aO a6.out J) ((J.block _ (ax bb.out)).trans bb.out);have c3:=(J.cell (p:=⟨E,0,none⟩) (by show E<_;omega)).trans c1;have c5:=(J.cell (p:=⟨bz,b6+k*6+5,none⟩) eC).trans c4;have eB:=(cd.2 x (aX ba.o)).2;have cu:=H.o.base.trans (Z.out.mono H.o.base.size);rw[a0]at c3 c5;have cG:=Qh x.t.nodes x.no x.nc Q (er.below cu) eo eV (eB.below cu);have cb:=ah cG;clear ab cG e7 e8 e9 fb fc c4 J ce bN c1;go_enter func126,ntmps126
  go_wp2_with(first|(rw[<-av];clear av)|fail)
  rw[<-a0];refine cb.o.mono ?_;rintro d u ⟨ao,eD⟩;clear cb c3 c5;have V:=ah (Z.out.trans (ao.mono Z.out.size));have af:=(ao.block _ (ax an.out)).trans an.out;obtain⟨fd,fg⟩:=aD (a8.o.kept (bJ V.out none) (fun q d=>by cases d)) (bw.o.grown (bJ V.out none) (fun q d=>by cases d));rcases eD with⟨n,keys,a4,e6,nv,em,e,d1,d2,rfl,d4,d5,d6,d7,d8⟩|⟨n,keys,a4,e3,d1,d2,d3,rfl⟩
  ·obtain⟨s,r,rfl⟩:=bL d4
   obtain⟨no,m,rfl⟩:=bL d5;obtain⟨i,h,rfl⟩:=bL d8;have c9:Hid (iV u Q.heap.size _ x.t.nodes):=ah ⟨n,keys,a4,_,_,_,e,d1,d2,rfl,d4,d5,d6,d7,d8⟩;obtain⟨R,P,L,D⟩:=cm u (.cells #[.slice s (bm (aI x.t.nodes)).length r,.slice no e.length m,.slice i keys.length h] 174);have t:Below w.heap.size w R:=V.out.trans (L.mono V.out.size);have co:=a9.o.kept (bJ t.drew none) ak;have C:=(L.block _ (ax af)).trans af;have bc:=ai 0 D;have a1:=ai 1 D;have bd:=ai 2 D;have e2:=ai 2 ((t.block _ bF).trans H.o.blk);have fl:=a9.o.lt;have cN:w.heap.size<=Q.heap.size/\Q.heap.size<=u.heap.size/\w.heap.size<Q.heap.size:=⟨Z.out.size,ao.size,ax an.out⟩;have c7:Hid (∀f,R.drew.grownBy f (some g)->(f.cell? ⟨u.heap.size,0,none⟩=some (.slice s (bm (aI x.t.nodes)).length r)/\f.cell? ⟨u.heap.size,1,none⟩=some (.slice no e.length m)/\f.cell? ⟨u.heap.size,2,none⟩=some (.slice i keys.length h))/\
    (f.cell? ⟨w.heap.size,0,none⟩=some (.slice none 0 0)/\f.cell? ⟨w.heap.size,1,none⟩=some (.slice none 0 0)/\f.cell? ⟨w.heap.size,2,none⟩=some (.slice none 0 0))/\(f.frozen? ⟨w.heap.size,0,none⟩=false/\f.frozen? ⟨w.heap.size,1,none⟩=false/\f.frozen? ⟨w.heap.size,2,none⟩=false)/\f.heap[w.heap.size]?=some (.cells #[.slice none 0 0,.slice none 0 0,.slice none 0 0] 174)):=ah (fun f cx=>by
    have bE:=(cx.block u.heap.size (ax D) aR).trans D;have I:=(cx.block w.heap.size (ax C) aR).trans C;exact⟨⟨ai 0 bE,ai 1 bE,ai 2 bE⟩,⟨ai 0 I,ai 1 I,ai 2 I⟩,⟨aT I 0,aT I 1,aT I 2⟩,I⟩)
   have eb:=ah (zq (fun a=>(f2 (.int .i64 (a:Nat))).isSome) (fun a=>(eW f2 (.int .i64 (k:Nat)) (.agg #[.slice s (bm (aI x.t.nodes)).length r,.slice no e.length m,.slice i keys.length h]) (.int .i64 (a:Nat))).isSome) k (by simp only[dr.o];rfl) (fun a=>by
    by_cases d:a=k
    ·subst d;simp[jw]
    ·have bD:(Lit.int .i64 (a:Nat))≠ .int .i64 (k:Nat):=fun W=>by injection W with _ W;omega
     simp[jS f2 _ bD,d]) l.length)
   have cv:=zr (fun a=>(f2 (.int .i64 (a:Nat))).isSome) l.length;have eZ:a2<maxLen:=by have:=ca.o;unfold maxLen;omega
   obtain⟨bu,b8⟩:=aD t L;clear ao L D t C af d1 d2 d4 d5 d6 d7 d8 cv c2 bi;go_wp2_with(first|(rw[<-P];clear P)|fail)
   go_still_tail 6,aA
   change wpList _ _ _ _ _ (World.drew _);go_wp2_with(first
    |(at_mapUpdate;go_must (refine oy co rfl _ _ _ 75 rfl 174 (gw cU) underlying75 rfl eZ _ _ _ rfl rfl dH b3 ?_);intro f cF F;obtain⟨⟨fr,fs,fu⟩,⟨bA,bB,bC⟩,⟨f0,f1,cc⟩,I⟩:=c7.o f F;have ed:=ah cF;have ec:=ah F;have el:=ah I;clear cF F I co bc a1 bd e2)
    |fail)
   obtain⟨a7,bf⟩:=ar (Value.agg #[.slice s (bm (aI x.t.nodes)).length r,.slice no e.length m,.slice i keys.length h]);have B:(((f.setCell ⟨w.heap.size,0,none⟩ (.slice s (bm (aI x.t.nodes)).length r)).setCell ⟨w.heap.size,1,none⟩ (.slice no e.length m)).setCell ⟨w.heap.size,2,none⟩ (.slice i keys.length h)).heap[w.heap.size]?=some (.cells #[.slice s (bm (aI x.t.nodes)).length r,.slice no e.length m,.slice i keys.length h] 174):=
    bn _ _ 2 _ (bn _ _ 1 _ (bn _ _ 0 _ el.out))
   obtain⟨S,ae⟩:=ar ((((f.setCell ⟨w.heap.size,0,none⟩ (.slice s (bm (aI x.t.nodes)).length r)).setCell ⟨w.heap.size,1,none⟩ (.slice no e.length m)).setCell ⟨w.heap.size,2,none⟩ (.slice i keys.length h)));have bZ:∀b,b≠w.heap.size->S.heap[b]?=f.heap[b]?:=fun b M=>by rw[ae,aS _ _ _ _ _ M,aS _ _ _ _ _ M,aS _ _ _ _ _ M]
   have aq:f.grownBy S (some w.heap.size):=⟨by rw[ae];rfl,by rw[ae];rfl,by rw[ae];rfl,by rw[ae];simp only[dE];exact az _,fun b _ M=>bZ b (fun d=>M (by rw[d]))⟩;have F:=ec.o;have t:=bu.o;have X:w.grownBy S (some g):=⟨aq.os.trans (F.os.trans t.os),aq.tape.trans (F.tape.trans t.tape),aq.output.trans (F.output.trans t.output),aJ t.size (aJ F.size aq.size),fun b M e1=>(bZ b ad).trans ((F.block b (by have:=t.size;exact dn M this) e1).trans (t.block b M))⟩;have j:=a8.o;have cp:=ed.o;rw[<-bf]at cp;have cq:bp S prog 3 g (a2+1) (eW f2 (.int .i64 (k:Nat)) a7):=cp.of_block (bZ g ad);have ez:∃aa c,u.heap[g]?=some (.map aa c):=bp.block (a9.o.kept (bJ V.out none) ak);have cs:∃aa c,w.heap[g]?=some (.map aa c):=a9.o.block;have ch:=c9.o;rw[<-bf]at ch;have ci:iV S A.heap.size a7 x.t.nodes:=by have K:=ch.grown (bJ b8.o.drew none) (fun q d=>by cases d);have G:=K.grown F (fun q d=>.inl (by cases d;obtain⟨aa,c,bl⟩:=ez;exact⟨aa,c,(b8.o.block _ (ax bl)).trans bl⟩));have b7:=G.grown aq (fun q d=>.inr (by cases d;exact cN.2.2));exact b7.low (aJ H.o.base.size cN.1)
   have eE:=eb.o;rw[ay eU,<-bf]at eE;have cv:=zr (fun a=>(eW f2 (.int .i64 (k:Nat)) a7 (.int .i64 (a:Nat))).isSome) l.length;have bo:=ca.o;have ev:E≠g:=fun d=>by obtain⟨aa,c,bl⟩:=cs;have:=H.o.blk;rw[d,bl]at this;cases this
   have es:cT A Y S E ag g al (some ⟨bz,b6,none⟩) cap l:=by obtain⟨e4,f3,ex,e0,eN⟩:=j.inside;refine⟨j.base.grown X j.base.size (fun q d=>by cases d;exact j.fresh.2.2.1),j.fresh,(X.block E (ax j.blk) (fun d=>by cases d;exact ev rfl)).trans j.blk,j.places.kept X (fun d=>by cases d;exact j.apart.2.2.2 rfl),⟨a2+1,_,cq,ad⟩,⟨e4,f3,ex.kept X (fun d=>by cases d;exact j.apart.2.2.1 rfl),e0,fun a v O=> ?_⟩,j.apart⟩;obtain⟨eg,z,W,b5,K,G,b7⟩:=eN a v O;exact⟨eg,z,W,b5,K,G,b7.kept X (fun d=>by cases d;exact G en)⟩
   have eA:gp S A.heap.size g l:=by
    refine⟨a2+1,_,cq,ad,fun a v O=> ?_⟩;by_cases d:a=k
    ·subst d
     rw[jw]at O;injection O with O
     subst O;exact⟨x,ba.o,ci⟩
    ·have bD:(Lit.int .i64 (a:Nat))≠ .int .i64 (k:Nat):=fun W=>by injection W with _ W;omega
     rw[jS _ _ bD]at O;obtain⟨z,b5,b0⟩:=b9.o a v O;exact⟨z,b5,b0.grown X (fun q d=>.inl (by cases d;exact cs))⟩
   have b1:Ao A Y E ag g al l (some ⟨bz,b6,none⟩) cap x w (.returned (.tuple #[.agg #[.slice s (bm (aI x.t.nodes)).length r,.slice no e.length m,.slice i keys.length h],.int .i64 0])) S:=⟨⟨es,eA,X⟩,.inl ⟨a7,by rw[bf],ci⟩⟩;rw[<-ae]at B⊢;have a3:=ai 0 B;have K:=ai 1 B;have G:=ai 2 B;exact cg (v:=.tuple #[.agg #[.slice s (bm (aI x.t.nodes)).length r,.slice no e.length m,.slice i keys.length h],.int .i64 0]) (by simp[results,IX,go_sem,a3,K,G,rS]) rfl b1
  ·obtain⟨R,P⟩:=ar (u.alloc (.cells #[.slice none 0 0,.slice none 0 0,.slice none 0 0] 174))
   have L:Below u.heap.size u R:=by rw[P];exact aG
   have D:R.heap[u.heap.size]?=some (.cells #[.slice none 0 0,.slice none 0 0,.slice none 0 0] 174):=by rw[P];exact aB u _
   have t:Below w.heap.size w R:=V.out.trans (L.mono V.out.size);have C:=(L.block _ (ax af)).trans af;have bc:=ai 0 D;have a1:=ai 1 D;have bd:=ai 2 D;have bA:=ai 0 C;have bB:=ai 1 C;have bC:=ai 2 C;have f0:=aT C 0;have f1:=aT C 1;have cc:=aT C 2;obtain⟨bu,ek,ds⟩:=bH t C P;have ea:Hid (rq x.t.nodes):=ah ⟨n,keys,a4,e3,d1,d2,d3⟩;rw[P]at bc a1 bd bA bB bC f0 f1 cc;clear ao L D t C af d1 d2 d3 c2 bi P;go_wp2_with fail
   rw[<-ds.o];have B:(((R.setCell ⟨w.heap.size,0,none⟩ (.slice none 0 0)).setCell ⟨w.heap.size,1,none⟩ (.slice none 0 0)).setCell ⟨w.heap.size,2,none⟩ (.slice none 0 0)).heap[w.heap.size]?=some (.cells #[.slice none 0 0,.slice none 0 0,.slice none 0 0] 174):=
    bn _ _ 2 _ (bn _ _ 1 _ (bn _ _ 0 _ ek.out))
   have N:Below w.heap.size w (((R.setCell ⟨w.heap.size,0,none⟩ (.slice none 0 0)).setCell ⟨w.heap.size,1,none⟩ (.slice none 0 0)).setCell ⟨w.heap.size,2,none⟩ (.slice none 0 0)):=((bu.o.setCell ak _).setCell ak _).setCell ak _;have a3:=ai 0 B;have K:=ai 1 B;have G:=ai 2 B;exact cg (v:=.tuple #[.agg #[.slice none 0 0,.slice none 0 0,.slice none 0 0],.int .i64 17]) (by simp[results,IX,go_sem,a3,K,G,rS]) rfl
    ⟨⟨a8.o.kept (bJ N none) (fun q d=>by cases d),bw.o.grown (bJ N none) (fun q d=>by cases d),bJ N _⟩,.inr ⟨ea.o,rfl⟩⟩
theorem oS{w:World}{B b size n:Nat}{v:Value}{xs:List Value}(a:w.ownsRow B b size v n xs)(m:0<n):∃g c,v=.slice (some ⟨g,0,none⟩) n c/\B<=g/\g<w.heap.size/\∀j u,j<n*size->xs[j]?=some u->w.cell? ⟨g,j,none⟩=some u:=by
 rcases a.2 with⟨i,l⟩|⟨g,cap,h,f,_⟩
 ·omega
 ·subst f
  have:=aF a (g:=g) rfl;exact⟨g,cap,rfl,this.1,this.2,fun j u d e=>(a.cellAt j d).trans e⟩
def gF(l:List aj)(keys:List St)(rows:List (List Nat)):Prop:=eL (true,0) 256 (cB l (bm (aI l))) keys.length=some (keys,rows)
def nM(l:List aj)(keys:List St)(p:Nat)(xs:List Bytes):Prop:=keys[p]?=some (kE l (true,0) xs)
section
variable{l:List aj} {keys:List St} {rows:List (List Nat)}
theorem gF.ok(a:gF l keys rows):Fp (true,0) 256 (cB l (bm (aI l))) keys.length (keys,rows):=qU ad _ _ a
theorem gF.start(a:gF l keys rows):nM l keys 0 []:=a.ok.first
theorem gF.row(c:gF l keys rows){p:Nat}(g:p<keys.length):∃row,rows[p]?=some row/\row.length=(bm (aI l)).length/\∀q∈row,q<keys.length:=by have T:=c.ok;have f:=T.len;obtain⟨row,b⟩:∃row,rows[p]?=some row:=⟨_,aH (by simp only at f;omega)⟩;obtain⟨d,e⟩:=T.at_ p _ row (aH g) b;refine⟨row,b,by rw[d];simp[cB],fun q h=> ?_⟩;obtain⟨j,a⟩:=xZ h;have i:=(aL.1 a).1;have:=e j q _ a (aH ad);exact(aL.1 this).1
theorem gF.step(a:gF l keys rows){p:Nat}{xs:List Bytes}(c:nM l keys p xs){j:Nat}{x:Bytes}(f:(bm (aI l))[j]?=some x){row:List Nat}{q:Nat}(e:rows[p]?=some row)(d:row[j]?=some q):nM l keys q (xs++[x]):=by obtain⟨g,b⟩:=a.ok.at_ p _ row c e;unfold nM;rw[Af];exact b j q _ d (by simp[cB,f,gm])
theorem nM.lt{p:Nat}{xs:List Bytes}(a:nM l keys p xs):p<keys.length:=(aL.1 a).1
end
def oT(x y:aw)(k1 k2:List St)(p:Nat×Nat):Prop:=∃xs,nM x.nodes k1 p.1 xs/\nM y.nodes k2 p.2 xs
section
variable{x y:aw} {k1 k2:List St} {r1 r2:List (List Nat)}
theorem Qi(a:gF x.nodes k1 r1)(b:gF y.nodes k2 r2):oT x y k1 k2 (0,0):=⟨[],a.start,b.start⟩
theorem Qj(i:gE x y)(d:gF x.nodes k1 r1)(e:gF y.nodes k2 r2){p:Nat×Nat}(l:oT x y k1 k2 p){j:Nat}(h:j<(bm (aI x.nodes)).length){s t:List Nat}{a b:Nat}
 (m:r1[p.1]?=some s) (n:r2[p.2]?=some t) (f:s[j]?=some a) (g:t[j]?=some b):oT x y k1 k2 (a,b):=by
 obtain⟨xs,o,q⟩:=l;have c:=aH h;exact⟨_,d.step o c m f,e.step q (by rw[i.syms];exact c) n g⟩
theorem Qk{p:Nat×Nat}(a:oT x y k1 k2 p):p.1<k1.length/\p.2<k2.length:=by obtain⟨xs,b,c⟩:=a;exact⟨b.lt,c.lt⟩
theorem Ql(d:gE x y)(e:bG x.nodes=0)(i:x.nodes.length<=60)(j:y.nodes.length<=60){p:Nat×Nat}(h:oT x y k1 k2 p){s t:St}(a:k1[p.1]?=some s)(b:k2[p.2]?=some t)
 (c:kX x.nodes s=true):kX y.nodes t=true:=by
 obtain⟨xs,f,g⟩:=h;unfold nM at f g;rw[f]at a;rw[g]at b;injection a with a
 injection b with b
 rw[<-a,FQ (gi e).1 i]at c;rw[<-b,FQ (gi (d.right e)).1 j];exact d.more xs c
end
theorem Ap{l:List aj}(a:bG l=0)(b:l.length<=20):kY l<=10:=by have:=PC (PD a);omega
theorem Aq{l:List aj}(a:bG l=0)(f:l.length<=60)(e:kY l<=10):¬rq l:=by rintro⟨n,keys,rows,k,b,c,d⟩;exact absurd d (Py a f e n keys rows k b c)
def gH(ts:List aw)(a:List Bytes):List (Nat×Nat):=(List.range a.length).map fun i=>(i,cI ts (a.getD i []))
theorem Ar(ts:List aw)(a:List Bytes):(gH ts a).length=a.length:=by simp[gH]
theorem Qm{ts:List aw}{c:List Bytes}{i:Nat}{b:Bytes}(a:c[i]?=some b):(gH ts c)[i]?=some (i,cI ts b):=by have d:=(aL.1 a).1;unfold gH;rw[bW,List.getElem?_range d];simp[fp,a]
theorem Qn{ts:List aw}{a:List Bytes}{i:Nat}{b:Bytes}(c:a[i]?=some b):(gH ts a).take (i+1)=(gH ts a).take i++[(i,cI ts b)]:=by rw[bV,Qm c];rfl
theorem Qo{ts:List aw}{d:List Bytes}{p:Nat×Nat}(c:p∈gH ts d):∃b,d[p.1]?=some b/\p.2=cI ts b:=by unfold gH at c;obtain⟨i,a,rfl⟩:=fH.1 c;have a:=gt.1 a;exact⟨_,aH a,by simp[fp,aH a]⟩
theorem Gd{ts:List aw}(d:bT ts=0){x:aw}(h:x∈ts){b:Bytes}(e:b∈aI x.nodes):∃t,ts[cI ts b]?=some t/\t.name=b:=by obtain⟨c,a⟩:=By.1 ((qJ d).placed x h b e);obtain⟨t,g,f⟩:=pP a;unfold cI;rw[a];exact⟨t,g,f⟩
theorem Qp{ts a:List aw}(e:bT ts=0)(c:dG ts a){x y:aw}(h:x∈ts)(g:gE x y){b:Bytes}(f:b∈aI x.nodes):ix a y (labelAt ts (cI ts b))=some (cI ts b):=by
 unfold ix;rw[c.kids g];have d:(fun j=>labelAt a j==labelAt ts (cI ts b))=fun j=>labelAt ts j==labelAt ts (cI ts b):=by
  funext j
  rw[c.labelAt]
 rw[d];exact L6 ((qJ e).labels x h) (fH.2 ⟨b,f,rfl⟩)
def fM(w:World)(B:Nat)(v:Value)(l:List aj)(keys:List St)(b:List (List Nat)):Prop:=
 ∃e nv c a,gF l keys b/\v=.agg #[e,nv,c]/\cn w B e (bm (aI l))/\w.ownsRow B 125 1 nv a.length a/\a.length=b.length/\
  (∀(j:Nat) (v:Value) (d:List Nat),a[j]?=some v->b[j]?=some d->cW w B v d)/\w.ownsRow B 4 1 c keys.length (keys.map fun s=>.bool (kX l s))
theorem Gk{w:World}{B:Nat}{v:Value}{l:List aj}(c:iV w B v l):∃keys a,fM w B v l keys a:=by obtain⟨n,keys,a,g,nv,b,h,d,e,f⟩:=c;subst e;exact⟨keys,a,g,nv,b,h,d,f⟩
theorem fM.grown{w w':World}{B:Nat}{v:Value}{l:List aj}{keys:List St}{d:List (List Nat)}{row:Option Nat}(g:fM w B v l keys d)(a:w.grownBy w' row)(b:∀q,row=some q->(∃e c,w.heap[q]?=some (.map e c))∨q<B):fM w' B v l keys d:=by obtain⟨x,nv,f,y,h,i,m,n,o,p,r⟩:=g;exact⟨x,nv,f,y,h,i,oR m a b,oR n a b,o,fun j v u s t=>oR (p j v u s t) a b,oR r a b⟩
def finAt(l:List aj)(keys:List St)(p:Nat):Bool:=match keys[p]? with|some s=>kX l s|none=>false
structure jW(w:World)(l:List aj)(keys:List St)(rows:List (List Nat))(ng fg:Nat):Prop where
 nl:ng<w.heap.size
 fl:fg<w.heap.size
 next:∀(p:Nat) (row:List Nat),rows[p]?=some row->∃o c,w.cell? ⟨ng,p,none⟩=some (.slice o row.length c)/\∀(j q:Nat),row[j]?=some q->∃g,o=some ⟨g,0,none⟩/\g<w.heap.size/\w.cell? ⟨g,j,none⟩=some (.int .i64 (q:Nat))
 fin:∀p,p<keys.length->w.cell? ⟨fg,p,none⟩=some (.bool (finAt l keys p))
theorem jW.below{w w':World}{l:List aj}{keys:List St}{h:List (List Nat)}{e d:Nat}(a:jW w l keys h e d)(b:Below w.heap.size w w'):jW w' l keys h e d:=by refine⟨dn a.nl b.size,dn a.fl b.size,fun p row u=> ?_,fun p t=>(b.cell (p:=⟨d,p,none⟩) a.fl).trans (a.fin p t)⟩;obtain⟨o,c,m,n⟩:=a.next p row u;refine⟨o,c,(b.cell (p:=⟨e,p,none⟩) a.nl).trans m,fun j q s=> ?_⟩;obtain⟨g,i,f,r⟩:=n j q s;exact⟨g,i,dn f b.size,(b.cell (p:=⟨g,j,none⟩) f).trans r⟩
theorem fM.cells{w:World}{B:Nat}{v:Value}{l:List aj}{keys:List St}{A:List (List Nat)}(C:fM w B v l keys A):
 ∃e d b m a h,v=.agg #[.slice e (bm (aI l)).length d,.slice (some ⟨b,0,none⟩) keys.length m,.slice (some ⟨a,0,none⟩) keys.length h]/\cn w B (.slice e (bm (aI l)).length d) (bm (aI l))/\jW w l keys A b a:=by
 obtain⟨V,nv,R,P,D,rfl,r,E,F,G,H⟩:=C;have T:=D.ok;have t:=(aL.1 T.first).1;have y:=T.len;simp only at t y;obtain⟨e,d,rfl⟩:=bL r;obtain⟨b,m,rfl,_,M,N⟩:=oS E ad;obtain⟨a,h,rfl,_,I,J⟩:=oS H t;refine⟨e,d,b,m,a,h,by rw[F,y],r,M,I,fun p row x=> ?_,fun p u=> ?_⟩
 ·have u:=(aL.1 x).1
  have O:p<P.length:=ad;have z:=aH O;have i:=G p _ row z x;obtain⟨o,c,n⟩:=bL i;refine⟨o,c,by rw[<-n];exact N p _ ad z,fun j q s=> ?_⟩;have S:=(aL.1 s).1;rw[n]at i;obtain⟨g,Q,f,_,K,L⟩:=oS i ad;injection f with f
  exact⟨g,f,K,L j _ ad (by simp[fi,s])⟩
 ·exact J p _ ad (by simp[finAt,u])
theorem QC(U H n c:Nat)(a:List Bool)(p:Pr)(j:p.2<a.length)(s:a.length<=1048576)(w:World)(f:w.heap[U]?=some (.cells #[.slice (some ⟨H,0,none⟩) a.length c] 109))(e:w.heap[H]?=some (.cells (a.map Value.bool).toArray 4)):
 k6 103 #[.pointer (some ⟨U,0,none⟩)] (fun p=> !(a.getD p.2 false)) p w:=by
 unfold k6;obtain⟨i,k⟩:=p;simp only at j;obtain⟨r,l,d,h⟩:=cm w (.cells #[.int .i64 (i:Nat),.int .i64 (i:Nat),.int .i64 (k:Nat),.int .i64 (k:Nat)] 180);have v:=ai 2 h;have u0:=ai 0 ((d.block _ (ax f)).trans f);have q:r.cell? ⟨H,k,none⟩=some (.bool (a.getD k false)):=by rw[ai k ((d.block _ (ax e)).trans e),gU,bW,fp,aH j];rfl
 have t:(0:Int)<=k:=ad;have u:(k:Int)<a.length:=ad;obtain⟨b,g⟩:=ar (a.getD k false);rw[<-g]at q;obtain⟨o,m⟩:=aD g d;unfold wdRow;simp only;clear g d h f e;go_enter func103,ntmps103
 go_wp2_with(first|(rw[<-l];clear l)|fail)
 go_ret;rw[<-o.o];exact⟨rfl,m.out⟩
theorem QD(X:Nat)(q p:Pr)(w:World)(e:w.rangeAt X 0 (wdRow q))(h:X<w.heap.size):k6 108 #[.pointer (some ⟨X,0,none⟩)] (fun p=>decide (p.1=q.1)) p w:=by
 unfold k6;obtain⟨i,k⟩:=p;obtain⟨a,m⟩:=q;obtain⟨l,f,b,d⟩:=cm w (.cells #[.int .i64 (i:Nat),.int .i64 (i:Nat),.int .i64 (k:Nat),.int .i64 (k:Nat)] 180);have n:=ai 0 d;have u0:l.cell? ⟨X,0,none⟩=some (.int .i64 (a:Nat)):=(b.cell (p:=⟨X,0,none⟩) h).trans (e 0 _ rfl);have g:=ah b;unfold wdRow;simp only;have j:((i:Int)==(a:Int))=decide (i=a):=by
  by_cases c:i=a
  ·subst c;simp
  ·rw[l6 c,eu];omega
 clear b d e;go_enter func108,ntmps108
 go_wp2_with(first|(rw[<-f];clear f)|fail)
 go_ret;exact⟨by rw[<-j];rfl,g.out⟩
theorem QE(m n:Nat){j l:List aj}{a c:List St}{F G:List (List Nat)}{D f1 E f2 t u:Nat}{H J I K:Value}(x y:Nat)(B:x<a.length)(C:y<c.length)(M:a.length<=256)(N:c.length<=256)(w:World)
 (h:w.heap[m]?=some (.cells #[H,J,.slice (some ⟨f1,0,none⟩) a.length t] 174)) (i:w.heap[n]?=some (.cells #[I,K,.slice (some ⟨f2,0,none⟩) c.length u] 174)) (p:jW w j a F D f1) (q:jW w l c G E f2):
 Calls prog 104 #[.agg #[.int .i64 (x:Nat),.int .i64 (y:Nat)],.pointer (some ⟨m,0,none⟩),.pointer (some ⟨n,0,none⟩)] w fun v w'=>v=.returned (.bool (finAt j a x&& !finAt l c y))/\Below w.heap.size w w':=by
 obtain⟨T,f,e,g⟩:=cm w (.cells #[.int .i64 (x:Nat),.int .i64 (y:Nat)] 106);have V:=ai 0 g;have W:=ai 1 g;have L:=ai 2 ((e.block _ (ax h)).trans h);have d2:=ai 2 ((e.block _ (ax i)).trans i);have z:=(p.below e).fin x B;have A:=(q.below e).fin y C;have O:(0:Int)<=x:=ad;have P:(x:Int)<a.length:=ad;have Q:(0:Int)<=y:=ad;have R:(y:Int)<c.length:=ad;have S:decide ((y:Int)<0)=false:=bK;obtain⟨b,r⟩:=ar (finAt j a x);obtain⟨d,s⟩:∃b,b=finAt l c y:=⟨_,rfl⟩;rw[<-r]at z⊢;rw[<-s]at A⊢;have o:=ah e;clear r s e g h i p q;cases b with
 |false=>
  go_enter func104,ntmps104
  go_wp2_with(first|(rw[<-f];clear f)|fail)
  go_ret;exact⟨rfl,o.out⟩
 |true=>
  go_enter func104,ntmps104
  go_wp2_with(first|(rw[<-f];clear f)|fail)
  go_ret;exact⟨rfl,o.out⟩
theorem QF(h:Nat){g:List aj}{a:List St}{r:List (List Nat)}{q f1 m:Nat}{s t:Value}(x y:Nat)(p:x<a.length)(v:a.length<=256)(w:World)
 (f:w.heap[h]?=some (.cells #[s,t,.slice (some ⟨f1,0,none⟩) a.length m] 174)) (j:jW w g a r q f1):
 Calls prog 109 #[.agg #[.int .i64 (x:Nat),.int .i64 (y:Nat)],.pointer (some ⟨h,0,none⟩)] w fun n w'=>n=.returned (.bool (finAt g a x&&decide (0<y)))/\Below w.heap.size w w':=by
 obtain⟨B,d,c,e⟩:=cm w (.cells #[.int .i64 (x:Nat),.int .i64 (y:Nat)] 106);have C:=ai 0 e;have D:=ai 1 e;have u:=ai 2 ((c.block _ (ax f)).trans f);have o:=(j.below c).fin x p;have z:(0:Int)<=x:=ad;have A:(x:Int)<a.length:=ad;obtain⟨b,l⟩:=ar (finAt g a x);rw[<-l]at o⊢;have i:=ah c;clear l c e f j;cases b with
 |false=>
  go_enter func109,ntmps109
  go_wp2_with(first|(rw[<-d];clear d)|fail)
  go_ret;exact⟨rfl,i.out⟩
 |true=>
  go_enter func109,ntmps109
  go_wp2_with(first|(rw[<-d];clear d)|fail)
  go_ret;exact⟨rfl,i.out⟩
end Go.Proofs.YtnadadbndcdolaaGreatDoor
