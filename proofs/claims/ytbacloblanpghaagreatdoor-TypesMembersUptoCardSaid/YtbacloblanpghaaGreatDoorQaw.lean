import Derived.Test.YtbacloblanpghaaGreatDoorQav
set_option linter.unusedVariables false
set_option linter.unusedSimpArgs false
set_option maxRecDepth 100000
set_option maxHeartbeats 0
namespace Go.Proofs.YtbacloblanpghaaGreatDoor
open Go.RowKit Tryz
theorem xH{P:Program}{e:Array Oper}{rest:List Oper}{c:Oper}{a:Act}{w:World}{Q:Act->Prop}(i:c.guard=none)(ty:TypeId)(x:Operand)(l:c.op=.load ty x)
 (b o:Nat) (n:a.eval x=.pointer (some ⟨b,o,none⟩)) (cs:List Value) (d:TypeDesc) (g:w.rangeAt b o cs)
 (m:P.underlying ty=some d) (h:d.isRow=true) (j:(P.info? ty).map (·.size)=some cs.length)
 (f:wpStill P e w Q rest (a.put c.dst (.agg cs.toArray))):wpStill P e w Q (c::rest) a:=by
 unfold wpStill;rw[au (by simp[Region.wanted,i])];unfold Oper.still execOp;simp only[l,n,Instr.loadAt,Instr.sureAddr,zV,sW,zW,FJ w b o ty cs d g m h j,Oper.stillUpon_value];exact f
def aboveV(l:List ar)(k j:Nat):Int:=if j=l.length-1 then-1 else if gx l j<k then(gx l j:Nat)else 0
structure lR(W0 w:World)(P F U:Nat)(no:Option Addr)(nc:Nat)(l:List ar)(k:Nat):Prop where
 base:Below W0.heap.size W0 w
 hP:W0.heap.size<=P
 hF:W0.heap.size<=F
 hU:W0.heap.size<=U
 lP:P<w.heap.size
 lF:F<w.heap.size
 lU:U<w.heap.size
 pf:P≠F
 pu:P≠U
 fu:F≠U
 p0:w.cell? ⟨P,0,none⟩=some (.slice no l.length nc)
 p1:w.cell? ⟨P,1,none⟩=some (.slice (some ⟨F,0,none⟩) l.length l.length)
 p2:w.cell? ⟨P,2,none⟩=some (.slice (some ⟨U,0,none⟩) l.length l.length)
 facts:∀i,i<k->w.rangeAt F (i*34) (factRow (factN l i))
 fthere:∀i,i<l.length->w.there F (i*34) 34
 ups:∀j,j<l.length->w.cell? ⟨U,j,none⟩=some (.int .i64 (aboveV l k j))
 uthere:∀j,j<l.length->w.frozen? ⟨U,j,none⟩=false
structure uC(w w':World)(U:Nat)(l:List ar)(i:Nat)(n:ar):Prop where
 grown:w.grownBy w' (some U)
 here:∀j,j<l.length->w'.cell? ⟨U,j,none⟩=if j∈bU n then some (.int .i64 (i:Nat))else w.cell? ⟨U,j,none⟩
 frozen:∀j,w'.frozen? ⟨U,j,none⟩=w.frozen? ⟨U,j,none⟩
theorem xI{w w':World}(a:Below w.heap.size w w')(row:Option Nat):w.grownBy w' row:=⟨a.os,a.tape,a.output,a.size,fun k b _=>a.block k b⟩
theorem xJ{w w':World}{U:Nat}{l:List ar}{i:Nat}{n:ar}(a:Below w.heap.size w w')(b:U<w.heap.size)(c:bU n=[]):uC w w' U l i n:=
 ⟨xI a _,fun j d=>by rw[c,ap ak];exact a.cell (p:=⟨U,j,none⟩) b,fun j=>a.frozen (p:=⟨U,j,none⟩) b⟩
theorem CJ(w1:World)(ty:TypeId):Below w1.heap.size w1 (w1.alloc (.cells #[.bool false,.bool false,.int .u64 0,.int .u64 0,.int .u64 0,.int .u64 0,.int .u64 0,.int .u64 0,.int .u64 0,.int .u64 0,.int .u64 0,.int .u64 0,.int .u64 0,.int .u64 0,.int .u64 0,.int .u64 0,.int .u64 0,.int .u64 0,.int .u64 0,.int .u64 0,.int .u64 0,.int .u64 0,.int .u64 0,.int .u64 0,.int .u64 0,.int .u64 0,.int .u64 0,.int .u64 0,.int .u64 0,.int .u64 0,.int .u64 0,.int .u64 0,.int .u64 0,.int .u64 0] ty))/\(w1.alloc (.cells #[.bool false,.bool false,.int .u64 0,.int .u64 0,.int .u64 0,.int .u64 0,.int .u64 0,.int .u64 0,.int .u64 0,.int .u64 0,.int .u64 0,.int .u64 0,.int .u64 0,.int .u64 0,.int .u64 0,.int .u64 0,.int .u64 0,.int .u64 0,.int .u64 0,.int .u64 0,.int .u64 0,.int .u64 0,.int .u64 0,.int .u64 0,.int .u64 0,.int .u64 0,.int .u64 0,.int .u64 0,.int .u64 0,.int .u64 0,.int .u64 0,.int .u64 0,.int .u64 0,.int .u64 0] ty)).rangeAt w1.heap.size 0 (factRow jw)/\(w1.alloc (.cells #[.bool false,.bool false,.int .u64 0,.int .u64 0,.int .u64 0,.int .u64 0,.int .u64 0,.int .u64 0,.int .u64 0,.int .u64 0,.int .u64 0,.int .u64 0,.int .u64 0,.int .u64 0,.int .u64 0,.int .u64 0,.int .u64 0,.int .u64 0,.int .u64 0,.int .u64 0,.int .u64 0,.int .u64 0,.int .u64 0,.int .u64 0,.int .u64 0,.int .u64 0,.int .u64 0,.int .u64 0,.int .u64 0,.int .u64 0,.int .u64 0,.int .u64 0,.int .u64 0,.int .u64 0] ty)).there w1.heap.size 0 34/\(w1.alloc (.cells #[.bool false,.bool false,.int .u64 0,.int .u64 0,.int .u64 0,.int .u64 0,.int .u64 0,.int .u64 0,.int .u64 0,.int .u64 0,.int .u64 0,.int .u64 0,.int .u64 0,.int .u64 0,.int .u64 0,.int .u64 0,.int .u64 0,.int .u64 0,.int .u64 0,.int .u64 0,.int .u64 0,.int .u64 0,.int .u64 0,.int .u64 0,.int .u64 0,.int .u64 0,.int .u64 0,.int .u64 0,.int .u64 0,.int .u64 0,.int .u64 0,.int .u64 0,.int .u64 0,.int .u64 0] ty)).heap.size=w1.heap.size+1:=
 ⟨az,nQ (ty:=ty) (f:=(0,0)) (aC w1 _),mI (cs:=factRow jw) (ty:=ty) (aC w1 _) (aB _),ak⟩
theorem gA{w w':World}{b o:Nat}{cs:List Value}(c:w.rangeAt b o cs)(d:Below w.heap.size w w'):w'.rangeAt b o cs:=fun j v e=>by have a:=c j v e;rw[d.cell (p:=⟨b,o+j,none⟩) (qQ w _ a)];exact a
theorem gn{w w':World}{b o n:Nat}(e:w.there b o n)(c:Below w.heap.size w w'):w'.there b o n:=fun j g=>by obtain⟨a,f⟩:=e j g;obtain⟨u,h⟩:=Option.isSome_iff_exists.1 a;have d:=qQ w _ h;exact⟨by rw[c.cell (p:=⟨b,o+j,none⟩) d];exact a,by rw[c.frozen (p:=⟨b,o+j,none⟩) d];exact f⟩
theorem xK{w d f e:World}{U i:Nat}{cs:List Value}(a:w.grownBy d (some U))(b:Below d.heap.size d f)(c:eX f e w.heap.size i cs):w.grownBy e (some U):=
 ⟨c.os.trans (b.os.trans a.os),c.tape.trans (b.tape.trans a.tape),c.output.trans (b.output.trans a.output),by rw[c.size];exact aR a.size b.size,
   fun k g h=>(c.block k ad).trans ((b.block k (by have:=a.size;omega)).trans (a.block k g h))⟩
def CK(l:List ar)(i:Nat)(n:ar)(U:Nat)(w:World)(a:Ending)(w':World):Prop:=a=.returned (iA (factN l i))/\uC w w' U l i n
theorem Lo(dr w:World)(P F U cq:Nat)(no:Option Addr)(d3:Nat)(l:List ar)(a2:eu l)(c0:l.length<=60)(i:Nat)(n:ar)(bl:l[i]?=some n)(d0:di dr no d3 l)(ab:lR dr w P F U no d3 l i)(fs:cq<w.heap.size)(eZ:w.cell? ⟨cq,0,none⟩=some (.slice no l.length d3)):
 Calls prog 169 #[.int .i64 (i:Nat),.pointer (some ⟨cq,0,none⟩),.pointer (some ⟨P,0,none⟩)] w (CK l i n U w):=by
 have f2:=(aP.1 bl).1;have c2:=iM l 0 i n a2.ok bl;rw[cE]at c2;have cu:=d0.below ab.base;have fu:=cu.2.2.1;unfold maxLen at fu;have f1:=cu.2.1;obtain⟨b,c4,rfl,cN,e4,e5,e6,e7⟩:=cu.at bl;have f0:b<dr.heap.size:=by
  obtain⟨b',f6,o,c1,_⟩:=d0.2.2.2 ad;injection o with o
  injection o with fo fT fr;clear fr
  rw[fo];exact c1
 have eN:=Ln a2.ok bl;have c1:=lz c2;obtain⟨Z,e2,d4,e3⟩:=CJ w 192;obtain⟨c5,L⟩:=aj (w.alloc (.cells #[.bool false,.bool false,.int .u64 0,.int .u64 0,.int .u64 0,.int .u64 0,.int .u64 0,.int .u64 0,.int .u64 0,.int .u64 0,.int .u64 0,.int .u64 0,.int .u64 0,.int .u64 0,.int .u64 0,.int .u64 0,.int .u64 0,.int .u64 0,.int .u64 0,.int .u64 0,.int .u64 0,.int .u64 0,.int .u64 0,.int .u64 0,.int .u64 0,.int .u64 0,.int .u64 0,.int .u64 0,.int .u64 0,.int .u64 0,.int .u64 0,.int .u64 0,.int .u64 0,.int .u64 0] 192));rw[<-L]at Z e2 d4 e3;obtain⟨m,E⟩:=aj (c5.alloc (.cells #[.int .i64 n.op,.string ⟨n.sym.toArray⟩,.int .i64 n.a,.int .i64 n.b] 140));have ds:Below c5.heap.size c5 m:=by rw[E];exact az
 have d5:m.heap.size=w.heap.size+2:=by rw[E];simp;omega
 have b6:m.heap[w.heap.size+1]?=some (.cells #[.int .i64 n.op,.string ⟨n.sym.toArray⟩,.int .i64 n.a,.int .i64 n.b] 140):=by have:=aC c5 (.cells #[.int .i64 n.op,.string ⟨n.sym.toArray⟩,.int .i64 n.a,.int .i64 n.b] 140);rw[e3]at this;rw[E];exact this
 have b2:Below w.heap.size w m:=Z.trans (ds.mono Z.size);have bt:=ai 0 b6;have c3:=ai 1 b6;have al:=ai 2 b6;have a6:=ai 3 b6;have fy:m.there w.heap.size 0 34:=gn d4 ds;have f4:(i:Int)<l.length:=ad;obtain⟨f,cp,e,bg,bE,co,el⟩:=xL b2 fy ab eN c1 c2 bl;have d2:=(b2.cell (p:=⟨P,0,none⟩) ab.lP).trans ab.p0;have bo:=(b2.cell (p:=⟨P,1,none⟩) ab.lP).trans ab.p1;have bq:=(b2.cell (p:=⟨P,2,none⟩) ab.lP).trans ab.p2;have bm:=(Z.cell (p:=⟨cq,0,none⟩) fs).trans eZ;have bc:=(Z.cell (p:=⟨b,c4+i*4,none⟩) cN).trans e4;have bd:=(Z.cell (p:=⟨b,c4+i*4+1,none⟩) cN).trans e5;have be:=(Z.cell (p:=⟨b,c4+i*4+2,none⟩) cN).trans e6;have bf:=(Z.cell (p:=⟨b,c4+i*4+3,none⟩) cN).trans e7;clear Z ds e2 d4 ab eN c1 cu d0 e4 e5 e6 e7 eZ b6 b2 c2 bl;obtain⟨f7,sym,G,X⟩:=n;simp only at E bt c3 al a6 bc bd be bf;go_enter func169,ntmps169
 rcases rm co.o with o|o|o|o|o|o
 all_goals
  simp only at o;subst o
 case inl=>
  have y:factN l i=⟨true,false,0,0⟩:=by have:=bg.o;simpa using this
  have R:=ah y;clear y;go_wp2_with(first
   |(rw[<-L];clear L)
   |(rw[<-E];clear E bc bd be bf bm)
   |(first|((with_reducible apply nR);exact rfl;exact rfl;exact rfl)|((with_reducible apply nU);exact rfl;exact rfl;exact rfl)|((with_reducible apply nS);exact rfl;exact rfl;exact rfl)|((with_reducible apply nT);exact rfl;exact rfl;exact rfl))
   |(((with_reducible apply cT (ty:=192));exact rfl;exact rfl;exact rfl;exact rfl;assumption;exact dv;exact iB _);intro ce t)
   |fail)
  (try simp only[Exit.inBlock,Exit.then])
  (refine bS (gm rfl _ _ w.heap.size 0 _ _ rfl t.here gu rfl dv) rfl ?_)
  exact⟨by rw[R.o];rfl,xJ (t.below f.o (aB _)) e.o.lU rfl⟩
 case inr.inl=>
  have y:factN l i=⟨false,true,0,0⟩:=by have:=bg.o;simpa using this
  have R:=ah y;clear y;go_wp2_with(first
   |(rw[<-L];clear L)
   |(rw[<-E];clear E bc bd be bf bm)
   |(first|((with_reducible apply nR);exact rfl;exact rfl;exact rfl)|((with_reducible apply nU);exact rfl;exact rfl;exact rfl)|((with_reducible apply nS);exact rfl;exact rfl;exact rfl)|((with_reducible apply nT);exact rfl;exact rfl;exact rfl))
   |(((with_reducible apply cT (ty:=192));exact rfl;exact rfl;exact rfl;exact rfl;assumption;exact dv;exact iB _);intro ce t)
   |fail)
  (try simp only[Exit.inBlock,Exit.then])
  (refine bS (gm rfl _ _ w.heap.size 0 _ _ rfl t.here gu rfl dv) rfl ?_)
  exact⟨by rw[R.o];rfl,xJ (t.below f.o (aB _)) e.o.lU rfl⟩
 case inr.inr.inl=>
  have y:factN l i=⟨false,false,2^i,2^i⟩:=by have:=bg.o;simpa using this
  have R:=ah y;clear y;obtain⟨cs,b3,b4,es⟩:=CJ m 192;obtain⟨c6,d1⟩:=aj (m.alloc (.cells #[.bool false,.bool false,.int .u64 0,.int .u64 0,.int .u64 0,.int .u64 0,.int .u64 0,.int .u64 0,.int .u64 0,.int .u64 0,.int .u64 0,.int .u64 0,.int .u64 0,.int .u64 0,.int .u64 0,.int .u64 0,.int .u64 0,.int .u64 0,.int .u64 0,.int .u64 0,.int .u64 0,.int .u64 0,.int .u64 0,.int .u64 0,.int .u64 0,.int .u64 0,.int .u64 0,.int .u64 0,.int .u64 0,.int .u64 0,.int .u64 0,.int .u64 0,.int .u64 0,.int .u64 0] 192));rw[<-d1]at cs b3 b4 es;rw[d5]at b3 b4 es;have ez:Below w.heap.size w c6:=f.o.trans (cs.mono ad);have eB:c6.there w.heap.size 0 34:=gn cp.o cs;have eD:=Cy (w.heap.size+2) 2 0 i c6 ad aw (b3 2 _ rfl) (b4 2 aw).2;obtain⟨e8,fb,ed,e9⟩:=cI ez eB b3 b4;clear cs ez eB b3 b4;go_wp2_with(first
   |(rw[<-L];clear L)
   |(rw[<-E];clear E bc bd be bf bm)
   |(rw[<-d1];clear d1)
   |fail)
  refine eD.mono ?_;rintro o ec ⟨rfl,bq,e0⟩;have cx:fm c6 ec (w.heap.size+2) 2 (.int .u64 (jg 0 i:Nat)):=by rw[e0];exact lO (ed.o 2 _ rfl)
  have du:=uA ed.o cx;have eE:=Cy (w.heap.size+2) 18 0 i ec ad aw (du 18 _ rfl) (by rw[cx.frozen];exact(e9.o 18 aw).2);obtain⟨em,eg⟩:=aE cx du;clear e0 cx du eD;go_wp2_with fail
  refine eE.mono ?_;rintro o fG ⟨rfl,f5,e1⟩;have cG:fm ec fG (w.heap.size+2) 18 (.int .u64 (jg 0 i:Nat)):=by rw[e1];exact lO (eg.o 18 _ rfl)
  have ex:=uB eg.o cG;have gb:=cG.row.there (em.o.row.there fb.o);have fc:=ah cG;have en:jg 0 i=2^i:=by simp[jg]
  rw[en]at ex;simp only[jw]at ex;clear e1 cG eE en;go_wp2_with(first
   |((with_reducible apply dL (ty:=192));exact rfl;exact rfl;exact rfl;assumption;exact gu;exact rfl;exact dv)
   |(((with_reducible apply cT (ty:=192));exact rfl;exact rfl;exact rfl;exact rfl;assumption;exact dv;exact iB _);intro ce t)
   |fail)
  (try simp only[Exit.inBlock,Exit.then])
  (refine bS (gm rfl _ _ w.heap.size 0 _ _ rfl t.here gu rfl dv) rfl ?_)
  exact⟨by rw[R.o];rfl,xJ (t.below (fc.o.row.below (em.o.row.below e8.o ad) ad) (aB _)) e.o.lU rfl⟩
 case inr.inr.inr.inl=>
  have y:factN l i=pi (factN l G.toNat) (factN l X.toNat):=by have:=bg.o;simpa using this
  have a5:=bE.o G.toNat (by simp[bU]);have b9:=bE.o X.toNat (by simp[bU]);have ae:=tK a2 el.o (.inl rfl);have b8:0<=G/\0<=X:=by have s:=co.o;unfold dG at s;rw[ap ak,ap ak,au ak]at s;simp only[dg]at s;have h:=s.1.2;have A:=s.2;unfold bM at h A;simp at h A;omega
  obtain⟨c,rfl⟩:∃c:Nat,G=c:=⟨G.toNat,ad⟩;obtain⟨B,rfl⟩:∃B:Nat,X=B:=⟨X.toNat,ad⟩;simp only[iL]at y a5 b9 ae;have bF:Hid (bU ⟨3,sym,(c:Nat),(B:Nat)⟩=[c,B]):=by unfold Hid;simp[bU]
  have R:=ah y;have a1:(c:Int)<l.length:=ad;have fg:(B:Int)<l.length:=ad;have er:(0:Int)<=c:=ad;have fl:(0:Int)<=B:=ad;have O:=e.o.lU;have aq:=(f.o.cell (p:=⟨U,c,none⟩) O).trans (e.o.ups c ad);have a7:=(f.o.cell (p:=⟨U,B,none⟩) O).trans (e.o.ups B ad);have ci:=(f.o.frozen (p:=⟨U,c,none⟩) O).trans (e.o.uthere c ad);have cl:=(f.o.frozen (p:=⟨U,B,none⟩) O).trans (e.o.uthere B ad);have H:fm m (m.setCell ⟨U,c,none⟩ (.int .i64 (i:Nat))) U c (.int .i64 (i:Nat)):=lO (k:=0) aq;have N:w.heap.size+1≠U:=ad;have d6:=(dB (w:=m) (a:=⟨P,2,none⟩) (H.block P e.o.pu)).trans bq;have d7:=(dB (w:=m) (a:=⟨w.heap.size+1,2,none⟩) (H.block _ N)).trans al;have d8:=(dB (w:=m) (a:=⟨w.heap.size+1,3,none⟩) (H.block _ N)).trans a6;have ea:=(H.other B (fun o=>ae o.symm)).trans a7;have eb:=(H.frozen B).trans cl;obtain⟨ch,ba⟩:=aj (m.setCell ⟨U,c,none⟩ (.int .i64 (i:Nat)));have q:=H;rw[<-ba]at q;have b5:=(q.other B (fun o=>ae o.symm)).trans a7;obtain⟨C,W⟩:=aj (ch.setCell ⟨U,B,none⟩ (.int .i64 (i:Nat)));have g:fm ch C U B (.int .i64 (i:Nat)):=by rw[W];exact lO (k:=0) b5
  obtain⟨bb,D⟩:=aj (World.drew C);obtain⟨d,r⟩:=aj (World.drew bb);have T:∀x,d.cell? x=C.cell? x:=fun x=>by rw[r,D];simp
  have Y:∀x,d.frozen? x=C.frozen? x:=fun x=>by rw[r,D];simp
  have M:d.heap=C.heap:=by rw[r,D];rfl
  have S:∀k,k≠U->d.heap[k]?=m.heap[k]?:=fun k h=>by rw[M];exact(g.block k h).trans (q.block k h)
  have a0:w.grownBy d (some U):=by
   refine⟨?_,?_,?_,?_,fun k h A=>(S k (fun o=>A (by rw[o]))).trans (f.o.block k h)⟩
   ·rw[r,D];exact g.os.trans (q.os.trans f.o.os)
   ·rw[r,D];exact g.tape.trans (q.tape.trans f.o.tape)
   ·rw[r,D];exact g.output.trans (q.output.trans f.o.output)
   ·rw[M];have h:=g.size;have A:=q.size;omega
  have a3:∀j,d.cell? ⟨U,j,none⟩=if j∈[c,B]then some (.int .i64 (i:Nat))else w.cell? ⟨U,j,none⟩:=fun j=>by
   rw[T];by_cases a9:j=B
   ·subst a9;rw[g.here,au ak]
   ·rw[g.other j a9]
    by_cases V:j=c
    ·subst V;rw[q.here,au ak]
    ·rw[q.other j V,ap (by simp[V,a9])]
     exact f.o.cell (p:=⟨U,j,none⟩) e.o.lU
  have av:∀j,d.frozen? ⟨U,j,none⟩=w.frozen? ⟨U,j,none⟩:=fun j=>by rw[Y,g.frozen,q.frozen];exact f.o.frozen (p:=⟨U,j,none⟩) e.o.lU
  have ao:d.there w.heap.size 0 34:=fun j a4=>by have s:=(g.row.there (q.row.there cp.o)) j a4;exact⟨by rw[T];exact s.1,by rw[Y];exact s.2⟩
  have z:∀(u K:Nat) (v:Value),u≠U->m.cell? ⟨u,K,none⟩=some v->d.cell? ⟨u,K,none⟩=some v:=fun u K v h A=>
   (dB (w:=m) (w':=d) (a:=⟨u,K,none⟩) (S u h)).trans A
  have Q:d.rangeAt F (c*34) (factRow (factN l c)):=fun j v ag=>z F _ _ e.o.fu ((f.o.cell (p:=⟨F,c*34+j,none⟩) e.o.lF).trans (e.o.facts c ad j v ag));have an:d.rangeAt F (B*34) (factRow (factN l B)):=fun j v ag=>z F _ _ e.o.fu ((f.o.cell (p:=⟨F,B*34+j,none⟩) e.o.lF).trans (e.o.facts B ad j v ag));have dz:=z _ _ _ N bt;have J:=z _ _ _ N al;have aa:=z _ _ _ N a6;have I:=z P 1 _ e.o.pu bo;have cc:d.heap.size=w.heap.size+2:=by rw[M,g.size,q.size];exact d5
  obtain⟨b0,bu,bA,bB,bZ,bw,bz,c7,c8,bi⟩:=kB (Lk (factN l c) (factN l B) (kA a2 c0 ad) (kA a2 c0 ad) d) a3 av a0 ao I J aa cc Q;have c9:=ah an;unfold iA at b0;clear y a5 b9 b8 H q g T Y M S a0 a3 av ao z b5 dz I J aa cc Q an d2 bo;go_wp2_with(first
   |(rw[<-L];clear L)
   |(rw[<-E];clear E bc bd be bf bm)
   |fail)
  clear bt c3;go_region
  clear aq a7 ci cl d6 d7 d8 ea eb al a6 bq ae;rw[<-ba,<-W,<-D];clear ba W D;go_wp2_with fail
  have I:=bw.o;have J:=bz.o;have aa:=c7.o;have Q:=bi.o;have an:=c9.o;refine FK 12 ay ay ?_;change wpStill _ _ (World.drew bb) (fun b1=>wpList _ _ _ _ b1 (World.drew bb)) _ _;rw[<-r];clear r;simp only[lr,mf,FL,List.drop_zero];repeat(first|((with_reducible apply xH (ty:=192));exact rfl;exact rfl;exact rfl;assumption;exact gu;exact rfl;exact dv)|still_step)
  try refine wpStill_nil ?_
  clear I J aa Q an;go_wp2_with fail
  refine b0.o.mono ?_;rintro o fN ⟨rfl,af⟩;have fz:=gn bZ.o af;go_wp2_with(first
   |(((with_reducible apply cT (ty:=192));exact rfl;exact rfl;exact rfl;exact rfl;assumption;exact dv;exact iB _);intro ce t)
   |fail)
  (try simp only[Exit.inBlock,Exit.then])
  (refine bS (gm rfl _ _ w.heap.size 0 _ _ rfl t.here gu rfl dv) rfl ?_)
  have b7:U<d.heap.size:=by rw[c8.o];omega
  refine⟨by rw[R.o];rfl,⟨?_,fun j a4=> ?_,fun j=> ?_⟩⟩
  ·exact xK bB.o af t
  ·rw[bF.o,t.far ad,af.cell (p:=⟨U,j,none⟩) b7]
   exact bu.o j
  ·rw[t.fz,af.frozen (p:=⟨U,j,none⟩) b7]
   exact bA.o j
 case inr.inr.inr.inr.inl=>
  have y:factN l i=rG (factN l G.toNat) (factN l X.toNat):=by have:=bg.o;simpa using this
  have a5:=bE.o G.toNat (by simp[bU]);have b9:=bE.o X.toNat (by simp[bU]);have ae:=tK a2 el.o (.inr rfl);have b8:0<=G/\0<=X:=by have s:=co.o;unfold dG at s;rw[ap ak,ap ak,au ak]at s;simp only[dg]at s;have h:=s.1.2;have A:=s.2;unfold bM at h A;simp at h A;omega
  obtain⟨c,rfl⟩:∃c:Nat,G=c:=⟨G.toNat,ad⟩;obtain⟨B,rfl⟩:∃B:Nat,X=B:=⟨X.toNat,ad⟩;simp only[iL]at y a5 b9 ae;have bF:Hid (bU ⟨4,sym,(c:Nat),(B:Nat)⟩=[c,B]):=by unfold Hid;simp[bU]
  have R:=ah y;have a1:(c:Int)<l.length:=ad;have fg:(B:Int)<l.length:=ad;have er:(0:Int)<=c:=ad;have fl:(0:Int)<=B:=ad;have O:=e.o.lU;have aq:=(f.o.cell (p:=⟨U,c,none⟩) O).trans (e.o.ups c ad);have a7:=(f.o.cell (p:=⟨U,B,none⟩) O).trans (e.o.ups B ad);have ci:=(f.o.frozen (p:=⟨U,c,none⟩) O).trans (e.o.uthere c ad);have cl:=(f.o.frozen (p:=⟨U,B,none⟩) O).trans (e.o.uthere B ad);have H:fm m (m.setCell ⟨U,c,none⟩ (.int .i64 (i:Nat))) U c (.int .i64 (i:Nat)):=lO (k:=0) aq;have N:w.heap.size+1≠U:=ad;have d6:=(dB (w:=m) (a:=⟨P,2,none⟩) (H.block P e.o.pu)).trans bq;have d7:=(dB (w:=m) (a:=⟨w.heap.size+1,2,none⟩) (H.block _ N)).trans al;have d8:=(dB (w:=m) (a:=⟨w.heap.size+1,3,none⟩) (H.block _ N)).trans a6;have ea:=(H.other B (fun o=>ae o.symm)).trans a7;have eb:=(H.frozen B).trans cl;obtain⟨ch,ba⟩:=aj (m.setCell ⟨U,c,none⟩ (.int .i64 (i:Nat)));have q:=H;rw[<-ba]at q;have b5:=(q.other B (fun o=>ae o.symm)).trans a7;obtain⟨C,W⟩:=aj (ch.setCell ⟨U,B,none⟩ (.int .i64 (i:Nat)));have g:fm ch C U B (.int .i64 (i:Nat)):=by rw[W];exact lO (k:=0) b5
  obtain⟨bb,D⟩:=aj (World.drew C);obtain⟨d,r⟩:=aj (World.drew bb);have T:∀x,d.cell? x=C.cell? x:=fun x=>by rw[r,D];simp
  have Y:∀x,d.frozen? x=C.frozen? x:=fun x=>by rw[r,D];simp
  have M:d.heap=C.heap:=by rw[r,D];rfl
  have S:∀k,k≠U->d.heap[k]?=m.heap[k]?:=fun k h=>by rw[M];exact(g.block k h).trans (q.block k h)
  have a0:w.grownBy d (some U):=by
   refine⟨?_,?_,?_,?_,fun k h A=>(S k (fun o=>A (by rw[o]))).trans (f.o.block k h)⟩
   ·rw[r,D];exact g.os.trans (q.os.trans f.o.os)
   ·rw[r,D];exact g.tape.trans (q.tape.trans f.o.tape)
   ·rw[r,D];exact g.output.trans (q.output.trans f.o.output)
   ·rw[M];have h:=g.size;have A:=q.size;omega
  have a3:∀j,d.cell? ⟨U,j,none⟩=if j∈[c,B]then some (.int .i64 (i:Nat))else w.cell? ⟨U,j,none⟩:=fun j=>by
   rw[T];by_cases a9:j=B
   ·subst a9;rw[g.here,au ak]
   ·rw[g.other j a9]
    by_cases V:j=c
    ·subst V;rw[q.here,au ak]
    ·rw[q.other j V,ap (by simp[V,a9])]
     exact f.o.cell (p:=⟨U,j,none⟩) e.o.lU
  have av:∀j,d.frozen? ⟨U,j,none⟩=w.frozen? ⟨U,j,none⟩:=fun j=>by rw[Y,g.frozen,q.frozen];exact f.o.frozen (p:=⟨U,j,none⟩) e.o.lU
  have ao:d.there w.heap.size 0 34:=fun j a4=>by have s:=(g.row.there (q.row.there cp.o)) j a4;exact⟨by rw[T];exact s.1,by rw[Y];exact s.2⟩
  have z:∀(u K:Nat) (v:Value),u≠U->m.cell? ⟨u,K,none⟩=some v->d.cell? ⟨u,K,none⟩=some v:=fun u K v h A=>
   (dB (w:=m) (w':=d) (a:=⟨u,K,none⟩) (S u h)).trans A
  have Q:d.rangeAt F (c*34) (factRow (factN l c)):=fun j v ag=>z F _ _ e.o.fu ((f.o.cell (p:=⟨F,c*34+j,none⟩) e.o.lF).trans (e.o.facts c ad j v ag));have an:d.rangeAt F (B*34) (factRow (factN l B)):=fun j v ag=>z F _ _ e.o.fu ((f.o.cell (p:=⟨F,B*34+j,none⟩) e.o.lF).trans (e.o.facts B ad j v ag));have dz:=z _ _ _ N bt;have J:=z _ _ _ N al;have aa:=z _ _ _ N a6;have I:=z P 1 _ e.o.pu bo;have cc:d.heap.size=w.heap.size+2:=by rw[M,g.size,q.size];exact d5
  obtain⟨b0,bu,bA,bB,bZ,bw,bz,c7,c8,bi⟩:=kB (Lj (factN l c) (factN l B) (kA a2 c0 ad) (kA a2 c0 ad) d) a3 av a0 ao I J aa cc Q;have c9:=ah an;unfold iA at b0;clear y a5 b9 b8 H q g T Y M S a0 a3 av ao z b5 dz I J aa cc Q an d2 bo;go_wp2_with(first
   |(rw[<-L];clear L)
   |(rw[<-E];clear E bc bd be bf bm)
   |fail)
  clear bt c3;go_region
  clear aq a7 ci cl d6 d7 d8 ea eb al a6 bq ae;rw[<-ba,<-W,<-D];clear ba W D;go_wp2_with fail
  have I:=bw.o;have J:=bz.o;have aa:=c7.o;have Q:=bi.o;have an:=c9.o;refine FK 12 ay ay ?_;change wpStill _ _ (World.drew bb) (fun b1=>wpList _ _ _ _ b1 (World.drew bb)) _ _;rw[<-r];clear r;simp only[lr,mf,FL,List.drop_zero];repeat(first|((with_reducible apply xH (ty:=192));exact rfl;exact rfl;exact rfl;assumption;exact gu;exact rfl;exact dv)|still_step)
  try refine wpStill_nil ?_
  clear I J aa Q an;go_wp2_with fail
  refine b0.o.mono ?_;rintro o fN ⟨rfl,af⟩;have fz:=gn bZ.o af;go_wp2_with(first
   |(((with_reducible apply cT (ty:=192));exact rfl;exact rfl;exact rfl;exact rfl;assumption;exact dv;exact iB _);intro ce t)
   |fail)
  (try simp only[Exit.inBlock,Exit.then])
  (refine bS (gm rfl _ _ w.heap.size 0 _ _ rfl t.here gu rfl dv) rfl ?_)
  have b7:U<d.heap.size:=by rw[c8.o];omega
  refine⟨by rw[R.o];rfl,⟨?_,fun j a4=> ?_,fun j=> ?_⟩⟩
  ·exact xK bB.o af t
  ·rw[bF.o,t.far ad,af.cell (p:=⟨U,j,none⟩) b7]
   exact bu.o j
  ·rw[t.fz,af.frozen (p:=⟨U,j,none⟩) b7]
   exact bA.o j
 case inr.inr.inr.inr.inr=>
  have y:factN l i=⟨false,true,(factN l G.toNat).f,(factN l G.toNat).l⟩:=by have:=bg.o;simpa using this
  have a5:=bE.o G.toNat (by simp[bU]);have b8:0<=G:=by have s:=co.o;unfold dG at s;rw[ap ak,ap ak,ap ak,au ak]at s;simp only[dg]at s;have h:=s.1.2;unfold bM at h;simp at h;omega
  obtain⟨c,rfl⟩:∃c:Nat,G=c:=⟨G.toNat,ad⟩;simp only[iL]at y a5;have bF:Hid (bU ⟨5,sym,(c:Nat),X⟩=[c]):=by unfold Hid;simp[bU]
  have R:=ah y;have a1:(c:Int)<l.length:=ad;have er:(0:Int)<=c:=ad;have O:=e.o.lU;have aq:=(f.o.cell (p:=⟨U,c,none⟩) O).trans (e.o.ups c ad);have ci:=(f.o.frozen (p:=⟨U,c,none⟩) O).trans (e.o.uthere c ad);have N:w.heap.size+1≠U:=ad;obtain⟨C,W⟩:=aj (m.setCell ⟨U,c,none⟩ (.int .i64 (i:Nat)));have g:fm m C U c (.int .i64 (i:Nat)):=by rw[W];exact lO (k:=0) aq
  obtain⟨d,r⟩:=aj (World.drew C);have T:∀x,d.cell? x=C.cell? x:=fun x=>by rw[r];simp
  have Y:∀x,d.frozen? x=C.frozen? x:=fun x=>by rw[r];simp
  have M:d.heap=C.heap:=by rw[r];rfl
  have S:∀k,k≠U->d.heap[k]?=m.heap[k]?:=fun k h=>by rw[M];exact g.block k h
  have a0:w.grownBy d (some U):=by
   refine⟨?_,?_,?_,?_,fun k h A=>(S k (fun o=>A (by rw[o]))).trans (f.o.block k h)⟩
   ·rw[r];exact g.os.trans f.o.os
   ·rw[r];exact g.tape.trans f.o.tape
   ·rw[r];exact g.output.trans f.o.output
   ·rw[M];have h:=g.size;omega
  have a3:∀j,d.cell? ⟨U,j,none⟩=if j∈[c]then some (.int .i64 (i:Nat))else w.cell? ⟨U,j,none⟩:=fun j=>by
   rw[T];by_cases V:j=c
   ·subst V;rw[g.here,au ak]
   ·rw[g.other j V,ap (by simp[V])]
    exact f.o.cell (p:=⟨U,j,none⟩) e.o.lU
  have av:∀j,d.frozen? ⟨U,j,none⟩=w.frozen? ⟨U,j,none⟩:=fun j=>by rw[Y,g.frozen];exact f.o.frozen (p:=⟨U,j,none⟩) e.o.lU
  have ao:d.there w.heap.size 0 34:=fun j a4=>by have s:=(g.row.there cp.o) j a4;exact⟨by rw[T];exact s.1,by rw[Y];exact s.2⟩
  have z:∀(u K:Nat) (v:Value),u≠U->m.cell? ⟨u,K,none⟩=some v->d.cell? ⟨u,K,none⟩=some v:=fun u K v h A=>
   (dB (w:=m) (w':=d) (a:=⟨u,K,none⟩) (S u h)).trans A
  have Q:d.rangeAt F (c*34) (factRow (factN l c)):=fun j v ag=>z F _ _ e.o.fu ((f.o.cell (p:=⟨F,c*34+j,none⟩) e.o.lF).trans (e.o.facts c ad j v ag));have J:=z _ _ _ N al;have I:=z P 1 _ e.o.pu bo;obtain⟨bu,bA,bB,bZ,bw,bz,bi⟩:=xL a3 av a0 ao I J Q;clear y a5 b8 g T Y M S a0 a3 av ao z I J Q d2 bo;go_wp2_with(first
   |(rw[<-L];clear L)
   |(rw[<-E];clear E bc bd be bf bm)
   |(rw[<-W];clear W bt c3 al a6 bq aq ci)
   |fail)
  have I:=bw.o;have J:=bz.o;have fv:d.rangeAt F (c*34+2) (setRow (factN l c).f):=jW bi.o;have fx:d.rangeAt F (c*34+18) (setRow (factN l c).l):=mH bi.o;refine FK 14 ay ay ?_;change wpStill _ _ (World.drew C) (fun b1=>wpList _ _ _ _ b1 (World.drew C)) _ _;rw[<-r];clear r;simp only[lr,mf,FL,List.drop_zero];repeat(first|((with_reducible apply xH (ty:=190));exact rfl;exact rfl;exact rfl;assumption;exact kn;exact rfl;exact fC)|still_step)
  try refine wpStill_nil ?_
  clear I J fv fx;have gd:=bZ.o;go_wp2_with(first
   |(first|((with_reducible apply nR);exact rfl;exact rfl;exact rfl)|((with_reducible apply nU);exact rfl;exact rfl;exact rfl)|((with_reducible apply nS);exact rfl;exact rfl;exact rfl)|((with_reducible apply nT);exact rfl;exact rfl;exact rfl))
   |(((with_reducible apply cT (ty:=192));exact rfl;exact rfl;exact rfl;exact rfl;assumption;exact dv;exact iB _);intro ce t)
   |fail)
  (try simp only[Exit.inBlock,Exit.then])
  (refine bS (gm rfl _ _ w.heap.size 0 _ _ rfl t.here gu rfl dv) rfl ?_)
  refine⟨by rw[R.o];rfl,⟨xK bB.o (aA _ _) t,fun j a4=> ?_,fun j=> ?_⟩⟩
  ·rw[bF.o,t.far ad]
   exact bu.o j
  ·rw[t.fz]
   exact bA.o j
theorem gB{l:List ar}(c:cw l=0):eu l/\0<l.length:=by
 unfold cw at c;split at c
 ·omega
 ·split at c
  ·omega
  ·rename_i d
   have hF:=Ie (by simpa using d);exact⟨hF,by have:=hF.ne;cases l with
    |nil=>exact absurd rfl this
    |cons a b=>simp⟩
theorem rK(z:List Value){n i j:Nat}(d:i<n)(a:j<z.length):(madeCells z.toArray (n*z.length))[i*z.length+j]?=z[j]?:=by
 have b:i*z.length+j<n*z.length:=by have:(i+1)*z.length<=n*z.length:=Nat.mul_le_mul_right _ d;rw[Nat.add_mul]at this;omega
 unfold madeCells;rw[Array.getElem?_map,Array.getElem?_range,au b];have c:(i*z.length+j) % z.length=j:=by rw[Nat.mul_comm,Nat.mul_add_mod,Nat.mod_eq_of_lt a]
 simp[c,a]
theorem uD{w:World}{p:Addr}{v:Value}(a:w.cell? p=some v)(b:Obj):(w.alloc b).cell? p=some v:=by rw[World.cell?_alloc_lt _ _ _ (qQ w p a)];exact a
structure jx(w:World)(F U:Nat)(l:List ar):Prop where
 lF:F<w.heap.size
 lU:U<w.heap.size
 facts:∀i,i<l.length->w.rangeAt F (i*34) (factRow (factN l i))
 ups:∀j,j<l.length->w.cell? ⟨U,j,none⟩=some (.int .i64 (aboveV l l.length j))
theorem jx.below{w w':World}{F U:Nat}{l:List ar}(a:jx w F U l)(b:Below w.heap.size w w'):jx w' F U l:=
 ⟨eR a.lF b.size,eR a.lU b.size,fun i c=>gA (a.facts i c) b,fun j d=>(b.cell (p:=⟨U,j,none⟩) a.lU).trans (a.ups j d)⟩
theorem CL:(prog.info? 185).map (·.size)=some 3:=ay
theorem Lp(a b c:Value)(e:a.oneCell'=true:=by rfl)(f:b.oneCell'=true:=by rfl)(g:c.oneCell'=true:=by rfl):∀v∈[a,b,c],v.oneCell'=true:=by intro v d;simp at d;rcases d with rfl|rfl|rfl<;>assumption
theorem Lq{P:Program}{fn:Func}{p t:Tmp}{ty:TypeId}(a:fn.results=#[.cell p ty,.tmp t])(tmps:Array Value)(w:World)(b o:Nat)(cs:List Value)(d:TypeDesc)
 (g:tmps.getD p undef=.pointer (some ⟨b,o,none⟩)) (c:w.rangeAt b o cs)
 (i:P.underlying ty=some d) (e:d.isRow=true) (f:(P.info? ty).map (·.size)=some cs.length):
 (results fn tmps).run P w=.ok (.tuple #[.agg cs.toArray,tmps.getD t undef]) w:=by
 have h:tmps[p]?.getD undef=.pointer (some ⟨b,o,none⟩):=by simpa using g
 simp[results,a,h,asAddr,FJ w b o ty cs d c i e f]
theorem Lr{P:Program}(w:World)(b o:Nat)(cs:List Value)(c:w.there b o cs.length)(d:∀v∈cs,v.oneCell'=true):(storeCells ⟨b,o,none⟩ cs).run P w=.ok () (w.setCells b o cs):=by have:=run_storeCells_cells (P:=P) b o cs 0 w (fun j a=>by simpa using(c j a).1) (fun j a=>by simpa using(c j a).2) (fun v e=>d v e);simpa using this
theorem Ls{w:World}{b o b' o':Nat}{cs:List Value}{v:Value}(c:w.cell? ⟨b',o',none⟩=some v)(d:b'≠b):(w.setCells b o cs).cell? ⟨b',o',none⟩=some v:=
 (World.cell?_setCells_out b cs o w ⟨b',o',none⟩ (fun a _=>absurd a d)).trans c
structure pj(w2 wz:World)(P F U:Nat)(no:Option Addr)(nc n:Nat)(M1 M2:Array Value):Prop where
 base:Below w2.heap.size w2 wz
 hP:w2.heap.size<=P
 hF:w2.heap.size<=F
 hU:w2.heap.size<=U
 pf:P≠F
 pu:P≠U
 fu:F≠U
 p:wz.heap[P]?=some (.cells #[.slice no n nc,.slice (some ⟨F,0,none⟩) n n,.slice (some ⟨U,0,none⟩) n n] 185)
 f:wz.heap[F]?=some (.cells M1 192)
 u:wz.heap[U]?=some (.cells M2 3)
theorem qk(d:World)(a b c:Obj):Below d.heap.size d (World.drew (((d.alloc a).alloc b).alloc c))/\(World.drew (((d.alloc a).alloc b).alloc c)).heap[d.heap.size]?=some a/\(World.drew (((d.alloc a).alloc b).alloc c)).heap[d.heap.size+1]?=some b/\(World.drew (((d.alloc a).alloc b).alloc c)).heap[d.heap.size+1+1]?=some c:=by
 have g:=aC d a;have e:=aC (d.alloc a) b;have f:=aC ((d.alloc a).alloc b) c;simp only[bI]at e f;refine⟨((az.alloc ak _).alloc aO _).drew,?_,?_,f⟩
 ·show(((d.alloc a).alloc b).alloc c).heap[d.heap.size]?=some a
  rw[bH _ _ _ aO,bH _ _ _ ak];exact g
 ·show(((d.alloc a).alloc b).alloc c).heap[d.heap.size+1]?=some b
  rw[bH _ _ _ ak];exact e
theorem Lt{l:List ar}(hF:eu l){k:Nat}{n:ar}(e:l[k]?=some n){j:Nat}(p:j<l.length):aboveV l (k+1) j=if j∈bU n then(k:Int)else aboveV l k j:=by
 have q:=(aP.1 e).1;have h:=iM l 0 k n hF.ok e;rw[cE]at h;unfold aboveV;by_cases b:j∈bU n
 ·have a:=lz h j b
  have c:=oI hF e b;rw[au b,ap ad,au ad,c]
 ·rw[ap b]
  by_cases a:j=l.length-1
  ·rw[au a,au a]
  ·rw[ap a,ap a]
   obtain⟨i,m,d,g,_,o⟩:=wj hF (j:=j) ad;have r:gx l j≠k:=fun f=>by
    rw[o]at f;subst f;rw[e]at d;injection d with d
    rw[<-d]at g;exact b g
   by_cases c:gx l j<k
   ·rw[au ad,au c]
   ·rw[ap ad,ap c]
theorem lR.next{t w w1 s:World}{P F U:Nat}{no:Option Addr}{A:Nat}{l:List ar}{k:Nat}{n:ar}(B:eu l)(z:l[k]?=some n)(c:lR t w P F U no A l k)(e:uC w w1 U l k n)(d:eX w1 s F (k*34) (factRow (factN l k))):lR t s P F U no A l (k+1):=by
 have G:=(aP.1 z).1;have m:=e.grown.size;have r:∀b o,b≠U->b≠F->b<w.heap.size->s.cell? ⟨b,o,none⟩=w.cell? ⟨b,o,none⟩:=fun b o q g u=>by rw[d.far g];exact dB (w:=w) (w':=w1) (a:=⟨b,o,none⟩) (e.grown.block b u aO)
 have x:∀o,w1.cell? ⟨F,o,none⟩=w.cell? ⟨F,o,none⟩:=fun o=>dB (w:=w) (w':=w1) (a:=⟨F,o,none⟩) (e.grown.block F c.lF (by simp;exact c.fu));have E:∀o,w1.frozen? ⟨F,o,none⟩=w.frozen? ⟨F,o,none⟩:=fun o=>m8 (w:=w) (w':=w1) (a:=⟨F,o,none⟩) (e.grown.block F c.lF (by simp;exact c.fu));refine⟨⟨?_,?_,?_,?_,fun b C=> ?_⟩,c.hP,c.hF,c.hU,?_,?_,?_,c.pf,c.pu,c.fu,?_,?_,?_,fun i y=> ?_,fun i y j f=> ?_,fun j f=> ?_,fun j f=> ?_⟩
 ·exact d.os.trans (e.grown.os.trans c.base.os)
 ·exact d.tape.trans (e.grown.tape.trans c.base.tape)
 ·exact d.output.trans (e.grown.output.trans c.base.output)
 ·rw[d.size];exact aR c.base.size m
 ·have q:=c.hU;have g:=c.hF;have u:=c.base.size
  exact(d.block b ad).trans ((e.grown.block b ad aO).trans (c.base.block b C))
 ·rw[d.size];exact eR c.lP m
 ·rw[d.size];exact eR c.lF m
 ·rw[d.size];exact eR c.lU m
 ·rw[r P 0 c.pu c.pf c.lP];exact c.p0
 ·rw[r P 1 c.pu c.pf c.lP];exact c.p1
 ·rw[r P 2 c.pu c.pf c.lP];exact c.p2
 ·by_cases p:i=k
  ·subst p;exact d.here
  ·refine d.range (b':=F) (o':=i*34) (fun j v D=> ?_) (.inr (.inl ?_))
   ·rw[x];exact c.facts i ad j v D
   ·rw[rH];omega
 ·refine d.there (b':=F) (o':=i*34) (n:=34) (fun j f=> ?_) j f
  obtain⟨q,g⟩:=c.fthere i y j f;exact⟨by rw[x];exact q,by rw[E];exact g⟩
 ·rw[d.far (fun p=>c.fu p.symm),e.here j f,Lt B z f,c.ups j f]
  by_cases h:j∈bU n
  ·rw[au h,au h]
  ·rw[ap h,ap h]
 ·rw[d.fz,e.frozen];exact c.uthere j f
theorem lR.drew{b w:World}{P F U:Nat}{no:Option Addr}{c:Nat}{l:List ar}{k:Nat}(a:lR b w P F U no c l k):lR b w.drew P F U no c l k:=
 ⟨a.base.drew,a.hP,a.hF,a.hU,a.lP,a.lF,a.lU,a.pf,a.pu,a.fu,a.p0,a.p1,a.p2,a.facts,a.fthere,a.ups,a.uthere⟩
theorem Lu:∀args a,(callFunc 169 args).run prog a=.ok (.enter 169 args) a:=fun _ _=>rfl
theorem Lv(l:List ar)(j:Nat):aboveV l 0 j=if j=l.length-1 then-1 else 0:=by unfold aboveV;simp
theorem Lw{d q e r:World}{P F U:Nat}{no:Option Addr}{p:Nat}{l:List ar}{h m:Array Value}(C:0<l.length)(o:Below d.heap.size d q)(a:pj q e P F U no p l.length h m)
 (s:h=madeCells (factRow jw).toArray (l.length*(factRow jw).length)) (t:m=madeCells [Value.int .i64 0].toArray (l.length*[Value.int .i64 0].length))
 (b:fm e r U (l.length-1) (.int .i64 (-1))):lR d r P F U no p l 0:=by
 have v:=o.size;have y:=aN a.p;have x:=aN a.f;have z:=aN a.u;have u:Below d.heap.size d e:=o.trans (a.base.mono v);have A:=a.hP;have hF:=a.hF;have B:=a.hU;have w:∀j,j<l.length->e.cell? ⟨U,j,none⟩=some (.int .i64 0):=fun j c=>by rw[ai j a.u,t];have:=rK [Value.int .i64 0] (n:=l.length) (i:=j) (j:=0) c ak;simpa using this
 refine⟨b.row.below u ad,ad,ad,ad,by rw[b.size];exact y,by rw[b.size];exact x,by rw[b.size];exact z,a.pf,a.pu,a.fu,?_,?_,?_,fun i g=>absurd g (Nat.not_lt_zero _),fun i g j c=> ?_,fun j c=> ?_,fun j c=> ?_⟩
 ·rw[b.row.far a.pu];exact ai 0 a.p
 ·rw[b.row.far a.pu];exact ai 1 a.p
 ·rw[b.row.far a.pu];exact ai 2 a.p
 ·refine⟨?_,?_⟩
  ·rw[b.row.far a.fu,ai _ a.f,s]
   have:=rK (factRow jw) (n:=l.length) (i:=i) (j:=j) g (by rw[rH];exact c);rw[rH]at this;rw[rH,this];rw[aF (by rw[rH];exact c)];rfl
  ·rw[b.row.fz]
   exact aQ a.f _
 ·rw[Lv]
  by_cases f:j=l.length-1
  ·subst f;rw[au rfl];exact b.here
  ·rw[ap f,b.other j f];exact w j c
 ·rw[b.frozen]
  exact aQ a.u _
def gS(no:Option Addr)(a n F U:Nat):Value:=.agg #[.slice no n a,.slice (some ⟨F,0,none⟩) n n,.slice (some ⟨U,0,none⟩) n n]
def Lx(l:List ar)(no:Option Addr)(b:Nat)(w:World)(a:Ending)(w':World):Prop:=∃F U,a=.returned (.tuple #[gS no b l.length F U,.bool true])/\jx w' F U l/\Below w.heap.size w w'
theorem rL(l:List ar)(no:Option Addr)(e:Nat)(w:World)(ab:cw l=0)(b4:l.length<=60)(O:di w no e l)(bi:∀n∈l,n.sym.length<=1048576):
 Calls prog 108 #[.agg #[.slice no l.length e]] w (Lx l no e w):=by
 have b1:=O.2.2.1;unfold maxLen at b1;have c1:=O.2.1;obtain⟨w1,K⟩:=aj ((w.alloc (.cells #[.slice no l.length e] 65)).alloc (.cells #[.slice none 0 0,.slice none 0 0,.slice none 0 0] 185));have Z:Below w.heap.size w w1:=by rw[K];exact az.alloc ak _
 have aa:w1.heap[w.heap.size]?=some (.cells #[.slice no l.length e] 65):=by rw[K];exact(bH _ _ _ ak).trans (aC w _)
 have N:w1.heap[w.heap.size+1]?=some (.cells #[.slice none 0 0,.slice none 0 0,.slice none 0 0] 185):=by rw[K];have:=aC (w.alloc (.cells #[.slice no l.length e] 65)) (.cells #[.slice none 0 0,.slice none 0 0,.slice none 0 0] 185);rwa[bI]at this
 have bb:=ai 0 aa;have cl:w1.heap.size=w.heap.size+2:=by rw[K];simp
 have ao:=tm l no e w1 (O.below Z) bi;rw[ab]at ao;obtain⟨bu,cu,bz,a4,ba⟩:=ku O aa N Z ao;obtain⟨g,af⟩:=aj (madeCells (factRow jw).toArray (l.length*(factRow jw).length));obtain⟨h,ag⟩:=aj (madeCells [Value.int .i64 0].toArray (l.length*[Value.int .i64 0].length));obtain⟨a3,bf,W⟩:∃i,prog.info? 192=some i/\(i.zero=some (iA jw)/\i.size=34/\i.bytes=264):=by obtain⟨i,H,V⟩:=mb.1 (show(prog.info? 192).map (fun i=>(i.zero,i.size,i.bytes))=some (some (iA jw),34,264) by kernel_rfl);simp only[pD]at V;exact⟨i,H,V.1,V.2.1,V.2.2⟩
 have I:∀f,(Instr.makeSlice 183 (.int .i64 (l.length:Int)) (.int .i64 (l.length:Int))).run prog f=.ok (.slice (some ⟨f.heap.size,0,none⟩) l.length l.length) (f.alloc (.cells g 192)):=fun f=>by have:=sX (P:=prog) f 183 192 a3 (iA jw) underlying183 bf W.1 .i64 .i64 l.length l.length ad ad (by rw[W.2.2];omega) ad;simp only[iL,W.2.1]at this;rw[this,af];rfl
 obtain⟨b7,H,bm,bo,bq⟩:=cL lu;have J:∀f,(Instr.makeSlice 53 (.int .i64 (l.length:Int)) (.int .i64 (l.length:Int))).run prog f=.ok (.slice (some ⟨f.heap.size,0,none⟩) l.length l.length) (f.alloc (.cells h 3)):=fun f=>by have:=run_make_row (P:=prog) 53 3 b7 (.int .i64 0) ke H bm bo rfl .i64 .i64 l.length (by rw[bq];omega) ad f;rw[this,ag,vJ,yY]
 obtain⟨bA,a7⟩:=aE af ag;have ae:=ab;clear O aa N Z ao af ag bf W H bm bo bq bi ab;go_enter func108,ntmps108
 go_wp2_with fail
 rw[<-K];clear K;refine ba.o.mono ?_;rintro bF c ⟨rfl,R⟩;have y:=(R.cell (p:=⟨w.heap.size,0,none⟩) (by rw[cl];show w.heap.size<_;omega)).trans bb;have A:w.heap.size+2<=c.heap.size:=by have:=R.size;omega
 have M:w.heap.size<c.heap.size:=ad;obtain⟨a5,a6,bB⟩:=bO R y A;clear bb R ba;go_wp2_with fail
 have D:c.drew.cell? ⟨w.heap.size,0,none⟩=some (.slice no l.length e):=by simpa using y
 go_region_held3(fun w'=>w'.cell? ⟨w.heap.size,0,none⟩=some (.slice no l.length e)) (first|exact D|exact uD dQ _|exact uD (uD (uD y _) _) _) (fail)
 have d:pj c (World.drew (((c.alloc (.cells g 192)).alloc (.cells h 3)).alloc (.cells #[.slice no l.length e,.slice (some ⟨c.heap.size,0,none⟩) l.length l.length,.slice (some ⟨c.heap.size+1,0,none⟩) l.length l.length] 185))) (c.heap.size+1+1) (c.heap.size) (c.heap.size+1) no e l.length g h:=by obtain⟨r,t,o,q⟩:=qk c (.cells g 192) (.cells h 3) (.cells #[.slice no l.length e,.slice (some ⟨c.heap.size,0,none⟩) l.length l.length,.slice (some ⟨c.heap.size+1,0,none⟩) l.length l.length] 185);exact⟨r,ad,ad,ad,ad,ad,ad,q,t,o⟩
 obtain⟨f,m⟩:=aj (World.drew (((c.alloc (.cells g 192)).alloc (.cells h 3)).alloc (.cells #[.slice no l.length e,.slice (some ⟨c.heap.size,0,none⟩) l.length l.length,.slice (some ⟨c.heap.size+1,0,none⟩) l.length l.length] 185)));rw[<-m]at d⊢;rename_i u;clear m A M D y I J u;generalize c.heap.size+1+1=P at d⊢;generalize c.heap.size+1=U at d⊢;generalize c.heap.size=F at d⊢;revert d;revert U;revert F;revert P;revert f;intro f P F U d;rotate_left;have d:pj c (World.drew (((c.alloc (.cells g 192)).alloc (.cells #[.slice no l.length e,.slice (some ⟨c.heap.size,0,none⟩) l.length l.length,.slice (some ⟨c.heap.size+1+1,0,none⟩) l.length l.length] 185)).alloc (.cells h 3))) (c.heap.size+1) (c.heap.size) (c.heap.size+1+1) no e l.length g h:=by obtain⟨r,t,o,q⟩:=qk c (.cells g 192) (.cells #[.slice no l.length e,.slice (some ⟨c.heap.size,0,none⟩) l.length l.length,.slice (some ⟨c.heap.size+1+1,0,none⟩) l.length l.length] 185) (.cells h 3);exact⟨r,ad,ad,ad,ad,ad,ad,o,t,q⟩
 obtain⟨f,m⟩:=aj (World.drew (((c.alloc (.cells g 192)).alloc (.cells #[.slice no l.length e,.slice (some ⟨c.heap.size,0,none⟩) l.length l.length,.slice (some ⟨c.heap.size+1+1,0,none⟩) l.length l.length] 185)).alloc (.cells h 3)));rw[<-m]at d⊢;rename_i u;clear m A M D y I J u;generalize c.heap.size+1+1=U at d⊢;generalize c.heap.size+1=P at d⊢;generalize c.heap.size=F at d⊢;revert d;revert U;revert F;revert P;revert f;intro f P F U d;rotate_left;have d:pj c (World.drew (((c.alloc (.cells h 3)).alloc (.cells g 192)).alloc (.cells #[.slice no l.length e,.slice (some ⟨c.heap.size+1,0,none⟩) l.length l.length,.slice (some ⟨c.heap.size,0,none⟩) l.length l.length] 185))) (c.heap.size+1+1) (c.heap.size+1) (c.heap.size) no e l.length g h:=by obtain⟨r,t,o,q⟩:=qk c (.cells h 3) (.cells g 192) (.cells #[.slice no l.length e,.slice (some ⟨c.heap.size+1,0,none⟩) l.length l.length,.slice (some ⟨c.heap.size,0,none⟩) l.length l.length] 185);exact⟨r,ad,ad,ad,ad,ad,ad,q,o,t⟩
 obtain⟨f,m⟩:=aj (World.drew (((c.alloc (.cells h 3)).alloc (.cells g 192)).alloc (.cells #[.slice no l.length e,.slice (some ⟨c.heap.size+1,0,none⟩) l.length l.length,.slice (some ⟨c.heap.size,0,none⟩) l.length l.length] 185)));rw[<-m]at d⊢;rename_i u;clear m A M D y I J u;generalize c.heap.size+1+1=P at d⊢;generalize c.heap.size+1=F at d⊢;generalize c.heap.size=U at d⊢;revert d;revert U;revert F;revert P;revert f;intro f P F U d;rotate_left;have d:pj c (World.drew (((c.alloc (.cells h 3)).alloc (.cells #[.slice no l.length e,.slice (some ⟨c.heap.size+1+1,0,none⟩) l.length l.length,.slice (some ⟨c.heap.size,0,none⟩) l.length l.length] 185)).alloc (.cells g 192))) (c.heap.size+1) (c.heap.size+1+1) (c.heap.size) no e l.length g h:=by obtain⟨r,t,o,q⟩:=qk c (.cells h 3) (.cells #[.slice no l.length e,.slice (some ⟨c.heap.size+1+1,0,none⟩) l.length l.length,.slice (some ⟨c.heap.size,0,none⟩) l.length l.length] 185) (.cells g 192);exact⟨r,ad,ad,ad,ad,ad,ad,o,q,t⟩
 obtain⟨f,m⟩:=aj (World.drew (((c.alloc (.cells h 3)).alloc (.cells #[.slice no l.length e,.slice (some ⟨c.heap.size+1+1,0,none⟩) l.length l.length,.slice (some ⟨c.heap.size,0,none⟩) l.length l.length] 185)).alloc (.cells g 192)));rw[<-m]at d⊢;rename_i u;clear m A M D y I J u;generalize c.heap.size+1+1=F at d⊢;generalize c.heap.size+1=P at d⊢;generalize c.heap.size=U at d⊢;revert d;revert U;revert F;revert P;revert f;intro f P F U d;rotate_left;have d:pj c (World.drew (((c.alloc (.cells #[.slice no l.length e,.slice (some ⟨c.heap.size+1,0,none⟩) l.length l.length,.slice (some ⟨c.heap.size+1+1,0,none⟩) l.length l.length] 185)).alloc (.cells g 192)).alloc (.cells h 3))) (c.heap.size) (c.heap.size+1) (c.heap.size+1+1) no e l.length g h:=by obtain⟨r,t,o,q⟩:=qk c (.cells #[.slice no l.length e,.slice (some ⟨c.heap.size+1,0,none⟩) l.length l.length,.slice (some ⟨c.heap.size+1+1,0,none⟩) l.length l.length] 185) (.cells g 192) (.cells h 3);exact⟨r,ad,ad,ad,ad,ad,ad,t,o,q⟩
 obtain⟨f,m⟩:=aj (World.drew (((c.alloc (.cells #[.slice no l.length e,.slice (some ⟨c.heap.size+1,0,none⟩) l.length l.length,.slice (some ⟨c.heap.size+1+1,0,none⟩) l.length l.length] 185)).alloc (.cells g 192)).alloc (.cells h 3)));rw[<-m]at d⊢;rename_i u;clear m A M D y I J u;generalize c.heap.size+1+1=U at d⊢;generalize c.heap.size+1=F at d⊢;generalize c.heap.size=P at d⊢;revert d;revert U;revert F;revert P;revert f;intro f P F U d;rotate_left;have d:pj c (World.drew (((c.alloc (.cells #[.slice no l.length e,.slice (some ⟨c.heap.size+1+1,0,none⟩) l.length l.length,.slice (some ⟨c.heap.size+1,0,none⟩) l.length l.length] 185)).alloc (.cells h 3)).alloc (.cells g 192))) (c.heap.size) (c.heap.size+1+1) (c.heap.size+1) no e l.length g h:=by obtain⟨r,t,o,q⟩:=qk c (.cells #[.slice no l.length e,.slice (some ⟨c.heap.size+1+1,0,none⟩) l.length l.length,.slice (some ⟨c.heap.size+1,0,none⟩) l.length l.length] 185) (.cells h 3) (.cells g 192);exact⟨r,ad,ad,ad,ad,ad,ad,t,q,o⟩
 obtain⟨f,m⟩:=aj (World.drew (((c.alloc (.cells #[.slice no l.length e,.slice (some ⟨c.heap.size+1+1,0,none⟩) l.length l.length,.slice (some ⟨c.heap.size+1,0,none⟩) l.length l.length] 185)).alloc (.cells h 3)).alloc (.cells g 192)));rw[<-m]at d⊢;rename_i u;clear m A M D y I J u;generalize c.heap.size+1+1=F at d⊢;generalize c.heap.size+1=U at d⊢;generalize c.heap.size=P at d⊢;revert d;revert U;revert F;revert P;revert f;intro f P F U d;rotate_left;all_goals
  have b5:0<l.length:=(gB ae).2;have cc:=aN d.p;have ce:=aN d.u;have A:=bB.o;have b2:=(d.base.cell (p:=⟨w.heap.size,0,none⟩) (by show w.heap.size<_;omega)).trans a6.o;have ch:=ai 2 d.p;have bt:f.cell? ⟨U,l.length-1,none⟩=some (.int .i64 0):=by rw[aZ _ _ (l.length-1) _ _ _ d.u,a7.o];have:=rK [Value.int .i64 0] (n:=l.length) (i:=l.length-1) (j:=0) ad ak;simpa using this
  have co:f.frozen? ⟨U,l.length-1,none⟩=false:=aQ d.u _;have a3:(l.length:Int)-1<(l.length:Int):=ad;have b8:(0:Int)<=l.length-1:=ad;have b9:((l.length:Int)-1).toNat=l.length-1:=ad;obtain⟨cq,a2⟩:=aj (f.setCell ⟨U,l.length-1,none⟩ (.int .i64 (-1)));have bd:fm f cq U (l.length-1) (.int .i64 (-1)):=by rw[a2];exact lO (k:=0) bt
  obtain⟨a9,C⟩:=aE bd d;clear bd d;go_wp2_with(first
   |(rw[<-a2];clear a2)
   |fail)
  clear b2 ch bt co a3 b8 b9 cc ce;have c2:=Lu;have bZ:Below w.heap.size w c:=a4.o.trans (a5.o.mono a4.o.size);go_loopw [7,29] (fun c6 i wr=>∃k:Nat,i=.int .i64 k/\k<=l.length/\Hid (lR w wr P F U no e l k)/\Below c.heap.size c wr) (fun _ i _=>l.length-(intOf i).toNat)
  case atStart=>exact⟨0,rfl,aK _,Lw b5 bZ C.o bA.o a7.o a9.o,a9.o.row.below C.o.base C.o.hU⟩
  case round=>
  obtain⟨k,rfl,c3,x,an⟩:=hrel;have aq:=(an.cell (p:=⟨w.heap.size,0,none⟩) (by show w.heap.size<_;omega)).trans a6.o;have cx:=ah aq;by_cases bg:k<l.length
  ·obtain⟨n,a0⟩:∃n,l[k]?=some n:=⟨_,aF bg⟩
   have b3:decide ((k:Int)<l.length)=true:=aM;have c5:(k:Int)<l.length:=ad;have c4:(0:Int)<=k:=ad;obtain⟨Q,L⟩:=aj (World.drew wr);have T:lR w Q P F U no e l k:=by rw[L];exact x.o.drew
   have be:Q.cell? ⟨w.heap.size,0,none⟩=some (.slice no l.length e):=by rw[L];simpa using aq
   have al:Below c.heap.size c Q:=by rw[L];exact an.drew
   have a1:=Lo w Q P F U w.heap.size no e l (gB ae).1 b4 k n a0 bu.o T (by have:=al.size;omega) be;unfold CK at a1;have S:=T.p1;obtain⟨z,Y,bE,B⟩:=cI T a1 a0 al;clear T a1 a0 aq be al;go_wp2_with fail
   rw[L]at S;have bw:=ah S;rw[L]at Y z B;clear L Q;have X:Hid (∀s,uC (World.drew wr) s U l k n->s.there F (k*34) 34/\s.cell? ⟨P,1,none⟩=some (.slice (some ⟨F,0,none⟩) l.length l.length)):=fun s E=>by
    refine⟨fun j av=> ?_,?_⟩
    ·obtain⟨o,q⟩:=z.o.fthere k bg j av
     have N:=E.grown.block F z.o.lF (by simp;exact z.o.fu);exact⟨by rw[dB (w:=wr.drew) (w':=s) (a:=⟨F,k*34+j,none⟩) N];exact o,by rw[m8 (w:=wr.drew) (w':=s) (a:=⟨F,k*34+j,none⟩) N];exact q⟩
    ·exact(dB (w:=wr.drew) (w':=s) (a:=⟨P,1,none⟩) (E.grown.block P z.o.lP (by simp;exact z.o.pu))).trans bw.o
   unfold iA at Y;have bc:=z.o.pf;go_region_held3(fun w'=>w'.cell? ⟨P,1,none⟩=some (.slice (some ⟨F,0,none⟩) l.length l.length)) (first|with_reducible exact S|((with_reducible refine Ls ?_ bc);assumption)|with_reducible assumption|exact(X.o _ dQ).2)
    ((first|(go_at_call 169;refine kP Y.o ?_;rintro bF s ⟨rfl,E⟩;have b6:=Lr (P:=prog) s F (k*34) (factRow (factN l k)) (X.o s E).1 (iB _))))
   have v:=xG (cs:=factRow (factN l k)) (X.o s E).1;have G:=ah E;clear b6 E bc;obtain⟨cp,bl⟩:=aj (s.setCells F (k*34) (factRow (factN l k)));rw[<-bl]at v⊢;clear bl
   go_wp2
   go_roundw
   case rel=>
    have c0:=C.o.hU;refine⟨k+1,aG,ad,z.o.next (gB ae).1 bE.o G.o v,?_⟩;refine v.below (a:=c) ⟨G.o.grown.os.trans B.o.os,G.o.grown.tape.trans B.o.tape,G.o.grown.output.trans B.o.output,aR B.o.size G.o.grown.size,fun b r=> ?_⟩ C.o.hF;exact(G.o.grown.block b (by have:=B.o.size;omega) aO).trans (B.o.block b r)
   case measure=>exact aH
  ·have b3:decide ((k:Int)<l.length)=false:=aJ
   obtain rfl:k=l.length:=ad;have cG:=x.o.p0;have S:=x.o.p1;have cN:=x.o.p2;have ci:wr.heap[w.heap.size+1]?=some (.cells #[.slice none 0 0,.slice none 0 0,.slice none 0 0] 185):=(an.block _ ad).trans ((a5.o.block _ ad).trans bz.o);have c7:wr.there (w.heap.size+1) 0 3:=mI (cs:=[.slice none 0 0,.slice none 0 0,.slice none 0 0]) (ty:=185) ci ak;go_wp2_with(first
    |((with_reducible apply cT (ty:=185));exact rfl;exact rfl;exact rfl;exact rfl;assumption;exact CL;exact Lp _ _ _;intro cp v)
    |fail)
   (try simp only[Exit.inBlock,Exit.then])
   refine bS (Lq rfl _ _ (w.heap.size+1) 0 _ _ rfl v.here underlying185 rfl CL) rfl ?_;have b0:=v.below x.o.base ad;refine⟨F,U,rfl,⟨by rw[v.size];exact x.o.lF,by rw[v.size];exact x.o.lU,fun i H=>v.range (x.o.facts i H) (.inl (by have:=C.o.hF;omega)),fun j av=> ?_⟩,b0⟩;rw[v.far (by have:=C.o.hU;omega)];exact x.o.ups j av
end Go.Proofs.YtbacloblanpghaaGreatDoor
