import Derived.Test.YtnadadbndcdolaaGreatDoorQas
set_option linter.unusedVariables false
set_option linter.unusedSimpArgs false
set_option maxRecDepth 100000
set_option maxHeartbeats 0
namespace Go.Proofs.YtnadadbndcdolaaGreatDoor
open Go.RowKit Tryz
theorem zi{P:Program}{e:Array Oper}{rest:List Oper}{c:Oper}{a:Act}{w:World}{Q:Act->Prop}(i:c.guard=none)(ty:TypeId)(x:Operand)(l:c.op=.load ty x)
 (b o:Nat) (n:a.eval x=.pointer (some ⟨b,o,none⟩)) (cs:List Value) (d:TypeDesc) (g:w.rangeAt b o cs)
 (m:P.underlying ty=some d) (h:d.isRow=true) (j:(P.info? ty).map (·.size)=some cs.length)
 (f:wpStill P e w Q rest (a.put c.dst (.agg cs.toArray))):wpStill P e w Q (c::rest) a:=by
 unfold wpStill;rw[ay (by simp[Region.wanted,i])];unfold Oper.still execOp;simp only[l,n,Instr.loadAt,Instr.sureAddr,BF,uF,BG,xT w b o ty cs d g m h j,Oper.stillUpon_value];exact f
def aboveV(l:List aj)(k j:Nat):Int:=if j=l.length-1 then-1 else if gL l j<k then(gL l j:Nat)else 0
structure mD(W0 w:World)(P F U:Nat)(no:Option Addr)(nc:Nat)(l:List aj)(k:Nat):Prop where
 base:Below W0.heap.size W0 w
 hP:W0.heap.size<=P
 hF:W0.heap.size<=F
 hU:W0.heap.size<=U
 lP:P<w.heap.size
 lF:F<w.heap.size
 lU:U<w.heap.size
 pf:P≠F
 pu:P≠U
 fu:F≠U
 p0:w.cell? ⟨P,0,none⟩=some (.slice no l.length nc)
 p1:w.cell? ⟨P,1,none⟩=some (.slice (some ⟨F,0,none⟩) l.length l.length)
 p2:w.cell? ⟨P,2,none⟩=some (.slice (some ⟨U,0,none⟩) l.length l.length)
 facts:∀i,i<k->w.rangeAt F (i*34) (factRow (factN l i))
 fthere:∀i,i<l.length->w.there F (i*34) 34
 ups:∀j,j<l.length->w.cell? ⟨U,j,none⟩=some (.int .i64 (aboveV l k j))
 uthere:∀j,j<l.length->w.frozen? ⟨U,j,none⟩=false
structure wh(w w':World)(U:Nat)(l:List aj)(i:Nat)(n:aj):Prop where
 grown:w.grownBy w' (some U)
 here:∀j,j<l.length->w'.cell? ⟨U,j,none⟩=if j∈bO n then some (.int .i64 (i:Nat))else w.cell? ⟨U,j,none⟩
 frozen:∀j,w'.frozen? ⟨U,j,none⟩=w.frozen? ⟨U,j,none⟩
theorem zj{w w':World}(a:Below w.heap.size w w')(row:Option Nat):w.grownBy w' row:=⟨a.os,a.tape,a.output,a.size,fun k b _=>a.block k b⟩
theorem zk{w w':World}{U:Nat}{l:List aj}{i:Nat}{n:aj}(a:Below w.heap.size w w')(b:U<w.heap.size)(c:bO n=[]):wh w w' U l i n:=
 ⟨zj a _,fun j d=>by rw[c,au ak];exact a.cell (p:=⟨U,j,none⟩) b,fun j=>a.frozen (p:=⟨U,j,none⟩) b⟩
theorem D8(a:World)(ty:TypeId):Below a.heap.size a (a.alloc (.cells #[.bool false,.bool false,.int .u64 0,.int .u64 0,.int .u64 0,.int .u64 0,.int .u64 0,.int .u64 0,.int .u64 0,.int .u64 0,.int .u64 0,.int .u64 0,.int .u64 0,.int .u64 0,.int .u64 0,.int .u64 0,.int .u64 0,.int .u64 0,.int .u64 0,.int .u64 0,.int .u64 0,.int .u64 0,.int .u64 0,.int .u64 0,.int .u64 0,.int .u64 0,.int .u64 0,.int .u64 0,.int .u64 0,.int .u64 0,.int .u64 0,.int .u64 0,.int .u64 0,.int .u64 0] ty))/\(a.alloc (.cells #[.bool false,.bool false,.int .u64 0,.int .u64 0,.int .u64 0,.int .u64 0,.int .u64 0,.int .u64 0,.int .u64 0,.int .u64 0,.int .u64 0,.int .u64 0,.int .u64 0,.int .u64 0,.int .u64 0,.int .u64 0,.int .u64 0,.int .u64 0,.int .u64 0,.int .u64 0,.int .u64 0,.int .u64 0,.int .u64 0,.int .u64 0,.int .u64 0,.int .u64 0,.int .u64 0,.int .u64 0,.int .u64 0,.int .u64 0,.int .u64 0,.int .u64 0,.int .u64 0,.int .u64 0] ty)).rangeAt a.heap.size 0 (factRow jQ)/\(a.alloc (.cells #[.bool false,.bool false,.int .u64 0,.int .u64 0,.int .u64 0,.int .u64 0,.int .u64 0,.int .u64 0,.int .u64 0,.int .u64 0,.int .u64 0,.int .u64 0,.int .u64 0,.int .u64 0,.int .u64 0,.int .u64 0,.int .u64 0,.int .u64 0,.int .u64 0,.int .u64 0,.int .u64 0,.int .u64 0,.int .u64 0,.int .u64 0,.int .u64 0,.int .u64 0,.int .u64 0,.int .u64 0,.int .u64 0,.int .u64 0,.int .u64 0,.int .u64 0,.int .u64 0,.int .u64 0] ty)).there a.heap.size 0 34/\(a.alloc (.cells #[.bool false,.bool false,.int .u64 0,.int .u64 0,.int .u64 0,.int .u64 0,.int .u64 0,.int .u64 0,.int .u64 0,.int .u64 0,.int .u64 0,.int .u64 0,.int .u64 0,.int .u64 0,.int .u64 0,.int .u64 0,.int .u64 0,.int .u64 0,.int .u64 0,.int .u64 0,.int .u64 0,.int .u64 0,.int .u64 0,.int .u64 0,.int .u64 0,.int .u64 0,.int .u64 0,.int .u64 0,.int .u64 0,.int .u64 0,.int .u64 0,.int .u64 0,.int .u64 0,.int .u64 0] ty)).heap.size=a.heap.size+1:=
 ⟨aG,ol (ty:=ty) (f:=(0,0)) (aB a _),jt (cs:=factRow jQ) (ty:=ty) (aB a _) (az _),ak⟩
theorem gN{w w':World}{b o:Nat}{cs:List Value}(c:w.rangeAt b o cs)(d:Below w.heap.size w w'):w'.rangeAt b o cs:=fun j v e=>by have a:=c j v e;rw[d.cell (p:=⟨b,o+j,none⟩) (nU w _ a)];exact a
theorem gD{w w':World}{b o n:Nat}(e:w.there b o n)(c:Below w.heap.size w w'):w'.there b o n:=fun j g=>by obtain⟨a,f⟩:=e j g;obtain⟨u,h⟩:=By.1 a;have d:=nU w _ h;exact⟨by rw[c.cell (p:=⟨b,o+j,none⟩) d];exact a,by rw[c.frozen (p:=⟨b,o+j,none⟩) d];exact f⟩
theorem zl{w d f e:World}{U i:Nat}{cs:List Value}(a:w.grownBy d (some U))(b:Below d.heap.size d f)(c:dU f e w.heap.size i cs):w.grownBy e (some U):=
 ⟨c.os.trans (b.os.trans a.os),c.tape.trans (b.tape.trans a.tape),c.output.trans (b.output.trans a.output),by rw[c.size];exact aJ a.size b.size,
   fun k g h=>(c.block k ad).trans ((b.block k (by have:=a.size;omega)).trans (a.block k g h))⟩
def D9(l:List aj)(i:Nat)(n:aj)(U:Nat)(w:World)(a:Ending)(w':World):Prop:=a=.returned (iR (factN l i))/\wh w w' U l i n
theorem MO(c1 w:World)(P F U ce:Nat)(no:Option Addr)(c7:Nat)(l:List aj)(a2:dP l)(cq:l.length<=60)(i:Nat)(n:aj)(bi:l[i]?=some n)(c4:cO c1 no c7 l)(ab:mD c1 w P F U no c7 l i)(e9:ce<w.heap.size)(eA:w.cell? ⟨ce,0,none⟩=some (.slice no l.length c7)):
 Calls prog 200 #[.int .i64 (i:Nat),.pointer (some ⟨ce,0,none⟩),.pointer (some ⟨P,0,none⟩)] w (D9 l i n U w):=by
 have fv:=(aL.1 bi).1;have cu:=iM l 0 i n a2.ok bi;rw[cD]at cu;have ci:=c4.below ab.base;have fb:=ci.2.2.1;unfold maxLen at fb;have fu:=ci.2.1;obtain⟨b,cx,rfl,cp,eU,eV,eZ,e0⟩:=ci.at bi;have fs:b<c1.heap.size:=by
  obtain⟨b',fy,m,cs,_⟩:=c4.2.2.2 ad;injection m with m
  injection m with e7 fr e8;clear e8
  rw[e7];exact cs
 have ez:=MN a2.ok bi;have cs:=mi cu;obtain⟨Z,eD,c8,eE⟩:=D8 w 224;obtain⟨eN,L⟩:=ar (w.alloc (.cells #[.bool false,.bool false,.int .u64 0,.int .u64 0,.int .u64 0,.int .u64 0,.int .u64 0,.int .u64 0,.int .u64 0,.int .u64 0,.int .u64 0,.int .u64 0,.int .u64 0,.int .u64 0,.int .u64 0,.int .u64 0,.int .u64 0,.int .u64 0,.int .u64 0,.int .u64 0,.int .u64 0,.int .u64 0,.int .u64 0,.int .u64 0,.int .u64 0,.int .u64 0,.int .u64 0,.int .u64 0,.int .u64 0,.int .u64 0,.int .u64 0,.int .u64 0,.int .u64 0,.int .u64 0] 224));rw[<-L]at Z eD c8 eE;obtain⟨o,H,c2⟩:=dF eN (.cells #[.int .i64 n.op,.string ⟨n.sym.toArray⟩,.int .i64 n.a,.int .i64 n.b] 102);have c9:o.heap.size=w.heap.size+2:=by rw[H];simp;omega
 have b3:o.heap[w.heap.size+1]?=some (.cells #[.int .i64 n.op,.string ⟨n.sym.toArray⟩,.int .i64 n.a,.int .i64 n.b] 102):=by have:=aB eN (.cells #[.int .i64 n.op,.string ⟨n.sym.toArray⟩,.int .i64 n.a,.int .i64 n.b] 102);rw[eE]at this;rw[H];exact this
 have bZ:Below w.heap.size w o:=Z.trans (c2.mono Z.size);have bt:=ai 0 b3;have cv:=ai 1 b3;have al:=ai 2 b3;have a6:=ai 3 b3;have fg:o.there w.heap.size 0 34:=gD c8 c2;have fw:(i:Int)<l.length:=ad;obtain⟨f,cd,e,bf,bC,cc,el⟩:=zm bZ fg ab ez cs cu bi;have c6:=(bZ.cell (p:=⟨P,0,none⟩) ab.lP).trans ab.p0;have bo:=(bZ.cell (p:=⟨P,1,none⟩) ab.lP).trans ab.p1;have bq:=(bZ.cell (p:=⟨P,2,none⟩) ab.lP).trans ab.p2;have bl:=(Z.cell (p:=⟨ce,0,none⟩) e9).trans eA;have bb:=(Z.cell (p:=⟨b,cx+i*4,none⟩) cp).trans eU;have bc:=(Z.cell (p:=⟨b,cx+i*4+1,none⟩) cp).trans eV;have bd:=(Z.cell (p:=⟨b,cx+i*4+2,none⟩) cp).trans eZ;have be:=(Z.cell (p:=⟨b,cx+i*4+3,none⟩) cp).trans e0;clear Z c2 eD c8 ab ez cs ci c4 eU eV eZ e0 eA b3 bZ cu bi;obtain⟨fz,sym,E,X⟩:=n;simp only at H bt cv al a6 bb bc bd be;go_enter func200,ntmps200
 rcases vg cc.o with m|m|m|m|m|m
 all_goals
  simp only at m;subst m
 case inl=>
  have y:factN l i=⟨true,false,0,0⟩:=by have:=bf.o;simpa using this
  have R:=ah y;clear y;go_wp2_with(first
   |(rw[<-L];clear L)
   |(rw[<-H];clear H bb bc bd be bl)
   |(first|((with_reducible apply oo);exact rfl;exact rfl;exact rfl)|((with_reducible apply ox);exact rfl;exact rfl;exact rfl)|((with_reducible apply ou);exact rfl;exact rfl;exact rfl)|((with_reducible apply ow);exact rfl;exact rfl;exact rfl))
   |(((with_reducible apply cQ (ty:=224));exact rfl;exact rfl;exact rfl;exact rfl;assumption;exact dB;exact iS _);intro b8 t)
   |fail)
  (try simp only[Exit.inBlock,Exit.then])
  (refine cg (gC rfl _ _ w.heap.size 0 _ _ rfl t.here gJ rfl dB) rfl ?_)
  exact⟨by rw[R.o];rfl,zk (t.below f.o (az _)) e.o.lU rfl⟩
 case inr.inl=>
  have y:factN l i=⟨false,true,0,0⟩:=by have:=bf.o;simpa using this
  have R:=ah y;clear y;go_wp2_with(first
   |(rw[<-L];clear L)
   |(rw[<-H];clear H bb bc bd be bl)
   |(first|((with_reducible apply oo);exact rfl;exact rfl;exact rfl)|((with_reducible apply ox);exact rfl;exact rfl;exact rfl)|((with_reducible apply ou);exact rfl;exact rfl;exact rfl)|((with_reducible apply ow);exact rfl;exact rfl;exact rfl))
   |(((with_reducible apply cQ (ty:=224));exact rfl;exact rfl;exact rfl;exact rfl;assumption;exact dB;exact iS _);intro b8 t)
   |fail)
  (try simp only[Exit.inBlock,Exit.then])
  (refine cg (gC rfl _ _ w.heap.size 0 _ _ rfl t.here gJ rfl dB) rfl ?_)
  exact⟨by rw[R.o];rfl,zk (t.below f.o (az _)) e.o.lU rfl⟩
 case inr.inr.inl=>
  have y:factN l i=⟨false,false,2^i,2^i⟩:=by have:=bf.o;simpa using this
  have R:=ah y;clear y;obtain⟨ch,b0,b1,er⟩:=D8 o 224;obtain⟨cF,c5⟩:=ar (o.alloc (.cells #[.bool false,.bool false,.int .u64 0,.int .u64 0,.int .u64 0,.int .u64 0,.int .u64 0,.int .u64 0,.int .u64 0,.int .u64 0,.int .u64 0,.int .u64 0,.int .u64 0,.int .u64 0,.int .u64 0,.int .u64 0,.int .u64 0,.int .u64 0,.int .u64 0,.int .u64 0,.int .u64 0,.int .u64 0,.int .u64 0,.int .u64 0,.int .u64 0,.int .u64 0,.int .u64 0,.int .u64 0,.int .u64 0,.int .u64 0,.int .u64 0,.int .u64 0,.int .u64 0,.int .u64 0] 224));rw[<-c5]at ch b0 b1 er;rw[c9]at b0 b1 er;have es:Below w.heap.size w cF:=f.o.trans (ch.mono ad);have ev:cF.there w.heap.size 0 34:=gD cd.o ch;have ew:=DY (w.heap.size+2) 2 0 i cF ad ap (b0 2 _ rfl) (b1 2 ap).2;obtain⟨e1,e3,eg,e2⟩:=cr es ev b0 b1;clear ch es ev b0 b1;go_wp2_with(first
   |(rw[<-L];clear L)
   |(rw[<-H];clear H bb bc bd be bl)
   |(rw[<-c5];clear c5)
   |fail)
  refine ew.mono ?_;rintro m ed ⟨rfl,bq,eB⟩;have cl:fE cF ed (w.heap.size+2) 2 (.int .u64 (jH 0 i:Nat)):=by rw[eB];exact mz (eg.o 2 _ rfl)
  have f4:=vY eg.o cl;have ex:=DY (w.heap.size+2) 18 0 i ed ad ap (f4 18 _ rfl) (by rw[cl.frozen];exact(e2.o 18 ap).2);obtain⟨em,ek⟩:=aD cl f4;clear eB cl f4 ew;go_wp2_with fail
  refine ex.mono ?_;rintro m fo ⟨rfl,fx,eC⟩;have co:fE ed fo (w.heap.size+2) 18 (.int .u64 (jH 0 i:Nat)):=by rw[eC];exact mz (ek.o 18 _ rfl)
  have f5:=vZ ek.o co;have t5:=co.row.there (em.o.row.there e3.o);have e4:=ah co;have en:jH 0 i=2^i:=by simp[jH]
  rw[en]at f5;simp only[jQ]at f5;clear eC co ex en;go_wp2_with(first
   |((with_reducible apply dj (ty:=224));exact rfl;exact rfl;exact rfl;assumption;exact gJ;exact rfl;exact dB)
   |(((with_reducible apply cQ (ty:=224));exact rfl;exact rfl;exact rfl;exact rfl;assumption;exact dB;exact iS _);intro b8 t)
   |fail)
  (try simp only[Exit.inBlock,Exit.then])
  (refine cg (gC rfl _ _ w.heap.size 0 _ _ rfl t.here gJ rfl dB) rfl ?_)
  exact⟨by rw[R.o];rfl,zk (t.below (e4.o.row.below (em.o.row.below e1.o ad) ad) (az _)) e.o.lU rfl⟩
 case inr.inr.inr.inl=>
  have y:factN l i=pT (factN l E.toNat) (factN l X.toNat):=by have:=bf.o;simpa using this
  have a5:=bC.o E.toNat (by simp[bO]);have b6:=bC.o X.toNat (by simp[bO]);have ae:=vk a2 el.o (.inl rfl);have b5:0<=E/\0<=X:=by have s:=cc.o;unfold dO at s;rw[au ak,au ak,ay ak]at s;simp only[cS]at s;have h:=s.1.2;have A:=s.2;unfold dy at h A;simp at h A;omega
  obtain⟨c,rfl⟩:∃c:Nat,E=c:=⟨E.toNat,ad⟩;obtain⟨B,rfl⟩:∃B:Nat,X=B:=⟨X.toNat,ad⟩;simp only[ph]at y a5 b6 ae;have bD:Hid (bO ⟨3,sym,(c:Nat),(B:Nat)⟩=[c,B]):=by unfold Hid;simp[bO]
  have R:=ah y;have a1:(c:Int)<l.length:=ad;have e5:(B:Int)<l.length:=ad;have eo:(0:Int)<=c:=ad;have e6:(0:Int)<=B:=ad;have O:=e.o.lU;have aq:=(f.o.cell (p:=⟨U,c,none⟩) O).trans (e.o.ups c ad);have a7:=(f.o.cell (p:=⟨U,B,none⟩) O).trans (e.o.ups B ad);have ca:=(f.o.frozen (p:=⟨U,c,none⟩) O).trans (e.o.uthere c ad);have cb:=(f.o.frozen (p:=⟨U,B,none⟩) O).trans (e.o.uthere B ad);have G:fE o (o.setCell ⟨U,c,none⟩ (.int .i64 (i:Nat))) U c (.int .i64 (i:Nat)):=mz (k:=0) aq;have N:w.heap.size+1≠U:=ad;have dr:=(dD (w:=o) (a:=⟨P,2,none⟩) (G.block P e.o.pu)).trans bq;have ds:=(dD (w:=o) (a:=⟨w.heap.size+1,2,none⟩) (G.block _ N)).trans al;have ea:=(dD (w:=o) (a:=⟨w.heap.size+1,3,none⟩) (G.block _ N)).trans a6;have eb:=(G.other B (fun m=>ae m.symm)).trans a7;have ec:=(G.frozen B).trans cb;obtain⟨b9,a9⟩:=ar (o.setCell ⟨U,c,none⟩ (.int .i64 (i:Nat)));have q:=G;rw[<-a9]at q;have b2:=(q.other B (fun m=>ae m.symm)).trans a7;obtain⟨C,W⟩:=ar (b9.setCell ⟨U,B,none⟩ (.int .i64 (i:Nat)));have g:fE b9 C U B (.int .i64 (i:Nat)):=by rw[W];exact mz (k:=0) b2
  obtain⟨ba,D⟩:=ar (World.drew C);obtain⟨d,r⟩:=ar (World.drew ba);have T:∀x,d.cell? x=C.cell? x:=fun x=>by rw[r,D];simp
  have Y:∀x,d.frozen? x=C.frozen? x:=fun x=>by rw[r,D];simp
  have M:d.heap=C.heap:=by rw[r,D];rfl
  have S:∀k,k≠U->d.heap[k]?=o.heap[k]?:=fun k h=>by rw[M];exact(g.block k h).trans (q.block k h)
  have a0:w.grownBy d (some U):=by
   refine⟨?_,?_,?_,?_,fun k h A=>(S k (fun m=>A (by rw[m]))).trans (f.o.block k h)⟩
   ·rw[r,D];exact g.os.trans (q.os.trans f.o.os)
   ·rw[r,D];exact g.tape.trans (q.tape.trans f.o.tape)
   ·rw[r,D];exact g.output.trans (q.output.trans f.o.output)
   ·rw[M];have h:=g.size;have A:=q.size;omega
  have a3:∀j,d.cell? ⟨U,j,none⟩=if j∈[c,B]then some (.int .i64 (i:Nat))else w.cell? ⟨U,j,none⟩:=fun j=>by
   rw[T];by_cases a8:j=B
   ·subst a8;rw[g.here,ay ak]
   ·rw[g.other j a8]
    by_cases V:j=c
    ·subst V;rw[q.here,ay ak]
    ·rw[q.other j V,au (by simp[V,a8])]
     exact f.o.cell (p:=⟨U,j,none⟩) e.o.lU
  have av:∀j,d.frozen? ⟨U,j,none⟩=w.frozen? ⟨U,j,none⟩:=fun j=>by rw[Y,g.frozen,q.frozen];exact f.o.frozen (p:=⟨U,j,none⟩) e.o.lU
  have ao:d.there w.heap.size 0 34:=fun j a4=>by have s:=(g.row.there (q.row.there cd.o)) j a4;exact⟨by rw[T];exact s.1,by rw[Y];exact s.2⟩
  have z:∀(u K:Nat) (v:Value),u≠U->o.cell? ⟨u,K,none⟩=some v->d.cell? ⟨u,K,none⟩=some v:=fun u K v h A=>
   (dD (w:=o) (w':=d) (a:=⟨u,K,none⟩) (S u h)).trans A
  have Q:d.rangeAt F (c*34) (factRow (factN l c)):=fun j v ag=>z F _ _ e.o.fu ((f.o.cell (p:=⟨F,c*34+j,none⟩) e.o.lF).trans (e.o.facts c ad j v ag));have an:d.rangeAt F (B*34) (factRow (factN l B)):=fun j v ag=>z F _ _ e.o.fu ((f.o.cell (p:=⟨F,B*34+j,none⟩) e.o.lF).trans (e.o.facts B ad j v ag));have c3:=z _ _ _ N bt;have J:=z _ _ _ N al;have aa:=z _ _ _ N a6;have I:=z P 1 _ e.o.pu bo;have b7:d.heap.size=w.heap.size+2:=by rw[M,g.size,q.size];exact c9
  obtain⟨bF,bu,bA,bB,bE,bw,bz,cG,cN,bg⟩:=ju (MK (factN l c) (factN l B) (kR a2 cq ad) (kR a2 cq ad) d) a3 av a0 ao I J aa b7 Q;have c0:=ah an;unfold iR at bF;clear y a5 b6 b5 G q g T Y M S a0 a3 av ao z b2 c3 I J aa b7 Q an c6 bo;go_wp2_with(first
   |(rw[<-L];clear L)
   |(rw[<-H];clear H bb bc bd be bl)
   |fail)
  clear bt cv;go_region
  clear aq a7 ca cb dr ds ea eb ec al a6 bq ae;rw[<-a9,<-W,<-D];clear a9 W D;go_wp2_with fail
  have I:=bw.o;have J:=bz.o;have aa:=cG.o;have Q:=bg.o;have an:=c0.o;refine IL 12 aA aA ?_;change wpStill _ _ (World.drew ba) (fun bN=>wpList _ _ _ _ bN (World.drew ba)) _ _;rw[<-r];clear r;simp only[BH,BI,IM,List.drop_zero];repeat(first|((with_reducible apply zi (ty:=224));exact rfl;exact rfl;exact rfl;assumption;exact gJ;exact rfl;exact dB)|still_step)
  try refine wpStill_nil ?_
  clear I J aa Q an;go_wp2_with fail
  refine bF.o.mono ?_;rintro m fq ⟨rfl,af⟩;have fl:=gD bE.o af;go_wp2_with(first
   |(((with_reducible apply cQ (ty:=224));exact rfl;exact rfl;exact rfl;exact rfl;assumption;exact dB;exact iS _);intro b8 t)
   |fail)
  (try simp only[Exit.inBlock,Exit.then])
  (refine cg (gC rfl _ _ w.heap.size 0 _ _ rfl t.here gJ rfl dB) rfl ?_)
  have b4:U<d.heap.size:=by rw[cN.o];omega
  refine⟨by rw[R.o];rfl,⟨?_,fun j a4=> ?_,fun j=> ?_⟩⟩
  ·exact zl bB.o af t
  ·rw[bD.o,t.far ad,af.cell (p:=⟨U,j,none⟩) b4]
   exact bu.o j
  ·rw[t.fz,af.frozen (p:=⟨U,j,none⟩) b4]
   exact bA.o j
 case inr.inr.inr.inr.inl=>
  have y:factN l i=sQ (factN l E.toNat) (factN l X.toNat):=by have:=bf.o;simpa using this
  have a5:=bC.o E.toNat (by simp[bO]);have b6:=bC.o X.toNat (by simp[bO]);have ae:=vk a2 el.o (.inr rfl);have b5:0<=E/\0<=X:=by have s:=cc.o;unfold dO at s;rw[au ak,au ak,ay ak]at s;simp only[cS]at s;have h:=s.1.2;have A:=s.2;unfold dy at h A;simp at h A;omega
  obtain⟨c,rfl⟩:∃c:Nat,E=c:=⟨E.toNat,ad⟩;obtain⟨B,rfl⟩:∃B:Nat,X=B:=⟨X.toNat,ad⟩;simp only[ph]at y a5 b6 ae;have bD:Hid (bO ⟨4,sym,(c:Nat),(B:Nat)⟩=[c,B]):=by unfold Hid;simp[bO]
  have R:=ah y;have a1:(c:Int)<l.length:=ad;have e5:(B:Int)<l.length:=ad;have eo:(0:Int)<=c:=ad;have e6:(0:Int)<=B:=ad;have O:=e.o.lU;have aq:=(f.o.cell (p:=⟨U,c,none⟩) O).trans (e.o.ups c ad);have a7:=(f.o.cell (p:=⟨U,B,none⟩) O).trans (e.o.ups B ad);have ca:=(f.o.frozen (p:=⟨U,c,none⟩) O).trans (e.o.uthere c ad);have cb:=(f.o.frozen (p:=⟨U,B,none⟩) O).trans (e.o.uthere B ad);have G:fE o (o.setCell ⟨U,c,none⟩ (.int .i64 (i:Nat))) U c (.int .i64 (i:Nat)):=mz (k:=0) aq;have N:w.heap.size+1≠U:=ad;have dr:=(dD (w:=o) (a:=⟨P,2,none⟩) (G.block P e.o.pu)).trans bq;have ds:=(dD (w:=o) (a:=⟨w.heap.size+1,2,none⟩) (G.block _ N)).trans al;have ea:=(dD (w:=o) (a:=⟨w.heap.size+1,3,none⟩) (G.block _ N)).trans a6;have eb:=(G.other B (fun m=>ae m.symm)).trans a7;have ec:=(G.frozen B).trans cb;obtain⟨b9,a9⟩:=ar (o.setCell ⟨U,c,none⟩ (.int .i64 (i:Nat)));have q:=G;rw[<-a9]at q;have b2:=(q.other B (fun m=>ae m.symm)).trans a7;obtain⟨C,W⟩:=ar (b9.setCell ⟨U,B,none⟩ (.int .i64 (i:Nat)));have g:fE b9 C U B (.int .i64 (i:Nat)):=by rw[W];exact mz (k:=0) b2
  obtain⟨ba,D⟩:=ar (World.drew C);obtain⟨d,r⟩:=ar (World.drew ba);have T:∀x,d.cell? x=C.cell? x:=fun x=>by rw[r,D];simp
  have Y:∀x,d.frozen? x=C.frozen? x:=fun x=>by rw[r,D];simp
  have M:d.heap=C.heap:=by rw[r,D];rfl
  have S:∀k,k≠U->d.heap[k]?=o.heap[k]?:=fun k h=>by rw[M];exact(g.block k h).trans (q.block k h)
  have a0:w.grownBy d (some U):=by
   refine⟨?_,?_,?_,?_,fun k h A=>(S k (fun m=>A (by rw[m]))).trans (f.o.block k h)⟩
   ·rw[r,D];exact g.os.trans (q.os.trans f.o.os)
   ·rw[r,D];exact g.tape.trans (q.tape.trans f.o.tape)
   ·rw[r,D];exact g.output.trans (q.output.trans f.o.output)
   ·rw[M];have h:=g.size;have A:=q.size;omega
  have a3:∀j,d.cell? ⟨U,j,none⟩=if j∈[c,B]then some (.int .i64 (i:Nat))else w.cell? ⟨U,j,none⟩:=fun j=>by
   rw[T];by_cases a8:j=B
   ·subst a8;rw[g.here,ay ak]
   ·rw[g.other j a8]
    by_cases V:j=c
    ·subst V;rw[q.here,ay ak]
    ·rw[q.other j V,au (by simp[V,a8])]
     exact f.o.cell (p:=⟨U,j,none⟩) e.o.lU
  have av:∀j,d.frozen? ⟨U,j,none⟩=w.frozen? ⟨U,j,none⟩:=fun j=>by rw[Y,g.frozen,q.frozen];exact f.o.frozen (p:=⟨U,j,none⟩) e.o.lU
  have ao:d.there w.heap.size 0 34:=fun j a4=>by have s:=(g.row.there (q.row.there cd.o)) j a4;exact⟨by rw[T];exact s.1,by rw[Y];exact s.2⟩
  have z:∀(u K:Nat) (v:Value),u≠U->o.cell? ⟨u,K,none⟩=some v->d.cell? ⟨u,K,none⟩=some v:=fun u K v h A=>
   (dD (w:=o) (w':=d) (a:=⟨u,K,none⟩) (S u h)).trans A
  have Q:d.rangeAt F (c*34) (factRow (factN l c)):=fun j v ag=>z F _ _ e.o.fu ((f.o.cell (p:=⟨F,c*34+j,none⟩) e.o.lF).trans (e.o.facts c ad j v ag));have an:d.rangeAt F (B*34) (factRow (factN l B)):=fun j v ag=>z F _ _ e.o.fu ((f.o.cell (p:=⟨F,B*34+j,none⟩) e.o.lF).trans (e.o.facts B ad j v ag));have c3:=z _ _ _ N bt;have J:=z _ _ _ N al;have aa:=z _ _ _ N a6;have I:=z P 1 _ e.o.pu bo;have b7:d.heap.size=w.heap.size+2:=by rw[M,g.size,q.size];exact c9
  obtain⟨bF,bu,bA,bB,bE,bw,bz,cG,cN,bg⟩:=ju (MJ (factN l c) (factN l B) (kR a2 cq ad) (kR a2 cq ad) d) a3 av a0 ao I J aa b7 Q;have c0:=ah an;unfold iR at bF;clear y a5 b6 b5 G q g T Y M S a0 a3 av ao z b2 c3 I J aa b7 Q an c6 bo;go_wp2_with(first
   |(rw[<-L];clear L)
   |(rw[<-H];clear H bb bc bd be bl)
   |fail)
  clear bt cv;go_region
  clear aq a7 ca cb dr ds ea eb ec al a6 bq ae;rw[<-a9,<-W,<-D];clear a9 W D;go_wp2_with fail
  have I:=bw.o;have J:=bz.o;have aa:=cG.o;have Q:=bg.o;have an:=c0.o;refine IL 12 aA aA ?_;change wpStill _ _ (World.drew ba) (fun bN=>wpList _ _ _ _ bN (World.drew ba)) _ _;rw[<-r];clear r;simp only[BH,BI,IM,List.drop_zero];repeat(first|((with_reducible apply zi (ty:=224));exact rfl;exact rfl;exact rfl;assumption;exact gJ;exact rfl;exact dB)|still_step)
  try refine wpStill_nil ?_
  clear I J aa Q an;go_wp2_with fail
  refine bF.o.mono ?_;rintro m fq ⟨rfl,af⟩;have fl:=gD bE.o af;go_wp2_with(first
   |(((with_reducible apply cQ (ty:=224));exact rfl;exact rfl;exact rfl;exact rfl;assumption;exact dB;exact iS _);intro b8 t)
   |fail)
  (try simp only[Exit.inBlock,Exit.then])
  (refine cg (gC rfl _ _ w.heap.size 0 _ _ rfl t.here gJ rfl dB) rfl ?_)
  have b4:U<d.heap.size:=by rw[cN.o];omega
  refine⟨by rw[R.o];rfl,⟨?_,fun j a4=> ?_,fun j=> ?_⟩⟩
  ·exact zl bB.o af t
  ·rw[bD.o,t.far ad,af.cell (p:=⟨U,j,none⟩) b4]
   exact bu.o j
  ·rw[t.fz,af.frozen (p:=⟨U,j,none⟩) b4]
   exact bA.o j
 case inr.inr.inr.inr.inr=>
  have y:factN l i=⟨false,true,(factN l E.toNat).f,(factN l E.toNat).l⟩:=by have:=bf.o;simpa using this
  have a5:=bC.o E.toNat (by simp[bO]);have b5:0<=E:=by have s:=cc.o;unfold dO at s;rw[au ak,au ak,au ak,ay ak]at s;simp only[cS]at s;have h:=s.1.2;unfold dy at h;simp at h;omega
  obtain⟨c,rfl⟩:∃c:Nat,E=c:=⟨E.toNat,ad⟩;simp only[ph]at y a5;have bD:Hid (bO ⟨5,sym,(c:Nat),X⟩=[c]):=by unfold Hid;simp[bO]
  have R:=ah y;have a1:(c:Int)<l.length:=ad;have eo:(0:Int)<=c:=ad;have O:=e.o.lU;have aq:=(f.o.cell (p:=⟨U,c,none⟩) O).trans (e.o.ups c ad);have ca:=(f.o.frozen (p:=⟨U,c,none⟩) O).trans (e.o.uthere c ad);have N:w.heap.size+1≠U:=ad;obtain⟨C,W⟩:=ar (o.setCell ⟨U,c,none⟩ (.int .i64 (i:Nat)));have g:fE o C U c (.int .i64 (i:Nat)):=by rw[W];exact mz (k:=0) aq
  obtain⟨d,r⟩:=ar (World.drew C);have T:∀x,d.cell? x=C.cell? x:=fun x=>by rw[r];simp
  have Y:∀x,d.frozen? x=C.frozen? x:=fun x=>by rw[r];simp
  have M:d.heap=C.heap:=by rw[r];rfl
  have S:∀k,k≠U->d.heap[k]?=o.heap[k]?:=fun k h=>by rw[M];exact g.block k h
  have a0:w.grownBy d (some U):=by
   refine⟨?_,?_,?_,?_,fun k h A=>(S k (fun m=>A (by rw[m]))).trans (f.o.block k h)⟩
   ·rw[r];exact g.os.trans f.o.os
   ·rw[r];exact g.tape.trans f.o.tape
   ·rw[r];exact g.output.trans f.o.output
   ·rw[M];have h:=g.size;omega
  have a3:∀j,d.cell? ⟨U,j,none⟩=if j∈[c]then some (.int .i64 (i:Nat))else w.cell? ⟨U,j,none⟩:=fun j=>by
   rw[T];by_cases V:j=c
   ·subst V;rw[g.here,ay ak]
   ·rw[g.other j V,au (by simp[V])]
    exact f.o.cell (p:=⟨U,j,none⟩) e.o.lU
  have av:∀j,d.frozen? ⟨U,j,none⟩=w.frozen? ⟨U,j,none⟩:=fun j=>by rw[Y,g.frozen];exact f.o.frozen (p:=⟨U,j,none⟩) e.o.lU
  have ao:d.there w.heap.size 0 34:=fun j a4=>by have s:=(g.row.there cd.o) j a4;exact⟨by rw[T];exact s.1,by rw[Y];exact s.2⟩
  have z:∀(u K:Nat) (v:Value),u≠U->o.cell? ⟨u,K,none⟩=some v->d.cell? ⟨u,K,none⟩=some v:=fun u K v h A=>
   (dD (w:=o) (w':=d) (a:=⟨u,K,none⟩) (S u h)).trans A
  have Q:d.rangeAt F (c*34) (factRow (factN l c)):=fun j v ag=>z F _ _ e.o.fu ((f.o.cell (p:=⟨F,c*34+j,none⟩) e.o.lF).trans (e.o.facts c ad j v ag));have J:=z _ _ _ N al;have I:=z P 1 _ e.o.pu bo;obtain⟨bu,bA,bB,bE,bw,bz,bg⟩:=zm a3 av a0 ao I J Q;clear y a5 b5 g T Y M S a0 a3 av ao z I J Q c6 bo;go_wp2_with(first
   |(rw[<-L];clear L)
   |(rw[<-H];clear H bb bc bd be bl)
   |(rw[<-W];clear W bt cv al a6 bq aq ca)
   |fail)
  have I:=bw.o;have J:=bz.o;have fc:d.rangeAt F (c*34+2) (setRow (factN l c).f):=kz bg.o;have fd:d.rangeAt F (c*34+18) (setRow (factN l c).l):=nC bg.o;refine IL 14 aA aA ?_;change wpStill _ _ (World.drew C) (fun bN=>wpList _ _ _ _ bN (World.drew C)) _ _;rw[<-r];clear r;simp only[BH,BI,IM,List.drop_zero];repeat(first|((with_reducible apply zi (ty:=222));exact rfl;exact rfl;exact rfl;assumption;exact kI;exact rfl;exact fK)|still_step)
  try refine wpStill_nil ?_
  clear I J fc fd;have fG:=bE.o;go_wp2_with(first
   |(first|((with_reducible apply oo);exact rfl;exact rfl;exact rfl)|((with_reducible apply ox);exact rfl;exact rfl;exact rfl)|((with_reducible apply ou);exact rfl;exact rfl;exact rfl)|((with_reducible apply ow);exact rfl;exact rfl;exact rfl))
   |(((with_reducible apply cQ (ty:=224));exact rfl;exact rfl;exact rfl;exact rfl;assumption;exact dB;exact iS _);intro b8 t)
   |fail)
  (try simp only[Exit.inBlock,Exit.then])
  (refine cg (gC rfl _ _ w.heap.size 0 _ _ rfl t.here gJ rfl dB) rfl ?_)
  refine⟨by rw[R.o];rfl,⟨zl bB.o (aE _ _) t,fun j a4=> ?_,fun j=> ?_⟩⟩
  ·rw[bD.o,t.far ad]
   exact bu.o j
  ·rw[t.fz]
   exact bA.o j
theorem gi{l:List aj}(c:bG l=0):dP l/\0<l.length:=by
 unfold bG at c;split at c
 ·omega
 ·split at c
  ·omega
  ·rename_i d
   have hF:=mj (by simpa using d);exact⟨hF,by have:=hF.ne;cases l with
    |nil=>exact absurd rfl this
    |cons a b=>simp⟩
theorem sU(z:List Value){n i j:Nat}(d:i<n)(a:j<z.length):(madeCells z.toArray (n*z.length))[i*z.length+j]?=z[j]?:=by
 have b:i*z.length+j<n*z.length:=by have:(i+1)*z.length<=n*z.length:=xU _ d;rw[Nat.add_mul]at this;omega
 unfold madeCells;rw[Array.getElem?_map,Array.getElem?_range,ay b];have c:(i*z.length+j) % z.length=j:=by rw[Nat.mul_comm,Nat.mul_add_mod,Nat.mod_eq_of_lt a]
 simp[c,a]
theorem wi{w:World}{p:Addr}{v:Value}(a:w.cell? p=some v)(b:Obj):(w.alloc b).cell? p=some v:=by rw[World.cell?_alloc_lt _ _ _ (nU w p a)];exact a
structure jR(w:World)(F U:Nat)(l:List aj):Prop where
 lF:F<w.heap.size
 lU:U<w.heap.size
 facts:∀i,i<l.length->w.rangeAt F (i*34) (factRow (factN l i))
 ups:∀j,j<l.length->w.cell? ⟨U,j,none⟩=some (.int .i64 (aboveV l l.length j))
theorem jR.below{w w':World}{F U:Nat}{l:List aj}(a:jR w F U l)(b:Below w.heap.size w w'):jR w' F U l:=
 ⟨dn a.lF b.size,dn a.lU b.size,fun i c=>gN (a.facts i c) b,fun j d=>(b.cell (p:=⟨U,j,none⟩) a.lU).trans (a.ups j d)⟩
theorem Ea:(prog.info? 217).map (·.size)=some 3:=aA
theorem MP(a b c:Value)(e:a.oneCell'=true:=by rfl)(f:b.oneCell'=true:=by rfl)(g:c.oneCell'=true:=by rfl):∀v∈[a,b,c],v.oneCell'=true:=by intro v d;simp at d;rcases d with rfl|rfl|rfl<;>assumption
theorem MQ{P:Program}{fn:Func}{p t:Tmp}{ty:TypeId}(a:fn.results=#[.cell p ty,.tmp t])(tmps:Array Value)(w:World)(b o:Nat)(cs:List Value)(d:TypeDesc)
 (g:tmps.getD p undef=.pointer (some ⟨b,o,none⟩)) (c:w.rangeAt b o cs)
 (i:P.underlying ty=some d) (e:d.isRow=true) (f:(P.info? ty).map (·.size)=some cs.length):
 (results fn tmps).run P w=.ok (.tuple #[.agg cs.toArray,tmps.getD t undef]) w:=by
 have h:tmps[p]?.getD undef=.pointer (some ⟨b,o,none⟩):=by simpa using g
 simp[results,a,h,asAddr,xT w b o ty cs d c i e f]
theorem MR{P:Program}(w:World)(b o:Nat)(cs:List Value)(c:w.there b o cs.length)(d:∀v∈cs,v.oneCell'=true):(storeCells ⟨b,o,none⟩ cs).run P w=.ok () (w.setCells b o cs):=by have:=run_storeCells_cells (P:=P) b o cs 0 w (fun j a=>by simpa using(c j a).1) (fun j a=>by simpa using(c j a).2) (fun v e=>d v e);simpa using this
theorem MS{w:World}{b o b' o':Nat}{cs:List Value}{v:Value}(c:w.cell? ⟨b',o',none⟩=some v)(d:b'≠b):(w.setCells b o cs).cell? ⟨b',o',none⟩=some v:=
 (World.cell?_setCells_out b cs o w ⟨b',o',none⟩ (fun a _=>absurd a d)).trans c
structure pU(w2 wz:World)(P F U:Nat)(no:Option Addr)(nc n:Nat)(M1 M2:Array Value):Prop where
 base:Below w2.heap.size w2 wz
 hP:w2.heap.size<=P
 hF:w2.heap.size<=F
 hU:w2.heap.size<=U
 pf:P≠F
 pu:P≠U
 fu:F≠U
 p:wz.heap[P]?=some (.cells #[.slice no n nc,.slice (some ⟨F,0,none⟩) n n,.slice (some ⟨U,0,none⟩) n n] 217)
 f:wz.heap[F]?=some (.cells M1 224)
 u:wz.heap[U]?=some (.cells M2 3)
theorem qL(d:World)(a b c:Obj):Below d.heap.size d (World.drew (((d.alloc a).alloc b).alloc c))/\(World.drew (((d.alloc a).alloc b).alloc c)).heap[d.heap.size]?=some a/\(World.drew (((d.alloc a).alloc b).alloc c)).heap[d.heap.size+1]?=some b/\(World.drew (((d.alloc a).alloc b).alloc c)).heap[d.heap.size+1+1]?=some c:=by
 have g:=aB d a;have e:=aB (d.alloc a) b;have f:=aB ((d.alloc a).alloc b) c;simp only[bj]at e f;refine⟨((aG.alloc ak _).alloc aR _).drew,?_,?_,f⟩
 ·show(((d.alloc a).alloc b).alloc c).heap[d.heap.size]?=some a
  rw[bk _ _ _ aR,bk _ _ _ ak];exact g
 ·show(((d.alloc a).alloc b).alloc c).heap[d.heap.size+1]?=some b
  rw[bk _ _ _ ak];exact e
theorem MT{l:List aj}(hF:dP l){k:Nat}{n:aj}(e:l[k]?=some n){j:Nat}(p:j<l.length):aboveV l (k+1) j=if j∈bO n then(k:Int)else aboveV l k j:=by
 have q:=(aL.1 e).1;have h:=iM l 0 k n hF.ok e;rw[cD]at h;unfold aboveV;by_cases b:j∈bO n
 ·have a:=mi h j b
  have c:=py hF e b;rw[ay b,au ad,ay ad,c]
 ·rw[au b]
  by_cases a:j=l.length-1
  ·rw[ay a,ay a]
  ·rw[au a,au a]
   obtain⟨i,m,d,g,_,o⟩:=yp hF (j:=j) ad;have r:gL l j≠k:=fun f=>by
    rw[o]at f;subst f;rw[e]at d;injection d with d
    rw[<-d]at g;exact b g
   by_cases c:gL l j<k
   ·rw[ay ad,ay c]
   ·rw[au ad,au c]
theorem mD.next{u w g t:World}{P F U:Nat}{no:Option Addr}{B:Nat}{l:List aj}{k:Nat}{n:aj}(C:dP l)(A:l[k]?=some n)(c:mD u w P F U no B l k)(e:wh w g U l k n)(d:dU g t F (k*34) (factRow (factN l k))):mD u t P F U no B l (k+1):=by
 have H:=(aL.1 A).1;have p:=e.grown.size;have s:∀b o,b≠U->b≠F->b<w.heap.size->t.cell? ⟨b,o,none⟩=w.cell? ⟨b,o,none⟩:=fun b o r h x=>by rw[d.far h];exact dD (w:=w) (w':=g) (a:=⟨b,o,none⟩) (e.grown.block b x aR)
 have y:∀o,g.cell? ⟨F,o,none⟩=w.cell? ⟨F,o,none⟩:=fun o=>dD (w:=w) (w':=g) (a:=⟨F,o,none⟩) (e.grown.block F c.lF (by simp;exact c.fu));have G:∀o,g.frozen? ⟨F,o,none⟩=w.frozen? ⟨F,o,none⟩:=fun o=>mW (w:=w) (w':=g) (a:=⟨F,o,none⟩) (e.grown.block F c.lF (by simp;exact c.fu));refine⟨⟨?_,?_,?_,?_,fun b D=> ?_⟩,c.hP,c.hF,c.hU,?_,?_,?_,c.pf,c.pu,c.fu,?_,?_,?_,fun i z=> ?_,fun i z j f=> ?_,fun j f=> ?_,fun j f=> ?_⟩
 ·exact d.os.trans (e.grown.os.trans c.base.os)
 ·exact d.tape.trans (e.grown.tape.trans c.base.tape)
 ·exact d.output.trans (e.grown.output.trans c.base.output)
 ·rw[d.size];exact aJ c.base.size p
 ·have r:=c.hU;have h:=c.hF;have x:=c.base.size
  exact(d.block b ad).trans ((e.grown.block b ad aR).trans (c.base.block b D))
 ·rw[d.size];exact dn c.lP p
 ·rw[d.size];exact dn c.lF p
 ·rw[d.size];exact dn c.lU p
 ·rw[s P 0 c.pu c.pf c.lP];exact c.p0
 ·rw[s P 1 c.pu c.pf c.lP];exact c.p1
 ·rw[s P 2 c.pu c.pf c.lP];exact c.p2
 ·by_cases q:i=k
  ·subst q;exact d.here
  ·refine d.range (b':=F) (o':=i*34) (fun j v E=> ?_) (.inr (.inl ?_))
   ·rw[y];exact c.facts i ad j v E
   ·rw[sR];omega
 ·refine d.there (b':=F) (o':=i*34) (n:=34) (fun j f=> ?_) j f
  obtain⟨r,h⟩:=c.fthere i z j f;exact⟨by rw[y];exact r,by rw[G];exact h⟩
 ·rw[d.far (fun q=>c.fu q.symm),e.here j f,MT C A f,c.ups j f]
  by_cases m:j∈bO n
  ·rw[ay m,ay m]
  ·rw[au m,au m]
 ·rw[d.fz,e.frozen];exact c.uthere j f
theorem mD.drew{b w:World}{P F U:Nat}{no:Option Addr}{c:Nat}{l:List aj}{k:Nat}(a:mD b w P F U no c l k):mD b w.drew P F U no c l k:=
 ⟨a.base.drew,a.hP,a.hF,a.hU,a.lP,a.lF,a.lU,a.pf,a.pu,a.fu,a.p0,a.p1,a.p2,a.facts,a.fthere,a.ups,a.uthere⟩
theorem MU:∀args a,(callFunc 200 args).run prog a=.ok (.enter 200 args) a:=fun _ _=>rfl
theorem MV(l:List aj)(j:Nat):aboveV l 0 j=if j=l.length-1 then-1 else 0:=by unfold aboveV;simp
theorem MX{d q e r:World}{P F U:Nat}{no:Option Addr}{p:Nat}{l:List aj}{h m:Array Value}(C:0<l.length)(o:Below d.heap.size d q)(a:pU q e P F U no p l.length h m)
 (s:h=madeCells (factRow jQ).toArray (l.length*(factRow jQ).length)) (t:m=madeCells [Value.int .i64 0].toArray (l.length*[Value.int .i64 0].length))
 (b:fE e r U (l.length-1) (.int .i64 (-1))):mD d r P F U no p l 0:=by
 have v:=o.size;have y:=aU a.p;have x:=aU a.f;have z:=aU a.u;have u:Below d.heap.size d e:=o.trans (a.base.mono v);have A:=a.hP;have hF:=a.hF;have B:=a.hU;have w:∀j,j<l.length->e.cell? ⟨U,j,none⟩=some (.int .i64 0):=fun j c=>by rw[ai j a.u,t];have:=sU [Value.int .i64 0] (n:=l.length) (i:=j) (j:=0) c ak;simpa using this
 refine⟨b.row.below u ad,ad,ad,ad,by rw[b.size];exact y,by rw[b.size];exact x,by rw[b.size];exact z,a.pf,a.pu,a.fu,?_,?_,?_,fun i g=>absurd g (Nat.not_lt_zero _),fun i g j c=> ?_,fun j c=> ?_,fun j c=> ?_⟩
 ·rw[b.row.far a.pu];exact ai 0 a.p
 ·rw[b.row.far a.pu];exact ai 1 a.p
 ·rw[b.row.far a.pu];exact ai 2 a.p
 ·refine⟨?_,?_⟩
  ·rw[b.row.far a.fu,ai _ a.f,s]
   have:=sU (factRow jQ) (n:=l.length) (i:=i) (j:=j) g (by rw[sR];exact c);rw[sR]at this;rw[sR,this];rw[aH (by rw[sR];exact c)];rfl
  ·rw[b.row.fz]
   exact aT a.f _
 ·rw[MV]
  by_cases f:j=l.length-1
  ·subst f;rw[ay rfl];exact b.here
  ·rw[au f,b.other j f];exact w j c
 ·rw[b.frozen]
  exact aT a.u _
def hO(no:Option Addr)(a n F U:Nat):Value:=.agg #[.slice no n a,.slice (some ⟨F,0,none⟩) n n,.slice (some ⟨U,0,none⟩) n n]
def MY(l:List aj)(no:Option Addr)(b:Nat)(w:World)(a:Ending)(w':World):Prop:=∃F U,a=.returned (.tuple #[hO no b l.length F U,.bool true])/\jR w' F U l/\Below w.heap.size w w'
theorem sV(l:List aj)(no:Option Addr)(e:Nat)(w:World)(ab:bG l=0)(b1:l.length<=60)(O:cO w no e l)(bg:∀n∈l,n.sym.length<=1048576):
 Calls prog 142 #[.agg #[.slice no l.length e]] w (MY l no e w):=by
 have bN:=O.2.2.1;unfold maxLen at bN;have co:=O.2.1;obtain⟨Q,K⟩:=ar ((w.alloc (.cells #[.slice no l.length e] 51)).alloc (.cells #[.slice none 0 0,.slice none 0 0,.slice none 0 0] 217));have Z:Below w.heap.size w Q:=by rw[K];exact aG.alloc ak _
 have aa:Q.heap[w.heap.size]?=some (.cells #[.slice no l.length e] 51):=by rw[K];exact(bk _ _ _ ak).trans (aB w _)
 have N:Q.heap[w.heap.size+1]?=some (.cells #[.slice none 0 0,.slice none 0 0,.slice none 0 0] 217):=by rw[K];have:=aB (w.alloc (.cells #[.slice no l.length e] 51)) (.cells #[.slice none 0 0,.slice none 0 0,.slice none 0 0] 217);rwa[bj]at this
 have ba:=ai 0 aa;have cb:Q.heap.size=w.heap.size+2:=by rw[K];simp
 have ao:=qu l no e Q (O.below Z) bg;rw[ab]at ao;obtain⟨bu,ch,bz,a4,a9⟩:=jJ O aa N Z ao;obtain⟨g,af⟩:=ar (madeCells (factRow jQ).toArray (l.length*(factRow jQ).length));obtain⟨h,ag⟩:=ar (madeCells [Value.int .i64 0].toArray (l.length*[Value.int .i64 0].length));obtain⟨a3,be,W⟩:∃i,prog.info? 224=some i/\(i.zero=some (iR jQ)/\i.size=34/\i.bytes=264):=by obtain⟨i,H,V⟩:=mV.1 (show(prog.info? 224).map (fun i=>(i.zero,i.size,i.bytes))=some (some (iR jQ),34,264) by kernel_rfl);simp only[rE]at V;exact⟨i,H,V.1,V.2.1,V.2.2⟩
 have I:∀f,(Instr.makeSlice 215 (.int .i64 (l.length:Int)) (.int .i64 (l.length:Int))).run prog f=.ok (.slice (some ⟨f.heap.size,0,none⟩) l.length l.length) (f.alloc (.cells g 224)):=fun f=>by have:=uG (P:=prog) f 215 224 a3 (iR jQ) underlying215 be W.1 .i64 .i64 l.length l.length ad ad (by rw[W.2.2];omega) ad;simp only[ph,W.2.1]at this;rw[this,af];rfl
 obtain⟨b4,H,bl,bo,bq⟩:=cY pq;have J:∀f,(Instr.makeSlice 125 (.int .i64 (l.length:Int)) (.int .i64 (l.length:Int))).run prog f=.ok (.slice (some ⟨f.heap.size,0,none⟩) l.length l.length) (f.alloc (.cells h 3)):=fun f=>by have:=run_make_row (P:=prog) 125 3 b4 (.int .i64 0) mR H bl bo rfl .i64 .i64 l.length (by rw[bq];omega) ad f;rw[this,ag,BA,AQ]
 obtain⟨bA,a7⟩:=aD af ag;have ae:=ab;clear O aa N Z ao af ag be W H bl bo bq bg ab;go_enter func142,ntmps142
 go_wp2_with fail
 rw[<-K];clear K;refine a9.o.mono ?_;rintro bD c ⟨rfl,S⟩;have y:=(S.cell (p:=⟨w.heap.size,0,none⟩) (by rw[cb];show w.heap.size<_;omega)).trans ba;have A:w.heap.size+2<=c.heap.size:=by have:=S.size;omega
 have M:w.heap.size<c.heap.size:=ad;obtain⟨a5,a6,bB⟩:=bH S y A;clear ba S a9;go_wp2_with fail
 have D:c.drew.cell? ⟨w.heap.size,0,none⟩=some (.slice no l.length e):=by simpa using y
 go_region_held3(fun w'=>w'.cell? ⟨w.heap.size,0,none⟩=some (.slice no l.length e)) (first|exact D|exact wi fS _|exact wi (wi (wi y _) _) _) (fail)
 have d:pU c (World.drew (((c.alloc (.cells g 224)).alloc (.cells h 3)).alloc (.cells #[.slice no l.length e,.slice (some ⟨c.heap.size,0,none⟩) l.length l.length,.slice (some ⟨c.heap.size+1,0,none⟩) l.length l.length] 217))) (c.heap.size+1+1) (c.heap.size) (c.heap.size+1) no e l.length g h:=by obtain⟨r,t,o,q⟩:=qL c (.cells g 224) (.cells h 3) (.cells #[.slice no l.length e,.slice (some ⟨c.heap.size,0,none⟩) l.length l.length,.slice (some ⟨c.heap.size+1,0,none⟩) l.length l.length] 217);exact⟨r,ad,ad,ad,ad,ad,ad,q,t,o⟩
 obtain⟨f,m⟩:=ar (World.drew (((c.alloc (.cells g 224)).alloc (.cells h 3)).alloc (.cells #[.slice no l.length e,.slice (some ⟨c.heap.size,0,none⟩) l.length l.length,.slice (some ⟨c.heap.size+1,0,none⟩) l.length l.length] 217)));rw[<-m]at d⊢;rename_i u;clear m A M D y I J u;generalize c.heap.size+1+1=P at d⊢;generalize c.heap.size+1=U at d⊢;generalize c.heap.size=F at d⊢;revert d;revert U;revert F;revert P;revert f;intro f P F U d;rotate_left;have d:pU c (World.drew (((c.alloc (.cells g 224)).alloc (.cells #[.slice no l.length e,.slice (some ⟨c.heap.size,0,none⟩) l.length l.length,.slice (some ⟨c.heap.size+1+1,0,none⟩) l.length l.length] 217)).alloc (.cells h 3))) (c.heap.size+1) (c.heap.size) (c.heap.size+1+1) no e l.length g h:=by obtain⟨r,t,o,q⟩:=qL c (.cells g 224) (.cells #[.slice no l.length e,.slice (some ⟨c.heap.size,0,none⟩) l.length l.length,.slice (some ⟨c.heap.size+1+1,0,none⟩) l.length l.length] 217) (.cells h 3);exact⟨r,ad,ad,ad,ad,ad,ad,o,t,q⟩
 obtain⟨f,m⟩:=ar (World.drew (((c.alloc (.cells g 224)).alloc (.cells #[.slice no l.length e,.slice (some ⟨c.heap.size,0,none⟩) l.length l.length,.slice (some ⟨c.heap.size+1+1,0,none⟩) l.length l.length] 217)).alloc (.cells h 3)));rw[<-m]at d⊢;rename_i u;clear m A M D y I J u;generalize c.heap.size+1+1=U at d⊢;generalize c.heap.size+1=P at d⊢;generalize c.heap.size=F at d⊢;revert d;revert U;revert F;revert P;revert f;intro f P F U d;rotate_left;have d:pU c (World.drew (((c.alloc (.cells h 3)).alloc (.cells g 224)).alloc (.cells #[.slice no l.length e,.slice (some ⟨c.heap.size+1,0,none⟩) l.length l.length,.slice (some ⟨c.heap.size,0,none⟩) l.length l.length] 217))) (c.heap.size+1+1) (c.heap.size+1) (c.heap.size) no e l.length g h:=by obtain⟨r,t,o,q⟩:=qL c (.cells h 3) (.cells g 224) (.cells #[.slice no l.length e,.slice (some ⟨c.heap.size+1,0,none⟩) l.length l.length,.slice (some ⟨c.heap.size,0,none⟩) l.length l.length] 217);exact⟨r,ad,ad,ad,ad,ad,ad,q,o,t⟩
 obtain⟨f,m⟩:=ar (World.drew (((c.alloc (.cells h 3)).alloc (.cells g 224)).alloc (.cells #[.slice no l.length e,.slice (some ⟨c.heap.size+1,0,none⟩) l.length l.length,.slice (some ⟨c.heap.size,0,none⟩) l.length l.length] 217)));rw[<-m]at d⊢;rename_i u;clear m A M D y I J u;generalize c.heap.size+1+1=P at d⊢;generalize c.heap.size+1=F at d⊢;generalize c.heap.size=U at d⊢;revert d;revert U;revert F;revert P;revert f;intro f P F U d;rotate_left;have d:pU c (World.drew (((c.alloc (.cells h 3)).alloc (.cells #[.slice no l.length e,.slice (some ⟨c.heap.size+1+1,0,none⟩) l.length l.length,.slice (some ⟨c.heap.size,0,none⟩) l.length l.length] 217)).alloc (.cells g 224))) (c.heap.size+1) (c.heap.size+1+1) (c.heap.size) no e l.length g h:=by obtain⟨r,t,o,q⟩:=qL c (.cells h 3) (.cells #[.slice no l.length e,.slice (some ⟨c.heap.size+1+1,0,none⟩) l.length l.length,.slice (some ⟨c.heap.size,0,none⟩) l.length l.length] 217) (.cells g 224);exact⟨r,ad,ad,ad,ad,ad,ad,o,q,t⟩
 obtain⟨f,m⟩:=ar (World.drew (((c.alloc (.cells h 3)).alloc (.cells #[.slice no l.length e,.slice (some ⟨c.heap.size+1+1,0,none⟩) l.length l.length,.slice (some ⟨c.heap.size,0,none⟩) l.length l.length] 217)).alloc (.cells g 224)));rw[<-m]at d⊢;rename_i u;clear m A M D y I J u;generalize c.heap.size+1+1=F at d⊢;generalize c.heap.size+1=P at d⊢;generalize c.heap.size=U at d⊢;revert d;revert U;revert F;revert P;revert f;intro f P F U d;rotate_left;have d:pU c (World.drew (((c.alloc (.cells #[.slice no l.length e,.slice (some ⟨c.heap.size+1,0,none⟩) l.length l.length,.slice (some ⟨c.heap.size+1+1,0,none⟩) l.length l.length] 217)).alloc (.cells g 224)).alloc (.cells h 3))) (c.heap.size) (c.heap.size+1) (c.heap.size+1+1) no e l.length g h:=by obtain⟨r,t,o,q⟩:=qL c (.cells #[.slice no l.length e,.slice (some ⟨c.heap.size+1,0,none⟩) l.length l.length,.slice (some ⟨c.heap.size+1+1,0,none⟩) l.length l.length] 217) (.cells g 224) (.cells h 3);exact⟨r,ad,ad,ad,ad,ad,ad,t,o,q⟩
 obtain⟨f,m⟩:=ar (World.drew (((c.alloc (.cells #[.slice no l.length e,.slice (some ⟨c.heap.size+1,0,none⟩) l.length l.length,.slice (some ⟨c.heap.size+1+1,0,none⟩) l.length l.length] 217)).alloc (.cells g 224)).alloc (.cells h 3)));rw[<-m]at d⊢;rename_i u;clear m A M D y I J u;generalize c.heap.size+1+1=U at d⊢;generalize c.heap.size+1=F at d⊢;generalize c.heap.size=P at d⊢;revert d;revert U;revert F;revert P;revert f;intro f P F U d;rotate_left;have d:pU c (World.drew (((c.alloc (.cells #[.slice no l.length e,.slice (some ⟨c.heap.size+1+1,0,none⟩) l.length l.length,.slice (some ⟨c.heap.size+1,0,none⟩) l.length l.length] 217)).alloc (.cells h 3)).alloc (.cells g 224))) (c.heap.size) (c.heap.size+1+1) (c.heap.size+1) no e l.length g h:=by obtain⟨r,t,o,q⟩:=qL c (.cells #[.slice no l.length e,.slice (some ⟨c.heap.size+1+1,0,none⟩) l.length l.length,.slice (some ⟨c.heap.size+1,0,none⟩) l.length l.length] 217) (.cells h 3) (.cells g 224);exact⟨r,ad,ad,ad,ad,ad,ad,t,q,o⟩
 obtain⟨f,m⟩:=ar (World.drew (((c.alloc (.cells #[.slice no l.length e,.slice (some ⟨c.heap.size+1+1,0,none⟩) l.length l.length,.slice (some ⟨c.heap.size+1,0,none⟩) l.length l.length] 217)).alloc (.cells h 3)).alloc (.cells g 224)));rw[<-m]at d⊢;rename_i u;clear m A M D y I J u;generalize c.heap.size+1+1=F at d⊢;generalize c.heap.size+1=U at d⊢;generalize c.heap.size=P at d⊢;revert d;revert U;revert F;revert P;revert f;intro f P F U d;rotate_left;all_goals
  have b2:0<l.length:=(gi ae).2;have b7:=aU d.p;have b8:=aU d.u;have A:=bB.o;have bZ:=(d.base.cell (p:=⟨w.heap.size,0,none⟩) (by show w.heap.size<_;omega)).trans a6.o;have b9:=ai 2 d.p;have bt:f.cell? ⟨U,l.length-1,none⟩=some (.int .i64 0):=by rw[bs _ _ (l.length-1) _ _ _ d.u,a7.o];have:=sU [Value.int .i64 0] (n:=l.length) (i:=l.length-1) (j:=0) ad ak;simpa using this
  have cc:f.frozen? ⟨U,l.length-1,none⟩=false:=aT d.u _;have a3:(l.length:Int)-1<(l.length:Int):=ad;have b5:(0:Int)<=l.length-1:=ad;have b6:((l.length:Int)-1).toNat=l.length-1:=ad;obtain⟨ce,a2⟩:=ar (f.setCell ⟨U,l.length-1,none⟩ (.int .i64 (-1)));have bc:fE f ce U (l.length-1) (.int .i64 (-1)):=by rw[a2];exact mz (k:=0) bt
  obtain⟨a8,C⟩:=aD bc d;clear bc d;go_wp2_with(first
   |(rw[<-a2];clear a2)
   |fail)
  clear bZ b9 bt cc a3 b5 b6 b7 b8;have cp:=MU;have bE:Below w.heap.size w c:=a4.o.trans (a5.o.mono a4.o.size);go_loopw [7,29] (fun cx i wr=>∃k:Nat,i=.int .i64 k/\k<=l.length/\Hid (mD w wr P F U no e l k)/\Below c.heap.size c wr) (fun _ i _=>l.length-(intOf i).toNat)
  case atStart=>exact⟨0,rfl,aZ _,MX b2 bE C.o bA.o a7.o a8.o,a8.o.row.below C.o.base C.o.hU⟩
  case round=>
  obtain⟨k,rfl,cq,x,an⟩:=hrel;have aq:=(an.cell (p:=⟨w.heap.size,0,none⟩) (by show w.heap.size<_;omega)).trans a6.o;have ci:=ah aq;by_cases bf:k<l.length
  ·obtain⟨n,a0⟩:∃n,l[k]?=some n:=⟨_,aH bf⟩
   have b0:decide ((k:Int)<l.length)=true:=bQ;have cv:(k:Int)<l.length:=ad;have cu:(0:Int)<=k:=ad;obtain⟨R,L⟩:=ar (World.drew wr);have T:mD w R P F U no e l k:=by rw[L];exact x.o.drew
   have bd:R.cell? ⟨w.heap.size,0,none⟩=some (.slice no l.length e):=by rw[L];simpa using aq
   have al:Below c.heap.size c R:=by rw[L];exact an.drew
   have a1:=MO w R P F U w.heap.size no e l (gi ae).1 b1 k n a0 bu.o T (by have:=al.size;omega) bd;unfold D9 at a1;have d1:=T.p1;obtain⟨z,Y,bC,B⟩:=cr T a1 a0 al;clear T a1 a0 aq bd al;go_wp2_with fail
   rw[L]at d1;have bw:=ah d1;rw[L]at Y z B;clear L R;have X:Hid (∀s,wh (World.drew wr) s U l k n->s.there F (k*34) 34/\s.cell? ⟨P,1,none⟩=some (.slice (some ⟨F,0,none⟩) l.length l.length)):=fun s E=>by
    refine⟨fun j av=> ?_,?_⟩
    ·obtain⟨o,q⟩:=z.o.fthere k bf j av
     have N:=E.grown.block F z.o.lF (by simp;exact z.o.fu);exact⟨by rw[dD (w:=wr.drew) (w':=s) (a:=⟨F,k*34+j,none⟩) N];exact o,by rw[mW (w:=wr.drew) (w':=s) (a:=⟨F,k*34+j,none⟩) N];exact q⟩
    ·exact(dD (w:=wr.drew) (w':=s) (a:=⟨P,1,none⟩) (E.grown.block P z.o.lP (by simp;exact z.o.pu))).trans bw.o
   unfold iR at Y;have bb:=z.o.pf;go_region_held3(fun w'=>w'.cell? ⟨P,1,none⟩=some (.slice (some ⟨F,0,none⟩) l.length l.length)) (first|with_reducible exact d1|((with_reducible refine MS ?_ bb);assumption)|with_reducible assumption|exact(X.o _ fS).2)
    ((first|(go_at_call 200;refine Calls.mono Y.o ?_;rintro bD s ⟨rfl,E⟩;have b3:=MR (P:=prog) s F (k*34) (factRow (factN l k)) (X.o s E).1 (iS _))))
   have v:=vX (cs:=factRow (factN l k)) (X.o s E).1;have G:=ah E;clear b3 E bb;obtain⟨cd,bi⟩:=ar (s.setCells F (k*34) (factRow (factN l k)));rw[<-bi]at v⊢;clear bi
   go_wp2
   go_roundw
   case rel=>
    have cl:=C.o.hU;refine⟨k+1,aV,ad,z.o.next (gi ae).1 bC.o G.o v,?_⟩;refine v.below (a:=c) ⟨G.o.grown.os.trans B.o.os,G.o.grown.tape.trans B.o.tape,G.o.grown.output.trans B.o.output,aJ B.o.size G.o.grown.size,fun b r=> ?_⟩ C.o.hF;exact(G.o.grown.block b (by have:=B.o.size;omega) aR).trans (B.o.block b r)
   case measure=>exact bh
  ·have b0:decide ((k:Int)<l.length)=false:=bK
   obtain rfl:k=l.length:=ad;have d0:=x.o.p0;have d1:=x.o.p1;have d2:=x.o.p2;have ca:wr.heap[w.heap.size+1]?=some (.cells #[.slice none 0 0,.slice none 0 0,.slice none 0 0] 217):=(an.block _ ad).trans ((a5.o.block _ ad).trans bz.o);have t1:wr.there (w.heap.size+1) 0 3:=jt (cs:=[.slice none 0 0,.slice none 0 0,.slice none 0 0]) (ty:=217) ca ak;go_wp2_with(first
    |((with_reducible apply cQ (ty:=217));exact rfl;exact rfl;exact rfl;exact rfl;assumption;exact Ea;exact MP _ _ _;intro cd v)
    |fail)
   (try simp only[Exit.inBlock,Exit.then])
   refine cg (MQ rfl _ _ (w.heap.size+1) 0 _ _ rfl v.here underlying217 rfl Ea) rfl ?_;have bF:=v.below x.o.base ad;refine⟨F,U,rfl,⟨by rw[v.size];exact x.o.lF,by rw[v.size];exact x.o.lU,fun i H=>v.range (x.o.facts i H) (.inl (by have:=C.o.hF;omega)),fun j av=> ?_⟩,bF⟩;rw[v.far (by have:=C.o.hU;omega)];exact x.o.ups j av
end Go.Proofs.YtnadadbndcdolaaGreatDoor
