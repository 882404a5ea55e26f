import Derived.Test.YtfeidcmojcijpaaGreatDoorQar
set_option linter.all false
set_option maxRecDepth 100000
set_option maxHeartbeats 0
namespace Go.Proofs.YtfeidcmojcijpaaGreatDoor
open Go.RowKit Tryz
def Bc{P ops rest c a w Q}(h:c.guard=none) ty x(j:c.op=.load ty x)
 b o(m:a.eval x=.pointer (some ⟨b,o,none⟩)) cs d(f:w.rangeAt b o cs)
 (l:P.underlying ty=some d) (g:d.isRow=true) (i:(P.info? ty).map (·.size)=cs.length)
 (e:wpStill P ops w Q rest (a.put c.dst (.agg cs))):wpStill P ops w Q (c::rest) a:=by
 unfold wpStill;rw[au (by simp[Region.wanted,h])];unfold Oper.still execOp;simp only[j,m,Instr.loadAt,Instr.sureAddr,Dq,wR,Dr,KO w b o ty cs d f l g i,Oper.stillUpon_value];exact e
def aboveV(l:List ax)(k j:Nat):Int:=if j=l-1 then-1 else if ja l j<k then ja l j else 0
structure nY(W0 w:World)(P F U:Nat)(no:Option Addr)(nc:Nat)(l:List ax)(k:Nat):Prop where
 base:Below W0.heap.size W0 w
 hP:W0.heap.size<=P
 hF:W0.heap.size<=F
 hU:W0.heap.size<=U
 lP:P<w.heap.size
 lF:F<w.heap.size
 lU:U<w.heap.size
 pf:P≠F
 pu:P≠U
 fu:F≠U
 p0:w.cell? ⟨P,0,none⟩=some (.slice no l.length nc)
 p1:w.cell? ⟨P,1,none⟩=some (.slice (some ⟨F,0,none⟩) l.length l.length)
 p2:w.cell? ⟨P,2,none⟩=some (.slice (some ⟨U,0,none⟩) l.length l.length)
 zj:∀i,i<k->w.rangeAt F (i*34) (factRow (factN l i))
 fthere:∀i,i<l.length->w.there F (i*34) 34
 ups:∀j,j<l.length->w.cell? ⟨U,j,none⟩=some (.int .i64 (aboveV l k j))
 uthere:∀j,j<l.length->w.frozen? ⟨U,j,none⟩=false
structure yq(w w':World)(U:Nat)(l:List ax)(i:Nat)(n:ax):Prop where
 zu:w.grownBy w' (some U)
 zn:∀j,j<l.length->w'.cell? ⟨U,j,none⟩=if j∈bQ n then some (.int .i64 (i:Nat))else w.cell? ⟨U,j,none⟩
 frozen:∀j,w'.frozen? ⟨U,j,none⟩=w.frozen? ⟨U,j,none⟩
def Ps{w w'}(a:aR w w') row:w.grownBy w' row:=⟨a.os,a.tape,a.output,a.size,fun k b _=>a.J k b⟩
def Bd{w w' U l i n}(a:aR w w')(b:U<w.heap.size)(c:bQ n=[]):yq w w' U l i n:=
 ⟨Ps a _,fun j d=>by rw[c,ap aj];exact a.cell b,fun j=>a.frozen b⟩
def F0 w1 ty:aR w1 (cT w1 #[false,false,.int .u64 0,.int .u64 0,.int .u64 0,.int .u64 0,.int .u64 0,.int .u64 0,.int .u64 0,.int .u64 0,.int .u64 0,.int .u64 0,.int .u64 0,.int .u64 0,.int .u64 0,.int .u64 0,.int .u64 0,.int .u64 0,.int .u64 0,.int .u64 0,.int .u64 0,.int .u64 0,.int .u64 0,.int .u64 0,.int .u64 0,.int .u64 0,.int .u64 0,.int .u64 0,.int .u64 0,.int .u64 0,.int .u64 0,.int .u64 0,.int .u64 0,.int .u64 0] ty)/\(w1.alloc (.cells #[false,false,.int .u64 0,.int .u64 0,.int .u64 0,.int .u64 0,.int .u64 0,.int .u64 0,.int .u64 0,.int .u64 0,.int .u64 0,.int .u64 0,.int .u64 0,.int .u64 0,.int .u64 0,.int .u64 0,.int .u64 0,.int .u64 0,.int .u64 0,.int .u64 0,.int .u64 0,.int .u64 0,.int .u64 0,.int .u64 0,.int .u64 0,.int .u64 0,.int .u64 0,.int .u64 0,.int .u64 0,.int .u64 0,.int .u64 0,.int .u64 0,.int .u64 0,.int .u64 0] ty)).rangeAt w1 0 (factRow kW)/\(w1.alloc (.cells #[false,false,.int .u64 0,.int .u64 0,.int .u64 0,.int .u64 0,.int .u64 0,.int .u64 0,.int .u64 0,.int .u64 0,.int .u64 0,.int .u64 0,.int .u64 0,.int .u64 0,.int .u64 0,.int .u64 0,.int .u64 0,.int .u64 0,.int .u64 0,.int .u64 0,.int .u64 0,.int .u64 0,.int .u64 0,.int .u64 0,.int .u64 0,.int .u64 0,.int .u64 0,.int .u64 0,.int .u64 0,.int .u64 0,.int .u64 0,.int .u64 0,.int .u64 0,.int .u64 0] ty)).there w1 0 34/\(w1.alloc (.cells #[false,false,.int .u64 0,.int .u64 0,.int .u64 0,.int .u64 0,.int .u64 0,.int .u64 0,.int .u64 0,.int .u64 0,.int .u64 0,.int .u64 0,.int .u64 0,.int .u64 0,.int .u64 0,.int .u64 0,.int .u64 0,.int .u64 0,.int .u64 0,.int .u64 0,.int .u64 0,.int .u64 0,.int .u64 0,.int .u64 0,.int .u64 0,.int .u64 0,.int .u64 0,.int .u64 0,.int .u64 0,.int .u64 0,.int .u64 0,.int .u64 0,.int .u64 0,.int .u64 0] ty))=w1.heap.size+1:=
 ⟨aP,pX (aN w1 _),oO (aN w1 _) (ay _),aj⟩
def jA{w w' b o cs}(c:w.rangeAt b o cs)(d:aR w w'):w'.rangeAt b o cs:=fun j v hv=>by have a:=c j v hv;rw[d.cell (Dt w _ a)];exact a
def kr{w w' b o n}(e:w.there b o n)(c:aR w w'):w'.there b o n:=fun j g=>by obtain⟨a,f⟩:=e j g;obtain⟨u,h⟩:=Option.isSome_iff_exists.1 a;have d:=Dt w _ h;exact⟨by rw[c.cell d];exact a,by rw[c.frozen d];exact f⟩
def Be{w e f d:World}{U off cs}(a:w.grownBy e (some U))(b:aR e f)(c:gV f d w off cs):w.grownBy d U:=
 ⟨c.os.Z (b.os.Z a.os),c.tape.Z (b.tape.Z a.tape),c.output.Z (b.output.Z a.output),c.size▸aW a.size b.size,
   fun k g h=>(c.J k ad).Z ((b.J k (aQ a.size)).Z (a.J k g h))⟩
def F1(l:List ax)(i:Nat)(n:ax)(U:Nat)(w:World)(e:Ending)(w':World):Prop:=e=.returned (jU (factN l i))/\yq w w' U l i n
def Pt W0 w P F U R no nc l(a0:eG l)(cc:l.length<=60) i n(g:l[i]?=some n)(u:dv W0 no nc l)(f:nY W0 w P F U no nc l i)(M:R<w.heap.size)(C:gC w R 0 (.slice no l nc)):
 dB 202 #[.int .i64 i,R,P] w (F1 l i n U w):=by
 have c:=(aF.1 g).1;have s:=iA l 0 i n a0.ok g;rw[cH]at s;have o:=u.O f.base;have c:=o.2.2.1;unfold maxLen at c;have c:=o.2.1;obtain⟨b,c,rfl,q,E,G,I,J⟩:=o.at g;have c:b<W0.heap.size:=by
  obtain⟨c,d,e,r,_⟩:=u.2.2.2 ad;injection e with e
  injection e with c h d;clear d
  rw[c];exact r
 have B:=Pq a0.ok g;have r:=nL s;have⟨c,D,y,d⟩:=F0 w 223;have⟨h,K⟩:=am (w.alloc (.cells #[false,false,.int .u64 0,.int .u64 0,.int .u64 0,.int .u64 0,.int .u64 0,.int .u64 0,.int .u64 0,.int .u64 0,.int .u64 0,.int .u64 0,.int .u64 0,.int .u64 0,.int .u64 0,.int .u64 0,.int .u64 0,.int .u64 0,.int .u64 0,.int .u64 0,.int .u64 0,.int .u64 0,.int .u64 0,.int .u64 0,.int .u64 0,.int .u64 0,.int .u64 0,.int .u64 0,.int .u64 0,.int .u64 0,.int .u64 0,.int .u64 0,.int .u64 0,.int .u64 0] 223));rw[<-K]at c D y d;have⟨z,H,t⟩:=fQ h (.cells #[n.op,n.sym,n.a,n.b] 104);have cp:z=w.heap.size+2:=by rw[H];simp;omega
 have A:z.heap[w.heap.size+1]?=some (.cells #[.int .i64 n.op,.string ⟨n.sym.toArray⟩,.int .i64 n.a,.int .i64 n.b] 104):=by have:=aN h (.cells #[n.op,n.sym,n.a,n.b] 104);rw[d]at this;rw[H];exact this
 have m:=c.Z (t.zz c.size);have⟨bq,cd,ag,a5⟩:=dC A;have N:=kr y t;have d:(i:Int)<l:=ad;have⟨h,cb,d,bf,bB,ca,cG⟩:=td m N f B r s g;have co:=(m.cell f.lP).Z f.p0;have bl:=(m.cell f.lP).Z f.p1;have bo:=(m.cell f.lP).Z f.p2;have bi:=(c.cell M).Z C;have bb:=(c.cell q).Z E;have bc:=(c.cell q).Z G;have bd:=(c.cell q).Z I;have be:=(c.cell q).Z J;clear c t D y f B r o u E G I J C A m s g;obtain⟨c,sym,E,Z⟩:=n;simp only at H bq cd ag a5 bb bc bd be
 go_in
 rcases nM ca.o with e|e|e|e|e|e
 all_goals
  simp only at e;subst e
 case inl=>
  have u:factN l i=⟨true,false,0,0⟩:=by have:=bf.o;assumption
  have T:=ah u;clear u;go_wp2_with(first
   |(rw[<-K];clear K)
   |(rw[<-H];clear H bb bc bd be bi)
   |(refine rE ?_)
   |((refine kX ?_);intro b6 t)
   |fail)
  (try simp only[Exit.inBlock,Exit.then])
  (apply cQ (jm rfl _ _ _ 0 _ _ rfl t.zn lj rfl kn) rfl)
  exact⟨by rw[T.o];rfl,Bd (t.O h.o (ay _)) d.o.lU rfl⟩
 case inr.inl=>
  have u:factN l i=⟨false,true,0,0⟩:=by have:=bf.o;assumption
  have T:=ah u;clear u;go_wp2_with(first
   |(rw[<-K];clear K)
   |(rw[<-H];clear H bb bc bd be bi)
   |(refine rE ?_)
   |((refine kX ?_);intro b6 t)
   |fail)
  (try simp only[Exit.inBlock,Exit.then])
  (apply cQ (jm rfl _ _ _ 0 _ _ rfl t.zn lj rfl kn) rfl)
  exact⟨by rw[T.o];rfl,Bd (t.O h.o (ay _)) d.o.lU rfl⟩
 case inr.inr.inl=>
  have u:factN l i=⟨false,false,2^i,2^i⟩:=by have:=bf.o;assumption
  have T:=ah u;clear u;have⟨g,c,f,o⟩:=F0 z 223;have⟨y,m⟩:=am (z.alloc (.cells #[false,false,.int .u64 0,.int .u64 0,.int .u64 0,.int .u64 0,.int .u64 0,.int .u64 0,.int .u64 0,.int .u64 0,.int .u64 0,.int .u64 0,.int .u64 0,.int .u64 0,.int .u64 0,.int .u64 0,.int .u64 0,.int .u64 0,.int .u64 0,.int .u64 0,.int .u64 0,.int .u64 0,.int .u64 0,.int .u64 0,.int .u64 0,.int .u64 0,.int .u64 0,.int .u64 0,.int .u64 0,.int .u64 0,.int .u64 0,.int .u64 0,.int .u64 0,.int .u64 0] 223));rw[<-m]at g c f o;rw[cp]at c f o;have q:=h.o.Z (g.zz ad);have r:=kr cb.o g;have s:=FQ _ 2 0 i y ad aq (c 2 _ rfl) (f 2 aq).2;have⟨A,C,o,B⟩:=dE q r c f;clear g q r c f;go_wp2_with(first
   |(rw[<-K];clear K)
   |(rw[<-H];clear H bb bc bd be bi)
   |(rw[<-m];clear m)
   |fail)
  refine ar s ?_;rintro f ⟨bo,q⟩;have c:gF y f (w.heap.size+2) 2 (.int .u64 (kJ 0 i:Nat)):=by rw[q];exact nW (o.o 2 _ rfl)
  have f4:=yj o.o c;have o:=FQ (w.heap.size+2) 18 0 i f ad aq (f4 18 _ rfl) (by rw[c.frozen];exact(B.o 18 aq).2);have⟨m,g⟩:=aC c f4;clear q c f4 s;go_wp2_with fail
  refine ar o ?_;rintro r ⟨c,q⟩;have c:gF f r (w.heap.size+2) 18 (.int .u64 (kJ 0 i:Nat)):=by rw[q];exact nW (g.o 18 _ rfl)
  have f5:=yk g.o c;have t5:=c.row.there (m.o.row.there C.o);have g:=ah c;have f:kJ 0 i=2^i:=by simp[kJ]
  rw[f]at f5;simp only[kW]at f5;clear q c o f;go_wp2_with(first
   |(refine uZ ?_)
   |((refine kX ?_);intro b6 t)
   |fail)
  (try simp only[Exit.inBlock,Exit.then])
  (apply cQ (jm rfl _ _ _ 0 _ _ rfl t.zn lj rfl kn) rfl)
  exact⟨by rw[T.o];rfl,Bd (t.O (g.o.row.O (m.o.row.O A.o ad) ad) (ay _)) d.o.lU rfl⟩
 case inr.inr.inr.inl=>
  have u:factN l i=rD (factN l E.toNat) (factN l Z.toNat):=by have:=bf.o;assumption
  have a4:=bB.o E.toNat (by simp[bQ]);have b4:=bB.o Z.toNat (by simp[bQ]);have ae:=xD a0 cG.o (.inl rfl);have b3:0<=E/\0<=Z:=by have s:=ca.o;unfold eA at s;rw[ap aj,ap aj,au aj]at s;simp only[cM]at s;have o:=s.1.2;have B:=s.2;unfold cy at o B;simp at o B;omega
  obtain⟨c,rfl⟩:∃c:Nat,E=c:=⟨E.toNat,ad⟩;obtain⟨g,rfl⟩:∃g:Nat,Z=g:=⟨Z.toNat,ad⟩;simp only[nH]at u a4 b4 ae;have bE:Hid (bQ ⟨3,sym,c,g⟩=[c,g]):=by unfold Hid;simp[bQ]
  have T:=ah u;have a1:(c:Int)<l:=ad;have cN:(g:Int)<l:=ad;have cL:=aL c;have cO:=aL g;have Q:=d.o.lU;have ao:=(h.o.cell Q).Z (d.o.ups c ad);have a6:=(h.o.cell Q).Z (d.o.ups g ad);have b8:=(h.o.frozen Q).Z (d.o.uthere c ad);have b9:=(h.o.frozen Q).Z (d.o.uthere g ad);have G:gF z (z.setCell ⟨U,c,none⟩ (.int .i64 i)) U c (.int .i64 i):=nW (k:=0) ao;have O:w+1≠U:=ad;have cq:=(ej (a:=⟨P,2,none⟩) (G.J P d.o.pu)).Z bo;have cs:=(ej (G.J _ O)).Z ag;have cu:=(ej (G.J _ O)).Z a5;have cv:=(G.other g (fun e=>ae e.zy)).Z a6;have cx:=(G.frozen g).Z b9;have⟨b7,a9⟩:=am (z.setCell ⟨U,c,none⟩ (.int .i64 i));have q:=G;rw[<-a9]at q;have b1:=(q.other g (fun e=>ae e.zy)).Z a6;have⟨C,Y⟩:=am (b7.setCell ⟨U,g,none⟩ (.int .i64 i));have m:gF b7 C U g (.int .i64 (i:Nat)):=by rw[Y];exact nW (k:=0) b1
  have⟨ba,D⟩:=am (World.drew C);have⟨f,r⟩:=am (World.drew ba);have W:∀x,f.cell? x=C.cell? x:=fun x=>by rw[r,D];simp
  have aa:∀x,f.frozen? x=C.frozen? x:=fun x=>by rw[r,D];simp
  have N:f.heap=C.heap:=by rw[r,D];rfl
  have V:∀k,k≠U->f.heap[k]?=z.heap[k]?:=fun k o=>by rw[N];exact(m.J k o).Z (q.J k o)
  have aw:w.grownBy f (some U):=by refine⟨?_,?_,?_,?_,fun k o B=>(V k (fun e=>B (by rw[e]))).Z (h.o.J k o)⟩;rw[r,D];exact m.os.Z (q.os.Z h.o.os);rw[r,D];exact m.tape.Z (q.tape.Z h.o.tape);rw[r,D];exact m.output.Z (q.output.Z h.o.output);rw[N];have o:=m.size;have B:=q.size;omega
  have a2:∀j,f.cell? ⟨U,j,none⟩=if j∈[c,g]then some (.int .i64 (i:Nat))else w.cell? ⟨U,j,none⟩:=fun j=>by rw[W];by_cases a7:j=g;subst a7;rw[m.zn,au aj];rw[m.other j a7];by_cases X:j=c;subst X;rw[q.zn,au aj];rw[q.other j X,ap (by simp[X,a7])];exact h.o.cell d.o.lU
  have av:∀j,f.frozen? ⟨U,j,none⟩=w.frozen? ⟨U,j,none⟩:=fun j=>by rw[aa,m.frozen,q.frozen];exact h.o.frozen d.o.lU
  have an:f.there w.heap.size 0 34:=fun j a3=>by have s:=(m.row.there (q.row.there cb.o)) j a3;exact⟨by rw[W];exact s.1,by rw[aa];exact s.2⟩
  have y:∀A M v,A≠U->gC z A M v->gC f A M v:=fun A M v o B=>
   (ej (V A o)).Z B
  have S:f.rangeAt F (c*34) (factRow (factN l c)):=fun j v hv=>y F _ _ d.o.fu ((h.o.cell d.o.lF).Z (d.o.zj c ad j v hv));have al:f.rangeAt F (g*34) (factRow (factN l g)):=fun j v hv=>y F _ _ d.o.fu ((h.o.cell d.o.lF).Z (d.o.zj g ad j v hv));have cl:=y _ _ _ O bq;have J:=y _ _ _ O ag;have ab:=y _ _ _ O a5;have I:=y P 1 _ d.o.pu bl;have b5:f=w.heap.size+2:=by rw[N,m.size,q.size];exact cp
  have⟨bZ,bt,bz,bA,bF,bu,bw,cg,ch,bg⟩:=jB (Pn (factN l c) (factN l g) (mi a0 cc ad) (mi a0 cc ad) f) a2 av aw an I J ab b5 S;have ci:=ah al;unfold jU at bZ;clear u a4 b4 b3 G q m W aa N V aw a2 av an y b1 cl I J ab b5 S al co bl;go_wp2_with(first
   |(rw[<-K];clear K)
   |(rw[<-H];clear H bb bc bd be bi)
   |fail)
  clear bq cd;go_region
  clear ao a6 b8 b9 cq cs cu cv cx ag a5 bo ae;rw[<-a9,<-Y,<-D];clear a9 Y D;go_wp2_with fail
  have I:=bu.o;have J:=bw.o;have ab:=cg.o;have S:=bg.o;have al:=ci.o;apply KP 12 az az;change wpStill _ _ (World.drew ba) (fun b0=>wpList _ _ _ _ b0 (World.drew ba)) _ _;rw[<-r];clear r;simp only[zT,List.take_zero,KQ,Du];repeat(first|((with_reducible apply Bc (ty:=223));exact rfl;exact rfl;exact rfl;assumption;exact lj;exact rfl;rfl)|still_step)
  try apply wpStill_nil
  clear I J ab S al;go_wp2_with fail
  refine ar bZ.o ?_;intro cS af;have cP:=kr bF.o af;go_wp2_with(first
   |((refine kX ?_);intro b6 t)
   |fail)
  (try simp only[Exit.inBlock,Exit.then])
  (apply cQ (jm rfl _ _ _ 0 _ _ rfl t.zn lj rfl kn) rfl)
  have b2:U<f.heap.size:=by rw[ch.o];omega
  refine⟨by rw[T.o];rfl,⟨?_,fun j a3=> ?_,fun j=> ?_⟩⟩;exact Be bA.o af t;rw[bE.o,t.far ad,af.cell b2];exact bt.o j;rw[t.fz,af.frozen b2];exact bz.o j
 case inr.inr.inr.inr.inl=>
  have u:factN l i=uU (factN l E.toNat) (factN l Z.toNat):=by have:=bf.o;assumption
  have a4:=bB.o E.toNat (by simp[bQ]);have b4:=bB.o Z.toNat (by simp[bQ]);have ae:=xD a0 cG.o (.inr rfl);have b3:0<=E/\0<=Z:=by have s:=ca.o;unfold eA at s;rw[ap aj,ap aj,au aj]at s;simp only[cM]at s;have o:=s.1.2;have B:=s.2;unfold cy at o B;simp at o B;omega
  obtain⟨c,rfl⟩:∃c:Nat,E=c:=⟨E.toNat,ad⟩;obtain⟨g,rfl⟩:∃g:Nat,Z=g:=⟨Z.toNat,ad⟩;simp only[nH]at u a4 b4 ae;have bE:Hid (bQ ⟨4,sym,c,g⟩=[c,g]):=by unfold Hid;simp[bQ]
  have T:=ah u;have a1:(c:Int)<l:=ad;have cN:(g:Int)<l:=ad;have cL:=aL c;have cO:=aL g;have Q:=d.o.lU;have ao:=(h.o.cell Q).Z (d.o.ups c ad);have a6:=(h.o.cell Q).Z (d.o.ups g ad);have b8:=(h.o.frozen Q).Z (d.o.uthere c ad);have b9:=(h.o.frozen Q).Z (d.o.uthere g ad);have G:gF z (z.setCell ⟨U,c,none⟩ (.int .i64 (i:Nat))) U c (.int .i64 (i:Nat)):=nW (k:=0) ao;have O:w+1≠U:=ad;have cq:=(ej (a:=⟨P,2,none⟩) (G.J P d.o.pu)).Z bo;have cs:=(ej (G.J _ O)).Z ag;have cu:=(ej (G.J _ O)).Z a5;have cv:=(G.other g (fun e=>ae e.zy)).Z a6;have cx:=(G.frozen g).Z b9;have⟨b7,a9⟩:=am (z.setCell ⟨U,c,none⟩ (.int .i64 i));have q:=G;rw[<-a9]at q;have b1:=(q.other g (fun e=>ae e.zy)).Z a6;have⟨C,Y⟩:=am (b7.setCell ⟨U,g,none⟩ (.int .i64 i));have m:gF b7 C U g (.int .i64 (i:Nat)):=by rw[Y];exact nW (k:=0) b1
  have⟨ba,D⟩:=am (World.drew C);have⟨f,r⟩:=am (World.drew ba);have W:∀x,f.cell? x=C.cell? x:=fun x=>by rw[r,D];simp
  have aa:∀x,f.frozen? x=C.frozen? x:=fun x=>by rw[r,D];simp
  have N:f.heap=C.heap:=by rw[r,D];rfl
  have V:∀k,k≠U->f.heap[k]?=z.heap[k]?:=fun k o=>by rw[N];exact(m.J k o).Z (q.J k o)
  have aw:w.grownBy f (some U):=by refine⟨?_,?_,?_,?_,fun k o B=>(V k (fun e=>B (by rw[e]))).Z (h.o.J k o)⟩;rw[r,D];exact m.os.Z (q.os.Z h.o.os);rw[r,D];exact m.tape.Z (q.tape.Z h.o.tape);rw[r,D];exact m.output.Z (q.output.Z h.o.output);rw[N];have o:=m.size;have B:=q.size;omega
  have a2:∀j,f.cell? ⟨U,j,none⟩=if j∈[c,g]then some (.int .i64 (i:Nat))else w.cell? ⟨U,j,none⟩:=fun j=>by rw[W];by_cases a7:j=g;subst a7;rw[m.zn,au aj];rw[m.other j a7];by_cases X:j=c;subst X;rw[q.zn,au aj];rw[q.other j X,ap (by simp[X,a7])];exact h.o.cell d.o.lU
  have av:∀j,f.frozen? ⟨U,j,none⟩=w.frozen? ⟨U,j,none⟩:=fun j=>by rw[aa,m.frozen,q.frozen];exact h.o.frozen d.o.lU
  have an:f.there w.heap.size 0 34:=fun j a3=>by have s:=(m.row.there (q.row.there cb.o)) j a3;exact⟨by rw[W];exact s.1,by rw[aa];exact s.2⟩
  have y:∀(A M:Nat) (v:Value),A≠U->z.cell? ⟨A,M,none⟩=some v->f.cell? ⟨A,M,none⟩=some v:=fun A M v o B=>
   (ej (w:=z) (w':=f) (a:=⟨A,M,none⟩) (V A o)).Z B
  have S:f.rangeAt F (c*34) (factRow (factN l c)):=fun j v hv=>y F _ _ d.o.fu ((h.o.cell (p:=⟨F,c*34+j,none⟩) d.o.lF).Z (d.o.zj c ad j v hv));have al:f.rangeAt F (g*34) (factRow (factN l g)):=fun j v hv=>y F _ _ d.o.fu ((h.o.cell (p:=⟨F,g*34+j,none⟩) d.o.lF).Z (d.o.zj g ad j v hv));have cl:=y _ _ _ O bq;have J:=y _ _ _ O ag;have ab:=y _ _ _ O a5;have I:=y P 1 _ d.o.pu bl;have b5:f=w.heap.size+2:=by rw[N,m.size,q.size];exact cp
  have⟨bZ,bt,bz,bA,bF,bu,bw,cg,ch,bg⟩:=jB (Pm (factN l c) (factN l g) (mi a0 cc ad) (mi a0 cc ad) f) a2 av aw an I J ab b5 S;have ci:=ah al;unfold jU at bZ;clear u a4 b4 b3 G q m W aa N V aw a2 av an y b1 cl I J ab b5 S al co bl;go_wp2_with(first
   |(rw[<-K];clear K)
   |(rw[<-H];clear H bb bc bd be bi)
   |fail)
  clear bq cd;go_region
  clear ao a6 b8 b9 cq cs cu cv cx ag a5 bo ae;rw[<-a9,<-Y,<-D];clear a9 Y D;go_wp2_with fail
  have I:=bu.o;have J:=bw.o;have ab:=cg.o;have S:=bg.o;have al:=ci.o;apply KP 12 az az;change wpStill _ _ (World.drew ba) (fun b0=>wpList _ _ _ _ b0 (World.drew ba)) _ _;rw[<-r];clear r;simp only[zT,List.take_zero,KQ,Du];repeat(first|((with_reducible apply Bc (ty:=223));exact rfl;exact rfl;exact rfl;assumption;exact lj;exact rfl;rfl)|still_step)
  try apply wpStill_nil
  clear I J ab S al;go_wp2_with fail
  refine ar bZ.o ?_;intro cS af;have cP:=kr bF.o af;go_wp2_with(first
   |((refine kX ?_);intro b6 t)
   |fail)
  (try simp only[Exit.inBlock,Exit.then])
  (apply cQ (jm rfl _ _ _ 0 _ _ rfl t.zn lj rfl kn) rfl)
  have b2:U<f.heap.size:=by rw[ch.o];omega
  refine⟨by rw[T.o];rfl,⟨?_,fun j a3=> ?_,fun j=> ?_⟩⟩;exact Be bA.o af t;rw[bE.o,t.far ad,af.cell b2];exact bt.o j;rw[t.fz,af.frozen b2];exact bz.o j
 case inr.inr.inr.inr.inr=>
  have u:factN l i=⟨false,true,(factN l E.toNat).f,(factN l E.toNat).l⟩:=by have:=bf.o;assumption
  have a4:=bB.o E.toNat (by simp[bQ]);have b3:0<=E:=by have s:=ca.o;unfold eA at s;rw[ap aj,ap aj,ap aj,au aj]at s;simp only[cM]at s;have o:=s.1.2;unfold cy at o;simp at o;omega
  obtain⟨c,rfl⟩:∃c:Nat,E=c:=⟨E.toNat,ad⟩;simp only[nH]at u a4;have bE:Hid (bQ ⟨5,sym,c,Z⟩=[c]):=by unfold Hid;simp[bQ]
  have T:=ah u;have a1:(c:Int)<l:=ad;have cL:=aL c;have Q:=d.o.lU;have ao:=(h.o.cell Q).Z (d.o.ups c ad);have b8:=(h.o.frozen Q).Z (d.o.uthere c ad);have O:w+1≠U:=ad;have⟨C,Y⟩:=am (z.setCell ⟨U,c,none⟩ (.int .i64 i));have m:gF z C U c (.int .i64 (i:Nat)):=by rw[Y];exact nW (k:=0) ao
  have⟨f,r⟩:=am (World.drew C);have W:∀x,f.cell? x=C.cell? x:=fun x=>by rw[r];simp
  have aa:∀x,f.frozen? x=C.frozen? x:=fun x=>by rw[r];simp
  have N:f.heap=C.heap:=by rw[r];rfl
  have V:∀k,k≠U->f.heap[k]?=z.heap[k]?:=fun k o=>by rw[N];exact m.J k o
  have aw:w.grownBy f (some U):=by refine⟨?_,?_,?_,?_,fun k o B=>(V k (fun e=>B (by rw[e]))).Z (h.o.J k o)⟩;rw[r];exact m.os.Z h.o.os;rw[r];exact m.tape.Z h.o.tape;rw[r];exact m.output.Z h.o.output;rw[N];have o:=m.size;omega
  have a2:∀j,f.cell? ⟨U,j,none⟩=if j∈[c]then some (.int .i64 (i:Nat))else w.cell? ⟨U,j,none⟩:=fun j=>by rw[W];by_cases X:j=c;subst X;rw[m.zn,au aj];rw[m.other j X,ap (by simp[X])];exact h.o.cell d.o.lU
  have av:∀j,f.frozen? ⟨U,j,none⟩=w.frozen? ⟨U,j,none⟩:=fun j=>by rw[aa,m.frozen];exact h.o.frozen d.o.lU
  have an:f.there w.heap.size 0 34:=fun j a3=>by have s:=(m.row.there cb.o) j a3;exact⟨by rw[W];exact s.1,by rw[aa];exact s.2⟩
  have y:∀(A M:Nat) (v:Value),A≠U->z.cell? ⟨A,M,none⟩=some v->f.cell? ⟨A,M,none⟩=some v:=fun A M v o B=>
   (ej (w:=z) (w':=f) (a:=⟨A,M,none⟩) (V A o)).Z B
  have S:f.rangeAt F (c*34) (factRow (factN l c)):=fun j v hv=>y F _ _ d.o.fu ((h.o.cell (p:=⟨F,c*34+j,none⟩) d.o.lF).Z (d.o.zj c ad j v hv));have J:=y _ _ _ O ag;have I:=y P 1 _ d.o.pu bl;have⟨bt,bz,bA,bF,bu,bw,bg⟩:=td a2 av aw an I J S;clear u a4 b3 m W aa N V aw a2 av an y I J S co bl;go_wp2_with(first
   |(rw[<-K];clear K)
   |(rw[<-H];clear H bb bc bd be bi)
   |(rw[<-Y];clear Y bq cd ag a5 bo ao b8)
   |fail)
  have I:=bu.o;have J:=bw.o;have c:=lH bg.o;have d:=oN bg.o;apply KP 14 az az;change wpStill _ _ (World.drew C) (fun b0=>wpList _ _ _ _ b0 (World.drew C)) _ _;rw[<-r];clear r;simp only[zT,List.take_zero,KQ,Du];repeat(first|((with_reducible apply Bc (ty:=221));exact rfl;exact rfl;exact rfl;assumption;exact KR;exact rfl;rfl)|still_step)
  try apply wpStill_nil
  clear I J c d;have c:=bF.o;go_wp2_with(first
   |(refine rE ?_)
   |((refine kX ?_);intro b6 t)
   |fail)
  (try simp only[Exit.inBlock,Exit.then])
  (apply cQ (jm rfl _ _ _ 0 _ _ rfl t.zn lj rfl kn) rfl)
  refine⟨by rw[T.o];rfl,⟨Be bA.o (aA _ _) t,fun j a3=> ?_,fun j=> ?_⟩⟩;rw[bE.o,t.far ad];exact bt.o j;rw[t.fz];exact bz.o j
def iM{l}(c:bK l=0):eG l/\0<l.length:=by
 unfold bK at c;split at c;omega;split at c;omega;rename_i d;have hF:=qU (by simpa using d);exact⟨hF,by have:=hF.ne;cases l with
  |nil=>exact absurd rfl this
  |cons a b=>simp⟩
def pZ(z:List Value){n i j}(d:i<n)(a:j<z.length):(madeCells z (n*z))[i*z+j]?=z[j]?:=by
 have b:i*z.length+j<n*z.length:=by have:(i+1)*z<=n*z:=Dv _ d;rw[Nat.add_mul]at this;omega
 unfold madeCells;rw[Array.getElem?_map,Array.getElem?_range,au b];have c:(i*z+j) % z=j:=by rw[Nat.mul_comm,Nat.mul_add_mod,Nat.mod_eq_of_lt a]
 simp[c,a]
def p6{w:World}{p v}(a:w.cell? p=some v) ob:(w.alloc ob).cell? p=v:=by rw[World.cell?_alloc_lt _ _ _ (Dt w p a)];exact a
structure lI(w:World)(F U:Nat)(l:List ax):Prop where
 lF:F<w.heap.size
 lU:U<w.heap.size
 zj:∀i,i<l.length->w.rangeAt F (i*34) (factRow (factN l i))
 ups:∀j,j<l.length->w.cell? ⟨U,j,none⟩=some (.int .i64 (aboveV l l.length j))
def lI.O{w w':World}{F U:Nat}{l:List ax}(a:lI w F U l)(b:Below w.heap.size w w'):lI w' F U l:=
 ⟨eU a.lF b.size,eU a.lU b.size,fun i c=>jA (a.zj i c) b,fun j d=>(b.cell a.lU).Z (a.ups j d)⟩
def Pu:(prog.info? 216).map (·.size)=some 3:=az
def WD(a b c:Value)(d:a.oneCell'=true:=by rfl)(e:b.oneCell'=true:=by rfl)(f:c.oneCell'=true:=by rfl):∀v∈[a,b,c],v.oneCell'=true:=by intro v hv;simp at hv;rcases hv with rfl|rfl|rfl<;>assumption
def Pv{P fn}{p t:Tmp}{ty}(a:fn.results=#[.cell p ty,.tmp t]) tmps w b o cs d
 (g:tmps.getD p undef=.pointer (some ⟨b,o,none⟩)) (c:w.rangeAt b o cs)
 (i:P.underlying ty=some d) (e:d.isRow=true) (f:(P.info? ty).map (·.size)=cs.length):
 (results fn tmps).run P w=.ok (.tuple #[.agg cs.toArray,tmps.getD t undef]) w:=by
 have h:tmps[p]?.getD undef=.pointer (some ⟨b,o,none⟩):=by simpa using g
 simp[results,a,h,asAddr,KO w b o ty cs d c i e f]
def Pw{P} w b o cs(c:w.there b o cs)(d:∀v∈cs,v.oneCell'=true):(storeCells ⟨b,o,none⟩ cs).run P w=.ok () (w.setCells b o cs):=by have:=run_storeCells_cells (P:=P) b o cs 0 w (fun j a=>by simpa using(c j a).1) (fun j a=>by simpa using(c j a).2) (fun v hv=>d v hv);omega
def Px{w:World}{b o b' o' cs v}(a:gC w b' o' v)(c:b'≠b):(w.setCells b o cs).cell? ⟨b',o',none⟩=v:=
 (World.cell?_setCells_out b cs o w _ (fun e _=>absurd e c)).Z a
structure rF(w2 wz:World)(P F U:Nat)(no:Option Addr)(nc n:Nat)(M1 M2:Array Value):Prop where
 base:Below w2.heap.size w2 wz
 hP:w2.heap.size<=P
 hF:w2.heap.size<=F
 hU:w2.heap.size<=U
 pf:P≠F
 pu:P≠U
 fu:F≠U
 p:wz.heap[P]?=some (.cells #[.slice no n nc,.slice (some ⟨F,0,none⟩) n n,.slice (some ⟨U,0,none⟩) n n] 216)
 f:wz.heap[F]?=some (.cells M1 223)
 u:wz.heap[U]?=some (.cells M2 3)
def te w2 a b c:aR w2 (World.drew (((w2.alloc a).alloc b).alloc c))/\(World.drew (((w2.alloc a).alloc b).alloc c)).heap[w2.heap.size]?=a/\(World.drew (((w2.alloc a).alloc b).alloc c)).heap[w2.heap.size+1]?=b/\(World.drew (((w2.alloc a).alloc b).alloc c)).heap[w2.heap.size+1+1]?=c:=by
 have f:=aN w2 a;have d:=aN (w2.alloc a) b;have e:=aN ((w2.alloc a).alloc b) c;simp only[bP]at d e;refine⟨((aP.alloc aj _).alloc aO _).drew,?_,?_,e⟩;show(((w2.alloc a).alloc b).alloc c).heap[w2.heap.size]?=a
 rw[br _ _ _ aO,br _ _ _ aj];exact f;show(((w2.alloc a).alloc b).alloc c).heap[w2.heap.size+1]?=b
 rw[br _ _ _ aj];exact d
def Py{l}(hF:eG l){k n}(c:l[k]?=some n){j}(p:j<l.length):aboveV l (k+1) j=if j∈bQ n then(k:Int)else aboveV l k j:=by
 have q:=(aF.1 c).1;have h:=iA l 0 k n hF.ok c;rw[cH]at h;unfold aboveV;by_cases a:j∈bQ n;have d:=nL h j a;have f:=qV hF c a;rw[au a,ap ad,au ad,f];rw[ap a];by_cases d:j=l-1;omega;rw[ap d,ap d];have⟨i,m,b,g,_,o⟩:=Al hF (j:=j) ad;have r:ja l j≠k:=fun e=>by
  rw[o]at e;subst e;rw[c]at b;injection b with b
  rw[<-b]at g;exact a g
 by_cases f:ja l j<k;omega;omega
def nY.next{t w w1 s:World}{P F U:Nat}{no:Option Addr}{A:Nat}{l:List ax}{k:Nat}{n:ax}(B:eG l)(z:l[k]?=some n)(c:nY t w P F U no A l k)(f:yq w w1 U l k n)(d:gV w1 s F (k*34) (factRow (factN l k))):nY t s P F U no A l (k+1):=by
 have E:=(aF.1 z).1;have p:=f.zu.size;have r:∀b o,b≠U->b≠F->b<w.heap.size->s.cell? ⟨b,o,none⟩=w.cell? ⟨b,o,none⟩:=fun b o q h u=>by rw[d.far h];exact ej (f.zu.J b u aO)
 have x:=fun o=>ej (a:=⟨F,o,none⟩) (f.zu.J F c.lF (by simp;exact c.fu));have D:=fun o=>ug (a:=⟨F,o,none⟩) (f.zu.J F c.lF (by simp;exact c.fu));refine⟨⟨?_,?_,?_,?_,fun b C=> ?_⟩,c.hP,c.hF,c.hU,?_,?_,?_,c.pf,c.pu,c.fu,?_,?_,?_,fun i y=> ?_,fun i y j g=> ?_,fun j g=> ?_,fun j g=> ?_⟩;exact d.os.Z (f.zu.os.Z c.base.os);exact d.tape.Z (f.zu.tape.Z c.base.tape);exact d.output.Z (f.zu.output.Z c.base.output);rw[d.size];exact aW c.base.size p;have q:=c.hU;have h:=c.hF;have u:=c.base.size;exact(d.J b ad).Z ((f.zu.J b ad aO).Z (c.base.J b C));rw[d.size];exact eU c.lP p;rw[d.size];exact eU c.lF p;rw[d.size];exact eU c.lU p;rw[r P 0 c.pu c.pf c.lP];exact c.p0;rw[r P 1 c.pu c.pf c.lP];exact c.p1;rw[r P 2 c.pu c.pf c.lP];exact c.p2;by_cases e:i=k;subst e;exact d.zn;refine d.range (fun j v hv=> ?_) (.inr (.inl ?_));rw[x];exact c.zj i ad j v hv;rw[uV];omega;refine d.there (fun j g=> ?_) j g;obtain⟨q,h⟩:=c.fthere i y j g;exact⟨by rw[x];exact q,by rw[D];exact h⟩;rw[d.far (fun e=>c.fu e.zy),f.zn j g,Py B z g,c.ups j g];by_cases m:j∈bQ n;rw[au m,au m];rw[ap m,ap m];rw[d.fz,f.frozen];exact c.uthere j g
def nY.drew{b w:World}{P F U:Nat}{no:Option Addr}{c:Nat}{l:List ax}{k:Nat}(a:nY b w P F U no c l k):nY b w.drew P F U no c l k:=
 ⟨a.base.drew,a.hP,a.hF,a.hU,a.lP,a.lF,a.lU,a.pf,a.pu,a.fu,a.p0,a.p1,a.p2,a.zj,a.fthere,a.ups,a.uthere⟩
def Pz:∀args a,(callFunc 202 args).run prog a=.ok (.enter 202 args) a:=fun _ _=>rfl
def PC l j:aboveV l 0 j=if j=l-1 then-1 else 0:=by unfold aboveV;simp
def PD{W0 w2 wz wy P F U no nc l M1 M2}(u:0<l.length)(f:aR W0 w2)(a:rF w2 wz P F U no nc l.length M1 M2)
 (g:M1=madeCells (factRow kW) (l.length*(factRow kW))) (h:M2=madeCells [Value.int .i64 0] (l.length*[Value.int .i64 0]))
 (b:gF wz wy U (l.length-1) (.int .i64 (-1))):nY W0 wy P F U no nc l 0:=by
 have n:=f.size;have q:=aS a.p;have p:=aS a.f;have r:=aS a.u;have m:=f.Z (a.base.zz n);have s:=a.hP;have hF:=a.hF;have t:=a.hU;have o:∀j,j<l.length->wz.cell? ⟨U,j,none⟩=some (.int .i64 0):=fun j c=>by rw[ak j a.u,h];have:=pZ [Value.int .i64 0] (j:=0) c aj;simpa using this
 refine⟨b.row.O m ad,ad,ad,ad,b.size▸q,b.size▸p,b.size▸r,a.pf,a.pu,a.fu,?_,?_,?_,fun i d=>absurd d (Nat.not_lt_zero _),fun i d j c=> ?_,fun j c=> ?_,fun j c=> ?_⟩;rw[b.row.far a.pu];exact ak 0 a.p;rw[b.row.far a.pu];exact ak 1 a.p;rw[b.row.far a.pu];exact ak 2 a.p;refine⟨?_,?_⟩;rw[b.row.far a.fu,ak _ a.f,g];have:=pZ (factRow kW) d (by rw[uV];exact c);rw[uV]at this;rw[uV,this];rw[cV (by rw[uV];exact c)];rfl;rw[b.row.fz];exact aJ a.f _;rw[PC];by_cases e:j=l-1;subst e;rw[au rfl];exact b.zn;rw[ap e,b.other j e];exact o j c;rw[b.frozen];exact aJ a.u _
def jC(no:Option Addr)(a n F U:Nat):Value:=.agg #[.slice no n a,.slice F n n,.slice U n n]
def PE(l:List ax)(no:Option Addr)(a:Nat)(w:World)(e:Ending)(w':World):Prop:=∃F U,e=.returned (.tuple #[jC no a l F U,true])/\lI w' F U l/\aR w w'
def va l no nc w(q:bK l=0)(Q:l.length<=60)(c:dv w no nc l)(A:∀n∈l,n.sym.length<=1048576):
 dB 141 #[.agg #[.slice no l nc]] w (PE l no nc w):=by
 have a:=c.2.2.1;unfold maxLen at a;have a:=c.2.1;have⟨w1,a⟩:=am ((w.alloc (.cells #[.slice no l nc] 52)).alloc (.cells dx 216));have m:aR w w1:=by rw[a];exact aP.alloc aj _
 have o:w1.heap[w.heap.size]?=some (.cells #[.slice no l.length nc] 52):=by rw[a];exact(br _ _ _ aj).Z (aN w _)
 have B:w1.heap[w.heap.size+1]?=some (.cells dx 216):=by rw[a];have:=aN (cT w #[.slice no l nc] 52) (.cells dx 216);rwa[bP]at this
 have J:=ak 0 o;have R:w1=w.heap.size+2:=by rw[a];simp
 have t:=xm l no nc w1 (c.O m) A;rw[q]at t;have⟨M,d,N,E,v⟩:=iz c o B m t;have⟨f,r⟩:=am (madeCells (factRow kW) (l*(factRow kW)));have⟨g,s⟩:=am (madeCells [Value.int .i64 0] (l*[Value.int .i64 0]));have⟨D,u,h⟩:∃i,prog.info? 223=some i/\(i.zero=(jU kW)/\i.size=34/\i.bytes=264):=by obtain⟨i,x,d⟩:=qH.1 (show(prog.info? 223).map (fun i=>(i.zero,i.size,i.bytes))=(some (jU kW),34,264) by kernel_rfl);simp only[ww]at d;exact⟨i,x,d.1,d.2.1,d.2.2⟩
 have y:∀d,(Instr.makeSlice 214 (.int .i64 (l.length:Int)) (.int .i64 (l.length:Int))).run prog d=.ok (.slice (some ⟨d.heap.size,0,none⟩) l.length l.length) (d.alloc (.cells f 223)):=fun d=>by have:=sj (P:=prog) d 214 223 D (jU kW) underlying214 u h.1 .i64 .i64 l.length l.length ad ad (by rw[h.2.2];omega) ad;simp only[nH,h.2.1]at this;rw[this,r];rfl
 have⟨C,x,G,H,K⟩:=cZ lm;have z:∀d,(Instr.makeSlice 41 (.int .i64 (l.length:Int)) (.int .i64 (l.length:Int))).run prog d=.ok (.slice (some ⟨d.heap.size,0,none⟩) l.length l.length) (d.alloc (.cells g 3)):=fun d=>by have:=run_make_row (P:=prog) 41 3 C (.int .i64 0) j9 x G H rfl .i64 .i64 l.length (by rw[K];omega) ad d;rw[this,s,wh,wj]
 have⟨O,I⟩:=aC r s;have C:=q;clear c o B m t r s u h x G H K A q
 go_in
 go_wp2_with fail
 rw[<-a];clear a;refine ar v.o ?_;intro a c;have t:=(c.cell (p:=⟨w.heap.size,0,none⟩) (by rw[R];show w.heap.size<_;omega)).Z J;have u:w+2<=a.heap.size:=aQ c.size;have A:w<a.heap.size:=ad;have⟨G,H,K⟩:=bm c t u;clear J c v;go_wp2_with fail
 have v:a.drew.cell? ⟨w.heap.size,0,none⟩=some (.slice no l.length nc):=by simpa using t
 go_region_held3(fun w'=>w'.cell? ⟨w.heap.size,0,none⟩=some (.slice no l.length nc)) (first|exact v|exact p6 fX _|exact p6 (p6 (p6 t _) _) _) (fail)
 have c:rF a (World.drew (((a.alloc (.cells f 223)).alloc (.cells g 3)).alloc (.cells #[.slice no l.length nc,.slice (some ⟨a.heap.size,0,none⟩) l.length l.length,.slice (some ⟨a.heap.size+1,0,none⟩) l.length l.length] 216))) (a.heap.size+1+1) a.heap.size (a.heap.size+1) no nc l.length f g:=by obtain⟨q,r,m,o⟩:=te a (.cells f 223) (.cells g 3) (.cells #[.slice no l nc,.slice a l l,.slice (some ⟨a+1,0,none⟩) l l] 216);exact⟨q,ad,ad,ad,ad,ad,ad,o,r,m⟩
 have⟨d,h⟩:=am (World.drew (cT ((a.alloc (.cells f 223)).alloc (.cells g 3)) #[.slice no l nc,.slice a l l,.slice (some ⟨a+1,0,none⟩) l l] 216));rw[<-h]at c⊢;rename_i s;clear h u A v t y z s;generalize a.heap.size+1+1=P at c⊢;generalize a.heap.size+1=U at c⊢;generalize a.heap.size=F at c⊢;revert c;revert U;revert F;revert P;revert d;intro d P F U c;rotate_left;have c:rF a (World.drew (((a.alloc (.cells f 223)).alloc (.cells #[.slice no l.length nc,.slice (some ⟨a.heap.size,0,none⟩) l.length l.length,.slice (some ⟨a.heap.size+1+1,0,none⟩) l.length l.length] 216)).alloc (.cells g 3))) (a.heap.size+1) a.heap.size (a.heap.size+1+1) no nc l.length f g:=by obtain⟨q,r,m,o⟩:=te a (.cells f 223) (.cells #[.slice no l nc,.slice a l l,.slice (some ⟨a+1+1,0,none⟩) l l] 216) (.cells g 3);exact⟨q,ad,ad,ad,ad,ad,ad,m,r,o⟩
 have⟨d,h⟩:=am (World.drew (cT ((a.alloc (.cells f 223)).alloc (.cells #[.slice no l nc,.slice a l l,.slice (some ⟨a+1+1,0,none⟩) l l] 216)) g 3));rw[<-h]at c⊢;rename_i s;clear h u A v t y z s;generalize a.heap.size+1+1=U at c⊢;generalize a.heap.size+1=P at c⊢;generalize a.heap.size=F at c⊢;revert c;revert U;revert F;revert P;revert d;intro d P F U c;rotate_left;have c:rF a (World.drew (((a.alloc (.cells g 3)).alloc (.cells f 223)).alloc (.cells #[.slice no l.length nc,.slice (some ⟨a.heap.size+1,0,none⟩) l.length l.length,.slice (some ⟨a.heap.size,0,none⟩) l.length l.length] 216))) (a.heap.size+1+1) (a.heap.size+1) a.heap.size no nc l.length f g:=by obtain⟨q,r,m,o⟩:=te a (.cells g 3) (.cells f 223) (.cells #[.slice no l nc,.slice (some ⟨a+1,0,none⟩) l l,.slice a l l] 216);exact⟨q,ad,ad,ad,ad,ad,ad,o,m,r⟩
 have⟨d,h⟩:=am (World.drew (cT ((a.alloc (.cells g 3)).alloc (.cells f 223)) #[.slice no l nc,.slice (some ⟨a+1,0,none⟩) l l,.slice a l l] 216));rw[<-h]at c⊢;rename_i s;clear h u A v t y z s;generalize a.heap.size+1+1=P at c⊢;generalize a.heap.size+1=F at c⊢;generalize a.heap.size=U at c⊢;revert c;revert U;revert F;revert P;revert d;intro d P F U c;rotate_left;have c:rF a (World.drew (((a.alloc (.cells g 3)).alloc (.cells #[.slice no l.length nc,.slice (some ⟨a.heap.size+1+1,0,none⟩) l.length l.length,.slice (some ⟨a.heap.size,0,none⟩) l.length l.length] 216)).alloc (.cells f 223))) (a.heap.size+1) (a.heap.size+1+1) a.heap.size no nc l.length f g:=by obtain⟨q,r,m,o⟩:=te a (.cells g 3) (.cells #[.slice no l nc,.slice (some ⟨a+1+1,0,none⟩) l l,.slice a l l] 216) (.cells f 223);exact⟨q,ad,ad,ad,ad,ad,ad,m,o,r⟩
 have⟨d,h⟩:=am (World.drew (cT ((a.alloc (.cells g 3)).alloc (.cells #[.slice no l nc,.slice (some ⟨a+1+1,0,none⟩) l l,.slice a l l] 216)) f 223));rw[<-h]at c⊢;rename_i s;clear h u A v t y z s;generalize a.heap.size+1+1=F at c⊢;generalize a.heap.size+1=P at c⊢;generalize a.heap.size=U at c⊢;revert c;revert U;revert F;revert P;revert d;intro d P F U c;rotate_left;have c:rF a (World.drew (((a.alloc (.cells #[.slice no l.length nc,.slice (some ⟨a.heap.size+1,0,none⟩) l.length l.length,.slice (some ⟨a.heap.size+1+1,0,none⟩) l.length l.length] 216)).alloc (.cells f 223)).alloc (.cells g 3))) a.heap.size (a.heap.size+1) (a.heap.size+1+1) no nc l.length f g:=by obtain⟨q,r,m,o⟩:=te a (.cells #[.slice no l nc,.slice (some ⟨a+1,0,none⟩) l l,.slice (some ⟨a+1+1,0,none⟩) l l] 216) (.cells f 223) (.cells g 3);exact⟨q,ad,ad,ad,ad,ad,ad,r,m,o⟩
 have⟨d,h⟩:=am (World.drew (cT ((a.alloc (.cells #[.slice no l nc,.slice (some ⟨a+1,0,none⟩) l l,.slice (some ⟨a+1+1,0,none⟩) l l] 216)).alloc (.cells f 223)) g 3));rw[<-h]at c⊢;rename_i s;clear h u A v t y z s;generalize a.heap.size+1+1=U at c⊢;generalize a.heap.size+1=F at c⊢;generalize a.heap.size=P at c⊢;revert c;revert U;revert F;revert P;revert d;intro d P F U c;rotate_left;have c:rF a (World.drew (((a.alloc (.cells #[.slice no l.length nc,.slice (some ⟨a.heap.size+1+1,0,none⟩) l.length l.length,.slice (some ⟨a.heap.size+1,0,none⟩) l.length l.length] 216)).alloc (.cells g 3)).alloc (.cells f 223))) a.heap.size (a.heap.size+1+1) (a.heap.size+1) no nc l.length f g:=by obtain⟨q,r,m,o⟩:=te a (.cells #[.slice no l nc,.slice (some ⟨a+1+1,0,none⟩) l l,.slice (some ⟨a+1,0,none⟩) l l] 216) (.cells g 3) (.cells f 223);exact⟨q,ad,ad,ad,ad,ad,ad,r,o,m⟩
 have⟨d,h⟩:=am (World.drew (cT ((a.alloc (.cells #[.slice no l nc,.slice (some ⟨a+1+1,0,none⟩) l l,.slice (some ⟨a+1,0,none⟩) l l] 216)).alloc (.cells g 3)) f 223));rw[<-h]at c⊢;rename_i s;clear h u A v t y z s;generalize a.heap.size+1+1=F at c⊢;generalize a.heap.size+1=U at c⊢;generalize a.heap.size=P at c⊢;revert c;revert U;revert F;revert P;revert d;intro d P F U c;rotate_left;all_goals
  have t:=(iM C).2;have y:=aS c.p;have z:=aS c.u;have u:=K.o;have s:=(c.base.cell (p:=⟨w.heap.size,0,none⟩) (by show w.heap.size<_;omega)).Z H.o;have A:=ak 2 c.p;have r:d.cell? ⟨U,l.length-1,none⟩=some (.int .i64 0):=by rw[bj _ _ _ _ _ _ c.u,I.o];have:=pZ [Value.int .i64 0] (n:=l.length) (i:=l.length-1) (j:=0) ad aj;simpa using this
  have J:d.frozen? ⟨U,l.length-1,none⟩=false:=aJ c.u _;have D:l-1<(l:Int):=ad;have u:(0:Int)<=l-1:=ad;have v:((l:Int)-1).toNat=l-1:=ad;have⟨h,f⟩:=am (d.setCell ⟨U,l-1,none⟩ (.int .i64 (-1)));have g:gF d h U (l.length-1) (.int .i64 (-1)):=by rw[f];exact nW (k:=0) r
  have⟨d,h⟩:=aC g c;clear g c;go_wp2_with(first
   |(rw[<-f];clear f)
   |fail)
  clear s A r J D u v y z;have c:=Pz;have c:=E.o.Z (G.o.zz E.o.size);go_loopw [7,29] (fun f i wr=>∃k:Nat,i=.int .i64 k/\k<=l/\Hid (nY w wr P F U no nc l k)/\aR a wr) (fun _ i _=>l-(intOf i).toNat)
  case atStart=>exact⟨0,rfl,aH _,PD t c h.o O.o I.o d.o,d.o.row.O h.o.base h.o.hU⟩
  case round=>
  obtain⟨k,rfl,d,c,v⟩:=hrel;have D:=(v.cell (p:=⟨w.heap.size,0,none⟩) (by show w.heap.size<_;omega)).Z H.o;have d:=ah D;by_cases s:k<l
  ·have⟨n,y⟩:=aT s
   have H:=bC s;have d:=bk s;have d:=aL k;have⟨r,d⟩:=am (World.drew wr);have t:nY w r P F U no nc l k:=by rw[d];exact c.o.drew
   have A:r.cell? ⟨w.heap.size,0,none⟩=some (.slice no l.length nc):=by rw[d];assumption
   have u:Below a.heap.size a r:=by rw[d];exact v.drew
   have z:=Pt w r P F U _ no nc l (iM C).1 Q k n y M.o t (aQ u.size) A;unfold F1 at z;have d1:=t.p1;have⟨f,a,E,g⟩:=dE t z y u;clear t z y D A u;go_wp2_with fail
   rw[d]at d1;have y:=ah d1;rw[d]at a f g;clear d r;have t:Hid (∀d,yq (World.drew wr) d U l k n->d.there F (k*34) 34/\d.cell? ⟨P,1,none⟩=some (.slice (some ⟨F,0,none⟩) l.length l.length)):=fun d r=>by refine⟨fun j u=> ?_,?_⟩;obtain⟨m,o⟩:=f.o.fthere k s j u;have B:=r.zu.J F f.o.lF (by simp;exact f.o.fu);exact⟨by rw[ej B];exact m,by rw[ug B];exact o⟩;exact(ej (r.zu.J P f.o.lP (by simp;exact f.o.pu))).Z y.o
   unfold jU at a;have o:=f.o.pf;go_region_held3(fun w'=>w'.cell? ⟨P,1,none⟩=some (.slice (some ⟨F,0,none⟩) l.length l.length)) (first|with_reducible exact d1|((with_reducible refine Px ?_ o);assumption)|with_reducible assumption|exact(t.o _ fX).2)
    ((first|(go_at_call 202;apply zU a.o;rintro e d ⟨rfl,r⟩;have y:=Pw (P:=prog) d F (k*34) (factRow (factN l k)) (t.o d r).1 (Pj _))))
   have a:=Bb (cs:=factRow (factN l k)) (t.o d r).1;have m:=ah r;clear y r o;have⟨r,o⟩:=am (d.setCells F (k*34) (factRow (factN l k)));rw[<-o]at a⊢;clear o
   go_wp2
   go_roundw
   case rel=>
    have d:=h.o.hU;refine⟨_,aD,ad,f.o.next (iM C).1 E.o m.o a,?_⟩;refine a.O ⟨m.o.zu.os.Z g.o.os,m.o.zu.tape.Z g.o.tape,m.o.zu.output.Z g.o.output,aW g.o.size m.o.zu.size,fun b q=> ?_⟩ h.o.hF;exact(m.o.zu.J b (aQ g.o.size) aO).Z (g.o.J b q)
   case measure=>exact aM
  have H:=bG s;obtain rfl:k=l:=ad;have d0:=c.o.p0;have d1:=c.o.p1;have d2:=c.o.p2;have d:wr.heap[w.heap.size+1]?=some (.cells dx 216):=(v.J _ ad).Z ((G.o.J _ ad).Z N.o);have t1:wr.there (w.heap.size+1) 0 3:=oO (cs:=[.slice none 0 0,.slice none 0 0,.slice none 0 0]) (ty:=216) d aj;go_wp2_with(first
   |(refine WG ?_;intro r a)
   |fail)
  (try simp only[Exit.inBlock,Exit.then])
  apply cQ (Pv rfl _ _ _ 0 _ _ rfl a.zn underlying216 rfl Pu) rfl;have d:=a.O c.o.base ad;refine⟨F,U,rfl,⟨by rw[a.size];exact c.o.lF,by rw[a.size];exact c.o.lU,fun i x=>a.range (c.o.zj i x) (.inl (aQ h.o.hF)),fun j u=> ?_⟩,d⟩;rw[a.far (aQ h.o.hU)];exact c.o.ups j u
def rG no nc n F U w(b:0<n)(a:n<=60):cX 142 #[jC no nc n F U] w (.pointer (some ⟨F,(n-1)*34,none⟩)):=by
 have c:n-1<(n:Int):=ad;have d:(0:Int)<=n-1:=ad;have e:((n:Int)-1).toNat=n-1:=ad;unfold jC
 go_in
 go_wp2
 go_ret;exact⟨rfl,aP⟩
structure jD(w wr:World)(no:Option Addr)(nc n F U m:Nat):Prop where
 base:Below w.heap.size w wr
 size:w.heap.size+3<=wr.heap.size
 box:wr.heap[w.heap.size]?=some (.cells #[.slice no n nc,.slice (some ⟨F,0,none⟩) n n,.slice (some ⟨U,0,none⟩) n n] 216)
 out:wr.rangeAt (w.heap.size+2) 0 (setRow m)
 outT:wr.there (w.heap.size+2) 0 16
 resT:wr.there (w.heap.size+1) 0 16
def jD.O{w wr d:World}{no:Option Addr}{c n F U m:Nat}(a:jD w wr no c n F U m)(b:Below wr.heap.size wr d):jD w d no c n F U m:=
 ⟨a.base.Z (b.zz a.base.size),aW a.size b.size,(b.J _ (aQ a.size)).Z a.box,jA a.out b,kr a.outT b,kr a.resT b⟩
def jD.wrote{w wr d:World}{no:Option Addr}{c n F U m q:Nat}(a:jD w wr no c n F U m)(b:gF wr d (w.heap.size+2) 0 (.int .u64 (q:Nat))):jD w d no c n F U q:=
 ⟨b.row.O a.base ad,b.size▸a.size,(b.J _ ad).Z a.box,A9 (b.set (gd a.out)),b.row.there a.outT,b.row.there a.resT⟩
def vd w1 ty:aR w1 (cT w1 fe ty)/\(w1.alloc (.cells fe ty)).rangeAt w1 0 (setRow 0)/\(w1.alloc (.cells fe ty)).there w1 0 16/\(w1.alloc (.cells fe ty))=w1.heap.size+1:=
 ⟨aP,pX (aN w1 _),oO (aN w1 _) (ay _),aj⟩
def PG w no nc n F U:jD w (cT ((w.alloc (.cells #[.slice no n nc,.slice (some ⟨F,0,none⟩) n n,.slice (some ⟨U,0,none⟩) n n] 216)).alloc (.cells fe 221)) fe 221) no nc n F U 0:=by obtain⟨h,c,e⟩:=fQ w (.cells #[.slice no n nc,.slice F n n,.slice U n n] 216);have l:=fH c;have o:=iC c;rw[<-c];have⟨a,_,d,m⟩:=vd h 221;have⟨i,j⟩:=am (h.alloc (.cells fe 221));rw[<-j]at a d m⊢;have⟨b,f,g,p⟩:=vd i 221;rw[l]at d;rw[show i=w.heap.size+2 by omega]at f g;exact⟨(e.Z (a.zz e.size)).Z (b.zz ad),ad,(b.J _ ad).Z ((a.J _ ad).Z o),f,g,kr d b⟩
def PH{ops rest b a w Q}(d:b.guard=none)(ps:Array _)(e:b.op=.build 221 ps)
 (f:(ps.toList.map fun p=>(p.1,a.eval p.2))=[]) (c:wpList prog ops Q rest (a.put b.dst (.agg (setRow 0))) w):wpList prog ops Q (b::rest) a w:=
 uW d 221 ps e _ _ az f c
def PJ(l:List ax)(p:Nat)(w:World)(e:Ending)(w':World):Prop:=e=.returned (.agg (setRow (dO l p)))/\aR w w'
def PK l no nc F U p np w(hF:eG l)(R:l.length<=60)(K:dv w no nc l)(aa:lI w F U l)(a3:l[p]?=some np)(bu:np.op=2):
 dB 144 #[jC no nc l F U,.int .i64 (p:Nat)] w (PJ l p w):=by
 have bz:=(aF.1 a3).1;have cc:=K.2.2.1;unfold maxLen at cc;have c1:=K.2.1;have B:=PG w no nc l F U;have⟨w1,a4⟩:=am (((w.alloc (.cells (zz_m3 no l nc F U) 216)).alloc (.cells fe 221)).alloc (.cells fe 221));rw[<-a4]at B;obtain⟨b,D,rfl,c0,b0,cs,cu,cv⟩:=(K.O B.base).at a3;rw[bu]at b0;have Y:=ak 0 B.box;have b7:=ak 2 B.box;have u0:=(B.base.cell aa.lU).Z (aa.ups p bz);have d0:decide ((p:Int)<0)=false:=bU;have d1:decide (l<=(p:Int))=false:=bU;have d2:decide (l<=p)=false:=bU;have c6:(p:Int)<l:=ad;have c4:=aL p;have⟨b6,b2,I⟩:=bm B K aa;clear B K aa a3 bu cs cu cv;unfold jC
 go_in
 go_wp2_with(first
  |(rw[<-a4];clear a4)
  |fail)
 go_quiet(fail)
 obtain⟨cq,a5⟩:=am (w1.drewN nq);have bl:jD w cq (some ⟨b,D,none⟩) nc l.length F U 0:=by rw[a5];exact b6.o.O (ee (aA _ w1) nq)
 rw[<-a5];clear a5 Y b7 u0 b0;have bd:=ah bl;clear bl
 go_wp2
 go_loopw [6,7] (fun a7 co wr=>∃(a m k:Nat),a7=.int .i64 a/\co=.int .i64 (aboveV l l a)/\a<l/\l<=k+a/\m<18446744073709551616/\Hid (jD w wr (some ⟨b,D,none⟩) nc l F U m)/\Hid (lv l p k a m=dO l p)) (fun a7 _ _=>l-(intOf a7).toNat)
 case atStart=>exact⟨p,0,_,rfl,rfl,bz,ad,aq,bd.o,rfl⟩
 case round=>
 clear bd;obtain⟨a,m,k,rfl,rfl,P,c2,bt,v,ao⟩:=hrel;by_cases S:a=l-1
 ·have O:aboveV l l.length a= -1:=by unfold aboveV;omega
  have b1:Hid (m=dO l p):=by have c:=ao.o;obtain⟨k,rfl⟩:∃a6,k=a6+1:=⟨k-1,ad⟩;unfold lv at c;rwa[au S]at c
  rw[O];have c3:=v.o.out;have cg:=v.o.resT;clear O S;go_wp2_with(first
   |(refine ym ?_)
   |((refine Bf ?_);intro cp M)
   |fail)
  (try simp only[Exit.inBlock,Exit.then])
  apply cQ (jm rfl _ _ _ 0 _ _ rfl M.zn KR rfl Ba) rfl;exact⟨by rw[b1.o],M.O v.o.base ad⟩
 ·obtain⟨be,J,bf⟩:=Am hF (a:=a) ad
  obtain⟨u,C⟩:=am (ja l a);rw[<-C]at be J bf;have f:u<l:=ad;have O:aboveV l l a=u:=by unfold aboveV;rw[ap S,au (C▸f),C]
  rw[O];have⟨n,G⟩:=aT f;have bi:=I.o.O v.o.base;have bg:=b2.o.O v.o.base;have⟨cG,dl,a0,cb,a9,ba,bb,bc⟩:=bg.at G;injection a0 with a0
  injection a0 with b8 b9 ca;clear ca
  subst b8;subst b9;have ab:=iA l 0 u n hF.ok G;rw[cH]at ab;have⟨c9,dc,bo,T,_,bE⟩:=Al hF (j:=a) ad;rw[<-C]at bE;subst bE;rw[G]at bo;cases bo
  have bw:n.op=3∨n.op=4∨n.op=5:=by unfold bQ at T;split at T;rename_i c;omega;split at T;rename_i c;omega;simp at T
  have e:ma l a=if n.op=3 then(if n.a=(a:Int)then .catL (trN l n.b.toNat)else .catR (trN l n.a.toNat))else if n.op=4 then(if n.a=(a:Int)then .altL (trN l n.b.toNat)else .altR (trN l n.a.toNat))else .star:=by unfold ma;rw[<-C,G]
  obtain⟨k,rfl⟩:∃a6,k=a6+1:=⟨k-1,ad⟩;have o:Hid (dO l p=if(trN l u).zo then lv l p k u (if(eH (trN l a)).testBit p then(match ma l a with| .catL b=>m|||dt b| .star=>m|||dt (trN l a)|_=>m)else m)else 0):=by have c:=ao.o;unfold lv at c;rw[ap S,<-C]at c;exact c.zy
  have bB:=nL ab;have⟨bZ,W,aw,Z⟩:=dy wr (.cells #[n.op,n.sym,n.a,n.b] 104);have⟨h,y⟩:=aC (v.o.O aw) (bi.O aw);have ch:=ak 0 Z;have ci:=ak 2 Z;have cl:=ak 3 Z;have Y:=ak 0 v.o.box;have cL:=ak 1 h.o.box;have an:gC bZ F (u*34) (.bool (!(trN l u).zo)):=y.o.zj u f 0 _ rfl;have⟨b3,b4,cx,X⟩:=dE ab bB G e;have c8:(u:Int)<l:=ad;have c7:=aL u;have cS:(a:Int)<l:=ad;have cP:=aL a;have A:=bt;clear ao v aw Z bi bg cb ab bB G e S C be J bf O bt T;obtain⟨dm,sym,ae,af⟩:=n;simp only at bw W ch ci cl a9 ba bb bc;cases hv:(trN l u).zo with
  |false=>
   rw[hv]at an o;simp only[Bool.not_false]at an;have cg:=h.o.resT;clear hv;go_wp2_with(first
    |(rw[<-W];clear W a9 ba bb bc Y)
    |((with_reducible apply PH);exact rfl;exact rfl;exact rfl)
    |((refine Bf ?_);intro cp M)
    |fail)
   (try simp only[Exit.inBlock,Exit.then])
   apply cQ (jm rfl _ _ _ 0 _ _ rfl M.zn KR rfl Ba) rfl;exact⟨by rw[o.o];rfl,M.O h.o.base ad⟩
  |true=>
   rw[hv]at an o;simp only[Bool.not_true]at an;clear hv;have bF:=y.o.zj a P 18 _ rfl;have⟨q,bA⟩:=am ((eH (trN l a)).testBit p);have bq:eH (trN l a)<18446744073709551616:=(mi hF R P).2;have a2:=A7 F _ _ p bZ ad bq bF;rw[<-bA]at a2 o;have b5:=ah a2;clear a2 bF bq bA;go_wp2_with(first
    |(rw[<-W];clear W a9 ba bb bc Y)
    |fail)
   refine ar b5.o ?_;rintro x rfl;cases q with
   |false=>
    have d:=h;have i:=y;have t:=ah A;have r:Hid (lv l p k u m=dO l p):=by unfold Hid;rw[o.o];rfl
    have ag:=ak 2 d.o.box;have al:=i.o.ups u f;skip
    go_wp2
    go_quiet(fail)
    have s:Hid (jD w (x.drewN nq) (some ⟨b,D,none⟩) nc l F U m):=d.o.O (ee (aA _ x) nq)
    go_wp2
    go_roundw
    case rel=>exact⟨u,m,k,rfl,rfl,f,ad,t.o,s,r.o⟩
    case measure=>exact aM
   |true=>
    rcases bw with rfl|rfl|rfl
    ·have c5:0<=af:=by
      have c:=b3.o;unfold eA at c;rw[ap aj,ap aj,au aj]at c;simp only[cM]at c;have J:=c.2;unfold cy at J;simp at J;omega
     obtain⟨g,rfl⟩:∃g:Nat,af=g:=⟨af.toNat,ad⟩;have a1:g<l.length:=by have:=b4.o g (by simp[bQ]);omega
     have cO:(g:Int)<l:=ad;have cN:=aL g;by_cases H:ae=a
     ·have e:=X.o
      simp only[ix,au H,nH]at e;have z:=ah e;have cd:(ae==(a:Int))=true:=by simpa using H
      clear H e;have V:m|||dt (trN l g)<18446744073709551616:=FX A (mi hF R a1).1
      have r:Hid (lv l p k u (m|||dt (trN l g))=dO l p):=by unfold Hid;rw[o.o];rw[z.o];rfl
      have Q:=pW _ 0 m F _ (dt (trN l g)) x (aQ I.o.lF) A (mi hF R a1).1 (gd h.o.out) (pY h.o.outT (ay _)) (gd (lH (y.o.zj g a1)));have⟨t,av⟩:=aC V Q;clear Q V;go_wp2_with fail
      refine ar av.o ?_;intro E N;have d:=ah (h.o.wrote N);have i:Hid (lI E F U l):=I.o.O d.o.base;clear N;have ag:=ak 2 d.o.box;have al:=i.o.ups u f;skip
      go_wp2
      go_quiet(fail)
      have s:Hid (jD w (E.drewN nq) (some ⟨b,D,none⟩) nc l F U (m|||dt (trN l g))):=d.o.O (ee (aA _ E) nq)
      go_wp2
      go_roundw
      case rel=>exact⟨u,m|||dt (trN l g),k,rfl,rfl,f,ad,t.o,s,r.o⟩
      case measure=>exact aM
     ·have e:=X.o
      simp only[ix,ap H]at e;have z:=ah e;have cd:(ae==(a:Int))=false:=by simpa using H
      clear H e;have d:=h;have i:=y;have t:=ah A;have r:Hid (lv l p k u m=dO l p):=by unfold Hid;rw[o.o];rw[z.o];rfl
      have ag:=ak 2 d.o.box;have al:=i.o.ups u f;skip
      go_wp2
      go_quiet(fail)
      have s:Hid (jD w (x.drewN nq) (some ⟨b,D,none⟩) nc l F U m):=d.o.O (ee (aA _ x) nq)
      go_wp2
      go_roundw
      case rel=>exact⟨u,m,k,rfl,rfl,f,ad,t.o,s,r.o⟩
      case measure=>exact aM
    ·have z:Hid (ma l a=.altL (trN l af.toNat)∨ma l a=.altR (trN l ae.toNat)):=by
      have c:=X.o;simp only[show¬((4:Int)=3) by omega,iy,ix]at c;unfold Hid;rw[c];split;simp;simp
     have d:=h;have i:=y;have t:=ah A;have r:Hid (lv l p k u m=dO l p):=by unfold Hid;rw[o.o];rcases z.o with c|c<;>(rw[c];rfl)
     have ag:=ak 2 d.o.box;have al:=i.o.ups u f;skip
     go_wp2
     go_quiet(fail)
     have s:Hid (jD w (x.drewN nq) (some ⟨b,D,none⟩) nc l F U m):=d.o.O (ee (aA _ x) nq)
     go_wp2
     go_roundw
     case rel=>exact⟨u,m,k,rfl,rfl,f,ad,t.o,s,r.o⟩
     case measure=>exact aM
    ·have e:=X.o
     simp only[show¬((5:Int)=3) by omega,show¬((5:Int)=4) by omega,iy]at e;have z:=ah e;clear e;have V:m|||dt (trN l a)<18446744073709551616:=FX A (mi hF R P).1
     have r:Hid (lv l p k u (m|||dt (trN l a))=dO l p):=by unfold Hid;rw[o.o];rw[z.o];rfl
     have Q:=pW _ 0 m F _ (dt (trN l a)) x (aQ I.o.lF) A (mi hF R P).1 (gd h.o.out) (pY h.o.outT (ay _)) (gd (lH (y.o.zj a P)));have⟨t,av⟩:=aC V Q;clear Q V;go_wp2_with fail
     refine ar av.o ?_;intro E N;have d:=ah (h.o.wrote N);have i:Hid (lI E F U l):=I.o.O d.o.base;clear N;have ag:=ak 2 d.o.box;have al:=i.o.ups u f;skip
     go_wp2
     go_quiet(fail)
     have s:Hid (jD w (E.drewN nq) (some ⟨b,D,none⟩) nc l F U (m|||dt (trN l a))):=d.o.O (ee (aA _ E) nq)
     go_wp2
     go_roundw
     case rel=>exact⟨u,m|||dt (trN l a),k,rfl,rfl,f,ad,t.o,s,r.o⟩
     case measure=>exact aM
end Go.Proofs.YtfeidcmojcijpaaGreatDoor
