import Derived.Test.YtnadadbndcdolaaGreatDoorQbl
set_option linter.unusedVariables false
set_option linter.unusedSimpArgs false
set_option maxRecDepth 100000
set_option maxHeartbeats 0
namespace Go.Proofs.YtnadadbndcdolaaGreatDoor
open Go.RowKit Tryz
theorem Gu{P Q:Prop}(a:P->Q)(b:P):Q:=a b
def oW(ty:TypeId)(b:World)(e f:Nat)(c d:Array Value)(a:World):Prop:=a.heap[e]?=some (.cells c ty)/\a.heap[f]?=some (.cells d ty)/\Below b.heap.size b a
theorem oW.swap{ty:TypeId}{g:World}{d e:Nat}{b c:Array Value}{f:World}(a:oW ty g d e b c f):oW ty g e d c b f:=⟨a.2.1,a.1,a.2.2⟩
theorem xr(a:World)(ty:TypeId)(b c:Array Value)(d:World)(e:d=((a.alloc (.cells b ty)).alloc (.cells c ty)).drew):oW ty a a.heap.size (a.heap.size+1) b c d:=by subst e;refine⟨(bk _ _ _ ak).trans (aB a _),?_,(aG.alloc ak _).drew⟩;have:=aB (a.alloc (.cells b ty)) (.cells c ty);rw[bj]at this;exact this
theorem QY(l:List am)(o:Option Addr)(cap:Nat)(bt:World)(b7:bR bt o cap l)(c8:dI l)(ds:bT (l.map am.t)=0)(eD:Nat->Prop)(b3 cN eV eZ:Nat)(x:am)(N:x∈l)(e:List Bool)(a9:x.t.text=false->bG x.t.nodes=0/\x.t.nodes.length<=60)
 (ev:Option Addr) (bb:Nat) (en:e.length=l.length) (w:World) (av:cT bt eD w b3 cN eV eZ o cap l) (L:Gt w ev bb e):
 Calls prog 98 #[.pointer (some ⟨b3,0,none⟩),dT x,.slice ev e.length bb] w fun S w'=>S=.returned (.tuple #[.bool (oV (l.map am.t) e x.t).1,.bool (oV (l.map am.t) e x.t).2])/\Below w.heap.size w w':=by
 obtain⟨al,a1,c2,a6⟩:=cm w (.cells (typeRow x).toArray 53);have cs:al.heap.size=w.heap.size+1:=by rw[a1];simp
 have c6:=ai 4 a6;have b5:=ai 5 a6;have er:∀n∈x.t.nodes,n.sym.length<=1048576:=fun n bd=>c8.sym x N n bd;have ca:=fun d (ea:Below bt.heap.size bt d)=>((b7.below ea).2 x N).2;have X:∀n∈x.t.nodes,n.op=2->bG x.t.nodes=0->cI (l.map am.t) n.sym<e.length:=fun n bd b8 e9=>by rw[en,<-cf (f:=am.t)];exact Gs ds (l9 N) ((wU e9).2 ⟨n,bd,b8,rfl⟩)
 have ci:=ca _ av.base;obtain⟨ts,bB⟩:=ar (l.map am.t);rw[<-bB]at X⊢;have c9:eF w cN ts:=by rw[bB];exact av.places
 have cG:=ah bB;clear bB;obtain⟨bi,b0,bq,bo,b1,b2,c1,y,e2,bg⟩:=ju av L er X ca c9 a6 c2 cs a9;have co:=ai 1 av.blk;have e6:=ax av.blk;have eE:=ah co;have es:=ci.2.1;have fo:=ci.2.2.1;unfold maxLen at fo;clear av L er X ca c9 a6 c2 cs a9 co ci c8 ds N en;obtain⟨⟨name,label,attrs,key,text,nodes⟩,Z,Y,no,V⟩:=x;simp only[typeRow]at a1 c6 b5 bg bq bo es;simp at c6 b5;unfold dT typeRow;simp only;cases text with
 |true=>
  go_enter func98,ntmps98
  go_wp2_with(first|(rw[<-a1];clear a1)|fail)
  go_ret2
  exact⟨rfl,y.out⟩
 |false=>
  obtain⟨a9,bd⟩:=bg.o rfl;obtain⟨n,be⟩:=ar (nodes.length);obtain⟨fu,ek,bF⟩:∃i,prog.info? 243=some i/\i.zero=some (.agg #[.bool false,.bool false])/\i.size=2/\i.bytes=2:=by obtain⟨i,fc,bE⟩:=mV.1 QW;simp only[rE]at bE;exact⟨i,fc,bE.1,bE.2.1,bE.2.2⟩
  obtain⟨M,b9⟩:=ar (madeCells #[.bool false,.bool false] (n*2));rw[<-be]at b5 bd es;have g5:∀d,(Instr.makeSlice 241 (.int .i64 (n:Int)) (.int .i64 (n:Int))).run prog d=.ok (.slice (some ⟨d.heap.size,0,none⟩) n n) (d.alloc (.cells M 243)):=fun d=>by have:=uG (P:=prog) d 241 243 fu (.agg #[.bool false,.bool false]) underlying241 ek bF.1 .i64 .i64 n n ad ad (by rw[bF.2.2];omega) ad;simp only[ph,bF.2.1]at this;rw[this,b9];rfl
  obtain⟨cu,bC⟩:=ar (al.alloc (.cells M 243));have cl:kF ts e ⟨⟨name,label,attrs,key,false,nodes⟩,Z,Y,no,V⟩ al.heap.size w 0 cu:=by
   have c3:Below al.heap.size al cu:=by rw[bC];exact aG
   have cs:=e2.out;refine⟨aO y.out c3,ad,(c3.block _ (ax c1.out)).trans c1.out,?_,ad⟩;refine QX ?_;simp only;rw[<-be,<-b9,bC];exact aB al _
  have cF:=ah cl;have d5:cu.cell? ⟨w.heap.size,5,none⟩=some (.slice no n V):=by rw[be];exact ai 5 cl.box
  obtain⟨K,a7⟩:=aD be a9;clear cl be a9 b9 ek bF;go_enter func98,ntmps98
  go_wp2_with(first|(rw[<-a1];clear a1)|(rw[<-bC];clear bC)|fail)
  generalize al.heap.size=F at*;go_loopw [29] (qb ts e ⟨⟨name,label,attrs,key,false,nodes⟩,Z,Y,no,V⟩ F w) (fun fv _=>n-(intOf fv).toNat)
  case atStart=>exact⟨0,rfl,aZ _,cF.o⟩
  case round=>
  clear cF d5;obtain⟨k,rfl,el,a0⟩:=hrel;simp only at el;rw[<-K.o]at el;have em:(k:Int)<n∨¬((k:Int)<n):=ad;by_cases X:k<n
  ·have g1:(0:Int)<=k:=ad
   have g2:(k:Int)<n:=ad;clear em;obtain⟨a2,N⟩:∃a2,nodes[k]?=some a2:=⟨_,aH (by rw[<-K.o];exact X)⟩;have ch:=aX N;have e7:=b1.o wr (bi.o.base.trans (a0.base.mono bi.o.base.size));obtain⟨b,a3,rfl,gs,fT,a6,ga,gb⟩:=cO.at e7 N;have B:=iM nodes 0 k a2 (gi a7.o).1.ok N;rw[cD]at B;have ec:=QT ts e N;have ez:=bq.o a2 ch;have cd:=fun b8=>bo.o a2 ch b8 a7.o;obtain⟨fw,sym,ae,bf⟩:=a2;simp only at fT a6 ga gb ez cd;obtain⟨d,I,c5,aq⟩:=cm wr (.cells #[.int .i64 fw,.string ⟨sym.toArray⟩,.int .i64 ae,.int .i64 bf] 102);have cv:=ai 0 aq;have cx:=ai 1 aq;have eB:=ai 2 aq;have eC:=ai 3 aq;have ab:=a0.below c5;have ce:(factsU ts e (nodes.take k)).length=k:=by rw[xq,fm];have:=K.o;omega
   obtain⟨a4,a5⟩:=ab.facts.rest (by simp only;rw[ce,<-K.o];exact X);simp only at a4 a5;rw[ce]at a4 a5;have bu:=ab.facts.free (k*2);have bw:=ab.facts.free (k*2+1);have O:=ah ab;have bl:Hid (wr.heap.size<d.heap.size/\F<d.heap.size):=ah ⟨ax aq,ax ab.facts.2⟩;obtain⟨R,ao,eU⟩:=bH ec B cd;have W:Hid (∀j:Nat,j<k->d.cell? ⟨F,j*2,none⟩=some (.bool ((factsU ts e (nodes.take k)).getD j ff).1)/\d.cell? ⟨F,j*2+1,none⟩=some (.bool ((factsU ts e (nodes.take k)).getD j ff).2)):=ah (fun j fd=>ab.at fd (by simp only;rw[<-K.o];exact Nat.le_of_lt X));have H:Hid (k<nodes.length):=ah (by rw[<-K.o];exact X);obtain⟨h,cc⟩:=ar (factsU ts e (nodes.take k));rw[<-cc]at R W;have an:=ah cc;clear N ch ec B cd ab a0 aq c5 ce cc;rcases vg ao.o with S|S|S|S|S|S
   all_goals
    simp only at S;subst S
   case inl=>
    have u:Hid (qb ts e ⟨⟨name,label,attrs,key,false,nodes⟩,Z,Y,some ⟨b,a3,none⟩,V⟩ F w (.int .i64 ((k:Int)+1)) d):=ah ⟨k+1,aV,H.o,O.o.skip H.o (by have:=R.o;rw[this,an.o];rfl)⟩;go_wp2_with(first|(rw[<-I];clear I)|fail)
    go_roundw
    case rel=>exact u.o
    case measure=>exact bh
   case inr.inl=>
    have u:Hid (qb ts e ⟨⟨name,label,attrs,key,false,nodes⟩,Z,Y,some ⟨b,a3,none⟩,V⟩ F w (.int .i64 ((k:Int)+1)) ((d.setCell ⟨F,k*2,none⟩ (.bool true)).setCell ⟨F,k*2+1,none⟩ (.bool false))):=ah ⟨k+1,aV,H.o,O.o.put H.o _ _ (by have:=R.o;rw[this,an.o];rfl)⟩;go_wp2_with(first|(rw[<-I];clear I)|fail)
    go_roundw
    case rel=>exact u.o
    case measure=>exact bh
   case inr.inr.inl=>
    have bb:=eU.o rfl;obtain⟨c,bA⟩:=ar (cI ts sym);rw[<-bA]at bb;have bD:Below w.heap.size w d:=O.o.base;have dr:=b2.o.kept (bJ bD none) ak;have fl:=tS (dr.kept (bJ (aE _ d).drew none) ak) ez;rw[<-bA]at fl;have co:=(bD.cell (p:=⟨b3,1,none⟩) e6).trans eE.o;have bz:=b0.o.below bD;obtain⟨ea,gu,rfl,g0,ed⟩:=bz.2.2.2 ad;have fb:=ed c (.bool (e.getD c false)) (by rw[bW,fp,aH bb];rfl);have e8:=bz.2.1;have eb:=bz.2.2.1;unfold maxLen at eb;have gv:(0:Int)<=c:=ad;have gG:(c:Int)<e.length:=ad;have u:Hid (qb ts e ⟨⟨name,label,attrs,key,false,nodes⟩,Z,Y,some ⟨b,a3,none⟩,V⟩ F w (.int .i64 ((k:Int)+1)) ((d.drew.setCell ⟨F,k*2,none⟩ (.bool (e.getD c false))).setCell ⟨F,k*2+1,none⟩ (.bool (e.getD c false)))):=ah ⟨k+1,aV,H.o,(O.o.below (aE _ d).drew).put H.o _ _ (by have:=R.o;rw[this,an.o,bA];rfl)⟩;obtain⟨g7,eg⟩:=ar (e.getD c false);rw[<-eg]at u fb;clear eg ed bz e8 eb dr bD bA;go_wp2_with(first|(rw[<-I];clear I)|fail)
    go_region
    go_wp2
    go_roundw
    case rel=>exact u.o
    case measure=>exact bh
   case inr.inr.inr.inr.inr=>
    have B:=ao.o;simp only[dO,dy]at B;simp at B;obtain⟨⟨-,bN,bZ⟩,-⟩:=B;obtain⟨p,rfl⟩:∃p:Nat,ae=p:=⟨ae.toNat,ad⟩;have ew:(0:Int)<=p:=ad;have ex:(p:Int)<n:=ad;obtain⟨u0,u1⟩:=W.o p ad;obtain⟨⟨s,t⟩,J⟩:∃a,a=h.getD p ff:=⟨_,rfl⟩;rw[<-J]at u0 u1;simp only at u0 u1;have u:Hid (qb ts e ⟨⟨name,label,attrs,key,false,nodes⟩,Z,Y,some ⟨b,a3,none⟩,V⟩ F w (.int .i64 ((k:Int)+1)) ((d.setCell ⟨F,k*2,none⟩ (.bool true)).setCell ⟨F,k*2+1,none⟩ (.bool t))):=ah ⟨k+1,aV,H.o,O.o.put H.o _ _ (by have:=R.o;rw[this,<-an.o];show h++[(true,(h.getD p ff).2)]=_;rw[<-J])⟩;clear J;go_wp2_with(first|(rw[<-I];clear I)|fail)
    go_roundw
    case rel=>exact u.o
    case measure=>exact bh
   case inr.inr.inr.inl=>
    have B:=ao.o;simp only[dO,dy]at B;simp at B;obtain⟨⟨-,bN,bZ⟩,cp,cq⟩:=B;obtain⟨p,rfl⟩:∃p:Nat,ae=p:=⟨ae.toNat,ad⟩;obtain⟨q,rfl⟩:∃q:Nat,bf=q:=⟨bf.toNat,ad⟩;have ew:(0:Int)<=p:=ad;have ex:(p:Int)<n:=ad;have fr:(0:Int)<=q:=ad;have fs:(q:Int)<n:=ad;obtain⟨u0,u1⟩:=W.o p ad;obtain⟨t0,t1⟩:=W.o q ad;obtain⟨⟨s,t⟩,J⟩:∃a,a=h.getD p ff:=⟨_,rfl⟩;obtain⟨⟨v,y⟩,L⟩:∃a,a=h.getD q ff:=⟨_,rfl⟩;rw[<-J]at u0 u1;rw[<-L]at t0 t1;simp only at u0 u1 t0 t1;have bc:factsU ts e (nodes.take (k+1))=factsU ts e (nodes.take k)++[(s&&v,s&&v&&(t||y))]:=by
     have:=R.o;rw[this,<-an.o];show h++[((h.getD p ff).1&&(h.getD q ff).1,(h.getD p ff).1&&(h.getD q ff).1&&((h.getD p ff).2||(h.getD q ff).2))]=_
     rw[<-J,<-L]
    have aa:=ah bc;have fg:wr.heap.size<d.heap.size:=bl.o.1;have T:F<d.heap.size:=bl.o.2;have c7:wr.heap.size≠d.heap.size:=ad;have e3:wr.heap.size≠d.heap.size+1:=ad;have e4:F≠d.heap.size:=ad;have e5:F≠d.heap.size+1:=ad;clear J L bc bN bZ cp cq;go_wp2_with(first|(rw[<-I];clear I)|fail)
    refine Gu (P:= ?KPA) ?mainA ?pfA
    case mainA=>
     intro a8;go_region
     all_goals
      (first
        |(obtain⟨r,C⟩:=ar (((d.alloc (.cells #[.bool s,.bool t] 243)).alloc (.cells #[.bool v,.bool y] 243)).drew)
          rw[<-C];have Q:=xr d _ _ _ r C;clear C;obtain⟨G,A⟩:∃g,g=d.heap.size+1:=⟨_,rfl⟩;obtain⟨E,z⟩:∃g,g=d.heap.size:=⟨_,rfl⟩;rw[<-A,<-z]at Q;rw[<-A,<-z];have b4:Hid (oW 243 d E G #[.bool s,.bool t] #[.bool v,.bool y] r):=ah Q;clear Q z A;revert r;revert G;revert E;exact a8)
        |(obtain⟨r,C⟩:=ar (((d.alloc (.cells #[.bool v,.bool y] 243)).alloc (.cells #[.bool s,.bool t] 243)).drew)
          rw[<-C];have Q:=(xr d _ _ _ r C).swap;clear C;obtain⟨E,z⟩:∃g,g=d.heap.size+1:=⟨_,rfl⟩;obtain⟨G,A⟩:∃g,g=d.heap.size:=⟨_,rfl⟩;rw[<-z,<-A]at Q;rw[<-z,<-A];have b4:Hid (oW 243 d E G #[.bool s,.bool t] #[.bool v,.bool y] r):=ah Q;clear Q z A;revert r;revert G;revert E;exact a8))
    case pfA=>
     intro E G r Q;obtain⟨af,ag,D⟩:=Q.out;have ba:=O.o.below D;have u:Hid (qb ts e ⟨⟨name,label,attrs,key,false,nodes⟩,Z,Y,some ⟨b,a3,none⟩,V⟩ F w (.int .i64 ((k:Int)+1)) ((r.setCell ⟨F,k*2,none⟩ (.bool (s&&v))).setCell ⟨F,k*2+1,none⟩ (.bool (s&&v&&(t||y))))):=ah ⟨k+1,aV,H.o,ba.put H.o _ _ aa.o⟩;have fx:=ai 0 af;have fy:=ai 1 af;have fz:=ai 0 ag;have fG:=ai 1 ag;have gf:=(D.cell (p:=⟨F,k*2,none⟩) T).trans a4;have gg:=(D.cell (p:=⟨F,k*2+1,none⟩) T).trans a5;have gl:=(D.frozen (p:=⟨F,k*2,none⟩) T).trans bu;have gr:=(D.frozen (p:=⟨F,k*2+1,none⟩) T).trans bw;clear b2 b0 bi b1 bq bo O R W ao a7 bg cG b7;clear af ag D ba Q aa u0 u1 t0 t1 a4 a5 bu bw cv cx eB eC;cases s with
     |false=>
      go_wp2
      go_roundw
      case rel=>exact u.o
      case measure=>exact bh
     |true=>
      cases v with
      |false=>
       go_wp2
       go_roundw
       case rel=>exact u.o
       case measure=>exact bh
      |true=>
       cases t with
       |false=>
        go_wp2
        go_roundw
        case rel=>exact u.o
        case measure=>exact bh
       |true=>
        go_wp2
        go_roundw
        case rel=>exact u.o
        case measure=>exact bh
   case inr.inr.inr.inr.inl=>
    have B:=ao.o;simp only[dO,dy]at B;simp at B;obtain⟨⟨-,bN,bZ⟩,cp,cq⟩:=B;obtain⟨p,rfl⟩:∃p:Nat,ae=p:=⟨ae.toNat,ad⟩;obtain⟨q,rfl⟩:∃q:Nat,bf=q:=⟨bf.toNat,ad⟩;have ew:(0:Int)<=p:=ad;have ex:(p:Int)<n:=ad;have fr:(0:Int)<=q:=ad;have fs:(q:Int)<n:=ad;obtain⟨u0,u1⟩:=W.o p ad;obtain⟨t0,t1⟩:=W.o q ad;obtain⟨⟨s,t⟩,J⟩:∃a,a=h.getD p ff:=⟨_,rfl⟩;obtain⟨⟨v,y⟩,L⟩:∃a,a=h.getD q ff:=⟨_,rfl⟩;rw[<-J]at u0 u1;rw[<-L]at t0 t1;simp only at u0 u1 t0 t1;have bc:factsU ts e (nodes.take (k+1))=factsU ts e (nodes.take k)++[(s||v,t||y)]:=by
     have:=R.o;rw[this,<-an.o];show h++[((h.getD p ff).1||(h.getD q ff).1,(h.getD p ff).2||(h.getD q ff).2)]=_
     rw[<-J,<-L]
    have aa:=ah bc;have fg:wr.heap.size<d.heap.size:=bl.o.1;have T:F<d.heap.size:=bl.o.2;have c7:wr.heap.size≠d.heap.size:=ad;have e3:wr.heap.size≠d.heap.size+1:=ad;have e4:F≠d.heap.size:=ad;have e5:F≠d.heap.size+1:=ad;clear J L bc bN bZ cp cq;go_wp2_with(first|(rw[<-I];clear I)|fail)
    refine Gu (P:= ?KPB) ?mainB ?pfB
    case mainB=>
     intro a8;go_region
     all_goals
      (first
        |(obtain⟨r,C⟩:=ar (((d.alloc (.cells #[.bool s,.bool t] 243)).alloc (.cells #[.bool v,.bool y] 243)).drew)
          rw[<-C];have Q:=xr d _ _ _ r C;clear C;obtain⟨G,A⟩:∃g,g=d.heap.size+1:=⟨_,rfl⟩;obtain⟨E,z⟩:∃g,g=d.heap.size:=⟨_,rfl⟩;rw[<-A,<-z]at Q;rw[<-A,<-z];have b4:Hid (oW 243 d E G #[.bool s,.bool t] #[.bool v,.bool y] r):=ah Q;clear Q z A;revert r;revert G;revert E;exact a8)
        |(obtain⟨r,C⟩:=ar (((d.alloc (.cells #[.bool v,.bool y] 243)).alloc (.cells #[.bool s,.bool t] 243)).drew)
          rw[<-C];have Q:=(xr d _ _ _ r C).swap;clear C;obtain⟨E,z⟩:∃g,g=d.heap.size+1:=⟨_,rfl⟩;obtain⟨G,A⟩:∃g,g=d.heap.size:=⟨_,rfl⟩;rw[<-z,<-A]at Q;rw[<-z,<-A];have b4:Hid (oW 243 d E G #[.bool s,.bool t] #[.bool v,.bool y] r):=ah Q;clear Q z A;revert r;revert G;revert E;exact a8))
    case pfB=>
     intro E G r Q;obtain⟨af,ag,D⟩:=Q.out;have ba:=O.o.below D;have u:Hid (qb ts e ⟨⟨name,label,attrs,key,false,nodes⟩,Z,Y,some ⟨b,a3,none⟩,V⟩ F w (.int .i64 ((k:Int)+1)) ((r.setCell ⟨F,k*2,none⟩ (.bool (s||v))).setCell ⟨F,k*2+1,none⟩ (.bool (t||y)))):=ah ⟨k+1,aV,H.o,ba.put H.o _ _ aa.o⟩;have fx:=ai 0 af;have fy:=ai 1 af;have fz:=ai 0 ag;have fG:=ai 1 ag;have gf:=(D.cell (p:=⟨F,k*2,none⟩) T).trans a4;have gg:=(D.cell (p:=⟨F,k*2+1,none⟩) T).trans a5;have gl:=(D.frozen (p:=⟨F,k*2,none⟩) T).trans bu;have gr:=(D.frozen (p:=⟨F,k*2+1,none⟩) T).trans bw;clear b2 b0 bi b1 bq bo O R W ao a7 bg cG b7;clear af ag D ba Q aa u0 u1 t0 t1 a4 a5 bu bw cv cx eB eC;cases s with
     |false=>
      cases t with
      |false=>
       go_wp2
       go_roundw
       case rel=>exact u.o
       case measure=>exact bh
      |true=>
       go_wp2
       go_roundw
       case rel=>exact u.o
       case measure=>exact bh
     |true=>
      cases t with
      |false=>
       go_wp2
       go_roundw
       case rel=>exact u.o
       case measure=>exact bh
      |true=>
       go_wp2
       go_roundw
       case rel=>exact u.o
       case measure=>exact bh
  ·obtain rfl:k=n:=ad
   have fq:=(gi a7.o).2;obtain⟨m,eo⟩:∃m,k=m+1:=⟨k-1,by have:=K.o;omega⟩;have c7:(k:Int)-1=(m:Nat):=ad;have g3:(0:Int)<=m:=ad;have g4:(m:Int)<k:=ad;obtain⟨u0,u1⟩:=a0.at (j:=m) ad (by simp only;rw[<-K.o];exact az _);simp only at u0 u1;rw[dh (by rw[<-K.o];exact az _)]at u0 u1;obtain⟨c0,cb⟩:=ar ((factsU ts e nodes).getD m ff);rw[<-cb]at u0 u1;have eN:Hid (oV ts e ⟨name,label,attrs,key,false,nodes⟩=c0):=ah (by rw[cb];unfold oV;simp only[j8,jl];rw[<-K.o,eo];rfl);obtain⟨e0,e1⟩:=c0;simp only at u0 u1;obtain⟨fN,eA,c4,b6⟩:=cm wr (.cells #[.bool e0,.bool e1] 243);have cv:=ai 0 b6;have cx:=ai 1 b6;have aa:Hid (Below w.heap.size w fN):=ah (aO a0.base c4);clear cb eo a0 c4 b6 em fq;go_wp2_with(first|(rw[<-eA];clear eA)|fail)
   go_region
   go_wp2
   go_ret2
   rw[eN.o];exact⟨rfl,aa.o.drew⟩
end Go.Proofs.YtnadadbndcdolaaGreatDoor
