import Derived.Test.YtfeidcmojcijpaaGreatDoorQbe
set_option linter.all false
set_option maxRecDepth 100000
set_option maxHeartbeats 0
namespace Go.Proofs.YtfeidcmojcijpaaGreatDoor
open Go.RowKit Tryz
def IN{P Q:Prop}(a:P->Q)(b:P):Q:=a b
def qr(ty:TypeId)(b:World)(e f:Nat)(c d:Array Value)(a:World):Prop:=a.heap[e]?=some (.cells c ty)/\a.heap[f]?=some (.cells d ty)/\Below b.heap.size b a
def qr.swap{ty:TypeId}{g:World}{d e:Nat}{b c:Array Value}{f:World}(a:qr ty g d e b c f):qr ty g e d c b f:=⟨a.2.1,a.1,a.2.2⟩
def yZ(a:World)(ty:TypeId)(b c:Array Value)(d:World)(e:d=((a.alloc (.cells b ty)).alloc (.cells c ty)).drew):qr ty a a.heap.size (a.heap.size+1) b c d:=by subst e;refine⟨(br _ _ _ aj).Z (aN a _),?_,(aP.alloc aj _).drew⟩;have:=aN (a.alloc (.cells b ty)) (.cells c ty);rw[bP]at this;exact this
def Tb(l:List ai)(o:Option Addr)(cap:Nat)(bl:World)(b7:cw bl o cap l)(c6:ep l)(c9:bY (l.map ai.t)=0)(et:Nat->Prop)(b3 cN eB eD:Nat)(x:ai)(N:x∈l)(hv:List Bool)(a3:x.t.text=false->bK x.t.E=0/\x.t.E.length<=60)
 (ed:Option Addr) (a5:Nat) (dz:hv.length=l.length) (w:World) (ag:eQ bl et w b3 cN eB eD o cap l) (M:Ig w ed a5 hv):
 Calls prog 47 #[.pointer (some ⟨b3,0,none⟩),dV x,.slice ed hv.length a5] w fun e w'=>e=.returned (.tuple #[.bool (my (l.map ai.t) hv x.t).1,.bool (my (l.map ai.t) hv x.t).2])/\Below w.heap.size w w':=by
 obtain⟨w1,an,cS,a0⟩:=dy w (.cells (typeRow x).toArray 55);have cs:=fH an;have c3:=ak 4 a0;have b5:=ak 5 a0;have eb:∀n∈x.t.E,n.sym.length<=1048576:=fun n a7=>c6.sym x N n a7;have ca:=fun d (dc:Below bl.heap.size bl d)=>((b7.O dc).2 x N).2;have S:∀n∈x.t.E,n.op=2->bK x.t.E=0->kidOf (l.map ai.t) n.sym<hv.length:=fun n a7 b8 e7=>by rw[dz,<-bn (f:=ai.t)];exact yO c9 (lY N) ((rL e7).2 ⟨n,a7,b8,rfl⟩)
 have ci:=ca _ ag.base;obtain⟨ts,bw⟩:=am (l.map ai.t);rw[<-bw]at S⊢;have c7:fA w cN ts:=by rw[bw];exact ag.places
 have cG:=ah bw;clear bw;obtain⟨be,b0,bi,bg,b1,b2,cP,y,e0,bd⟩:=jB ag M eb S ca c7 a0 cS cs a3;have co:=ak 1 ag.blk;have e4:=aI ag.blk;have ex:=ah co;have ec:=ci.2.1;have fl:=ci.2.2.1;unfold maxLen at fl;clear ag M eb S ca c7 a0 cS cs a3 co ci c6 c9 N dz;obtain⟨⟨name,label,attrs,key,text,nodes⟩,Y,X,no,V⟩:=x;simp only[typeRow]at an c3 b5 bd bi bg ec;simp at c3 b5;unfold dV typeRow;simp only;cases text with
 |true=>
  go_enter func47,ntmps47
  go_wp2_with(first|(rw[<-an];clear an)|fail)
  go_ret2
  exact⟨rfl,y.out⟩
 |false=>
  obtain⟨a3,a7⟩:=bd.o rfl;obtain⟨n,a9⟩:=am nodes.length;obtain⟨fs,dr,bE⟩:∃i,prog.info? 166=some i/\i.zero=some (.agg #[.bool false,.bool false])/\i.size=2/\i.bytes=2:=by obtain⟨i,e9,bB⟩:=qH.1 Ss;simp only[ww]at bB;exact⟨i,e9,bB.1,bB.2.1,bB.2.2⟩
  obtain⟨cL,b9⟩:=am (madeCells #[.bool false,.bool false] (n*2));rw[<-a9]at b5 a7 ec;have g0:∀d,(Instr.makeSlice 164 (.int .i64 (n:Int)) (.int .i64 (n:Int))).run prog d=.ok (.slice (some ⟨d.heap.size,0,none⟩) n n) (d.alloc (.cells cL 166)):=fun d=>by have:=sj (P:=prog) d 164 166 fs (.agg #[.bool false,.bool false]) underlying164 dr bE.1 .i64 .i64 n n ad ad (by rw[bE.2.2];omega) ad;simp only[nH,bE.2.1]at this;rw[this,b9];rfl
  obtain⟨en,bz⟩:=am (w1.alloc (.cells cL 166));have cl:lO ts hv ⟨⟨name,label,attrs,key,false,nodes⟩,Y,X,no,V⟩ w1.heap.size w 0 en:=by have c0:=kj bz;have cs:=e0.out;refine⟨aE y.out c0,ad,(c0.J _ (aI cP.out)).Z cP.out,?_,ad⟩;refine Su ?_;simp only;rw[<-a9,<-b9,bz];exact aN w1 _
  have cx:=ah cl;have d5:en.cell? ⟨w.heap.size,5,none⟩=some (.slice no n V):=by rw[a9];exact ak 5 cl.box
  obtain⟨K,a1⟩:=aC a9 a3;clear cl a9 a3 b9 dr bE;go_enter func47,ntmps47
  go_wp2_with(first|(rw[<-an];clear an)|(rw[<-bz];clear bz)|fail)
  generalize w1.heap.size=F at*;go_loopw [29] (rN ts hv ⟨⟨name,label,attrs,key,false,nodes⟩,Y,X,no,V⟩ F w) (fun fu _=>n-(intOf fu).toNat)
  case atStart=>exact⟨0,rfl,aH _,cx.o⟩
  case round=>
  clear cx d5;obtain⟨k,rfl,ds,al⟩:=hrel;simp only at ds;rw[<-K.o]at ds;have du:(k:Int)<n∨¬((k:Int)<n):=ad;by_cases S:k<n
  ·have gr:=aL k
   have gs:=bk S;clear du;obtain⟨nd,N⟩:=df nodes k (by rw[<-K.o];exact S);have ch:=aK N;have e5:=b1.o wr (be.o.base.Z (al.base.zz be.o.base.size));obtain⟨b,ao,rfl,gb,fL,a0,fN,fO⟩:=dv.at e5 N;have B:=iA nodes 0 k nd (iM a1.o).1.ok N;rw[cH]at B;have dm:=Cc ts hv N;have el:=bi.o nd ch;have cd:=fun b8=>bg.o nd ch b8 a1.o;obtain⟨fv,sym,ab,ba⟩:=nd;simp only at fL a0 fN fO el cd;obtain⟨d,I,c2,b6⟩:=dy wr (.cells #[.int .i64 fv,.string ⟨sym.toArray⟩,.int .i64 ab,.int .i64 ba] 104);obtain⟨cu,cv,er,es⟩:=dC b6;have aa:=al.O c2;have cg:(factsU ts hv (nodes.take k)).length=k:=by rw[tI,eh];have:=K.o;omega
   obtain⟨av,aw⟩:=aa.zj.rest (by simp only;rw[cg,<-K.o];exact S);simp only at av aw;rw[cg]at av aw;have bo:=aa.zj.free (k*2);have bq:=aa.zj.free (k*2+1);have O:=ah aa;have bf:Hid (wr.heap.size<d.heap.size/\F<d.heap.size):=ah ⟨aI b6,aI aa.zj.2⟩;obtain⟨R,af,ez⟩:=bm dm B cd;have W:Hid (∀j:Nat,j<k->d.cell? ⟨F,j*2,none⟩=some (.bool ((factsU ts hv (nodes.take k)).getD j ff).1)/\d.cell? ⟨F,j*2+1,none⟩=some (.bool ((factsU ts hv (nodes.take k)).getD j ff).2)):=ah (fun j fb=>aa.at fb (by simp only;rw[<-K.o];exact DJ S));have H:Hid (k<nodes.length):=ah (by rw[<-K.o];exact S);obtain⟨h,cc⟩:=am (factsU ts hv (nodes.take k));rw[<-cc]at R W;have ae:=ah cc;clear N ch dm B cd aa al b6 c2 cg cc;rcases nM af.o with e|e|e|e|e|e
   all_goals
    simp only at e;subst e
   case inl=>
    have u:Hid (rN ts hv ⟨⟨name,label,attrs,key,false,nodes⟩,Y,X,some ⟨b,ao,none⟩,V⟩ F w (.int .i64 ((k:Int)+1)) d):=ah ⟨k+1,aD,H.o,O.o.skip H.o (by have:=R.o;rw[this,ae.o];rfl)⟩;go_wp2_with(first|(rw[<-I];clear I)|fail)
    go_roundw
    case rel=>exact u.o
    case measure=>exact aM
   case inr.inl=>
    have u:Hid (rN ts hv ⟨⟨name,label,attrs,key,false,nodes⟩,Y,X,some ⟨b,ao,none⟩,V⟩ F w (.int .i64 ((k:Int)+1)) ((d.setCell ⟨F,k*2,none⟩ (.bool true)).setCell ⟨F,k*2+1,none⟩ (.bool false))):=ah ⟨k+1,aD,H.o,O.o.put H.o _ _ (by have:=R.o;rw[this,ae.o];rfl)⟩;go_wp2_with(first|(rw[<-I];clear I)|fail)
    go_roundw
    case rel=>exact u.o
    case measure=>exact aM
   case inr.inr.inl=>
    have a5:=ez.o rfl;obtain⟨c,bu⟩:=am (kidOf ts sym);rw[<-bu]at a5;have bA:Below w.heap.size w d:=O.o.base;have c8:=b2.o.zw (bL bA none) aj;have fg:=yN (c8.zw (bL (aA _ d).drew none) aj) el;rw[<-bu]at fg;have co:=(bA.cell (p:=⟨b3,1,none⟩) e4).Z ex.o;have bt:=b0.o.O bA;obtain⟨dc,gf,rfl,gn,dn⟩:=bt.2.2.2 ad;have e8:=dn c (.bool (hv.getD c false)) (by rw[bR,cB,cV a5];rfl);have e6:=bt.2.1;have dl:=bt.2.2.1;unfold maxLen at dl;have gg:=aL c;have gl:(c:Int)<hv.length:=ad;have u:Hid (rN ts hv ⟨⟨name,label,attrs,key,false,nodes⟩,Y,X,some ⟨b,ao,none⟩,V⟩ F w (.int .i64 ((k:Int)+1)) ((d.drew.setCell ⟨F,k*2,none⟩ (.bool (hv.getD c false))).setCell ⟨F,k*2+1,none⟩ (.bool (hv.getD c false)))):=ah ⟨k+1,aD,H.o,(O.o.O (aA _ d).drew).put H.o _ _ (by have:=R.o;rw[this,ae.o,bu];rfl)⟩;obtain⟨g1,dq⟩:=am (hv.getD c false);rw[<-dq]at u e8;clear dq dn bt e6 dl c8 bA bu;go_wp2_with(first|(rw[<-I];clear I)|fail)
    go_region
    go_wp2
    go_roundw
    case rel=>exact u.o
    case measure=>exact aM
   case inr.inr.inr.inr.inr=>
    have B:=af.o;simp only[eA,cy]at B;simp at B;obtain⟨⟨-,bF,bZ⟩,-⟩:=B;obtain⟨p,rfl⟩:∃p:Nat,ab=p:=⟨ab.toNat,ad⟩;have eg:=aL p;have ek:(p:Int)<n:=ad;obtain⟨u0,u1⟩:=W.o p ad;obtain⟨⟨s,t⟩,J⟩:∃a,a=h.getD p ff:=⟨_,rfl⟩;rw[<-J]at u0 u1;simp only at u0 u1;have u:Hid (rN ts hv ⟨⟨name,label,attrs,key,false,nodes⟩,Y,X,some ⟨b,ao,none⟩,V⟩ F w (.int .i64 ((k:Int)+1)) ((d.setCell ⟨F,k*2,none⟩ (.bool true)).setCell ⟨F,k*2+1,none⟩ (.bool t))):=ah ⟨k+1,aD,H.o,O.o.put H.o _ _ (by have:=R.o;rw[this,<-ae.o];show h++[(true,(h.getD p ff).2)]=_;rw[<-J])⟩;clear J;go_wp2_with(first|(rw[<-I];clear I)|fail)
    go_roundw
    case rel=>exact u.o
    case measure=>exact aM
   case inr.inr.inr.inl=>
    have B:=af.o;simp only[eA,cy]at B;simp at B;obtain⟨⟨-,bF,bZ⟩,cp,cq⟩:=B;obtain⟨p,rfl⟩:∃p:Nat,ab=p:=⟨ab.toNat,ad⟩;obtain⟨q,rfl⟩:∃q:Nat,ba=q:=⟨ba.toNat,ad⟩;have eg:=aL p;have ek:(p:Int)<n:=ad;have fq:=aL q;have fr:(q:Int)<n:=ad;obtain⟨u0,u1⟩:=W.o p ad;obtain⟨t0,t1⟩:=W.o q ad;obtain⟨⟨s,t⟩,J⟩:∃a,a=h.getD p ff:=⟨_,rfl⟩;obtain⟨⟨v,y⟩,M⟩:∃a,a=h.getD q ff:=⟨_,rfl⟩;rw[<-J]at u0 u1;rw[<-M]at t0 t1;simp only at u0 u1 t0 t1;have a6:factsU ts hv (nodes.take (k+1))=factsU ts hv (nodes.take k)++[(s&&v,s&&v&&(t||y))]:=by
     have:=R.o;rw[this,<-ae.o];show h++[((h.getD p ff).1&&(h.getD q ff).1,(h.getD p ff).1&&(h.getD q ff).1&&((h.getD p ff).2||(h.getD q ff).2))]=_
     rw[<-J,<-M]
    have Z:=ah a6;have fc:wr.heap.size<d.heap.size:=bf.o.1;have T:F<d.heap.size:=bf.o.2;have c4:wr.heap.size≠d.heap.size:=ad;have e1:wr.heap.size≠d.heap.size+1:=ad;have e2:F≠d.heap.size:=ad;have e3:F≠d.heap.size+1:=ad;clear J M a6 bF bZ cp cq;go_wp2_with(first|(rw[<-I];clear I)|fail)
    refine IN (P:= ?KPA) ?mainA ?pfA
    case mainA=>
     intro a2;go_region
     all_goals
      (first
        |(obtain⟨r,C⟩:=am (((d.alloc (.cells #[.bool s,.bool t] 166)).alloc (.cells #[.bool v,.bool y] 166)).drew)
          rw[<-C];have Q:=yZ d _ _ _ r C;clear C;obtain⟨G,A⟩:∃g,g=d.heap.size+1:=⟨_,rfl⟩;obtain⟨E,z⟩:∃g,g=d.heap.size:=⟨_,rfl⟩;rw[<-A,<-z]at Q;rw[<-A,<-z];have b4:Hid (qr 166 d E G #[.bool s,.bool t] #[.bool v,.bool y] r):=ah Q;clear Q z A;revert r;revert G;revert E;exact a2)
        |(obtain⟨r,C⟩:=am (((d.alloc (.cells #[.bool v,.bool y] 166)).alloc (.cells #[.bool s,.bool t] 166)).drew)
          rw[<-C];have Q:=(yZ d _ _ _ r C).swap;clear C;obtain⟨E,z⟩:∃g,g=d.heap.size+1:=⟨_,rfl⟩;obtain⟨G,A⟩:∃g,g=d.heap.size:=⟨_,rfl⟩;rw[<-z,<-A]at Q;rw[<-z,<-A];have b4:Hid (qr 166 d E G #[.bool s,.bool t] #[.bool v,.bool y] r):=ah Q;clear Q z A;revert r;revert G;revert E;exact a2))
    case pfA=>
     intro E G r Q;obtain⟨bb,bc,D⟩:=Q.out;have a4:=O.o.O D;have u:Hid (rN ts hv ⟨⟨name,label,attrs,key,false,nodes⟩,Y,X,some ⟨b,ao,none⟩,V⟩ F w (.int .i64 ((k:Int)+1)) ((r.setCell ⟨F,k*2,none⟩ (.bool (s&&v))).setCell ⟨F,k*2+1,none⟩ (.bool (s&&v&&(t||y))))):=ah ⟨k+1,aD,H.o,a4.put H.o _ _ Z.o⟩;obtain⟨fx,fy⟩:=ku bb;obtain⟨fz,fF⟩:=ku bc;have fP:=(D.cell (p:=⟨F,k*2,none⟩) T).Z av;have fS:=(D.cell (p:=⟨F,k*2+1,none⟩) T).Z aw;have fT:=(D.frozen (p:=⟨F,k*2,none⟩) T).Z bo;have ga:=(D.frozen (p:=⟨F,k*2+1,none⟩) T).Z bq;clear b2 b0 be b1 bi bg O R W af a1 bd cG b7;clear bb bc D a4 Q Z u0 u1 t0 t1 av aw bo bq cu cv er es;cases s with
     |false=>
      go_wp2
      go_roundw
      case rel=>exact u.o
      case measure=>exact aM
     |true=>
      cases v with
      |false=>
       go_wp2
       go_roundw
       case rel=>exact u.o
       case measure=>exact aM
      |true=>
       cases t with
       |false=>
        go_wp2
        go_roundw
        case rel=>exact u.o
        case measure=>exact aM
       |true=>
        go_wp2
        go_roundw
        case rel=>exact u.o
        case measure=>exact aM
   case inr.inr.inr.inr.inl=>
    have B:=af.o;simp only[eA,cy]at B;simp at B;obtain⟨⟨-,bF,bZ⟩,cp,cq⟩:=B;obtain⟨p,rfl⟩:∃p:Nat,ab=p:=⟨ab.toNat,ad⟩;obtain⟨q,rfl⟩:∃q:Nat,ba=q:=⟨ba.toNat,ad⟩;have eg:=aL p;have ek:(p:Int)<n:=ad;have fq:=aL q;have fr:(q:Int)<n:=ad;obtain⟨u0,u1⟩:=W.o p ad;obtain⟨t0,t1⟩:=W.o q ad;obtain⟨⟨s,t⟩,J⟩:∃a,a=h.getD p ff:=⟨_,rfl⟩;obtain⟨⟨v,y⟩,M⟩:∃a,a=h.getD q ff:=⟨_,rfl⟩;rw[<-J]at u0 u1;rw[<-M]at t0 t1;simp only at u0 u1 t0 t1;have a6:factsU ts hv (nodes.take (k+1))=factsU ts hv (nodes.take k)++[(s||v,t||y)]:=by
     have:=R.o;rw[this,<-ae.o];show h++[((h.getD p ff).1||(h.getD q ff).1,(h.getD p ff).2||(h.getD q ff).2)]=_
     rw[<-J,<-M]
    have Z:=ah a6;have fc:wr.heap.size<d.heap.size:=bf.o.1;have T:F<d.heap.size:=bf.o.2;have c4:wr.heap.size≠d.heap.size:=ad;have e1:wr.heap.size≠d.heap.size+1:=ad;have e2:F≠d.heap.size:=ad;have e3:F≠d.heap.size+1:=ad;clear J M a6 bF bZ cp cq;go_wp2_with(first|(rw[<-I];clear I)|fail)
    refine IN (P:= ?KPB) ?mainB ?pfB
    case mainB=>
     intro a2;go_region
     all_goals
      (first
        |(obtain⟨r,C⟩:=am (((d.alloc (.cells #[.bool s,.bool t] 166)).alloc (.cells #[.bool v,.bool y] 166)).drew)
          rw[<-C];have Q:=yZ d _ _ _ r C;clear C;obtain⟨G,A⟩:∃g,g=d.heap.size+1:=⟨_,rfl⟩;obtain⟨E,z⟩:∃g,g=d.heap.size:=⟨_,rfl⟩;rw[<-A,<-z]at Q;rw[<-A,<-z];have b4:Hid (qr 166 d E G #[.bool s,.bool t] #[.bool v,.bool y] r):=ah Q;clear Q z A;revert r;revert G;revert E;exact a2)
        |(obtain⟨r,C⟩:=am (((d.alloc (.cells #[.bool v,.bool y] 166)).alloc (.cells #[.bool s,.bool t] 166)).drew)
          rw[<-C];have Q:=(yZ d _ _ _ r C).swap;clear C;obtain⟨E,z⟩:∃g,g=d.heap.size+1:=⟨_,rfl⟩;obtain⟨G,A⟩:∃g,g=d.heap.size:=⟨_,rfl⟩;rw[<-z,<-A]at Q;rw[<-z,<-A];have b4:Hid (qr 166 d E G #[.bool s,.bool t] #[.bool v,.bool y] r):=ah Q;clear Q z A;revert r;revert G;revert E;exact a2))
    case pfB=>
     intro E G r Q;obtain⟨bb,bc,D⟩:=Q.out;have a4:=O.o.O D;have u:Hid (rN ts hv ⟨⟨name,label,attrs,key,false,nodes⟩,Y,X,some ⟨b,ao,none⟩,V⟩ F w (.int .i64 ((k:Int)+1)) ((r.setCell ⟨F,k*2,none⟩ (.bool (s||v))).setCell ⟨F,k*2+1,none⟩ (.bool (t||y)))):=ah ⟨k+1,aD,H.o,a4.put H.o _ _ Z.o⟩;obtain⟨fx,fy⟩:=ku bb;obtain⟨fz,fF⟩:=ku bc;have fP:=(D.cell (p:=⟨F,k*2,none⟩) T).Z av;have fS:=(D.cell (p:=⟨F,k*2+1,none⟩) T).Z aw;have fT:=(D.frozen (p:=⟨F,k*2,none⟩) T).Z bo;have ga:=(D.frozen (p:=⟨F,k*2+1,none⟩) T).Z bq;clear b2 b0 be b1 bi bg O R W af a1 bd cG b7;clear bb bc D a4 Q Z u0 u1 t0 t1 av aw bo bq cu cv er es;cases s with
     |false=>
      cases t with
      |false=>
       go_wp2
       go_roundw
       case rel=>exact u.o
       case measure=>exact aM
      |true=>
       go_wp2
       go_roundw
       case rel=>exact u.o
       case measure=>exact aM
     |true=>
      cases t with
      |false=>
       go_wp2
       go_roundw
       case rel=>exact u.o
       case measure=>exact aM
      |true=>
       go_wp2
       go_roundw
       case rel=>exact u.o
       case measure=>exact aM
  obtain rfl:k=n:=ad;have fo:=(iM a1.o).2;obtain⟨m,ea⟩:∃m,k=m+1:=⟨k-1,by have:=K.o;omega⟩;have c4:(k:Int)-1=(m:Nat):=ad;have gv:=aL m;have gG:(m:Int)<k:=ad;obtain⟨u0,u1⟩:=al.at (j:=m) ad (by simp only;rw[<-K.o];exact ay _);simp only at u0 u1;rw[bI (by rw[<-K.o];exact ay _)]at u0 u1;obtain⟨cO,cb⟩:=am ((factsU ts hv nodes).getD m ff);rw[<-cb]at u0 u1;have ey:Hid (my ts hv ⟨name,label,attrs,key,false,nodes⟩=cO):=ah (by rw[cb];unfold my;simp only[iW,iy];rw[<-K.o,ea];rfl);obtain⟨eE,eZ⟩:=cO;simp only at u0 u1;obtain⟨fG,em,c1,c5⟩:=dy wr (.cells #[.bool eE,.bool eZ] 166);obtain⟨cu,cv⟩:=ku c5;have Z:Hid (Below w.heap.size w fG):=ah (aE al.base c1);clear cb ea al c1 c5 du fo;go_wp2_with(first|(rw[<-em];clear em)|fail)
  go_region
  go_wp2
  go_ret2
  rw[ey.o];exact⟨rfl,Z.o.drew⟩
def kZ(ts:List aB)(hv:List Bool)(k:Nat):List Bool:=match ts[k]? with
 |none=>hv
 |some t=>if hv.getD k false=true then hv else if(my ts hv t).1=true then hv.set k true else hv
def gI(ts:List aB)(hv:List Bool)(k:Nat):List Bool:=(List.range k).foldl (kZ ts) hv
def roundU(ts:List aB)(hv:List Bool):List Bool:=gI ts hv ts
def cY{α}(f:α->α):Nat->α->α
 |0,x=>x
 |n+1,x=>f (cY f n x)
def tQ ts hv k:gI ts hv (k+1)=kZ ts (gI ts hv k) k:=by simp[gI,tW]
def Tc ts hv k:(kZ ts hv k)=hv.length:=by unfold kZ;split;rfl;split;rfl;split;simp;rfl
def Cs ts hv k:(gI ts hv k)=hv.length:=by
 induction k with
 |zero=>rfl
 |succ k ih=>rw[tQ,Tc,ih]
def Td{hv:List Bool}{k}(b:hv[k]?=false):(hv.set k true).count false+1=hv.count false:=by
 induction hv generalizing k with
 |nil=>simp at b
 |cons a hv ih=>
  cases k with
  |zero=>simp at b;subst b;simp
  |succ k=>
   have:=ih (k:=k) (by simpa using b);simp only[ct,List.count_cons];omega
def Ct ts hv k(d:hv.length=ts.length):kZ ts hv k=hv∨(kZ ts hv k).count false+1=hv.count false:=by
 unfold kZ;split;simp;rename_i t b;have c:=(aF.1 b).1;split;simp;rename_i a;split;refine .inr (Td ?_);rw[cV ad];congr 1
 rw[cB,cV ad]at a;simpa using a;simp
def y7 ts hv(b:hv.length=ts.length) k:gI ts hv k=hv∨(gI ts hv k).count false<hv.count false:=by
 induction k with
 |zero=>exact .inl rfl
 |succ k ih=>
  rw[tQ];rcases Ct ts (gI ts hv k) k (by rw[Cs,b])with a|a
  rw[a];exact ih;rcases ih with e|e
  rw[e]at a⊢;omega;omega
structure jF(w:World)(n H:Nat)(hv:List Bool)(wr:World):Prop where
 base:Below w.heap.size w wr
 low:w.heap.size<=H
 row:wr.heap[H]?=some (.cells (hv.map Value.bool).toArray 4)
 len:hv.length=n
section
variable{w wr wz:World} {n H k:Nat} {hv:List Bool}
def jF.O(a:jF w n H hv wr)(b:Below wr.heap.size wr wz):jF w n H hv wz:=⟨aE a.base b,a.low,(b.J _ (aI a.row)).Z a.row,a.len⟩
def jF.at(a:jF w n H hv wr)(b:k<n):wr.cell? ⟨H,k,none⟩=some (.bool (hv.getD k false)):=by have c:=a.len;rw[ak _ a.row,iU,bR,cB,cV ad];rfl
def jF.free(a:jF w n H hv wr)(k:Nat):wr.frozen? ⟨H,k,none⟩=false:=aJ a.row k
def jF.put(a:jF w n H hv wr)(k:Nat):jF w n H (hv.set k true) (wr.setCell ⟨H,k,none⟩ (.bool true)):=by
 refine⟨a.base.setCell a.low _,a.low,(a8 _ _ _ _ a.row).Z ?_,l6.zy▸a.len⟩;congr 2
 apply lW;simp
def jF.bools(a:jF w n H hv wr)(c:n<=1048576):Ig wr (some ⟨H,0,none⟩) n hv:=by refine⟨aj,Dw a.len,bO,fun _=>⟨_,_,rfl,aI a.row,fun j u b=> ?_⟩⟩;rw[cH,ak _ a.row,iU];exact b
end
def IP(ts:List aB)(w:World)(e:Ending)(w':World):Prop:=
 ∃i H hv,hv=cY (roundU ts) i (List.replicate ts false)/\roundU ts hv=hv/\e=.returned (.slice (some ⟨H,0,none⟩) ts ts)/\jF w ts H hv w'
def IQ(ts:List aB)(w:World)(H n g:Nat)(wr:World):Prop:=∃i hv,hv=cY (roundU ts) i (List.replicate ts false)/\hv.count false=g/\jF w n H hv wr
def y9(ts:List aB)(w:World)(H n:Nat)(hv:List Bool)(b a:Value)(wr:World):Prop:=∃k,a=.int .i64 (k:Nat)/\k<=n/\b=.bool (decide (gI ts hv k≠hv))/\jF w n H (gI ts hv k) wr
def Te:(prog.info? 4).map (fun i=>(i.zero,i.size,i.bytes))=some (some (.bool false),1,1):=az
def IR l o cap W0(y:cw W0 o cap l)(D:ep l)(V:bY (l.map ai.t)=0) A K M1 M2 M3(M:∀x∈l,x.t.text=false->bK x.t.E=0/\x.t.E.length<=60) w(m:eQ W0 A w K M1 M2 M3 o cap l):
 dB 23 #[K] w (IP (l.map ai.t) w):=by
 have I:=D.len;have⟨n,c⟩:=am l.length;have t:(l.map ai.t)=n:=by rw[bn,c]
 have⟨a,r,v,z,B⟩:=cZ Te;have⟨d,p⟩:=am (madeCells #[false] n);have C:∀wz,(Instr.makeSlice 29 (.int .i64 (n:Int)) (.int .i64 (n:Int))).run prog wz=.ok (.slice (some ⟨wz.heap.size,0,none⟩) n n) (wz.alloc (.cells d 4)):=fun wz=>by have:=sj (P:=prog) wz 29 4 a (.bool false) K4 r v .i64 .i64 n n ad ad (by rw[B];omega) ad;simp only[nH,z,wj]at this;rw[this,p];rfl
 have⟨w1,a⟩:=am (w.alloc (.cells d 4));have u:jF w n w.heap.size (List.replicate n false) w1:=by
  refine⟨a▸aP,ay _,?_,aj⟩;rw[a,aN];congr 2
  rw[p];apply lW;rw[DH];simp
 have j:=ak 0 m.blk;rw[<-c]at j;have⟨s,d,h,f⟩:=dE m u c t;clear m u p r v z B c t
 go_in
 go_wp2_with(first|(rw[<-a];clear a)|fail)
 go_step3
 go_wp2_with(first|(rw[<-a];clear a)|fail)
 go_step3
 go_wp2_with fail
 clear C j;generalize w.heap.size=H at d⊢;have a:n<=1048576:=by rw[h.o];exact I
 have⟨ts,a⟩:=am (l.map ai.t);rw[<-a]at f⊢;have E:=ah a;clear a;go_loopg [] n (fun g wr=>IQ ts w H n g wr)
 case atStart=>exact⟨0,_,by rw[f.o];rfl,aj,d.o⟩
 case round=>
 clear d;obtain⟨i,hv,m,a,d⟩:=hrel;obtain⟨O,T⟩:=aC m a;have c:=s.o.zw (bL d.base none) (fun q e=>by cases e);have j:=ak 0 c.blk;rw[<-h.o]at j;have⟨r,J⟩:=aC d d.len;clear m a d c;go_wp2_with fail
 obtain⟨a,rfl⟩:=am wr;go_loopw [4,22] (fun B a wr=>y9 ts w H n hv B a wr) (fun _ a _=>n-(intOf a).toNat)
 case atStart=>exact⟨0,rfl,aH _,by simp[gI],r.o⟩
 case round=>
 clear r j;obtain⟨k,rfl,a,rfl,d⟩:=hrel;have Q:(k:Int)<n∨¬((k:Int)<n):=ad;by_cases j:k<n
 ·have a:=aL k
  have a:=bk j;clear Q;have⟨x,m⟩:=df l k (h.o▸j);have c:=s.o.zw (bL d.base none) (fun q e=>by cases e);have⟨b,s,a,p,t,u,v,z,C,F⟩:=(y.O c.base).at m;subst a;have⟨B,G⟩:=am (decide (gI ts hv k≠hv));rw[<-G];have N:=ah G;have⟨a,v⟩:∃q,q=gI ts hv k:=⟨_,rfl⟩;rw[<-v]at d;have R:a=l.length:=by rw[d.len];exact h.o
  have⟨wz,p,C,t⟩:=dy wr (.cells (typeRow x) 55);have u:=d.O C;have u0:=u.at j;have⟨W,F⟩:∃q,q=a.getD k false:=⟨_,rfl⟩;rw[<-F]at u0;have⟨s,z,S,X⟩:=dC t;have Y:=ak 4 t;have Z:=ak 5 t;simp[typeRow]at s z S X Y Z;have S:kZ ts a k=if a.getD k false=true then a else if(my ts a x.t).1=true then a.set k true else a:=by unfold kZ;rw[E.o,bR,m];rfl
  have z:=Tb l _ cap W0 y D V A K M1 M2 M3 x (aK m) a (M x (aK m)) (some ⟨H,0,none⟩) n R wz (c.zw (bL C none) (fun q e=>by cases e)) (u.bools (by rw[h.o];exact I));rw[<-E.o,d.len]at z;unfold dV at z;have⟨M,s,D,h,I⟩:=iz z S v F u;have y:Hid (gI ts hv (k+1)=kZ ts a k):=ah (by rw[tQ,<-v]);clear z S v F u d c m R C t G;unfold typeRow at p;cases W with
  |true=>
   have m:Hid (y9 ts w H n hv (.bool B) (.int .i64 ((k:Int)+1)) wz):=ah ⟨k+1,aD,j,by rw[y.o,s.o,au h.o.zy,D.o,N.o],by rw[y.o,s.o,au h.o.zy];exact I.o⟩;go_wp2_with(first|(rw[<-p];clear p)|fail)
   go_roundw
   case rel=>exact m.o
   case measure=>exact aM
  |false=>
   go_wp2_with(first|(rw[<-p];clear p)|fail)
   refine ar M.o ?_;intro R F;clear M;obtain⟨c,z⟩:∃q,q=(my ts a x.t).1:=⟨_,rfl⟩;obtain⟨p,G⟩:∃q,q=(my ts a x.t).2:=⟨_,rfl⟩;rw[<-z,<-G];have u:=I.o.O F;have V:=u.at j;have W:=u.free k;have⟨v,C⟩:=aC u z;have p:¬(a.getD k false=true):=by rw[<-h.o];simp
   cases c with
   |true=>
    have m:Hid (y9 ts w H n hv (.bool true) (.int .i64 ((k:Int)+1)) (R.setCell ⟨H,k,none⟩ (.bool true))):=ah (by
     have t:gI ts hv (k+1)=a.set k true:=by rw[y.o,s.o,ap p,au C.o.zy]
     refine⟨k+1,aD,j,?_,t▸v.o.put k⟩;congr 1
     rw[t];have I:=y7 ts hv (by rw[J.o,f.o]) k;have M:=Ct ts a k (by rw[v.o.len,f.o]);rw[s.o,ap p,au C.o.zy]at M;have S:a.set k true≠hv:=fun e=>by
      rcases M with h|h
      have c:(a.set k true).getD k false=true:=by rw[cB,su (v.o.len▸j)];rfl
      rw[h]at c;exact p c;rw[e]at h;rw[<-D.o]at I;rcases I with c|c
      rw[c]at h;omega;omega
     exact(iS S).zy)
    clear z G u F p
    go_wp2
    go_roundw
    case rel=>exact m.o
    case measure=>exact aM
   |false=>
    have m:Hid (y9 ts w H n hv (.bool B) (.int .i64 ((k:Int)+1)) R):=ah (by
     have t:gI ts hv (k+1)=a:=by rw[y.o,s.o,ap p,ap (by rw[<-C.o];simp)]
     exact⟨_,aD,j,by rw[t,D.o,N.o],t▸v.o⟩)
    clear z G u F p V W
    go_wp2
    go_roundw
    case rel=>exact m.o
    case measure=>exact aM
 ·obtain rfl:k=n:=ad
  clear Q;have⟨c,a⟩:∃q,q=gI ts hv k:=⟨_,rfl⟩;rw[<-a]at d⊢;have p:Hid (roundU ts hv=c):=ah (by unfold roundU;rw[f.o];exact a.zy);have r:=ah d;have j:=y7 ts hv (by rw[J.o,f.o]) k;rw[<-a]at j;have s:=ah j;clear a d j;by_cases a:c=hv;have d:decide (c≠hv)=false:=by simp[a]
  rw[d];have j:Hid (IP ts w (.returned (.slice (some ⟨H,0,none⟩) k k)) wr):=ah ⟨i,H,hv,O.o,by rw[p.o,a],by rw[f.o],by rw[f.o];have:=r.o;rwa[a]at this⟩;clear d a;go_wp2_with fail
  rw[sf];go_ret;rw[<-E.o];exact j.o
  ·have d:decide (c≠hv)=true:=by simp[a]
   rw[d];have j:Hid (c.count false<hv.count false):=ah (by rcases s.o with h|h;exact absurd h a;exact h);have m:Hid (IQ ts w H k (c.count false) wr):=ah ⟨i+1,c,by rw[cY,<-O.o,p.o],rfl,r.o⟩;clear d a
   go_wp2
   go_roundg(c.count false)
   case rel=>exact m.o
   case measure=>have:=j.o;have:=T.o;omega
end Go.Proofs.YtfeidcmojcijpaaGreatDoor
