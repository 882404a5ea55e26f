import Derived.Test.YtnadadbndcdolaaGreatDoorQat
import Derived.Test.YtnadadbndcdolaaGreatDoorQav
set_option linter.unusedVariables false
set_option linter.unusedSimpArgs false
set_option maxRecDepth 100000
set_option maxHeartbeats 0
namespace Go.Proofs.YtnadadbndcdolaaGreatDoor
open Go.RowKit Tryz
theorem pV(no:Option Addr)(b n F U:Nat)(w:World)(d:0<n)(c:n<=60):Calls prog 143 #[hO no b n F U] w fun a w'=>a=.returned (.pointer (some ⟨F,(n-1)*34,none⟩))/\Below w.heap.size w w':=by
 have e:(n:Int)-1<(n:Int):=ad;have f:(0:Int)<=n-1:=ad;have g:((n:Int)-1).toNat=n-1:=ad;unfold hO;go_enter func143,ntmps143
 go_wp2
 go_ret;exact⟨rfl,aG⟩
structure iy(w wr:World)(no:Option Addr)(nc n F U m:Nat):Prop where
 base:Below w.heap.size w wr
 size:w.heap.size+3<=wr.heap.size
 box:wr.heap[w.heap.size]?=some (.cells #[.slice no n nc,.slice (some ⟨F,0,none⟩) n n,.slice (some ⟨U,0,none⟩) n n] 217)
 out:wr.rangeAt (w.heap.size+2) 0 (setRow m)
 outT:wr.there (w.heap.size+2) 0 16
 resT:wr.there (w.heap.size+1) 0 16
theorem iy.below{w wr d:World}{no:Option Addr}{c n F U m:Nat}(a:iy w wr no c n F U m)(b:Below wr.heap.size wr d):iy w d no c n F U m:=
 ⟨a.base.trans (b.mono a.base.size),aJ a.size b.size,(b.block _ (by have:=a.size;omega)).trans a.box,gN a.out b,gD a.outT b,gD a.resT b⟩
theorem iy.wrote{w wr d:World}{no:Option Addr}{c n F U m q:Nat}(a:iy w wr no c n F U m)(b:fE wr d (w.heap.size+2) 0 (.int .u64 (q:Nat))):iy w d no c n F U q:=
 ⟨b.row.below a.base ad,by rw[b.size];exact a.size,(b.block _ ad).trans a.box,vW (b.set (ep a.out)),b.row.there a.outT,b.row.there a.resT⟩
theorem nE(a:World)(ty:TypeId):Below a.heap.size a (a.alloc (.cells #[.int .u64 0,.int .u64 0,.int .u64 0,.int .u64 0,.int .u64 0,.int .u64 0,.int .u64 0,.int .u64 0,.int .u64 0,.int .u64 0,.int .u64 0,.int .u64 0,.int .u64 0,.int .u64 0,.int .u64 0,.int .u64 0] ty))/\(a.alloc (.cells #[.int .u64 0,.int .u64 0,.int .u64 0,.int .u64 0,.int .u64 0,.int .u64 0,.int .u64 0,.int .u64 0,.int .u64 0,.int .u64 0,.int .u64 0,.int .u64 0,.int .u64 0,.int .u64 0,.int .u64 0,.int .u64 0] ty)).rangeAt a.heap.size 0 (setRow 0)/\(a.alloc (.cells #[.int .u64 0,.int .u64 0,.int .u64 0,.int .u64 0,.int .u64 0,.int .u64 0,.int .u64 0,.int .u64 0,.int .u64 0,.int .u64 0,.int .u64 0,.int .u64 0,.int .u64 0,.int .u64 0,.int .u64 0,.int .u64 0] ty)).there a.heap.size 0 16/\(a.alloc (.cells #[.int .u64 0,.int .u64 0,.int .u64 0,.int .u64 0,.int .u64 0,.int .u64 0,.int .u64 0,.int .u64 0,.int .u64 0,.int .u64 0,.int .u64 0,.int .u64 0,.int .u64 0,.int .u64 0,.int .u64 0,.int .u64 0] ty)).heap.size=a.heap.size+1:=
 ⟨aG,ol (ty:=ty) (f:=(0,0)) (aB a _),jt (cs:=setRow 0) (ty:=ty) (aB a _) (az _),ak⟩
theorem MZ(w:World)(no:Option Addr)(a n F U:Nat):iy w (((w.alloc (.cells #[.slice no n a,.slice (some ⟨F,0,none⟩) n n,.slice (some ⟨U,0,none⟩) n n] 217)).alloc (.cells #[.int .u64 0,.int .u64 0,.int .u64 0,.int .u64 0,.int .u64 0,.int .u64 0,.int .u64 0,.int .u64 0,.int .u64 0,.int .u64 0,.int .u64 0,.int .u64 0,.int .u64 0,.int .u64 0,.int .u64 0,.int .u64 0] 222)).alloc (.cells #[.int .u64 0,.int .u64 0,.int .u64 0,.int .u64 0,.int .u64 0,.int .u64 0,.int .u64 0,.int .u64 0,.int .u64 0,.int .u64 0,.int .u64 0,.int .u64 0,.int .u64 0,.int .u64 0,.int .u64 0,.int .u64 0] 222)) no a n F U 0:=by
 obtain⟨b,e,g⟩:=dF w (.cells #[.slice no n a,.slice (some ⟨F,0,none⟩) n n,.slice (some ⟨U,0,none⟩) n n] 217);have m:b.heap.size=w.heap.size+1:=by rw[e];simp
 have p:b.heap[w.heap.size]?=some (.cells #[.slice no n a,.slice (some ⟨F,0,none⟩) n n,.slice (some ⟨U,0,none⟩) n n] 217):=by rw[e];exact aB w _
 rw[<-e];obtain⟨c,_,f,o⟩:=nE b 222;obtain⟨j,l⟩:=ar (b.alloc (.cells #[.int .u64 0,.int .u64 0,.int .u64 0,.int .u64 0,.int .u64 0,.int .u64 0,.int .u64 0,.int .u64 0,.int .u64 0,.int .u64 0,.int .u64 0,.int .u64 0,.int .u64 0,.int .u64 0,.int .u64 0,.int .u64 0] 222));rw[<-l]at c f o⊢;obtain⟨d,h,i,q⟩:=nE j 222;rw[m]at f;rw[show j.heap.size=w.heap.size+2 by omega]at h i;exact⟨(g.trans (c.mono g.size)).trans (d.mono ad),ad,(d.block _ ad).trans ((c.block _ ad).trans p),h,i,gD f d⟩
theorem M0{c:Array Oper}{rest:List Oper}{b:Oper}{a:Act}{w:World}{Q:Exit->Act->World->Prop}(e:b.guard=none)(ps:Array (Nat×Operand))(f:b.op=.build 222 ps)
 (g:(ps.toList.map fun p=>(p.1,a.eval p.2))=[]) (d:wpList prog c Q rest (a.put b.dst (.agg (setRow 0).toArray)) w):wpList prog c Q (b::rest) a w:=
 sS e 222 ps f _ _ aA g d
def Eb(l:List aj)(p:Nat)(w:World)(a:Ending)(w':World):Prop:=a=.returned (.agg (setRow (cK l p)).toArray)/\Below w.heap.size w w'
theorem Ec(l:List aj)(no:Option Addr)(f F U p:Nat)(bF:aj)(w:World)(hF:dP l)(S:l.length<=60)(M:cO w no f l)(aa:jR w F U l)(a5:l[p]?=some bF)(bw:bF.op=2):
 Calls prog 145 #[hO no f l.length F U,.int .i64 (p:Nat)] w (Eb l p w):=by
 have bA:=(aL.1 a5).1;have cc:=M.2.2.1;unfold maxLen at cc;have c3:=M.2.1;have D:=MZ w no f l.length F U;obtain⟨bN,a6⟩:=ar (((w.alloc (.cells #[.slice no l.length f,.slice (some ⟨F,0,none⟩) l.length l.length,.slice (some ⟨U,0,none⟩) l.length l.length] 217)).alloc (.cells #[.int .u64 0,.int .u64 0,.int .u64 0,.int .u64 0,.int .u64 0,.int .u64 0,.int .u64 0,.int .u64 0,.int .u64 0,.int .u64 0,.int .u64 0,.int .u64 0,.int .u64 0,.int .u64 0,.int .u64 0,.int .u64 0] 222)).alloc (.cells #[.int .u64 0,.int .u64 0,.int .u64 0,.int .u64 0,.int .u64 0,.int .u64 0,.int .u64 0,.int .u64 0,.int .u64 0,.int .u64 0,.int .u64 0,.int .u64 0,.int .u64 0,.int .u64 0,.int .u64 0,.int .u64 0] 222));rw[<-a6]at D;obtain⟨b,o,rfl,c2,b0,cs,cu,cv⟩:=(M.below D.base).at a5;rw[bw]at b0;have Y:=ai 0 D.box;have b7:=ai 2 D.box;have u0:=(D.base.cell (p:=⟨U,p,none⟩) aa.lU).trans (aa.ups p bA);have d0:decide ((p:Int)<0)=false:=bK;have d1:decide ((l.length:Int)<=(p:Int))=false:=bK;have d2:decide (l.length<=p)=false:=bK;have c8:(p:Int)<l.length:=ad;have c6:(0:Int)<=p:=ad;obtain⟨b6,b2,K⟩:=bH D M aa;clear D M aa a5 bw cs cu cv;unfold hO;go_enter func145,ntmps145
 go_wp2_with(first
  |(rw[<-a6];clear a6)
  |fail)
 go_quiet(fail)
 obtain⟨cq,a7⟩:=ar (bN.drewN nq);have bq:iy w cq (some ⟨b,o,none⟩) f l.length F U 0:=by rw[a7];exact b6.o.below (gh (aE _ bN) nq)
 rw[<-a7];clear a7 Y b7 u0 b0;have be:=ah bq;clear bq
 go_wp2
 go_loopw [6,7] (fun a9 co wr=>∃(a m k:Nat),a9=.int .i64 a/\co=.int .i64 (aboveV l l.length a)/\a<l.length/\l.length<=k+a/\m<18446744073709551616/\Hid (iy w wr (some ⟨b,o,none⟩) f l.length F U m)/\Hid (kj l p k a m=cK l p)) (fun a9 _ _=>l.length-(intOf a9).toNat)
 case atStart=>exact⟨p,0,l.length,rfl,rfl,bA,ad,ap,be.o,rfl⟩
 case round=>
 clear be;obtain⟨a,m,k,rfl,rfl,Q,c4,bu,y,av⟩:=hrel;by_cases H:a=l.length-1
 ·have P:aboveV l l.length a= -1:=by unfold aboveV;rw[ay H]
  have b1:Hid (m=cK l p):=by have c:=av.o;obtain⟨k,rfl⟩:∃a8,k=a8+1:=⟨k-1,ad⟩;unfold kj at c;rw[ay H]at c;exact c
  rw[P];have c5:=y.o.out;have ce:=y.o.resT;clear P H;go_wp2_with(first
   |((with_reducible apply dj (ty:=222));exact rfl;exact rfl;exact rfl;assumption;exact kI;exact rfl;exact fK)
   |(((with_reducible apply cQ (ty:=222));exact rfl;exact rfl;exact rfl;exact rfl;assumption;exact fK;exact fa _);intro cp N)
   |fail)
  (try simp only[Exit.inBlock,Exit.then])
  refine cg (gC rfl _ _ (w.heap.size+1) 0 _ _ rfl N.here kI rfl fK) rfl ?_;exact⟨by rw[b1.o],N.below y.o.base ad⟩
 ·obtain⟨bg,L,bi⟩:=yq hF (a:=a) ad
  obtain⟨u,E⟩:=ar (gL l a);rw[<-E]at bg L bi;have g:u<l.length:=ad;have P:aboveV l l.length a=(u:Nat):=by unfold aboveV;rw[au H,ay (by rw[<-E];exact g),E]
  rw[P];obtain⟨n,I⟩:∃n,l[u]?=some n:=⟨_,aH g⟩;have bo:=K.o.below y.o.base;have bl:=b2.o.below y.o.base;obtain⟨b',eb,a2,cb,ba,bb,bc,bd⟩:=bl.at I;injection a2 with a2
  injection a2 with b8 b9 ca;clear ca
  subst b8;subst b9;have ae:=iM l 0 u n hF.ok I;rw[cD]at ae;obtain⟨ds,ea,ab,T,_,bD⟩:=yp hF (j:=a) ad;rw[<-E]at bD;subst bD;rw[I]at ab;injection ab with ab
  subst ab;have bz:n.op=3∨n.op=4∨n.op=5:=by
   unfold bO at T;split at T
   ·rename_i c;omega
   ·split at T
    ·rename_i c;omega
    ·simp at T
  have e:kN l a=if n.op=3 then(if n.a=(a:Int)then .catL (aQ l n.b.toNat)else .catR (aQ l n.a.toNat))else if n.op=4 then(if n.a=(a:Int)then .altL (aQ l n.b.toNat)else .altR (aQ l n.a.toNat))else .star:=by unfold kN;rw[<-E,I]
  obtain⟨k,rfl⟩:∃a8,k=a8+1:=⟨k-1,ad⟩;have s:Hid (cK l p=if(aQ l u).alive then kj l p k u (if(dJ (aQ l a)).testBit p then(match kN l a with| .catL b=>m|||cE b| .star=>m|||cE (aQ l a)|_=>m)else m)else 0):=by have c:=av.o;unfold kj at c;rw[au H,<-E]at c;exact c.symm
  have bC:=mi ae;obtain⟨bZ,W,a1,Z⟩:=cm wr (.cells #[.int .i64 n.op,.string ⟨n.sym.toArray⟩,.int .i64 n.a,.int .i64 n.b] 102);obtain⟨h,z⟩:=aD (y.o.below a1) (bo.below a1);have ch:=ai 0 Z;have ci:=ai 2 Z;have cl:=ai 3 Z;have Y:=ai 0 y.o.box;have cF:=ai 1 h.o.box;have aq:bZ.cell? ⟨F,u*34,none⟩=some (.bool (!(aQ l u).alive)):=z.o.facts u g 0 _ rfl;obtain⟨b3,b4,cx,X⟩:=cr ae bC I e;have dr:(u:Int)<l.length:=ad;have c9:(0:Int)<=u:=ad;have c1:(a:Int)<l.length:=ad;have c0:(0:Int)<=a:=ad;have C:=bu;clear av y a1 Z bo bl cb ae bC I e H E bg L bi P bu T;obtain⟨ec,sym,ag,al⟩:=n;simp only at bz W ch ci cl ba bb bc bd;cases af:(aQ l u).alive with
  |false=>
   rw[af]at aq s;simp only[Bb,A7]at aq;have ce:=h.o.resT;clear af;go_wp2_with(first
    |(rw[<-W];clear W ba bb bc bd Y)
    |((with_reducible apply M0);exact rfl;exact rfl;exact rfl)
    |(((with_reducible apply cQ (ty:=222));exact rfl;exact rfl;exact rfl;exact rfl;assumption;exact fK;exact fa _);intro cp N)
    |fail)
   (try simp only[Exit.inBlock,Exit.then])
   refine cg (gC rfl _ _ (w.heap.size+1) 0 _ _ rfl N.here kI rfl fK) rfl ?_;exact⟨by rw[s.o];rfl,N.below h.o.base ad⟩
  |true=>
   rw[af]at aq s;simp only[Bb,A7]at aq;clear af;have bE:=z.o.facts a Q 18 _ rfl;obtain⟨q,bB⟩:=ar ((dJ (aQ l a)).testBit p);have bt:dJ (aQ l a)<18446744073709551616:=(kR hF S Q).2;have a4:=zh F (a*34+18) (dJ (aQ l a)) p bZ ad bt bE;rw[<-bB]at a4 s;have b5:=ah a4;clear a4 bE bt bB;go_wp2_with(first
    |(rw[<-W];clear W ba bb bc bd Y)
    |fail)
   refine b5.o.mono ?_;rintro bf i ⟨rfl,rfl⟩;cases q with
   |false=>
    have d:Hid (iy w i (some ⟨b,o,none⟩) f l.length F U m):=h;have r:=z;have x:=ah C;have t:Hid (kj l p k u m=cK l p):=by unfold Hid;rw[s.o];rfl
    have an:=ai 2 d.o.box;have ao:=r.o.ups u g;skip
    go_wp2
    go_quiet(fail)
    have v:Hid (iy w (i.drewN nq) (some ⟨b,o,none⟩) f l.length F U (m)):=d.o.below (gh (aE _ i) nq)
    go_wp2
    go_roundw
    case rel=>exact⟨u,m,k,rfl,rfl,g,ad,x.o,v,t.o⟩
    case measure=>exact bh
   |true=>
    rcases bz with rfl|rfl|rfl
    ·have c7:0<=al:=by
      have c:=b3.o;unfold dO at c;rw[au ak,au ak,ay ak]at c;simp only[cS]at c;have L:=c.2;unfold dy at L;simp at L;omega
     obtain⟨B,rfl⟩:∃B:Nat,al=B:=⟨al.toNat,ad⟩;have a3:B<l.length:=by have:=b4.o B (by simp[bO]);omega
     have cN:(B:Int)<l.length:=ad;have cG:(0:Int)<=B:=ad;by_cases J:ag=(a:Int)
     ·have e:=X.o
      simp only[iG,ay J,ph]at e;have A:=ah e;have cd:(ag==(a:Int))=true:=by simpa using J
      clear J e;have V:m|||cE (aQ l B)<18446744073709551616:=D5 C (kR hF S a3).1
      have t:Hid (kj l p k u (m|||cE (aQ l B))=cK l p):=by unfold Hid;rw[s.o];rw[A.o];rfl
      have R:=nB (w.heap.size+2) 0 m F (B*34+2) (cE (aQ l B)) i (by have:=K.o.lF;omega) C (kR hF S a3).1 (ep h.o.out) (nD h.o.outT (az _)) (ep (kz (z.o.facts B a3)));obtain⟨x,a0⟩:=aD V R;clear R V;go_wp2_with fail
      refine a0.o.mono ?_;rintro bf G ⟨rfl,O⟩;have d:=ah (h.o.wrote O);have r:Hid (jR G F U l):=K.o.below d.o.base;clear O;have an:=ai 2 d.o.box;have ao:=r.o.ups u g;skip
      go_wp2
      go_quiet(fail)
      have v:Hid (iy w (G.drewN nq) (some ⟨b,o,none⟩) f l.length F U (m|||cE (aQ l B))):=d.o.below (gh (aE _ G) nq)
      go_wp2
      go_roundw
      case rel=>exact⟨u,m|||cE (aQ l B),k,rfl,rfl,g,ad,x.o,v,t.o⟩
      case measure=>exact bh
     ·have e:=X.o
      simp only[iG,au J]at e;have A:=ah e;have cd:(ag==(a:Int))=false:=by simpa using J
      clear J e;have d:Hid (iy w i (some ⟨b,o,none⟩) f l.length F U m):=h;have r:=z;have x:=ah C;have t:Hid (kj l p k u m=cK l p):=by unfold Hid;rw[s.o];rw[A.o];rfl
      have an:=ai 2 d.o.box;have ao:=r.o.ups u g;skip
      go_wp2
      go_quiet(fail)
      have v:Hid (iy w (i.drewN nq) (some ⟨b,o,none⟩) f l.length F U (m)):=d.o.below (gh (aE _ i) nq)
      go_wp2
      go_roundw
      case rel=>exact⟨u,m,k,rfl,rfl,g,ad,x.o,v,t.o⟩
      case measure=>exact bh
    ·have A:Hid (kN l a=.altL (aQ l al.toNat)∨kN l a=.altR (aQ l ag.toNat)):=by
      have c:=X.o;simp only[show¬((4:Int)=3) by omega,jl,iG]at c;unfold Hid;rw[c];split
      ·exact .inl rfl
      ·exact .inr rfl
     have d:Hid (iy w i (some ⟨b,o,none⟩) f l.length F U m):=h;have r:=z;have x:=ah C;have t:Hid (kj l p k u m=cK l p):=by unfold Hid;rw[s.o];rcases A.o with c|c<;>(rw[c];rfl)
     have an:=ai 2 d.o.box;have ao:=r.o.ups u g;skip
     go_wp2
     go_quiet(fail)
     have v:Hid (iy w (i.drewN nq) (some ⟨b,o,none⟩) f l.length F U (m)):=d.o.below (gh (aE _ i) nq)
     go_wp2
     go_roundw
     case rel=>exact⟨u,m,k,rfl,rfl,g,ad,x.o,v,t.o⟩
     case measure=>exact bh
    ·have e:=X.o
     simp only[show¬((5:Int)=3) by omega,show¬((5:Int)=4) by omega,jl]at e;have A:=ah e;clear e;have V:m|||cE (aQ l a)<18446744073709551616:=D5 C (kR hF S Q).1
     have t:Hid (kj l p k u (m|||cE (aQ l a))=cK l p):=by unfold Hid;rw[s.o];rw[A.o];rfl
     have R:=nB (w.heap.size+2) 0 m F (a*34+2) (cE (aQ l a)) i (by have:=K.o.lF;omega) C (kR hF S Q).1 (ep h.o.out) (nD h.o.outT (az _)) (ep (kz (z.o.facts a Q)));obtain⟨x,a0⟩:=aD V R;clear R V;go_wp2_with fail
     refine a0.o.mono ?_;rintro bf G ⟨rfl,O⟩;have d:=ah (h.o.wrote O);have r:Hid (jR G F U l):=K.o.below d.o.base;clear O;have an:=ai 2 d.o.box;have ao:=r.o.ups u g;skip
     go_wp2
     go_quiet(fail)
     have v:Hid (iy w (G.drewN nq) (some ⟨b,o,none⟩) f l.length F U (m|||cE (aQ l a))):=d.o.below (gh (aE _ G) nq)
     go_wp2
     go_roundw
     case rel=>exact⟨u,m|||cE (aQ l a),k,rfl,rfl,g,ad,x.o,v,t.o⟩
     case measure=>exact bh
def wk(l:List aj)(f:Lit->Option Value):Prop:=∀(q:Nat) (v:Value),f (.int .i64 (q:Nat))=some v->v=.agg (setRow (cK l q)).toArray
theorem M7(w:World):(zeroValue 222).run prog w=.ok (.agg (setRow 0).toArray) w:=aA
theorem Ek{w w':World}{row b o n:Nat}(e:w.there b o n)(g:w.grownBy w' (some row))(i:b≠row):w'.there b o n:=fun j h=>by obtain⟨d,f⟩:=e j h;obtain⟨u,l⟩:=By.1 d;have c:=g.block b (nU w _ l) (by simpa using i);exact⟨by rw[dD (w:=w) (w':=w') (a:=⟨b,o+j,none⟩) c];exact d,by rw[mW (w:=w) (w':=w') (a:=⟨b,o+j,none⟩) c];exact f⟩
def El(l:List aj)(p c M:Nat)(w:World)(d:Ending)(w':World):Prop:=
 d=.returned (.agg (setRow (cK l p)).toArray)/\w.grownBy w' (some M)/\∃a b,bp w' prog 3 M a b/\a<=c+1/\wk l b
theorem M8(l:List aj)(no:Option Addr)(L F U p E KB M e:Nat)(f:Lit->Option Value)(N:aj)(w:World)(hF:dP l)(bl:l.length<=60)(ae:cO w no L l)(af:jR w F U l)(av:l[p]?=some N)(bu:N.op=2)
 (a0:w.heap[E]?=some (.cells #[.slice no l.length L,.slice (some ⟨F,0,none⟩) l.length l.length,.slice (some ⟨U,0,none⟩) l.length l.length] 217)) (z:w.heap[KB]?=some (.cells #[.map (some M)] 227))
 (A:bp w prog 3 M e f) (b0:e<=1152921504606846976) (an:wk l f):
 Calls prog 144 #[.int .i64 (p:Nat),.pointer (some ⟨KB,0,none⟩),.pointer (some ⟨E,0,none⟩)] w (El l p e M w):=by
 have b1:=(aL.1 av).1;obtain⟨h,a2,Q,a3⟩:=nE w 222;obtain⟨S,s⟩:=ar (w.alloc (.cells #[.int .u64 0,.int .u64 0,.int .u64 0,.int .u64 0,.int .u64 0,.int .u64 0,.int .u64 0,.int .u64 0,.int .u64 0,.int .u64 0,.int .u64 0,.int .u64 0,.int .u64 0,.int .u64 0,.int .u64 0,.int .u64 0] 222));rw[<-s]at h a2 Q a3;obtain⟨x,P,u,bD⟩:=nE S 222;obtain⟨bE,t⟩:=ar (S.alloc (.cells #[.int .u64 0,.int .u64 0,.int .u64 0,.int .u64 0,.int .u64 0,.int .u64 0,.int .u64 0,.int .u64 0,.int .u64 0,.int .u64 0,.int .u64 0,.int .u64 0,.int .u64 0,.int .u64 0,.int .u64 0,.int .u64 0] 222));rw[<-t]at x P u bD;rw[a3]at P u;have ab:Below w.heap.size w bE:=h.trans (x.mono h.size);have aq:=A.below h A.lt;have ao:=(h.block KB (ax z)).trans z;have a1:=ai 0 ao;have J:keyOf prog 3 (.int .i64 (p:Nat))=some (.int .i64 (p:Nat)):=pj cU (kM ad);have m:=aq.look_ok (gw cU) underlying227 (M7 S) dH J;obtain⟨Y,V,d,D,W,X,a9,a8,bd⟩:=qM (gD Q x) ab A an z a0 af ae J;clear h a2 Q x P ab aq ao A an z a0 af ae J;go_enter func144,ntmps144
 cases i:f (.int .i64 (p:Nat))with
 |some v=>
  obtain rfl:=D.o p v i;rw[i]at m;simp only[qj,BK]at m;clear i;go_wp2_with(first
   |(rw[<-s];clear s)
   |(rw[<-t];clear t a1 m)
   |((with_reducible apply dj (ty:=222));exact rfl;exact rfl;exact rfl;assumption;exact kI;exact rfl;exact fK)
   |(((with_reducible apply cQ (ty:=222));exact rfl;exact rfl;exact rfl;exact rfl;assumption;exact fK;exact fa _);first|(clear u;intro R b;have b3:=b.here;have t3:=b.there Y.out)|(intro a5 ag))
   |fail)
  (try simp only[Exit.inBlock,Exit.then])
  refine cg (gC rfl _ _ w.heap.size 0 _ _ rfl ag.here kI rfl fK) rfl ?_;have al:=ag.below (b.below V.o ad) (az _);exact⟨rfl,zj al _,e,f,d.o.below al d.o.lt,ad,D.o⟩
 |none=>
  rw[i]at m;simp only[xV,xW]at m;have bN:=ah i;clear i;go_wp2_with(first
   |(rw[<-s];clear s)
   |(rw[<-t];clear t a1 m)
   |((with_reducible apply dj (ty:=222));exact rfl;exact rfl;exact rfl;assumption;exact kI;exact rfl;exact fK)
   |(((with_reducible apply cQ (ty:=222));exact rfl;exact rfl;exact rfl;exact rfl;assumption;exact fK;exact fa _);intro R b;have n:=b.below V.o (rP _ 1);have B:=(n.block E (ax X.o)).trans X.o;have bA:=ai 0 B;have bB:=ai 1 B;have bC:=ai 2 B;have ba:=ah (b.there u);have bb:=ah (b.there Y.out);have bF:R.heap.size=w.heap.size+2:=b.size.trans ad;clear u B)
   |fail)
  have K:=Ec l no L F U p N R hF bl (a8.o.below n) (a9.o.below n) av bu;unfold Eb hO at K;have a7:=ah n;clear n b bA bB bC;refine K.mono ?_;rintro o a5 ⟨rfl,y⟩;have t4:=gD ba.o y;have Z:=a7.o.trans (y.mono ad);obtain⟨T,bc⟩:=aD Z (gD bb.o y);clear K y Z;have bZ:=d.o.lt;have bt:=d.o.below T.o d.o.lt;have a6:Hid (∀a,dU a5 a (w.heap.size+1) 0 (setRow (cK l p))->Below w.heap.size w a/\bp a prog 3 M e f/\a.cell? ⟨KB,0,none⟩=some (.map (some M))/\a.rangeAt (w.heap.size+1) 0 (setRow (cK l p))/\a.there w.heap.size 0 16):=fun a G=>by have H:=G.below T.o ad;exact⟨H,d.o.below H d.o.lt,ai 0 ((H.block KB (ax W.o)).trans W.o),G.here,G.there bc.o⟩
  have bi:=bd.o;clear bt;go_wp2_with(first
   |((with_reducible apply dj (ty:=222));exact rfl;exact rfl;exact rfl;assumption;exact kI;exact rfl;exact fK)
   |(((with_reducible apply cQ (ty:=222));exact rfl;exact rfl;exact rfl;exact rfl;assumption;exact fK;exact fa _);first|(clear t4;intro a bg;obtain⟨aa,bz,bw,O,a4⟩:=a6.o a bg)|(intro b5 g))
   |(at_mapUpdate;go_must (refine oy bz rfl _ _ _ 227 rfl 222 (gw cU) underlying227 rfl bI _ _ _ rfl rfl dH bi ?_);intro C bo I;have b4:C.rangeAt (w.heap.size+1) 0 (setRow (cK l p)):=(fun j v c=>(I.cell_far ⟨w.heap.size+1,0+j,none⟩ (nU a _ (O j v c)) aR).trans (O j v c));have b2:=aa.size;have t6:C.there w.heap.size 0 16:=Ek a4 I ad;clear bw O a4)
   |fail)
  (try simp only[Exit.inBlock,Exit.then])
  refine cg (gC rfl _ _ w.heap.size 0 _ _ rfl g.here kI rfl fK) rfl ?_;have bq:bp C prog 3 M (e+1) (eW f (.int .i64 (p:Nat)) (.agg (setRow (cK l p)).toArray)):=bo;refine⟨rfl,?_,e+1,eW f (.int .i64 (p:Nat)) (.agg (setRow (cK l p)).toArray),?_,az _,?_⟩
  ·have r:w.grownBy C (some M):=(zj aa _).trans I
   exact⟨g.os.trans r.os,g.tape.trans r.tape,g.output.trans r.output,by rw[g.size];exact r.size,fun k be bf=>(g.block k ad).trans (r.block k be bf)⟩
  ·exact bq.kept (g.grown) aR
  ·intro q v c
   by_cases o:(Lit.int .i64 (q:Nat))=.int .i64 (p:Nat)
   ·rw[o,jw]at c
    injection o with _ o
    have:q=p:=ad;subst this;injection c with c
    exact c.symm
   ·rw[jS _ _ o]at c
    exact D.o q v c
theorem M9(l:List aj)(no:Option Addr)(i F U p e n:Nat)(r:aj)(a:List Bytes)(x:Bytes)(W:Option Addr)(t:Nat)(w:World)(hF:dP l)(O:l.length<=60)(f:cO w no i l)(B:jR w F U l)(E:l[p]?=some r)
 (G:w.heap[e]?=some (.cells #[.slice no l.length i,.slice (some ⟨F,0,none⟩) l.length l.length,.slice (some ⟨U,0,none⟩) l.length l.length] 217)) (D:w.heap[n]?=some (.cells #[.slice W a.length t] 48))
 (q:dZ w W t a) (J:a[a.length-1]?=some x):
 Calls prog 148 #[.int .i64 (p:Nat),.pointer (some ⟨e,0,none⟩),.pointer (some ⟨n,0,none⟩)] w fun d w'=>d=.returned (.bool (r.sym==x&&(dJ (aQ l (l.length-1))).testBit p))/\Below w.heap.size w w':=by
 have bi:=(aL.1 E).1;have a2:=(aL.1 J).1;have ag:=f.2.2.1;unfold maxLen at ag;have be:=f.2.1;have an:=q.2.2.1;unfold maxLen at an;have al:=q.2.1;obtain⟨b,j,rfl,N,a4,K,a5,a6⟩:=f.at E;obtain⟨m,u,rfl,T,X⟩:=q.at J;have Q:=ax G;have P:=ax D;have bg:(p:Int)<l.length:=ad;have bf:(0:Int)<=p:=ad;have a1:(a.length:Int)-1<(a.length:Int):=ad;have ao:(0:Int)<=a.length-1:=ad;have a3:((a.length:Int)-1).toNat=a.length-1:=ad;have R:l.length-1<l.length:=ad;have aq:(1:Int)<=a.length:=ad;have av:1<=a.length:=ad;have I:0<a.length:=ad;have a0:a≠[]:=by intro d;rw[d]at I;simp at I
 have V:=B.facts (l.length-1) R 18 _ rfl;have C:∀w',Below w.heap.size w w'->w'.cell? ⟨e,0,none⟩=some (.slice (some ⟨b,j,none⟩) l.length i)/\w'.cell? ⟨e,1,none⟩=some (.slice (some ⟨F,0,none⟩) l.length l.length)/\w'.cell? ⟨e,2,none⟩=some (.slice (some ⟨U,0,none⟩) l.length l.length)/\w'.cell? ⟨n,0,none⟩=some (.slice (some ⟨m,u,none⟩) a.length t)/\w'.cell? ⟨b,j+p*4+1,none⟩=some (.string ⟨r.sym.toArray⟩)/\w'.cell? ⟨m,u+(a.length-1),none⟩=some (encStr x):=fun w' g=>by have A:=(g.block _ Q).trans G;have ab:=(g.block _ P).trans D;exact⟨ai 0 A,ai 1 A,ai 2 A,ai 0 ab,(g.cell (p:=⟨b,_,none⟩) N).trans K,(g.cell (p:=⟨m,_,none⟩) T).trans X⟩
 have h:=ah C;have Y:Hid (∀w',Below w.heap.size w w'->Calls prog 143 #[.agg #[.slice (some ⟨b,j,none⟩) l.length i,.slice (some ⟨F,0,none⟩) l.length l.length,.slice (some ⟨U,0,none⟩) l.length l.length]] w' fun d v=>d=.returned (.pointer (some ⟨F,(l.length-1)*34,none⟩))/\Below w'.heap.size w' v):=fun w' g=>pV _ _ _ _ _ w' ad O;have L:Hid (∀w',Below w.heap.size w w'->Calls prog 149 #[.pointer (some ⟨F,(l.length-1)*34+18,none⟩),.int .i64 (p:Nat)] w' fun d v=>d=.returned (.bool ((dJ (aQ l (l.length-1))).testBit p))/\v=w'):=fun w' g=>
  zh F ((l.length-1)*34+18) (dJ (aQ l (l.length-1))) p w' ad (kR hF O R).2 ((g.cell (p:=⟨F,_,none⟩) B.lF).trans V)
 obtain⟨a8,a9,ba,Z,aa,z⟩:=C w (aE _ _);have bd:=(aE w.heap.size w).drew;obtain⟨s,S⟩:=ar (r.sym);rw[<-S]at h K aa⊢;unfold encStr at h z;obtain⟨a7,M⟩:=ar ((dJ (aQ l (l.length-1))).testBit p);rw[<-M]at L⊢;clear C f B G D q a4 K a5 a6 X V M S E J T N Q P;obtain⟨c,f⟩:∃c,a.length=c+1:=⟨a.length-1,ad⟩;rw[f]at h Z z al;simp only[Nat.add_sub_cancel]at h z;have bc:(c:Int)<c+1:=ad;have bb:(0:Int)<=c:=ad;have bl:IntKind.i64.wrap (c:Int)=(c:Int):=rM _ ad;clear f aq av I a0 a1 ao a3 a2;go_enter func148,ntmps148
 by_cases o:s=x
 ·have H:(s==x)=true:=by simpa using o
  have y:=ah H;clear o;go_wp2_with fail
  go_region_held3(fun w'=>Below w.heap.size w w'/\w'.cell? ⟨e,0,none⟩=some (.slice (some ⟨b,j,none⟩) l.length i)/\w'.cell? ⟨e,1,none⟩=some (.slice (some ⟨F,0,none⟩) l.length l.length)/\w'.cell? ⟨e,2,none⟩=some (.slice (some ⟨U,0,none⟩) l.length l.length)/\w'.cell? ⟨n,0,none⟩=some (.slice (some ⟨m,u,none⟩) (c+1) t)/\w'.cell? ⟨b,j+p*4+1,none⟩=some (.string ⟨s.toArray⟩)/\w'.cell? ⟨m,u+c,none⟩=some (.string ⟨x.toArray⟩)) (first|exact⟨fS,h.o _ fS⟩)
   (first
     |(go_at_call 143;refine(Y.o _ fS).mono ?_;rintro d v ⟨rfl,ae⟩;have af:=aO (w0:=w) fS ae)
     |(go_at_call 149;refine(L.o _ fS).mono ?_;rintro d bo ⟨rfl,rfl⟩))
  go_wp2
  go_ret;exact⟨by rw[y.o];rfl,by first|exact af|assumption⟩
 ·have H:(s==x)=false:=by simpa using o
  have y:=ah H;clear o
  go_wp2
  go_quiet(fail)
  go_wp2
  go_ret;exact⟨by rw[y.o];rfl,gh (aE _ w) nq⟩
theorem cX:(prog.info? 320).map (·.size)=some 16:=aA
theorem qO(a:World):Below a.heap.size a (a.alloc (.cells #[.int .u64 0,.int .u64 0,.int .u64 0,.int .u64 0,.int .u64 0,.int .u64 0,.int .u64 0,.int .u64 0,.int .u64 0,.int .u64 0,.int .u64 0,.int .u64 0,.int .u64 0,.int .u64 0,.int .u64 0,.int .u64 0] 320))/\(a.alloc (.cells #[.int .u64 0,.int .u64 0,.int .u64 0,.int .u64 0,.int .u64 0,.int .u64 0,.int .u64 0,.int .u64 0,.int .u64 0,.int .u64 0,.int .u64 0,.int .u64 0,.int .u64 0,.int .u64 0,.int .u64 0,.int .u64 0] 320)).rangeAt a.heap.size 0 (setRow 0)/\(a.alloc (.cells #[.int .u64 0,.int .u64 0,.int .u64 0,.int .u64 0,.int .u64 0,.int .u64 0,.int .u64 0,.int .u64 0,.int .u64 0,.int .u64 0,.int .u64 0,.int .u64 0,.int .u64 0,.int .u64 0,.int .u64 0,.int .u64 0] 320)).there a.heap.size 0 16/\(a.alloc (.cells #[.int .u64 0,.int .u64 0,.int .u64 0,.int .u64 0,.int .u64 0,.int .u64 0,.int .u64 0,.int .u64 0,.int .u64 0,.int .u64 0,.int .u64 0,.int .u64 0,.int .u64 0,.int .u64 0,.int .u64 0,.int .u64 0] 320)).heap.size=a.heap.size+1:=
 nE a _
structure nF(w wr:World)(m:Nat):Prop where
 base:Below w.heap.size w wr
 size:w.heap.size+2<=wr.heap.size
 out:wr.rangeAt (w.heap.size+1) 0 (setRow m)
 outT:wr.there (w.heap.size+1) 0 16
 resT:wr.there w.heap.size 0 16
theorem nF.below{w wr c:World}{m:Nat}(a:nF w wr m)(b:Below wr.heap.size wr c):nF w c m:=
 ⟨a.base.trans (b.mono a.base.size),aJ a.size b.size,gN a.out b,gD a.outT b,gD a.resT b⟩
theorem nF.wrote{w wr c:World}{m q:Nat}(a:nF w wr m)(b:fE wr c (w.heap.size+1) 0 (.int .u64 (q:Nat))):nF w c q:=
 ⟨b.row.below a.base ad,by rw[b.size];exact a.size,vW (b.set (ep a.out)),b.row.there a.outT,b.row.there a.resT⟩
theorem Nk(w:World):nF w ((w.alloc (.cells #[.int .u64 0,.int .u64 0,.int .u64 0,.int .u64 0,.int .u64 0,.int .u64 0,.int .u64 0,.int .u64 0,.int .u64 0,.int .u64 0,.int .u64 0,.int .u64 0,.int .u64 0,.int .u64 0,.int .u64 0,.int .u64 0] 320)).alloc (.cells #[.int .u64 0,.int .u64 0,.int .u64 0,.int .u64 0,.int .u64 0,.int .u64 0,.int .u64 0,.int .u64 0,.int .u64 0,.int .u64 0,.int .u64 0,.int .u64 0,.int .u64 0,.int .u64 0,.int .u64 0,.int .u64 0] 320)) 0:=by obtain⟨a,_,e,d⟩:=qO w;obtain⟨h,g⟩:=ar (w.alloc (.cells #[.int .u64 0,.int .u64 0,.int .u64 0,.int .u64 0,.int .u64 0,.int .u64 0,.int .u64 0,.int .u64 0,.int .u64 0,.int .u64 0,.int .u64 0,.int .u64 0,.int .u64 0,.int .u64 0,.int .u64 0,.int .u64 0] 320));rw[<-g]at a e d⊢;obtain⟨b,c,f,i⟩:=qO h;rw[d]at c f;exact⟨a.trans (b.mono ad),ad,c,f,gD e b⟩
def dq(l:List Nat):Nat:=l.foldl jH 0
theorem Ey{l:List Nat}(b:∀x∈l,x<64):∀m,m<18446744073709551616->l.foldl jH m<18446744073709551616:=by
 induction l with
 |nil=>intro m a;exact a
 |cons x l ih=>intro m a;exact ih (fun y c=>b y (dt _ c)) _ (I5 a (b x (dM ..)))
theorem Nl(l:List Nat):∀(m j:Nat),(l.foldl jH m).testBit j=(m.testBit j||decide (j∈l)):=by
 induction l with
 |nil=>intro m j;simp
 |cons x l ih=>
  intro m j;rw[nT,ih,I6];by_cases a:x=j
  ·subst a;simp
  ·have:¬j=x:=fun b=>a b.symm
   simp[a,this]
theorem td(a:List Nat)(o:Option Addr)(c:Nat)(w:World)(f:kh w o c a)(W:a.length<=1048576)(v:∀x∈a,x<64):
 Calls prog 239 #[.slice o a.length c] w fun A w'=>A=.returned (.agg (setRow (dq a)).toArray)/\Below w.heap.size w w':=by
 have B:=f.2.2.1;unfold maxLen at B;have P:=f.2.1;have h:=Nk w;obtain⟨H,d⟩:=ar ((w.alloc (.cells #[.int .u64 0,.int .u64 0,.int .u64 0,.int .u64 0,.int .u64 0,.int .u64 0,.int .u64 0,.int .u64 0,.int .u64 0,.int .u64 0,.int .u64 0,.int .u64 0,.int .u64 0,.int .u64 0,.int .u64 0,.int .u64 0] 320)).alloc (.cells #[.int .u64 0,.int .u64 0,.int .u64 0,.int .u64 0,.int .u64 0,.int .u64 0,.int .u64 0,.int .u64 0,.int .u64 0,.int .u64 0,.int .u64 0,.int .u64 0,.int .u64 0,.int .u64 0,.int .u64 0,.int .u64 0] 320));rw[<-d]at h;obtain⟨n,l⟩:=aD h v;clear h v;go_enter func239,ntmps239
 go_wp2_with(first
  |(rw[<-d];clear d)
  |fail)
 go_loopw [5,8] (fun _ i wr=>∃k:Nat,i=.int .i64 k/\k<=a.length/\Hid (nF w wr (dq (a.take k)))) (fun _ i _=>a.length-(intOf i).toNat)
 case atStart=>exact⟨0,rfl,aZ _,n.o⟩
 case round=>
 clear n;obtain⟨k,rfl,S,b⟩:=hrel;by_cases E:k<a.length
 ·have C:decide ((k:Int)<a.length)=true:=bQ
  have V:(k:Int)<a.length:=ad;have T:(0:Int)<=k:=ad;obtain⟨x,e⟩:∃x,a[k]?=some x:=⟨_,aH E⟩;obtain⟨g,aa,rfl,Q,Z⟩:=(f.below b.o.base).at e;have t:=l.o x (aX e);have J:(x:Int).tdiv 64=0:=by rw[BD ad];omega
  have K:(x:Int).tmod 64=(x:Int):=by rw[IJ ad];omega
  have I:IntKind.i64.wrap 0=0:=rfl;have N:IntKind.i64.wrap (x:Int)=(x:Int):=rM _ ad;have O:min x 64=x:=ad;have F:dq (a.take k)<18446744073709551616:=Ey (fun y G=>l.o y (List.mem_of_mem_take G)) 0 ap;have L:=Ce t;have M:=Cf F t;have R:(0:Int)<=x:=ad;have u:dq (a.take (k+1))=jH (dq (a.take k)) x:=by unfold dq;rw[bV,e,fF,List.foldl_append];rfl
  have q:=(ep b.o.out).1;have s:=(b.o.outT 0 ad).2;have z:=ah u;clear u e;generalize dq (a.take k)=m at*;go_wp2_with fail
  go_still_tail 9,aA
  change wpList _ _ _ _ _ (World.drew wr);have r:wr.drew.cell? ⟨w.heap.size+1,0,none⟩=some (.int .u64 (m:Nat)):=q;have D:wr.drew.frozen? ⟨w.heap.size+1,0,none⟩=false:=s;have j:Hid (nF w wr.drew m):=b.o.below ((aE _ wr).drew);generalize d:wr.drew=H at r D j⊢;clear d q s b
  go_wp2
  go_roundw
  case rel=>exact⟨k+1,aV,ad,by rw[z.o];exact j.o.wrote (mz (k:=0) r)⟩
  case measure=>exact bh
 ·have C:decide ((k:Int)<a.length)=false:=bK
  obtain rfl:k=a.length:=ad;rw[dh (az _)]at b;have X:=b.o.out;have Y:=b.o.resT;go_wp2_with(first
   |((with_reducible apply dj (ty:=320));exact rfl;exact rfl;exact rfl;assumption;exact eY;exact rfl;exact cX)
   |(((with_reducible apply cQ (ty:=320));exact rfl;exact rfl;exact rfl;exact rfl;assumption;exact cX;exact fa _);intro ab p)
   |fail)
  (try simp only[Exit.inBlock,Exit.then])
  refine cg (gC rfl _ _ w.heap.size 0 _ _ rfl p.here eY rfl cX) rfl ?_;exact⟨rfl,p.below b.o.base ad⟩
structure oB(w wr:World)(m2 m:Nat):Prop where
 base:Below w.heap.size w wr
 size:w.heap.size+3<=wr.heap.size
 out:wr.rangeAt w.heap.size 0 (setRow m)
 outT:wr.there w.heap.size 0 16
 two:wr.rangeAt (w.heap.size+1) 0 (setRow m2)
 resT:wr.there (w.heap.size+1+1) 0 16
theorem zz(a:World)(m:Nat):Below a.heap.size a (a.alloc (.cells (setRow m).toArray 320))/\(a.alloc (.cells (setRow m).toArray 320)).rangeAt a.heap.size 0 (setRow m)/\(a.alloc (.cells (setRow m).toArray 320)).there a.heap.size 0 16/\(a.alloc (.cells (setRow m).toArray 320)).heap.size=a.heap.size+1:=
 ⟨aG,ol (ty:=320) (f:=(0,0)) (aB a _),jt (cs:=setRow m) (ty:=320) (aB a _) (az _),ak⟩
theorem oB.wrote{w wr c:World}{d m q k:Nat}{v:Value}(a:oB w wr d m)(b:fE wr c w.heap.size k v)(e:c.rangeAt w.heap.size 0 (setRow q)):oB w c d q:=
 ⟨b.row.below a.base ad,by rw[b.size];exact a.size,e,b.row.there a.outT,b.row.range a.two (.inl ad),b.row.there a.resT⟩
theorem EC(w:World)(m c:Nat):oB w (((w.alloc (.cells (setRow m).toArray 320)).alloc (.cells (setRow c).toArray 320)).alloc (.cells #[.int .u64 0,.int .u64 0,.int .u64 0,.int .u64 0,.int .u64 0,.int .u64 0,.int .u64 0,.int .u64 0,.int .u64 0,.int .u64 0,.int .u64 0,.int .u64 0,.int .u64 0,.int .u64 0,.int .u64 0,.int .u64 0] 320)) c m:=by obtain⟨f,g,i,e⟩:=zz w m;obtain⟨n,o⟩:=ar (w.alloc (.cells (setRow m).toArray 320));rw[<-o]at f g i e⊢;obtain⟨a,d,j,h⟩:=zz n c;obtain⟨r,p⟩:=ar (n.alloc (.cells (setRow c).toArray 320));rw[<-p]at a d j h⊢;obtain⟨b,q,l,s⟩:=qO r;rw[e]at d j;rw[h,e]at q l;exact⟨(f.trans (a.mono ad)).trans (b.mono ad),ad,gN (gN g a) b,gD (gD i a) b,gN d b,l⟩
theorem zA(m k:Nat)(b:k<16)(a:World):(Instr.index 320 (.agg (setRow m).toArray) (.int .i64 (k:Nat))).run prog a=.ok (.int .u64 ((if k=0 then m else 0:Nat):Int)) a:=by rcases(show k=0∨k=1∨k=2∨k=3∨k=4∨k=5∨k=6∨k=7∨k=8∨k=9∨k=10∨k=11∨k=12∨k=13∨k=14∨k=15 by omega)with rfl|rfl|rfl|rfl|rfl|rfl|rfl|rfl|rfl|rfl|rfl|rfl|rfl|rfl|rfl|rfl<;>kernel_rfl
theorem ww{w wr:World}{m h e k y q:Nat}(o:k<16)(f:oB w wr h m)(p:y=if k=0 then m else 0)(g:wr.cell? ⟨w.heap.size,k,none⟩=some (.int .u64 (y:Nat))->q=if k=0 then e else 0)(n:k≠0->e=m):
 oB w (wr.setCell ⟨w.heap.size,k,none⟩ (.int .u64 (q:Nat))) h e:=by
 have c:=ep f.out;have d:wr.cell? ⟨w.heap.size,k,none⟩=some (.int .u64 (y:Nat)):=by
  rw[p];split
  ·rename_i a;subst a;exact c.1
  ·have:=c.2 k ad o;rwa[cD]at this
 have b:fE wr (wr.setCell ⟨w.heap.size,k,none⟩ (.int .u64 (q:Nat))) w.heap.size k (.int .u64 (q:Nat)):=mz (k:=0) d;refine f.wrote b (vW ⟨?_,fun j i l=> ?_⟩)
 ·by_cases a:k=0
  ·subst a
   rw[b.here,g d,ay rfl]
  ·rw[b.other 0 ad,n a]
   exact c.1
 ·rw[cD]
  by_cases a:j=k
  ·subst a
   rw[b.here,g d,au ad];rfl
  ·rw[b.other j a]
   have:=c.2 j i l;rwa[cD]at this
theorem wJ(m b:Nat)(w:World)(E:m<18446744073709551616)(F:b<18446744073709551616):
 Calls prog 238 #[.agg (setRow m).toArray,.agg (setRow b).toArray] w fun a w'=>a=.returned (.agg (setRow (m|||b)).toArray)/\Below w.heap.size w w':=by
 have h:=EC w m b;obtain⟨Q,p⟩:=ar (((w.alloc (.cells (setRow m).toArray 320)).alloc (.cells (setRow b).toArray 320)).alloc (.cells #[.int .u64 0,.int .u64 0,.int .u64 0,.int .u64 0,.int .u64 0,.int .u64 0,.int .u64 0,.int .u64 0,.int .u64 0,.int .u64 0,.int .u64 0,.int .u64 0,.int .u64 0,.int .u64 0,.int .u64 0,.int .u64 0] 320));rw[<-p]at h;have s:=ah h;have G:=h.two;clear h;obtain⟨B,n⟩:=ar ((setRow b).toArray);have t:∀(k:Nat),k<16->∀l,(Instr.index 320 (.agg B) (.int .i64 (k:Nat))).run prog l=.ok (.int .u64 ((if k=0 then b else 0:Nat):Int)) l:=fun k v l=>by rw[n];exact zA b k v l
 have A:=ah t;clear t;go_enter func238,ntmps238
 go_wp2_with(first
  |(rw[<-p];clear p)
  |((with_reducible apply dj (ty:=320));exact rfl;exact rfl;exact rfl;assumption;exact eY;exact rfl;exact cX)
  |fail)
 simp only[<-n];clear n G;go_loopw [5,6,8] (fun _ _ q wr=>∃k:Nat,q=.int .i64 k/\k<=16/\Hid (oB w wr b (if k=0 then m else m|||b))) (fun _ _ q _=>16-(intOf q).toNat)
 case atStart=>exact⟨0,rfl,aZ _,s.o⟩
 case round=>
 clear s;obtain⟨k,rfl,v,d⟩:=hrel;by_cases f:k<16
 ·have C:decide ((k:Int)<16)=true:=bQ
  have K:(k:Int)<16:=ad;have J:(0:Int)<=k:=ad;have D:=A.o k f;obtain⟨x,i⟩:=ar (if k=0 then b else 0);obtain⟨y,j⟩:=ar (if k=0 then m else 0);rw[<-i]at D;have o:=ep d.o.out;have O:wr.cell? ⟨w.heap.size,k,none⟩=some (.int .u64 (y:Nat)):=by
   rw[j];split
   ·rename_i a;subst a;exact o.1
   ·have:=o.2 k ad f;rw[cD,au ‹_›]at*;exact this
  have P:wr.frozen? ⟨w.heap.size,k,none⟩=false:=by have:=(d.o.outT k f).2;rwa[cD]at this
  have H:x<18446744073709551616:=by rw[i];split;exact F;decide
  have I:y<18446744073709551616:=by rw[j];split;exact E;decide
  have L:bits .or .u64 (y:Int) (x:Int)=((y|||x:Nat):Int):=If y x I H;obtain⟨r,g⟩:=aD i j;clear i j o
  go_wp2
  go_roundw
  case rel=>
   refine⟨k+1,aV,ad,?_⟩;unfold Hid;rw[au ad];by_cases a:k=0
   ·subst a
    have c:=d.o;rw[ay rfl]at c;exact ww f c g.o (fun _=>by rw[r.o,g.o];rfl) (fun c=>absurd rfl c)
   ·have c:=d.o
    rw[au a]at c;exact ww (y:=y) f c (by rw[g.o,au a,au a]) (fun _=>by rw[r.o,g.o,au a,au a,au a];rfl) (fun _=>rfl)
  case measure=>exact bh
 ·have C:decide ((k:Int)<16)=false:=bK
  have e:=d.o;rw[au ad]at e;have z:=ah e;have M:=e.out;have N:=e.resT;clear e d;go_wp2_with(first
   |((with_reducible apply dj (ty:=320));exact rfl;exact rfl;exact rfl;assumption;exact eY;exact rfl;exact cX)
   |(((with_reducible apply cQ (ty:=320));exact rfl;exact rfl;exact rfl;exact rfl;assumption;exact cX;exact fa _);intro R u)
   |fail)
  (try simp only[Exit.inBlock,Exit.then])
  refine cg (gC rfl _ _ (w.heap.size+1+1) 0 _ _ rfl u.here eY rfl cX) rfl ?_;exact⟨rfl,u.below z.o.base ad⟩
theorem zB(m b:Nat)(w:World)(E:m<18446744073709551616)(F:b<18446744073709551616):
 Calls prog 245 #[.agg (setRow m).toArray,.agg (setRow b).toArray] w fun a w'=>a=.returned (.agg (setRow (m&&&b)).toArray)/\Below w.heap.size w w':=by
 have h:=EC w m b;obtain⟨Q,p⟩:=ar (((w.alloc (.cells (setRow m).toArray 320)).alloc (.cells (setRow b).toArray 320)).alloc (.cells #[.int .u64 0,.int .u64 0,.int .u64 0,.int .u64 0,.int .u64 0,.int .u64 0,.int .u64 0,.int .u64 0,.int .u64 0,.int .u64 0,.int .u64 0,.int .u64 0,.int .u64 0,.int .u64 0,.int .u64 0,.int .u64 0] 320));rw[<-p]at h;have s:=ah h;have G:=h.two;clear h;obtain⟨B,n⟩:=ar ((setRow b).toArray);have t:∀(k:Nat),k<16->∀l,(Instr.index 320 (.agg B) (.int .i64 (k:Nat))).run prog l=.ok (.int .u64 ((if k=0 then b else 0:Nat):Int)) l:=fun k v l=>by rw[n];exact zA b k v l
 have A:=ah t;clear t;go_enter func245,ntmps245
 go_wp2_with(first
  |(rw[<-p];clear p)
  |((with_reducible apply dj (ty:=320));exact rfl;exact rfl;exact rfl;assumption;exact eY;exact rfl;exact cX)
  |fail)
 simp only[<-n];clear n G;go_loopw [5,6,8] (fun _ _ q wr=>∃k:Nat,q=.int .i64 k/\k<=16/\Hid (oB w wr b (if k=0 then m else m&&&b))) (fun _ _ q _=>16-(intOf q).toNat)
 case atStart=>exact⟨0,rfl,aZ _,s.o⟩
 case round=>
 clear s;obtain⟨k,rfl,v,d⟩:=hrel;by_cases f:k<16
 ·have C:decide ((k:Int)<16)=true:=bQ
  have K:(k:Int)<16:=ad;have J:(0:Int)<=k:=ad;have D:=A.o k f;obtain⟨x,i⟩:=ar (if k=0 then b else 0);obtain⟨y,j⟩:=ar (if k=0 then m else 0);rw[<-i]at D;have o:=ep d.o.out;have O:wr.cell? ⟨w.heap.size,k,none⟩=some (.int .u64 (y:Nat)):=by
   rw[j];split
   ·rename_i a;subst a;exact o.1
   ·have:=o.2 k ad f;rw[cD,au ‹_›]at*;exact this
  have P:wr.frozen? ⟨w.heap.size,k,none⟩=false:=by have:=(d.o.outT k f).2;rwa[cD]at this
  have H:x<18446744073709551616:=by rw[i];split;exact F;decide
  have I:y<18446744073709551616:=by rw[j];split;exact E;decide
  have L:bits .and .u64 (y:Int) (x:Int)=((y&&&x:Nat):Int):=AU y x I H;obtain⟨r,g⟩:=aD i j;clear i j o
  go_wp2
  go_roundw
  case rel=>
   refine⟨k+1,aV,ad,?_⟩;unfold Hid;rw[au ad];by_cases a:k=0
   ·subst a
    have c:=d.o;rw[ay rfl]at c;exact ww f c g.o (fun _=>by rw[r.o,g.o];rfl) (fun c=>absurd rfl c)
   ·have c:=d.o
    rw[au a]at c;exact ww (y:=y) f c (by rw[g.o,au a,au a]) (fun _=>by rw[r.o,g.o,au a,au a,au a];rfl) (fun _=>rfl)
  case measure=>exact bh
 ·have C:decide ((k:Int)<16)=false:=bK
  have e:=d.o;rw[au ad]at e;have z:=ah e;have M:=e.out;have N:=e.resT;clear e d;go_wp2_with(first
   |((with_reducible apply dj (ty:=320));exact rfl;exact rfl;exact rfl;assumption;exact eY;exact rfl;exact cX)
   |(((with_reducible apply cQ (ty:=320));exact rfl;exact rfl;exact rfl;exact rfl;assumption;exact cX;exact fa _);intro R u)
   |fail)
  (try simp only[Exit.inBlock,Exit.then])
  refine cg (gC rfl _ _ (w.heap.size+1+1) 0 _ _ rfl u.here eY rfl cX) rfl ?_;exact⟨rfl,u.below z.o.base ad⟩
theorem EE(m:Nat)(w:World)(af:Gl w)(J:m<18446744073709551616):
 Calls prog 243 #[.agg (setRow m).toArray] w fun l w'=>(∃v,l=.returned v/\cW w' w.heap.size v (aC m))/\Below w.heap.size w w':=by
 obtain⟨a9,av,a6,a7,a8⟩:=cY pq;obtain⟨C,f⟩:=ar (w.alloc (.cells (setRow m).toArray 320));obtain⟨p,P,Q,ba⟩:=zz w m;rw[<-f]at p P Q ba;obtain⟨aa,q⟩:=ar ((setRow m).toArray);have W:Hid (∀(k:Nat),k<16->∀e,(Instr.index 320 (.agg aa) (.int .i64 (k:Nat))).run prog e=.ok (.int .u64 ((if k=0 then m else 0:Nat):Int)) e):=fun k I e=>by rw[q];exact zA m k I e
 obtain⟨V,T⟩:=aD J p;clear J Q p;go_enter func243,ntmps243
 go_wp2_with(first
  |(rw[<-f];clear f)
  |((with_reducible apply dj (ty:=320));exact rfl;exact rfl;exact rfl;assumption;exact eY;exact rfl;exact cX)
  |fail)
 simp only[<-q];clear q P;go_loopw [3,4,5,7] (fun v bq bt i wr=>∃k:Nat,i=.int .i64 k/\k<=16/\Below w.heap.size w wr/\∃s,cW wr w.heap.size v s/\Hid (s=if k=0 then []else aC m)) (fun _ _ _ i _=>16-(intOf i).toNat)
 case atStart=>exact⟨0,rfl,aZ _,T.o,[],dc _ _ _ _,rfl⟩
 case round=>
 obtain⟨k,rfl,I,a,s,b,o⟩:=hrel;obtain⟨S,R,rfl⟩:=mg b;by_cases a1:k<16
 ·have ao:decide ((k:Int)<16)=true:=bQ
  have be:(k:Int)<16:=ad;have bd:(0:Int)<=k:=ad;have a0:=W.o k a1;obtain⟨x,g⟩:=ar (if k=0 then m else 0);rw[<-g]at a0;have M:x<18446744073709551616:=by rw[g];split;exact V.o;decide
  have D:Hid (s++aC x=aC m):=by
   unfold Hid;rw[o.o,g];split
   ·rfl
   ·rw[qr,xI]
  have E:Hid (x≠0->k=0):=fun ab=>by apply ei;intro a2;exact ab (by rw[g,au a2])
  clear g o
  go_wp2
  go_loopw [3,5] (fun v B wr=>∃(y:Nat) (s:List Nat),B=.int .u64 (y:Nat)/\y<18446744073709551616/\Below w.heap.size w wr/\cW wr w.heap.size v s/\Hid (s++aC y=aC m)/\Hid (y≠0->k=0)) (fun _ B _=>(intOf B).toNat)
  case atStart=>exact⟨x,s,rfl,M,a,b,D,E⟩
  case round=>
  clear a b M D E;obtain⟨y,s,rfl,n,a,b,h,X⟩:=hrel;obtain⟨S,R,rfl⟩:=mg b;by_cases d:y=0
  ·obtain rfl:s=aC m:=by have:=h.o;rwa[d,qr,xI]at this
   have a5:((y:Int)==0)=true:=va;clear d
   go_wp2
   go_roundw
   case rel=>exact⟨k+1,aV,ad,a,aC m,b,by unfold Hid;rw[au ad]⟩
   case measure=>exact bh
  ·have a5:((y:Int)==0)=false:=gK
   have t:=X.o d;have A:=fun e (al:Below wr.heap.size wr e)=>DZ y n d e (af.below (a.trans (al.mono a.size)));have r:=Cd d n;have an:=(yc d n).1;have ag:bits .and .u64 (y:Int) (((y-1:Nat)):Int)=((y&&&(y-1):Nat):Int):=AU y (y-1) n ad;have bo:IntKind.u64.wrap ((y:Int)-1)=((y-1:Nat):Int):=by rw[show((y:Int)-1)=((y-1:Nat):Int) by omega];exact IntWalk.u64_in _ ad
   have u:y&&&(y-1)<=y-1:=IK;have bl:s.length<=64:=by
    have ae:=jk List.length h.o;rw[cR]at ae;have bc:(aC m).length<=64:=by unfold aC;have:=lq m.testBit (List.range 64);simpa using this
    omega
   obtain⟨c,H⟩:=ar (Lib.ctz 64 y);rw[<-H]at A an r;have G:Hid ((s++[c])++aC (y&&&(y-1))=aC m):=by unfold Hid;rw[<-h.o,r,xK];rfl
   obtain⟨bb,N⟩:=ar (y&&&(y-1));rw[<-N]at ag u G;obtain⟨Z,F,Y⟩:=bH d u t;have L:=A wr (aE _ wr);have bf:(k:Int)*64=0:=by rw[t];rfl
   clear r H N h d u A t;go_wp2_with fail
   refine L.mono ?_;rintro l C ⟨rfl,f⟩;subst f;clear L;have K:C.ownsRow w.heap.size 3 1 (.slice S s.length R) s.length (fi s):=b;have a4:=f9 K (.cells #[.int .i64 (c:Nat)] 3);have bi:=a.size;go_wp2_with(first
    |(at_builtin;go_must (refine jh _ rfl _ _ 125 rfl w.heap.size 3 a9 (.int .i64 0) 1 8 mR av a6 a7 a8 rfl ap _ _ _ rfl a4 ⟨C.heap.size,0,none⟩ 1 1 [.int .i64 (c:Nat)] rfl rfl (dK _ [.int .i64 (c:Nat)] _ _ (by first|rfl|simp)) (fun z O=>by simp at O;subst O;rfl) bI ad aR ?_);intro bu bw a3 aq bg)
    |go_in)
   go_roundw
   case rel=>
    refine⟨bb,s++[c],rfl,by have:=F.o;omega,(a.alloc a.size _).grown aq aR (fun j l=>(dC K j l).1),?_,G,fun _=>Y.o⟩;unfold cW;rw[cR];show World.ownsRow _ _ _ _ _ _ ((s++[c]).map fun k=>Value.int .i64 (k:Nat))
    rw[iH];exact a3
   case measure=>have:=F.o;have:=Z.o;simp[intOf];omega
 ·have ao:decide ((k:Int)<16)=false:=bK
  obtain rfl:s=aC m:=by have:=o.o;rwa[au ad]at this
  go_wp2
  go_ret;exact⟨⟨_,rfl,b⟩,a⟩
end Go.Proofs.YtnadadbndcdolaaGreatDoor
