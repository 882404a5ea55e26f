import Derived.Test.YtbacloblanpghaaGreatDoorQaw
import Derived.Test.YtbacloblanpghaaGreatDoorQaz
set_option linter.unusedVariables false
set_option linter.unusedSimpArgs false
set_option maxRecDepth 100000
set_option maxHeartbeats 0
namespace Go.Proofs.YtbacloblanpghaaGreatDoor
open Go.RowKit Tryz
theorem pk(no:Option Addr)(b n F U:Nat)(w:World)(d:0<n)(c:n<=60):Calls prog 109 #[gS no b n F U] w fun a w'=>a=.returned (.pointer (some ⟨F,(n-1)*34,none⟩))/\Below w.heap.size w w':=by
 have e:(n:Int)-1<(n:Int):=ad;have f:(0:Int)<=n-1:=ad;have g:((n:Int)-1).toNat=n-1:=ad;unfold gS;go_enter func109,ntmps109
 go_wp2
 go_ret;exact⟨rfl,az⟩
structure gZ(w wr:World)(no:Option Addr)(nc n F U m:Nat):Prop where
 base:Below w.heap.size w wr
 size:w.heap.size+3<=wr.heap.size
 box:wr.heap[w.heap.size]?=some (.cells #[.slice no n nc,.slice (some ⟨F,0,none⟩) n n,.slice (some ⟨U,0,none⟩) n n] 185)
 out:wr.rangeAt (w.heap.size+2) 0 (setRow m)
 outT:wr.there (w.heap.size+2) 0 16
 resT:wr.there (w.heap.size+1) 0 16
theorem gZ.below{w wr d:World}{no:Option Addr}{c n F U m:Nat}(a:gZ w wr no c n F U m)(b:Below wr.heap.size wr d):gZ w d no c n F U m:=
 ⟨a.base.trans (b.mono a.base.size),aR a.size b.size,(b.block _ (by have:=a.size;omega)).trans a.box,gA a.out b,gn a.outT b,gn a.resT b⟩
theorem gZ.wrote{w wr d:World}{no:Option Addr}{c n F U m q:Nat}(a:gZ w wr no c n F U m)(b:fm wr d (w.heap.size+2) 0 (.int .u64 (q:Nat))):gZ w d no c n F U q:=
 ⟨b.row.below a.base ad,by rw[b.size];exact a.size,(b.block _ ad).trans a.box,ux (b.set (ef a.out)),b.row.there a.outT,b.row.there a.resT⟩
theorem mL(w1:World)(ty:TypeId):Below w1.heap.size w1 (w1.alloc (.cells #[.int .u64 0,.int .u64 0,.int .u64 0,.int .u64 0,.int .u64 0,.int .u64 0,.int .u64 0,.int .u64 0,.int .u64 0,.int .u64 0,.int .u64 0,.int .u64 0,.int .u64 0,.int .u64 0,.int .u64 0,.int .u64 0] ty))/\(w1.alloc (.cells #[.int .u64 0,.int .u64 0,.int .u64 0,.int .u64 0,.int .u64 0,.int .u64 0,.int .u64 0,.int .u64 0,.int .u64 0,.int .u64 0,.int .u64 0,.int .u64 0,.int .u64 0,.int .u64 0,.int .u64 0,.int .u64 0] ty)).rangeAt w1.heap.size 0 (setRow 0)/\(w1.alloc (.cells #[.int .u64 0,.int .u64 0,.int .u64 0,.int .u64 0,.int .u64 0,.int .u64 0,.int .u64 0,.int .u64 0,.int .u64 0,.int .u64 0,.int .u64 0,.int .u64 0,.int .u64 0,.int .u64 0,.int .u64 0,.int .u64 0] ty)).there w1.heap.size 0 16/\(w1.alloc (.cells #[.int .u64 0,.int .u64 0,.int .u64 0,.int .u64 0,.int .u64 0,.int .u64 0,.int .u64 0,.int .u64 0,.int .u64 0,.int .u64 0,.int .u64 0,.int .u64 0,.int .u64 0,.int .u64 0,.int .u64 0,.int .u64 0] ty)).heap.size=w1.heap.size+1:=
 ⟨az,nQ (ty:=ty) (f:=(0,0)) (aC w1 _),mI (cs:=setRow 0) (ty:=ty) (aC w1 _) (aB _),ak⟩
theorem Ly(w:World)(no:Option Addr)(c n F U:Nat):gZ w (((w.alloc (.cells #[.slice no n c,.slice (some ⟨F,0,none⟩) n n,.slice (some ⟨U,0,none⟩) n n] 185)).alloc (.cells #[.int .u64 0,.int .u64 0,.int .u64 0,.int .u64 0,.int .u64 0,.int .u64 0,.int .u64 0,.int .u64 0,.int .u64 0,.int .u64 0,.int .u64 0,.int .u64 0,.int .u64 0,.int .u64 0,.int .u64 0,.int .u64 0] 190)).alloc (.cells #[.int .u64 0,.int .u64 0,.int .u64 0,.int .u64 0,.int .u64 0,.int .u64 0,.int .u64 0,.int .u64 0,.int .u64 0,.int .u64 0,.int .u64 0,.int .u64 0,.int .u64 0,.int .u64 0,.int .u64 0,.int .u64 0] 190)) no c n F U 0:=by
 obtain⟨a,b⟩:=aj (w.alloc (.cells #[.slice no n c,.slice (some ⟨F,0,none⟩) n n,.slice (some ⟨U,0,none⟩) n n] 185));have g:Below w.heap.size w a:=by rw[b];exact az
 have m:a.heap.size=w.heap.size+1:=by rw[b];simp
 have p:a.heap[w.heap.size]?=some (.cells #[.slice no n c,.slice (some ⟨F,0,none⟩) n n,.slice (some ⟨U,0,none⟩) n n] 185):=by rw[b];exact aC w _
 rw[<-b];obtain⟨d,_,f,o⟩:=mL a 190;obtain⟨j,l⟩:=aj (a.alloc (.cells #[.int .u64 0,.int .u64 0,.int .u64 0,.int .u64 0,.int .u64 0,.int .u64 0,.int .u64 0,.int .u64 0,.int .u64 0,.int .u64 0,.int .u64 0,.int .u64 0,.int .u64 0,.int .u64 0,.int .u64 0,.int .u64 0] 190));rw[<-l]at d f o⊢;obtain⟨e,h,i,q⟩:=mL j 190;rw[m]at f;rw[show j.heap.size=w.heap.size+2 by omega]at h i;exact⟨(g.trans (d.mono g.size)).trans (e.mono ad),ad,(e.block _ ad).trans ((d.block _ ad).trans p),h,i,gn f e⟩
theorem Lz{c:Array Oper}{rest:List Oper}{b:Oper}{a:Act}{w:World}{Q:Exit->Act->World->Prop}(e:b.guard=none)(ps:Array (Nat×Operand))(f:b.op=.build 190 ps)
 (g:(ps.toList.map fun p=>(p.1,a.eval p.2))=[]) (d:wpList prog c Q rest (a.put b.dst (.agg (setRow 0).toArray)) w):wpList prog c Q (b::rest) a w:=
 rI e 190 ps f _ _ ay g d
def CM(l:List ar)(p:Nat)(w:World)(a:Ending)(w':World):Prop:=a=.returned (.agg (setRow (db l p)).toArray)/\Below w.heap.size w w'
theorem CN(l:List ar)(no:Option Addr)(f F U p:Nat)(b1:ar)(w:World)(hF:eu l)(T:l.length<=60)(N:di w no f l)(aa:jx w F U l)(a6:l[p]?=some b1)(bz:b1.op=2):
 Calls prog 111 #[gS no f l.length F U,.int .i64 (p:Nat)] w (CM l p w):=by
 have bB:=(aP.1 a6).1;have cl:=N.2.2.1;unfold maxLen at cl;have dz:=N.2.1;have D:=Ly w no f l.length F U;obtain⟨w1,a7⟩:=aj (((w.alloc (.cells #[.slice no l.length f,.slice (some ⟨F,0,none⟩) l.length l.length,.slice (some ⟨U,0,none⟩) l.length l.length] 185)).alloc (.cells #[.int .u64 0,.int .u64 0,.int .u64 0,.int .u64 0,.int .u64 0,.int .u64 0,.int .u64 0,.int .u64 0,.int .u64 0,.int .u64 0,.int .u64 0,.int .u64 0,.int .u64 0,.int .u64 0,.int .u64 0,.int .u64 0] 190)).alloc (.cells #[.int .u64 0,.int .u64 0,.int .u64 0,.int .u64 0,.int .u64 0,.int .u64 0,.int .u64 0,.int .u64 0,.int .u64 0,.int .u64 0,.int .u64 0,.int .u64 0,.int .u64 0,.int .u64 0,.int .u64 0,.int .u64 0] 190));rw[<-a7]at D;obtain⟨b,o,rfl,du,b2,c0,c1,c2⟩:=(N.below D.base).at a6;rw[bz]at b2;have Y:=ai 0 D.box;have b9:=ai 2 D.box;have u0:=(D.base.cell (p:=⟨U,p,none⟩) aa.lU).trans (aa.ups p bB);have c4:decide ((p:Int)<0)=false:=aJ;have c5:decide ((l.length:Int)<=(p:Int))=false:=aJ;have c6:decide (l.length<=p)=false:=aJ;have d4:(p:Int)<l.length:=ad;have d2:(0:Int)<=p:=ad;obtain⟨b8,b4,L⟩:=bO D N aa;clear D N aa a6 bz c0 c1 c2;unfold gS;go_enter func111,ntmps111
 go_wp2_with(first
  |(rw[<-a7];clear a7)
  |fail)
 go_quiet(fail)
 obtain⟨cN,a9⟩:=aj (w1.drewN nq);have bt:gZ w cN (some ⟨b,o,none⟩) f l.length F U 0:=by rw[a9];exact b8.o.below (dm (aA _ w1) nq)
 rw[<-a9];clear a9 Y b9 u0 b2;have bg:=ah bt;clear bt
 go_wp2
 go_loopw [6,7] (fun bb cx wr=>∃(a m k:Nat),bb=.int .i64 a/\cx=.int .i64 (aboveV l l.length a)/\a<l.length/\l.length<=k+a/\m<18446744073709551616/\Hid (gZ w wr (some ⟨b,o,none⟩) f l.length F U m)/\Hid (jK l p k a m=db l p)) (fun bb _ _=>l.length-(intOf bb).toNat)
 case atStart=>exact⟨p,0,l.length,rfl,rfl,bB,ad,aw,bg.o,rfl⟩
 case round=>
 clear bg;obtain⟨a,m,k,rfl,rfl,R,d0,bw,y,a0⟩:=hrel;by_cases I:a=l.length-1
 ·have Q:aboveV l l.length a= -1:=by unfold aboveV;rw[au I]
  have b3:Hid (m=db l p):=by have c:=a0.o;obtain⟨k,rfl⟩:∃ba,k=ba+1:=⟨k-1,ad⟩;unfold jK at c;rw[au I]at c;exact c
  rw[Q];have d1:=y.o.out;have cp:=y.o.resT;clear Q I;go_wp2_with(first
   |((with_reducible apply dL (ty:=190));exact rfl;exact rfl;exact rfl;assumption;exact kn;exact rfl;exact fC)
   |(((with_reducible apply cT (ty:=190));exact rfl;exact rfl;exact rfl;exact rfl;assumption;exact fC;exact eM _);intro cG O)
   |fail)
  (try simp only[Exit.inBlock,Exit.then])
  refine bS (gm rfl _ _ (w.heap.size+1) 0 _ _ rfl O.here kn rfl fC) rfl ?_;exact⟨by rw[b3.o],O.below y.o.base ad⟩
 ·obtain⟨bl,M,bm⟩:=wk hF (a:=a) ad
  obtain⟨u,E⟩:=aj (gx l a);rw[<-E]at bl M bm;have g:u<l.length:=ad;have Q:aboveV l l.length a=(u:Nat):=by unfold aboveV;rw[ap I,au (by rw[<-E];exact g),E]
  rw[Q];obtain⟨n,J⟩:∃n,l[u]?=some n:=⟨_,aF g⟩;have bq:=L.o.below y.o.base;have bo:=b4.o.below y.o.base;obtain⟨b',ea,a3,ci,bc,bd,be,bf⟩:=bo.at J;injection a3 with a3
  injection a3 with cc ce ch;clear ch
  subst cc;subst ce;have ae:=iM l 0 u n hF.ok J;rw[cE]at ae;obtain⟨d7,d8,ab,V,_,bZ⟩:=wj hF (j:=a) ad;rw[<-E]at bZ;subst bZ;rw[J]at ab;injection ab with ab
  subst ab;have bA:n.op=3∨n.op=4∨n.op=5:=by
   unfold bU at V;split at V
   ·rename_i c;omega
   ·split at V
    ·rename_i c;omega
    ·simp at V
  have e:kw l a=if n.op=3 then(if n.a=(a:Int)then .catL (aS l n.b.toNat)else .catR (aS l n.a.toNat))else if n.op=4 then(if n.a=(a:Int)then .altL (aS l n.b.toNat)else .altR (aS l n.a.toNat))else .star:=by unfold kw;rw[<-E,J]
  obtain⟨k,rfl⟩:∃ba,k=ba+1:=⟨k-1,ad⟩;have s:Hid (db l p=if(aS l u).alive then jK l p k u (if(dO (aS l a)).testBit p then(match kw l a with| .catL b=>m|||cB b| .star=>m|||cB (aS l a)|_=>m)else m)else 0):=by have c:=a0.o;unfold jK at c;rw[ap I,<-E]at c;exact c.symm
  have bF:=lz ae;obtain⟨av,G⟩:=aj (wr.alloc (.cells #[.int .i64 n.op,.string ⟨n.sym.toArray⟩,.int .i64 n.a,.int .i64 n.b] 140));have a2:Below wr.heap.size wr av:=by rw[G];exact az
  have Z:av.heap[wr.heap.size]?=some (.cells #[.int .i64 n.op,.string ⟨n.sym.toArray⟩,.int .i64 n.a,.int .i64 n.b] 140):=by rw[G];exact aC wr _
  obtain⟨h,z⟩:=aE (y.o.below a2) (bq.below a2);have cq:=ai 0 Z;have cs:=ai 2 Z;have cu:=ai 3 Z;have Y:=ai 0 y.o.box;have c7:=ai 1 h.o.box;have aq:av.cell? ⟨F,u*34,none⟩=some (.bool (!(aS l u).alive)):=z.o.facts u g 0 _ rfl;obtain⟨b5,b6,c3,X⟩:=cI ae bF J e;have d6:(u:Int)<l.length:=ad;have d5:(0:Int)<=u:=ad;have ds:(a:Int)<l.length:=ad;have dr:(0:Int)<=a:=ad;have C:=bw;clear a0 y a2 Z bq bo ci ae bF J e I E bl M bm Q bw V;obtain⟨eb,sym,ag,al⟩:=n;simp only at bA G cq cs cu bc bd be bf;cases af:(aS l u).alive with
  |false=>
   rw[af]at aq s;simp only[Bool.not_false,zn]at aq;have cp:=h.o.resT;clear af;go_wp2_with(first
    |(rw[<-G];clear G bc bd be bf Y)
    |((with_reducible apply Lz);exact rfl;exact rfl;exact rfl)
    |(((with_reducible apply cT (ty:=190));exact rfl;exact rfl;exact rfl;exact rfl;assumption;exact fC;exact eM _);intro cG O)
    |fail)
   (try simp only[Exit.inBlock,Exit.then])
   refine bS (gm rfl _ _ (w.heap.size+1) 0 _ _ rfl O.here kn rfl fC) rfl ?_;exact⟨by rw[s.o];rfl,O.below h.o.base ad⟩
  |true=>
   rw[af]at aq s;simp only[Bool.not_false,zn]at aq;clear af;have b0:=z.o.facts a R 18 _ rfl;obtain⟨q,bE⟩:=aj ((dO (aS l a)).testBit p);have bu:dO (aS l a)<18446744073709551616:=(kA hF T R).2;have a5:=xF F (a*34+18) (dO (aS l a)) p av ad bu b0;rw[<-bE]at a5 s;have b7:=ah a5;clear a5 b0 bu bE;go_wp2_with(first
    |(rw[<-G];clear G bc bd be bf Y)
    |fail)
   refine b7.o.mono ?_;rintro bi i ⟨rfl,rfl⟩;cases q with
   |false=>
    have d:Hid (gZ w i (some ⟨b,o,none⟩) f l.length F U m):=h;have r:=z;have x:=ah C;have t:Hid (jK l p k u m=db l p):=by unfold Hid;rw[s.o];rfl
    have an:=ai 2 d.o.box;have ao:=r.o.ups u g;skip
    go_wp2
    go_quiet(fail)
    have v:Hid (gZ w (i.drewN nq) (some ⟨b,o,none⟩) f l.length F U (m)):=d.o.below (dm (aA _ i) nq)
    go_wp2
    go_roundw
    case rel=>exact⟨u,m,k,rfl,rfl,g,ad,x.o,v,t.o⟩
    case measure=>exact aH
   |true=>
    rcases bA with rfl|rfl|rfl
    ·have d3:0<=al:=by
      have c:=b5.o;unfold dG at c;rw[ap ak,ap ak,au ak]at c;simp only[dg]at c;have M:=c.2;unfold bM at M;simp at M;omega
     obtain⟨B,rfl⟩:∃B:Nat,al=B:=⟨al.toNat,ad⟩;have a4:B<l.length:=by have:=b6.o B (by simp[bU]);omega
     have c9:(B:Int)<l.length:=ad;have c8:(0:Int)<=B:=ad;by_cases K:ag=(a:Int)
     ·have e:=X.o
      simp only[kf,au K,iL]at e;have A:=ah e;have co:(ag==(a:Int))=true:=by simpa using K
      clear K e;have W:m|||cB (aS l B)<18446744073709551616:=CG C (kA hF T a4).1
      have t:Hid (jK l p k u (m|||cB (aS l B))=db l p):=by unfold Hid;rw[s.o];rw[A.o];rfl
      have S:=mF (w.heap.size+2) 0 m F (B*34+2) (cB (aS l B)) i (by have:=L.o.lF;omega) C (kA hF T a4).1 (ef h.o.out) (mJ h.o.outT (aB _)) (ef (jW (z.o.facts B a4)));obtain⟨x,a1⟩:=aE W S;clear S W;go_wp2_with fail
      refine a1.o.mono ?_;rintro bi H ⟨rfl,P⟩;have d:=ah (h.o.wrote P);have r:Hid (jx H F U l):=L.o.below d.o.base;clear P;have an:=ai 2 d.o.box;have ao:=r.o.ups u g;skip
      go_wp2
      go_quiet(fail)
      have v:Hid (gZ w (H.drewN nq) (some ⟨b,o,none⟩) f l.length F U (m|||cB (aS l B))):=d.o.below (dm (aA _ H) nq)
      go_wp2
      go_roundw
      case rel=>exact⟨u,m|||cB (aS l B),k,rfl,rfl,g,ad,x.o,v,t.o⟩
      case measure=>exact aH
     ·have e:=X.o
      simp only[kf,ap K]at e;have A:=ah e;have co:(ag==(a:Int))=false:=by simpa using K
      clear K e;have d:Hid (gZ w i (some ⟨b,o,none⟩) f l.length F U m):=h;have r:=z;have x:=ah C;have t:Hid (jK l p k u m=db l p):=by unfold Hid;rw[s.o];rw[A.o];rfl
      have an:=ai 2 d.o.box;have ao:=r.o.ups u g;skip
      go_wp2
      go_quiet(fail)
      have v:Hid (gZ w (i.drewN nq) (some ⟨b,o,none⟩) f l.length F U (m)):=d.o.below (dm (aA _ i) nq)
      go_wp2
      go_roundw
      case rel=>exact⟨u,m,k,rfl,rfl,g,ad,x.o,v,t.o⟩
      case measure=>exact aH
    ·have A:Hid (kw l a=.altL (aS l al.toNat)∨kw l a=.altR (aS l ag.toNat)):=by
      have c:=X.o;simp only[show¬((4:Int)=3) by omega,i6,kf]at c;unfold Hid;rw[c];split
      ·exact .inl rfl
      ·exact .inr rfl
     have d:Hid (gZ w i (some ⟨b,o,none⟩) f l.length F U m):=h;have r:=z;have x:=ah C;have t:Hid (jK l p k u m=db l p):=by unfold Hid;rw[s.o];rcases A.o with c|c<;>(rw[c];rfl)
     have an:=ai 2 d.o.box;have ao:=r.o.ups u g;skip
     go_wp2
     go_quiet(fail)
     have v:Hid (gZ w (i.drewN nq) (some ⟨b,o,none⟩) f l.length F U (m)):=d.o.below (dm (aA _ i) nq)
     go_wp2
     go_roundw
     case rel=>exact⟨u,m,k,rfl,rfl,g,ad,x.o,v,t.o⟩
     case measure=>exact aH
    ·have e:=X.o
     simp only[show¬((5:Int)=3) by omega,show¬((5:Int)=4) by omega,i6]at e;have A:=ah e;clear e;have W:m|||cB (aS l a)<18446744073709551616:=CG C (kA hF T R).1
     have t:Hid (jK l p k u (m|||cB (aS l a))=db l p):=by unfold Hid;rw[s.o];rw[A.o];rfl
     have S:=mF (w.heap.size+2) 0 m F (a*34+2) (cB (aS l a)) i (by have:=L.o.lF;omega) C (kA hF T R).1 (ef h.o.out) (mJ h.o.outT (aB _)) (ef (jW (z.o.facts a R)));obtain⟨x,a1⟩:=aE W S;clear S W;go_wp2_with fail
     refine a1.o.mono ?_;rintro bi H ⟨rfl,P⟩;have d:=ah (h.o.wrote P);have r:Hid (jx H F U l):=L.o.below d.o.base;clear P;have an:=ai 2 d.o.box;have ao:=r.o.ups u g;skip
     go_wp2
     go_quiet(fail)
     have v:Hid (gZ w (H.drewN nq) (some ⟨b,o,none⟩) f l.length F U (m|||cB (aS l a))):=d.o.below (dm (aA _ H) nq)
     go_wp2
     go_roundw
     case rel=>exact⟨u,m|||cB (aS l a),k,rfl,rfl,g,ad,x.o,v,t.o⟩
     case measure=>exact aH
def uH(l:List ar)(f:Lit->Option Value):Prop:=∀(q:Nat) (v:Value),f (.int .i64 (q:Nat))=some v->v=.agg (setRow (db l q)).toArray
theorem LP(w:World):(zeroValue 190).run prog w=.ok (.agg (setRow 0).toArray) w:=ay
theorem CT{w w':World}{row b o n:Nat}(e:w.there b o n)(g:w.grownBy w' (some row))(i:b≠row):w'.there b o n:=fun j h=>by obtain⟨d,f⟩:=e j h;obtain⟨u,l⟩:=Option.isSome_iff_exists.1 d;have c:=g.block b (qQ w _ l) (by simpa using i);exact⟨by rw[dB (w:=w) (w':=w') (a:=⟨b,o+j,none⟩) c];exact d,by rw[m8 (w:=w) (w':=w') (a:=⟨b,o+j,none⟩) c];exact f⟩
def CU(l:List ar)(p c M:Nat)(w:World)(d:Ending)(w':World):Prop:=
 d=.returned (.agg (setRow (db l p)).toArray)/\w.grownBy w' (some M)/\∃a b,bn w' prog 3 M a b/\a<=c+1/\uH l b
theorem LQ(l:List ar)(no:Option Addr)(N F U p G n M e:Nat)(f:Lit->Option Value)(O:ar)(w:World)(hF:eu l)(bo:l.length<=60)(af:di w no N l)(ag:jx w F U l)(a0:l[p]?=some O)(bw:O.op=2)
 (a1:w.heap[G]?=some (.cells #[.slice no l.length N,.slice (some ⟨F,0,none⟩) l.length l.length,.slice (some ⟨U,0,none⟩) l.length l.length] 185)) (A:w.heap[n]?=some (.cells #[.map (some M)] 195))
 (B:bn w prog 3 M e f) (b5:e<=1152921504606846976) (ao:uH l f):
 Calls prog 110 #[.int .i64 (p:Nat),.pointer (some ⟨n,0,none⟩),.pointer (some ⟨G,0,none⟩)] w (CU l p e M w):=by
 have b6:=(aP.1 a0).1;obtain⟨h,a3,R,a4⟩:=mL w 190;obtain⟨T,t⟩:=aj (w.alloc (.cells #[.int .u64 0,.int .u64 0,.int .u64 0,.int .u64 0,.int .u64 0,.int .u64 0,.int .u64 0,.int .u64 0,.int .u64 0,.int .u64 0,.int .u64 0,.int .u64 0,.int .u64 0,.int .u64 0,.int .u64 0,.int .u64 0] 190));rw[<-t]at h a3 R a4;obtain⟨y,Q,x,bZ⟩:=mL T 190;obtain⟨b1,u⟩:=aj (T.alloc (.cells #[.int .u64 0,.int .u64 0,.int .u64 0,.int .u64 0,.int .u64 0,.int .u64 0,.int .u64 0,.int .u64 0,.int .u64 0,.int .u64 0,.int .u64 0,.int .u64 0,.int .u64 0,.int .u64 0,.int .u64 0,.int .u64 0] 190));rw[<-u]at y Q x bZ;rw[a4]at Q x;have ae:Below w.heap.size w b1:=h.trans (y.mono h.size);have av:=B.below h B.lt;have aq:=(h.block n (aL A)).trans A;have a2:=ai 0 aq;have K:keyOf prog 3 (.int .i64 (p:Nat))=some (.int .i64 (p:Nat)):=oz cX (kt ad);have m:=av.look_ok (ge cX) underlying195 (LP T) cD K;obtain⟨Z,W,d,E,X,Y,bb,ba,bf⟩:=CV (gn R y) ae B ao A a1 ag af K;clear h a3 R y Q ae av aq B ao A a1 ag af K;go_enter func110,ntmps110
 cases i:f (.int .i64 (p:Nat))with
 |some v=>
  obtain rfl:=E.o p v i;rw[i]at m;simp only[pL,FN]at m;clear i;go_wp2_with(first
   |(rw[<-t];clear t)
   |(rw[<-u];clear u a2 m)
   |((with_reducible apply dL (ty:=190));exact rfl;exact rfl;exact rfl;assumption;exact kn;exact rfl;exact fC)
   |(((with_reducible apply cT (ty:=190));exact rfl;exact rfl;exact rfl;exact rfl;assumption;exact fC;exact eM _);first|(clear x;intro S b;have b8:=b.here;have cc:=b.there Z.out)|(intro a6 al))
   |fail)
  (try simp only[Exit.inBlock,Exit.then])
  refine bS (gm rfl _ _ w.heap.size 0 _ _ rfl al.here kn rfl fC) rfl ?_;have an:=al.below (b.below W.o ad) (aB _);exact⟨rfl,xI an _,e,f,d.o.below an d.o.lt,ad,E.o⟩
 |none=>
  rw[i]at m;simp only[vK,vL]at m;have b3:=ah i;clear i;go_wp2_with(first
   |(rw[<-t];clear t)
   |(rw[<-u];clear u a2 m)
   |((with_reducible apply dL (ty:=190));exact rfl;exact rfl;exact rfl;assumption;exact kn;exact rfl;exact fC)
   |(((with_reducible apply cT (ty:=190));exact rfl;exact rfl;exact rfl;exact rfl;assumption;exact fC;exact eM _);intro S b;have o:=b.below W.o (qP _ 1);have C:=(o.block G (aL Y.o)).trans Y.o;have bB:=ai 0 C;have bE:=ai 1 C;have bF:=ai 2 C;have bc:=ah (b.there x);have bd:=ah (b.there Z.out);have b2:S.heap.size=w.heap.size+2:=b.size.trans ad;clear x C)
   |fail)
  have L:=CN l no N F U p O S hF bo (ba.o.below o) (bb.o.below o) a0 bw;unfold CM gS at L;have a9:=ah o;clear o b bB bE bF;refine L.mono ?_;rintro r a6 ⟨rfl,z⟩;have b0:=gn bc.o z;have aa:=a9.o.trans (z.mono ad);obtain⟨V,be⟩:=aE aa (gn bd.o z);clear L z aa;have b4:=d.o.lt;have bu:=d.o.below V.o d.o.lt;have a7:Hid (∀a,eX a6 a (w.heap.size+1) 0 (setRow (db l p))->Below w.heap.size w a/\bn a prog 3 M e f/\a.cell? ⟨n,0,none⟩=some (.map (some M))/\a.rangeAt (w.heap.size+1) 0 (setRow (db l p))/\a.there w.heap.size 0 16):=fun a H=>by have I:=H.below V.o ad;exact⟨I,d.o.below I d.o.lt,ai 0 ((I.block n (aL X.o)).trans X.o),H.here,H.there be.o⟩
  have bm:=bf.o;clear bu;go_wp2_with(first
   |((with_reducible apply dL (ty:=190));exact rfl;exact rfl;exact rfl;assumption;exact kn;exact rfl;exact fC)
   |(((with_reducible apply cT (ty:=190));exact rfl;exact rfl;exact rfl;exact rfl;assumption;exact fC;exact eM _);first|(clear b0;intro a bl;obtain⟨ab,bA,bz,P,a5⟩:=a7.o a bl)|(intro ch g))
   |(at_mapUpdate;go_must (refine nW bA rfl _ _ _ 195 rfl 190 (ge cX) underlying195 rfl bN _ _ _ rfl rfl cD bm ?_);intro D bq J;have b9:D.rangeAt (w.heap.size+1) 0 (setRow (db l p)):=(fun j v c=>(J.cell_far ⟨w.heap.size+1,0+j,none⟩ (qQ a _ (P j v c)) aO).trans (P j v c));have b7:=ab.size;have ce:D.there w.heap.size 0 16:=CT a5 J ad;clear bz P a5)
   |fail)
  (try simp only[Exit.inBlock,Exit.then])
  refine bS (gm rfl _ _ w.heap.size 0 _ _ rfl g.here kn rfl fC) rfl ?_;have bt:bn D prog 3 M (e+1) (eO f (.int .i64 (p:Nat)) (.agg (setRow (db l p)).toArray)):=bq;refine⟨rfl,?_,e+1,eO f (.int .i64 (p:Nat)) (.agg (setRow (db l p)).toArray),?_,aB _,?_⟩
  ·have s:w.grownBy D (some M):=(xI ab _).trans J
   exact⟨g.os.trans s.os,g.tape.trans s.tape,g.output.trans s.output,by rw[g.size];exact s.size,fun k bg bi=>(g.block k ad).trans (s.block k bg bi)⟩
  ·exact bt.kept (g.grown) aO
  ·intro q v c
   by_cases r:(Lit.int .i64 (q:Nat))=.int .i64 (p:Nat)
   ·rw[r,jz]at c
    injection r with _ r
    have:q=p:=ad;subst this;injection c with c
    exact c.symm
   ·rw[jX _ _ r]at c
    exact E.o q v c
theorem LR(l:List ar)(no:Option Addr)(i F U p e n:Nat)(r:ar)(a:List Bytes)(x:Bytes)(W:Option Addr)(t:Nat)(w:World)(hF:eu l)(O:l.length<=60)(f:di w no i l)(B:jx w F U l)(E:l[p]?=some r)
 (G:w.heap[e]?=some (.cells #[.slice no l.length i,.slice (some ⟨F,0,none⟩) l.length l.length,.slice (some ⟨U,0,none⟩) l.length l.length] 185)) (D:w.heap[n]?=some (.cells #[.slice W a.length t] 66))
 (q:dk w W t a) (J:a[a.length-1]?=some x):
 Calls prog 114 #[.int .i64 (p:Nat),.pointer (some ⟨e,0,none⟩),.pointer (some ⟨n,0,none⟩)] w fun d w'=>d=.returned (.bool (r.sym==x&&(dO (aS l (l.length-1))).testBit p))/\Below w.heap.size w w':=by
 have bl:=(aP.1 E).1;have a2:=(aP.1 J).1;have ag:=f.2.2.1;unfold maxLen at ag;have bf:=f.2.1;have an:=q.2.2.1;unfold maxLen at an;have al:=q.2.1;obtain⟨b,j,rfl,N,a4,K,a5,a6⟩:=f.at E;obtain⟨m,u,rfl,T,X⟩:=q.at J;have Q:=aL G;have P:=aL D;have bi:(p:Int)<l.length:=ad;have bg:(0:Int)<=p:=ad;have a1:(a.length:Int)-1<(a.length:Int):=ad;have ao:(0:Int)<=a.length-1:=ad;have a3:((a.length:Int)-1).toNat=a.length-1:=ad;have R:l.length-1<l.length:=ad;have aq:(1:Int)<=a.length:=ad;have av:1<=a.length:=ad;have I:0<a.length:=ad;have a0:a≠[]:=by intro d;rw[d]at I;simp at I
 have V:=B.facts (l.length-1) R 18 _ rfl;have C:∀w',Below w.heap.size w w'->w'.cell? ⟨e,0,none⟩=some (.slice (some ⟨b,j,none⟩) l.length i)/\w'.cell? ⟨e,1,none⟩=some (.slice (some ⟨F,0,none⟩) l.length l.length)/\w'.cell? ⟨e,2,none⟩=some (.slice (some ⟨U,0,none⟩) l.length l.length)/\w'.cell? ⟨n,0,none⟩=some (.slice (some ⟨m,u,none⟩) a.length t)/\w'.cell? ⟨b,j+p*4+1,none⟩=some (.string ⟨r.sym.toArray⟩)/\w'.cell? ⟨m,u+(a.length-1),none⟩=some (encStr x):=fun w' g=>by have A:=(g.block _ Q).trans G;have ab:=(g.block _ P).trans D;exact⟨ai 0 A,ai 1 A,ai 2 A,ai 0 ab,(g.cell (p:=⟨b,_,none⟩) N).trans K,(g.cell (p:=⟨m,_,none⟩) T).trans X⟩
 have h:=ah C;have Y:Hid (∀w',Below w.heap.size w w'->Calls prog 109 #[.agg #[.slice (some ⟨b,j,none⟩) l.length i,.slice (some ⟨F,0,none⟩) l.length l.length,.slice (some ⟨U,0,none⟩) l.length l.length]] w' fun d v=>d=.returned (.pointer (some ⟨F,(l.length-1)*34,none⟩))/\Below w'.heap.size w' v):=fun w' g=>pk _ _ _ _ _ w' ad O;have L:Hid (∀w',Below w.heap.size w w'->Calls prog 115 #[.pointer (some ⟨F,(l.length-1)*34+18,none⟩),.int .i64 (p:Nat)] w' fun d v=>d=.returned (.bool ((dO (aS l (l.length-1))).testBit p))/\v=w'):=fun w' g=>
  xF F ((l.length-1)*34+18) (dO (aS l (l.length-1))) p w' ad (kA hF O R).2 ((g.cell (p:=⟨F,_,none⟩) B.lF).trans V)
 obtain⟨a9,ba,bb,Z,aa,z⟩:=C w (aA _ _);have be:=(aA w.heap.size w).drew;obtain⟨s,S⟩:=aj (r.sym);rw[<-S]at h K aa⊢;unfold encStr at h z;obtain⟨a7,M⟩:=aj ((dO (aS l (l.length-1))).testBit p);rw[<-M]at L⊢;clear C f B G D q a4 K a5 a6 X V M S E J T N Q P;obtain⟨c,f⟩:∃c,a.length=c+1:=⟨a.length-1,ad⟩;rw[f]at h Z z al;simp only[Nat.add_sub_cancel]at h z;have bd:(c:Int)<c+1:=ad;have bc:(0:Int)<=c:=ad;have bm:IntKind.i64.wrap (c:Int)=(c:Int):=lp _ ad;clear f aq av I a0 a1 ao a3 a2;go_enter func114,ntmps114
 by_cases o:s=x
 ·have H:(s==x)=true:=by simpa using o
  have y:=ah H;clear o;go_wp2_with fail
  go_region_held3(fun w'=>Below w.heap.size w w'/\w'.cell? ⟨e,0,none⟩=some (.slice (some ⟨b,j,none⟩) l.length i)/\w'.cell? ⟨e,1,none⟩=some (.slice (some ⟨F,0,none⟩) l.length l.length)/\w'.cell? ⟨e,2,none⟩=some (.slice (some ⟨U,0,none⟩) l.length l.length)/\w'.cell? ⟨n,0,none⟩=some (.slice (some ⟨m,u,none⟩) (c+1) t)/\w'.cell? ⟨b,j+p*4+1,none⟩=some (.string ⟨s.toArray⟩)/\w'.cell? ⟨m,u+c,none⟩=some (.string ⟨x.toArray⟩)) (first|exact⟨dQ,h.o _ dQ⟩)
   (first
     |(go_at_call 109;refine(Y.o _ dQ).mono ?_;rintro d v ⟨rfl,ae⟩;have af:=aD (w0:=w) dQ ae)
     |(go_at_call 115;refine(L.o _ dQ).mono ?_;rintro d bo ⟨rfl,rfl⟩))
  go_wp2
  go_ret;exact⟨by rw[y.o];rfl,by first|exact af|assumption⟩
 ·have H:(s==x)=false:=by simpa using o
  have y:=ah H;clear o
  go_wp2
  go_quiet(fail)
  go_wp2
  go_ret;exact⟨by rw[y.o];rfl,dm (aA _ w) nq⟩
end Go.Proofs.YtbacloblanpghaaGreatDoor
