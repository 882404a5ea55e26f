import Derived.Test.YtbacloblanpghaaGreatDoorQbc
import Derived.Test.YtbacloblanpghaaGreatDoorQbd
set_option linter.unusedVariables false
set_option linter.unusedSimpArgs false
set_option maxRecDepth 100000
set_option maxHeartbeats 0
namespace Go.Proofs.YtbacloblanpghaaGreatDoor
open Go.RowKit Tryz
theorem C7{w:World}{B B':Nat}{v:Value}{s:List Nat}(a:cO w B v s)(e:B'<=B):cO w B' v s:=by
 refine⟨a.1,?_⟩;rcases a.2 with c|⟨g,cap,b,i,f,h,d⟩
 ·exact .inl c
 ·exact .inr ⟨g,cap,b,i,aR e f,h,d⟩
theorem LX(l:List ar)(no:Option Addr)(a:Nat)(w:World)(b:cw l=0)(A:l.length<=60)(f:di w no a l):
 Calls prog 188 #[.agg #[.slice no l.length a]] w fun o w'=>o=.returned (.bool (factN l (l.length-1)).empty)/\Below w.heap.size w w':=by
 have hF:=(gB b).1;have J:=(gB b).2;have I:=f.2.2.1;unfold maxLen at I;have S:=f.2.1;obtain⟨w1,g⟩:=aj (w.alloc (.cells #[.slice no l.length a] 65));have j:Below w.heap.size w w1:=by rw[g];exact az
 have T:w1.heap.size=w.heap.size+1:=by rw[g];simp
 have y:w1.heap[w.heap.size]?=some (.cells #[.slice no l.length a] 65):=by rw[g];exact aC w _
 have H:=ai 0 y;have B:=rL l no a w1 b A (f.below j) (ql b);obtain⟨P,R,C,u⟩:=cI b f j B;clear b f j y B;go_enter func188,ntmps188
 go_wp2_with(first
  |(rw[<-g];clear g)
  |fail)
 refine u.o.mono ?_;rintro o c ⟨F,U,rfl,z,m⟩;clear u H;obtain⟨G,D⟩:=aE z m;have W:=m.size;clear z m;obtain⟨d,h⟩:=aj (c.alloc (.cells #[.slice no l.length a,.slice (some ⟨F,0,none⟩) l.length l.length,.slice (some ⟨U,0,none⟩) l.length l.length] 185));have i:Below c.heap.size c d:=by rw[h];exact az
 have V:d.heap.size=c.heap.size+1:=by rw[h];simp
 have e:d.heap[c.heap.size]?=some (.cells #[.slice no l.length a,.slice (some ⟨F,0,none⟩) l.length l.length,.slice (some ⟨U,0,none⟩) l.length l.length] 185):=by rw[h];exact aC c _
 have K:=ai 0 e;have L:=ai 1 e;have M:=ai 2 e;obtain⟨O,Q⟩:=aE i e;have s:Hid (Below w.heap.size w d):=(C.o.trans (D.o.mono ad)).trans (i.mono ad);have t:Hid (jx d F U l):=G.o.below i;have q:=pk no a l.length F U d J A;unfold gS at q;have x:=ah q;clear i e q;unfold gS;have r:=t.o.facts (l.length-1) ad 1 _ rfl;have v:=ah r;clear r;go_wp2_with(first
  |(rw[<-h];clear h)
  |fail)
 refine x.o.mono ?_;rintro o N ⟨rfl,n⟩;have r:N.cell? ⟨F,(l.length-1)*34+1,none⟩=some (.bool (factN l (l.length-1)).empty):=(n.cell (p:=⟨F,_,none⟩) t.o.lF).trans v.o;have E:=ah (s.o.trans (n.mono s.o.size));clear v x n K L M
 go_wp2
 go_ret;exact⟨rfl,E.o⟩
theorem LY(l:List ar)(no:Option Addr)(a:Nat)(w:World)(O:Gl w)(b:cw l=0)(r:l.length<=60)(f:di w no a l):
 Calls prog 183 #[.agg #[.slice no l.length a]] w fun o w'=>(∃v,o=.returned v/\cO w' w.heap.size v (aI (cB (aS l (l.length-1)))))/\Below w.heap.size w w':=by
 have hF:=(gB b).1;have Q:=(gB b).2;have P:=f.2.2.1;unfold maxLen at P;have ab:=f.2.1;obtain⟨w1,g⟩:=aj (w.alloc (.cells #[.slice no l.length a] 65));have p:Below w.heap.size w w1:=by rw[g];exact az
 have ae:w1.heap.size=w.heap.size+1:=by rw[g];simp
 have B:w1.heap[w.heap.size]?=some (.cells #[.slice no l.length a] 65):=by rw[g];exact aC w _
 have N:=ai 0 B;have G:=rL l no a w1 b r (f.below p) (ql b);obtain⟨Y,aa,I,y⟩:=cI b f p G;clear b f p B G;go_enter func183,ntmps183
 go_wp2_with(first
  |(rw[<-g];clear g)
  |fail)
 refine y.o.mono ?_;rintro o c ⟨F,U,rfl,C,q⟩;clear y N;obtain⟨L,J⟩:=aE C q;have ag:=q.size;clear C q;obtain⟨d,h⟩:=aj (c.alloc (.cells #[.slice no l.length a,.slice (some ⟨F,0,none⟩) l.length l.length,.slice (some ⟨U,0,none⟩) l.length l.length] 185));have m:Below c.heap.size c d:=by rw[h];exact az
 have af:d.heap.size=c.heap.size+1:=by rw[h];simp
 have e:d.heap[c.heap.size]?=some (.cells #[.slice no l.length a,.slice (some ⟨F,0,none⟩) l.length l.length,.slice (some ⟨U,0,none⟩) l.length l.length] 185):=by rw[h];exact aC c _
 have S:=ai 0 e;have T:=ai 1 e;have V:=ai 2 e;obtain⟨X,Z⟩:=aE m e;have t:Hid (Below w.heap.size w d):=(I.o.trans (J.o.mono ad)).trans (m.mono ad);have u:Hid (jx d F U l):=L.o.below m;have s:=pk no a l.length F U d Q r;unfold gS at s;have z:=ah s;clear m e s;unfold gS;go_wp2_with(first
  |(rw[<-h];clear h)
  |fail)
 refine z.o.mono ?_;rintro o W ⟨rfl,n⟩;have H:=ef (jW (gA (u.o.facts (l.length-1) ad) n));have j:=ah (t.o.trans (n.mono t.o.size));have D:=uw F ((l.length-1)*34+2) _ W (O.below j.o) (eR u.o.lF n.size) (kA hF r (i:=l.length-1) ad).1 H;have x:=ah D;clear z n S T V H D;go_wp2_with fail
 refine x.o.mono ?_;rintro o al ⟨⟨v,rfl,E⟩,A⟩;have K:=ah (j.o.trans (A.mono j.o.size));have R:=j.o.size;have M:=ah E;clear x E A
 go_wp2
 go_ret;exact⟨⟨_,rfl,C7 M.o R⟩,K.o⟩
theorem LZ(l:List ar)(no:Option Addr)(a:Nat)(p:Nat)(w:World)(ag:p<l.length)(b:cw l=0)(r:l.length<=60)(f:di w no a l):
 Calls prog 181 #[.agg #[.slice no l.length a],.int .i64 (p:Nat)] w fun j w'=>j=.returned (.bool ((dO (aS l (l.length-1))).testBit p))/\Below w.heap.size w w':=by
 have hF:=(gB b).1;have N:=(gB b).2;have M:=f.2.2.1;unfold maxLen at M;have af:=f.2.1;obtain⟨w1,g⟩:=aj (w.alloc (.cells #[.slice no l.length a] 65));have m:Below w.heap.size w w1:=by rw[g];exact az
 have al:w1.heap.size=w.heap.size+1:=by rw[g];simp
 have z:w1.heap[w.heap.size]?=some (.cells #[.slice no l.length a] 65):=by rw[g];exact aC w _
 have L:=ai 0 z;have C:=rL l no a w1 b r (f.below m) (ql b);obtain⟨V,X,E,x⟩:=cI b f m C;clear b f m z C;go_enter func181,ntmps181
 go_wp2_with(first
  |(rw[<-g];clear g)
  |fail)
 refine x.o.mono ?_;rintro j c ⟨F,U,rfl,A,n⟩;clear x L;obtain⟨I,G⟩:=aE A n;have ao:=n.size;clear A n;obtain⟨d,h⟩:=aj (c.alloc (.cells #[.slice no l.length a,.slice (some ⟨F,0,none⟩) l.length l.length,.slice (some ⟨U,0,none⟩) l.length l.length] 185));have i:Below c.heap.size c d:=by rw[h];exact az
 have an:d.heap.size=c.heap.size+1:=by rw[h];simp
 have e:d.heap[c.heap.size]?=some (.cells #[.slice no l.length a,.slice (some ⟨F,0,none⟩) l.length l.length,.slice (some ⟨U,0,none⟩) l.length l.length] 185):=by rw[h];exact aC c _
 have P:=ai 0 e;have Q:=ai 1 e;have R:=ai 2 e;obtain⟨T,W⟩:=aE i e;have u:Hid (Below w.heap.size w d):=(E.o.trans (G.o.mono ad)).trans (i.mono ad);have J:Hid (jx d F U l):=I.o.below i;have t:=pk no a l.length F U d N r;unfold gS at t;have y:=ah t;clear i e t;unfold gS;have Y:decide ((0:Int)<=p)=true:=aM;have Z:decide ((p:Int)<l.length)=true:=aM;have aa:decide (p<l.length)=true:=aM;have ab:(p:Int)<l.length:=ad;have ae:(0:Int)<=p:=ad;go_wp2_with(first
  |(rw[<-h];clear h)
  |fail)
 refine y.o.mono ?_;rintro j S ⟨rfl,o⟩;have D:=(gA (J.o.facts (l.length-1) ad) o) 18 _ rfl;have B:=xF F ((l.length-1)*34+18) (dO (aS l (l.length-1))) p S ad (kA hF r ad).2 D;obtain⟨H,v⟩:=aE (u.o.trans (o.mono u.o.size)) B;clear y o P Q R D B;go_wp2_with fail
 refine v.o.mono ?_;rintro j aq ⟨rfl,O⟩;subst O;obtain⟨q,s⟩:=aj ((dO (aS l (l.length-1))).testBit p);rw[<-s];clear v;have K:=ah s;clear s
 go_wp2
 go_ret;exact⟨by rw[<-K.o];rfl,H.o⟩
theorem C8(l:List ar)(no:Option Addr)(a:Nat)(p:Nat)(A:ar)(w:World)(ae:Gl w)(N:l[p]?=some A)(L:A.op=2)(c:cw l=0)(n:l.length<=60)(f:di w no a l):
 Calls prog 185 #[.agg #[.slice no l.length a],.int .i64 (p:Nat)] w fun m w'=>(∃v,m=.returned v/\cO w' w.heap.size v (aI (db l p)))/\Below w.heap.size w w':=by
 have hF:=(gB c).1;have ag:=(gB c).2;have af:=f.2.2.1;unfold maxLen at af;have a5:=f.2.1;obtain⟨w1,g⟩:=aj (w.alloc (.cells #[.slice no l.length a] 65));have r:Below w.heap.size w w1:=by rw[g];exact az
 have a6:w1.heap.size=w.heap.size+1:=by rw[g];simp
 have I:w1.heap[w.heap.size]?=some (.cells #[.slice no l.length a] 65):=by rw[g];exact aC w _
 have ab:=ai 0 I;have O:=rL l no a w1 c n (f.below r) (ql c);obtain⟨a2,W,R,E⟩:=cI c f r O;clear c f r I O;go_enter func185,ntmps185
 go_wp2_with(first
  |(rw[<-g];clear g)
  |fail)
 refine E.o.mono ?_;rintro m d ⟨F,U,rfl,J,s⟩;clear E ab;obtain⟨X,S⟩:=aE J s;have a9:=s.size;clear J s;obtain⟨b,h⟩:=aj (d.alloc (.cells #[.slice no l.length a,.slice (some ⟨F,0,none⟩) l.length l.length,.slice (some ⟨U,0,none⟩) l.length l.length] 185));have j:Below d.heap.size d b:=by rw[h];exact az
 have a7:b.heap.size=d.heap.size+1:=by rw[h];simp
 have e:b.heap[d.heap.size]?=some (.cells #[.slice no l.length a,.slice (some ⟨F,0,none⟩) l.length l.length,.slice (some ⟨U,0,none⟩) l.length l.length] 185):=by rw[h];exact aC d _
 have an:=ai 0 e;have ao:=ai 1 e;have aq:=ai 2 e;obtain⟨a1,a3⟩:=aE j e;have q:Hid (Below w.heap.size w b):=(R.o.trans (S.o.mono ad)).trans (j.mono ad);have Y:Hid (jx b F U l):=X.o.below j;have y:=pk no a l.length F U b ag n;unfold gS at y;have a4:=ah y;clear j e y;unfold gS;have x:=CN l no a F U p A b hF n (W.o.below q.o) Y.o N L;unfold gS at x;have D:=ah x;clear x;go_wp2_with(first
  |(rw[<-h];clear h)
  |fail)
 refine D.o.mono ?_;rintro m B ⟨rfl,G⟩;obtain⟨t,P,a0,av⟩:=mL B 190;obtain⟨ba,z⟩:=aj (B.alloc (.cells #[.int .u64 0,.int .u64 0,.int .u64 0,.int .u64 0,.int .u64 0,.int .u64 0,.int .u64 0,.int .u64 0,.int .u64 0,.int .u64 0,.int .u64 0,.int .u64 0,.int .u64 0,.int .u64 0,.int .u64 0,.int .u64 0] 190));rw[<-z]at t P a0 av;have o:=ah (q.o.trans (G.mono q.o.size));have T:=ah (o.o.trans (t.mono o.o.size));have Z:Hid (db l p<18446744073709551616):=(xW hF n N L).1;clear D G an ao aq P t;go_wp2_with(first
  |(rw[<-z];clear z)
  |(((with_reducible apply cT (ty:=190));exact rfl;exact rfl;exact rfl;exact rfl;assumption;exact fC;exact eM _);intro Q u)
  |fail)
 have i:Hid (Below w.heap.size w Q):=u.below T.o o.o.size;have K:=uw B.heap.size 0 _ Q (ae.below i.o) (by rw[u.size];omega) Z.o (ef u.here);have C:=ah K;clear K;refine C.o.mono ?_;rintro m bb ⟨⟨v,rfl,M⟩,H⟩;have V:=ah (i.o.trans (H.mono i.o.size));have al:=i.o.size;have aa:=ah M;clear C M H
 go_wp2
 go_ret;exact⟨⟨_,rfl,C7 aa.o al⟩,V.o⟩
theorem L2{w:World}{cap:Nat}{os:Array Value}(a:os.size=cap)(b:cap<=maxLen):((w.alloc (.cells os 9)).drew).ownsRow w.heap.size 9 1 (.slice (some ⟨w.heap.size,0,none⟩) 0 cap) 0 []:=
 ⟨rfl,.inr ⟨w.heap.size,cap,os,rfl,aB _,aC w _,aK _,b,by simp[a],ak⟩⟩
theorem L5(n:Nat)(d:0<n)(s:n<=1048576)(w:World):
 Calls prog 270 #[.slice none 0 0,.int .i64 (n:Nat)] w fun e w'=>∃g cap,e=.returned (.slice (some ⟨g,0,none⟩) 0 cap)/\w'.ownsRow w.heap.size 9 1 (.slice (some ⟨g,0,none⟩) 0 cap) 0 []/\Below w.heap.size w w':=by
 obtain⟨m,h,i,j,l⟩:=cL oG;have o:decide ((n:Int)<0)=false:=aJ;have p:decide ((0:Int)<n)=true:=aM;have q:decide (0<n)=true:=by rw[ct];exact d
 have c:=fun ty=>Lib.run_append_nil_zeros (P:=prog) w 66 3 ty 9 m (.string ⟨#[]⟩) .i64 .i64 jE cX h i n d (by rw[j];decide) ad (by rw[l];omega);obtain⟨C,a⟩:=aj (grownCap w n 0 9);have r:n<=C:=by rw[a];exact grownCap_ge w n 0 _
 have b:C<=maxLen:=by rw[a];exact Fp w n 0 _ bN
 rw[<-a]at c;have f:=b;unfold maxLen at f;clear a;go_enter func270,ntmps270
 go_wp2_with(first
  |(at_builtin;refine Lib.wpList_append_run _ rfl _ _ _ _ rfl _ _ rfl rfl _ _ (c _) ?_)
  |go_in)
 go_ret;exact⟨_,_,rfl,L2 (by rw[Array.size_append,size_zeroCells,size_zeroCells];simp;omega) b,az.drew⟩
theorem fY{w:World}{B B' size n:Nat}{t:TypeId}{v:Value}{xs:List Value}(a:w.ownsRow B t size v n xs)(e:B'<=B):w.ownsRow B' t size v n xs:=by
 refine⟨a.1,?_⟩;rcases a.2 with c|⟨g,cap,b,i,f,h,d⟩
 ·exact .inl c
 ·exact .inr ⟨g,cap,b,i,aR e f,h,d⟩
theorem L6(a:World)(g n c:Nat)(ty:TypeId)(b:n<=c):(Builtin.append_ #[66,66] ty #[.slice (some ⟨g,0,none⟩) n c,.slice none 0 0]).run prog a=.ok (.slice (some ⟨g,0,none⟩) n c) a:=by have:¬c<n:=ad;simp[Builtin.append_,go_sem,Builtin.firstCells,Builtin.lenOf,storeCells,this]
theorem L8(d:List Bytes)(o:Option Addr)(c t a1:Nat)(w:World)(C:dk w o c d)(r:0<d.length)(S:d.length<=1048576)
 (n:w.heap[t]?=some (.cells #[.slice o d.length c,.slice none 0 0] 66)):
 Calls prog 225 #[.slice (some ⟨t,0,none⟩) 2 2] w fun m w'=>(∃v,m=.returned v/\cA w' w.heap.size v d)/\Below w.heap.size w w':=by
 obtain⟨aa,P,X,Y,Z⟩:=cL oG;have x:=ai 0 n;have y:=ai 1 n;have A:=L5 d.length r S w;have al:decide ((d.length:Int)<0)=false:=aJ;obtain⟨I,l,H⟩:=bO A n C;clear A n C;go_enter func225,ntmps225
 go_wp2
 go_loopw [3,5,11] (fun ae _ h wr=>Hid (wr=w)/\∃k:Nat,h=.int .i64 k/\k<=2/\ae=.int .i64 ((if k=0 then 0 else d.length:Nat):Int)) (fun _ _ h _=>2-(intOf h).toNat)
 case atStart=>exact⟨rfl,0,rfl,aK _,rfl⟩
 case round=>
 obtain⟨D,k,rfl,R,rfl⟩:=hrel;have D:=D.out;subst wr;rcases(show k=0∨k=1∨k=2 by omega)with rfl|rfl|rfl
 ·go_wp2_with fail
  go_roundw
  case rel=>exact⟨ah trivial,1,aG,ad,ak⟩
  case measure=>simp[intOf]
 ·go_wp2_with fail
  go_roundw
  case rel=>exact⟨ah trivial,2,aG,ad,ak⟩
  case measure=>simp[intOf]
 ·go_wp2_with fail
  refine I.o.mono ?_;rintro m a3 ⟨g,cap,rfl,e,q⟩;have p:=(q.block _ (aN l.o)).trans l.o;obtain⟨s,i⟩:=aE q e;clear x y p q e
  go_wp2
  go_loopw [6,8,27] (fun v _ h wr=>∃k:Nat,h=.int .i64 k/\k<=2/\Below w.heap.size w wr/\cA wr w.heap.size v (if k=0 then []else d)) (fun _ _ h _=>2-(intOf h).toNat)
  case atStart=>exact⟨0,rfl,aK _,s.o,i.o⟩
  case round=>
  clear s i;obtain⟨k,rfl,R,f,e⟩:=hrel;have p:=(f.block _ (aN l.o)).trans l.o;have x:=ai 0 p;have y:=ai 1 p;obtain⟨af,G,rfl⟩:=ly e;rcases(show k=0∨k=1∨k=2 by omega)with rfl|rfl|rfl
  ·obtain⟨b,F,rfl,ao,W⟩:=(H.o.below f).2.2.2 r
   rw[au rfl]at e;have T:∀j u,(d.map encStr)[j]?=some u->wr.cell? ((⟨b,F,none⟩:Addr).add j)=some u:=fun j u Q=>by rw[Addr.add_mid];exact W j u Q
   have B:wr.ownsRow w.heap.size 9 1 (.slice af 0 G) 0 []:=e;go_wp2_with(first
    |(at_builtin;go_must (refine gY _ rfl _ _ 66 rfl w.heap.size 9 aa (.string ⟨#[]⟩) 1 16 jE P X Y Z rfl aw _ _ _ rfl B ⟨b,F,none⟩ d.length c (d.map encStr) rfl ak T (fun z E=>by simp at E;obtain⟨a,_,rfl⟩:=E;rfl) bN ad (by have:=f.size;omega) ?_);intro a2 a4 V O a0)
    |go_in)
   go_roundw
   case rel=>exact⟨1,aG,ad,f.grown O f.size (fun k m=>(bX B k m).1),by rw[ap ad];unfold cA;simpa using V⟩
   case measure=>simp[intOf]
  ·rw[ap ad]at e
   rw[ap ad];obtain⟨J,ag,L,an,av,K,_⟩:=pZ e r;injection L with M aq N
   subst M;subst N;have i:=ah e;clear e;have ab:=fun ty=>L6 wr J d.length G ty K;go_wp2_with(first
    |(at_builtin;refine Lib.wpList_append_run _ rfl _ _ _ _ rfl _ _ rfl rfl _ _ (ab _) ?_)
    |go_in)
   go_roundw
   case rel=>exact⟨2,aG,ad,f,by rw[ap ad];exact i.o⟩
   case measure=>simp[intOf]
  ·rw[ap ad]at e
   go_wp2
   go_ret;exact⟨⟨_,rfl,e⟩,f⟩
def dw(a:List Bytes):List Bytes:=cZ (a.mergeSort br)
theorem L9{w w1:World}{g cap b q:Nat}{os:Array Obj}{a ts:List Bytes}(u:cA w1 w.heap.size (.slice (some ⟨g,0,none⟩) a.length cap) a)(d:Below w.heap.size w w1)(r:w.heap.size<=g)
 (f:ts=a.mergeSort br):
 (∃v,Ending.returned (.slice (some ⟨g,0,none⟩) (Lib.compact ts).length cap)=.returned v/\cA (Sort.putRow encStr (Sort.ahead (Sort.grow (Sort.putRow encStr (Sort.ahead w1 b) g 0 ts.toArray) os) q) g 0 (Lib.compact ts++List.replicate (ts.length-(Lib.compact ts).length) []).toArray) w.heap.size v (dw a))/\
   Below w.heap.size w (Sort.putRow encStr (Sort.ahead (Sort.grow (Sort.putRow encStr (Sort.ahead w1 b) g 0 ts.toArray) os) q) g 0 (Lib.compact ts++List.replicate (ts.length-(Lib.compact ts).length) []).toArray):=by
 have t:ts.length=a.length:=by rw[f];exact qH a
 have D:=zh ts;have o:dw a=Lib.compact ts:=by unfold dw;rw[tn,f]
 rcases u.2 with⟨h,_⟩|⟨B,z,A,y,c,p,i,l,m,C⟩
 ·cases h
 cases y
 have x:=ownsRow_sorted (n:=b) (os:=os) (ts:=ts) t c p i l m;have e:=Lib.ownsRow_putRow (q:=q) (k:=(Lib.compact ts).length) (ys:=Lib.compact ts++List.replicate (ts.length-(Lib.compact ts).length) []) x aO ad;rw[List.take_left]at e;exact⟨⟨_,rfl,by unfold cA;rw[o];exact e⟩,Lib.below_putRow (d.grown (grownBy_sorted _) d.size (fun j s=>by cases s;exact c)) r⟩
theorem Ma(a:List Bytes)(o:Option Addr)(c:Nat)(w:World)(K:dk w o c a)(z:0<a.length)(O:a.length<=1024):
 Calls prog 177 #[.slice o a.length c,.slice none 0 0] w fun d w'=>(∃v,d=.returned v/\cA w' w.heap.size v (dw a))/\Below w.heap.size w w':=by
 obtain⟨w1,b⟩:=aj (w.alloc (.cells #[.slice o a.length c,.slice none 0 0] 66));have h:Below w.heap.size w w1:=by rw[b];exact az
 have r:w1.heap[w.heap.size]?=some (.cells #[.slice o a.length c,.slice none 0 0] 66):=by rw[b];exact aC w _
 have Q:w1.heap.size=w.heap.size+1:=by rw[b];simp
 have x:=L8 a o c w.heap.size 2 w1 (K.below h) z ad r;obtain⟨p,E⟩:=aE x h;clear x r h;go_enter func177,ntmps177
 go_wp2_with(first
  |(rw[<-b];clear b)
  |fail)
 refine p.o.mono ?_;rintro d wr ⟨⟨v,rfl,B⟩,t⟩;have e:cA wr w.heap.size v a:=fY B ad;have u:Below w.heap.size w wr:=E.o.trans (t.mono ad);have A:v≠ .slice none 0 0:=by
  intro I;rcases e.2 with⟨_,z⟩|⟨g,i,M,C,_⟩
  ·omega
  ·rw[I]at C;cases C
 obtain⟨g,i,rfl,H,y,J,N,P,j⟩:=Fg e A;have n:=slices_Sort_string g 0 i a wr j y ad;obtain⟨X,F⟩:=aE (And.intro e (And.intro j J)) u;clear e j A B t u p;obtain⟨ts,f⟩:=aj (a.mergeSort br);have m:ts.length=a.length:=by rw[f];exact qH a
 rw[<-Aw,<-f]at n;have G:=ah f;clear f;go_wp2_with fail
 refine n.mono ?_;rintro d L ⟨rfl,D,os,rfl⟩;clear n;have s:Sort.Holds encStr (Sort.grow (Sort.putRow encStr (Sort.ahead wr D) g 0 ts.toArray) os) g 0 ts.toArray:=
  Sort.holds_grow encStr _ os g 0 _ (by simpa[Sort.putRow,Sort.mapBlock,Sort.ahead]using y) (Sort.holds_putRow encStr _ g 0 _ _ (Sort.holds_ahead encStr wr D g 0 _ X.out.2.1) (by simp[m]))
 have l:=slices_Compact_string g 0 i ts _ s ad ad;rw[m]at l;clear s;go_wp2_with fail
 refine l.mono ?_;rintro d L ⟨rfl,q,rfl⟩;clear l
 go_wp2
 go_ret;rw[<-m];exact L9 X.out.1 F.o H G.o
end Go.Proofs.YtbacloblanpghaaGreatDoor
