import Derived.Test.YtfeidcmojcijpaaGreatDoorQau
import Derived.Test.YtfeidcmojcijpaaGreatDoorQav
import Derived.Test.YtfeidcmojcijpaaGreatDoorQax
set_option linter.all false
set_option maxRecDepth 100000
set_option maxHeartbeats 0
namespace Go.Proofs.YtfeidcmojcijpaaGreatDoor
open Go.RowKit Tryz
def Ge{w B B' v s}(a:bW w B v s)(e:B'<=B):bW w B' v s:=by
 refine⟨a.1,?_⟩;rcases a.2 with c|⟨g,cap,b,hv,f,h,d⟩
 exact .inl c;exact .inr ⟨g,cap,b,hv,aW e f,h,d⟩
def Qc l no nc w(a:bK l=0)(x:l.length<=60)(b:dv w no nc l):
 cX 160 #[.agg #[.slice no l nc]] w (.bool (factN l (l-1)).empty):=by
 have hF:=(iM a).1;have G:=(iM a).2;have E:=b.2.2.1;unfold maxLen at E;have Q:=b.2.1;have⟨w1,d,g⟩:=fQ w (.cells #[.slice no l nc] 52);have R:=fH d;have u:=iC d;have D:=ak 0 u;have y:=va l no nc w1 a x (b.O g) (th a);have⟨N,P,z,r⟩:=dE a b g y;clear a b g u y
 go_in
 go_wp2_with(first
  |(rw[<-d];clear d)
  |fail)
 apply r.o.zz;rintro e K ⟨F,U,rfl,v,h⟩;clear r D;obtain⟨C,A⟩:=aC v h;have T:=h.size;clear v h;have⟨o,f,c⟩:=fQ K (.cells (zz_m3 no l nc F U) 216);have S:=fH f;have j:=iC f;have⟨H,I,J⟩:=dP j;have⟨M,O⟩:=aC c j;have p:Hid (Below w.heap.size w o):=(z.o.Z (A.o.zz ad)).Z (c.zz ad);have q:Hid (lI o F U l):=C.o.O c;have m:=rG no nc _ F U o G x;unfold jC at m;have t:=ah m;clear c j m;unfold jC;have n:=q.o.zj (l-1) ad 1 _ rfl;have s:=ah n;clear n;go_wp2_with(first
  |(rw[<-f];clear f)
  |fail)
 refine ar t.o ?_;intro V i;have n:=(i.cell q.o.lF).Z s.o;have B:=ah (p.o.Z (i.zz p.o.size));clear s t i H I J
 go_wp2
 go_ret;exact⟨rfl,B.o⟩
def Qd l no nc w(n:Gl w)(a:bK l=0)(f:l.length<=60)(b:dv w no nc l):
 dB 155 #[.agg #[.slice no l nc]] w fun e w'=>(∃v,e=.returned v/\bW w' w v (aG (dt (trN l (l-1)))))/\aR w w':=by
 have hF:=(iM a).1;have o:=(iM a).2;have c:=b.2.2.1;unfold maxLen at c;have c:=b.2.1;have⟨w1,c,d⟩:=fQ w (.cells #[.slice no l nc] 52);have g:=fH c;have h:=iC c;have m:=ak 0 h;have i:=va l no nc w1 a f (b.O d) (th a);have⟨p,q,j,g⟩:=dE a b d i;clear a b d h i
 go_in
 go_wp2_with(first
  |(rw[<-c];clear c)
  |fail)
 apply g.o.zz;rintro e c ⟨F,U,rfl,b,a⟩;clear g m;obtain⟨m,d⟩:=aC b a;have g:=a.size;clear b a;have⟨g,b,a⟩:=fQ c (.cells (zz_m3 no l nc F U) 216);have c:=fH b;have c:=iC b;have⟨p,q,r⟩:=dP c;have⟨h,i⟩:=aC a c;have h:Hid (aR w g):=(j.o.Z (d.o.zz ad)).Z (a.zz ad);have i:Hid (lI g F U l):=m.o.O a;have d:=rG no nc _ F U g o f;unfold jC at d;have g:=ah d;clear a c d;unfold jC;go_wp2_with(first
  |(rw[<-b];clear b)
  |fail)
 refine ar g.o ?_;intro c b;have j:=gd (lH (jA (i.o.zj (l-1) ad) b));have a:=ah (h.o.Z (b.zz h.o.size));have d:=A8 F _ _ c (n.O a.o) (eU i.o.lF b.size) (mi hF f ad).1 j;have c:=ah d;clear g b p q r j d;go_wp2_with fail
 apply c.o.zz;rintro e f ⟨⟨v,rfl,d⟩,b⟩;have f:=ah (a.o.Z (b.zz a.o.size));have g:=a.o.size;have a:=ah d;clear c d b
 go_wp2
 go_ret;exact⟨⟨_,rfl,Ge a.o g⟩,f.o⟩
def Qe l no nc p w(c:p<l.length)(a:bK l=0)(f:l.length<=60)(b:dv w no nc l):
 cX 153 #[.agg #[.slice no l nc],.int .i64 (p:Nat)] w (.bool ((eH (trN l (l-1))).testBit p)):=by
 have hF:=(iM a).1;have n:=(iM a).2;have c:=b.2.2.1;unfold maxLen at c;have c:=b.2.1;have⟨w1,c,d⟩:=fQ w (.cells #[.slice no l nc] 52);have g:=fH c;have h:=iC c;have m:=ak 0 h;have i:=va l no nc w1 a f (b.O d) (th a);have⟨o,r,j,g⟩:=dE a b d i;clear a b d h i
 go_in
 go_wp2_with(first
  |(rw[<-c];clear c)
  |fail)
 apply g.o.zz;rintro e c ⟨F,U,rfl,b,a⟩;clear g m;obtain⟨i,d⟩:=aC b a;have g:=a.size;clear b a;have⟨g,b,a⟩:=fQ c (.cells (zz_m3 no l nc F U) 216);have c:=fH b;have c:=iC b;have⟨m,o,r⟩:=dP c;have⟨h,s⟩:=aC a c;have h:Hid (Below w.heap.size w g):=(j.o.Z (d.o.zz ad)).Z (a.zz ad);have j:Hid (lI g F U l):=i.o.O a;have d:=rG no nc _ F U g n f;unfold jC at d;have g:=ah d;clear a c d;unfold jC;have d0:decide ((0:Int)<=p)=true:=bT;have d1:decide ((p:Int)<l)=true:=bT;have d2:decide (p<l)=true:=bT;have d3:(p:Int)<l:=ad;have d4:=aL p;go_wp2_with(first
  |(rw[<-b];clear b)
  |fail)
 refine ar g.o ?_;intro b a;have d:=(jA (j.o.zj (l-1) ad) a) 18 _ rfl;have c:=A7 F _ (eH (trN l (l-1))) p b ad (mi hF f ad).2 d;have⟨f,b⟩:=aC (h.o.Z (a.zz h.o.size)) c;clear g a m o r d c;go_wp2_with fail
 refine ar b.o ?_;intro c a;subst a;obtain⟨q,a⟩:=am ((eH (trN l (l-1))).testBit p);rw[<-a];clear b;have b:=ah a;clear a
 go_wp2
 go_ret;exact⟨by rw[<-b.o];rfl,f.o⟩
def Gf l no nc p np w(r:Gl w)(m:l[p]?=some np)(j:np.op=2)(a:bK l=0)(c:l.length<=60)(b:dv w no nc l):
 dB 157 #[.agg #[.slice no l nc],.int .i64 (p:Nat)] w fun e w'=>(∃v,e=.returned v/\bW w' w v (aG (dO l p)))/\aR w w':=by
 have hF:=(iM a).1;have s:=(iM a).2;have d:=b.2.2.1;unfold maxLen at d;have d:=b.2.1;have⟨w1,d,f⟩:=fQ w (.cells #[.slice no l nc] 52);have g:=fH d;have h:=iC d;have q:=ak 0 h;have i:=va l no nc w1 a c (b.O f) (th a);have⟨t,o,n,g⟩:=dE a b f i;clear a b f h i
 go_in
 go_wp2_with(first
  |(rw[<-d];clear d)
  |fail)
 apply g.o.zz;rintro e f ⟨F,U,rfl,b,a⟩;clear g q;obtain⟨i,h⟩:=aC b a;have d:=a.size;clear b a;have⟨d,b,a⟩:=fQ f (.cells (zz_m3 no l nc F U) 216);have f:=fH b;have g:=iC b;have⟨t,u,x⟩:=dP g;have⟨f,q⟩:=aC a g;have f:Hid (Below w.heap.size w d):=(n.o.Z (h.o.zz ad)).Z (a.zz ad);have n:Hid (lI d F U l):=i.o.O a;have h:=rG no nc _ F U d s c;unfold jC at h;have i:=ah h;clear a g h;unfold jC;have a:=PK l no nc F U p np d hF c (o.o.O f.o) n.o m j;unfold jC at a;have h:=ah a;clear a;go_wp2_with(first
  |(rw[<-b];clear b)
  |fail)
 refine ar h.o ?_;intro g i;obtain⟨a,n,o,b⟩:=vd g 221;obtain⟨q,d⟩:=am (g.alloc (.cells fe 221));rw[<-d]at a n o b;have b:=ah (f.o.Z (i.zz f.o.size));have o:=ah (b.o.Z (a.zz b.o.size));have q:Hid (dO l p<18446744073709551616):=(yr hF c m j).1;clear h i t u x n a;go_wp2_with(first
  |(rw[<-d];clear d)
  |((refine Bf ?_);intro f c)
  |fail)
 have a:Hid (aR w f):=c.O o.o b.o.size;have d:=A8 g.heap.size 0 _ f (r.O a.o) (by rw[c.size];omega) q.o (gd c.zn);have b:=ah d;clear d;apply b.o.zz;rintro e f ⟨⟨v,rfl,d⟩,c⟩;have f:=ah (a.o.Z (c.zz a.o.size));have g:=a.o.size;have a:=ah d;clear b d c
 go_wp2
 go_ret;exact⟨⟨_,rfl,Ge a.o g⟩,f.o⟩
def Qh{w:World}{cap os}(a:os.size=cap)(b:cap<=maxLen):((w.alloc (.cells os 9)).drew).ownsRow w 9 1 (.slice w 0 cap) 0 []:=
 ⟨rfl,.inr ⟨_,cap,os,rfl,ay _,aN w _,aH _,b,by simp[a],aj⟩⟩
def Qi n(d:0<n)(p:n<=1048576) w:
 dB 243 #[.slice none 0 0,.int .i64 (n:Nat)] w fun e w'=>∃g cap,e=.returned (.slice (some ⟨g,0,none⟩) 0 cap)/\w'.ownsRow w 9 1 (.slice g 0 cap) 0 []/\aR w w':=by
 obtain⟨m,h,i,j,l⟩:=cZ pB;have d0:decide ((n:Int)<0)=false:=bU;have d1:decide ((0:Int)<n)=true:=bT;have d2:decide (0<n)=true:=by rw[cf];exact d
 have c:=fun ty=>Lib.run_append_nil_zeros (P:=prog) w 53 3 ty 9 m (.string ⟨#[]⟩) .i64 .i64 jM ei h i n d (by rw[j];decide) ad (by rw[l];omega);have⟨C,a⟩:=am (grownCap w n 0 9);have o:n<=C:=by rw[a];exact grownCap_ge w n 0 _
 have b:C<=maxLen:=by rw[a];exact grownCap_le_maxLen w n 0 _ bO
 rw[<-a]at c;have f:=b;unfold maxLen at f;clear a
 go_in
 go_wp2_with(first
  |(at_builtin;refine qI _ rfl _ _ _ _ rfl _ _ rfl rfl _ _ (c _) ?_)
  |go_in)
 go_ret;exact⟨_,_,rfl,Qh (by rw[Array.size_append,size_zeroCells,size_zeroCells];simp;omega) b,aP.drew⟩
def eR{w:World}{B B' size n t v xs}(a:w.ownsRow B t size v n xs)(e:B'<=B):w.ownsRow B' t size v n xs:=by
 refine⟨a.1,?_⟩;rcases a.2 with c|⟨g,cap,b,hv,f,h,d⟩
 exact .inl c;exact .inr ⟨g,cap,b,hv,aW e f,h,d⟩
def Qj Y g n c ty(a:n<=c):(Builtin.append_ #[53,53] ty #[.slice (some ⟨g,0,none⟩) n c,.slice none 0 0]).run prog Y=.ok (.slice g n c) Y:=by have:¬c<n:=ad;simp[go_sem,this]
def Qk ws o(c s a0:Nat) w(B:cI w o c ws)(n:0<ws.length)(R:ws.length<=1048576)
 (p:kq w s #[.slice o ws c,.slice none 0 0] 53):
 dB 207 #[.slice s 2 2] w fun e w'=>(∃v,e=.returned v/\bN w' w v ws)/\aR w w':=by
 obtain⟨Z,O,W,X,Y⟩:=cZ pB;obtain⟨t,x⟩:=ku p;have y:=Qi _ n R w;have d0:decide ((ws:Int)<0)=false:=bU;have⟨G,l,F⟩:=bm y p B;clear y p B
 go_in
 go_wp2
 go_loopw [3,5,11] (fun ae _ h wr=>Hid (wr=w)/\∃k:Nat,h=.int .i64 k/\k<=2/\ae=.int .i64 (if k=0 then 0 else ws:Nat)) (fun _ _ h _=>2-(intOf h).toNat)
 case atStart=>exact⟨rfl,0,rfl,aH _,rfl⟩
 case round=>
 obtain⟨C,k,rfl,Q,rfl⟩:=hrel;have C:=C.out;subst wr;rcases(show k=0∨k=1∨k=2 by omega)with rfl|rfl|rfl
 ·go_wp2_with fail
  go_roundw
  case rel=>exact⟨ah trivial,1,aD,ad,aj⟩
  case measure=>simp[intOf]
 ·go_wp2_with fail
  go_roundw
  case rel=>exact⟨ah trivial,2,aD,ad,aj⟩
  case measure=>simp[intOf]
 ·go_wp2_with fail
  apply G.o.zz;rintro e a2 ⟨g,cap,rfl,d,m⟩;have q:=(m.J _ (aS l.o)).Z l.o;have⟨r,i⟩:=aC m d;clear t x q m d
  go_wp2
  go_loopw [6,8,27] (fun v _ h wr=>∃k:Nat,h=.int .i64 k/\k<=2/\aR w wr/\bN wr w v (if k=0 then []else ws)) (fun _ _ h _=>2-(intOf h).toNat)
  case atStart=>exact⟨0,rfl,aH _,r.o,i.o⟩
  case round=>
  clear r i;obtain⟨k,rfl,Q,f,d⟩:=hrel;have q:=(f.J _ (aS l.o)).Z l.o;have⟨t,x⟩:=ku q;obtain⟨af,E,rfl⟩:=nK d;rcases(show k=0∨k=1∨k=2 by omega)with rfl|rfl|rfl
  ·obtain⟨b,aa,rfl,an,V⟩:=(F.o.O f).2.2.2 n
   rw[au rfl]at d;have S:∀j u,(ws.map encStr)[j]?=some u->wr.cell? ((⟨b,aa,none⟩:Addr).add j)=some u:=fun j u P=>by rw[Addr.add_mid];exact V j u P
   have A:wr.ownsRow w 9 1 (.slice af 0 E) 0 []:=d;go_wp2_with(first
    |(at_builtin;go_must (apply iV _ rfl _ _ 53 rfl _ 9 Z _ 1 16 jM O W X Y rfl aq _ _ _ rfl A _ _ c _ rfl aj S (fun z D=>by simp at D;obtain⟨a,_,rfl⟩:=D;rfl) bO ad (aQ f.size));intro a1 a3 T N aw)
    |go_in)
   go_roundw
   case rel=>exact⟨1,aD,ad,f.zu N f.size (fun k e=>(aY A k e).1),by rw[ap ad];unfold bN;simpa using T⟩
   case measure=>simp[intOf]
  ·rw[ap ad]at d
   rw[ap ad];have⟨H,ag,J,al,av,I,_⟩:=sP d n;injection J with K ao M
   subst K;subst M;have i:=ah d;clear d;have ab:=fun ty=>Qj wr H _ E ty I;go_wp2_with(first
    |(at_builtin;refine qI _ rfl _ _ _ _ rfl _ _ rfl rfl _ _ (ab _) ?_)
    |go_in)
   go_roundw
   case rel=>exact⟨2,aD,ad,f,by rw[ap ad];exact i.o⟩
   case measure=>simp[intOf]
  rw[ap ad]at d
  go_wp2
  go_ret;exact⟨⟨_,rfl,d⟩,f⟩
def unionB(ws:List Bytes):List Bytes:=dN (ws.mergeSort bD)
def Ql{w w1 g cap nn q os ss ts}(s:bN w1 w.heap.size (.slice (some ⟨g,0,none⟩) ss.length cap) ss)(b:aR w w1)(o:w<=g)
 (d:ts=ss.mergeSort bD):
 (∃v,Ending.returned (.slice g (Lib.compact ts) cap)=.returned v/\bN (Sort.putRow encStr (Sort.ahead (Sort.grow (Sort.putRow encStr (Sort.ahead w1 nn) g 0 ts) os) q) g 0 (Lib.compact ts++List.replicate (ts-(Lib.compact ts)) []).toArray) w v (unionB ss))/\
   aR w (Sort.putRow encStr (Sort.ahead (Sort.grow (Sort.putRow encStr (Sort.ahead w1 nn) g 0 ts) os) q) g 0 (Lib.compact ts++List.replicate (ts-(Lib.compact ts)) []).toArray):=by
 have r:ts=ss.length:=by rw[d];simp
 have A:=C5 ts;have l:unionB ss=Lib.compact ts:=by unfold unionB;rw[xn,d]
 rcases s.2 with⟨e,_⟩|⟨y,u,x,hv,a,m,f,h,i,z⟩
 cases e
 cases hv
 have t:=ownsRow_sorted (n:=nn) (os:=os) r a m f h i;have c:=Lib.ownsRow_putRow (q:=q) (k:=(Lib.compact ts).length) (ys:=Lib.compact ts++List.replicate (ts.length-(Lib.compact ts).length) []) t aO ad;rw[C6]at c;exact⟨⟨_,rfl,by unfold bN;rw[l];exact c⟩,Lib.below_putRow (b.zu (grownBy_sorted _) b.size (fun j p=>by cases p;exact a)) o⟩
def Qm ws o c w(I:cI w o c ws)(y:0<ws.length)(N:ws.length<=1024):
 dB 149 #[.slice o ws c,.slice none 0 0] w fun e w'=>(∃v,e=.returned v/\bN w' w v (unionB ws))/\aR w w':=by
 obtain⟨w1,m,d,p⟩:=dy w (.cells #[.slice o ws c,.slice none 0 0] 53);have P:=fH m;have u:=Qk ws o c _ 2 w1 (I.O d) y ad p;have⟨n,C⟩:=aC u d;clear u p d
 go_in
 go_wp2_with(first
  |(rw[<-m];clear m)
  |fail)
 apply n.o.zz;rintro e wr ⟨⟨v,rfl,A⟩,s⟩;have a:bN wr w v ws:=eR A ad;have t:=C.o.Z (s.zz ad);have z:v≠ .slice none 0 0:=by
  intro G;rcases a.2 with⟨_,y⟩|⟨g,f,K,hv,_⟩
  omega;rw[G]at hv;cases hv
 obtain⟨g,f,rfl,F,x,H,M,O,h⟩:=Kn a z;have l:=slices_Sort_string g 0 f ws wr h x ad;have⟨X,D⟩:=aC (And.intro a (And.intro h H)) t;clear a h z A s t n;have⟨ts,b⟩:=am (ws.mergeSort bD);have j:ts=ws.length:=by rw[b];simp
 rw[<-D2,<-b]at l;have E:=ah b;clear b;go_wp2_with fail
 refine ar l ?_;rintro J ⟨B,os,rfl⟩;clear l;have r:Sort.Holds encStr (Sort.grow (Sort.putRow encStr (Sort.ahead wr B) g 0 ts.toArray) os) g 0 ts.toArray:=
  Sort.holds_grow encStr _ os g 0 _ (by simpa[Sort.ahead]using x) (Sort.holds_putRow encStr _ g 0 _ _ (Sort.holds_ahead encStr wr B g 0 _ X.out.2.1) (by simp[j]))
 have i:=slices_Compact_string g 0 f ts _ r ad ad;rw[j]at i;clear r;go_wp2_with fail
 refine ar i ?_;rintro J ⟨q,rfl⟩;clear i
 go_wp2
 go_ret;rw[<-j];exact Ql X.out.1 D.o F E.o
def Qn Y o c ty:(Builtin.append_ #[53,53] ty #[.slice none 0 0,.slice o 0 c]).run prog Y=.ok () Y:=by cases o<;>rfl
def Qo w:de 243 #[.slice none 0 0,.int .i64 0] w () fun w'=>w'=w:=by
 go_in
 go_wp2
 go_ret;simp
def Qp o c PB w(e:kq w PB #[.slice o 0 c,.slice none 0 0] 53):
 de 207 #[.slice PB 2 2] w () fun w'=>w'=w:=by
 obtain⟨l,m⟩:=ku e;have d:=Qo w;have g:=ah d;have f:=fun o c ty=>Qn w o c ty;clear d e
 go_in
 go_wp2
 go_loopw [3,11] (fun i a wr=>Hid (wr=w)/\∃k:Nat,a=.int .i64 k/\k<=2/\i=.int .i64 0) (fun _ a _=>2-(intOf a).toNat)
 case atStart=>exact⟨rfl,0,rfl,aH _,rfl⟩
 case round=>
 obtain⟨b,k,rfl,h,rfl⟩:=hrel;have b:=b.out;subst wr;rcases(show k=0∨k=1∨k=2 by omega)with rfl|rfl|rfl
 ·go_wp2_with fail
  go_roundw
  case rel=>exact⟨ah trivial,1,aD,ad,rfl⟩
  case measure=>simp[intOf]
 ·go_wp2_with fail
  go_roundw
  case rel=>exact⟨ah trivial,2,aD,ad,rfl⟩
  case measure=>simp[intOf]
 ·go_wp2_with fail
  refine ar g.o ?_;rintro j rfl
  go_wp2
  go_loopw [6,27] (fun v a wr=>Hid (wr=j)/\∃k:Nat,a=.int .i64 k/\k<=2/\v=.slice none 0 0) (fun _ a _=>2-(intOf a).toNat)
  case atStart=>exact⟨rfl,0,rfl,aH _,rfl⟩
  case round=>
  obtain⟨b,k,rfl,h,rfl⟩:=hrel;have b:=b.out;subst wr;rcases(show k=0∨k=1∨k=2 by omega)with rfl|rfl|rfl
  ·go_wp2_with(first
    |(at_builtin;refine qI _ rfl _ _ _ _ rfl _ _ rfl rfl _ _ (f _ _ _) ?_)
    |fail)
   go_roundw
   case rel=>exact⟨ah trivial,1,aD,ad,rfl⟩
   case measure=>simp[intOf]
  ·go_wp2_with(first
    |(at_builtin;refine qI _ rfl _ _ _ _ rfl _ _ rfl rfl _ _ (f _ _ _) ?_)
    |fail)
   go_roundw
   case rel=>exact⟨ah trivial,2,aD,ad,rfl⟩
   case measure=>simp[intOf]
  go_wp2_with fail
  go_ret;simp
def Qq o c w:
 dB 149 #[.slice o 0 c,.slice none 0 0] w fun e w'=>(∃v,e=.returned v/\bN w' w v (unionB []))/\aR w w':=by
 obtain⟨w1,l,f,g⟩:=dy w (.cells #[.slice o 0 c,.slice none 0 0] 53);have i:=Qp o c _ w1 g;have j:=Ws none 0 w1;have h:=Wt none 0 w1;have⟨b,d,a,m⟩:=dE i j h f;clear i g f j h
 go_in
 go_wp2_with(first
  |(rw[<-l];clear l)
  |fail)
 refine ar b.o ?_;rintro wr rfl;clear b;go_wp2_with fail
 refine ar d.o ?_;rintro p rfl;clear d;go_wp2_with fail
 refine ar a.o ?_;rintro p rfl;clear a
 go_wp2
 go_ret;have n:unionB []=[]:=by simp[unionB,dN]
 exact⟨⟨_,rfl,n.zy▸cW _ _ _ _⟩,m.o⟩
def Qr ws o c w(d:cI w o c ws)(b:ws.length<=1024):
 dB 149 #[.slice o ws c,.slice none 0 0] w fun e w'=>(∃v,e=.returned v/\bN w' w v (unionB ws))/\aR w w':=by
 rcases zM ws with a|a
 obtain rfl:=pp a;exact Qq o c w;exact Qm ws o c w d a b
def Q3:(prog.info? 341).map (fun i=>(i.zero,i.size,i.bytes))=some (some (.agg #[.int .i64 0,.int .u64 0]),2,16):=az
def GE:(prog.info? 307).map (fun i=>(i.zero,i.size,i.bytes))=some (some (.agg #[.int .i64 0,.int .i64 0]),2,16):=az
abbrev It:=Nat×Nat
def BF(x:It):List Value:=[.int .i64 x.1,.int .u64 x.2]
def gW(L:List It):List Value:=L.flatMap BF
def gh(a b:It):Bool:=decide (a.1<b.1)||(a.1==b.1&&decide (a.2<b.2))
def Q4:p9 gh:=by refine⟨fun a b d=> ?_,fun a b c d k=> ?_⟩;simp[gh]at d⊢;omega;simp[gh]at d k⊢;omega
def Q5 a:gh a a=false:=by simp[gh]
def GF L:(gW L)=L.length*2:=by
 induction L with
 |nil=>rfl
 |cons a L ih=>simp[gW,BF]at ih⊢;omega
def vj a L:gW (a::L)=.int .i64 a.1::.int .u64 a.2::gW L:=rfl
def Q6 L M:gW (L++M)=gW L++gW M:=by simp[gW]
def Q7{L i a}(b:L[i]?=some a):(gW L)[i*2]?=some (.int .i64 a.1)/\(gW L)[i*2+1]?=some (.int .u64 a.2):=by
 induction L generalizing i with
 |nil=>simp at b
 |cons x L ih=>
  cases i with
  |zero=>
   simp at b;subst b;exact⟨rfl,rfl⟩
  |succ i=>
   have:=ih (by simpa using b);rw[vj,show(i+1)*2=i*2+1+1 by omega];exact this
def GG L i a:gW (L.set i a)=((gW L).set (i*2) (.int .i64 a.1)).set (i*2+1) (.int .u64 a.2):=by
 induction L generalizing i with
 |nil=>simp[gW]
 |cons x L ih=>
  cases i with
  |zero=>rfl
  |succ i=>
   rw[ct,vj,vj,ih,show(i+1)*2=i*2+1+1 by omega];rfl
def Q8 L n:(gW L).take (n*2)=gW (L.take n):=by
 induction L generalizing n with
 |nil=>simp[gW]
 |cons x L ih=>
  cases n with
  |zero=>simp[gW]
  |succ n=>
   rw[zT,vj,vj,<-ih,show(n+1)*2=n*2+1+1 by omega];rfl
def tm(a:Nat):Value:=.func (.func 244) #[] #[a]
structure QG(iT qT fT:TypeId)(sz:Nat)(av fv:Value)(W:World)(Q B OB:Nat)(iv sv:Value)(k put n:Nat)(xs:List Value):Prop where
 box:W.heap[Q]?=some (.cells #[iv,sv,av,.int .u64 (put:Nat)] qT)
 zt:W.ownsRow B iT sz iv n xs
 zk:∃ys,W.ownsRow B 307 2 sv k ys
 apart:∀g,iv.ownBlock=some g->sv.ownBlock≠some g
 low:Q<B
 lowB:B<=W.heap.size
 ob:W.heap[OB]?=some (.cells #[fv] fT)
 obB:OB<B
 obQ:OB≠Q
abbrev eL(W:World)(Q b a:Nat)(c e:Value)(k d:Nat)(L:List It):Prop:=QG 341 347 302 2 (tm a) (.func (.func 211) #[] #[]) W Q b a c e k d L (gW L)
def SQ(Q:Nat)(W:World)(b:Nat):Prop:=(∃a c av p e,kq W Q #[a,c,av,p] e/\a.ownBlock≠b/\c.ownBlock≠b)/\b≠Q/\b<W
structure cF(Q:Nat)(W W':World):Prop where
 os:W'.os=W.os
 tape:W'.tape=W.tape
 output:W'.output=W.output
 kp:Kp (SQ Q) W W'
def cF.Z{Q:Nat}{a b c:World}(d:cF Q a b)(k:cF Q b c):cF Q a c:=⟨k.os.Z d.os,k.tape.Z d.tape,k.output.Z d.output,d.kp.Z k.kp⟩
def oU{W W' Q iv sv av p iv2 sv2 av2 p2 e e2}(i:kq W Q #[iv,sv,av,p] e)(k:kq W' Q #[iv2,sv2,av2,p2] e2)(os:W'.os=W.os)(o:W'.tape=W.tape)(output:W'.output=W.output)
 (size:W<=W'.heap.size) (l:∀b,b<W.heap.size->b≠Q->iv.ownBlock≠b->sv.ownBlock≠b->W'.heap[b]?=W.heap[b]?)
 (m:∀g,iv2.ownBlock=some g->iv.ownBlock=g∨sv.ownBlock=g∨W<=g) (n:∀g,sv2.ownBlock=some g->iv.ownBlock=g∨sv.ownBlock=g∨W<=g):cF Q W W':=
 ⟨os,o,output,size,fun b j=>by
   obtain⟨⟨s,u,q,t,r,a,c,d⟩,f,h⟩:=j;rw[i]at a;injection a with a
   injection a with a
   simp at a;obtain⟨rfl,rfl,rfl,rfl⟩:=a;refine⟨⟨⟨_,_,_,_,_,k,fun e=> ?_,fun e=> ?_⟩,f,eU h size⟩,l b h f c d⟩;rcases m b e with e|e|e
   exact c e;exact d e;omega;rcases n b e with e|e|e
   exact c e;exact d e;omega⟩
def QG.O{j o f:TypeId}{q n:Nat}{av h:Value}{xs:List Value}{W W':World}{Q d e:Nat}{l p:Value}{k m:Nat}(a:QG j o f q av h W Q d e l p k m n xs)(b:Below W.heap.size W W'):QG j o f q av h W' Q d e l p k m n xs:=
 ⟨(b.J _ (aS a.box)).Z a.box,aX a.zt (fun g c=>b.J g (aV a.zt c).2),by obtain⟨ys,i⟩:=a.zk;exact⟨ys,aX i (fun g c=>b.J g (aV i c).2)⟩,a.apart,a.low,aW a.lowB b.size,(b.J _ (aS a.ob)).Z a.ob,a.obB,a.obQ⟩
def im{iT qT fT sz n av fv xs W W' Q B OB iv sv k put}(d:QG iT qT fT sz av fv W Q B OB iv sv k put n xs)(a:aR W W'):cF Q W W':=
 oU d.box (d.O a).box a.os a.tape a.output a.size (fun b e _ _ _=>a.J b e) (fun g c=>.inl c) (fun g c=>.inr (.inl c))
def QG.iv_form{i l e:TypeId}{o n:Nat}{av f:Value}{xs:List Value}{W:World}{Q b d:Nat}{a m:Value}{k j:Nat}(h:QG i l e o av f W Q b d a m k j n xs)(s:0<n):∃g c,a=.slice (some ⟨g,0,none⟩) n c:=by
 rcases h.zt.2 with⟨q,r⟩|⟨g,cap,p,hv,_⟩
 omega;exact⟨g,cap,hv⟩
def eL.cells{W:World}{Q e f g c:Nat}{o:Value}{k m n:Nat}{L:List It}(b:eL W Q e f (.slice (some ⟨g,0,none⟩) n c) o k m L)(l:n=L.length){i:Nat}{a:It}(d:L[i]?=some a):
 W.cell? ⟨g,i*2,none⟩=some (.int .i64 (a.1:Nat))/\W.cell? ⟨g,i*2+1,none⟩=some (.int .u64 (a.2:Nat)):=by
 have p:=(aF.1 d).1;subst l;have⟨h,j⟩:=Q7 d;exact⟨(b.zt.cellAt _ ad).Z h,(b.zt.cellAt _ ad).Z j⟩
def Q9 W Q B OB k put iv sv L(a:eL W Q B OB iv sv k put L):
 de 314 #[Q] W (.int .i64 L) fun w'=>w'=W:=by
 obtain⟨o,c,rfl⟩:=bs a.zt;have b:=ak 0 a.box;clear a
 go_in
 go_wp2
 go_ret;simp
def iN{W:World}{b e size n g c o:Nat}{xs u}(d:W.ownsRow b e size (.slice g n c) n xs):(W.setCell ⟨g,o,none⟩ u).ownsRow b e size (.slice g n c) n (xs.set o u):=by
 refine⟨l6.zy▸d.1,?_⟩;rcases d.2 with⟨a,_⟩|⟨p,cap,m,hv,j,l,a,f,h,i⟩
 cases a
 cases hv
 refine .inr ⟨g,c,_,rfl,j,a8 W g o u l,a,f,by simpa using h,?_⟩;rw[wU,<-i,uj]
def GH{W:World}{a e size n g c:Nat}{xs}(b:W.ownsRow a e size (.slice g (n+1) c) (n+1) xs):W.ownsRow a e size (.slice g n c) n (xs.take (n*size)):=by
 have o:n*size<=(n+1)*size:=Dv _ (sk n);refine⟨by rw[eh,b.1];omega,?_⟩;rcases b.2 with⟨d,_⟩|⟨p,cap,f,hv,l,m,d,h,i,j⟩
 cases d
 cases hv
 refine .inr ⟨g,c,f,rfl,l,m,ad,h,i,?_⟩;rw[<-j,CZ,rX o]
def GI{W:World}{b e size n g c:Nat}{xs}(d:W.ownsRow b e size (.slice g n c) n xs):n<=c/\c<=maxLen:=by
 rcases d.2 with⟨a,_⟩|⟨h,cap,f,hv,m,o,a,i,j,l⟩
 cases a
 cases hv
 omega
def QG.turned{j l o:TypeId}{m n:Nat}{av p:Value}{xs:List Value}{W c:World}{Q d i s t r:Nat}{q u:Value}{k A:Nat}{v:List Value}(a:QG j l o m av p W Q d i q u k A n xs)(f h:Value)
 (box:c.heap[Q]?=some (.cells #[f,h,av,.int .u64 (t:Nat)] l)) (z:c.ownsRow d j m f s v) (B:∃ys,c.ownsRow d 307 2 h r ys)
 (size:W.heap.size<=c.heap.size) (x:∀b,b<W.heap.size->b≠Q->q.ownBlock≠some b->u.ownBlock≠some b->c.heap[b]?=W.heap[b]?)
 (y:∀g,f.ownBlock=some g->h.ownBlock≠some g):QG j l o m av p c Q d i f h r t s v:=
 ⟨box,z,B,y,a.low,aW a.lowB size,(x i (aS a.ob) a.obQ (fun e=>by have:=(aV a.zt e).1;have:=a.obB;omega) (fun e=>by obtain⟨ys,w⟩:=a.zk;have:=(aV w e).1;have:=a.obB;omega)).Z a.ob,a.obB,a.obQ⟩
def GJ{iT qT fT sz n av fv xs W W1 u w5 Q B OB k put gg gc iv sv ys}(d:QG iT qT fT sz av fv W Q B OB iv sv k put n xs)(o:aR W W1)(t:aR W1 u)(c:u.grownBy w5 iv.ownBlock)
 (A:w5.ownsRow B iT sz (.slice (some ⟨gg,0,none⟩) (n+1) gc) (n+1) (xs++ys)) (j:iv.ownBlock=gg∨gg=u):
 (∃C,QG iT qT fT sz av fv (w5.setCell Q (.slice gg (n+1) gc)) Q B OB C sv k put (n+1) (xs++ys))/\cF Q W (w5.setCell Q (.slice gg (n+1) gc)):=by
 have v:=aS d.box;have h:=o.Z (t.zz o.size);have E:=h.size;have D:=c.size;have p:iv.ownBlock≠Q:=fun e=>by have:=(aV d.zt e).1;have:=d.low;omega
 have x:=(c.J Q ad p.zy).Z ((h.J Q v).Z d.box);have⟨zs,s⟩:=d.zk;have m:=fun g (c:sv.ownBlock=some g)=>aV s c;have r:∀g,sv.ownBlock=some g->iv.ownBlock≠g:=fun g a f=>d.apart g f a;have y:sv.ownBlock≠some gg:=fun e=>by
  rcases j with a|a
  exact r _ e a;have:=(m _ e).2;omega
 have z:gg≠Q:=by
  rcases j with a|a
  exact fun e=>p (e▸a);omega
 have l:∀b,b<W.heap.size->b≠Q->iv.ownBlock≠b->(w5.setCell Q (.slice gg (n+1) gc)).heap[b]?=W.heap[b]?:=fun b a f i=>
  (aU w5 Q 0 b _ f).Z ((c.J b ad (fun e=>i e.zy)).Z (h.J b a))
 have w:=a8 w5 Q 0 (.slice gg (n+1) gc) x;have q:QG iT qT fT sz av fv (w5.setCell ⟨Q,0,none⟩ (.slice (some ⟨gg,0,none⟩) (n+1) gc)) Q B OB (.slice (some ⟨gg,0,none⟩) (n+1) gc) sv k put (n+1) (xs++ys):=by refine d.turned _ _ w ?_ ⟨zs,aX s (fun g a=>l g (m g a).2 (fun e=>by have:=(m g a).1;have:=d.low;omega) (fun e=>r g a e))⟩ (by rw[eF];omega) (fun b a f i _=>l b a f i) (fun g a=>by cases a;exact y);exact aX A (fun g c=>aU _ _ _ _ _ (by cases c;exact z))
 refine⟨⟨_,q⟩,oU d.box q.box (c.os.Z h.os) (c.tape.Z h.tape) (c.output.Z h.output) (by rw[eF];omega) (fun b a f i _=>l b a f i) (fun g a=> ?_) (fun g a=>.inr (.inl a))⟩;cases a
 rcases j with a|a
 exact .inl a;exact .inr (.inr (show W<=gg by omega))
def GK v W:(Instr.typeAssert (.iface 341 v) 20 341 true).run prog W=.ok (.tuple #[v,true]) W:=az
def Ra W Q B OB k put iv sv L x(g:eL W Q B OB iv sv k put L)(w:L.length<=1048576):
 de 317 #[Q,.iface 341 (.agg #[.int .i64 x.1,.int .u64 x.2])] W (.tuple #[]) fun w'=>(∃q,eL w' Q B OB q sv k put (L++[x]))/\cF Q W w':=by
 obtain⟨D,v,y,A,C⟩:=cZ Q3;obtain⟨r,m⟩:=x;simp only;obtain⟨n,p⟩:=am L.length;obtain⟨o,c,rfl⟩:=bs g.zt;obtain⟨H,f⟩:=aC g p;obtain⟨a,l,h,b⟩:=dy W (.cells #[.int .i64 r,.int .u64 m] 341);have E:=fH l;have j:=g.O h;have i:=ak 0 j.box;have⟨d,s⟩:=ku b;have⟨s,d,t⟩:=bm h j b;clear g j b h;rw[<-p]at i w;clear p;have g:=GK (.agg #[.int .i64 r,.int .u64 m]) W
 go_in
 go_wp2_with(first
  |(rw[<-l];clear l)
  |fail)
 have l:some Q≠(Value.slice o n c).ownBlock:=fun e=>by have:=(aV d.o.zt (by rw[<-f.o];exact e.zy)).1;have:=d.o.low;omega
 have g:some W.heap.size≠(Value.slice o n c).ownBlock:=fun e=>by have:=(aV H.o.zt (by rw[<-f.o];exact e.zy)).2;omega
 have g:=aS H.o.box;have j:∀w',Below a.heap.size a w'->w'.cell? ⟨Q,0,none⟩=some (.slice o n c)/\w'.frozen? ⟨Q,0,none⟩=false/\w'.cell? ⟨W.heap.size,0,none⟩=some (.int .i64 (r:Nat))/\w'.cell? ⟨W.heap.size,1,none⟩=some (.int .u64 (m:Nat)):=fun w' g=>by have h:=(g.J Q ad).Z d.o.box;have b:=(g.J _ ad).Z t.o;rw[<-f.o]at h;exact⟨ak 0 h,aJ h 0,ak 0 b,ak 1 b⟩
 have p:∀u b:World,Below a.heap.size a u->u.grownBy b (Value.slice o n c).ownBlock->b.cell? ⟨Q,0,none⟩=some (.slice o n c)/\b.frozen? ⟨Q,0,none⟩=false:=by intro u b g h;have b:=g.size;have⟨i,b,t,w⟩:=j u g;exact⟨(h.cell_far _ (by show Q<_;omega) l).Z i,(h.frozen_far _ (by show Q<_;omega) l).Z b⟩
 have b:=(aA a a).drew;have⟨b,g,h,i⟩:=j a (aA _ _);have g:=d.o.zt;rw[<-f.o]at g;have b:=d.o.lowB
 go_region_law (first
  |((refine nG _ (by rfl) _ _ _ (by rfl) B 341 D _ 2 16 underlying343 v y A C rfl ad (.slice o n c) n _ (by rfl) (by(first|exact dp g.drew _|exact(dp g _).drew)) _ 1 1 [.int .i64 r,.int .u64 m] (by rfl) (by rfl) (eq a.drew [.int .i64 (r:Nat),.int .u64 (m:Nat)] _ _ E.zy) (fun z b=>by simp at b;rcases b with rfl|rfl<;>rfl) ad bO ad aO _ rfl ?_);intro i gc F h d j l;obtain⟨t,w⟩:=p _ _ (by first|exact aP.drew|exact((aA _ a).drew).alloc aj _) d))
 all_goals go_wp2_with fail
 all_goals go_end0
 all_goals(have g:=f.o;subst g;have b:=GJ (ys:=BF (r,m)) H.o s.o (by first|exact aP.drew|exact((aA _ a).drew).alloc aj _) d h (by omega);refine⟨rfl,?_,b.2⟩;obtain⟨q,i⟩:=b.1;exact⟨q,by unfold eL;rw[ck,Q6];exact i⟩)
def kY(a b:Nat):Int:=if a<b then-1 else if b<a then 1 else 0
def GL a b w:de 85 #[.int .i64 (a:Nat),.int .i64 (b:Nat)] w (.int .i64 (kY a b)) fun w'=>w=w':=by
 unfold kY;rcases tV a b with c|c|c
 ·have d0:decide (a<b)=true:=by simpa using c
  rw[au c]
  go_in
  go_wp2
  go_ret;simp
 ·subst c
  rw[ap ad,ap ad]
  go_in
  go_wp2
  go_ret;simp
 ·have d0:decide (a<b)=false:=aO
  have d1:decide (b<a)=true:=by simpa using c
  rw[ap ad,au c]
  go_in
  go_wp2
  go_ret;simp
def Rb a b w:cX 211 #[.agg #[.int .i64 (a:Nat)],.agg #[.int .i64 (b:Nat)]] w (.int .i64 (kY a b)):=by
 obtain⟨c,e⟩:=am (kY a b);have d:=fun w=>GL a b w;rw[<-e]at d⊢;have f:=ah d;clear e d
 go_in
 go_wp2_with fail
 refine ar (f.o _) ?_;rintro w' rfl
 go_wp2
 go_ret;exact⟨rfl,aP.alloc aj _⟩
def Rc OB x y w(t:kq w OB #[.func (.func 211) #[] #[]] 302):
 cX 244 #[.agg #[.int .i64 x.1,.int .u64 x.2],.agg #[.int .i64 y.1,.int .u64 y.2],OB] w (.bool (gh x y)):=by
 obtain⟨r,m⟩:=x;obtain⟨e,j⟩:=y;simp only;have H:=aS t;have⟨f,d⟩:=am ((w.alloc (.cells #[.int .i64 r,.int .u64 m] 341)).alloc (.cells #[.int .i64 e,.int .u64 j] 341));have n:aR w f:=by rw[d];exact aP.alloc aj _
 have o:f.heap[w.heap.size]?=some (.cells #[.int .i64 (r:Nat),.int .u64 (m:Nat)] 341):=by rw[d];exact(br _ _ _ aj).Z (aN w _)
 have p:f.heap[w.heap.size+1]?=some (.cells #[.int .i64 (e:Nat),.int .u64 (j:Nat)] 341):=by rw[d];have:=aN (cT w #[.int .i64 r,.int .u64 m] 341) (.cells #[.int .i64 e,.int .u64 j] 341);rwa[bP]at this
 have v:f=w.heap.size+2:=by rw[d];simp
 have I:=ak 0 ((n.J OB H).Z t);have J:=ak 0 o;have K:=ak 0 p;have M:=fun args z=>(rfl:(callFunc 211 args).run prog z=.ok (.enter 211 args) z);have s:=Rb r e f;have⟨c,q⟩:=am (kY r e);rw[<-q]at s;have⟨G,F,C,D,E,l⟩:=iL s q n o p v;clear q s t n o p v
 go_in
 go_wp2_with(first|(rw[<-d];clear d)|fail)
 refine ar G.o ?_;intro N g;have A:=(g.J _ (aQ l.out)).Z D.out;have B:=(g.J _ (aQ l.out)).Z E.out;have O:=ak 1 A;have P:=ak 1 B;have h:=ah (C.out.Z (g.zz (aQ l.out)));clear g A B J K I;have b:=F.o;unfold kY at b;rcases tV r e with a|a|a
 ·rw[au a]at b
  subst b
  go_wp2
  go_ret;exact⟨by simp[gh,a],h.out⟩
 ·rw[ap ad,ap ad]at b
  subst b;have u:=ah a;clear a;cases i:decide (m<j)with
  |true=>
   go_wp2
   go_ret;exact⟨by have:=u.o;simp at i;simp[gh,this,i],h.out⟩
  |false=>
   go_wp2
   go_ret;exact⟨by have:=u.o;simp at i;simp[gh,this,i],h.out⟩
 ·rw[ap ad,au a]at b
  subst b
  go_wp2
  go_ret;exact⟨by simp[gh];omega,h.out⟩
def Re W Q B OB k put i j iv sv L a b(f:eL W Q B OB iv sv k put L)(o:L[i]?=some a)(p:L[j]?=some b)(V:L.length<=1048577):
 cX 315 #[Q,.int .i64 (i:Nat),.int .i64 (j:Nat)] W (.bool (gh a b)):=by
 have S:=(aF.1 o).1;have T:=(aF.1 p).1;obtain⟨g,c,rfl⟩:=f.iv_form ad;have⟨n,A⟩:=am L.length;have w:=ak 0 f.box;have x:=ak 2 f.box;have⟨E,F⟩:=f.cells rfl o;have⟨G,H⟩:=f.cells rfl p;have h:=fun w' (d:aR W w')=>Rc OB a b w' ((d.J OB (aS f.ob)).Z f.ob);have l:=(aV f.zt (g:=g) rfl).2;have y:=aS f.box;obtain⟨r,m⟩:=a;obtain⟨t,s⟩:=b;simp only at E F G H h;have z:∀w',aR W w'->w'.cell? _=W.cell? Q/\w'.cell? _=W.cell? ⟨Q,2,none⟩/\w'.cell? _=W.cell? ⟨g,i*2,none⟩/\w'.cell? _=W.cell? ⟨g,i*2+1,none⟩/\w'.cell? _=W.cell? ⟨g,j*2,none⟩/\w'.cell? _=W.cell? ⟨g,j*2+1,none⟩:=fun w' d=>
  ⟨d.cell y,d.cell y,d.cell l,d.cell l,d.cell l,d.cell l⟩
 have⟨q,C⟩:=am (gh (r,m) (t,s));rw[<-C]at h⊢;have J:=ah h;have X:=aL i;have aa:=aL j;have Y:(i:Int)<n:=ad;have ab:(j:Int)<n:=ad;have Z:i<n:=ad;have ae:j<n:=ad;rw[<-A]at w;have I:=ah z;have R:=fun args D=>(rfl:(callFunc 244 args).run prog D=.ok (.enter 244 args) D);unfold tm at x;clear f h C A o p z
 go_in
 go_wp2_with fail
 have u:Hid (∀w',Below W.heap.size W w'->w'.cell? ⟨Q,0,none⟩=some (.slice (some ⟨g,0,none⟩) n c)/\w'.cell? ⟨Q,2,none⟩=some (.func (.func 244) #[] #[.pointer (some ⟨OB,0,none⟩)])/\w'.cell? ⟨g,i*2,none⟩=some (.int .i64 (r:Nat))/\w'.cell? ⟨g,i*2+1,none⟩=some (.int .u64 (m:Nat))/\w'.cell? ⟨g,j*2,none⟩=some (.int .i64 (t:Nat))/\w'.cell? ⟨g,j*2+1,none⟩=some (.int .u64 (s:Nat))/\Below W.heap.size W w'):=fun w' d=>by obtain⟨a1,K,M,N,O,P⟩:=I.o w' d;exact⟨a1.Z w,K.Z x,M.Z E,N.Z F,O.Z G,P.Z H,d⟩
 go_region_held3(fun w'=>w'.cell? ⟨Q,0,none⟩=some (.slice (some ⟨g,0,none⟩) n c)/\w'.cell? ⟨Q,2,none⟩=some (.func (.func 244) #[] #[.pointer (some ⟨OB,0,none⟩)])/\w'.cell? ⟨g,i*2,none⟩=some (.int .i64 (r:Nat))/\w'.cell? ⟨g,i*2+1,none⟩=some (.int .u64 (m:Nat))/\w'.cell? ⟨g,j*2,none⟩=some (.int .i64 (t:Nat))/\w'.cell? ⟨g,j*2+1,none⟩=some (.int .u64 (s:Nat))/\Below W.heap.size W w')
  (first|exact u.o _ (aA _ W).drew|exact u.o _ (aE (aA _ W).drew v))
  (first|(go_at_call 244;refine(J.o _ ?_).zz ?_;(focus(exact(aA _ W).drew));rintro e af ⟨rfl,v⟩))
 go_wp2
 go_ret;exact⟨rfl,aE (aA _ W).drew v⟩
def Rf{W Q B OB g c k put i j sv L a b}(d:eL W Q B OB (.slice (some ⟨g,0,none⟩) L.length c) sv k put L)(u:L[i]?=some a)(w:L[j]?=some b):
 eL ((((W.setCell ⟨g,i*2,none⟩ (.int .i64 b.1)).setCell ⟨g,i*2+1,none⟩ (.int .u64 b.2)).setCell ⟨g,j*2,none⟩ (.int .i64 a.1)).setCell ⟨g,j*2+1,none⟩ (.int .u64 a.2)) Q B OB (.slice g L c) sv k put (swapL L i j)/\
 cF Q W ((((W.setCell ⟨g,i*2,none⟩ (.int .i64 b.1)).setCell ⟨g,i*2+1,none⟩ (.int .u64 b.2)).setCell ⟨g,j*2,none⟩ (.int .i64 a.1)).setCell ⟨g,j*2+1,none⟩ (.int .u64 a.2)):=by
 obtain⟨l,h⟩:=am (((((W.setCell ⟨g,i*2,none⟩ (.int .i64 b.1)).setCell ⟨g,i*2+1,none⟩ (.int .u64 b.2)).setCell ⟨g,j*2,none⟩ (.int .i64 a.1)).setCell ⟨g,j*2+1,none⟩ (.int .u64 a.2)));rw[<-h];have y:=(aV d.zt (g:=g) rfl).1;have t:Q≠g:=fun e=>by have:=d.low;omega
 have n:∀b,b≠g->l.heap[b]?=W.heap[b]?:=fun b m=>by rw[h,aU _ _ _ _ _ m,aU _ _ _ _ _ m,aU _ _ _ _ _ m,aU _ _ _ _ _ m]
 have z:l.heap.size=W.heap.size:=by rw[h];simp
 have v:l.ownsRow B 341 2 (.slice (some ⟨g,0,none⟩) L.length c) L.length (gW (swapL L i j)):=by
  have e:swapL L i j=(L.set i b).set j a:=by simp[swapL,u,w]
  rw[h,e,GG,GG];exact iN (iN (iN (iN d.zt)))
 have⟨zs,x⟩:=d.zk;have s:=(n Q t).Z d.box;have p:eL l Q B OB (.slice (some ⟨g,0,none⟩) L.length c) sv k put (swapL L i j):=
  d.turned _ _ s (by rw[oT];exact v) ⟨zs,aX x (fun q f=>n q (fun e=>d.apart g rfl (e▸f)))⟩ ad (fun b f r o _=>n b (fun e=>o (by rw[e];rfl))) d.apart
 exact⟨p,oU d.box p.box (by rw[h];rfl) (by rw[h];rfl) (by rw[h];rfl) ad (fun b f r o _=>n b (fun e=>o (by rw[e];rfl))) (fun g f=>.inl f) (fun g f=>.inr (.inl f))⟩
def GM{iT qT fT sz n av fv xs W u w5 Q B OB k put gg gc iv sv ys}(c:QG iT qT fT sz av fv W Q B OB iv sv k put n xs)(f:aR W u)(d:u.grownBy w5 sv.ownBlock)
 (w:w5.ownsRow B 307 2 (.slice (some ⟨gg,0,none⟩) (k+1) gc) (k+1) ys) (j:sv.ownBlock=gg∨gg=u):
 (∃y,QG iT qT fT sz av fv (w5.setCell ⟨Q,1,none⟩ (.slice gg (k+1) gc)) Q B OB iv y (k+1) put n xs)/\cF Q W (w5.setCell ⟨Q,1,none⟩ (.slice gg (k+1) gc)):=by
 have q:=aS c.box;have A:=f.size;have z:=d.size;have⟨zs,x⟩:=c.zk;have p:sv.ownBlock≠Q:=fun e=>by have:=(aV x e).1;have:=c.low;omega
 have s:=(d.J Q ad p.zy).Z ((f.J Q q).Z c.box);have m:=fun g (d:iv.ownBlock=some g)=>aV c.zt d;have t:iv.ownBlock≠gg:=fun e=>by
  rcases j with a|a
  exact c.apart _ e a;have:=(m _ e).2;omega
 have v:gg≠Q:=by
  rcases j with a|a
  exact fun e=>p (e▸a);omega
 have l:∀b,b<W.heap.size->b≠Q->sv.ownBlock≠b->(w5.setCell ⟨Q,1,none⟩ (.slice gg (k+1) gc)).heap[b]?=W.heap[b]?:=fun b a h i=>
  (aU w5 Q 1 b _ h).Z ((d.J b ad (fun e=>i e.zy)).Z (f.J b a))
 have r:=a8 w5 Q 1 (.slice gg (k+1) gc) s;have o:QG iT qT fT sz av fv (w5.setCell ⟨Q,1,none⟩ (.slice (some ⟨gg,0,none⟩) (k+1) gc)) Q B OB iv (.slice (some ⟨gg,0,none⟩) (k+1) gc) (k+1) put n xs:=
  c.turned _ _ r (aX c.zt (fun g a=>l g (m g a).2 (fun e=>by have:=(m g a).1;have:=c.low;omega) (fun e=>c.apart g a e)))
   ⟨ys,aX w (fun g d=>aU _ _ _ _ _ (by cases d;exact v))⟩ (by rw[eF];omega) (fun b a h _ i=>l b a h i) (fun g a e=>by cases e;exact t a)
 refine⟨⟨_,o⟩,oU c.box o.box (d.os.Z f.os) (d.tape.Z f.tape) (d.output.Z f.output) (by rw[eF];omega) (fun b a h _ i=>l b a h i) (fun g a=>.inl a) (fun g a=> ?_)⟩;cases a
 rcases j with a|a
 exact .inr (.inl a);exact .inr (.inr (show W<=gg by omega))
def Rg W Q p OB k put i j iv sv L a b(d:eL W Q p OB iv sv k put L)(y:L[i]?=some a)(l:L[j]?=some b)(h:L.length<=1048577)(f:k<=1048576):
 de 318 #[Q,.int .i64 (i:Nat),.int .i64 (j:Nat)] W (.tuple #[]) fun w'=>(∃B t,eL w' Q p OB B t (k+1) put (swapL L i j))/\cF Q W w':=by
 have f:=(aF.1 y).1;have f:=(aF.1 l).1;obtain⟨g,c,rfl⟩:=d.iv_form ad;have⟨al,aa,ae,af,ag⟩:=cZ GE;have s:=d.O (aA _ W).drew;have⟨f,h⟩:=Rf d y l;have q:=f.O (aA _ _).drew;have A:=h.Z (im f (aA _ _).drew);have⟨C,w⟩:=am (((((W.setCell ⟨g,i*2,none⟩ (.int .i64 b.1)).setCell ⟨g,i*2+1,none⟩ (.int .u64 b.2)).setCell ⟨g,j*2,none⟩ (.int .i64 a.1)).setCell ⟨g,j*2+1,none⟩ (.int .u64 a.2)).drew);rw[<-w]at q A;clear f h s;have hv:∀(u:World) (o:Nat),(∃v,u.cell? ⟨g,o,none⟩=some v)->∀f x,∃v,(u.setCell ⟨g,f,none⟩ x).cell? ⟨g,o,none⟩=some v:=fun u o ⟨v,hv⟩ f x=>by by_cases e:o=f;subst e;exact⟨x,sm _ _ _ (by rw[hv];rfl)⟩;exact⟨v,(li _ _ _ _ (fun f=>e (by injection f with _ f;omega))).Z hv⟩
 have⟨f,G⟩:=hv (W.setCell ⟨g,i*2,none⟩ (.int .i64 b.1)) _ (hv W _ ⟨_,(d.cells rfl l).1⟩ _ _) (i*2+1) (.int .u64 b.2);have⟨f,H⟩:=hv (W.setCell ⟨g,i*2,none⟩ (.int .i64 b.1)) _ (hv W _ ⟨_,(d.cells rfl l).2⟩ _ _) (i*2+1) (.int .u64 b.2);clear hv;have⟨n,E⟩:=am L.length;have⟨ys,s⟩:=q.zk;obtain⟨h,f,rfl⟩:=bs s;have D:=ak 0 d.box;have F:=ak 1 q.box;have⟨I,J⟩:=d.cells rfl y;have⟨K,M⟩:=d.cells rfl l;have R:=d.zt.frozenAt (i*2);have S:=d.zt.frozenAt (i*2+1);have T:=d.zt.frozenAt (j*2);have V:=d.zt.frozenAt (j*2+1);have F:Q≠g:=fun e=>by have:=(aV d.zt (g:=g) rfl).1;have:=d.low;omega
 obtain⟨r,m⟩:=a;obtain⟨N,F⟩:=b;simp only at I J K M w G H;have F:=aL i;have F:=aL j;have F:(i:Int)<n:=ad;have F:(j:Int)<n:=ad;rw[<-E]at D;have⟨N,P,F⟩:=bm q A w;clear d E y l q A w
 go_in
 go_wp2_with fail
 go_region
 rw[<-F.o];have q:=N.o;have N:=aS q.box;have d:=q.lowB;have⟨w,y,A⟩:=fQ C (.cells #[.int .i64 i,.int .i64 j] 307);have d:=fH y;have F:w.ownsRow p 307 2 (.slice h k f) k ys:=by rw[y];exact dp s _
 have ab:=eq C [.int .i64 i,.int .i64 j] 307 _ rfl;have C:some Q≠(Value.slice h k f).ownBlock:=fun e=>by have:=(aV s e.zy).1;have:=q.low;omega
 have E:∀d:World,w.grownBy d (Value.slice h k f).ownBlock->d.cell? ⟨Q,1,none⟩=some (.slice h k f)/\d.frozen? ⟨Q,1,none⟩=false:=fun d l=>by have d:=(A.J Q N).Z q.box;exact⟨(l.cell_far _ (by show Q<_;omega) C).Z (ak 1 d),(l.frozen_far _ (by show Q<_;omega) C).Z (aJ d 1)⟩
 have⟨O,N,d⟩:=bm E A s;have C:∀d gc l,w.grownBy l (Value.slice h k f).ownBlock->l.ownsRow p 307 2 (.slice (some ⟨d,0,none⟩) (k+1) gc) (k+1) (ys++[.int .i64 (i:Nat),.int .i64 (j:Nat)])->((Value.slice h k f).ownBlock=some d∨d=w.heap.size)->(∃B t,eL (l.setCell ⟨Q,1,none⟩ (.slice (some ⟨d,0,none⟩) (k+1) gc)) Q p OB B t (k+1) put (swapL L i j))/\cF Q W (l.setCell ⟨Q,1,none⟩ (.slice (some ⟨d,0,none⟩) (k+1) gc)):=fun d gc l X Y Z=>by obtain⟨⟨t,B⟩,w⟩:=GM q N.o X Y Z;exact⟨⟨_,t,B⟩,P.o.Z w⟩
 have B:=ah C;rw[y]at F;clear C E A s q G H I J K M R S T V D;go_wp2_with(first
  |(at_builtin;go_must (refine kI _ rfl _ _ 260 rfl p 307 al _ 2 16 underlying260 aa ae af ag rfl ad (.slice h k f) k ys rfl F _ 1 1 [.int .i64 i,.int .i64 j] rfl rfl ab (fun z t=>by simp at t;rcases t with rfl|rfl<;>rfl) ad bO ad aO _ rfl ?_);intro d gc l A q s C;rw[<-y]at q s;obtain⟨w,D⟩:=O.o _ q)
  |fail)
 go_end0
 exact⟨rfl,B.o d gc l q A s⟩
def Rh{W u Q B OB g c k put sv L a}(f:eL W Q B OB (.slice (some ⟨g,0,none⟩) (L.length+1) c) sv k put (L++[a]))(i:aR W u):
 (∃D,eL (((u.setCell ⟨g,L.length*2,none⟩ (0:Int)).setCell ⟨g,L.length*2+1,none⟩ (.int .u64 0)).setCell Q (.slice g L.length c)) Q B OB D sv k put L)/\
 cF Q W (((u.setCell ⟨g,L*2,none⟩ (0:Int)).setCell ⟨g,L*2+1,none⟩ (.int .u64 0)).setCell Q (.slice g L c)):=by
 obtain⟨h,m⟩:=am (((u.setCell ⟨g,L*2,none⟩ (0:Int)).setCell ⟨g,L*2+1,none⟩ (.int .u64 0)));rw[<-m];have E:=aV f.zt (g:=g) rfl;have v:Q≠g:=fun e=>by have:=f.low;omega
 have z:=aS f.box;have F:=i.size;have G:h.heap.size=u.heap.size:=by rw[m];simp
 have t:∀b,b<W.heap.size->b≠g->h.heap[b]?=W.heap[b]?:=fun b d n=>by rw[m,aU _ _ _ _ _ n,aU _ _ _ _ _ n];exact i.J b d
 have q:∀b,b<W.heap.size->b≠g->b≠Q->(h.setCell Q (.slice g L c)).heap[b]?=W.heap[b]?:=fun b d n l=>(aU _ _ _ _ _ l).Z (t b d n);have A:=a8 h Q 0 (.slice g L c) ((t Q z v).Z f.box);have w:=aX f.zt (fun j d=>i.J j (aV f.zt d).2);rw[ck]at w;have x:=GH (iN (o:=L*2+1) (u:=.int .u64 0) (iN (o:=L*2) (u:=.int .i64 0) w));have C:(((gW (L++[a])).set (L.length*2) (.int .i64 0)).set (L.length*2+1) (.int .u64 0)).take (L.length*2)=gW L:=by rw[uj,uj,Q8,C6];rw[wV (by rw[l6,GF];omega),wV (by rw[GF];omega)]
 rw[C,<-m]at x;have⟨zs,s⟩:=f.zk;have y:eL (h.setCell ⟨Q,0,none⟩ (.slice (some ⟨g,0,none⟩) L.length c)) Q B OB (.slice (some ⟨g,0,none⟩) L.length c) sv k put L:=
  f.turned _ _ A (aX x (fun j d=>aU _ _ _ _ _ (by cases d;exact v.zy)))
   ⟨zs,aX s (fun j d=>q j (aV s d).2 (fun e=>f.apart g rfl (e▸d)) (fun e=>by have:=(aV s d).1;have:=f.low;omega))⟩ (by rw[eF];omega) (fun b d l p _=>q b d (fun e=>p (by rw[e];rfl)) l) (fun j d=>by cases d;exact f.apart g rfl)
 have r:(h.setCell ⟨Q,0,none⟩ (.slice (some ⟨g,0,none⟩) L.length c)).os=u.os/\(h.setCell ⟨Q,0,none⟩ (.slice (some ⟨g,0,none⟩) L.length c)).tape=u.tape/\(h.setCell ⟨Q,0,none⟩ (.slice (some ⟨g,0,none⟩) L.length c)).output=u.output:=by rw[m];exact⟨rfl,rfl,rfl⟩
 exact⟨⟨_,y⟩,oU f.box y.box (r.1.Z i.os) (r.2.1.Z i.tape) (r.2.2.Z i.output) (by rw[eF];omega) (fun b d l p _=>q b d (fun e=>p (by rw[e];rfl)) l) (fun g d=>.inl (by cases d;rfl)) (fun g d=>.inr (.inl d))⟩
def Ri W Q B OB k put iv sv L a(b:eL W Q B OB iv sv k put (L++[a]))(J:L.length<=1048577):
 de 316 #[Q] W (.iface 341 (.agg #[.int .i64 a.1,.int .u64 a.2])) fun w'=>(∃z,eL w' Q B OB z sv k put L)/\cF Q W w':=by
 obtain⟨g,c,rfl⟩:=b.iv_form aj;simp only[ck,ef,gN,cH]at b;obtain⟨n,s⟩:=am L.length;have o:=ak 0 b.box;have⟨j,l⟩:=b.cells aj (i:=L) (a:=a) aj;have h:=b.zt;rw[ck]at h;have v:=wW h (n*2);have w:=wW h (n*2+1);have y:=GI h;unfold maxLen at y;have I:n<=c:=ad;have H:c<=9223372036854775807:=ad;clear h y;have G:Q≠g:=fun e=>by have:=(aV b.zt (g:=g) rfl).1;have:=b.low;omega
 have f:=(aV b.zt (g:=g) rfl).2;have p:=aS b.box;have f0:=aJ b.box 0;obtain⟨r,m⟩:=a;simp only at j l;rw[<-s]at o j l;have⟨A,x,d,u⟩:=dy W (.cells #[.int .i64 r,.int .u64 m] 341);have q:=Rh b d;rw[<-s]at q;have t:=ah q;have⟨R,S⟩:=ku u;have C:=(d.cell p).Z o;have D:=(d.frozen p).Z f0;have E:=(d.frozen f).Z v;have F:=(d.frozen f).Z w;have O:=(d.cell f).Z j;have P:=(d.cell f).Z l;have K:n<=1048577:=ad;have N:W≠g:=ad;have M:W≠Q:=ad;clear q b s u d v w f0 f p
 go_in
 go_wp2_with(first|(rw[<-x];clear x o j l)|fail)
 go_ret;exact⟨rfl,t.o.1,t.o.2⟩
end Go.Proofs.YtfeidcmojcijpaaGreatDoor
