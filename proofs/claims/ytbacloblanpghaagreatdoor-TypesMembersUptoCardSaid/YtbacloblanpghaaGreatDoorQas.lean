import Derived.Test.YtbacloblanpghaaGreatDoorQao
set_option linter.unusedVariables false
set_option linter.unusedSimpArgs false
set_option maxRecDepth 100000
set_option maxHeartbeats 0
namespace Go.Proofs.YtbacloblanpghaaGreatDoor
open Go.RowKit Tryz
def iP(k:Nat)(c:Int):Bool:=if k=0 then jH c else ip c
theorem Kb(l:Bytes):a8 l=true↔(1<=l.length/\l.length<=64)/\(∀k c,l[k]?=some c->iP k (c.toNat:Nat)=true):=by
 unfold a8;simp only[dg,ct];constructor
 ·rintro⟨⟨e,a⟩,f⟩
  refine⟨e,fun k c b=> ?_⟩;unfold iP;by_cases d:k=0
  ·subst d
   rw[au rfl];rw[Fc,Fd,b]at a;exact a
  ·rw[ap d]
   unfold gJ at f;rw[kM]at f;exact f c (aU b)
 ·rintro⟨e,a⟩
  refine⟨⟨e,?_⟩,?_⟩
  ·have:=a 0 l[0] (aF ad)
   rw[Fc,Fd,aF ad];exact this
  ·unfold gJ
   rw[kM];intro c b;obtain⟨k,d⟩:=m0.1 b;have:=a k c d;unfold iP at this;split at this
   ·unfold ip;rw[this];rfl
   ·exact this
theorem Kc(c:Int):ip c=decide ((97<=c/\c<=122)∨(65<=c/\c<=90)∨c=95∨(48<=c/\c<=57)∨c=45∨c=46):=by rw[eS];simp[ip,jH,nf];omega
theorem Kd(s:ByteArray)(w:World)(P:s.size<=9223372036854775807):
 Calls prog 33 #[.string s] w fun v w'=>v=.returned (.bool (a8 s.data.toList))/\w=w':=by
 have y:s.data.toList.length=s.size:=(dy s).symm;have p:=Kb s.data.toList;rw[y]at p;generalize a8 s.data.toList=h at p;obtain⟨B,J⟩:=aE p y;clear p y;go_enter func33,ntmps33
 go_wp2
 go_loop [3] (fun i=>∃k:Nat,i=.int .i64 k/\k<=s.size/\Hid (∀j c,j<k->s.data.toList[j]?=some c->iP j (c.toNat:Nat)=true)) (fun i=>s.size-(intOf i).toNat)
 case atStart=>exact⟨0,rfl,aK _,fun j c o=>absurd o ad⟩
 case round=>
  obtain⟨k,rfl,N,z⟩:=hrel;by_cases M:k<s.size
  ·have L:decide ((k:Int)<s.size)=true:=aM
   have x:s.data.toList[k]?=some s[k]:=Lib.data_getElem? s k M;have Q:=s[k].toNat_lt;have I:iP k (s[k].toNat:Nat)=true->∀j c,j<k+1->s.data.toList[j]?=some c->iP j (c.toNat:Nat)=true:=by
    intro a j c o b;by_cases v:j=k
    ·subst v;rw[x]at b;injection b with b;subst b;exact a
    ·exact z.o j c ad b
   have G:iP k (s[k].toNat:Nat)=false->h=false:=by
    intro a;cases n:h with
    |false=>rfl
    |true=>
     have K:=(B.o.1 n).2 k _ x;rw[K]at a;cases a
   have F:jH (s[k].toNat:Nat)=decide ((97<=((s[k].toNat:Nat):Int)/\((s[k].toNat:Nat):Int)<=122)∨(65<=((s[k].toNat:Nat):Int)/\((s[k].toNat:Nat):Int)<=90)∨((s[k].toNat:Nat):Int)=95):=rfl;have H:=Kc (s[k].toNat:Nat);obtain⟨C,A,q,r⟩:=cI I G F H;have O:(k:Int)<s.size:=ad;clear I G x F H;rcases(ad:((97<=((s[k].toNat:Nat):Int)/\((s[k].toNat:Nat):Int)<=122)∨(65<=((s[k].toNat:Nat):Int)/\((s[k].toNat:Nat):Int)<=90)∨(95<=((s[k].toNat:Nat):Int)/\((s[k].toNat:Nat):Int)<=95))∨((48<=((s[k].toNat:Nat):Int)/\((s[k].toNat:Nat):Int)<=57)∨(45<=((s[k].toNat:Nat):Int)/\((s[k].toNat:Nat):Int)<=45)∨(46<=((s[k].toNat:Nat):Int)/\((s[k].toNat:Nat):Int)<=46))∨(((s[k].toNat:Nat):Int)<45∨(47<=((s[k].toNat:Nat):Int)/\((s[k].toNat:Nat):Int)<=47)∨(58<=((s[k].toNat:Nat):Int)/\((s[k].toNat:Nat):Int)<=64)∨(91<=((s[k].toNat:Nat):Int)/\((s[k].toNat:Nat):Int)<=94)∨(96<=((s[k].toNat:Nat):Int)/\((s[k].toNat:Nat):Int)<=96)∨123<=((s[k].toNat:Nat):Int)))with b|b|b
   ·have e:iP k (s[k].toNat:Nat)=true:=by
     unfold iP;rw[q.o,r.o];split<;>rw[ct]<;>omega
    have t:=ah (C.o e);clear e;rcases b with⟨a,d⟩|⟨a,d⟩|⟨a,d⟩
    all_goals
     first
      |(have m:(((s[k].toNat:Nat):Int)==95)=true:=by rw[ln];omega)
      |(have m:(((s[k].toNat:Nat):Int)==95)=false:=by rw[cW];omega)
     go_wp2
     go_round
     case rel=>exact⟨k+1,aG,ad,t.o⟩
     case measure=>exact aH
   ·by_cases g:k=0
    ·have e:iP k (s[k].toNat:Nat)=false:=by
      unfold iP;rw[au g,q.o,cF];omega
     have f:=ah (A.o e);have u:((k:Int)==0)=true:=mq;clear e g;rcases b with⟨a,d⟩|⟨a,d⟩|⟨a,d⟩
     all_goals
      have m:(((s[k].toNat:Nat):Int)==95)=false:=dX
      go_wp2
      go_ret;exact⟨bC f.o.symm,rfl⟩
    ·have e:iP k (s[k].toNat:Nat)=true:=by
      unfold iP;rw[ap g,r.o,ct];omega
     have t:=ah (C.o e);have u:((k:Int)==0)=false:=dX;clear e g;rcases b with⟨a,d⟩|⟨a,d⟩|⟨a,d⟩
     all_goals
      have m:(((s[k].toNat:Nat):Int)==95)=false:=dX;first
       |(have D:(((s[k].toNat:Nat):Int)==45)=true:=by rw[ln];omega)
       |(have D:(((s[k].toNat:Nat):Int)==45)=false:=by rw[cW];omega)
      first
       |(have E:(((s[k].toNat:Nat):Int)==46)=true:=by rw[ln];omega)
       |(have E:(((s[k].toNat:Nat):Int)==46)=false:=by rw[cW];omega)
      go_wp2
      go_round
      case rel=>exact⟨k+1,aG,ad,t.o⟩
      case measure=>exact aH
   ·have e:iP k (s[k].toNat:Nat)=false:=by
     unfold iP;rw[q.o,r.o];split<;>rw[cF]<;>omega
    have f:=ah (A.o e);clear e;have m:(((s[k].toNat:Nat):Int)==95)=false:=dX;have D:(((s[k].toNat:Nat):Int)==45)=false:=dX;have E:(((s[k].toNat:Nat):Int)==46)=false:=dX;rcases(ad:k=0∨0<k)with g|g
    all_goals
     first
      |(have u:((k:Int)==0)=true:=by rw[ln];omega)
      |(have u:((k:Int)==0)=false:=by rw[cW];omega)
     clear g;rcases b with a|⟨a,d⟩|⟨a,d⟩|⟨a,d⟩|⟨a,d⟩|a
     all_goals
      first
       |(have u122:decide (((s[k].toNat:Nat):Int)<=122)=true:=by rw[ct];omega)
       |(have u122:decide (((s[k].toNat:Nat):Int)<=122)=false:=by rw[cF];omega)
      first
       |(have u90:decide (((s[k].toNat:Nat):Int)<=90)=true:=by rw[ct];omega)
       |(have u90:decide (((s[k].toNat:Nat):Int)<=90)=false:=by rw[cF];omega)
      first
       |(have u57:decide (((s[k].toNat:Nat):Int)<=57)=true:=by rw[ct];omega)
       |(have u57:decide (((s[k].toNat:Nat):Int)<=57)=false:=by rw[cF];omega)
      go_wp2
      go_ret;exact⟨bC f.o.symm,rfl⟩
  ·have L:decide ((k:Int)<s.size)=false:=aJ
   have n:h=decide (1<=s.size/\s.size<=64):=by rw[eS,B.o,ct];refine⟨fun a=>a.1,fun a=>⟨a,?_⟩⟩;intro j c b;have o:=(aP.1 b).1;rw[J.o]at o;exact z.o j c ad b
   have f:=ah n;clear n;rcases(ad:s.size<1∨(1<=s.size/\s.size<=64)∨64<s.size)with a|⟨a,d⟩|a
   ·have l:Hid (h=false):=by show _=_;rw[f.o,cF];omega
    go_wp2
    go_ret;exact⟨bC l.o.symm,rfl⟩
   ·have l:Hid (h=true):=by show _=_;rw[f.o,ct];omega
    go_wp2
    go_ret;exact⟨bC (by rw[l.o,ct];omega),rfl⟩
   ·have l:Hid (h=false):=by show _=_;rw[f.o,cF];omega
    go_wp2
    go_ret;exact⟨bC (by rw[l.o,cF];omega),rfl⟩
def jt(n:ar):List Int:=if n.op=3∨n.op=4 then [n.a,n.b]else if n.op=5 then [n.a]else []
def qd(n:ar):Bool:= !(decide (n.op<0)||decide (n.op>5)||(n.op !=2&& !n.sym.isEmpty)||(decide (n.op<3)&&(n.a !=0||n.b !=0))||(n.op==5&&n.b !=0))
theorem qe(a b:Int):(a==b)=decide (a=b):=by rw[eS];simp
theorem xt(i:Nat)(n:ar):dG i n=(qd n&&(jt n).all (bM i)):=by
 obtain⟨c,sym,a,b⟩:=n;unfold dG qd jt;simp only;rcases(ad:c=0∨c=1∨c=2∨c=3∨c=4∨c=5∨c<0∨5<c)with rfl|rfl|rfl|rfl|rfl|rfl|d|d
 ·cases sym<;>simp[bne,qe]
 ·cases sym<;>simp[bne,qe]
 ·cases sym<;>simp[bne,qe]
 ·cases sym<;>simp[bne]
 ·cases sym<;>simp[bne]
 ·cases sym<;>simp[bne,qe,Bool.and_comm]
 ·rw[ap ad,ap ad,ap ad,ap ad];simp[d]
 ·rw[ap ad,ap ad,ap ad,ap ad];simp[d]
theorem Ke(n:ar):bU n=(jt n).map Int.toNat:=by
 unfold bU jt;split
 ·rfl
 ·split<;>rfl
def PZ(w:World)(g:Nat)(o:Option Addr)(ps:List Int):Prop:=(ps=[]/\o=none)∨(o=some ⟨g,0,none⟩/\g<w.heap.size/\∀j u,ps[j]?=some u->w.cell? ⟨g,j,none⟩=some (.int .i64 u))
theorem PZ.at{w:World}{g:Nat}{o:Option Addr}{ps:List Int}(b:PZ w g o ps){j:Nat}{u:Int}(a:ps[j]?=some u):o=some ⟨g,0,none⟩/\w.cell? ⟨g,j,none⟩=some (.int .i64 u):=by
 rcases b with⟨rfl,_⟩|⟨rfl,_,c⟩
 ·simp at a
 ·exact⟨rfl,c j u a⟩
theorem PZ.set{w:World}{g:Nat}{o:Option Addr}{ps:List Int}(a:PZ w g o ps){U x:Nat}{v:Value}(e:U≠g):PZ (w.setCell ⟨U,x,none⟩ v) g o ps:=by
 rcases a with a|⟨c,d,f⟩
 ·exact .inl a
 ·refine .inr ⟨c,by simpa[World.setCell]using d,fun j u h=> ?_⟩
  rw[<-f j u h];show World.cell? _ _=World.cell? _ _
  unfold World.cell?;simp only;rw[aX w U x g v (fun b=>e b.symm)]
theorem Kf(n:ar)(w:World):
 Calls prog 129 #[.agg #[.int .i64 n.op,.string ⟨n.sym.toArray⟩,.int .i64 n.a,.int .i64 n.b]] w fun q w'=>∃g o,w.heap.size<=g/\q=.returned (.slice o (jt n).length (jt n).length)/\PZ w' g o (jt n)/\Below w.heap.size w w':=by
 obtain⟨d,sym,a,b⟩:=n;have l:Below w.heap.size w (w.alloc (.cells #[.int .i64 d,.string ⟨sym.toArray⟩,.int .i64 a,.int .i64 b] 139)):=az;have p:∀(w1:World) (H:Nat),w1.heap.size=H->Below w.heap.size w w1->w.heap.size<=H/\PZ (w1.alloc (.cells #[.int .i64 a,.int .i64 b] 3)) H (some ⟨H,0,none⟩) [a,b]/\Below w.heap.size w (w1.alloc (.cells #[.int .i64 a,.int .i64 b] 3)):=by
  rintro w1 _ rfl e;refine⟨e.size,.inr ⟨rfl,ak,fun j u c=> ?_⟩,e.alloc e.size _⟩;have:=aZ _ w1.heap.size j _ _ _ (aC w1 (.cells #[.int .i64 a,.int .i64 b] 3));rw[this];match j,c with
  |0,c=>simp at c;subst c;rfl
  |1,c=>simp at c;subst c;rfl
  |j+2,c=>simp at c
 have one:∀(w1:World) (H:Nat),w1.heap.size=H->Below w.heap.size w w1->w.heap.size<=H/\PZ (w1.alloc (.cells #[.int .i64 a] 3)) H (some ⟨H,0,none⟩) [a]/\Below w.heap.size w (w1.alloc (.cells #[.int .i64 a] 3)):=by
  rintro w1 _ rfl e;refine⟨e.size,.inr ⟨rfl,ak,fun j u c=> ?_⟩,e.alloc e.size _⟩;have:=aZ _ w1.heap.size j _ _ _ (aC w1 (.cells #[.int .i64 a] 3));rw[this];match j,c with
  |0,c=>simp at c;subst c;rfl
  |j+1,c=>simp at c
 obtain⟨m,One⟩:=aE p one;clear p one;unfold jt;simp only;rcases(ad:d=3∨d=4∨d=5∨(d≠3/\d≠4/\d≠5))with rfl|rfl|rfl|⟨r,s,t⟩
 ·go_enter zN,zO
  go_wp2
  go_ret;obtain⟨f,h,i⟩:=m.out _ (w.heap.size+1) ak l;exact⟨_,f,_,rfl,h,i⟩
 ·go_enter zN,zO
  go_wp2
  go_ret;obtain⟨f,h,i⟩:=m.out _ (w.heap.size+1) ak l;exact⟨_,f,_,rfl,h,i⟩
 ·go_enter zN,zO
  go_wp2
  go_ret;obtain⟨f,h,i⟩:=One.out _ (w.heap.size+1) ak l;exact⟨_,f,_,rfl,h,i⟩
 ·have v:(d==3)=false:=by rw[cW];exact r
  have x:(d==4)=false:=by rw[cW];exact s
  have y:(d==5)=false:=by rw[cW];exact t
  rw[ap ad,ap ad];go_enter zN,zO
  go_wp2
  go_ret;refine⟨w.heap.size,none,aB _,rfl,.inl ⟨rfl,rfl⟩,l⟩
theorem qf(l:Bytes)(w:World)(b:l.length<=1048576):Calls prog 33 #[.string ⟨l.toArray⟩] w fun a w'=>a=.returned (.bool (a8 l))/\w=w':=by have:=Kd ⟨l.toArray⟩ w (by rw[dy];show l.length<=_;omega);simpa using this
structure iy(U:Nat)(us:List Nat)(w0 w:World):Prop where
 uses:oB w U us
 below:Below w0.heap.size w0 w
 U0:w0.heap.size<=U
theorem iy.lt{U:Nat}{b:List Nat}{w0 w:World}(a:iy U b w0 w):U<w.heap.size:=aN a.uses
theorem iy.grow{U:Nat}{c:List Nat}{w0 w w':World}(a:iy U c w0 w)(b:Below w.heap.size w w'):iy U c w0 w':=⟨(b.block U a.lt).trans a.uses,a.below.trans (b.mono a.below.size),a.U0⟩
theorem iy.bump{U:Nat}{b:List Nat}{w0 w:World}(a:iy U b w0 w){x:Nat}(c:x<b.length):iy U (bump b x) w0 (w.setCell ⟨U,x,none⟩ (.int .i64 ((b.getD x 0:Nat)+1:Int))):=⟨a.uses.bump c,a.below.setCell a.U0 _,a.U0⟩
theorem iy.cell{U:Nat}{a:List Nat}{w0 w:World}(b:iy U a w0 w){x:Nat}(d:x<a.length):w.cell? ⟨U,x,none⟩=some (.int .i64 ((a.getD x 0:Nat):Int))/\w.frozen? ⟨U,x,none⟩=false:=by have c:w.heap[U]?=_:=b.uses;refine⟨?_,by simp[World.frozen?,c]⟩;rw[aZ w U x _ _ _ b.uses];simp[fJ,aF d]
theorem uj{l:List ar}(b:¬1024<l.length)(a:gi l=false):cw l=12:=by unfold cw;rw[ap b,au a]
theorem Kg{l:List ar}(b:¬1024<l.length)(a:gi l=true):cw l=if l.any (fun n=>decide (n.op=2)&& !a8 n.sym)=true then 11 else 0:=by unfold cw;rw[ap b,ap (by rw[a];simp)]
theorem Kh{l:List ar}{j:Nat}(b:j<l.length-1)(a:cY l j≠1):gi l=false:=by unfold gi;rw[ma];refine .inl ?_;rw[ma];refine .inr ?_;rw[zb];exact⟨j,l6.2 b,by simpa using a⟩
theorem Ki{l:List ar}(d:l≠[])(a:dW 0 l=true)(c:∀j,j<l.length-1->cY l j=1):gi l=true:=by unfold gi;rw[a,qI,dg];refine⟨?_,by cases l<;>simp_all⟩;rw[kM];intro j b;rw[c j (l6.1 b)];rfl
theorem Kj(l:List ar)(o:Option Addr)(cap:Nat)(w:World)(c6:di w o cap l)(R:∀n∈l,n.sym.length<=1048576):
 Calls prog 75 #[.slice o l.length cap] w fun K w'=>K=.returned (.int .i64 (cw l))/\Below w.heap.size w w':=by
 obtain⟨V,cc⟩:=aj (cw l);rw[<-cc];have bd:=ah cc;clear cc;have d7:=ah R;clear R;by_cases be:1024<l.length
 ·have ed:decide ((l.length:Int)>1024)=true:=aM
  have O:V=17:=by rw[bd.o];unfold cw;rw[au be]
  have e:=ah O;clear O;go_enter func75,ntmps75
  go_wp2
  go_ret;exact⟨bT e.o.symm,aA _ _⟩
 have ed:decide ((l.length:Int)>1024)=false:=aJ;by_cases b7:l.length=0
 ·have eg:((l.length:Int)==0)=true:=mq
  have O:V=12:=by rw[bd.o];refine uj be ?_;obtain rfl:=pK b7;rfl
  have e:=ah O;clear O;go_enter func75,ntmps75
  go_wp2
  go_ret;exact⟨bT e.o.symm,aA _ _⟩
 have eg:((l.length:Int)==0)=false:=dX;obtain⟨e2,er,eZ,e0,e1⟩:=cL lu;have dz:=Ap l.length;have c4:=ah dz;clear dz;have c7:iy w.heap.size (List.replicate l.length 0) w (w.alloc (.cells ((List.replicate l.length 0).map fun u=>Value.int .i64 ((u:Nat):Int)).toArray 3)):=
  ⟨aC w _,az,aB _⟩
 have du:∀j,(List.replicate l.length 0).getD j 0=cY (l.take 0) j:=by
  intro j;have:cY (l.take 0) j=0:=by simp[cY]
  rw[this,fJ,ze];split<;>rfl
 obtain⟨c3,d6⟩:=aE du Kf;clear du;go_enter func75,ntmps75
 go_wp2_with(first
  |(at_make;go_must (refine wpList_make_row _ rfl _ _ _ rfl 3 e2 (.int .i64 0) ke er eZ e0 rfl _ _ l.length rfl rfl (by rw[e1];omega) ad ?_)))
 rw[c4.o];clear c4;go_loopw [4] (fun i wr=>∃(k:Nat) (s:List Nat),i=.int .i64 k/\k<=l.length/\s.length=l.length/\iy w.heap.size s w wr/\Hid (dW 0 (l.take k)=true/\∀j,s.getD j 0=cY (l.take k) j)) (fun i _=>l.length-(intOf i).toNat)
 case atStart=>exact⟨0,List.replicate l.length 0,rfl,aK _,Fe,c7,rfl,c3.o⟩
 case round=>
  obtain⟨k,s,rfl,e9,ao,bl,bg⟩:=hrel;obtain⟨bF,eN⟩:=aj (wr);subst eN;clear c7 c3;by_cases ex:k<l.length
  ·have em:decide ((k:Int)<l.length)=true:=aM
   have fc:(k:Int)<l.length:=ad;have fb:(0:Int)<=k:=ad;obtain⟨n,d⟩:∃n,l[k]?=some n:=⟨_,aF ex⟩;obtain⟨b,e3,rfl,eb,bb,bc,aq,av⟩:=(c6.below (bl.below)).at d;have d1:∀j,s.getD j 0<=2048:=fun j=>by rw[bg.o.2];have:=Ao (l.take k) j;rw[dx]at this;omega
   have bt:=ah d1;clear d1;have co:qd n=false->V=12:=fun ci=>by rw[bd.o];exact uj be (vR d (by rw[xt,ci];rfl))
   have cp:∀x∈jt n,bM k x=false->V=12:=fun x p ez=>by rw[bd.o];refine uj be (vR d ?_);rw[xt,ma];exact .inr (zb.2 ⟨x,p,by rw[ez];simp⟩)
   have bE:∀c:List Nat,qd n=true->(∀x∈jt n,bM k x=true)->(∀j,c.getD j 0=s.getD j 0+((jt n).map Int.toNat).count j)->dW 0 (l.take (k+1))=true/\∀j,c.getD j 0=cY (l.take (k+1)) j:=by intro c ci eD ec;refine⟨by rw[vQ d,bg.o.1,xt,ci,kM.2 eD];rfl,fun j=> ?_⟩;rw[ec,qY d,bg.o.2,Ke]
   have d0:=fun w1=>d6.o n w1;have eB:(jt n).length<=2:=by unfold jt;split<;>(try split)<;>simp
   obtain⟨ps,cq⟩:=aj (jt n);rw[<-cq]at cp bE eB;have ae:∀w1,Calls prog 129 #[.agg #[.int .i64 n.op,.string ⟨n.sym.toArray⟩,.int .i64 n.a,.int .i64 n.b]] w1 fun K w'=>∃g o,w1.heap.size<=g/\K=.returned (.slice o ps.length ps.length)/\PZ w' g o ps/\Below w1.heap.size w1 w':=by rw[cq];exact d0
   have bz:qd n= !(decide (n.op<0)||decide (n.op>5)||(n.op !=2&& !n.sym.isEmpty)||(decide (n.op<3)&&(n.a !=0||n.b !=0))||(n.op==5&&n.b !=0)):=rfl;obtain⟨q,sym,a,W⟩:=n;simp only at bb bc aq av ae bz;generalize qd ⟨q,sym,a,W⟩=bm at co bE bz;obtain⟨L,ag,bu,H⟩:=cI co cp bE bz;clear d0 cq d co cp bE bz;have Y:Below bF.heap.size bF (bF.alloc (.cells #[.int .i64 q,.string ⟨sym.toArray⟩,.int .i64 a,.int .i64 W] 139)):=az;have X:=bl.grow Y;have e5:=bl.lt;have en:bm=false->V=12:=L.o;have I:=X.below;clear en;by_cases b0:q<0
   ·have b4:decide (q<0)=true:=by rw[ct];exact b0
    have e:=ah (L.o (by rw[H.o];simp[b0]))
    go_wp2
    go_ret;exact⟨bT e.o.symm,I⟩
   have b4:decide (q<0)=false:=by rw[cF];exact b0
   by_cases b1:q>5
   ·have b5:decide (q>5)=true:=by rw[ct];exact b1
    have e:=ah (L.o (by rw[H.o];simp[b1]))
    go_wp2
    go_ret;exact⟨bT e.o.symm,I⟩
   have b5:decide (q>5)=false:=by rw[cF];exact b1
   rcases(ad:q=2∨(q≠2/\q<3)∨(q≠2/\¬q<3/\q≠5)∨q=5)with rfl|⟨b2,b3⟩|⟨b2,b3,d8⟩|rfl
   ·rcases fK (a=0)with a7|a7
    ·subst a7
     rcases fK (W=0)with P|P
     ·subst P
      have a2:=ah (show bm=true by rw[H.o];rfl);go_wp2_with fail
      refine(ae _).mono ?_;rintro K cG ⟨g,ba,ch,rfl,N,Q⟩;have M:=X.grow Q;have a9:w.heap.size≠g:=by have:=Y.size;omega
      clear ae bb bc aq av Q I X Y
      go_wp2
      go_loopw [7] (fun v T=>∃(j:Nat) (c:List Nat),v=.int .i64 j/\j<=ps.length/\c.length=l.length/\iy w.heap.size c w T/\PZ T g ba ps/\Hid ((∀m,c.getD m 0=s.getD m 0+((ps.take j).map Int.toNat).count m)/\∀x∈ps.take j,bM k x=true)) (fun v _=>ps.length-(intOf v).toNat)
      case atStart=>exact⟨0,s,rfl,aK _,ao,M,N,fun m=>ak,fun x d=>by simp at d⟩
      case round=>
       obtain⟨j,c,rfl,bo,E,t,B,h⟩:=hrel;clear M N;by_cases ab:j<ps.length
       ·have Z:decide ((j:Int)<ps.length)=true:=aM
        have bB:(j:Int)<ps.length:=ad;have bA:(0:Int)<=j:=ad;obtain⟨x,d⟩:∃x,ps[j]?=some x:=⟨_,aF ab⟩;obtain⟨rfl,cN⟩:=B.at d;have p:=aU d;have C:=t.below;by_cases F:x<0
        ·have a4:decide (x<0)=true:=by rw[ct];exact F
         have e:=ah (ag.o x p (by unfold bM;rw[ma,cF];exact .inl ad));clear d p
         go_wp2
         go_ret;exact⟨bT e.o.symm,C⟩
        have a4:decide (x<0)=false:=by rw[cF];exact F
        by_cases G:x>=(k:Int)
        ·have al:decide (x>=(k:Int))=true:=by rw[ct];exact G
         have e:=ah (ag.o x p (by unfold bM;rw[ma,cF,cF];exact .inr ad));clear d p
         go_wp2
         go_ret;exact⟨bT e.o.symm,C⟩
        have al:decide (x>=(k:Int))=false:=by rw[cF];exact G
        obtain⟨y,rfl⟩:∃y:Nat,x=y:=⟨x.toNat,ad⟩;have z:y<c.length:=ad;obtain⟨af,c0⟩:=t.cell z;have D:=t.bump z;have a5:(0:Int)<=y:=ad;have cs:y<k:=ad;have an:(y:Int)<l.length:=ad;have A:c.getD y 0<=4096:=by have b8:=h.o.1 y;have a6:=bt.o y;have b9:((ps.take j).map Int.toNat).count y<=2:=aR vw (by rw[cd,dx];omega);omega
        have r:Hid ((∀m,(bump c y).getD m 0=s.getD m 0+((ps.take (j+1)).map Int.toNat).count m)/\∀x∈ps.take (j+1),bM k x=true):=by
         rw[bG,d];refine⟨fun m=> ?_,fun x f=> ?_⟩
         ·rw[mj z,h.o.1 m,fd,pF]
          simp[fI]
         ·rcases fe.1 f with f|f
          ·exact h.o.2 x f
          ·simp at f;subst f;unfold bM;simp;omega
        generalize c.getD y 0=S at af A D;have cu:(0:Int)<=S:=ad;have cx:(S:Int)<=4096:=ad;clear A;obtain⟨a1,a0⟩:=aE D B;have a3:=ah E;clear d p D B C F G ao E z
        go_wp2
        go_roundw
        case rel=>exact⟨j+1,bump c y,aG,ad,by rw[gK];exact a3.o,a1.o,a0.o.set a9,r.o⟩
        case measure=>exact aH
       ·have Z:decide ((j:Int)<ps.length)=false:=aJ
        have r:=ah (bu.o c a2.o (by have:=h.o.2;rwa[bx ad]at this) (by have:=h.o.1;rwa[bx ad]at this))
        go_wp2
        go_roundw
        case rel=>exact⟨k+1,c,aG,ad,E,t,r.o⟩
        case measure=>exact aH
     ·have bi:(W !=0)=true:=by rw[iJ];exact P
      have e:=ah (L.o (by rw[H.o];simp[bi]))
      go_wp2
      go_ret;exact⟨bT e.o.symm,I⟩
    ·have bZ:(a !=0)=true:=by rw[iJ];exact a7
     have e:=ah (L.o (by rw[H.o];simp[bZ]))
     go_wp2
     go_ret;exact⟨bT e.o.symm,I⟩
   ·have a5:(q !=2)=true:=by rw[iJ];exact b2
    have an:decide (q<3)=true:=by rw[ct];exact b3
    have b6:(q==5)=false:=dX;rcases fK (sym=[])with R|R
    ·subst R
     rcases fK (a=0)with a7|a7
     ·subst a7
      rcases fK (W=0)with P|P
      ·subst P
       have a2:=ah (show bm=true by rw[H.o,b4,b5,b6];simp);go_wp2_with fail
       refine(ae _).mono ?_;rintro K cG ⟨g,ba,ch,rfl,N,Q⟩;have M:=X.grow Q;have a9:w.heap.size≠g:=by have:=Y.size;omega
       clear ae bb bc aq av Q I X Y
       go_wp2
       go_loopw [7] (fun v T=>∃(j:Nat) (c:List Nat),v=.int .i64 j/\j<=ps.length/\c.length=l.length/\iy w.heap.size c w T/\PZ T g ba ps/\Hid ((∀m,c.getD m 0=s.getD m 0+((ps.take j).map Int.toNat).count m)/\∀x∈ps.take j,bM k x=true)) (fun v _=>ps.length-(intOf v).toNat)
       case atStart=>exact⟨0,s,rfl,aK _,ao,M,N,fun m=>ak,fun x d=>by simp at d⟩
       case round=>
        obtain⟨j,c,rfl,bo,E,t,B,h⟩:=hrel;clear M N;by_cases ab:j<ps.length
        ·have Z:decide ((j:Int)<ps.length)=true:=aM
         have bB:(j:Int)<ps.length:=ad;have bA:(0:Int)<=j:=ad;obtain⟨x,d⟩:∃x,ps[j]?=some x:=⟨_,aF ab⟩;obtain⟨rfl,cN⟩:=B.at d;have p:=aU d;have C:=t.below;by_cases F:x<0
         ·have a4:decide (x<0)=true:=by rw[ct];exact F
          have e:=ah (ag.o x p (by unfold bM;rw[ma,cF];exact .inl ad));clear d p
          go_wp2
          go_ret;exact⟨bT e.o.symm,C⟩
         have a4:decide (x<0)=false:=by rw[cF];exact F
         by_cases G:x>=(k:Int)
         ·have al:decide (x>=(k:Int))=true:=by rw[ct];exact G
          have e:=ah (ag.o x p (by unfold bM;rw[ma,cF,cF];exact .inr ad));clear d p
          go_wp2
          go_ret;exact⟨bT e.o.symm,C⟩
         have al:decide (x>=(k:Int))=false:=by rw[cF];exact G
         obtain⟨y,rfl⟩:∃y:Nat,x=y:=⟨x.toNat,ad⟩;have z:y<c.length:=ad;obtain⟨af,c0⟩:=t.cell z;have D:=t.bump z;have a5:(0:Int)<=y:=ad;have cs:y<k:=ad;have an:(y:Int)<l.length:=ad;have A:c.getD y 0<=4096:=by have b8:=h.o.1 y;have a6:=bt.o y;have b9:((ps.take j).map Int.toNat).count y<=2:=aR vw (by rw[cd,dx];omega);omega
         have r:Hid ((∀m,(bump c y).getD m 0=s.getD m 0+((ps.take (j+1)).map Int.toNat).count m)/\∀x∈ps.take (j+1),bM k x=true):=by
          rw[bG,d];refine⟨fun m=> ?_,fun x f=> ?_⟩
          ·rw[mj z,h.o.1 m,fd,pF]
           simp[fI]
          ·rcases fe.1 f with f|f
           ·exact h.o.2 x f
           ·simp at f;subst f;unfold bM;simp;omega
         generalize c.getD y 0=S at af A D;have cu:(0:Int)<=S:=ad;have cx:(S:Int)<=4096:=ad;clear A;obtain⟨a1,a0⟩:=aE D B;have a3:=ah E;clear d p D B C F G ao E z
         go_wp2
         go_roundw
         case rel=>exact⟨j+1,bump c y,aG,ad,by rw[gK];exact a3.o,a1.o,a0.o.set a9,r.o⟩
         case measure=>exact aH
        ·have Z:decide ((j:Int)<ps.length)=false:=aJ
         have r:=ah (bu.o c a2.o (by have:=h.o.2;rwa[bx ad]at this) (by have:=h.o.1;rwa[bx ad]at this))
         go_wp2
         go_roundw
         case rel=>exact⟨k+1,c,aG,ad,E,t,r.o⟩
         case measure=>exact aH
      ·have bi:(W !=0)=true:=by rw[iJ];exact P
       have e:=ah (L.o (by rw[H.o];simp[bi,an]))
       go_wp2
       go_ret;exact⟨bT e.o.symm,I⟩
     ·have bZ:(a !=0)=true:=by rw[iJ];exact a7
      have e:=ah (L.o (by rw[H.o];simp[bZ,an]))
      go_wp2
      go_ret;exact⟨bT e.o.symm,I⟩
    ·have aa:sym.isEmpty=false:=by cases sym<;>simp_all
     have e:=ah (L.o (by rw[H.o];simp[aa,a5]))
     go_wp2
     go_ret;exact⟨bT e.o.symm,I⟩
   ·have a5:(q !=2)=true:=by rw[iJ];exact b2
    have an:decide (q<3)=false:=by rw[cF];exact b3
    have b6:(q==5)=false:=by rw[cW];exact d8
    rcases fK (sym=[])with R|R
    ·subst R
     have a2:=ah (show bm=true by rw[H.o,b4,b5,an,b6];simp);go_wp2_with fail
     refine(ae _).mono ?_;rintro K cG ⟨g,ba,ch,rfl,N,Q⟩;have M:=X.grow Q;have a9:w.heap.size≠g:=by have:=Y.size;omega
     clear ae bb bc aq av Q I X Y
     go_wp2
     go_loopw [7] (fun v T=>∃(j:Nat) (c:List Nat),v=.int .i64 j/\j<=ps.length/\c.length=l.length/\iy w.heap.size c w T/\PZ T g ba ps/\Hid ((∀m,c.getD m 0=s.getD m 0+((ps.take j).map Int.toNat).count m)/\∀x∈ps.take j,bM k x=true)) (fun v _=>ps.length-(intOf v).toNat)
     case atStart=>exact⟨0,s,rfl,aK _,ao,M,N,fun m=>ak,fun x d=>by simp at d⟩
     case round=>
      obtain⟨j,c,rfl,bo,E,t,B,h⟩:=hrel;clear M N;by_cases ab:j<ps.length
      ·have Z:decide ((j:Int)<ps.length)=true:=aM
       have bB:(j:Int)<ps.length:=ad;have bA:(0:Int)<=j:=ad;obtain⟨x,d⟩:∃x,ps[j]?=some x:=⟨_,aF ab⟩;obtain⟨rfl,cN⟩:=B.at d;have p:=aU d;have C:=t.below;by_cases F:x<0
       ·have a4:decide (x<0)=true:=by rw[ct];exact F
        have e:=ah (ag.o x p (by unfold bM;rw[ma,cF];exact .inl ad));clear d p
        go_wp2
        go_ret;exact⟨bT e.o.symm,C⟩
       have a4:decide (x<0)=false:=by rw[cF];exact F
       by_cases G:x>=(k:Int)
       ·have al:decide (x>=(k:Int))=true:=by rw[ct];exact G
        have e:=ah (ag.o x p (by unfold bM;rw[ma,cF,cF];exact .inr ad));clear d p
        go_wp2
        go_ret;exact⟨bT e.o.symm,C⟩
       have al:decide (x>=(k:Int))=false:=by rw[cF];exact G
       obtain⟨y,rfl⟩:∃y:Nat,x=y:=⟨x.toNat,ad⟩;have z:y<c.length:=ad;obtain⟨af,c0⟩:=t.cell z;have D:=t.bump z;have a5:(0:Int)<=y:=ad;have cs:y<k:=ad;have an:(y:Int)<l.length:=ad;have A:c.getD y 0<=4096:=by have b8:=h.o.1 y;have a6:=bt.o y;have b9:((ps.take j).map Int.toNat).count y<=2:=aR vw (by rw[cd,dx];omega);omega
       have r:Hid ((∀m,(bump c y).getD m 0=s.getD m 0+((ps.take (j+1)).map Int.toNat).count m)/\∀x∈ps.take (j+1),bM k x=true):=by
        rw[bG,d];refine⟨fun m=> ?_,fun x f=> ?_⟩
        ·rw[mj z,h.o.1 m,fd,pF]
         simp[fI]
        ·rcases fe.1 f with f|f
         ·exact h.o.2 x f
         ·simp at f;subst f;unfold bM;simp;omega
       generalize c.getD y 0=S at af A D;have cu:(0:Int)<=S:=ad;have cx:(S:Int)<=4096:=ad;clear A;obtain⟨a1,a0⟩:=aE D B;have a3:=ah E;clear d p D B C F G ao E z
       go_wp2
       go_roundw
       case rel=>exact⟨j+1,bump c y,aG,ad,by rw[gK];exact a3.o,a1.o,a0.o.set a9,r.o⟩
       case measure=>exact aH
      ·have Z:decide ((j:Int)<ps.length)=false:=aJ
       have r:=ah (bu.o c a2.o (by have:=h.o.2;rwa[bx ad]at this) (by have:=h.o.1;rwa[bx ad]at this))
       go_wp2
       go_roundw
       case rel=>exact⟨k+1,c,aG,ad,E,t,r.o⟩
       case measure=>exact aH
    ·have aa:sym.isEmpty=false:=by cases sym<;>simp_all
     have e:=ah (L.o (by rw[H.o];simp[aa,a5]))
     go_wp2
     go_ret;exact⟨bT e.o.symm,I⟩
   ·rcases fK (sym=[])with R|R
    ·subst R
     rcases fK (W=0)with P|P
     ·subst P
      have a2:=ah (show bm=true by rw[H.o];rfl);go_wp2_with fail
      refine(ae _).mono ?_;rintro K cG ⟨g,ba,ch,rfl,N,Q⟩;have M:=X.grow Q;have a9:w.heap.size≠g:=by have:=Y.size;omega
      clear ae bb bc aq av Q I X Y
      go_wp2
      go_loopw [7] (fun v T=>∃(j:Nat) (c:List Nat),v=.int .i64 j/\j<=ps.length/\c.length=l.length/\iy w.heap.size c w T/\PZ T g ba ps/\Hid ((∀m,c.getD m 0=s.getD m 0+((ps.take j).map Int.toNat).count m)/\∀x∈ps.take j,bM k x=true)) (fun v _=>ps.length-(intOf v).toNat)
      case atStart=>exact⟨0,s,rfl,aK _,ao,M,N,fun m=>ak,fun x d=>by simp at d⟩
      case round=>
       obtain⟨j,c,rfl,bo,E,t,B,h⟩:=hrel;clear M N;by_cases ab:j<ps.length
       ·have Z:decide ((j:Int)<ps.length)=true:=aM
        have bB:(j:Int)<ps.length:=ad;have bA:(0:Int)<=j:=ad;obtain⟨x,d⟩:∃x,ps[j]?=some x:=⟨_,aF ab⟩;obtain⟨rfl,cN⟩:=B.at d;have p:=aU d;have C:=t.below;by_cases F:x<0
        ·have a4:decide (x<0)=true:=by rw[ct];exact F
         have e:=ah (ag.o x p (by unfold bM;rw[ma,cF];exact .inl ad));clear d p
         go_wp2
         go_ret;exact⟨bT e.o.symm,C⟩
        have a4:decide (x<0)=false:=by rw[cF];exact F
        by_cases G:x>=(k:Int)
        ·have al:decide (x>=(k:Int))=true:=by rw[ct];exact G
         have e:=ah (ag.o x p (by unfold bM;rw[ma,cF,cF];exact .inr ad));clear d p
         go_wp2
         go_ret;exact⟨bT e.o.symm,C⟩
        have al:decide (x>=(k:Int))=false:=by rw[cF];exact G
        obtain⟨y,rfl⟩:∃y:Nat,x=y:=⟨x.toNat,ad⟩;have z:y<c.length:=ad;obtain⟨af,c0⟩:=t.cell z;have D:=t.bump z;have a5:(0:Int)<=y:=ad;have cs:y<k:=ad;have an:(y:Int)<l.length:=ad;have A:c.getD y 0<=4096:=by have b8:=h.o.1 y;have a6:=bt.o y;have b9:((ps.take j).map Int.toNat).count y<=2:=aR vw (by rw[cd,dx];omega);omega
        have r:Hid ((∀m,(bump c y).getD m 0=s.getD m 0+((ps.take (j+1)).map Int.toNat).count m)/\∀x∈ps.take (j+1),bM k x=true):=by
         rw[bG,d];refine⟨fun m=> ?_,fun x f=> ?_⟩
         ·rw[mj z,h.o.1 m,fd,pF]
          simp[fI]
         ·rcases fe.1 f with f|f
          ·exact h.o.2 x f
          ·simp at f;subst f;unfold bM;simp;omega
        generalize c.getD y 0=S at af A D;have cu:(0:Int)<=S:=ad;have cx:(S:Int)<=4096:=ad;clear A;obtain⟨a1,a0⟩:=aE D B;have a3:=ah E;clear d p D B C F G ao E z
        go_wp2
        go_roundw
        case rel=>exact⟨j+1,bump c y,aG,ad,by rw[gK];exact a3.o,a1.o,a0.o.set a9,r.o⟩
        case measure=>exact aH
       ·have Z:decide ((j:Int)<ps.length)=false:=aJ
        have r:=ah (bu.o c a2.o (by have:=h.o.2;rwa[bx ad]at this) (by have:=h.o.1;rwa[bx ad]at this))
        go_wp2
        go_roundw
        case rel=>exact⟨k+1,c,aG,ad,E,t,r.o⟩
        case measure=>exact aH
     ·have bi:(W !=0)=true:=by rw[iJ];exact P
      have e:=ah (L.o (by rw[H.o];simp[bi]))
      go_wp2
      go_ret;exact⟨bT e.o.symm,I⟩
    ·have aa:sym.isEmpty=false:=by cases sym<;>simp_all
     have e:=ah (L.o (by rw[H.o];simp[aa]))
     go_wp2
     go_ret;exact⟨bT e.o.symm,I⟩
  ·have em:decide ((k:Int)<l.length)=false:=aJ
   have c9:dW 0 l=true/\∀j,s.getD j 0=cY l j:=by have:=bg.o;rwa[bx ad]at this
   have dr:=fun j (bo:j<l.length)=>bl.cell (x:=j) ad;have bw:=bl.below;obtain⟨c2,d5⟩:=aE c9 dr;clear c9 dr bg
   go_wp2
   go_loop [8] (fun v=>∃j:Nat,v=.int .i64 j/\j<=l.length-1/\Hid (∀m,m<j->cY l m=1)) (fun v=>l.length-(intOf v).toNat)
   case atStart=>exact⟨0,rfl,aK _,fun m J=>absurd J ad⟩
   case round=>
    obtain⟨j,rfl,bo,h⟩:=hrel;by_cases ab:j<l.length-1
    ·have Z:decide ((j:Int)<l.length-1)=true:=aM
     have bB:(j:Int)<l.length:=ad;have bA:(0:Int)<=j:=ad;obtain⟨af,_⟩:=d5.o j ad;have A:=c2.o.2 j;generalize s.getD j 0=u at af A;by_cases bq:u=1
     ·have ea:(((u:Nat):Int) !=1)=false:=by rw[bq];rfl
      have r:Hid (∀m,m<j+1->cY l m=1):=fun m J=>by
       by_cases K:m=j
       ·subst K;rw[<-A,bq]
       ·exact h.o m ad
      clear A bq
      go_wp2
      go_round
      case rel=>exact⟨j+1,aG,ad,r.o⟩
      case measure=>exact aH
     ·have ea:(((u:Nat):Int) !=1)=true:=by rw[iJ];omega
      have O:V=12:=by rw[bd.o];exact uj be (Kh ab (by rw[<-A];exact bq))
      have e:=ah O;clear A bq O
      go_wp2
      go_ret;exact⟨bT e.o.symm,bw⟩
    ·have Z:decide ((j:Int)<l.length-1)=false:=aJ
     have ds:gi l=true:=Ki (by intro K;rw[K]at b7;exact b7 rfl) c2.o.1 (fun m J=>h.o m ad);have O:V=if l.any (fun n=>decide (n.op=2)&& !a8 n.sym)=true then 11 else 0:=by rw[bd.o];exact Kg be ds
     have e:=ah O;clear ds O
     go_wp2
     go_loop [9] (fun v=>∃i:Nat,v=.int .i64 i/\i<=l.length/\Hid (∀n∈l.take i,(decide (n.op=2)&& !a8 n.sym)=false)) (fun v=>l.length-(intOf v).toNat)
     case atStart=>exact⟨0,rfl,aK _,fun m J=>by simp at J⟩
     case round=>
      obtain⟨i,rfl,e7,c1⟩:=hrel;by_cases es:i<l.length
      ·have el:decide ((i:Int)<l.length)=true:=aM
       have e8:(i:Int)<l.length:=ad;have e6:(0:Int)<=i:=ad;obtain⟨n,d⟩:∃n,l[i]?=some n:=⟨_,aF es⟩;have eE:=d7.o n (aU d);obtain⟨b,e3,rfl,eb,bb,bc,aq,av⟩:=(c6.below bw).at d;have cl:(decide (n.op=2)&& !a8 n.sym)=false->∀m∈l.take (i+1),(decide (m.op=2)&& !a8 m.sym)=false:=fun aa m J=>by
        rw[bG,d]at J;rcases fe.1 J with J|J
        ·exact c1.o m J
        ·simp at J;subst J;exact aa
       have ce:(decide (n.op=2)&& !a8 n.sym)=true->V=11:=fun aa=>by rw[e.o,au];exact gt.2 ⟨n,aU d,aa⟩
       have im:=qf n.sym bF eE;obtain⟨q,sym,a,W⟩:=n;simp only at bb bc aq av im cl ce;obtain⟨c5,d4⟩:=aE cl ce;clear aq av d cl ce;by_cases a6:q=2
       ·subst a6
        cases bf:a8 sym with
        |true=>
         rw[bf]at im;have r:=ah (c5.o (by rw[bf];rfl));clear bf;go_wp2_with fail
         refine im.mono ?_;rintro K e4 ⟨rfl,rfl⟩;clear im
         go_wp2
         go_round
         case rel=>exact⟨i+1,aG,ad,r.o⟩
         case measure=>exact aH
        |false=>
         rw[bf]at im;have d2:=ah (d4.o (by rw[bf];rfl));clear bf;go_wp2_with fail
         refine im.mono ?_;rintro K e4 ⟨rfl,rfl⟩;clear im
         go_wp2
         go_ret;exact⟨bT d2.o.symm,bw⟩
       ·have al:(q==2)=false:=by rw[cW];exact a6
        have r:=ah (c5.o (by simp[a6]));clear im
        go_wp2
        go_round
        case rel=>exact⟨i+1,aG,ad,r.o⟩
        case measure=>exact aH
      ·have el:decide ((i:Int)<l.length)=false:=aJ
       have c8:V=0:=by rw[e.o,ap];rw[fR,lq];intro m J;have:=c1.o m (by rwa[bx ad]);rw[this];simp
       have d3:=ah c8;clear c8
       go_wp2
       go_ret;exact⟨bT d3.o.symm,bw⟩
theorem Kk:(prog.info? 139).map (fun i=>(i.zero,i.size,i.bytes))=some (some (.agg #[.int .i64 0,.string ⟨#[]⟩,.int .i64 0,.int .i64 0]),4,40):=ay
theorem Kl:(prog.info? 90).map (fun i=>(i.zero,i.size,i.bytes))=some (some mA,6,104):=ay
def qg(w:World)(B:Nat)(v:Value)(l:List ar):Prop:=w.ownsRow B 139 4 v l.length (l.flatMap nodeRow)
theorem Km{w:World}{B:Nat}{v:Value}{l:List ar}{n:ar}(a:w.ownsRow B 139 4 v (l.length+1) (l.flatMap nodeRow++nodeRow n)):qg w B v (l++[n]):=by unfold qg;rw[cm,pE];simpa using a
theorem Kn(l:List ar)(o:Option Addr)(cap:Nat)(w:World)(h:di w o cap l)(Y:l.length<=1048576):
 Calls prog 38 #[.agg #[.slice o l.length cap]] w fun e w'=>∃v,e=.returned v/\qg w' w.heap.size v l/\Below w.heap.size w w':=by
 obtain⟨L,D,I,J,K⟩:=cL Kk;have Z:=h.2.1;have B:=h.2.2.1;unfold maxLen at B;have s:Below w.heap.size w (w.alloc (.cells #[.slice o l.length cap] 65)):=az;have x:=aC w (.cells #[.slice o l.length cap] 65);have f:w.heap.size+1<=(w.alloc (.cells #[.slice o l.length cap] 65)).heap.size:=ak;go_enter func38,ntmps38
 go_wp2
 go_loopw [3,4] (fun v i wr=>∃k:Nat,i=.int .i64 k/\k<=l.length/\wr.heap[w.heap.size]?=some (.cells #[.slice o l.length cap] 65 (0,0))/\w.heap.size+1<=wr.heap.size/\qg wr (w.heap.size+1) v (l.take k)/\Below w.heap.size w wr) (fun _ i _=>l.length-(intOf i).toNat)
 case atStart=>exact⟨0,rfl,aK _,x,f,cR _ _ _ _,s⟩
 case round=>
  obtain⟨k,rfl,V,t,ab,c,d⟩:=hrel;clear x s f;have cs:=aZ wr w.heap.size 0 _ _ _ t;by_cases E:k<l.length
  ·have C:decide ((k:Int)<l.length)=true:=aM
   have X:(k:Int)<l.length:=ad;have W:(0:Int)<=k:=ad;obtain⟨n,q⟩:∃n,l[k]?=some n:=⟨_,aF E⟩;obtain⟨b,ae,rfl,S,O,P,Q,R⟩:=(h.below d).at q;have u:l.take (k+1)=l.take k++[n]:=by rw[bG,q];rfl
   have p:(l.take k).length=k:=by rw[dx];omega
   obtain⟨r,sym,a,g⟩:=n;simp only at O P Q R;unfold qg at c;rw[p]at c;obtain⟨N,M,rfl⟩:=cJ c;have G:=dA c (.cells #[.int .i64 r,.string ⟨sym.toArray⟩,.int .i64 a,.int .i64 g] 140);obtain⟨A,y⟩:=aE u p;clear u q p;go_wp2_with(first
    |(at_builtin;go_must (refine gY _ rfl _ _ 88 rfl (w.heap.size+1) 139 L (.agg #[.int .i64 0,.string ⟨#[]⟩,.int .i64 0,.int .i64 0]) 4 40 underlying88 D I J K rfl aw _ _ _ rfl (dA G _) ⟨wr.heap.size+1,0,none⟩ 1 1 [.int .i64 r,.string ⟨sym.toArray⟩,.int .i64 a,.int .i64 g] rfl rfl (dt _ [.int .i64 r,.string ⟨sym.toArray⟩,.int .i64 a,.int .i64 g] _ _ ak) (fun z f=>by simp at f;rcases f with rfl|rfl|rfl|rfl<;>rfl) bN ad aO ?_);intro af ag H m aa)
    |go_in)
   have F:∀j,j<w.heap.size+1->some j≠(Value.slice N k M).ownBlock:=fun j T e=>by have:=(bX c j e.symm).1;omega
   go_roundw
   case rel=>
    refine⟨k+1,aG,ad,?_,?_,?_,?_⟩
    ·rw[m.block w.heap.size aO (F _ ad),(pY wr _ _).block w.heap.size ad]
     exact t
    ·have:=m.size;simp at this;omega
    ·rw[A.o]
     refine Km ?_;rw[y.o];exact H
    ·exact((d.alloc d.size _).alloc (by have:=d.size;simp;omega) _).grown m (by have:=d.size;simp;omega) (fun j e=>by have:=(bX c j e).1;omega)
   case measure=>exact aH
  ·have C:decide ((k:Int)<l.length)=false:=aJ
   rw[bx ad]at c
   go_wp2
   go_ret;exact⟨_,rfl,jP c ad,d⟩
structure oY(l:List am)(o:Option Addr)(cap:Nat)(w:World)(k:Nat)(v:Value)(ys:List am)(wr:World):Prop where
 len:ys.length=k
 same:∀(i:Nat) (y:am),ys[i]?=some y->∃x:am,l[i]?=some x/\y.t=x.t/\y.ao=x.ao/\y.ac=x.ac
 row:wr.ownsRow (w.heap.size+1) 90 6 v ys.length (ys.flatMap typeRow)
 each:∀y:am,y∈ys->wr.ownsRow (w.heap.size+1) 139 4 (.slice y.no y.t.nodes.length y.nc) y.t.nodes.length (y.t.nodes.flatMap nodeRow)
 box:wr.heap[w.heap.size]?=some (.cells #[.slice o l.length cap] 24 (0,0))
 below:Below w.heap.size w wr
theorem oY.add{l:List am}{o:Option Addr}{cap:Nat}{w:World}{k:Nat}{v n:Value}{ys:List am}{wr w1 h:World}{x y:am}(b:oY l o cap w k v ys wr)(u:l[k]?=some x)(A:y.t=x.t/\y.ao=x.ao/\y.ac=x.ac)
 (d:Below wr.heap.size wr w1) (r:w1.ownsRow wr.heap.size 139 4 (.slice y.no y.t.nodes.length y.nc) y.t.nodes.length (y.t.nodes.flatMap nodeRow))
 (f:w1.grownBy h v.ownBlock) (q:h.ownsRow (w.heap.size+1) 90 6 n (ys.length+1) (ys.flatMap typeRow++typeRow y)):oY l o cap w (k+1) n (ys++[y]) h:=by
 have C:=aN b.box;have s:∀j,j<w.heap.size+1->some j≠v.ownBlock:=fun j D c=>by have:=(bX b.row j c.symm).1;omega
 have t:w1.ownsRow (w.heap.size+1) 90 6 v ys.length (ys.flatMap typeRow):=df (row:=none) b.row (oW d) (by cases c:v.ownBlock with|none=>exact .inl rfl|some g=>exact .inr (fun e=>by cases e));refine⟨by rw[cm,b.len];rfl,?_,by rw[cm,pE];simpa using q,?_,?_,?_⟩
 ·intro i z a
  by_cases c:i<ys.length
  ·rw[eF c]at a
   exact b.same i z a
  ·rw[gH ad]at a
   have e:i=k:=by have p:=(aP.1 a).1;have B:=b.len;rw[vJ]at p;omega
   subst e;rw[b.len,qE]at a;simp at a;subst a;exact⟨x,u,A⟩
 ·intro z a
  have m:w1.ownsRow (w.heap.size+1) 139 4 (.slice z.no z.t.nodes.length z.nc) z.t.nodes.length (z.t.nodes.flatMap nodeRow):=by
   rcases fe.1 a with a|a
   ·exact df (row:=none) (b.each z a) (oW d) (by cases c:(Value.slice z.no z.t.nodes.length z.nc).ownBlock with|none=>exact .inl rfl|some g=>exact .inr (fun e=>by cases e))
   ·simp at a;subst a
    exact jP r ad
  exact df m f (p6 m t aw)
 ·rw[f.block w.heap.size (by have:=d.size;omega) (s _ ad),d.block w.heap.size ad]
  exact b.box
 ·exact(b.below.trans (d.mono b.below.size)).grown f (by have:=d.size;have:=b.below.size;omega) (fun j c=>by have:=(bX b.row j c).1;omega)
theorem oY.done{l:List am}{o:Option Addr}{cap:Nat}{w wr:World}{g:Option Addr}{f:Nat}{ys:List am}(a:oY l o cap w l.length (.slice g l.length f) ys wr)(m:cn w o cap l):ys.length=l.length/\ys.map am.t=l.map am.t/\cn wr g f ys:=by
 refine⟨a.len,?_,?_,?_⟩
 ·refine List.ext_getElem? fun i=> ?_
  rw[cb,cb];cases d:ys[i]? with
  |some y=>
   obtain⟨x,c,b,_⟩:=a.same i y d;rw[c];simp[b]
  |none=>
   rw[List.getElem?_eq_none_iff]at d;rw[mV (by have:=a.len;omega)]
 ·have:=a.row
  rw[<-a.len]at this;exact mC this
 ·intro y e
  obtain⟨i,n⟩:=m0.1 e;obtain⟨x,c,b,h,j⟩:=a.same i y n;refine⟨?_,mC (a.each y e)⟩;have:=((m.below a.below).2 x (aU c)).1;rw[b,h,j];exact this
theorem Ca(l:List am)(o:Option Addr)(cap:Nat)(w:World)(H:cn w o cap l)(bi:ej l)(Z:∀x∈l,x.t.nodes.length<=1048576):
 Calls prog 15 #[.agg #[.slice o l.length cap]] w fun C w'=>∃ys o' V,C=.returned (.slice o' ys.length V)/\ys.map am.t=l.map am.t/\cn w' o' V ys/\Below w.heap.size w w':=by
 obtain⟨bE,bt,an,bA,bB⟩:=cL Kl;unfold mA at an;have b8:=bi.len;have bo:=H.1.2.2.1;unfold maxLen at bo;have ab:oY l o cap w 0 (.slice none 0 0) [] (w.alloc (.cells #[.slice o l.length cap] 24)):=
  ⟨rfl,fun i y Q=>by simp at Q,cR _ _ _ _,fun y Q=>by simp at Q,aC w _,az⟩
 have N:=fun bF o' be w' bg bu=>Kn bF o' be w' bg bu;unfold qg at N;obtain⟨a5,a4⟩:=aE N Z;clear N Z;go_enter func15,ntmps15
 go_wp2
 go_loopw [3,4] (fun v i wr=>∃(k:Nat) (ys:List am),i=.int .i64 k/\k<=l.length/\oY l o cap w k v ys wr) (fun _ i _=>l.length-(intOf i).toNat)
 case atStart=>exact⟨0,[],rfl,aK _,ab⟩
 case round=>
  obtain⟨k,ys,rfl,b5,a⟩:=hrel;clear ab;have cs:=aZ wr w.heap.size 0 _ _ _ a.box;by_cases bw:k<l.length
  ·have bq:decide ((k:Int)<l.length)=true:=aM
   have b7:(k:Int)<l.length:=ad;have b6:(0:Int)<=k:=ad;obtain⟨x,F⟩:∃n,l[k]?=some n:=⟨_,aF bw⟩;have P:=((H.below a.below).2 x (aU F)).2;have ag:=a4.o x (aU F);obtain⟨b,ce,rfl,b3,ao,aq,av,a0,a1,a2⟩:=(H.below a.below).at F;have a6:=ah F;obtain⟨⟨name,label,attrs,key,text,nodes⟩,e,ac,no,h⟩:=x;simp only at ao aq av a0 a1 a2 P ag;obtain⟨r,q,rfl⟩:=cJ a.row;obtain rfl:=a.len;have a3:=ah a;have O:=a.row;have b4:=a.below.size;clear F a;go_wp2_with fail
   obtain⟨d,E⟩:=aj (wr.alloc (.cells #[.string ⟨name.toArray⟩,.string ⟨label.toArray⟩,.slice e attrs.length ac,.string ⟨key.toArray⟩,.bool text,.slice no nodes.length h] 68));rw[<-E];have D:Below wr.heap.size wr d:=by rw[E];exact az
   have cc:wr.heap.size<d.heap.size:=by rw[E];simp
   have m:=dt wr [.string ⟨name.toArray⟩,.string ⟨label.toArray⟩,.slice e attrs.length ac,.string ⟨key.toArray⟩,.bool text,.slice no nodes.length h] 68 _ rfl;have L:∀w',Below d.heap.size d w'->w'.cell? ⟨wr.heap.size,0,none⟩=some (.string ⟨name.toArray⟩)/\w'.cell? ⟨wr.heap.size,1,none⟩=some (.string ⟨label.toArray⟩)/\w'.cell? ⟨wr.heap.size,2,none⟩=some (.slice e attrs.length ac)/\w'.cell? ⟨wr.heap.size,3,none⟩=some (.string ⟨key.toArray⟩)/\w'.cell? ⟨wr.heap.size,4,none⟩=some (.bool text)/\w'.cell? ⟨wr.heap.size,5,none⟩=some (.slice no nodes.length h):=by rw[E];intro w' c;have t:wr.heap.size<(wr.alloc (.cells #[.string ⟨name.toArray⟩,.string ⟨label.toArray⟩,.slice e attrs.length ac,.string ⟨key.toArray⟩,.bool text,.slice no nodes.length h] 68)).heap.size:=ak;exact⟨(c.cell (p:=⟨wr.heap.size,0,none⟩) t).trans (m 0 _ rfl),(c.cell (p:=⟨wr.heap.size,1,none⟩) t).trans (m 1 _ rfl),(c.cell (p:=⟨wr.heap.size,2,none⟩) t).trans (m 2 _ rfl),(c.cell (p:=⟨wr.heap.size,3,none⟩) t).trans (m 3 _ rfl),(c.cell (p:=⟨wr.heap.size,4,none⟩) t).trans (m 4 _ rfl),(c.cell (p:=⟨wr.heap.size,5,none⟩) t).trans (m 5 _ rfl)⟩
   have af:∀w',Below d.heap.size d w'->di w' no h nodes:=fun w' c=>P.below (aD D c);have ae:∀w',Below d.heap.size d w'->w'.ownsRow (w.heap.size+1) 90 6 (.slice r ys.length q) ys.length (ys.flatMap typeRow):=fun w' c=>df (row:=none) O (oW (aD D c)) (by cases C:(Value.slice r ys.length q).ownBlock with|none=>exact .inl rfl|some g=>exact .inr (fun bf=>by cases bf));have bl:=(aA d.heap.size d).drew;have W:∀u j:World,Below d.heap.size d u->u.grownBy j (Value.slice r ys.length q).ownBlock->j.cell? ⟨wr.heap.size,0,none⟩=some (.string ⟨name.toArray⟩)/\j.cell? ⟨wr.heap.size,1,none⟩=some (.string ⟨label.toArray⟩)/\j.cell? ⟨wr.heap.size,2,none⟩=some (.slice e attrs.length ac)/\j.cell? ⟨wr.heap.size,3,none⟩=some (.string ⟨key.toArray⟩)/\j.cell? ⟨wr.heap.size,4,none⟩=some (.bool text)/\j.cell? ⟨wr.heap.size,5,none⟩=some (.slice no nodes.length h):=by
    intro u j c s;have B:some wr.heap.size≠(Value.slice r ys.length q).ownBlock:=fun C=>by have:=(bX O _ C.symm).2;omega
    have A:wr.heap.size<u.heap.size:=by have:=c.size;omega
    obtain⟨a7,a9,ba,bb,bc,bd⟩:=L u c;exact⟨(s.cell_far ⟨wr.heap.size,0,none⟩ A B).trans a7,(s.cell_far ⟨wr.heap.size,1,none⟩ A B).trans a9,(s.cell_far ⟨wr.heap.size,2,none⟩ A B).trans ba,(s.cell_far ⟨wr.heap.size,3,none⟩ A B).trans bb,(s.cell_far ⟨wr.heap.size,4,none⟩ A B).trans bc,(s.cell_far ⟨wr.heap.size,5,none⟩ A B).trans bd⟩
   obtain⟨S,G,T,K⟩:=cI W L af ae;clear L af ae W m E P ao aq av a0 a1 a2 cs O;go_region_held3(fun w'=>w'.cell? ⟨wr.heap.size,0,none⟩=some (.string ⟨name.toArray⟩)/\w'.cell? ⟨wr.heap.size,1,none⟩=some (.string ⟨label.toArray⟩)/\w'.cell? ⟨wr.heap.size,2,none⟩=some (.slice e attrs.length ac)/\w'.cell? ⟨wr.heap.size,3,none⟩=some (.string ⟨key.toArray⟩)/\w'.cell? ⟨wr.heap.size,4,none⟩=some (.bool text)/\w'.cell? ⟨wr.heap.size,5,none⟩=some (.slice no nodes.length h))
    (first
      |exact G.o _ dQ
      |exact G.o _ (zP dQ (Below.size dQ) _)
      |exact G.o _ ((zP dQ (Below.size dQ) _).drew)
      |exact S.o _ _ (zP f f.size _) Y)
    (first
      |(go_at_call 38;refine(a5.o nodes no h _ (T.o _ dQ) ag).mono ?_;rintro C R ⟨ci,rfl,aa,bm⟩;have f:=aD (w0:=d) dQ bm;obtain⟨J,I,rfl⟩:=cJ aa)
      |((refine pO _ (by rfl) _ _ _ (by rfl) (w.heap.size+1) 90 bE _ 6 104 underlying44 bt an bA bB rfl ad (.slice r ys.length q) ys.length (ys.flatMap typeRow) (by rfl) (by(first|exact dA (K.o _ f) _|exact(dA (K.o _ f) _).drew)) ⟨R.heap.size,0,none⟩ 1 1 [.string ⟨name.toArray⟩,.string ⟨label.toArray⟩,.slice e attrs.length ac,.string ⟨key.toArray⟩,.bool text,.slice J nodes.length I] (by rfl) (by rfl) (by exact dt R [.string ⟨name.toArray⟩,.string ⟨label.toArray⟩,.slice e attrs.length ac,.string ⟨key.toArray⟩,.bool text,.slice J nodes.length I] _ _ rfl) (fun z al=>by simp at al;rcases al with rfl|rfl|rfl|rfl|rfl|rfl<;>rfl) ad bN ad (by have:=f.size;have:=D.size;simp;omega) _ rfl ?_;intro b1 gc w1 bz Y b2 b9)))
   clear G S T K bl
   go_wp2
   go_roundw
   case rel=>
    refine⟨ys.length+1,ys++[⟨⟨name,label,attrs,key,text,nodes⟩,e,ac,J,I⟩],aG,ad,?_⟩;have X:=aD D f;refine a3.o.add (w1:=R.alloc (.cells #[.string ⟨name.toArray⟩,.string ⟨label.toArray⟩,.slice e attrs.length ac,.string ⟨key.toArray⟩,.bool text,.slice J nodes.length I] 90)) a6.o ⟨rfl,rfl,rfl⟩ (X.alloc X.size _) ?_ Y bz;refine jP (dA aa _) ?_;have:=D.size;simp<;>omega
   case measure=>exact aH
  ·have bq:decide ((k:Int)<l.length)=false:=aJ
   obtain rfl:k=l.length:=ad;obtain⟨r,q,rfl⟩:=cJ a.row;have M:=a.len;rw[M]at a;obtain⟨ch,bZ,b0⟩:=a.done H;have f:=a.below;clear a;rw[M]
   go_wp2
   go_ret;exact⟨ys,r,q,by rw[M];rfl,bZ,b0,f⟩
def nM:Nat->List ax->Bytes->Int
 |_,[],_=> -1
 |i,t::ts,n=>if t.name=n then(i:Int)else nM (i+1) ts n
def ee(ts:List ax)(n:Bytes):Int:=nM 0 ts n
theorem Cb{l:List am}{k:Nat}{x:am}(b:l[k]?=some x):(l.map am.t).drop k=x.t::(l.map am.t).drop (k+1):=by obtain⟨c,a⟩:=aP.1 b;rw[mZ (by rw[cd];exact c)];simp[a]
theorem xu(l:List am)(o:Option Addr)(cap:Nat)(w:World)(j:cn w o cap l)(G:l.length<=1048576)(n:Bytes):
 Calls prog 49 #[.slice o l.length cap,.string ⟨n.toArray⟩] w fun p w'=>p=.returned (.int .i64 (ee (l.map am.t) n))/\w=w':=by
 obtain⟨m,e⟩:=aj (ee (l.map am.t) n);rw[<-e];unfold ee at e;have q:=j.1.2.2.1;unfold maxLen at q;have h:=ah e;clear e;go_enter func49,ntmps49
 go_wp2
 go_loop [5] (fun i=>∃k:Nat,i=.int .i64 k/\k<=l.length/\Hid (m=nM k ((l.map am.t).drop k) n)) (fun i=>l.length-(intOf i).toNat)
 case atStart=>exact⟨0,rfl,aK _,h.o⟩
 case round=>
  obtain⟨k,rfl,D,g⟩:=hrel;clear h;by_cases s:k<l.length
  ·have r:decide ((k:Int)<l.length)=true:=aM
   have F:(k:Int)<l.length:=ad;have E:(0:Int)<=k:=ad;obtain⟨x,f⟩:∃n,l[k]?=some n:=⟨_,aF s⟩;obtain⟨b,H,rfl,C,t,u,v,y,z,A⟩:=j.at f;have a:=g.o;rw[Cb f]at a;unfold nM at a;clear u v y z A f;by_cases c:x.t.name=n
   ·rw[au c]at a
    have d:=ah a;rw[c]at t;clear a c
    go_wp2
    go_ret;exact⟨bT d.o.symm,rfl⟩
   ·have B:(x.t.name==n)=false:=by simpa using c
    rw[ap c]at a;have d:=ah a;clear a c
    go_wp2
    go_round
    case rel=>exact⟨k+1,aG,ad,d.o⟩
    case measure=>exact aH
  ·have r:decide ((k:Int)<l.length)=false:=aJ
   have a:=g.o;rw[qJ (by rw[cd];omega)]at a;unfold nM at a;have d:=ah a;clear a
   go_wp2
   go_ret;exact⟨bT d.o.symm,rfl⟩
theorem Ko(a:List Bytes)(o:Option Addr)(cap:Nat)(w:World)(p:dk w o cap a)(B:a.length<=1048576)(n:Bytes):
 Calls prog 76 #[.slice o a.length cap,.string ⟨n.toArray⟩] w fun e w'=>e=.returned (.bool (a.contains n))/\w=w':=by
 obtain⟨m,f⟩:=aj (a.contains n);rw[<-f];have r:=p.2.2.1;unfold maxLen at r;have l:=ah f;clear f;go_enter func76,ntmps76
 go_wp2
 go_loop [5] (fun i=>∃k:Nat,i=.int .i64 k/\k<=a.length/\Hid (m=(a.drop k).contains n)) (fun i=>a.length-(intOf i).toNat)
 case atStart=>exact⟨0,rfl,aK _,l.o⟩
 case round=>
  obtain⟨k,rfl,y,j⟩:=hrel;clear l;by_cases t:k<a.length
  ·have s:decide ((k:Int)<a.length)=true:=aM
   have A:(k:Int)<a.length:=ad;have z:(0:Int)<=k:=ad;obtain⟨x,h⟩:∃n,a[k]?=some n:=⟨_,aF t⟩;obtain⟨g,C,rfl,v,D⟩:=p.at h;have b:=j.o;rw[BW h,Fh]at b;clear h;by_cases d:x=n
   ·subst d
    rw[Fv,Bool.true_or]at b;have c:=ah b;clear b
    go_wp2
    go_ret;exact⟨bC c.o.symm,rfl⟩
   ·have u:(x==n)=false:=by simpa using d
    have q:(n==x)=false:=by simpa using fun e:n=x=>d e.symm
    rw[q,mW]at b;have c:=ah b;clear b q d
    go_wp2
    go_round
    case rel=>exact⟨k+1,aG,ad,c.o⟩
    case measure=>exact aH
  ·have s:decide ((k:Int)<a.length)=false:=aJ
   have b:=j.o;rw[qJ ad]at b;have c:=ah (show m=false from b);clear b
   go_wp2
   go_ret;exact⟨bC c.o.symm,rfl⟩
theorem Kq{t:ax}(b:t.attrs.any (fun a=> !a8 a)=false):(!fS t)=(a8 t.name&&a8 t.label&&(t.key.isEmpty||a8 t.key)):=by unfold fS;rw[b];cases a8 t.name<;>cases a8 t.label<;>cases t.key.isEmpty<;>cases a8 t.key<;>rfl
theorem Kr(x:am)(w:World)(o:dk w x.ao x.ac x.t.attrs)(J:x.t.name.length<=1048576)(K:x.t.label.length<=1048576)(L:x.t.key.length<=1048576)(V:x.t.attrs.length<=1048576)(M:∀a∈x.t.attrs,a.length<=1048576):
 Calls prog 43 #[dj x] w fun d w'=>d=.returned (.bool (!fS x.t))/\Below w.heap.size w w':=by
 obtain⟨f,t⟩:=aj (!fS x.t);rw[<-t];have y:∀a∈x.t.attrs,a8 a=false->f=false:=fun a b aa=>by rw[t];unfold fS;have:x.t.attrs.any (fun a=> !a8 a)=true:=gt.2 ⟨a,b,by rw[aa];rfl⟩;rw[this];simp
 have z:x.t.attrs.any (fun a=> !a8 a)=false->f=(a8 x.t.name&&a8 x.t.label&&(x.t.key.isEmpty||a8 x.t.key)):=fun b=>by rw[t];exact Kq b
 have A:=fun w1=>qf x.t.name w1 J;have B:=fun w1=>qf x.t.label w1 K;have C:=fun w1=>qf x.t.key w1 L;have D:=fun a w1 (b:a∈x.t.attrs)=>qf a w1 (M a b);have O:=o.2.2.1;unfold maxLen at O;have Y:=o.2.1;obtain⟨⟨name,label,attrs,key,text,nodes⟩,I,ac,no,P⟩:=x;unfold dj typeRow;simp only at y z A B C D o J K L V O Y⊢;have h:Below w.heap.size w (w.alloc (.cells #[.string ⟨name.toArray⟩,.string ⟨label.toArray⟩,.slice I attrs.length ac,.string ⟨key.toArray⟩,.bool text,.slice no nodes.length P] 90)):=az;have s:=dt w [.string ⟨name.toArray⟩,.string ⟨label.toArray⟩,.slice I attrs.length ac,.string ⟨key.toArray⟩,.bool text,.slice no nodes.length P] 90 _ rfl;have al:=s 0 _ rfl;have an:=s 1 _ rfl;have ao:=s 2 _ rfl;have aq:=s 3 _ rfl;have ab:=o.below h;obtain⟨F,G,R,S,T,H⟩:=gR y z A B C D;clear t s y z A B C D M o;go_enter func43,ntmps43
 go_wp2
 go_loop [3] (fun i=>∃k:Nat,i=.int .i64 k/\k<=attrs.length/\Hid ((attrs.take k).any (fun a=> !a8 a)=false)) (fun i=>attrs.length-(intOf i).toNat)
 case atStart=>exact⟨0,rfl,aK _,rfl⟩
 case round=>
  obtain⟨k,rfl,a0,u⟩:=hrel;by_cases Z:k<attrs.length
  ·have W:decide ((k:Int)<attrs.length)=true:=aM
   have a1:(k:Int)<attrs.length:=ad;have v:(0:Int)<=k:=ad;obtain⟨a,p⟩:∃n,attrs[k]?=some n:=⟨_,aF Z⟩;obtain⟨g,a2,rfl,av,a3⟩:=ab.at p;have b:=aU p;have j:=fun w1=>H.out a w1 b;cases l:a8 a with
   |true=>
    have Q:Hid ((attrs.take (k+1)).any (fun a=> !a8 a)=false):=by
     show _=_
     rw[bG,p,iX,u.o];simp[l]
    rw[l]at j;clear p b l;go_wp2_with fail
    refine(j _).mono ?_;rintro d m ⟨rfl,rfl⟩;clear j
    go_wp2
    go_round
    case rel=>exact⟨k+1,aG,ad,Q.o⟩
    case measure=>exact aH
   |false=>
    have c:=ah (F.o a b l);rw[l]at j;clear p b l;go_wp2_with fail
    refine(j _).mono ?_;rintro d m ⟨rfl,rfl⟩;clear j
    go_wp2
    go_ret;exact⟨bC c.o.symm,h⟩
  ·have W:decide ((k:Int)<attrs.length)=false:=aJ
   have N:f=(a8 name&&a8 label&&(key.isEmpty||a8 key)):=G.o (by have:=u.o;rwa[bx ad]at this);have e:=ah N;have q:=R.out;have r:=S.out;have E:=T.out;clear N G F H u;generalize a8 name=ae at q e;generalize a8 label=af at r e;generalize a8 key=ag at E e;cases ae with
   |false=>
    have c:=ah (show f=false by rw[e.o];rfl);go_wp2_with fail
    refine(q _).mono ?_;rintro d m ⟨rfl,rfl⟩;clear q
    go_wp2
    go_ret;exact⟨bC c.o.symm,h⟩
   |true=>
    go_wp2_with fail
    refine(q _).mono ?_;rintro d m ⟨rfl,rfl⟩;clear q;cases af with
    |false=>
     have c:=ah (show f=false by rw[e.o];rfl);go_wp2_with fail
     refine(r _).mono ?_;rintro d m ⟨rfl,rfl⟩;clear r
     go_wp2
     go_ret;exact⟨bC c.o.symm,h⟩
    |true=>
     go_wp2_with fail
     refine(r _).mono ?_;rintro d m ⟨rfl,rfl⟩;clear r;rcases fK (key=[])with v|v
     ·subst v
      have c:=ah (show f=true by rw[e.o];rfl)
      go_wp2
      go_ret;exact⟨bC c.o.symm,h⟩
     ·have X:key.isEmpty=false:=by cases key<;>simp_all
      have c:=ah (show f=ag by rw[e.o,X];rfl);go_wp2_with fail
      refine(E _).mono ?_;rintro d m ⟨rfl,rfl⟩;clear E
      go_wp2
      go_ret;exact⟨bC c.o.symm,h⟩
def uk(l:List Int):List Value:=l.map (Value.int .i64)
def ul(w:World)(B:Nat)(v:Value)(l:List Int):Prop:=w.ownsRow B 3 1 v l.length (uk l)
def mD(w:World)(o:Option Addr)(cap:Nat)(l:List Int):Prop:=cS w o l.length cap 1 (uk l)
theorem mD.below{w w':World}{o:Option Addr}{cap:Nat}{l:List Int}(a:mD w o cap l)(b:Below w.heap.size w w'):mD w' o cap l:=cS.below a b
theorem mD.at{w:World}{o:Option Addr}{cap:Nat}{l:List Int}(d:mD w o cap l){k:Nat}{x:Int}(b:l[k]?=some x):
 ∃g a,o=some ⟨g,a,none⟩/\g<w.heap.size/\w.cell? ⟨g,a+k,none⟩=some (.int .i64 x):=by
 have h:=(aP.1 b).1;obtain⟨g,a,c,f,e⟩:=d.2.2.2 ad;exact⟨g,a,c,f,e k _ (by unfold uk;rw[cb,b];rfl)⟩
def ky(ts:List ax)(out:List Int)(n:ar):List Int:=if n.op=2 then(if out.contains (ee ts n.sym)then out else out++[ee ts n.sym])else out
def dU(ts:List ax)(l:List ar):List Int:=l.foldl (ky ts) []
theorem Ks{ts:List ax}{l:List ar}{k:Nat}{n:ar}(a:l[k]?=some n):dU ts (l.take (k+1))=ky ts (dU ts (l.take k)) n:=by unfold dU;rw[bG,a,dR,FA];rfl
theorem Kt(ts:List ax)(out:List Int)(n:ar):(ky ts out n).length<=out.length+1:=by
 unfold ky;split
 ·split<;>simp
 ·omega
theorem Cc(ts:List ax):∀(l:List ar) (out:List Int),(l.foldl (ky ts) out).length<=out.length+l.length:=by
 intro l;induction l with
 |nil=>intro out;simp
 |cons n t ih=>intro out;have:=ih (ky ts out n);have:=Kt ts out n;simp only[qN,de];omega
theorem Ku{out:List Int}{j:Nat}{z k:Int}(a:out[j]?=some z):(out.take (j+1)).contains k=((out.take j).contains k||(z==k)):=by
 rw[bG,a,dR,zQ,zQ,iX];simp only[pJ,List.any_nil,zg];congr 1
 rw[qe,qe];exact zM.2 ⟨Eq.symm,Eq.symm⟩
theorem xw(l:List am)(o:Option Addr)(cap:Nat)(w:World)(O:cn w o cap l)(ab:l.length<=1048576)(x:am)(C:di w x.no x.nc x.t.nodes)(ag:x.t.nodes.length<=1048576):
 Calls prog 45 #[.slice o l.length cap,dj x] w fun r w'=>∃m h,r=.returned (.slice m (dU (l.map am.t) x.t.nodes).length h)/\mD w' m h (dU (l.map am.t) x.t.nodes)/\Below w.heap.size w w':=by
 obtain⟨a2,Z,av,a0,a1⟩:=cL lu;have J:=fun n w' (V:Below w.heap.size w w')=>xu l o cap w' (O.below V) ab n;generalize l.map am.t=ts at J⊢;obtain⟨⟨name,label,attrs,key,text,nodes⟩,B,ac,no,E⟩:=x;unfold dj typeRow;simp only at C ag⊢;have af:=C.2.2.1;unfold maxLen at af;have bq:=C.2.1;have P:Below w.heap.size w (w.alloc (.cells #[.string ⟨name.toArray⟩,.string ⟨label.toArray⟩,.slice B attrs.length ac,.string ⟨key.toArray⟩,.bool text,.slice no nodes.length E] 90)):=az;have R:=aC w (.cells #[.string ⟨name.toArray⟩,.string ⟨label.toArray⟩,.slice B attrs.length ac,.string ⟨key.toArray⟩,.bool text,.slice no nodes.length E] 90);have y:w.heap.size+1<=(w.alloc (.cells #[.string ⟨name.toArray⟩,.string ⟨label.toArray⟩,.slice B attrs.length ac,.string ⟨key.toArray⟩,.bool text,.slice no nodes.length E] 90)).heap.size:=ak;have T:=ah J;clear J O;go_enter func45,ntmps45
 go_wp2
 go_loopw [5,6] (fun v i wr=>∃k:Nat,i=.int .i64 k/\k<=nodes.length/\wr.heap[w.heap.size]?=some (.cells #[.string ⟨name.toArray⟩,.string ⟨label.toArray⟩,.slice B attrs.length ac,.string ⟨key.toArray⟩,.bool text,.slice no nodes.length E] 90 (0,0))/\w.heap.size+1<=wr.heap.size/\ul wr (w.heap.size+1) v (dU ts (nodes.take k))/\Below w.heap.size w wr) (fun _ i _=>nodes.length-(intOf i).toNat)
 case atStart=>exact⟨0,rfl,aK _,R,y,cR _ _ _ _,P⟩
 case round=>
  obtain⟨k,rfl,bi,D,Q,c,f⟩:=hrel;obtain⟨p,aq⟩:=aj (wr);subst aq;clear R P y;have a9:=aZ p w.heap.size 5 _ _ _ D;by_cases ae:k<nodes.length
  ·have Y:decide ((k:Int)<nodes.length)=true:=aM
   have bm:(k:Int)<nodes.length:=ad;have bl:(0:Int)<=k:=ad;obtain⟨n,M⟩:∃n,nodes[k]?=some n:=⟨_,aF ae⟩;obtain⟨b,bu,rfl,bb,a3,a4,a5,a6⟩:=(C.below f).at M;have d:=Ks (ts:=ts) M;have L:=Cc ts (nodes.take k) [];rw[dx,ga]at L;change(dU ts (nodes.take k)).length<=_ at L;have t:=T.o n.sym p f;unfold ky at d;obtain⟨S,sym,a,a7⟩:=n;simp only at a3 a4 t d;unfold ul at c;clear a5 a6 M;by_cases I:S=2
   ·subst I
    rw[au rfl]at d;generalize ee ts sym=F at t d;generalize hout:dU ts (nodes.take k)=out at c d L;have A:=ah d;clear d hout;obtain⟨m,h,rfl⟩:=cJ c;have u:mD p m h out:=mC c;have bt:=u.2.1;have ao:=u.2.2.1;unfold maxLen at ao;go_wp2_with fail
    refine t.mono ?_;rintro r bB ⟨rfl,rfl⟩;clear t
    go_wp2
    go_loop [8,9] (fun v j=>∃i:Nat,j=.int .i64 i/\v=.bool ((out.take i).contains F)/\i<=out.length) (fun _ j=>out.length-(intOf j).toNat)
    case atStart=>exact⟨0,rfl,rfl,aK _⟩
    case round=>
     obtain⟨i,rfl,rfl,be⟩:=hrel;by_cases aa:i<out.length
     ·have X:decide ((i:Int)<out.length)=true:=aM
      have bf:(i:Int)<out.length:=ad;have bd:(0:Int)<=i:=ad;obtain⟨z,N⟩:∃z,out[i]?=some z:=⟨_,aF aa⟩;obtain⟨g,bw,rfl,bc,bE⟩:=u.at N;have s:=Ku (k:=F) N;clear N;cases e:(out.take i).contains F with
      |true=>
       rw[e,Bool.true_or]at s;have G:=ah s;clear e s
       go_wp2
       go_round
       case rel=>exact⟨i+1,aG,by rw[G.o],ad⟩
       case measure=>exact aH
      |false=>
       rw[e,mW]at s;have G:=ah s;clear e s
       go_wp2
       go_round
       case rel=>exact⟨i+1,aG,by rw[G.o],ad⟩
       case measure=>exact aH
     ·have X:decide ((i:Int)<out.length)=false:=aJ
      rw[bx ad];cases e:out.contains F with
      |true=>
       have q:=A.o;rw[au e]at q;have H:=ah q;clear e q
       go_wp2
       go_roundw
       case rel=>exact⟨k+1,aG,ad,D,Q,by rw[H.o];exact c,f⟩
       case measure=>exact aH
      |false=>
       have q:=A.o;rw[ap (by rw[e];simp)]at q;have H:=ah q;have al:∀j,j<w.heap.size+1->some j≠(Value.slice m out.length h).ownBlock:=fun j bg r=>by have:=(bX c j r.symm).1;omega
       have W:Below p.heap.size p (p.alloc (.cells #[.int .i64 F] 3)):=az;clear e q;go_wp2_with(first
        |(at_builtin;go_must (refine gY _ rfl _ _ 53 rfl (w.heap.size+1) 3 a2 (.int .i64 0) 1 8 ke Z av a0 a1 rfl aw _ _ _ rfl (dA c _) ⟨p.heap.size,0,none⟩ 1 1 [.int .i64 F] rfl rfl (tq _ [.int .i64 F] _ _ rfl) (fun z y=>by simp at y;subst y;rfl) bN ad aO ?_);intro bz bA an K bo)
        |go_in)
       go_roundw
       case rel=>
        refine⟨k+1,aG,ad,?_,?_,?_,?_⟩
        ·rw[K.block w.heap.size aO (al _ ad),W.block w.heap.size ad]
         exact D
        ·have:=K.size;simp at this;omega
        ·rw[H.o]
         unfold ul;simpa[uk]using an
        ·exact(f.alloc f.size _).grown K (by have:=f.size;simp;omega) (fun j r=>by have:=(bX c j r).1;omega)
       case measure=>exact aH
   ·have ba:(S !=2)=true:=by rw[iJ];exact I
    rw[ap I]at d;have A:=ah d;clear d t
    go_wp2
    go_roundw
    case rel=>exact⟨k+1,aG,ad,D,Q,by rw[A.o];exact c,f⟩
    case measure=>exact aH
  ·have Y:decide ((k:Int)<nodes.length)=false:=aJ
   rw[bx ad]at c;unfold ul at c;obtain⟨m,h,rfl⟩:=cJ c;have u:mD p m h (dU ts nodes):=mC c
   go_wp2
   go_ret;exact⟨m,h,rfl,u,f⟩
theorem Kv(a:Bytes):∀l:List Bytes,bV (l++[a])=(bV l||l.contains a):=by
 intro l;induction l with
 |nil=>simp[bV]
 |cons b t ih=>
  simp only[fH,bV,ih,Fh];rw[eS];simp only[cM,m6,fe,qO,ln];constructor
  ·rintro((c|c)|c|c)
   ·exact .inl (.inl c)
   ·exact .inr (.inl c.symm)
   ·exact .inl (.inr c)
   ·exact .inr (.inr c)
  ·rintro((c|c)|c|c)
   ·exact .inl (.inl c)
   ·exact .inr (.inl c)
   ·exact .inl (.inr c.symm)
   ·exact .inr (.inr c)
theorem Kw(b:List Bytes):∀a:List Bytes,bV a=true->bV (a++b)=true:=by
 intro a;induction a with
 |nil=>intro d;simp[bV]at d
 |cons c t ih=>
  intro d;simp only[fH,bV,cM,m6]at d⊢;rcases d with d|d
  ·exact .inl (sV _ d)
  ·exact .inr (ih d)
def nN(ts:List ax)(zs:List Int):List Bytes:=zs.map fun z=>labelAt ts z.toNat
theorem Kx{ts:List ax}{zs:List Int}{i:Nat}{z:Int}(a:zs[i]?=some z):(nN ts zs)[i]?=some (labelAt ts z.toNat):=by unfold nN;rw[cb,a];rfl
theorem Ky(l:List am)(o:Option Addr)(cap:Nat)(w:World)(A:cn w o cap l)(bf:l.length<=1048576)(zs:List Int)(X:Option Addr)(W:Nat)(p:mD w X W zs)(T:∀z∈zs,0<=z/\z<l.length):
 Calls prog 46 #[.slice o l.length cap,.slice X zs.length W] w fun a w'=>a=.returned (.bool (bV (nN (l.map am.t) zs)))/\Below w.heap.size w w':=by
 obtain⟨e,m⟩:=aj (nN (l.map am.t) zs);rw[<-m];obtain⟨N,B⟩:=aj (bV e);rw[<-B];have af:=A.1.2.2.1;have aq:=p.2.2.1;have bg:=p.2.1;unfold maxLen at af aq;have C:e.length=zs.length:=by rw[m];exact cd _
 have Q:∀(i:Nat) (z:Int) (x:am),zs[i]?=some z->l[z.toNat]?=some x->e[i]?=some x.t.label:=fun i z x ab ae=>by rw[m,Kx ab,tI (t:=x.t) (by rw[cb,ae];rfl)]
 obtain⟨H,L,K,Y⟩:=cI B T Q C;clear B m T Q C;go_enter func46,ntmps46
 go_wp2
 go_loopw [5] (fun v wr=>∃i:Nat,v=.int .i64 i/\i<=zs.length/\Below w.heap.size w wr/\Hid (bV (e.take i)=false)) (fun v _=>zs.length-(intOf v).toNat)
 case atStart=>exact⟨0,rfl,aK _,aA _ _,rfl⟩
 case round=>
  obtain⟨i,rfl,a7,O,I⟩:=hrel;obtain⟨bu,ao⟩:=aj (wr);subst ao;by_cases an:i<zs.length
  ·have al:decide ((i:Int)<zs.length)=true:=aM
   have bc:(i:Int)<zs.length:=ad;have ba:(0:Int)<=i:=ad;obtain⟨z,q⟩:∃n,zs[i]?=some n:=⟨_,aF an⟩;obtain⟨bm,bo⟩:=L.o z (aU q);obtain⟨c,rfl⟩:∃c:Nat,z=c:=⟨z.toNat,ad⟩;obtain⟨x,D⟩:∃n,l[c]?=some n:=⟨_,aF ad⟩;have R:=K.o i c x q (by simpa using D);have V:bV (e.take (i+1))=(e.take i).contains x.t.label:=by rw[bG,R,dR,Kv,I.o,mW]
   obtain⟨M,aa,Z⟩:=bO V q D;clear V q D R
   go_wp2
   go_loopw [6] (fun v av=>∃k:Nat,v=.int .i64 k/\k<=i/\Below w.heap.size w av/\Hid ((e.take k).contains x.t.label=false)) (fun v _=>i-(intOf v).toNat)
   case atStart=>exact⟨0,rfl,aK _,O,rfl⟩
   case round=>
    obtain⟨k,rfl,a9,h,G⟩:=hrel;by_cases be:k<i
    ·have ag:decide ((k:Int)<i)=true:=aM
     have bd:(k:Int)<zs.length:=ad;have bb:(0:Int)<=k:=ad;obtain⟨F,r⟩:∃n,zs[k]?=some n:=⟨_,aF ad⟩;obtain⟨bq,bt⟩:=L.o F (aU r);obtain⟨d,rfl⟩:∃c:Nat,F=c:=⟨F.toNat,ad⟩;obtain⟨y,E⟩:∃n,l[d]?=some n:=⟨_,aF ad⟩;have S:=K.o k d y r (by simpa using E);have P:(e.take (k+1)).contains x.t.label=(y.t.label==x.t.label):=by
      have:=G.o;rw[zQ]at this;rw[bG,S,dR,zQ,iX,this];simp only[pJ,List.any_nil,zg,mW];by_cases a:y.t.label=x.t.label
      ·rw[a]
      ·rw[cW.2 a,cW.2 (Ne.symm a)]
     obtain⟨g,a2,rfl,a5,bz⟩:=(p.below h).at aa.o;obtain⟨a1,a3,a,a6,bA⟩:=(p.below h).at r;injection a with a
     injection a with s u
     subst s;subst u;obtain⟨b,bi,rfl,C,_,bw,_⟩:=(A.below h).at Z.o;obtain⟨b',bl,a,_,_,a0,_⟩:=(A.below h).at E;injection a with a
     injection a with s u
     subst s;subst u;have J:=ah P;clear P S E r;by_cases j:y.t.label=x.t.label
     ·have f:Hid (N=true):=by
       show _=_
       rw[H.o,<-jC (i+1) e];refine Kw _ _ ?_;rw[M.o,m6];have:=J.o;rw[j,Fv,m6]at this;exact(List.take_prefix_take_left (ad:k+1<=i)).subset this
      rw[j]at a0;clear j
      go_wp2
      go_quiet(fail)
      go_wp2
      go_ret;exact⟨bC f.o.symm,dm h _⟩
     ·have a4:(x.t.label==y.t.label)=false:=by simpa using fun a:x.t.label=y.t.label=>j a.symm
      have f:Hid ((e.take (k+1)).contains x.t.label=false):=by show _=_;rw[J.o];simpa using j
      clear j
      go_wp2
      go_quiet(fail)
      go_wp2
      go_roundw
      case rel=>exact⟨k+1,aG,ad,dm h _,f.o⟩
      case measure=>exact aH
    ·have ag:decide ((k:Int)<i)=false:=aJ
     have f:Hid (bV (e.take (i+1))=false):=by
      show _=_
      rw[M.o];have a:k=i:=ad;rw[<-a];exact G.o
     go_wp2
     go_roundw
     case rel=>exact⟨i+1,aG,ad,h,f.o⟩
     case measure=>exact aH
  ·have al:decide ((i:Int)<zs.length)=false:=aJ
   have f:Hid (N=false):=by
    have:=I.o;rw[bx (by rw[Y.o];omega)]at this;show _=_
    rw[H.o];exact this
   go_wp2
   go_ret;exact⟨bC f.o.symm,O⟩
theorem Kz(l:List am)(o:Option Addr)(cap:Nat)(w:World)(a:cn w o cap l)(B:ej l)(x:am)(Q:di w x.no x.nc x.t.nodes)(bb:x.t.nodes.length<=1048576)
 (H:∀z∈dU (l.map am.t) x.t.nodes,0<=z/\z<l.length):
 Calls prog 47 #[.slice o l.length cap,dj x] w fun f w'=>f=.returned (.bool ((dU (l.map am.t) x.t.nodes).any (fun z=>(fU (l.map am.t) z.toNat).contains x.t.key)||x.t.key.isEmpty))/\Below w.heap.size w w':=by
 have j:=fun w' (V:Below w.heap.size w w')=>xw l o cap w' (a.below V) B.len x (Q.below V) bb;have bt:=B.len;have a5:=a.1.2.2.1;unfold maxLen at a5;have T:∀(k:Nat) (t:am),l[k]?=some t->fU (l.map am.t) k=t.t.attrs:=fun k t a7=>AK (by rw[cb,a7];rfl);have S:=B.attrs;have E:=fun(bf:List Bytes) o c w1 a2 a3=>Ko bf o c w1 a2 a3 x.t.key;obtain⟨zs,ag⟩:=aj (dU (l.map am.t) x.t.nodes);rw[<-ag]at j H⊢;obtain⟨r,s⟩:=aj ((zs.any (fun z=>(fU (l.map am.t) z.toNat).contains x.t.key)||x.t.key.isEmpty));rw[<-s];obtain⟨⟨name,label,attrs,key,text,nodes⟩,A,ac,no,L⟩:=x;unfold dj typeRow at*;simp only at j E s⊢;have C:Below w.heap.size w (w.alloc (.cells #[.string ⟨name.toArray⟩,.string ⟨label.toArray⟩,.slice A attrs.length ac,.string ⟨key.toArray⟩,.bool text,.slice no nodes.length L] 90)):=az;have Z:w.heap.size<(w.alloc (.cells #[.string ⟨name.toArray⟩,.string ⟨label.toArray⟩,.slice A attrs.length ac,.string ⟨key.toArray⟩,.bool text,.slice no nodes.length L] 90)).heap.size:=ak;have ab:=aC w (.cells #[.string ⟨name.toArray⟩,.string ⟨label.toArray⟩,.slice A attrs.length ac,.string ⟨key.toArray⟩,.bool text,.slice no nodes.length L] 90);have Y:=j _ C;obtain⟨M,av,ao,an,aq⟩:=ku s H T S E;clear s H T S E j ag Q;go_enter func47,ntmps47
 go_wp2_with fail
 refine Y.mono ?_;rintro f al ⟨bE,bB,rfl,F,D⟩;clear Y;have W:=aD C D;have ae:=(D.block w.heap.size Z).trans ab;have ba:=aN ae;have be:=F.2.2.1;have bu:=F.2.1;unfold maxLen at be;clear D ab Z C
 go_wp2
 go_loopw [6] (fun v wr=>∃i:Nat,v=.int .i64 i/\i<=zs.length/\Below al.heap.size al wr/\Hid ((zs.take i).any (fun z=>(fU (l.map am.t) z.toNat).contains key)=false)) (fun v _=>zs.length-(intOf v).toNat)
 case atStart=>exact⟨0,rfl,aK _,aA _ _,rfl⟩
 case round=>
  obtain⟨i,rfl,bq,h,O⟩:=hrel;have bc:=(h.block w.heap.size ba).trans ae;have bi:=aZ wr w.heap.size 3 _ _ _ bc;by_cases a9:i<zs.length
  ·have a6:decide ((i:Int)<zs.length)=true:=aM
   have j:(i:Int)<zs.length:=ad;have G:(0:Int)<=i:=ad;obtain⟨z,p⟩:∃n,zs[i]?=some n:=⟨_,aF a9⟩;obtain⟨bz,bA⟩:=av.o z (aU p);obtain⟨c,rfl⟩:∃c:Nat,z=c:=⟨z.toNat,ad⟩;obtain⟨y,m⟩:∃n,l[c]?=some n:=⟨_,aF ad⟩;have K:=ao.o c y m;have bd:=an.o y (aU m);have I:(zs.take (i+1)).any (fun z=>(fU (l.map am.t) z.toNat).contains key)=y.t.attrs.contains key:=by rw[bG,p,dR,iX,O.o];simp[K]
   have aa:=aU p;have J:y.t.attrs.contains key=true->r=true:=fun a4=>by rw[M.o,cM];exact .inl (gt.2 ⟨(c:Int),aa,by simpa[K]using a4⟩)
   obtain⟨g,bl,rfl,bo,bZ⟩:=(F.below h).at p;have d:=aD W h;have af:=((a.below d).2 y (aU m)).1;obtain⟨b,bw,rfl,bm,_,_,bg,_⟩:=(a.below d).at m;have u:∀n,Calls prog 76 #[.slice y.ao y.t.attrs.length y.ac,.string ⟨key.toArray⟩] (wr.drewN n) fun f w'=>f=.returned (.bool (y.t.attrs.contains key))/\w'=wr.drewN n:=fun n=>(aq.o y.t.attrs y.ao y.ac (wr.drewN n) (af.below (dm (aA _ _) n)) bd).mono fun f w' a=>⟨a.1,a.2.symm⟩;generalize y.t.attrs.contains key=q at I J u;generalize y.t.attrs.length=bF at u bg;obtain⟨a0,a1,P⟩:=bO I J u;clear I J u p m K aa af;cases q with
   |true=>
    have e:=ah (a1.o rfl)
    go_wp2
    go_quiet((go_at_call 76;exact vB (P.o _)))
    go_wp2
    go_ret;exact⟨bC e.o.symm,dm d _⟩
   |false=>
    go_wp2
    go_quiet((go_at_call 76;exact vB (P.o _)))
    go_wp2
    go_roundw
    case rel=>exact⟨i+1,aG,ad,dm h _,a0.o⟩
    case measure=>exact aH
  ·have a6:decide ((i:Int)<zs.length)=false:=aJ
   have R:r=key.isEmpty:=by have:=O.o;rw[bx ad]at this;rw[M.o,this,mW]
   have N:=ah R;have d:=aD W h;clear R;rcases fK (key=[])with G|G
   ·subst G
    have e:=ah (show r=true by rw[N.o];rfl)
    go_wp2
    go_ret;exact⟨bC e.o.symm,d⟩
   ·have X:key.isEmpty=false:=by cases key<;>simp_all
    have e:=ah (show r=false by rw[N.o,X])
    go_wp2
    go_ret;first|exact⟨bC e.o.symm,d⟩|exact⟨bC (by rw[e.o,X]),d⟩
theorem KC:∀(ts:List ax) (i:Nat) (n:Bytes),(∃(k:Nat) (t:ax),ts[k]?=some t/\t.name=n/\nM i ts n=((i+k:Nat):Int)/\∀(j:Nat) (u:ax),j<k->ts[j]?=some u->u.name≠n)∨(nM i ts n= -1/\∀(j:Nat) (u:ax),ts[j]?=some u->u.name≠n):=by
 intro ts;induction ts with
 |nil=>intro i n;exact .inr ⟨rfl,fun j u f=>by simp at f⟩
 |cons t ts ih=>
  intro i n;unfold nM;by_cases b:t.name=n
  ·rw[au b]
   exact .inl ⟨0,t,rfl,b,ak,fun j u e=>absurd e ad⟩
  ·rw[ap b]
   rcases ih (i+1) n with⟨k,u,c,d,g,h⟩|⟨c,d⟩
   ·refine .inl ⟨k+1,u,c,d,by rw[g];omega,fun j v e a=> ?_⟩
    cases j with
    |zero=>simp at a;subst a;exact b
    |succ j=>exact h j v ad (by simpa using a)
   ·refine .inr ⟨c,fun j v a=> ?_⟩
    cases j with
    |zero=>simp at a;subst a;exact b
    |succ j=>exact d j v (by simpa using a)
theorem um(ts:List ax)(n:Bytes):(∃(k:Nat) (t:ax),ts[k]?=some t/\t.name=n/\ee ts n=(k:Int)/\∀(j:Nat) (u:ax),j<k->ts[j]?=some u->u.name≠n)∨(ee ts n= -1/\∀(j:Nat) (u:ax),ts[j]?=some u->u.name≠n):=by have:=KC ts 0 n;simpa[ee]using this
theorem KD(ts:List ax)(n:Bytes):ee ts n<(ts.length:Int):=by
 rcases um ts n with⟨k,t,a,_,b,_⟩|⟨a,_⟩
 ·have:=(aP.1 a).1;omega
 ·omega
theorem Cd:∀l:List Bytes,bV l=true->∃(a b:Nat) (x:Bytes),a<b/\l[a]?=some x/\l[b]?=some x:=by
 intro l;induction l with
 |nil=>intro d;simp[bV]at d
 |cons c t ih=>
  intro d;simp only[bV,cM,m6]at d;rcases d with d|d
  ·obtain⟨b,g⟩:=m0.1 d
   exact⟨0,b+1,c,ad,rfl,g⟩
  ·obtain⟨a,b,x,h,e,f⟩:=ih d
   exact⟨a+1,b+1,x,ad,e,f⟩
theorem KE{ts:List ax}{j:Nat}{u:ax}(b:ts[j]?=some u)(e:ee ts u.name<(j:Int)):bV (ts.map ax.name)=true:=by
 cases c:bV (ts.map ax.name)with
 |true=>rfl
 |false=>
  rcases um ts u.name with⟨k,t,d,a,f,_⟩|⟨_,a⟩
  ·have:=rC c k j u.name (by rw[cb,d];simp[a]) (by rw[cb,b];rfl)
   omega
  ·exact absurd rfl (a j u b)
theorem KF{ts:List ax}(l:∀(j:Nat) (u:ax),ts[j]?=some u->¬ee ts u.name<(j:Int)):bV (ts.map ax.name)=false:=by
 cases g:bV (ts.map ax.name)with
 |false=>rfl
 |true=>
  obtain⟨a,b,x,q,d,e⟩:=Cd _ g;rw[cb]at d e;obtain⟨t,o,rfl⟩:=mb.1 d;obtain⟨u,f,n⟩:=mb.1 e;refine absurd ?_ (l b u f);rcases um ts u.name with⟨k,v,p,c,h,i⟩|⟨_,c⟩
  ·rw[h]
   have:¬a<k:=fun m=>i a t m o n.symm;omega
  ·exact absurd rfl (c b u f)
def jU(ts:List ax):Int:=if bV (ts.map ax.name)=true then 15 else if ts.any (fun t=>dh t.attrs)=true then 14 else if ts.any eK=true then 12 else eh ts
theorem lL{a:Type}{l:List a}{p:a->Bool}{k:Nat}{x:a}(c:l[k]?=some x)(b:(l.take k).any p=false):(l.take (k+1)).any p=p x:=by rw[bG,c,dR,iX,b];simp
theorem lM{a:Type}{l:List a}{p:a->Bool}{k:Nat}{x:a}(c:l[k]?=some x)(b:p x=true):l.any p=true:=gt.2 ⟨x,aU c,b⟩
theorem Ce{l:List am}{k:Nat}{x:am}(a:l[k]?=some x):(l.map am.t)[k]?=some x.t:=by rw[cb,a];rfl
theorem Cf(x y:Bytes):(br y x=true/\((Op.bytesLess y x=true)∨(Op.bytesLess y x=false/\(y==x)=true)))∨(br y x=false/\Op.bytesLess y x=false/\(y==x)=false):=by
 rw[ri y x];by_cases c:y=x
 ·subst c
  have:br y y=true:=by unfold br;simp
  rw[this];exact .inl ⟨rfl,.inr ⟨rfl,ak⟩⟩
 ·have d:(y==x)=false:=by simpa using c
  rw[d];by_cases a:br y x=true
  ·refine .inl ⟨a,.inl ?_⟩
   unfold br at a⊢;rw[ct]at a;rw[Bool.not_eq_true',cF];exact fun b=>c (zR a b)
  ·rw[fR]at a
   refine .inr ⟨a,?_,rfl⟩;unfold br at a⊢;rw[cF]at a;rw[Bool.not_eq_false',ct];rcases List.le_total y x with b|b
   ·exact absurd b a
   ·exact b
theorem KG(l:List am)(o:Option Addr)(cap:Nat)(w:World)(B:cn w o cap l)(Y:ej l):
 Calls prog 44 #[.slice o l.length cap] w fun d w'=>d=.returned (.int .i64 (jU (l.map am.t)))/\Below w.heap.size w w':=by
 have bg:=fun n w' (q:Below w.heap.size w w')=>xu l o cap w' (B.below q) Y.len n;have b0:=fun(x:am) (a:x∈l) w' (q:Below w.heap.size w w')=>Kj x.t.nodes x.no x.nc w' ((B.2 x a).2.below q) (Y.sym x a);have b7:=fun(x:am) (a:x∈l) w' (q:Below w.heap.size w w')=>(B.2 x a).1.below q;have d6:=Y.len;have c2:=B.1.2.2.1;unfold maxLen at c2;obtain⟨ts,af⟩:=aj (l.map am.t);have b2:∀(k:Nat) (x:am),l[k]?=some x->ts[k]?=some x.t:=fun k x a=>by rw[af];exact Ce a
 have b1:∀(k:Nat) (x:am),l[k]?=some x->ts.drop k=x.t::ts.drop (k+1):=fun k x a=>by rw[af];exact Cb a
 have b6:ts.length=l.length:=by rw[af,cd]
 rw[<-af]at bg⊢;obtain⟨D,aq⟩:=aj (jU ts);rw[<-aq];unfold jU at aq;obtain⟨a5,cp,cl,cx,bb,co,ao,ci⟩:=oZ aq bg b0 b7 b2 b1 b6 Y.attrs;clear aq bg b0 b7 b2 b1 b6 af Y;go_enter func44,ntmps44
 go_wp2
 go_loop [3] (fun v=>∃k:Nat,v=.int .i64 k/\k<=l.length/\Hid (∀(j:Nat) (u:ax),j<k->ts[j]?=some u->(j:Int)<=ee ts u.name)) (fun v=>l.length-(intOf v).toNat)
 case atStart=>exact⟨0,rfl,aK _,fun j u b3=>absurd b3 ad⟩
 case round=>
  obtain⟨k,rfl,bl,e⟩:=hrel;by_cases L:k<l.length
  ·have J:decide ((k:Int)<l.length)=true:=aM
   have bo:(k:Int)<l.length:=ad;have bm:(0:Int)<=k:=ad;obtain⟨x,a⟩:∃n,l[k]?=some n:=⟨_,aF L⟩;obtain⟨b,h,rfl,bZ,al,R,O,an,C,S⟩:=B.at a;have ab:=cp.o x.t.name w (aA _ _);have z:=bb.o k x a;have bq:¬ee ts x.t.name<(k:Int)->∀(j:Nat) (u:ax),j<k+1->ts[j]?=some u->(j:Int)<=ee ts u.name:=fun b5 j u b3 G=>by
    by_cases d:j=k
    ·subst d;rw[z]at G;injection G with G;subst G;omega
    ·exact e.o j u ad G
   have Q:=fun b5=>KE z b5;generalize ee ts x.t.name=F at ab bq Q;obtain⟨cs,cu⟩:=aE bq Q;clear R O an C S a z bq Q;by_cases P:F<(k:Int)
   ·have bc:decide (F<(k:Int))=true:=by rw[ct];exact P
    have H:=ah (show D=15 by rw[a5.o,au (cu.o P)]);clear P;go_wp2_with fail
    refine ab.mono ?_;rintro d cc ⟨rfl,rfl⟩;clear ab
    go_wp2
    go_ret;exact⟨bT H.o.symm,aA _ _⟩
   ·have bc:decide (F<(k:Int))=false:=by rw[cF];exact P
    have f:=ah (cs.o P);clear P;go_wp2_with fail
    refine ab.mono ?_;rintro d cc ⟨rfl,rfl⟩;clear ab
    go_wp2
    go_round
    case rel=>exact⟨k+1,aG,ad,f.o⟩
    case measure=>exact aH
  ·have J:decide ((k:Int)<l.length)=false:=aJ
   have Q:bV (ts.map ax.name)=false:=KF fun j u G=>by have:=e.o j u (by have:=(aP.1 G).1;have:=ao.o;omega) G;omega
   have bA:D=if ts.any (fun t=>dh t.attrs)=true then 14 else if ts.any eK=true then 12 else eh ts:=by rw[a5.o,ap (by rw[Q];simp)]
   have a6:=ah bA;clear bA Q e a5
   go_wp2
   go_loopw [4] (fun v wr=>∃k:Nat,v=.int .i64 k/\k<=l.length/\Below w.heap.size w wr/\Hid ((ts.take k).any (fun t=>dh t.attrs)=false)) (fun v _=>l.length-(intOf v).toNat)
   case atStart=>exact⟨0,rfl,aK _,aA _ _,rfl⟩
   case round=>
    obtain⟨k,rfl,bl,I,e⟩:=hrel;obtain⟨ce,c7⟩:=aj (wr);subst c7;by_cases L:k<l.length
    ·have J:decide ((k:Int)<l.length)=true:=aM
     have bo:(k:Int)<l.length:=ad;have bm:(0:Int)<=k:=ad;obtain⟨x,a⟩:∃n,l[k]?=some n:=⟨_,aF L⟩;have bt:=aU a;have z:=bb.o k x a;have M:=lL (p:=fun t:ax=>dh t.attrs) z e.o;have N:=fun bi=>lM (p:=fun t:ax=>dh t.attrs) z bi;have av:=fun w' q=>cx.o x bt w' q;have c0:=ci.o x bt;have Z:∀w',Below w.heap.size w w'->∃b h,o=some ⟨b,h,none⟩/\w'.cell? ⟨b,h+k*6+2,none⟩=some (.slice x.ao x.t.attrs.length x.ac):=fun w' q=>by obtain⟨b,h,d,_,_,_,O,_⟩:=(B.below q).at a;exact⟨b,h,d,O⟩
     obtain⟨T,W,X⟩:=bO Z M N;have b8:=(av ce I).2.2.1;unfold maxLen at b8;have c6:=(av ce I).2.1;have a9:=ah av;obtain⟨⟨name,label,attrs,key,text,nodes⟩,bz,ac,no,b9⟩:=x;simp only at T W X a9 c0 b8 c6;clear Z M N av a bt z
     go_wp2
     go_loopw [5] (fun i c8=>∃m:Nat,i=.int .i64 ((m:Int)+1)/\(m+1<=attrs.length∨m=0)/\Below w.heap.size w c8/\Hid (dh (attrs.take (m+1))=false)) (fun i _=>attrs.length-(intOf i).toNat)
     case atStart=>
      refine⟨0,rfl,.inr rfl,I,?_⟩;show _=_
      cases attrs with
      |nil=>rfl
      |cons c t=>simp[dh]
     case round=>
      obtain⟨m,rfl,d7,r,bu⟩:=hrel;obtain⟨b,h,rfl,dz⟩:=T.o _ r;by_cases c5:m+1<attrs.length
      ·have c4:decide ((m:Int)+1<(attrs.length:Int))=true:=aM
       have c9:(0:Int)<=m:=ad;have dr:(m:Int)<attrs.length:=ad;have ds:(0:Int)<=m+1:=ad;have du:(m:Int)+1<(attrs.length:Int):=ad;obtain⟨x,a⟩:∃n,attrs[m]?=some n:=⟨_,aF ad⟩;obtain⟨y,a4⟩:∃n,attrs[m+1]?=some n:=⟨_,aF c5⟩;have K:=AI a a4;rw[bu.o,mW]at K;obtain⟨g,d1,rfl,d4,al⟩:=(a9.o _ r).at a;obtain⟨d0,d2,d,d5,R⟩:=(a9.o _ r).at a4;injection d with d
       injection d with bd be
       subst bd;subst be;have ec:(((m:Int)+1).toNat)=m+1:=ad;rcases Cf x y with⟨ag,a1⟩|⟨ag,a1,c3⟩
       ·rw[ag]at K
        have bF:D=14:=by rw[a6.o,au];refine X.o ?_;rw[<-jC (m+2) attrs];exact vZ _ _ K
        have H:=ah bF;clear bF K ag a a4;rcases a1 with a1|⟨a1,c3⟩
        all_goals
         go_wp2
         go_quiet(fail)
         go_wp2
         go_ret;exact⟨bT H.o.symm,dm r _⟩
       ·rw[ag]at K
        have cq:=ah K;clear K ag a a4
        go_wp2
        go_quiet(fail)
        go_wp2
        go_roundw
        case rel=>exact⟨m+1,aG,.inl ad,dm r _,cq.o⟩
        case measure=>exact aH
      ·have c4:decide ((m:Int)+1<(attrs.length:Int))=false:=aJ
       have f:Hid ((ts.take (k+1)).any (fun t=>dh t.attrs)=false):=by
        have:=bu.o;rw[bx ad]at this;show _=_
        rw[W.o];exact this
       go_wp2
       go_roundw
       case rel=>exact⟨k+1,aG,ad,r,f.o⟩
       case measure=>exact aH
    ·have J:decide ((k:Int)<l.length)=false:=aJ
     have ae:ts.any (fun t=>dh t.attrs)=false:=by have:=e.o;rwa[bx (by have:=ao.o;omega)]at this
     have bB:D=if ts.any eK=true then 12 else eh ts:=by rw[a6.o,ap (by rw[ae];simp)]
     have a7:=ah bB;have cN:=B.below I;clear bB ae e a6
     go_wp2
     go_loop [6] (fun v=>∃k:Nat,v=.int .i64 k/\k<=l.length/\Hid ((ts.take k).any eK=false)) (fun v=>l.length-(intOf v).toNat)
     case atStart=>exact⟨0,rfl,aK _,rfl⟩
     case round=>
      obtain⟨k,rfl,bl,e⟩:=hrel;by_cases L:k<l.length
      ·have J:decide ((k:Int)<l.length)=true:=aM
       have bo:(k:Int)<l.length:=ad;have bm:(0:Int)<=k:=ad;obtain⟨x,a⟩:∃n,l[k]?=some n:=⟨_,aF L⟩;have z:=bb.o k x a;have M:=lL (p:=eK) z e.o;have N:eK x.t=true->D=12:=fun bi=>by rw[a7.o,au (lM z bi)]
       obtain⟨b,h,rfl,bZ,al,R,O,an,C,S⟩:=cN.at a;have a3:eK x.t=(x.t.text&&(!x.t.nodes.isEmpty|| !x.t.key.isEmpty)):=rfl;obtain⟨⟨name,label,attrs,key,text,nodes⟩,bz,ac,no,b9⟩:=x;simp only at an C S M N a3;generalize eK ⟨name,label,attrs,key,text,nodes⟩=cG at M N a3;obtain⟨W,X,ba⟩:=bO M N a3;clear M N a3 a z al R O;cases text with
       |false=>
        have f:=ah (show(ts.take (k+1)).any eK=false by rw[W.o,ba.o];rfl)
        go_wp2
        go_round
        case rel=>exact⟨k+1,aG,ad,f.o⟩
        case measure=>exact aH
       |true=>
        by_cases ea:nodes.length>0
        ·have bc:decide ((nodes.length:Int)>0)=true:=aM
         have aa:nodes.isEmpty=false:=by cases nodes<;>simp_all
         have H:=ah (X.o (by rw[ba.o,aa];rfl));clear aa
         go_wp2
         go_ret;exact⟨bT H.o.symm,I⟩
        ·have bc:decide ((nodes.length:Int)>0)=false:=aJ
         have aa:nodes.isEmpty=true:=by cases nodes<;>simp_all
         have bw:=ah (show cG= !key.isEmpty by rw[ba.o,aa];simp);clear aa;rcases fK (key=[])with b4|b4
         ·subst b4
          have f:=ah (show(ts.take (k+1)).any eK=false by rw[W.o,bw.o];rfl)
          go_wp2
          go_round
          case rel=>exact⟨k+1,aG,ad,f.o⟩
          case measure=>exact aH
         ·have H:=ah (X.o (by rw[bw.o];cases key<;>simp_all))
          have d3:key.isEmpty=false:=by cases key<;>simp_all
          go_wp2
          go_ret;exact⟨bT H.o.symm,I⟩
      ·have J:decide ((k:Int)<l.length)=false:=aJ
       have ae:ts.any eK=false:=by have:=e.o;rwa[bx (by have:=ao.o;omega)]at this
       have bE:D=eh ts:=by rw[a7.o,ap (by rw[ae];simp)]
       have ch:=ah bE;clear bE ae e a7
       go_wp2
       go_loopw [7] (fun v wr=>∃k:Nat,v=.int .i64 k/\k<=l.length/\Below w.heap.size w wr/\Hid (D=eh (ts.drop k))) (fun v _=>l.length-(intOf v).toNat)
       case atStart=>exact⟨0,rfl,aK _,I,ch.o⟩
       case round=>
        obtain⟨k,rfl,bl,r,e⟩:=hrel;by_cases L:k<l.length
        ·have J:decide ((k:Int)<l.length)=true:=aM
         have bo:(k:Int)<l.length:=ad;have bm:(0:Int)<=k:=ad;obtain⟨x,a⟩:∃n,l[k]?=some n:=⟨_,aF L⟩;have A:=e.o;rw[co.o k x a]at A;unfold eh at A;have a2:=cl.o x (aU a) _ r;have Z:∀w',Below w.heap.size w w'->∃b h,o=some ⟨b,h,none⟩/\w'.cell? ⟨b,h+k*6+4,none⟩=some (.bool x.t.text):=fun w' q=>by obtain⟨b,h,d,_,_,_,_,_,C,_⟩:=(B.below q).at a;exact⟨b,h,d,C⟩
         have T:=ah Z;obtain⟨b,h,rfl,bZ,al,R,O,an,C,S⟩:=(B.below r).at a;obtain⟨⟨name,label,attrs,key,text,nodes⟩,bz,ac,no,b9⟩:=x;simp only at C S A a2 T;generalize cw nodes=E at A a2;have f:=ah A;clear A Z a al R O an C;go_wp2_with fail
         refine a2.mono ?_;rintro d cc ⟨rfl,c1⟩;clear a2 S;have a0:=aD r c1;obtain⟨b',eb,d,C⟩:=T.o _ a0;injection d with d
         injection d with bd be
         subst bd;subst be;cases text with
         |true=>
          have s:=f.o;rw[ap ak]at s;have V:=ah s;clear s
          go_wp2
          go_roundw
          case rel=>exact⟨k+1,aG,ad,a0,V.o⟩
          case measure=>exact aH
         |false=>
          by_cases bf:E=0
          ·subst bf
           have s:=f.o;rw[ap ak]at s;have V:=ah s;clear s
           go_wp2
           go_roundw
           case rel=>exact⟨k+1,aG,ad,a0,V.o⟩
           case measure=>exact aH
          ·have s:=f.o
           rw[au ⟨rfl,bf⟩]at s;have V:=ah s;have d8:(E !=0)=true:=by rw[iJ];exact bf
           clear s
           go_wp2
           go_ret;exact⟨bT V.o.symm,a0⟩
        ·have J:decide ((k:Int)<l.length)=false:=aJ
         have A:=e.o;rw[qJ (by have:=ao.o;omega)]at A;have f:=ah (show D=0 from A);clear A
         go_wp2
         go_ret;exact⟨bT f.o.symm,r⟩
theorem KH{ts:List ax}{out:List Int}{n:ar}{z:Int}:z∈ky ts out n↔z∈out∨(n.op=2/\ee ts n.sym=z):=by
 unfold ky;by_cases c:n.op=2
 ·rw[au c]
  by_cases d:out.contains (ee ts n.sym)=true
  ·rw[au d]
   rw[m6]at d;exact⟨.inl,fun b=>b.elim id fun⟨_,a⟩=>a▸d⟩
  ·rw[ap d,fe,qO]
   exact⟨fun b=>b.elim .inl fun a=>.inr ⟨c,a.symm⟩,fun b=>b.elim .inl fun⟨_,a⟩=>.inr a.symm⟩
 ·rw[ap c]
  exact⟨.inl,fun b=>b.elim id fun⟨a,_⟩=>absurd a c⟩
theorem KI{ts:List ax}{z:Int}:∀(l:List ar) (out:List Int),z∈l.foldl (ky ts) out↔z∈out∨∃n∈l,n.op=2/\ee ts n.sym=z:=by
 intro l;induction l with
 |nil=>intro out;simp
 |cons n t ih=>
  intro out;rw[qN,ih,KH];constructor
  ·rintro((a|a)|⟨m,b,a⟩)
   ·exact .inl a
   ·exact .inr ⟨n,f9 .., a⟩
   ·exact .inr ⟨m,f8 _ b,a⟩
  ·rintro(a|⟨m,b,a⟩)
   ·exact .inl (.inl a)
   ·rcases eH.1 b with rfl|b
    ·exact .inl (.inr a)
    ·exact .inr ⟨m,b,a⟩
theorem un{ts:List ax}{l:List ar}{z:Int}:z∈dU ts l↔∃n∈l,n.op=2/\ee ts n.sym=z:=by unfold dU;rw[KI];simp
theorem xx{ts:List ax}{l:List ar}{z:Int}(a:z∈dU ts l):z<(ts.length:Int):=by obtain⟨n,_,_,rfl⟩:=un.1 a;exact KD ts n.sym
def iQ(ts:List ax)(t:ax):Bool:=(dU ts t.nodes).any (fun z=>(fU ts z.toNat).contains t.key)||t.key.isEmpty
def iR(ts:List ax)(t:ax):Bool:=(dU ts t.nodes).any (fun z=>decide (z<0))
def kz(ts:List ax)(t:ax):Bool:=bV (nN ts (dU ts t.nodes))
def qh(ts:List ax):Int:=
 if 64<ts.length then 17 else if ts.length=0 then 18 else if ts.any fS=true then 11 else
 if jU ts≠0 then jU ts else if ts.any (iR ts)=true then 16 else if ts.any (kz ts)=true then 24 else if ts.any (fun t=> !iQ ts t)=true then 23 else 0
theorem KJ(l:List am)(o:Option Addr)(cap:Nat)(w:World)(u:cn w o cap l)(B:ej l)(bg:∀x∈l,x.t.nodes.length<=1048576):
 Calls prog 18 #[.slice o l.length cap] w fun A w'=>A=.returned (.int .i64 (qh (l.map am.t)))/\Below w.heap.size w w':=by
 have c5:=B.len;have co:=u.1.2.2.1;unfold maxLen at co;have bm:=fun w' (m:Below w.heap.size w w')=>KG l o cap w' (u.below m) B;have b2:=fun(x:am) (a:x∈l) w' (m:Below w.heap.size w w')=>Kr x w' ((u.2 x a).1.below m) (B.name x a) (B.label x a) (B.key x a) (B.attrs x a) (B.attr x a);have S:=fun(x:am) (a:x∈l) w' (m:Below w.heap.size w w')=>xw l o cap w' (u.below m) B.len x ((u.2 x a).2.below m) (bg x a);have bo:=fun zs Y X w' (m:Below w.heap.size w w') C bi=>Ky l o cap w' (u.below m) B.len zs Y X C bi;have bf:=fun(x:am) (a:x∈l) w' (m:Below w.heap.size w w') bi=>Kz l o cap w' (u.below m) B x ((u.2 x a).2.below m) (bg x a) bi;obtain⟨ts,a0⟩:=aj (l.map am.t);have b1:∀(k:Nat) (x:am),l[k]?=some x->ts[k]?=some x.t:=fun k x a=>by rw[a0];exact Ce a
 have b5:ts.length=l.length:=by rw[a0,cd]
 rw[<-a0]at bm S bo bf⊢;obtain⟨j,an⟩:=aj (qh ts);rw[<-an];unfold qh at an;obtain⟨al,cc,b9,bB,ch,b8,ab,D⟩:=oZ an bm b2 S bo bf b1 b5;clear an bm b2 S bo bf b1 b5 a0 B bg;by_cases bb:64<l.length
 ·have cp:decide ((l.length:Int)>64)=true:=aM
  have y:=ah (show j=17 by rw[al.o,au (by rw[D.o];exact bb)]);go_enter func18,ntmps18
  go_wp2
  go_ret;exact⟨bT y.o.symm,aA _ _⟩
 have cp:decide ((l.length:Int)>64)=false:=aJ;by_cases bZ:l.length=0
 ·have cq:((l.length:Int)==0)=true:=mq
  have y:=ah (show j=18 by rw[al.o,ap (by rw[D.o];exact bb),au (by rw[D.o];exact bZ)]);go_enter func18,ntmps18
  go_wp2
  go_ret;exact⟨bT y.o.symm,aA _ _⟩
 have cq:((l.length:Int)==0)=false:=dX;have a2:=ah (show j=if ts.any fS=true then 11 else if jU ts≠0 then jU ts else if ts.any (iR ts)=true then 16 else if ts.any (kz ts)=true then 24 else if ts.any (fun t=> !iQ ts t)=true then 23 else 0 by rw[al.o,ap (by rw[D.o];exact bb),ap (by rw[D.o];exact bZ)]);clear al;go_enter func18,ntmps18
 go_wp2
 go_loopw [3] (fun v wr=>∃k:Nat,v=.int .i64 k/\k<=l.length/\Below w.heap.size w wr/\Hid ((ts.take k).any fS=false)) (fun v _=>l.length-(intOf v).toNat)
 case atStart=>exact⟨0,rfl,aK _,aA _ _,rfl⟩
 case round=>
  obtain⟨k,rfl,bd,r,f⟩:=hrel;by_cases T:k<l.length
  ·have R:decide ((k:Int)<l.length)=true:=aM
   have S:(k:Int)<l.length:=ad;have be:(0:Int)<=k:=ad;obtain⟨x,a⟩:∃n,l[k]?=some n:=⟨_,aF T⟩;have h:=ab.o k x a;have d:=lL (p:=fS) h f.o;have e:fS x.t=true->j=11:=fun G=>by rw[a2.o,au (lM h G)]
   have V:=b9.o x (aU a) _ r;obtain⟨b,bu,rfl,bc,I,J,K,L,M,N⟩:=(u.below r).at a;obtain⟨⟨name,label,attrs,key,text,nodes⟩,a6,ac,no,bt⟩:=x;unfold dj typeRow at V;simp only at I J K L M N V d e;generalize fS ⟨name,label,attrs,key,text,nodes⟩=q at V d e;obtain⟨O,P⟩:=aE d e;clear d e a h;cases q with
   |true=>
    have y:=ah (P.o rfl);go_wp2_with fail
    refine V.mono ?_;rintro A bw ⟨rfl,F⟩;clear V
    go_wp2
    go_ret;exact⟨bT y.o.symm,aD r F⟩
   |false=>
    go_wp2_with fail
    refine V.mono ?_;rintro A bw ⟨rfl,F⟩;clear V
    go_wp2
    go_roundw
    case rel=>exact⟨k+1,aG,ad,aD r F,O.o⟩
    case measure=>exact aH
  ·have R:decide ((k:Int)<l.length)=false:=aJ
   have s:ts.any fS=false:=by have:=f.o;rwa[bx (by have:=D.o;omega)]at this
   have Z:=ah (show j=if jU ts≠0 then jU ts else if ts.any (iR ts)=true then 16 else if ts.any (kz ts)=true then 24 else if ts.any (fun t=> !iQ ts t)=true then 23 else 0 by rw[a2.o,ap (by rw[s];simp)]);have ag:=cc.o _ r;generalize jU ts=E at Z ag;clear s f a2;by_cases ba:E=0
   ·subst ba
    have aa:=ah (show j=if ts.any (iR ts)=true then 16 else if ts.any (kz ts)=true then 24 else if ts.any (fun t=> !iQ ts t)=true then 23 else 0 by rw[Z.o,ap ak]);clear Z;go_wp2_with fail
    refine ag.mono ?_;rintro A cN ⟨rfl,ao⟩;clear ag;have cl:=aD r ao;clear ao r
    go_wp2
    go_loopw [5] (fun v wr=>∃k:Nat,v=.int .i64 k/\k<=l.length/\Below w.heap.size w wr/\Hid ((ts.take k).any (iR ts)=false)) (fun v _=>l.length-(intOf v).toNat)
    case atStart=>exact⟨0,rfl,aK _,cl,rfl⟩
    case round=>
     obtain⟨k,rfl,bd,r,f⟩:=hrel;obtain⟨c8,cx⟩:=aj (wr);subst cx;by_cases T:k<l.length
     ·have R:decide ((k:Int)<l.length)=true:=aM
      have S:(k:Int)<l.length:=ad;have be:(0:Int)<=k:=ad;obtain⟨x,a⟩:∃n,l[k]?=some n:=⟨_,aF T⟩;have h:=ab.o k x a;have d:=lL (p:=iR ts) h f.o;have e:iR ts x.t=true->j=16:=fun G=>by rw[aa.o,au (lM h G)]
      have c:=bB.o x (aU a) _ r;have H:iR ts x.t=(dU ts x.t.nodes).any (fun z=>decide (z<0)):=rfl;generalize dU ts x.t.nodes=zs at c H;obtain⟨b,bu,rfl,bc,I,J,K,L,M,N⟩:=(u.below r).at a;obtain⟨⟨name,label,attrs,key,text,nodes⟩,a6,ac,no,bt⟩:=x;unfold dj typeRow at c;simp only at I J K L M N c d e H;generalize iR ts ⟨name,label,attrs,key,text,nodes⟩=q at d e H;obtain⟨O,P,bE⟩:=bO d e H;clear d e a h H;go_wp2_with fail
      refine c.mono ?_;rintro A bw ⟨Y,X,rfl,af,F⟩;clear c I J K L M N;have W:=aD r F;have cG:=af.2.2.1;have c7:=af.2.1;unfold maxLen at cG;clear F
      go_wp2
      go_loop [7] (fun v=>∃i:Nat,v=.int .i64 i/\i<=zs.length/\Hid ((zs.take i).any (fun z=>decide (z<0))=false)) (fun v=>zs.length-(intOf v).toNat)
      case atStart=>exact⟨0,rfl,aK _,rfl⟩
      case round=>
       obtain⟨i,rfl,c2,bA⟩:=hrel;by_cases cu:i<zs.length
       ·have cs:decide ((i:Int)<zs.length)=true:=aM
        have c4:(i:Int)<zs.length:=ad;have c3:(0:Int)<=i:=ad;obtain⟨z,C⟩:∃n,zs[i]?=some n:=⟨_,aF cu⟩;have b4:=lL (p:=fun z:Int=>decide (z<0)) C bA.o;have b0:=fun G=>lM (p:=fun z:Int=>decide (z<0)) C G;obtain⟨g,c0,rfl,c1,c9⟩:=af.at C;obtain⟨ce,b7⟩:=aE b4 b0;clear b4 b0 C;by_cases av:z<0
        ·have a7:decide (z<0)=true:=by rw[ct];exact av
         have y:=ah (P.o (by rw[bE.o];exact b7.o a7));clear av
         go_wp2
         go_ret;exact⟨bT y.o.symm,W⟩
        ·have a7:decide (z<0)=false:=by rw[cF];exact av
         have a5:=ah (show(zs.take (i+1)).any (fun z=>decide (z<0))=false by rw[ce.o];exact a7);clear av
         go_wp2
         go_round
         case rel=>exact⟨i+1,aG,ad,a5.o⟩
         case measure=>exact aH
       ·have cs:decide ((i:Int)<zs.length)=false:=aJ
        have a5:=ah (show(ts.take (k+1)).any (iR ts)=false by rw[O.o,bE.o];have:=bA.o;rwa[bx ad]at this)
        go_wp2
        go_roundw
        case rel=>exact⟨k+1,aG,ad,W,a5.o⟩
        case measure=>exact aH
     ·have R:decide ((k:Int)<l.length)=false:=aJ
      have s:ts.any (iR ts)=false:=by have:=f.o;rwa[bx (by have:=D.o;omega)]at this
      have a3:=ah (show j=if ts.any (kz ts)=true then 24 else if ts.any (fun t=> !iQ ts t)=true then 23 else 0 by rw[aa.o,ap (by rw[s];simp)]);have b3:∀(x:am) (k:Nat),l[k]?=some x->∀z∈dU ts x.t.nodes,0<=z/\z<(l.length:Int):=fun x k a z C=>by refine⟨?_,by have:=xx C;rw[D.o]at this;exact this⟩;rw[lq]at s;have a9:=s x.t (aU (ab.o k x a));unfold iR at a9;rw[fR,lq]at a9;have:=a9 z C;simpa using this
      have bF:=ah b3;clear s f aa b3
      go_wp2
      go_loopw [8] (fun v wr=>∃k:Nat,v=.int .i64 k/\k<=l.length/\Below w.heap.size w wr/\Hid ((ts.take k).any (kz ts)=false)) (fun v _=>l.length-(intOf v).toNat)
      case atStart=>exact⟨0,rfl,aK _,r,rfl⟩
      case round=>
       obtain⟨k,rfl,bd,aq,f⟩:=hrel;by_cases T:k<l.length
       ·have R:decide ((k:Int)<l.length)=true:=aM
        have S:(k:Int)<l.length:=ad;have be:(0:Int)<=k:=ad;obtain⟨x,a⟩:∃n,l[k]?=some n:=⟨_,aF T⟩;have h:=ab.o k x a;have d:=lL (p:=kz ts) h f.o;have e:kz ts x.t=true->j=24:=fun G=>by rw[a3.o,au (lM h G)]
        have c:=bB.o x (aU a) _ aq;have bl:=bF.o x k a;have H:kz ts x.t=bV (nN ts (dU ts x.t.nodes)):=rfl;generalize dU ts x.t.nodes=zs at c H bl;rw[H]at d e;generalize hq:bV (nN ts zs)=q at d e;have bq:=fun Y X w' m C=>ch.o zs Y X w' m C bl;rw[hq]at bq;obtain⟨b,bu,rfl,bc,I,J,K,L,M,N⟩:=(u.below aq).at a;obtain⟨⟨name,label,attrs,key,text,nodes⟩,a6,ac,no,bt⟩:=x;unfold dj typeRow at c;simp only at I J K L M N c d e;obtain⟨O,P,ci⟩:=bO d e bq;clear d e a h H bl bq hq;go_wp2_with fail
        refine c.mono ?_;rintro A bw ⟨Y,X,rfl,af,F⟩;clear c I J K L M N;have W:=aD aq F;have a1:=ci.o Y X _ W af;clear F;cases q with
        |true=>
         have y:=ah (P.o rfl);go_wp2_with fail
         refine a1.mono ?_;rintro A bz ⟨rfl,Q⟩;clear a1
         go_wp2
         go_ret;exact⟨bT y.o.symm,aD W Q⟩
        |false=>
         go_wp2_with fail
         refine a1.mono ?_;rintro A bz ⟨rfl,Q⟩;clear a1
         go_wp2
         go_roundw
         case rel=>exact⟨k+1,aG,ad,aD W Q,O.o⟩
         case measure=>exact aH
       ·have R:decide ((k:Int)<l.length)=false:=aJ
        have s:ts.any (kz ts)=false:=by have:=f.o;rwa[bx (by have:=D.o;omega)]at this
        have a4:=ah (show j=if ts.any (fun t=> !iQ ts t)=true then 23 else 0 by rw[a3.o,ap (by rw[s];simp)]);clear s f a3
        go_wp2
        go_loopw [9] (fun v wr=>∃k:Nat,v=.int .i64 k/\k<=l.length/\Below w.heap.size w wr/\Hid ((ts.take k).any (fun t=> !iQ ts t)=false)) (fun v _=>l.length-(intOf v).toNat)
        case atStart=>exact⟨0,rfl,aK _,aq,rfl⟩
        case round=>
         obtain⟨k,rfl,bd,ae,f⟩:=hrel;by_cases T:k<l.length
         ·have R:decide ((k:Int)<l.length)=true:=aM
          have S:(k:Int)<l.length:=ad;have be:(0:Int)<=k:=ad;obtain⟨x,a⟩:∃n,l[k]?=some n:=⟨_,aF T⟩;have h:=ab.o k x a;have d:=lL (p:=fun t=> !iQ ts t) h f.o;have e:(!iQ ts x.t)=true->j=23:=fun G=>by rw[a4.o,au (lM (p:=fun t=> !iQ ts t) h G)]
          have c:=b8.o x (aU a) _ ae (bF.o x k a);rw[show((dU ts x.t.nodes).any (fun z=>(fU ts z.toNat).contains x.t.key)||x.t.key.isEmpty)=iQ ts x.t from rfl]at c;obtain⟨b,bu,rfl,bc,I,J,K,L,M,N⟩:=(u.below ae).at a;obtain⟨⟨name,label,attrs,key,text,nodes⟩,a6,ac,no,bt⟩:=x;unfold dj typeRow at c;simp only at I J K L M N c d e;generalize iQ ts ⟨name,label,attrs,key,text,nodes⟩=q at c d e;obtain⟨O,P⟩:=aE d e;clear d e a h;cases q with
          |false=>
           have y:=ah (P.o rfl);go_wp2_with fail
           refine c.mono ?_;rintro A bz ⟨rfl,Q⟩;clear c
           go_wp2
           go_ret;exact⟨bT y.o.symm,aD ae Q⟩
          |true=>
           go_wp2_with fail
           refine c.mono ?_;rintro A bz ⟨rfl,Q⟩;clear c
           go_wp2
           go_roundw
           case rel=>exact⟨k+1,aG,ad,aD ae Q,O.o⟩
           case measure=>exact aH
         ·have R:decide ((k:Int)<l.length)=false:=aJ
          have s:ts.any (fun t=> !iQ ts t)=false:=by have:=f.o;rwa[bx (by have:=D.o;omega)]at this
          have b6:=ah (show j=0 by rw[a4.o,ap (by rw[s];simp)]);clear s f a4
          go_wp2
          go_ret;exact⟨bT b6.o.symm,ae⟩
   ·have aa:=ah (show j=E by rw[Z.o,au ba])
    have c6:(E !=0)=true:=by rw[iJ];exact ba
    clear Z;go_wp2_with fail
    refine ag.mono ?_;rintro A cN ⟨rfl,ao⟩;clear ag
    go_wp2
    go_ret;exact⟨bT aa.o.symm,aD r ao⟩
def nO{c:Type}(l:List c):Prop:=∀(a b:Nat) (x:c),l[a]?=some x->l[b]?=some x->a=b
theorem Cg{m:Type}{l:List m}(p:nO l)(f:m->Bytes):bV (l.map f)=true↔∃x∈l,∃y∈l,x≠y/\f x=f y:=by
 constructor
 ·intro s
  obtain⟨a,b,v,t,h,i⟩:=Cd _ s;rw[cb]at h i;obtain⟨x,d,n⟩:=mb.1 h;obtain⟨y,e,o⟩:=mb.1 i;refine⟨x,aU d,y,aU e,fun g=> ?_,by rw[n,o]⟩;subst g;have:=p a b x d e;omega
 ·rintro⟨x,d,y,e,r,q⟩
  obtain⟨a,j⟩:=m0.1 d;obtain⟨b,c⟩:=m0.1 e;cases g:bV (l.map f)with
  |true=>rfl
  |false=>
   have:=rC g a b (f x) (by rw[cb,j];rfl) (by rw[cb,c,q];rfl);subst this;rw[j]at c;injection c with c
   exact absurd c r
theorem KK{j:Type}{l:List j}{x:j}(m:nO l)(i:x∉l):nO (l++[x]):=by
 intro a b y c d;by_cases g:a<l.length<;>by_cases h:b<l.length
 ·rw[eF g]at c
  rw[eF h]at d;exact m a b y c d
 ·rw[eF g]at c
  have f:=(aP.1 d).1;rw[cm,vJ]at f;rw[gH ad,show b-l.length=0 by omega]at d;simp at d;subst d;exact absurd (aU c) i
 ·rw[eF h]at d
  have e:=(aP.1 c).1;rw[cm,vJ]at e;rw[gH ad,show a-l.length=0 by omega]at c;simp at c;subst c;exact absurd (aU d) i
 ·have e:=(aP.1 c).1
  have f:=(aP.1 d).1;rw[cm,vJ]at e f;omega
theorem KL{ts:List ax}:∀(l:List ar) (out:List Int),nO out->nO (l.foldl (ky ts) out):=by
 intro l;induction l with
 |nil=>intro out a;exact a
 |cons n t ih=>
  intro out a;rw[qN];refine ih _ ?_;unfold ky;split
  ·split
   ·exact a
   ·rename_i b
    exact KK a (by rwa[m6]at b)
  ·exact a
theorem KM(ts:List ax)(l:List ar):nO (dU ts l):=KL l [] (fun a b x c=>by simp at c)
theorem KN{a:Bytes}{l:List Bytes}(m:(a::l).Pairwise (fun x y=>br x y=true)):(cZ (a::l)).Pairwise (fun x y=>br x y=true/\x≠y)/\∀x∈cZ (a::l),br a x=true:=by
 induction l generalizing a with
 |nil=>
  refine⟨by simp[cZ],fun x c=> ?_⟩;simp[cZ]at c;subst c;unfold br;simp
 |cons b t ih=>
  have h:=zS.1 m;obtain⟨i,g⟩:=ih h.2;have d:=h.1 b (f9 ..);unfold cZ;by_cases e:a=b
  ·subst e
   rw[au rfl];exact⟨i,g⟩
  ·rw[ap e]
   have tr:∀x∈cZ (b::t),br a x=true:=fun x c=>by have:=g x c;unfold br at*;rw[ct]at*;exact zT d this
   refine⟨zS.2 ⟨fun x c=>⟨tr x c,fun j=> ?_⟩,i⟩,fun x c=> ?_⟩
   ·subst j
    have f:=g a c;unfold br at f d;rw[ct]at f d;exact e (zR d f)
   ·rcases eH.1 c with rfl|c
    ·unfold br;simp
    ·exact tr x c
theorem uo{b:Bytes}:∀{l:List Bytes},b∈l->b∈cZ l
 |[],d=>d
 |[a],d=>d
 |a::c::t,d=>by
  simp only[cZ];by_cases e:a=c
  ·rw[au e]
   rcases eH.1 d with d|d
   ·subst d;exact uo (e▸f9 ..)
   ·exact uo d
  ·rw[ap e]
   rcases eH.1 d with d|d
   ·subst d;exact f9 ..
   ·exact f8 _ (uo d)
theorem KO{l:List ar}(e:cw l=0){b:Bytes}:b∈symsS l↔∃n∈l,n.op=2/\n.sym=b:=by
 unfold symsS;rw[au e];have f:b∈(fL l).mergeSort br↔b∈fL l:=vy;have g:b∈fL l↔∃n∈l,n.op=2/\n.sym=b:=by
  unfold fL;rw[zk];constructor
  ·rintro⟨n,d,a⟩
   by_cases c:n.op=2
   ·rw[au c]at a;injection a with a;exact⟨n,d,c,a⟩
   ·rw[ap c]at a;cases a
  ·rintro⟨n,d,c,a⟩
   exact⟨n,d,by rw[au c,a]⟩
 rw[<-g,<-f];exact⟨pR,uo⟩
theorem KP{l:List ar}:nO (symsS l):=by
 unfold symsS;split
 ·have m:((fL l).mergeSort br).Pairwise (fun x y=>br x y=true):=by
   refine List.pairwise_mergeSort ?_ ?_ _
   ·intro a b c n o
    unfold br at*;rw[ct]at*;exact zT n o
   ·intro a b
    unfold br;rw[cM,ct,ct];exact List.le_total a b
  generalize(fL l).mergeSort br=s at m;have f:(cZ s).Pairwise (fun x y=>x≠y):=by
   cases s with
   |nil=>simp[cZ]
   |cons a t=>exact(KN m).1.imp fun d=>d.2
  intro a b x e p;obtain⟨g,h⟩:=aP.1 e;obtain⟨i,j⟩:=aP.1 p;rw[List.pairwise_iff_getElem]at f;rcases zt a b with d|d|d
  ·exact absurd (h.trans j.symm) (f a b g i d)
  ·exact d
  ·exact absurd (j.trans h.symm) (f b a i g d)
 ·intro a b x e;simp at e
theorem uq{ts:List ax}(g:bV (ts.map ax.name)=false)(n:Bytes):ee ts n=match placeS ts n with|some k=>(k:Int)|none=> -1:=by
 rcases um ts n with⟨k,t,a,b,h,_⟩|⟨a,b⟩
 ·cases d:placeS ts n with
  |none=>
   have:=AA ts n;rw[d]at this;have i:(ts.map ax.name).contains n=true:=by rw[m6];exact kO.2 ⟨t,aU a,b⟩
   rw[i]at this;cases this
  |some c=>
   obtain⟨u,e,f⟩:=rz d;have:k=c:=rC g k c n (by rw[cb,a];simp[b]) (by rw[cb,e];simp[f]);rw[h,this]
 ·cases d:placeS ts n with
  |none=>exact a
  |some c=>
   obtain⟨u,e,f⟩:=rz d;exact absurd f (b c u e)
theorem Ch{ts:List ax}(a:bV (ts.map ax.name)=false)(n:Bytes):ee ts n<0↔placeS ts n=none:=by
 rw[uq a n];cases placeS ts n with
 |none=>simp
 |some k=>simp
theorem Ci{ts:List ax}(a:eh ts=0):∀t∈ts,t.text=false->cw t.nodes=0:=by
 induction ts with
 |nil=>intro t b;simp at b
 |cons u ts ih=>
  unfold eh at a;intro t b d;by_cases c:u.text=false/\cw u.nodes≠0
  ·rw[au c]at a;exact absurd a c.2
  ·rw[ap c]at a
   rcases eH.1 b with rfl|b
   ·exact fq fun e=>c ⟨d,e⟩
   ·exact ih a t b d
theorem ur{ts:List ax}(c:ts.any eK=false)(g:eh ts=0){t:ax}(d:t∈ts){b:Bytes}:b∈symsS t.nodes↔∃n∈t.nodes,n.op=2/\n.sym=b:=by
 cases e:t.text with
 |false=>exact KO (Ci g t d e)
 |true=>
  rw[lq]at c;have:=c t d;unfold eK at this;rw[e]at this;have h:t.nodes=[]:=by
   cases f:t.nodes with
   |nil=>rfl
   |cons a r=>rw[f]at this;simp at this
  rw[h,xr];simp
theorem KQ{ts:List ax}(d:bV (ts.map ax.name)=false)(e:ts.any eK=false)(f:eh ts=0){t:ax}(i:t∈ts):iR ts t=(symsS t.nodes).any (fun n=>(placeS ts n).isNone):=by
 rw[eS];unfold iR;rw[gt,gt];constructor
 ·rintro⟨z,m,g⟩
  obtain⟨n,c,a,rfl⟩:=un.1 m;rw[ct]at g;exact⟨n.sym,(ur e f i).2 ⟨n,c,a,rfl⟩,by rw[(Ch d _).1 g];rfl⟩
 ·rintro⟨b,l,h⟩
  obtain⟨n,c,a,rfl⟩:=(ur e f i).1 l;refine⟨ee ts n.sym,un.2 ⟨n,c,a,rfl⟩,?_⟩;rw[ct,Ch d];cases j:placeS ts n.sym with
  |none=>rfl
  |some k=>rw[j]at h;cases h
theorem pd{ts:List ax}(e:bV (ts.map ax.name)=false)(f:ts.any eK=false)(g:eh ts=0){t:ax}(l:t∈ts)(j:∀b∈symsS t.nodes,placeS ts b≠none)(z:Int):z∈dU ts t.nodes↔∃k∈kidsS ts t,z=(k:Int):=by
 rw[un];unfold kidsS;constructor
 ·rintro⟨n,d,c,rfl⟩
  have i:=(ur f g l).2 ⟨n,d,c,rfl⟩;refine⟨_,kO.2 ⟨n.sym,i,rfl⟩,?_⟩;rw[uq e];cases a:placeS ts n.sym with
  |none=>exact absurd a (j _ i)
  |some k=>rfl
 ·rintro⟨k,m,rfl⟩
  obtain⟨b,h,rfl⟩:=kO.1 m;obtain⟨n,d,c,rfl⟩:=(ur f g l).1 h;refine⟨n,d,c,?_⟩;rw[uq e];cases a:placeS ts n.sym with
  |none=>exact absurd a (j _ h)
  |some k=>rfl
theorem KR{ts:List ax}{t:ax}(m:∀b∈symsS t.nodes,placeS ts b≠none):nO (kidsS ts t):=by
 unfold kidsS;intro a b k j l;rw[cb]at j l;obtain⟨x,n,f⟩:=mb.1 j;obtain⟨y,o,g⟩:=mb.1 l;have s:x=y:=by
  cases h:placeS ts x with
  |none=>exact absurd h (m x (aU n))
  |some c=>
   cases i:placeS ts y with
   |none=>exact absurd i (m y (aU o))
   |some d=>
    rw[h]at f;rw[i]at g;simp at f g;subst f;subst g;obtain⟨u,r,q⟩:=rz h;obtain⟨v,e,p⟩:=rz i;rw[r]at e;injection e with e
    subst e;rw[<-q,<-p]
 subst s;exact KP a b x n o
theorem KS{ts:List ax}(c:bV (ts.map ax.name)=false)(d:ts.any eK=false)(e:eh ts=0){t:ax}(f:t∈ts)(a:∀b∈symsS t.nodes,placeS ts b≠none):kz ts t=bV ((kidsS ts t).map (labelAt ts)):=by
 rw[eS];unfold kz nN;rw[Cg (KM ts t.nodes),Cg (KR a)];constructor
 ·rintro⟨x,n,y,o,l,g⟩
  obtain⟨k,i,rfl⟩:=(pd c d e f a x).1 n;obtain⟨j,h,rfl⟩:=(pd c d e f a y).1 o;exact⟨k,i,j,h,fun m=>l (by rw[m]),by simpa using g⟩
 ·rintro⟨k,i,j,h,l,g⟩
  exact⟨k,(pd c d e f a _).2 ⟨k,i,rfl⟩,j,(pd c d e f a _).2 ⟨j,h,rfl⟩,ad,by simpa using g⟩
theorem KT{ts:List ax}(d:bV (ts.map ax.name)=false)(e:ts.any eK=false)(f:eh ts=0){t:ax}(h:t∈ts)(g:∀b∈symsS t.nodes,placeS ts b≠none):(!iQ ts t)=(!t.key.isEmpty&& !(kidsS ts t).any fun k=>(fU ts k).contains t.key):=by
 have i:(dU ts t.nodes).any (fun z=>(fU ts z.toNat).contains t.key)=(kidsS ts t).any fun k=>(fU ts k).contains t.key:=by
  rw[eS,gt,gt];constructor
  ·rintro⟨z,j,a⟩
   obtain⟨k,c,rfl⟩:=(pd d e f h g z).1 j;exact⟨k,c,by simpa using a⟩
  ·rintro⟨k,c,a⟩
   exact⟨(k:Int),(pd d e f h g _).2 ⟨k,c,rfl⟩,by simpa using a⟩
 unfold iQ;rw[i];cases t.key.isEmpty<;>simp
theorem xy{c:Type}{l:List c}{p q:c->Bool}(b:∀x∈l,p x=q x):l.any p=l.any q:=by
 induction l with
 |nil=>rfl
 |cons a t ih=>rw[pJ,pJ,b a (f9 ..),ih fun x d=>b x (f8 _ d)]
theorem Cj(ts:List ax):qh ts=bW ts:=by
 unfold qh bW;split
 ·rfl
 split
 ·rfl
 split
 ·rfl
 unfold jU;by_cases c:bV (ts.map ax.name)=true
 ·rw[au c,au c,au aw]
 rw[ap c,ap c];by_cases g:ts.any (fun t=>dh t.attrs)=true
 ·rw[au g,au g,au aw]
 rw[ap g,ap g];rw[show(fun t:ax=>t.text&&(!t.nodes.isEmpty|| !t.key.isEmpty))=eK from rfl];by_cases d:ts.any eK=true
 ·rw[au d,au d,au aw]
 rw[ap d,ap d];by_cases e:eh ts=0
 ·rw[ap (show¬eh ts≠0 by simp[e]),ap (show¬eh ts≠0 by simp[e])]
  rw[fR]at c d;have l:ts.any (iR ts)=ts.any (fun t=>(symsS t.nodes).any fun n=>(placeS ts n).isNone):=xy fun t a=>KQ c d e a;rw[l];by_cases f:ts.any (fun t=>(symsS t.nodes).any fun n=>(placeS ts n).isNone)=true
  ·rw[au f,au f]
  rw[ap f,ap f];have i:∀t∈ts,∀b∈symsS t.nodes,placeS ts b≠none:=fun t a b m j=>f (gt.2 ⟨t,a,gt.2 ⟨b,m,by rw[j];rfl⟩⟩);rw[xy (q:=fun t=>bV ((kidsS ts t).map (labelAt ts))) fun t a=>KS c d e a (i t a)];by_cases h:ts.any (fun t=>bV ((kidsS ts t).map (labelAt ts)))=true
  ·rw[au h,au h]
  rw[ap h,ap h];rw[xy fun t a=>KT c d e a (i t a)]
 ·rw[au e,au e]
structure KU(ts:List ax):Prop where
 names:bV (ts.map ax.name)=false
 kids:∀t∈ts,∀z,z∈dU ts t.nodes↔∃k∈kidsS ts t,z=(k:Int)
theorem xz{ts:List ax}(a:bW ts=0):KU ts:=by
 have j:=ui a;rw[<-Cj]at a;unfold qh at a;split at a
 ·cases a
 split at a
 ·cases a
 split at a
 ·cases a
 split at a
 ·rename_i h;exact absurd a h
 rename_i c;have c:jU ts=0:=fq c;unfold jU at c;split at c
 ·cases c
 rename_i d;split at c
 ·cases c
 split at c
 ·cases c
 rename_i e;rw[fR]at d e;refine⟨d,fun t f z=>pd d e c f (fun b i g=> ?_) z⟩;have:=j.placed t f b i;rw[g]at this;cases this
theorem KV{ts:List ax}(b:bW ts=0)(n:Bytes):(ee ts n<0/\kQ ts n=(0,16)/\∀a,vS ts n a=(0,16))∨(∃(k:Nat) (t:ax),ts[k]?=some t/\ee ts n=(k:Int)/\kQ ts n=((k:Int),0)/\∀a,vS ts n a=match(kidsS ts t).find? (fun j=>labelAt ts j==a)with|some j=>((j:Int),0)|none=>(0,16)):=by
 have d:=xz b;rw[uq d.names];unfold kQ vS;simp only[au b];cases e:placeS ts n with
 |none=>exact .inl ⟨aw,rfl,fun _=>rfl⟩
 |some k=>
  obtain⟨t,c,_⟩:=rz e;refine .inr ⟨k,t,c,rfl,rfl,fun a=> ?_⟩;simp only[c];cases(kidsS ts t).find? (fun j=>labelAt ts j==a)<;>rfl
theorem KW{ts:List ax}(d:bW ts=0){t:ax}(f:t∈ts)(b:Bytes):
 (∀z∈dU ts t.nodes,0<=z/\z<(ts.length:Int)/\(labelAt ts z.toNat=b->(match(kidsS ts t).find? (fun j=>labelAt ts j==b)with|some j=>((j:Int),(0:Int))|none=>(0,16))=(z,0)))/\
 ((∀z∈dU ts t.nodes,labelAt ts z.toNat≠b)->(match(kidsS ts t).find? (fun j=>labelAt ts j==b)with|some j=>((j:Int),(0:Int))|none=>(0,16))=(0,16)):=by
 have e:=(xz d).kids t f;have m:=(ui d).labels t f;refine⟨fun z g=> ?_,fun n=> ?_⟩
 ·obtain⟨k,l,rfl⟩:=(e z).1 g
  refine⟨ad,xx g,fun c=> ?_⟩;have a:=J6 m l;rw[show labelAt ts ((k:Int).toNat)=labelAt ts k by simp]at c;rw[c]at a;rw[a]
 ·cases a:(kidsS ts t).find? (fun j=>labelAt ts j==b)with
  |none=>rfl
  |some j=>
   have h:=zr a;have i:=zL a;exact absurd (by simpa using h) (n (j:Int) ((e _).2 ⟨j,i,rfl⟩))
theorem KX(l:List am)(o:Option Addr)(cap:Nat)(w:World)(b:cn w o cap l)(d:l.length<=1048576)(n:Bytes):
 Calls prog 21 #[.slice o l.length cap,.string ⟨n.toArray⟩] w fun a w'=>a=.returned (.int .i64 (ee (l.map am.t) n))/\w=w':=by
 have c:=xu l o cap w b d n;go_enter func21,ntmps21
 go_wp2_with fail
 refine c.mono ?_;rintro a w' ⟨rfl,rfl⟩
 go_wp2
 go_ret;exact⟨rfl,rfl⟩
theorem xC{l ys:List am}(a:ys.map am.t=l.map am.t){y:am}(b:y∈ys):∃x∈l,x.t=y.t:=by
 have:y.t∈l.map am.t:=by rw[<-a];exact ki b
 exact kO.1 this
theorem KY{l ys:List am}(d:ys.map am.t=l.map am.t)(a:ej l):ej ys:=by
 have f:ys.length=l.length:=by have:=iK List.length d;simpa using this
 refine⟨by rw[f];exact a.len,fun y c=> ?_,fun y c=> ?_,fun y c=> ?_,fun y c=> ?_,fun y c=> ?_,fun y c=> ?_⟩;all_goals
  obtain⟨x,b,e⟩:=xC d c;rw[<-e]
 ·exact a.name x b
 ·exact a.label x b
 ·exact a.key x b
 ·exact a.attrs x b
 ·exact a.attr x b
 ·exact a.sym x b
end Go.Proofs.YtbacloblanpghaaGreatDoor
