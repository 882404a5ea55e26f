import Derived.Test.YtfeidcmojcijpaaGreatDoorQao
set_option linter.all false
set_option maxRecDepth 100000
set_option maxHeartbeats 0
namespace Go.Proofs.YtfeidcmojcijpaaGreatDoor
open Go.RowKit Tryz
def ki(k:Nat)(c:Int):Bool:=if k=0 then lk c else jN c
def Of l:bp l=true↔(1<=l.length/\l.length<=64)/\(∀k c,l[k]?=some c->ki k c.toNat=true):=by unfold bp;simp only[cM,cf];constructor;rintro⟨⟨e,a⟩,f⟩;refine⟨e,fun k c b=> ?_⟩;unfold ki;by_cases d:k=0;subst d;rw[au rfl];rwa[Kk,Kl,b]at a;rw[ap d];unfold iZ at f;rw[ke]at f;exact f c (aK b);rintro⟨e,a⟩;refine⟨⟨e,?_⟩,?_⟩;have:=a 0 l[0] (cV ad);rw[Kk,Kl,cV ad];exact this;unfold iZ;rw[ke];intro c b;obtain⟨k,d⟩:=qG.1 b;have:=a k c d;unfold ki at this;split at this;unfold jN;rw[this];rfl;exact this
def Og c:jN c=decide ((97<=c/\c<=122)∨(65<=c/\c<=90)∨c=95∨(48<=c/\c<=57)∨c=45∨c=46):=by rw[ft];simp[jN,lk,px];omega
def Oh s w(M:s.size<=9223372036854775807):
 de 36 #[.string s] w (.bool (bp s.data.toList)) fun w'=>w=w':=by
 have x:=(eJ s).zy;have q:=Of s.data.toList;rw[x]at q;generalize bp s.data.toList=l at q;have⟨A,G⟩:=aC q x;clear q x
 go_in
 go_wp2
 go_loop [3] (fun i=>∃k:Nat,i=.int .i64 k/\k<=s.size/\Hid (∀j c,j<k->s.data.toList[j]?=some c->ki j c.toNat=true)) (fun i=>s.size-(intOf i).toNat)
 case atStart=>exact⟨0,rfl,aH _,fun j c o=>absurd o ad⟩
 case round=>
  obtain⟨k,rfl,J,y⟩:=hrel;by_cases p:k<s.size
  ·have I:=bC p
   have v:=Lib.data_getElem? s k p;have N:=s[k].toNat_lt;have F:ki k (s[k].toNat:Nat)=true->∀j c,j<k+1->s.data.toList[j]?=some c->ki j (c.toNat:Nat)=true:=by intro a j c o d;by_cases e:j=k;subst e;rw[v]at d;cases d;exact a;exact y.o j c ad d
   have D:ki k s[k].toNat=false->l=false:=by
    intro a;cases n:l with
    |false=>rfl
    |true=>
     have H:=(A.o.1 n).2 k _ v;rw[H]at a;cases a
   have C:lk s[k].toNat=decide ((97<=(s[k].toNat:Int)/\(s[k].toNat:Int)<=122)∨(65<=(s[k].toNat:Int)/\(s[k].toNat:Int)<=90)∨(s[k].toNat:Int)=95):=rfl;have E:=Og s[k].toNat;have⟨B,z,r,t⟩:=dE F D C E;have K:=bk p;clear F D v C E;rcases(ad:((97<=(s[k].toNat:Int)/\(s[k].toNat:Int)<=122)∨(65<=(s[k].toNat:Int)/\(s[k].toNat:Int)<=90)∨(95<=(s[k].toNat:Int)/\(s[k].toNat:Int)<=95))∨((48<=(s[k].toNat:Int)/\(s[k].toNat:Int)<=57)∨(45<=(s[k].toNat:Int)/\(s[k].toNat:Int)<=45)∨(46<=(s[k].toNat:Int)/\((s[k].toNat:Nat):Int)<=46))∨(((s[k].toNat:Nat):Int)<45∨(47<=((s[k].toNat:Nat):Int)/\((s[k].toNat:Nat):Int)<=47)∨(58<=((s[k].toNat:Nat):Int)/\((s[k].toNat:Nat):Int)<=64)∨(91<=((s[k].toNat:Nat):Int)/\((s[k].toNat:Nat):Int)<=94)∨(96<=((s[k].toNat:Nat):Int)/\((s[k].toNat:Nat):Int)<=96)∨123<=((s[k].toNat:Nat):Int)))with d|d|d
   ·have f:ki k (s[k].toNat:Nat)=true:=by
     unfold ki;rw[r.o,t.o];split<;>rw[cf]<;>omega
    have u:=ah (B.o f);clear f;rcases d with⟨a,b⟩|⟨a,b⟩|⟨a,b⟩
    all_goals
     first
      |(have d95:(((s[k].toNat:Nat):Int)==95)=true:=by rw[nE];omega)
      |(have d95:(((s[k].toNat:Nat):Int)==95)=false:=by rw[dF];omega)
     go_wp2
     go_round
     case rel=>exact⟨_,aD,ad,u.o⟩
     case measure=>exact aM
   ·by_cases h:k=0
    ·have f:ki k (s[k].toNat:Nat)=false:=by
      unfold ki;rw[au h,r.o,dd];omega
     have g:=ah (z.o f);have d0:((k:Int)==0)=true:=qQ;clear f h;rcases d with⟨a,b⟩|⟨a,b⟩|⟨a,b⟩
     all_goals
      have d95:((s[k].toNat:Int)==95)=false:=fU
      go_wp2
      go_ret;exact⟨bJ g.o.zy,rfl⟩
    ·have f:ki k (s[k].toNat:Nat)=true:=by
      unfold ki;rw[ap h,t.o,cf];omega
     have u:=ah (B.o f);have d0:((k:Int)==0)=false:=fU;clear f h;rcases d with⟨a,b⟩|⟨a,b⟩|⟨a,b⟩
     all_goals
      have d95:((s[k].toNat:Int)==95)=false:=fU;first
       |(have d45:(((s[k].toNat:Nat):Int)==45)=true:=by rw[nE];omega)
       |(have d45:(((s[k].toNat:Nat):Int)==45)=false:=by rw[dF];omega)
      first
       |(have d46:(((s[k].toNat:Nat):Int)==46)=true:=by rw[nE];omega)
       |(have d46:(((s[k].toNat:Nat):Int)==46)=false:=by rw[dF];omega)
      go_wp2
      go_round
      case rel=>exact⟨_,aD,ad,u.o⟩
      case measure=>exact aM
   ·have f:ki k (s[k].toNat:Nat)=false:=by
     unfold ki;rw[r.o,t.o];split<;>rw[dd]<;>omega
    have g:=ah (z.o f);clear f;have d95:((s[k].toNat:Int)==95)=false:=fU;have d45:((s[k].toNat:Int)==45)=false:=fU;have d46:((s[k].toNat:Int)==46)=false:=fU;rcases(ad:k=0∨0<k)with h|h
    all_goals
     first
      |(have d0:((k:Int)==0)=true:=by rw[nE];omega)
      |(have d0:((k:Int)==0)=false:=by rw[dF];omega)
     clear h;rcases d with a|⟨a,b⟩|⟨a,b⟩|⟨a,b⟩|⟨a,b⟩|a
     all_goals
      first
       |(have u122:decide (((s[k].toNat:Nat):Int)<=122)=true:=by rw[cf];omega)
       |(have u122:decide (((s[k].toNat:Nat):Int)<=122)=false:=by rw[dd];omega)
      first
       |(have u90:decide (((s[k].toNat:Nat):Int)<=90)=true:=by rw[cf];omega)
       |(have u90:decide (((s[k].toNat:Nat):Int)<=90)=false:=by rw[dd];omega)
      first
       |(have u57:decide (((s[k].toNat:Nat):Int)<=57)=true:=by rw[cf];omega)
       |(have u57:decide (((s[k].toNat:Nat):Int)<=57)=false:=by rw[dd];omega)
      go_wp2
      go_ret;exact⟨bJ g.o.zy,rfl⟩
  have I:=bG p;have n:l=decide (1<=s.size/\s.size<=64):=by rw[ft,A.o,cf];refine⟨fun a=>a.1,fun a=>⟨a,?_⟩⟩;intro j c d;have o:=(aF.1 d).1;rw[G.o]at o;exact y.o j c ad d
  have g:=ah n;clear n;rcases(ad:s.size<1∨(1<=s.size/\s.size<=64)∨64<s.size)with a|⟨a,b⟩|a
  have m:Hid (l=false):=by show _=_;rw[g.o,dd];omega
  go_wp2
  go_ret;exact⟨bJ m.o.zy,rfl⟩;have m:Hid (l=true):=by show _=_;rw[g.o,cf];omega
  go_wp2
  go_ret;exact⟨bJ (by rw[m.o,cf];omega),rfl⟩;have m:Hid (l=false):=by show _=_;rw[g.o,dd];omega
  go_wp2
  go_ret;exact⟨bJ (by rw[m.o,dd];omega),rfl⟩
def kT(n:ax):List Int:=if n.op=3∨n.op=4 then [n.a,n.b]else if n.op=5 then [n.a]else []
def sV(n:ax):Bool:= !(decide (n.op<0)||decide (n.op>5)||(n.op !=2&& !n.sym.isEmpty)||(decide (n.op<3)&&(n.a !=0||n.b !=0))||(n.op==5&&n.b !=0))
def sW(a b:Int):(a==b)=decide (a=b):=by rw[ft];simp
def AX i n:eA i n=(sV n&&(kT n).all (cy i)):=by
 obtain⟨c,sym,a,b⟩:=n;unfold eA sV kT;simp only;rcases(ad:c=0∨c=1∨c=2∨c=3∨c=4∨c=5∨c<0∨5<c)with rfl|rfl|rfl|rfl|rfl|rfl|d|d
 cases sym<;>simp[bne,sW]
 cases sym<;>simp[bne,sW]
 cases sym<;>simp[bne,sW]
 cases sym<;>simp
 cases sym<;>simp
 cases sym<;>simp[bne,sW,Bool.and_comm]
 rw[ap ad,ap ad,ap ad,ap ad];simp[d];rw[ap ad,ap ad,ap ad,ap ad];simp[d]
def Oi n:bQ n=(kT n).map Int.toNat:=by unfold bQ kT;split;rfl;split<;>rfl
def PZ(w:World)(g:Nat)(o:Option Addr)(ps:List Int):Prop:=(ps=[]/\o=none)∨(o=g/\g<w/\∀j u,ps[j]?=some u->gC w g j (.int .i64 u))
def PZ.at{w:World}{g:Nat}{o:Option Addr}{ps:List Int}(b:PZ w g o ps){j:Nat}{u:Int}(a:ps[j]?=some u):o=some ⟨g,0,none⟩/\w.cell? ⟨g,j,none⟩=some (.int .i64 u):=by
 rcases b with⟨rfl,_⟩|⟨rfl,_,c⟩
 simp at a;exact⟨rfl,c j u a⟩
def PZ.set{w:World}{g:Nat}{o:Option Addr}{ps:List Int}(a:PZ w g o ps){U x:Nat}{v:Value}(d:U≠g):PZ (w.setCell ⟨U,x,none⟩ v) g o ps:=by
 rcases a with a|⟨b,c,f⟩
 exact .inl a;refine .inr ⟨b,by simpa using c,fun j u h=> ?_⟩;rw[<-f j u h];show World.cell? _ _=World.cell? _ _
 unfold World.cell?;simp only;rw[aU w U x g v (fun e=>d e.zy)]
def Oj n w:
 dB 92 #[.agg #[n.op,n.sym,n.a,n.b]] w fun e w'=>∃g o,w.heap.size<=g/\e=.returned (.slice o (kT n) (kT n))/\PZ w' g o (kT n)/\aR w w':=by
 obtain⟨d,sym,a,b⟩:=n;have m:aR w (cT w #[d,sym,a,b] 105):=aP;have q:∀(w1:World) (H:Nat),w1.heap.size=H->Below w.heap.size w w1->w.heap.size<=H/\PZ (w1.alloc (.cells #[.int .i64 a,.int .i64 b] 3)) H (some ⟨H,0,none⟩) [a,b]/\Below w.heap.size w (w1.alloc (.cells #[.int .i64 a,.int .i64 b] 3)):=by
  rintro w1 _ rfl f;refine⟨f.size,.inr ⟨rfl,aj,fun j u c=> ?_⟩,f.alloc f.size _⟩;have:=bj _ _ j _ _ _ (aN w1 (.cells #[a,b] 3));rw[this];match j,c with
  |0,c=>simp at c;subst c;rfl
  |1,c=>simp at c;subst c;rfl
  |j+2,c=>simp at c
 have one:∀(w1:World) (H:Nat),w1.heap.size=H->Below w.heap.size w w1->w.heap.size<=H/\PZ (w1.alloc (.cells #[.int .i64 a] 3)) H (some ⟨H,0,none⟩) [a]/\Below w.heap.size w (w1.alloc (.cells #[.int .i64 a] 3)):=by
  rintro w1 _ rfl f;refine⟨f.size,.inr ⟨rfl,aj,fun j u c=> ?_⟩,f.alloc f.size _⟩;have:=bj _ _ j _ _ _ (aN w1 (.cells #[a] 3));rw[this];match j,c with
  |0,c=>simp at c;subst c;rfl
  |j+1,c=>simp at c
 have⟨p,One⟩:=aC q one;clear q one;unfold kT;simp only;rcases(ad:d=3∨d=4∨d=5∨(d≠3/\d≠4/\d≠5))with rfl|rfl|rfl|⟨r,s,t⟩
 ·go_in
  go_wp2
  go_ret;obtain⟨h,i,l⟩:=p.out _ (w+1) aj m;exact⟨_,h,_,rfl,i,l⟩
 ·go_in
  go_wp2
  go_ret;obtain⟨h,i,l⟩:=p.out _ (w+1) aj m;exact⟨_,h,_,rfl,i,l⟩
 ·go_in
  go_wp2
  go_ret;obtain⟨h,i,l⟩:=One.out _ (w+1) aj m;exact⟨_,h,_,rfl,i,l⟩
 ·have d3:(d==3)=false:=by rw[dF];exact r
  have d4:(d==4)=false:=by rw[dF];exact s
  have d5:(d==5)=false:=by rw[dF];exact t
  rw[ap ad,ap ad]
  go_in
  go_wp2
  go_ret;refine⟨_,none,ay _,rfl,.inl ⟨rfl,rfl⟩,m⟩
def sX l w(a:l.length<=1048576):de 36 #[.string ⟨l.toArray⟩] w (.bool (bp l)) fun w'=>w=w':=by have:=Oh ⟨l.toArray⟩ w (by rw[eJ];show l.length<=_;omega);omega
structure jT(U:Nat)(us:List Nat)(w0 w:World):Prop where
 uses:qM w U us
 O:Below w0.heap.size w0 w
 U0:w0.heap.size<=U
def jT.lt{U:Nat}{us:List Nat}{b w:World}(a:jT U us b w):U<w.heap.size:=aS a.uses
def jT.grow{U:Nat}{us:List Nat}{c w w':World}(a:jT U us c w)(b:Below w.heap.size w w'):jT U us c w':=⟨(b.J U a.lt).Z a.uses,a.O.Z (b.zz a.O.size),a.U0⟩
def jT.bump{U:Nat}{us:List Nat}{b w:World}(a:jT U us b w){x:Nat}(c:x<us.length):jT U (bump us x) b (w.setCell ⟨U,x,none⟩ (.int .i64 ((us.getD x 0:Nat)+1:Int))):=⟨a.uses.bump c,a.O.setCell a.U0 _,a.U0⟩
def jT.cell{U:Nat}{us:List Nat}{d w:World}(a:jT U us d w){x:Nat}(c:x<us.length):w.cell? ⟨U,x,none⟩=some (.int .i64 ((us.getD x 0:Nat):Int))/\w.frozen? ⟨U,x,none⟩=false:=by have b:w.heap[U]?=_:=a.uses;refine⟨?_,by simp[World.frozen?,b]⟩;rw[bj w U x _ _ _ a.uses];simp[cV c]
def ya{l}(b:¬1024<l.length)(a:gB l=false):bK l=12:=by unfold bK;rw[ap b,au a]
def Ol{l}(b:¬1024<l.length)(a:gB l=true):bK l=if l.any (fun n=>decide (n.op=2)&& !bp n.sym)=true then 11 else 0:=by unfold bK;rw[ap b,ap (by rw[a];simp)]
def Om{l j}(b:j<l.length-1)(a:dG l j≠1):gB l=false:=by unfold gB;rw[oy];refine .inl ?_;rw[oy];refine .inr ?_;rw[C4];exact⟨j,eT.2 b,by simpa using a⟩
def On{l}(d:l≠[])(a:d9 0 l=true)(c:∀j,j<l.length-1->dG l j=1):gB l=true:=by unfold gB;rw[a,wJ,cM];refine⟨?_,by cases l<;>simp_all⟩;rw[ke];intro j b;rw[c j (eT.1 b)];rfl
def Oo l o cap w(b8:dv w o cap l)(R:∀n∈l,n.sym.length<=1048576):
 cX 53 #[.slice o l cap] w (.int .i64 (bK l)):=by
 obtain⟨af,c⟩:=am (bK l);rw[<-c];have a9:=ah c;clear c;have b9:=ah R;clear R;by_cases bd:1024<l.length
 ·have c:decide ((l:Int)>1024)=true:=bT
  have O:af=17:=by rw[a9.o];unfold bK;omega
  have f:=ah O;clear O
  go_in
  go_wp2
  go_ret;exact⟨da f.o.zy,aA _ _⟩
 have c:decide ((l:Int)>1024)=false:=bU;by_cases bE:l.length=0
 ·have c:((l:Int)==0)=true:=qQ
  have O:af=12:=by rw[a9.o];apply ya bd;obtain rfl:=pp bE;rfl
  have f:=ah O;clear O
  go_in
  go_wp2
  go_ret;exact⟨da f.o.zy,aA _ _⟩
 have c:((l:Int)==0)=false:=fU;have⟨A,q,s,t,z⟩:=cZ lm;have c:=DV l;have d:=ah c;clear c;have h:jT w (List.replicate l 0) w (cT w ((List.replicate l 0).map fun u=>Value.int .i64 (u:Nat)) 3):=
  ⟨aN w _,aP,ay _⟩
 have p:∀j,(List.replicate l.length 0).getD j 0=dG (l.take 0) j:=by
  intro j;have:dG (l.take 0) j=0:=by simp[dG]
  rw[this,cB,nD];split<;>rfl
 have⟨c,r⟩:=aC p Oj;clear p
 go_in
 go_wp2_with(first
  |(at_make;go_must (apply wpList_make_row _ rfl _ _ _ rfl 3 A _ j9 q s t rfl _ _ _ rfl rfl (by rw[z];omega) ad)))
 rw[d.o];clear d;go_loopw [4] (fun i wr=>∃(k:Nat) (us:List Nat),i=.int .i64 k/\k<=l/\us=l.length/\jT w us w wr/\Hid (d9 0 (l.take k)=true/\∀j,us.getD j 0=dG (l.take k) j)) (fun i _=>l-(intOf i).toNat)
 case atStart=>exact⟨0,_,rfl,aH _,qB,h,rfl,c.o⟩
 case round=>
  obtain⟨k,us,rfl,d,al,bc,ba⟩:=hrel;obtain⟨b5,rfl⟩:=am wr;clear h c;by_cases bq:k<l
  ·have cc:=bC bq
   have c:=bk bq;have c:=aL k;have⟨n,c⟩:=aT bq;obtain⟨b,cd,rfl,cb,a6,a7,an,ao⟩:=(b8.O bc.O).at c;have d:∀j,us.getD j 0<=2048:=fun j=>by rw[ba.o.2];have:=DU (l.take k) j;rw[eh]at this;omega
   have bf:=ah d;clear d;have s:sV n=false->af=12:=fun h=>by rw[a9.o];exact ya bd (Ab c (by rw[AX,h];rfl))
   have t:∀x∈kT n,cy k x=false->af=12:=fun x q d=>by rw[a9.o];refine ya bd (Ab c ?_);rw[AX,oy];exact .inr (C4.2 ⟨x,q,by rw[d];simp⟩)
   have p:∀d:List Nat,sV n=true->(∀x∈kT n,cy k x=true)->(∀j,d.getD j 0=us.getD j 0+((kT n).map Int.toNat).count j)->d9 0 (l.take (k+1))=true/\∀j,d.getD j 0=dG (l.take (k+1)) j:=by intro d h A z;refine⟨by rw[Aa c,ba.o.1,AX,h,ke.2 A];rfl,fun j=> ?_⟩;rw[z,uq c,ba.o.2,Oi]
   have A:=fun w1=>r.o n w1;have h:(kT n).length<=2:=by unfold kT;split<;>(try split)<;>simp
   have⟨ps,z⟩:=am (kT n);rw[<-z]at t p h;have aa:∀w1,Calls prog 92 #[.agg #[.int .i64 n.op,.string ⟨n.sym.toArray⟩,.int .i64 n.a,.int .i64 n.b]] w1 fun e w'=>∃g o,w1.heap.size<=g/\e=.returned (.slice o ps.length ps.length)/\PZ w' g o ps/\Below w1.heap.size w1 w':=by rw[z];exact A
   have h:sV n= !(decide _||decide _||(n.op !=2&& !n.sym.isEmpty)||(decide _&&(n.a !=0||n.b !=0))||(n.op==5&&n.b !=0)):=rfl;obtain⟨r,sym,a,V⟩:=n;simp only at a6 a7 an ao aa h;generalize sV ⟨r,sym,a,V⟩=bi at s p h;have⟨K,ae,bg,I⟩:=dE s t p h;clear A z c s t p h;have X:aR b5 (cT b5 #[r,sym,a,V] 105):=aP;have W:=bc.grow X;have h:=bc.lt;have h:=K.o;have J:=W.O;clear h;by_cases h:r<0
   ·have bz:decide (r<0)=true:=by rw[cf];exact h
    have f:=ah (K.o (by rw[I.o];simp[h]))
    go_wp2
    go_ret;exact⟨da f.o.zy,J⟩
   have bz:decide (r<0)=false:=by rw[dd];exact h
   by_cases h:r>5
   ·have bA:decide (r>5)=true:=by rw[cf];exact h
    have f:=ah (K.o (by rw[I.o];simp[h]))
    go_wp2
    go_ret;exact⟨da f.o.zy,J⟩
   have bA:decide (r>5)=false:=by rw[dd];exact h
   rcases(ad:r=2∨(r≠2/\r<3)∨(r≠2/\¬r<3/\r≠5)∨r=5)with rfl|⟨bu,bw⟩|⟨bu,bw,ca⟩|rfl
   ·rcases gK (a=0)with Z|Z
    ·subst Z
     rcases gK (V=0)with P|P
     ·subst P
      have a0:=ah (show bi=true by rw[I.o];rfl);go_wp2_with fail
      apply(aa _).zz;rintro e b4 ⟨g,a5,b0,rfl,N,Q⟩;have M:=W.grow Q;have a4:w≠g:=aQ X.size;clear aa a6 a7 an ao Q J W X
      go_wp2
      go_loopw [7] (fun v T=>∃(j:Nat) (d:List Nat),v=.int .i64 j/\j<=ps/\d=l.length/\jT w d w T/\PZ T g a5 ps/\Hid ((∀m,d.getD m 0=us.getD m 0+((ps.take j).map Int.toNat).count m)/\∀x∈ps.take j,cy k x=true)) (fun v _=>ps-(intOf v).toNat)
      case atStart=>exact⟨0,us,rfl,aH _,al,M,N,fun m=>aj,fun x c=>by simp at c⟩
      case round=>
       obtain⟨j,d,rfl,be,F,z,C,p⟩:=hrel;clear M N;by_cases t:j<ps
       ·have Y:=bC t
        have bo:=bk t;have bl:=aL j;have⟨x,c⟩:=aT t;obtain⟨rfl,b6⟩:=C.at c;have q:=aK c;have D:=z.O;by_cases G:x<0
        ·have d1:decide (x<0)=true:=by rw[cf];exact G
         have f:=ah (ae.o x q (by unfold cy;rw[oy,dd];omega));clear c q
         go_wp2
         go_ret;exact⟨da f.o.zy,D⟩
        have d1:decide (x<0)=false:=by rw[dd];exact G
        by_cases H:x>=k
        ·have d2:decide (x>=(k:Int))=true:=by rw[cf];exact H
         have f:=ah (ae.o x q (by unfold cy;rw[oy,dd,dd];omega));clear c q
         go_wp2
         go_ret;exact⟨da f.o.zy,D⟩
        have d2:decide (x>=(k:Int))=false:=by rw[dd];exact H
        obtain⟨y,rfl⟩:∃y:Nat,x=y:=⟨x.toNat,ad⟩;have A:y<d:=ad;have⟨ab,b7⟩:=z.cell A;have E:=z.bump A;have a2:=aL y;have b1:y<k:=ad;have ag:(y:Int)<l:=ad;have B:d.getD y 0<=4096:=by have bF:=p.o.1 y;have a3:=bf.o y;have bZ:((ps.take j).map Int.toNat).count y<=2:=aW zE (by rw[bn,eh];omega);omega
        have s:Hid ((∀m,(bump d y).getD m 0=us.getD m 0+((ps.take (j+1)).map Int.toNat).count m)/\∀x∈ps.take (j+1),cy k x=true):=by
         rw[bH,c];refine⟨fun m=> ?_,fun x h=> ?_⟩;rw[oE A,p.o.1 m,gL,r8];simp[lZ];rcases dk.1 h with h|h
         exact p.o.2 x h;simp at h;subst h;unfold cy;simp;omega
        generalize d.getD y 0=S at ab B E;have b2:=aL S;have b3:(S:Int)<=4096:=ad;clear B;have⟨aw,av⟩:=aC E C;have a1:=ah F;clear c q E C D G H al F A
        go_wp2
        go_roundw
        case rel=>exact⟨_,_,aD,ad,by rw[i6];exact a1.o,aw.o,av.o.set a4,s.o⟩
        case measure=>exact aM
       ·have Y:=bG t
        have s:=ah (bg.o d a0.o (by have:=p.o.2;rwa[bI ad]at this) (by have:=p.o.1;rwa[bI ad]at this))
        go_wp2
        go_roundw
        case rel=>exact⟨_,d,aD,ad,F,z,s.o⟩
        case measure=>exact aM
     ·have bb:(V !=0)=true:=by rw[ka];exact P
      have f:=ah (K.o (by rw[I.o];simp[bb]))
      go_wp2
      go_ret;exact⟨da f.o.zy,J⟩
    ·have bt:(a !=0)=true:=by rw[ka];exact Z
     have f:=ah (K.o (by rw[I.o];simp[bt]))
     go_wp2
     go_ret;exact⟨da f.o.zy,J⟩
   ·have a2:(r !=2)=true:=by rw[ka];exact bu
    have ag:decide (r<3)=true:=by rw[cf];exact bw
    have bB:(r==5)=false:=fU;rcases gK (sym=[])with R|R
    ·subst R
     rcases gK (a=0)with Z|Z
     ·subst Z
      rcases gK (V=0)with P|P
      ·subst P
       have a0:=ah (show bi=true by rw[I.o,bz,bA,bB];simp);go_wp2_with fail
       apply(aa _).zz;rintro e b4 ⟨g,a5,b0,rfl,N,Q⟩;have M:=W.grow Q;have a4:w≠g:=aQ X.size;clear aa a6 a7 an ao Q J W X
       go_wp2
       go_loopw [7] (fun v T=>∃(j:Nat) (d:List Nat),v=.int .i64 j/\j<=ps/\d=l.length/\jT w d w T/\PZ T g a5 ps/\Hid ((∀m,d.getD m 0=us.getD m 0+((ps.take j).map Int.toNat).count m)/\∀x∈ps.take j,cy k x=true)) (fun v _=>ps-(intOf v).toNat)
       case atStart=>exact⟨0,us,rfl,aH _,al,M,N,fun m=>aj,fun x c=>by simp at c⟩
       case round=>
        obtain⟨j,d,rfl,be,F,z,C,p⟩:=hrel;clear M N;by_cases t:j<ps
        ·have Y:=bC t
         have bo:=bk t;have bl:=aL j;have⟨x,c⟩:=aT t;obtain⟨rfl,b6⟩:=C.at c;have q:=aK c;have D:=z.O;by_cases G:x<0
         ·have d1:decide (x<0)=true:=by rw[cf];exact G
          have f:=ah (ae.o x q (by unfold cy;rw[oy,dd];omega));clear c q
          go_wp2
          go_ret;exact⟨da f.o.zy,D⟩
         have d1:decide (x<0)=false:=by rw[dd];exact G
         by_cases H:x>=k
         ·have d2:decide (x>=(k:Int))=true:=by rw[cf];exact H
          have f:=ah (ae.o x q (by unfold cy;rw[oy,dd,dd];omega));clear c q
          go_wp2
          go_ret;exact⟨da f.o.zy,D⟩
         have d2:decide (x>=(k:Int))=false:=by rw[dd];exact H
         obtain⟨y,rfl⟩:∃y:Nat,x=y:=⟨x.toNat,ad⟩;have A:y<d:=ad;have⟨ab,b7⟩:=z.cell A;have E:=z.bump A;have a2:=aL y;have b1:y<k:=ad;have ag:(y:Int)<l:=ad;have B:d.getD y 0<=4096:=by have bF:=p.o.1 y;have a3:=bf.o y;have bZ:((ps.take j).map Int.toNat).count y<=2:=aW zE (by rw[bn,eh];omega);omega
         have s:Hid ((∀m,(bump d y).getD m 0=us.getD m 0+((ps.take (j+1)).map Int.toNat).count m)/\∀x∈ps.take (j+1),cy k x=true):=by
          rw[bH,c];refine⟨fun m=> ?_,fun x h=> ?_⟩;rw[oE A,p.o.1 m,gL,r8];simp[lZ];rcases dk.1 h with h|h
          exact p.o.2 x h;simp at h;subst h;unfold cy;simp;omega
         generalize d.getD y 0=S at ab B E;have b2:=aL S;have b3:(S:Int)<=4096:=ad;clear B;have⟨aw,av⟩:=aC E C;have a1:=ah F;clear c q E C D G H al F A
         go_wp2
         go_roundw
         case rel=>exact⟨_,_,aD,ad,by rw[i6];exact a1.o,aw.o,av.o.set a4,s.o⟩
         case measure=>exact aM
        ·have Y:=bG t
         have s:=ah (bg.o d a0.o (by have:=p.o.2;rwa[bI ad]at this) (by have:=p.o.1;rwa[bI ad]at this))
         go_wp2
         go_roundw
         case rel=>exact⟨_,d,aD,ad,F,z,s.o⟩
         case measure=>exact aM
      ·have bb:(V !=0)=true:=by rw[ka];exact P
       have f:=ah (K.o (by rw[I.o];simp[bb,ag]))
       go_wp2
       go_ret;exact⟨da f.o.zy,J⟩
     ·have bt:(a !=0)=true:=by rw[ka];exact Z
      have f:=ah (K.o (by rw[I.o];simp[bt,ag]))
      go_wp2
      go_ret;exact⟨da f.o.zy,J⟩
    ·have Z:sym.isEmpty=false:=by cases sym<;>simp_all
     have f:=ah (K.o (by rw[I.o];simp[Z,a2]))
     go_wp2
     go_ret;exact⟨da f.o.zy,J⟩
   ·have a2:(r !=2)=true:=by rw[ka];exact bu
    have ag:decide (r<3)=false:=by rw[dd];exact bw
    have bB:(r==5)=false:=by rw[dF];exact ca
    rcases gK (sym=[])with R|R
    ·subst R
     have a0:=ah (show bi=true by rw[I.o,bz,bA,ag,bB];simp);go_wp2_with fail
     apply(aa _).zz;rintro e b4 ⟨g,a5,b0,rfl,N,Q⟩;have M:=W.grow Q;have a4:w≠g:=aQ X.size;clear aa a6 a7 an ao Q J W X
     go_wp2
     go_loopw [7] (fun v T=>∃(j:Nat) (d:List Nat),v=.int .i64 j/\j<=ps/\d=l.length/\jT w d w T/\PZ T g a5 ps/\Hid ((∀m,d.getD m 0=us.getD m 0+((ps.take j).map Int.toNat).count m)/\∀x∈ps.take j,cy k x=true)) (fun v _=>ps-(intOf v).toNat)
     case atStart=>exact⟨0,us,rfl,aH _,al,M,N,fun m=>aj,fun x c=>by simp at c⟩
     case round=>
      obtain⟨j,d,rfl,be,F,z,C,p⟩:=hrel;clear M N;by_cases t:j<ps
      ·have Y:=bC t
       have bo:=bk t;have bl:=aL j;have⟨x,c⟩:=aT t;obtain⟨rfl,b6⟩:=C.at c;have q:=aK c;have D:=z.O;by_cases G:x<0
       ·have d1:decide (x<0)=true:=by rw[cf];exact G
        have f:=ah (ae.o x q (by unfold cy;rw[oy,dd];omega));clear c q
        go_wp2
        go_ret;exact⟨da f.o.zy,D⟩
       have d1:decide (x<0)=false:=by rw[dd];exact G
       by_cases H:x>=k
       ·have d2:decide (x>=k)=true:=by rw[cf];exact H
        have f:=ah (ae.o x q (by unfold cy;rw[oy,dd,dd];omega));clear c q
        go_wp2
        go_ret;exact⟨da f.o.zy,D⟩
       have d2:decide (x>=k)=false:=by rw[dd];exact H
       obtain⟨y,rfl⟩:∃y:Nat,x=y:=⟨x.toNat,ad⟩;have A:y<d:=ad;have⟨ab,b7⟩:=z.cell A;have E:=z.bump A;have a2:=aL y;have b1:y<k:=ad;have ag:(y:Int)<l:=ad;have B:d.getD y 0<=4096:=by have bF:=p.o.1 y;have a3:=bf.o y;have bZ:((ps.take j).map Int.toNat).count y<=2:=aW zE (by rw[bn,eh];omega);omega
       have s:Hid ((∀m,(bump d y).getD m 0=us.getD m 0+((ps.take (j+1)).map Int.toNat).count m)/\∀x∈ps.take (j+1),cy k x=true):=by
        rw[bH,c];refine⟨fun m=> ?_,fun x h=> ?_⟩;rw[oE A,p.o.1 m,gL,r8];simp[lZ];rcases dk.1 h with h|h
        exact p.o.2 x h;simp at h;subst h;unfold cy;simp;omega
       generalize d.getD y 0=S at ab B E;have b2:=aL S;have b3:(S:Int)<=4096:=ad;clear B;have⟨aw,av⟩:=aC E C;have a1:=ah F;clear c q E C D G H al F A
       go_wp2
       go_roundw
       case rel=>exact⟨_,_,aD,ad,by rw[i6];exact a1.o,aw.o,av.o.set a4,s.o⟩
       case measure=>exact aM
      ·have Y:=bG t
       have s:=ah (bg.o d a0.o (by have:=p.o.2;rwa[bI ad]at this) (by have:=p.o.1;rwa[bI ad]at this))
       go_wp2
       go_roundw
       case rel=>exact⟨_,d,aD,ad,F,z,s.o⟩
       case measure=>exact aM
    ·have Z:sym.isEmpty=false:=by cases sym<;>simp_all
     have f:=ah (K.o (by rw[I.o];simp[Z,a2]))
     go_wp2
     go_ret;exact⟨da f.o.zy,J⟩
   ·rcases gK (sym=[])with R|R
    ·subst R
     rcases gK (V=0)with P|P
     ·subst P
      have a0:=ah (show bi=true by rw[I.o];rfl);go_wp2_with fail
      apply(aa _).zz;rintro e b4 ⟨g,a5,b0,rfl,N,Q⟩;have M:=W.grow Q;have a4:w≠g:=aQ X.size;clear aa a6 a7 an ao Q J W X
      go_wp2
      go_loopw [7] (fun v T=>∃(j:Nat) (d:List Nat),v=.int .i64 j/\j<=ps/\d=l.length/\jT w d w T/\PZ T g a5 ps/\Hid ((∀m,d.getD m 0=us.getD m 0+((ps.take j).map Int.toNat).count m)/\∀x∈ps.take j,cy k x=true)) (fun v _=>ps-(intOf v).toNat)
      case atStart=>exact⟨0,us,rfl,aH _,al,M,N,fun m=>aj,fun x c=>by simp at c⟩
      case round=>
       obtain⟨j,d,rfl,be,F,z,C,p⟩:=hrel;clear M N;by_cases t:j<ps
       ·have Y:=bC t
        have bo:=bk t;have bl:=aL j;have⟨x,c⟩:=aT t;obtain⟨rfl,b6⟩:=C.at c;have q:=aK c;have D:=z.O;by_cases G:x<0
        ·have d1:decide (x<0)=true:=by rw[cf];exact G
         have f:=ah (ae.o x q (by unfold cy;rw[oy,dd];omega));clear c q
         go_wp2
         go_ret;exact⟨da f.o.zy,D⟩
        have d1:decide (x<0)=false:=by rw[dd];exact G
        by_cases H:x>=k
        ·have d2:decide (x>=k)=true:=by rw[cf];exact H
         have f:=ah (ae.o x q (by unfold cy;rw[oy,dd,dd];omega));clear c q
         go_wp2
         go_ret;exact⟨da f.o.zy,D⟩
        have d2:decide (x>=(k:Int))=false:=by rw[dd];exact H
        obtain⟨y,rfl⟩:∃y:Nat,x=y:=⟨x.toNat,ad⟩;have A:y<d:=ad;have⟨ab,b7⟩:=z.cell A;have E:=z.bump A;have a2:=aL y;have b1:y<k:=ad;have ag:(y:Int)<l:=ad;have B:d.getD y 0<=4096:=by have bF:=p.o.1 y;have a3:=bf.o y;have bZ:((ps.take j).map Int.toNat).count y<=2:=aW zE (by rw[bn,eh];omega);omega
        have s:Hid ((∀m,(bump d y).getD m 0=us.getD m 0+((ps.take (j+1)).map Int.toNat).count m)/\∀x∈ps.take (j+1),cy k x=true):=by
         rw[bH,c];refine⟨fun m=> ?_,fun x h=> ?_⟩;rw[oE A,p.o.1 m,gL,r8];simp[lZ];rcases dk.1 h with h|h
         exact p.o.2 x h;simp at h;subst h;unfold cy;simp;omega
        generalize d.getD y 0=S at ab B E;have b2:=aL S;have b3:(S:Int)<=4096:=ad;clear B;have⟨aw,av⟩:=aC E C;have a1:=ah F;clear c q E C D G H al F A
        go_wp2
        go_roundw
        case rel=>exact⟨_,_,aD,ad,by rw[i6];exact a1.o,aw.o,av.o.set a4,s.o⟩
        case measure=>exact aM
       ·have Y:=bG t
        have s:=ah (bg.o d a0.o (by have:=p.o.2;rwa[bI ad]at this) (by have:=p.o.1;rwa[bI ad]at this))
        go_wp2
        go_roundw
        case rel=>exact⟨_,d,aD,ad,F,z,s.o⟩
        case measure=>exact aM
     ·have bb:(V !=0)=true:=by rw[ka];exact P
      have f:=ah (K.o (by rw[I.o];simp[bb]))
      go_wp2
      go_ret;exact⟨da f.o.zy,J⟩
    ·have Z:sym.isEmpty=false:=by cases sym<;>simp_all
     have f:=ah (K.o (by rw[I.o];simp[Z]))
     go_wp2
     go_ret;exact⟨da f.o.zy,J⟩
  ·have cc:=bG bq
   have d:d9 0 l=true/\∀j,us.getD j 0=dG l j:=by have:=ba.o;rwa[bI ad]at this
   have q:=fun j (be:j<l.length)=>bc.cell (x:=j) ad;have h:=bc.O;have⟨z,A⟩:=aC d q;clear d q ba
   go_wp2
   go_loop [8] (fun v=>∃j:Nat,v=.int .i64 j/\j<=l-1/\Hid (∀m,m<j->dG l m=1)) (fun v=>l-(intOf v).toNat)
   case atStart=>exact⟨0,rfl,aH _,fun m d=>absurd d ad⟩
   case round=>
    obtain⟨j,rfl,be,p⟩:=hrel;by_cases t:j<l-1
    ·have Y:decide ((j:Int)<l-1)=true:=bT
     have bo:(j:Int)<l:=ad;have bl:=aL j;have⟨ab,_⟩:=A.o j ad;have B:=z.o.2 j;generalize us.getD j 0=u at ab B;by_cases q:u=1
     ·have A:((u:Int) !=1)=false:=by rw[q];rfl
      have s:Hid (∀m,m<j+1->dG l m=1):=fun m d=>by by_cases e:m=j;subst e;omega;exact p.o m ad
      clear B q
      go_wp2
      go_round
      case rel=>exact⟨_,aD,ad,s.o⟩
      case measure=>exact aM
     ·have A:(((u:Nat):Int) !=1)=true:=by rw[ka];omega
      have O:af=12:=by rw[a9.o];exact ya bd (Om t (B▸q))
      have f:=ah O;clear B q O
      go_wp2
      go_ret;exact⟨da f.o.zy,h⟩
    ·have Y:decide ((j:Int)<l-1)=false:=bU
     have q:gB l=true:=On (by intro e;rw[e]at bE;exact bE rfl) z.o.1 (fun m d=>p.o m ad);have O:af=if l.any (fun n=>decide (n.op=2)&& !bp n.sym)=true then 11 else 0:=by rw[a9.o];exact Ol bd q
     have f:=ah O;clear q O
     go_wp2
     go_loop [9] (fun v=>∃i:Nat,v=.int .i64 i/\i<=l/\Hid (∀n∈l.take i,(decide (n.op=2)&& !bp n.sym)=false)) (fun v=>l-(intOf v).toNat)
     case atStart=>exact⟨0,rfl,aH _,fun m d=>by simp at d⟩
     case round=>
      obtain⟨i,rfl,p,z⟩:=hrel;by_cases p:i<l
      ·have C:=bC p
       have q:=bk p;have q:=aL i;have⟨n,c⟩:=aT p;have A:=b9.o n (aK c);obtain⟨b,cd,rfl,cb,a6,a7,an,ao⟩:=(b8.O h).at c;have t:(decide (n.op=2)&& !bp n.sym)=false->∀m∈l.take (i+1),(decide (m.op=2)&& !bp m.sym)=false:=fun Z m d=>by
        rw[bH,c]at d;rcases dk.1 d with d|d
        exact z.o m d;simp at d;subst d;exact Z
       have q:(decide (n.op=2)&& !bp n.sym)=true->af=11:=fun Z=>by rw[f.o,au];exact jx.2 ⟨n,aK c,Z⟩
       have oB:=sX _ b5 A;obtain⟨r,sym,a,V⟩:=n;simp only at a6 a7 an ao oB t q;have⟨A,B⟩:=aC t q;clear an ao c t q;by_cases a3:r=2
       ·subst a3
        cases c:bp sym with
        |true=>
         rw[c]at oB;have s:=ah (A.o (by rw[c];rfl));clear c;go_wp2_with fail
         refine ar oB ?_;rintro t rfl;clear oB
         go_wp2
         go_round
         case rel=>exact⟨_,aD,ad,s.o⟩
         case measure=>exact aM
        |false=>
         rw[c]at oB;have q:=ah (B.o (by rw[c];rfl));clear c;go_wp2_with fail
         refine ar oB ?_;rintro t rfl;clear oB
         go_wp2
         go_ret;exact⟨da q.o.zy,h⟩
       ·have d2:(r==2)=false:=by rw[dF];exact a3
        have s:=ah (A.o (by simp[a3]));clear oB
        go_wp2
        go_round
        case rel=>exact⟨_,aD,ad,s.o⟩
        case measure=>exact aM
      ·have C:=bG p
       have c:af=0:=by rw[f.o,ap];rw[iX,nF];intro m d;have:=z.o m (by rwa[bI ad]);rw[this];simp
       have d:=ah c;clear c
       go_wp2
       go_ret;exact⟨da d.o.zy,h⟩
def Oq:(prog.info? 105).map (fun i=>(i.zero,i.size,i.bytes))=some (some (.agg #[.int .i64 0,.string ⟨#[]⟩,.int .i64 0,.int .i64 0]),4,40):=az
def Ot:(prog.info? 64).map (fun i=>(i.zero,i.size,i.bytes))=(some pR,6,104):=az
def sY(w:World)(a:Nat)(v:Value)(l:List ax):Prop:=w.ownsRow a 105 4 v l (l.flatMap nodeRow)
def Ou{w B v l n}(a:w.ownsRow B 105 4 v (l.length+1) (l.flatMap nodeRow++nodeRow n)):sY w B v (l++[n]):=by unfold sY;rw[ck,qA];simpa using a
def Ov l o cap w(h:dv w o cap l)(c:l.length<=1048576):
 dB 20 #[.agg #[.slice o l cap]] w fun e w'=>∃v,e=.returned v/\sY w' w v l/\aR w w':=by
 obtain⟨C,u,y,A,B⟩:=cZ Oq;have c:=h.2.1;have c:=h.2.2.1;unfold maxLen at c;have g:aR w (cT w #[.slice o l cap] 52):=aP;have m:=aN w (.cells #[.slice o l cap] 52);have f:w+1<=(w.alloc (.cells #[.slice o l cap] 52)).heap.size:=aj
 go_in
 go_wp2
 go_loopw [3,4] (fun v i wr=>∃k:Nat,i=.int .i64 k/\k<=l/\wr.heap[w.heap.size]?=some (.cells #[.slice o l cap] 52 (0,0))/\w+1<=wr.heap.size/\sY wr (w+1) v (l.take k)/\aR w wr) (fun _ i _=>l-(intOf i).toNat)
 case atStart=>exact⟨0,rfl,aH _,m,f,cW _ _ _ _,g⟩
 case round=>
  obtain⟨k,rfl,q,p,r,c,d⟩:=hrel;clear m g f;have cs:=bj wr _ 0 _ _ _ p;by_cases g:k<l
  ·have t:=bC g
   have m:=bk g;have m:=aL k;have⟨n,m⟩:=aT g;obtain⟨b,r,rfl,q,x,D,E,F⟩:=(h.O d).at m;have q:l.take (k+1)=l.take k++[n]:=by rw[bH,m];rfl
   have h:(l.take k).length=k:=by rw[eh];omega
   obtain⟨s,sym,a,r⟩:=n;simp only at x D E F;unfold sY at c;rw[h]at c;obtain⟨E,D,rfl⟩:=dR c;have x:=dp c (.cells #[s,sym,a,r] 104);have⟨s,r⟩:=aC q h;clear q m h;go_wp2_with(first
    |(at_builtin;go_must (apply iV _ rfl _ _ 61 rfl _ 105 C _ 4 40 underlying61 u y A B rfl aq _ _ _ rfl (dp x _) _ 1 1 _ rfl rfl (eq _ _ _ _ aj) (fun z f=>by simp at f;rcases f with rfl|rfl|rfl|rfl<;>rfl) bO ad aO);intro F G m h q)
    |go_in)
   have f:∀j,j<w.heap.size+1->some j≠(Value.slice E k D).ownBlock:=fun j q e=>by have:=(aY c j e.zy).1;omega
   go_roundw
   case rel=>
    refine⟨k+1,aD,ad,?_,?_,?_,?_⟩;rw[h.J _ aO (f _ ad),(sO wr _ _).J _ ad];exact p;have:=h.size;simp at this;omega;rw[s.o];apply Ou;rw[r.o];exact m;exact((d.alloc d.size _).alloc (by have:=d.size;simp;omega) _).zu h (by have:=d.size;simp;omega) (fun j e=>by have:=(aY c j e).1;omega)
   case measure=>exact aM
  have t:=bG g;rw[bI ad]at c
  go_wp2
  go_ret;exact⟨_,rfl,lB c ad,d⟩
structure rq(l:List ai)(o:Option Addr)(cap:Nat)(w:World)(k:Nat)(v:Value)(ys:List ai)(wr:World):Prop where
 len:ys.length=k
 same:∀(i:Nat) (y:ai),ys[i]?=some y->∃x:ai,l[i]?=some x/\y.t=x.t/\y.ao=x.ao/\y.ac=x.ac
 row:wr.ownsRow (w.heap.size+1) 64 6 v ys.length (ys.flatMap typeRow)
 each:∀y:ai,y∈ys->wr.ownsRow (w.heap.size+1) 105 4 (.slice y.no y.t.E.length y.nc) y.t.E.length (y.t.E.flatMap nodeRow)
 box:wr.heap[w.heap.size]?=some (.cells #[.slice o l.length cap] 24 (0,0))
 O:Below w.heap.size w wr
def rq.add{l:List ai}{o:Option Addr}{cap:Nat}{w:World}{k:Nat}{v n:Value}{ys:List ai}{wr w1 h:World}{x y:ai}(b:rq l o cap w k v ys wr)(u:l[k]?=some x)(A:y.t=x.t/\y.ao=x.ao/\y.ac=x.ac)
 (c:Below wr.heap.size wr w1) (r:w1.ownsRow wr.heap.size 105 4 (.slice y.no y.t.E.length y.nc) y.t.E.length (y.t.E.flatMap nodeRow))
 (f:w1.grownBy h v.ownBlock) (q:h.ownsRow (w.heap.size+1) 64 6 n (ys.length+1) (ys.flatMap typeRow++typeRow y)):rq l o cap w (k+1) n (ys++[y]) h:=by
 have C:=aS b.box;have s:∀j,j<w.heap.size+1->some j≠v.ownBlock:=fun j D e=>by have:=(aY b.row j e.zy).1;omega
 have t:=cm b.row (rm c) (by cases e:v.ownBlock with|none=>simp|some g=>exact .inr (fun d=>by cases d));refine⟨by rw[ck,b.len];rfl,?_,by rw[ck,qA];simpa using q,?_,?_,?_⟩;intro i z a;by_cases e:i<ys;rw[eC e]at a;exact b.same i z a;rw[gp ad]at a;have d:i=k:=by have p:=(aF.1 a).1;have B:=b.len;rw[wh]at p;omega
 subst d;rw[b.len,qy]at a;simp at a;subst a;exact⟨x,u,A⟩;intro z a;have m:w1.ownsRow (w.heap.size+1) 105 4 (.slice z.no z.t.E.length z.nc) z.t.E.length (z.t.E.flatMap nodeRow):=by
  rcases dk.1 a with a|a
  exact cm (b.each z a) (rm c) (by cases e:(Value.slice z.no z.t.E z.nc).ownBlock with|none=>simp|some g=>exact .inr (fun d=>by cases d));simp at a;subst a;exact lB r ad
 exact cm m f (jj m t aq);rw[f.J _ (aQ c.size) (s _ ad),c.J _ ad];exact b.box;exact(b.O.Z (c.zz b.O.size)).zu f (jO c.size b.O.size) (fun j e=>by have:=(aY b.row j e).1;omega)
def rq.done{l:List ai}{o:Option Addr}{cap:Nat}{w wr:World}{g:Option Addr}{f:Nat}{ys:List ai}(a:rq l o cap w l.length (.slice g l.length f) ys wr)(m:cw w o cap l):ys.length=l.length/\ys.map ai.t=l.map ai.t/\cw wr g f ys:=by
 refine⟨a.len,?_,?_,?_⟩;refine zQ fun i=> ?_;rw[bR,bR];cases e:ys[i]? with
 |some y=>
  obtain⟨x,c,b,_⟩:=a.same i y e;rw[c];simp[b]
 |none=>
  rw[List.getElem?_eq_none_iff]at e;rw[jL (aQ a.len)]
 have:=a.row;rw[<-a.len]at this;exact oM this;intro y d;obtain⟨i,n⟩:=qG.1 d;obtain⟨x,c,b,h,j⟩:=a.same i y n;refine⟨?_,oM (a.each y d)⟩;have:=((m.O a.O).2 x (aK c)).1;rw[b,h,j];exact this
def Ow l o cap w(t:cw w o cap l)(d:ep l)(c:∀x∈l,x.t.E.length<=1048576):
 dB 6 #[.agg #[.slice o l cap]] w fun e w'=>∃ys o' a,e=.returned (.slice o' ys.length a)/\ys.map ai.t=l.map ai.t/\cw w' o' a ys/\aR w w':=by
 obtain⟨al,ae,K,af,ag⟩:=cZ Ot;unfold pR at K;have a:=d.len;have a:=t.1.2.2.1;unfold maxLen at a;have d:rq l o cap w 0 () [] (cT w #[.slice o l cap] 24):=
  ⟨rfl,fun i y a=>by simp at a,cW _ _ _ _,fun y a=>by simp at a,aN w _,aP⟩
 have a:=fun m o' f w' h j=>Ov m o' f w' h j;unfold sY at a;have⟨T,f⟩:=aC a c;clear a c
 go_in
 go_wp2
 go_loopw [3,4] (fun v i wr=>∃(k:Nat) (ys:List ai),i=.int .i64 k/\k<=l/\rq l o cap w k v ys wr) (fun _ i _=>l-(intOf i).toNat)
 case atStart=>exact⟨0,[],rfl,aH _,d⟩
 case round=>
  obtain⟨k,ys,rfl,c,a⟩:=hrel;clear d;have cs:=bj wr _ 0 _ _ _ a.box;by_cases A:k<l
  ·have ab:=bC A
   have c:=bk A;have c:=aL k;have⟨x,c⟩:=aT A;have D:=((t.O a.O).2 x (aK c)).2;have J:=f.o x (aK c);obtain⟨b,f,rfl,d,M,N,O,P,Q,R⟩:=(t.O a.O).at c;have V:=ah c;obtain⟨⟨name,label,attrs,key,text,nodes⟩,d,ac,no,h⟩:=x;simp only at M N O P Q R D J;obtain⟨p,n,rfl⟩:=dR a.row;obtain rfl:=a.len;have S:=ah a;have C:=a.row;have f:=a.O.size;clear c a;go_wp2_with fail
   obtain⟨f,s⟩:=am (wr.alloc (.cells (gT name label d attrs ac key text no nodes h) 55));rw[<-s];have r:=kj s;have c:wr<f.heap.size:=by rw[s];simp
   have m:=eq wr [name,label,.slice d attrs ac,key,text,.slice no nodes h] 55 _ rfl;have B:∀w',Below f.heap.size f w'->w'.cell? ⟨wr.heap.size,0,none⟩=some (.string ⟨name.toArray⟩)/\w'.cell? ⟨wr.heap.size,1,none⟩=some (.string ⟨label.toArray⟩)/\w'.cell? ⟨wr.heap.size,2,none⟩=some (.slice d attrs.length ac)/\w'.cell? ⟨wr.heap.size,3,none⟩=some (.string ⟨key.toArray⟩)/\w'.cell? ⟨wr.heap.size,4,none⟩=some (.bool text)/\w'.cell? ⟨wr.heap.size,5,none⟩=some (.slice no nodes.length h):=by rw[s];intro w' c;have j:wr<(wr.alloc (.cells (gT name label d attrs ac key text no nodes h) 55)).heap.size:=aj;exact⟨(c.cell j).Z (m 0 _ rfl),(c.cell j).Z (m 1 _ rfl),(c.cell j).Z (m 2 _ rfl),(c.cell j).Z (m 3 _ rfl),(c.cell j).Z (m 4 _ rfl),(c.cell j).Z (m 5 _ rfl)⟩
   have I:∀w',aR f w'->dv w' no h nodes:=fun w' c=>D.O (aE r c);have H:∀w',Below f.heap.size f w'->w'.ownsRow (w.heap.size+1) 64 6 (.slice p ys.length n) ys.length (ys.flatMap typeRow):=fun w' c=>cm (row:=none) C (rm (aE r c)) (by cases e:(Value.slice p ys n).ownBlock with|none=>simp|some g=>exact .inr (fun j=>by cases j));have aa:=(aA f f).drew;have G:∀u j:World,Below f.heap.size f u->u.grownBy j (Value.slice p ys.length n).ownBlock->j.cell? ⟨wr.heap.size,0,none⟩=some (.string ⟨name.toArray⟩)/\j.cell? ⟨wr.heap.size,1,none⟩=some (.string ⟨label.toArray⟩)/\j.cell? ⟨wr.heap.size,2,none⟩=some (.slice d attrs.length ac)/\j.cell? ⟨wr.heap.size,3,none⟩=some (.string ⟨key.toArray⟩)/\j.cell? ⟨wr.heap.size,4,none⟩=some (.bool text)/\j.cell? ⟨wr.heap.size,5,none⟩=some (.slice no nodes.length h):=by
    intro u j c f;have q:some wr.heap.size≠(Value.slice p ys.length n).ownBlock:=fun e=>by have:=(aY C _ e.zy).2;omega
    have j:wr<u.heap.size:=aQ c.size;have⟨E,F,W,X,Y,Z⟩:=B u c;exact⟨(f.cell_far _ j q).Z E,(f.cell_far _ j q).Z F,(f.cell_far _ j q).Z W,(f.cell_far _ j q).Z X,(f.cell_far _ j q).Z Y,(f.cell_far _ j q).Z Z⟩
   have⟨E,f,F,q⟩:=dE G B I H;clear B I H G m s D M N O P Q R cs C;go_region_held3(fun w'=>w'.cell? ⟨wr.heap.size,0,none⟩=some (.string ⟨name.toArray⟩)/\w'.cell? ⟨wr.heap.size,1,none⟩=some (.string ⟨label.toArray⟩)/\w'.cell? ⟨wr.heap.size,2,none⟩=some (.slice d attrs.length ac)/\w'.cell? ⟨wr.heap.size,3,none⟩=some (.string ⟨key.toArray⟩)/\w'.cell? ⟨wr.heap.size,4,none⟩=some (.bool text)/\w'.cell? ⟨wr.heap.size,5,none⟩=some (.slice no nodes.length h))
    (first
      |exact f.o _ fX
      |exact f.o _ (Below.alloc fX (Below.size fX) _)
      |exact f.o _ ((Below.alloc fX (Below.size fX) _).drew)
      |exact E.o _ _ (Below.alloc c c.size _) B)
    (first
      |(go_at_call 20;apply(T.o nodes no h _ (F.o _ fX) J).zz;rintro e s ⟨O,rfl,C,G⟩;have c:=aE fX G;obtain⟨m,j,rfl⟩:=dR C)
      |((refine nG _ (by rfl) _ _ _ (by rfl) (w.heap.size+1) 64 al _ 6 104 underlying27 ae K af ag rfl ad (.slice p ys.length n) ys.length (ys.flatMap typeRow) (by rfl) (by(first|exact dp (q.o _ c) _|exact(dp (q.o _ c) _).drew)) ⟨s.heap.size,0,none⟩ 1 1 [.string ⟨name.toArray⟩,.string ⟨label.toArray⟩,.slice d attrs.length ac,.string ⟨key.toArray⟩,.bool text,.slice m nodes.length j] (by rfl) (by rfl) (by exact eq s [.string ⟨name.toArray⟩,.string ⟨label.toArray⟩,.slice d attrs.length ac,.string ⟨key.toArray⟩,.bool text,.slice m nodes.length j] _ _ rfl) (fun z D=>by simp at D;rcases D with rfl|rfl|rfl|rfl|rfl|rfl<;>rfl) ad bO ad (by have:=c.size;have:=r.size;simp;omega) _ rfl ?_;intro I gc w1 H B M N)))
   clear f E F q aa
   go_wp2
   go_roundw
   case rel=>
    refine⟨ys+1,ys++[⟨⟨name,label,attrs,key,text,nodes⟩,d,ac,m,j⟩],aD,ad,?_⟩;have f:=aE r c;refine S.o.add (w1:=cT s (gT name label d attrs ac key text m nodes j) 64) V.o ⟨rfl,rfl,rfl⟩ (f.alloc f.size _) ?_ B H;apply lB (dp C _);have:=r.size;simp<;>omega
   case measure=>exact aM
  ·have ab:=bG A
   obtain rfl:k=l:=ad;obtain⟨p,n,rfl⟩:=dR a.row;have d:=a.len;rw[d]at a;have⟨j,f,h⟩:=a.done t;have c:=a.O;clear a;rw[d]
   go_wp2
   go_ret;exact⟨ys,p,n,by rw[d];rfl,f,h,c⟩
def pT:Nat->List aB->Bytes->Int
 |_,[],_=> -1
 |i,t::ts,n=>if t.name=n then i else pT (i+1) ts n
def fi(ts:List aB)(n:Bytes):Int:=pT 0 ts n
def FD{l:List ai}{k x}(a:l[k]?=some x):(l.map ai.t).drop k=x.t::(l.map ai.t).drop (k+1):=by obtain⟨b,e⟩:=aF.1 a;rw[mT (by rw[bn];exact b)];simp[e]
def AY l o cap w(m:cw w o cap l)(F:l.length<=1048576) n:
 de 33 #[.slice o l cap,.string ⟨n.toArray⟩] w (.int .i64 (fi (l.map ai.t) n)) fun w'=>w=w':=by
 obtain⟨p,e⟩:=am (fi (l.map ai.t) n);rw[<-e];unfold fi at e;have q:=m.1.2.2.1;unfold maxLen at q;have j:=ah e;clear e
 go_in
 go_wp2
 go_loop [5] (fun i=>∃k:Nat,i=.int .i64 k/\k<=l/\Hid (p=pT k ((l.map ai.t).drop k) n)) (fun i=>l-(intOf i).toNat)
 case atStart=>exact⟨0,rfl,aH _,j.o⟩
 case round=>
  obtain⟨k,rfl,C,h⟩:=hrel;clear j;by_cases f:k<l
  ·have r:=bC f
   have E:=bk f;have D:=aL k;have⟨x,g⟩:=aT f;obtain⟨b,G,rfl,B,s,t,u,v,y,z⟩:=m.at g;have a:=h.o;rw[FD g]at a;unfold pT at a;clear t u v y z g;by_cases c:x.t.name=n
   ·rw[au c]at a
    have d:=ah a;rw[c]at s;clear a c
    go_wp2
    go_ret;exact⟨da d.o.zy,rfl⟩
   ·have A:(x.t.name==n)=false:=by simpa using c
    rw[ap c]at a;have d:=ah a;clear a c
    go_wp2
    go_round
    case rel=>exact⟨_,aD,ad,d.o⟩
    case measure=>exact aM
  ·have r:=bG f
   have a:=h.o;rw[se (by rw[bn];omega)]at a;unfold pT at a;have d:=ah a;clear a
   go_wp2
   go_ret;exact⟨da d.o.zy,rfl⟩
def Ox ws o cap w(p:cI w o cap ws)(A:ws.length<=1048576) n:
 de 54 #[.slice o ws cap,.string ⟨n.toArray⟩] w (.bool (ws.contains n)) fun w'=>w=w':=by
 obtain⟨m,f⟩:=am (ws.contains n);rw[<-f];have r:=p.2.2.1;unfold maxLen at r;have l:=ah f;clear f
 go_in
 go_wp2
 go_loop [5] (fun i=>∃k:Nat,i=.int .i64 k/\k<=ws/\Hid (m=(ws.drop k).contains n)) (fun i=>ws-(intOf i).toNat)
 case atStart=>exact⟨0,rfl,aH _,l.o⟩
 case round=>
  obtain⟨k,rfl,v,j⟩:=hrel;clear l;by_cases c:k<ws
  ·have s:=bC c
   have z:=bk c;have y:=aL k;have⟨x,h⟩:=aT c;obtain⟨g,B,rfl,u,C⟩:=p.at h;have a:=j.o;rw[Fx h,Ko]at a;clear h;by_cases d:x=n
   ·subst d
    rw[Ky,Bool.true_or]at a;have b:=ah a;clear a
    go_wp2
    go_ret;exact⟨bJ b.o.zy,rfl⟩
   ·have t:(x==n)=false:=by simpa using d
    have q:(n==x)=false:=by simpa using fun e=>d e.zy
    rw[q,ou]at a;have b:=ah a;clear a q d
    go_wp2
    go_round
    case rel=>exact⟨_,aD,ad,b.o⟩
    case measure=>exact aM
  ·have s:=bG c
   have a:=j.o;rw[se ad]at a;have b:=ah (show m=false from a);clear a
   go_wp2
   go_ret;exact⟨bJ b.o.zy,rfl⟩
def Oy{t}(b:t.zx.any (fun a=> !bp a)=false):(!gR t)=(bp t.name&&bp t.zv&&(t.key.isEmpty||bp t.key)):=by unfold gR;rw[b];cases bp t.name<;>cases bp t.zv<;>cases t.key.isEmpty<;>cases bp t.key<;>rfl
def Oz x w(m:cI w x.ao x.ac x.t.zx)(I:x.t.name.length<=1048576)(J:x.t.zv.length<=1048576)(K:x.t.key.length<=1048576)(V:x.t.zx.length<=1048576)(M:∀a∈x.t.zx,a.length<=1048576):
 cX 27 #[dV x] w (.bool (!gR x.t)):=by
 obtain⟨e,r⟩:=am (!gR x.t);rw[<-r];have v:∀a∈x.t.zx,bp a=false->e=false:=fun a b Z=>by rw[r];unfold gR;have:x.t.zx.any (fun a=> !bp a)=true:=jx.2 ⟨a,b,by rw[Z];rfl⟩;rw[this];simp
 have y:x.t.zx.any (fun a=> !bp a)=false->e=(bp x.t.name&&bp x.t.zv&&(x.t.key.isEmpty||bp x.t.key)):=fun b=>by rw[r];exact Oy b
 have z:=fun w1=>sX _ w1 I;have A:=fun w1=>sX _ w1 J;have B:=fun w1=>sX _ w1 K;have C:=fun a w1 b=>sX a w1 (M a b);have O:=m.2.2.1;unfold maxLen at O;have Y:=m.2.1;obtain⟨⟨name,label,attrs,key,text,nodes⟩,H,ac,no,P⟩:=x;unfold dV typeRow;simp only at v y z A B C m I J K V O Y⊢;have f:aR w (cT w (gT name label H attrs ac key text no nodes P) 64):=aP;have q:=eq w [name,label,.slice H attrs ac,key,text,.slice no nodes P] 64 _ rfl;have ag:=q 0 _ rfl;have al:=q 1 _ rfl;have an:=q 2 _ rfl;have ao:=q 3 _ rfl;have aa:=m.O f;have⟨E,F,R,S,T,G⟩:=iL v y z A B C;clear r q v y z A B C M m
 go_in
 go_wp2
 go_loop [3] (fun i=>∃k:Nat,i=.int .i64 k/\k<=attrs/\Hid ((attrs.take k).any (fun a=> !bp a)=false)) (fun i=>attrs-(intOf i).toNat)
 case atStart=>exact⟨0,rfl,aH _,rfl⟩
 case round=>
  obtain⟨k,rfl,aw,t⟩:=hrel;by_cases s:k<attrs
  ·have W:=bC s
   have a0:=bk s;have u:=aL k;have⟨a,n⟩:=aT s;obtain⟨g,a1,rfl,av,a2⟩:=aa.at n;have b:=aK n;have h:=fun w1=>G.out a w1 b;cases j:bp a with
   |true=>
    have Q:Hid ((attrs.take (k+1)).any (fun a=> !bp a)=false):=by
     show _=_
     rw[bH,n,qC,t.o];simp[j]
    rw[j]at h;clear n b j;go_wp2_with fail
    refine ar (h _) ?_;rintro l rfl;clear h
    go_wp2
    go_round
    case rel=>exact⟨_,aD,ad,Q.o⟩
    case measure=>exact aM
   |false=>
    have c:=ah (E.o a b j);rw[j]at h;clear n b j;go_wp2_with fail
    refine ar (h _) ?_;rintro l rfl;clear h
    go_wp2
    go_ret;exact⟨bJ c.o.zy,f⟩
  ·have W:=bG s
   have N:e=(bp name&&bp label&&(key.isEmpty||bp key)):=F.o (by have:=t.o;rwa[bI ad]at this);have d:=ah N;have o:=R.out;have p:=S.out;have D:=T.out;clear N F E G t;generalize bp name=ab at o d;generalize bp label=ae at p d;generalize bp key=af at D d;cases ab with
   |false=>
    have c:=ah (show e=false by rw[d.o];rfl);go_wp2_with fail
    refine ar (o _) ?_;rintro l rfl;clear o
    go_wp2
    go_ret;exact⟨bJ c.o.zy,f⟩
   |true=>
    go_wp2_with fail
    refine ar (o _) ?_;rintro l rfl;clear o;cases ae with
    |false=>
     have c:=ah (show e=false by rw[d.o];rfl);go_wp2_with fail
     refine ar (p _) ?_;rintro l rfl;clear p
     go_wp2
     go_ret;exact⟨bJ c.o.zy,f⟩
    |true=>
     go_wp2_with fail
     refine ar (p _) ?_;rintro l rfl;clear p;rcases gK (key=[])with u|u
     ·subst u
      have c:=ah (show e=true by rw[d.o];rfl)
      go_wp2
      go_ret;exact⟨bJ c.o.zy,f⟩
     ·have X:key.isEmpty=false:=by cases key<;>simp_all
      have c:=ah (show e=af by rw[d.o,X];rfl);go_wp2_with fail
      refine ar (D _) ?_;rintro l rfl;clear D
      go_wp2
      go_ret;exact⟨bJ c.o.zy,f⟩
def uS(l:List Int):List Value:=l.map (Value.int .i64)
def nf(w:World)(a:Nat)(v:Value)(l:List Int):Prop:=w.ownsRow a 3 1 v l (uS l)
def jl(w:World)(o:Option Addr)(cap:Nat)(l:List Int):Prop:=cn w o l cap 1 (uS l)
def jl.O{w w':World}{o:Option Addr}{cap:Nat}{l:List Int}(a:jl w o cap l)(b:Below w.heap.size w w'):jl w' o cap l:=cn.O a b
def jl.at{w:World}{o:Option Addr}{cap:Nat}{l:List Int}(c:jl w o cap l){k:Nat}{x:Int}(b:l[k]?=some x):
 ∃g a,o=some ⟨g,a,none⟩/\g<w.heap.size/\w.cell? ⟨g,a+k,none⟩=some (.int .i64 x):=by
 have h:=(aF.1 b).1;have⟨g,a,e,f,d⟩:=c.2.2.2 ad;exact⟨g,a,e,f,d k _ (by unfold uS;rw[bR,b];rfl)⟩
def mg(ts:List aB)(out:List Int)(n:ax):List Int:=if n.op=2 then(if out.contains (fi ts n.sym)then out else out++[fi ts n.sym])else out
def fE(ts:List aB)(l:List ax):List Int:=l.foldl (mg ts) []
def OA{ts}{l:List ax}{k n}(a:l[k]?=some n):fE ts (l.take (k+1))=mg ts (fE ts (l.take k)) n:=by unfold fE;rw[bH,a,fp,KJ];rfl
def OC ts out n:(mg ts out n)<=out.length+1:=by unfold mg;split;split<;>simp;omega
def OD ts:∀(l:List ax) out,(l.foldl (mg ts) out)<=out+l.length:=by
 intro l;induction l with
 |nil=>intro out;simp
 |cons n t ih=>intro out;have:=ih (mg ts out n);have:=OC ts out n;simp only[oA,ef];omega
def OE{out:List Int}{j z k}(a:out[j]?=some z):(out.take (j+1)).contains k=((out.take j).contains k||(z==k)):=by
 rw[bH,a,fp,Dm,Dm,qC];simp only[Dn,List.any_nil,Bool.or_false];congr 1
 rw[sW,sW];exact KI.2 ⟨Eq.zy,Eq.zy⟩
def FE l o cap w(q:cw w o cap l)(f:l.length<=1048576) x(d:dv w x.no x.nc x.t.E)(r:x.t.E.length<=1048576):
 dB 29 #[.slice o l cap,dV x] w fun e w'=>∃p m,e=.returned (.slice p (fE (l.map ai.t) x.t.E) m)/\jl w' p m (fE (l.map ai.t) x.t.E)/\aR w w':=by
 obtain⟨P,K,M,N,O⟩:=cZ lm;have h:=fun n w' c=>AY l o cap w' (q.O c) f n;generalize l.map ai.t=ts at h⊢;obtain⟨⟨name,label,attrs,key,text,nodes⟩,c,ac,no,f⟩:=x;unfold dV typeRow;simp only at d r⊢;have r:=d.2.2.1;unfold maxLen at r;have r:=d.2.1;have s:aR w (cT w (gT name label c attrs ac key text no nodes f) 64):=aP;have t:=aN w (.cells (gT name label c attrs ac key text no nodes f) 64);have u:w+1<=(w.alloc (.cells (gT name label c attrs ac key text no nodes f) 64)).heap.size:=aj;have y:=ah h;clear h q
 go_in
 go_wp2
 go_loopw [5,6] (fun v i wr=>∃k:Nat,i=.int .i64 k/\k<=nodes/\wr.heap[w.heap.size]?=some (.cells (gT name label c attrs ac key text no nodes f) 64 (0,0))/\w+1<=wr.heap.size/\nf wr (w+1) v (fE ts (nodes.take k))/\aR w wr) (fun _ i _=>nodes-(intOf i).toNat)
 case atStart=>exact⟨0,rfl,aH _,t,u,cW _ _ _ _,s⟩
 case round=>
  obtain⟨k,rfl,f,A,G,c,h⟩:=hrel;obtain⟨r,rfl⟩:=am wr;clear t s u;have f:=bj r _ 5 _ _ _ A;by_cases C:k<nodes
  ·have J:=bC C
   have f:=bk C;have f:=aL k;have⟨n,q⟩:=aT C;obtain⟨b,s,rfl,f,t,B,D,E⟩:=(d.O h).at q;have d:=OA (ts:=ts) q;have f:=OD ts (nodes.take k) [];rw[eh,gN]at f;change(fE ts (nodes.take k)).length<=_ at f;have s:=y.o n.sym r h;unfold mg at d;obtain⟨H,sym,a,y⟩:=n;simp only at t B s d;unfold nf at c;clear D E q;by_cases E:H=2
   ·subst E
    rw[au rfl]at d;generalize fi ts sym=F at s d;generalize hout:fE ts (nodes.take k)=out at c d f;have y:=ah d;clear d hout;obtain⟨p,m,rfl⟩:=dR c;have t:jl r p m out:=oM c;have f:=t.2.1;have f:=t.2.2.1;unfold maxLen at f;go_wp2_with fail
    refine ar s ?_;rintro f rfl;clear s
    go_wp2
    go_loop [8,9] (fun v j=>∃i:Nat,j=.int .i64 i/\v=.bool ((out.take i).contains F)/\i<=out) (fun _ j=>out-(intOf j).toNat)
    case atStart=>exact⟨0,rfl,rfl,aH _⟩
    case round=>
     obtain⟨i,rfl,rfl,f⟩:=hrel;by_cases B:i<out
     ·have I:=bC B
      have f:=bk B;have f:=aL i;have⟨z,f⟩:=aT B;obtain⟨g,D,rfl,q,Q⟩:=t.at f;have q:=OE (k:=F) f;clear f;cases f:(out.take i).contains F with
      |true=>
       rw[f,Bool.true_or]at q;have D:=ah q;clear f q
       go_wp2
       go_round
       case rel=>exact⟨i+1,aD,by rw[D.o],ad⟩
       case measure=>exact aM
      |false=>
       rw[f,ou]at q;have D:=ah q;clear f q
       go_wp2
       go_round
       case rel=>exact⟨i+1,aD,by rw[D.o],ad⟩
       case measure=>exact aM
     ·have I:=bG B
      rw[bI ad];cases f:out.contains F with
      |true=>
       have q:=y.o;rw[au f]at q;have B:=ah q;clear f q
       go_wp2
       go_roundw
       case rel=>exact⟨k+1,aD,ad,A,G,B.o▸c,h⟩
       case measure=>exact aM
      |false=>
       have q:=y.o;rw[ap (by rw[f];simp)]at q;have B:=ah q;have I:∀j,j<w.heap.size+1->some j≠(Value.slice p out.length m).ownBlock:=fun j D e=>by have:=(aY c j e.zy).1;omega
       have D:aR r (cT r #[F] 3):=aP;clear f q;go_wp2_with(first
        |(at_builtin;go_must (apply iV _ rfl _ _ 41 rfl _ 3 P _ 1 8 j9 K M N O rfl aq _ _ _ rfl (dp c _) _ 1 1 _ rfl rfl (ln _ _ _ _ rfl) (fun z u=>by simp at u;subst u;rfl) bO ad aO);intro R S q f Q)
        |go_in)
       go_roundw
       case rel=>
        refine⟨k+1,aD,ad,?_,?_,?_,?_⟩;rw[f.J _ aO (I _ ad),D.J _ ad];exact A;have:=f.size;simp at this;omega;rw[B.o];unfold nf;simpa[uS]using q;exact(h.alloc h.size _).zu f (by have:=h.size;simp;omega) (fun j e=>by have:=(aY c j e).1;omega)
       case measure=>exact aM
   ·have d2:(H !=2)=true:=by rw[ka];exact E
    rw[ap E]at d;have y:=ah d;clear d s
    go_wp2
    go_roundw
    case rel=>exact⟨k+1,aD,ad,A,G,y.o▸c,h⟩
    case measure=>exact aM
  have J:=bG C;rw[bI ad]at c;unfold nf at c;obtain⟨p,m,rfl⟩:=dR c;have t:jl r p m (fE ts nodes):=oM c
  go_wp2
  go_ret;exact⟨p,m,rfl,t,h⟩
def OF a:∀l,cz (l++[a])=(cz l||l.contains a):=by
 intro l;induction l with
 |nil=>rfl
 |cons b t ih=>
  simp only[jK,cz,ih,Ko];rw[ft];simp only[dA,pr,dk,pm,nE];constructor;rintro((c|c)|c|c);exact .inl (.inl c);exact .inr (.inl c.zy);exact .inl (.inr c);exact .inr (.inr c);rintro((c|c)|c|c);exact .inl (.inl c);exact .inr (.inl c);exact .inl (.inr c.zy);exact .inr (.inr c)
def OG b:∀a,cz a=true->cz (a++b)=true:=by
 intro a;induction a with
 |nil=>intro d;simp[cz]at d
 |cons c t ih=>
  intro d;simp only[jK,cz,dA,pr]at d⊢;rcases d with d|d
  exact .inl (Do _ d);exact .inr (ih d)
def pU(ts:List aB)(zs:List Int):List Bytes:=zs.map fun z=>labelAt ts z.toNat
def OH{ts zs}{i:Nat}{z}(a:zs[i]?=some z):(pU ts zs)[i]?=(labelAt ts z.toNat):=by unfold pU;rw[bR,a];rfl
def OI l o cap w(p:cw w o cap l)(a:l.length<=1048576) zs vo vc(j:jl w vo vc zs)(n:∀z∈zs,0<=z/\z<l):
 cX 30 #[.slice o l cap,.slice vo zs vc] w (.bool (cz (pU (l.map ai.t) zs))):=by
 obtain⟨a,f⟩:=am (pU (l.map ai.t) zs);rw[<-f];obtain⟨C,h⟩:=am (cz a);rw[<-h];have m:=p.1.2.2.1;have q:=j.2.2.1;have r:=j.2.1;unfold maxLen at m q;have q:a=zs.length:=by rw[f];exact bn _
 have m:∀(i:Nat) (z:Int) (x:ai),zs[i]?=some z->l[z.toNat]?=some x->a[i]?=some x.t.zv:=fun i z x r s=>by rw[f,OH r,Ag (by rw[bR,s];rfl)]
 have⟨t,r,A,G⟩:=dE h n m q;clear h f n m q
 go_in
 go_wp2
 go_loopw [5] (fun v wr=>∃i:Nat,v=.int .i64 i/\i<=zs/\aR w wr/\Hid (cz (a.take i)=false)) (fun v _=>zs-(intOf v).toNat)
 case atStart=>exact⟨0,rfl,aH _,aA _ _,rfl⟩
 case round=>
  obtain⟨i,rfl,f,D,u⟩:=hrel;obtain⟨f,rfl⟩:=am wr;by_cases m:i<zs
  ·have K:=bC m
   have f:=bk m;have f:=aL i;have⟨z,f⟩:=aT m;have⟨h,n⟩:=r.o z (aK f);obtain⟨c,rfl⟩:∃c:Nat,z=c:=⟨z.toNat,ad⟩;have⟨x,h⟩:=df l c;have n:=A.o i c x f (by simpa using h);have s:cz (a.take (i+1))=(a.take i).contains x.t.zv:=by rw[bH,n,fp,OF,u.o,ou]
   have⟨B,I,H⟩:=bm s f h;clear s f h n
   go_wp2
   go_loopw [6] (fun v f=>∃k:Nat,v=.int .i64 k/\k<=i/\aR w f/\Hid ((a.take k).contains x.t.zv=false)) (fun v _=>i-(intOf v).toNat)
   case atStart=>exact⟨0,rfl,aH _,D,rfl⟩
   case round=>
    obtain⟨k,rfl,f,h,s⟩:=hrel;by_cases E:k<i
    ·have J:=bC E
     have f:(k:Int)<zs:=ad;have f:=aL k;have⟨n,f⟩:=df zs k;have⟨F,M⟩:=r.o n (aK f);obtain⟨d,rfl⟩:∃c:Nat,n=c:=⟨n.toNat,ad⟩;have⟨y,r⟩:=df l d;have F:=A.o k d y f (by simpa using r);have A:(a.take (k+1)).contains x.t.zv=(y.t.zv==x.t.zv):=by have:=s.o;rw[Dm]at this;rw[bH,F,fp,Dm,qC,this];simp only[Dn,List.any_nil,Bool.or_false,ou];by_cases e:y.t.zv=x.t.zv;rw[e];rw[dF.2 e,dF.2 (mQ e)]
     obtain⟨g,n,rfl,M,N⟩:=(j.O h).at I.o;have⟨n,I,e,M,N⟩:=(j.O h).at f;injection e with e
     injection e with j n
     subst j;subst n;obtain⟨b,I,rfl,q,_,M,_⟩:=(p.O h).at H.o;have⟨H,I,e,_,_,q,_⟩:=(p.O h).at r;injection e with e
     injection e with j n
     subst j;subst n;have n:=ah A;clear A F r f;by_cases j:y.t.zv=x.t.zv;have f:Hid (C=true):=by
      show _=_
      rw[t.o,<-ig (i+1) a];apply OG _ _;rw[B.o,pr];have:=n.o;rw[j,Ky,pr]at this;exact(List.take_prefix_take_left ad).subset this
     rw[j]at q;clear j
     go_wp2
     go_quiet(fail)
     go_wp2
     go_ret;exact⟨bJ f.o.zy,ee h _⟩
     ·have p:(x.t.zv==y.t.zv)=false:=by simpa using fun e=>j e.zy
      have f:Hid ((a.take (k+1)).contains x.t.zv=false):=by show _=_;rw[n.o];simpa using j
      clear j
      go_wp2
      go_quiet(fail)
      go_wp2
      go_roundw
      case rel=>exact⟨_,aD,ad,ee h _,f.o⟩
      case measure=>exact aM
    ·have J:=bG E
     have f:Hid (cz (a.take (i+1))=false):=by
      show _=_
      rw[B.o];have e:k=i:=ad;rw[<-e];exact s.o
     go_wp2
     go_roundw
     case rel=>exact⟨_,aD,ad,h,f.o⟩
     case measure=>exact aM
  have K:=bG m;have f:Hid (C=false):=by
   have:=u.o;rw[bI (by rw[G.o];omega)]at this;show _=_
   rw[t.o];exact this
  go_wp2
  go_ret;exact⟨bJ f.o.zy,D⟩
def OJ l o cap w(a:cw w o cap l)(f:ep l) x(u:dv w x.no x.nc x.t.E)(j:x.t.E.length<=1048576)
 (r:∀z∈fE (l.map ai.t) x.t.E,0<=z/\z<l):
 cX 31 #[.slice o l cap,dV x] w (.bool ((fE (l.map ai.t) x.t.E).any (fun z=>(gS (l.map ai.t) z.toNat).contains x.t.key)||x.t.key.isEmpty)):=by
 have d:=fun w' h=>FE l o cap w' (a.O h) f.len x (u.O h) j;have h:=f.len;have h:=a.1.2.2.1;unfold maxLen at h;have B:∀k t,l[k]?=some t->gS (l.map ai.t) k=t.t.zx:=fun k t h=>Eg (by rw[bR,h];rfl);have A:=f.zx;have p:=fun ws o c w1 f h=>Ox ws o c w1 f h x.t.key;have⟨zs,F⟩:=am (fE (l.map ai.t) x.t.E);rw[<-F]at d r⊢;have⟨m,f⟩:=am ((zs.any (fun z=>(gS (l.map ai.t) z.toNat).contains x.t.key)||x.t.key.isEmpty));rw[<-f];obtain⟨⟨name,label,attrs,key,text,nodes⟩,h,ac,no,s⟩:=x;unfold dV typeRow at*;simp only at d p f⊢;have j:aR w (cT w (gT name label h attrs ac key text no nodes s) 64):=aP;have D:w<(w.alloc (.cells (gT name label h attrs ac key text no nodes s) 64)).heap.size:=aj;have E:=aN w (.cells (gT name label h attrs ac key text no nodes s) 64);have h:=d _ j;have⟨C,J,H,G,I⟩:=iz f r B A p;clear f r B A p d F u
 go_in
 go_wp2_with fail
 apply h.zz;rintro e u ⟨s,r,rfl,p,f⟩;clear h;have F:=aE j f;have h:=(f.J _ D).Z E;have r:=aS h;have s:=p.2.2.1;have A:=p.2.1;unfold maxLen at s;clear f E D j
 go_wp2
 go_loopw [6] (fun v wr=>∃i:Nat,v=.int .i64 i/\i<=zs/\aR u wr/\Hid ((zs.take i).any (fun z=>(gS (l.map ai.t) z.toNat).contains key)=false)) (fun v _=>zs-(intOf v).toNat)
 case atStart=>exact⟨0,rfl,aH _,aA _ _,rfl⟩
 case round=>
  obtain⟨i,rfl,j,f,D⟩:=hrel;have j:=(f.J _ r).Z h;have h:=bj wr _ 3 _ _ _ j;by_cases r:i<zs
  ·have K:=bC r
   have d:=bk r;have s:=aL i;have⟨z,j⟩:=aT r;have⟨d,h⟩:=J.o z (aK j);obtain⟨c,rfl⟩:∃c:Nat,z=c:=⟨z.toNat,ad⟩;have⟨y,h⟩:=df l c;have B:=H.o c y h;have E:=G.o y (aK h);have u:(zs.take (i+1)).any (fun z=>(gS (l.map ai.t) z.toNat).contains key)=y.t.zx.contains key:=by rw[bH,j,fp,qC,D.o];simp[B]
   have G:=aK j;have A:y.t.zx.contains key=true->m=true:=fun d=>by rw[C.o,dA];exact .inl (jx.2 ⟨c,G,by simpa[B]using d⟩)
   obtain⟨g,d,rfl,H,J⟩:=(p.O f).at j;have d:=aE F f;have H:=((a.O d).2 y (aK h)).1;obtain⟨b,M,rfl,p,_,_,J,_⟩:=(a.O d).at h;have p:∀n,de 54 #[.slice y.ao y.t.zx y.ac,.string ⟨_⟩] (wr.drewN n) (.bool (y.t.zx.contains key)) fun w'=>w'=wr.drewN n:=fun n=>(I.o _ _ _ _ (H.O (ee (aA _ _) n)) E).zz fun e w' a=>⟨a.1,a.2.zy⟩;generalize y.t.zx.contains key=q at u A p;generalize y.t.zx.length=a at p J;have⟨I,J,E⟩:=bm u A p;clear u A p j h B G H;cases q with
   |true=>
    have a:=ah (J.o rfl)
    go_wp2
    go_quiet((go_at_call 54;exact zI (E.o _)))
    go_wp2
    go_ret;exact⟨bJ a.o.zy,ee d _⟩
   |false=>
    go_wp2
    go_quiet((go_at_call 54;exact zI (E.o _)))
    go_wp2
    go_roundw
    case rel=>exact⟨_,aD,ad,ee f _,I.o⟩
    case measure=>exact aM
  have K:=bG r;have j:m=key.isEmpty:=by have:=D.o;rw[bI ad]at this;rw[C.o,this,ou]
  have h:=ah j;have d:=aE F f;clear j;rcases gK (key=[])with s|s
  subst s;have a:=ah (show m=true by rw[h.o];rfl)
  go_wp2
  go_ret;exact⟨bJ a.o.zy,d⟩;have f:key.isEmpty=false:=by cases key<;>simp_all
  have a:=ah (show m=false by rw[h.o,f])
  go_wp2
  go_ret;first|exact⟨bJ a.o.zy,d⟩|exact⟨bJ (by rw[a.o,f]),d⟩
def OK:∀ts i n,(∃k t,ts[k]?=some t/\t.name=n/\pT i ts n=(i+k:Nat)/\∀j u,j<k->ts[j]?=some u->u.name≠n)∨(pT i ts n= -1/\∀(j:Nat) u,ts[j]?=some u->u.name≠n):=by
 intro ts;induction ts with
 |nil=>intro i n;exact .inr ⟨rfl,fun j u e=>by simp at e⟩
 |cons t ts ih=>
  intro i n;unfold pT;by_cases a:t.name=n;rw[au a];exact .inl ⟨0,t,rfl,a,aj,fun j u d=>absurd d ad⟩;rw[ap a];rcases ih (i+1) n with⟨k,u,b,c,f,g⟩|⟨b,c⟩
  refine .inl ⟨k+1,u,b,c,by rw[f];omega,fun j v d hv=> ?_⟩;cases j with
  |zero=>simp at hv;subst hv;exact a
  |succ j=>exact g j v ad (by simpa using hv)
  refine .inr ⟨b,fun j v hv=> ?_⟩;cases j with
  |zero=>simp at hv;subst hv;exact a
  |succ j=>exact c j v (by simpa using hv)
def yd ts n:(∃(k:Nat) (t:aB),ts[k]?=t/\t.name=n/\fi ts n=k/\∀j u,j<k->ts[j]?=some u->u.name≠n)∨(fi ts n= -1/\∀(j:Nat) u,ts[j]?=some u->u.name≠n):=by have:=OK ts 0 n;simpa[fi]using this
def OL ts n:fi ts n<ts:=by
 rcases yd ts n with⟨k,t,a,_,b,_⟩|⟨a,_⟩
 have:=(aF.1 a).1;omega;omega
def FG:∀l,cz l=true->∃(a b:Nat) (x:Bytes),a<b/\l[a]?=x/\l[b]?=x:=by
 intro l;induction l with
 |nil=>intro d;simp[cz]at d
 |cons c t ih=>
  intro d;simp only[cz,dA,pr]at d;rcases d with d|d
  obtain⟨b,g⟩:=qG.1 d;exact⟨0,b+1,c,ad,rfl,g⟩;obtain⟨a,b,x,h,e,f⟩:=ih d;exact⟨a+1,b+1,x,ad,e,f⟩
def OM{ts}{j:Nat}{u}(b:ts[j]?=some u)(d:fi ts u.name<j):cz (ts.map aB.name)=true:=by
 cases e:cz (ts.map aB.name)with
 |true=>rfl
 |false=>
  rcases yd ts u.name with⟨k,t,c,a,f,_⟩|⟨_,a⟩
  have:=xY e k j u.name (by rw[bR,c];simp[a]) (by rw[bR,b];rfl);omega;exact absurd rfl (a j u b)
def ON{ts}(i:∀(j:Nat) u,ts[j]?=some u->¬fi ts u.name<j):cz (ts.map aB.name)=false:=by
 cases e:cz (ts.map aB.name)with
 |false=>rfl
 |true=>
  obtain⟨a,b,x,q,c,d⟩:=FG _ e;rw[bR]at c d;obtain⟨t,n,rfl⟩:=qH.1 c;obtain⟨u,o,m⟩:=qH.1 d;refine absurd ?_ (i b u o);rcases yd ts u.name with⟨k,v,p,f,g,h⟩|⟨_,f⟩
  rw[g];have:¬a<k:=fun l=>h a t l n m.zy;omega;omega
def mh(ts:List aB):Int:=if cz (ts.map aB.name)=true then 15 else if ts.any (fun t=>eo t.zx)=true then 14 else if ts.any fW=true then 12 else eW ts
def rr{c:Type}{l:List c}{p k x}(b:l[k]?=some x)(a:(l.take k).any p=false):(l.take (k+1)).any p=p x:=by rw[bH,b,fp,qC,a];simp
def ru{c:Type}{l:List c}{p}{k:Nat}{x}(b:l[k]?=some x)(a:p x=true):l.any p=true:=jx.2 ⟨x,aK b,a⟩
def FH{l:List ai}{k:Nat}{x}(a:l[k]?=some x):(l.map ai.t)[k]?=x.t:=by rw[bR,a];rfl
def FI x y:(bD y x=true/\((Op.bytesLess y x=true)∨(Op.bytesLess y x=false/\(y==x)=true)))∨(bD y x=false/\Op.bytesLess y x=false/\(y==x)=false):=by
 rw[qR y x];by_cases e:y=x;subst e;have:bD y y=true:=by unfold bD;simp
 rw[this];simp;have c:(y==x)=false:=by simpa using e
 rw[c];by_cases a:bD y x=true;refine .inl ⟨a,.inl ?_⟩;unfold bD at a⊢;rw[cf]at a;rw[zR,dd];exact fun b=>e (si a b);rw[iX]at a;refine .inr ⟨a,?_,rfl⟩;unfold bD at a⊢;rw[dd]at a;rw[Bool.not_eq_false',cf];rcases wQ y x with b|b
 exact absurd b a;exact b
def OP l o cap w(C:cw w o cap l)(Z:ep l):
 cX 28 #[.slice o l cap] w (.int .i64 (mh (l.map ai.t))):=by
 have bf:=fun n w' r=>AY l o cap w' (C.O r) Z.len n;have b0:=fun x a w' r=>Oo _ _ _ w' ((C.2 x a).2.O r) (Z.sym x a);have b7:=fun x a w' (r:aR w w')=>(C.2 x a).1.O r;have dm:=Z.len;have cG:=C.1.2.2.1;unfold maxLen at cG;have⟨ts,ag⟩:=am (l.map ai.t);have b2:∀(k:Nat) (x:ai),l[k]?=some x->ts[k]?=some x.t:=fun k x a=>by rw[ag];exact FH a
 have b1:∀(k:Nat) (x:ai),l[k]?=some x->ts.drop k=x.t::ts.drop (k+1):=fun k x a=>by rw[ag];exact FD a
 have b6:ts=l.length:=by rw[ag,bn]
 rw[<-ag]at bf⊢;have⟨G,av⟩:=am (mh ts);rw[<-av];unfold mh at av;have⟨a5,ci,cg,cq,bb,ch,ao,cd⟩:=rx av bf b0 b7 b2 b1 b6 Z.zx;clear av bf b0 b7 b2 b1 b6 ag Z
 go_in
 go_wp2
 go_loop [3] (fun v=>∃k:Nat,v=.int .i64 k/\k<=l/\Hid (∀j u,j<k->ts[j]?=some u->j<=fi ts u.name)) (fun v=>l-(intOf v).toNat)
 case atStart=>exact⟨0,rfl,aH _,fun j u b3=>absurd b3 ad⟩
 case round=>
  obtain⟨k,rfl,bi,f⟩:=hrel;by_cases d:k<l
  ·have J:=bC d
   have bo:=bk d;have bl:=aL k;have⟨x,a⟩:=aT d;obtain⟨b,q,rfl,bZ,al,S,O,an,D,T⟩:=C.at a;have ae:=ci.o x.t.name w (aA _ _);have A:=bb.o k x a;have bq:¬fi ts x.t.name<(k:Int)->∀(j:Nat) (u:aB),j<k+1->ts[j]?=some u->(j:Int)<=fi ts u.name:=fun b5 j u b3 R=>by by_cases e:j=k;subst e;rw[A]at R;cases R;omega;exact f.o j u ad R
   have Q:=fun b5=>OM A b5;generalize fi ts x.t.name=F at ae bq Q;have⟨co,cp⟩:=aC bq Q;clear S O an D T a A bq Q;by_cases P:F<k
   ·have d1:decide (F<k)=true:=by rw[cf];exact P
    have H:=ah (show G=15 by rw[a5.o,au (cp.o P)]);clear P;go_wp2_with fail
    refine ar ae ?_;rintro ca rfl;clear ae
    go_wp2
    go_ret;exact⟨da H.o.zy,aA _ _⟩
   ·have d1:decide (F<(k:Int))=false:=by rw[dd];exact P
    have h:=ah (co.o P);clear P;go_wp2_with fail
    refine ar ae ?_;rintro ca rfl;clear ae
    go_wp2
    go_round
    case rel=>exact⟨_,aD,ad,h.o⟩
    case measure=>exact aM
  ·have J:=bG d
   have Q:cz (ts.map aB.name)=false:=ON fun j u R=>by have:=f.o j u (by have:=(aF.1 R).1;have:=ao.o;omega) R;omega
   have bA:G=if ts.any (fun t=>eo t.zx)=true then 14 else if ts.any fW=true then 12 else eW ts:=by rw[a5.o,ap (by rw[Q];simp)]
   have a6:=ah bA;clear bA Q f a5
   go_wp2
   go_loopw [4] (fun v wr=>∃k:Nat,v=.int .i64 k/\k<=l/\aR w wr/\Hid ((ts.take k).any (fun t=>eo t.zx)=false)) (fun v _=>l-(intOf v).toNat)
   case atStart=>exact⟨0,rfl,aH _,aA _ _,rfl⟩
   case round=>
    obtain⟨k,rfl,bi,I,f⟩:=hrel;obtain⟨cb,rfl⟩:=am wr;by_cases d:k<l
    ·have J:=bC d
     have bo:=bk d;have bl:=aL k;have⟨x,a⟩:=aT d;have bt:=aK a;have A:=bb.o k x a;have M:=rr (p:=fun t=>eo t.zx) A f.o;have N:=fun bg=>ru (p:=fun t=>eo t.zx) A bg;have aw:=fun w' r=>cq.o x bt w' r;have cv:=cd.o x bt;have aa:∀w',Below w.heap.size w w'->∃b q,o=some ⟨b,q,none⟩/\w'.cell? ⟨b,q+k*6+2,none⟩=some (.slice x.ao x.t.zx.length x.ac):=fun w' r=>by obtain⟨b,q,e,_,_,_,O,_⟩:=(C.O r).at a;exact⟨b,q,e,O⟩
     have⟨V,X,Y⟩:=bm aa M N;have b8:=(aw cb I).2.2.1;unfold maxLen at b8;have cP:=(aw cb I).2.1;have a9:=ah aw;obtain⟨⟨name,label,attrs,key,text,nodes⟩,bz,ac,no,b9⟩:=x;simp only at V X Y a9 cv b8 cP;clear aa M N aw a bt A
     go_wp2
     go_loopw [5] (fun i cS=>∃m:Nat,i=.int .i64 (m+1)/\(m+1<=attrs∨m=0)/\aR w cS/\Hid (eo (attrs.take (m+1))=false)) (fun i _=>attrs-(intOf i).toNat)
     case atStart=>
      refine⟨0,rfl,.inr rfl,I,?_⟩;show _=_
      cases attrs with
      |nil=>rfl
      |cons c t=>rfl
     case round=>
      obtain⟨m,rfl,dn,s,bu⟩:=hrel;obtain⟨b,q,rfl,c5⟩:=V.o _ s;by_cases cO:m+1<attrs
      ·have cN:decide (m+1<(attrs:Int))=true:=bT
       have c1:=aL m;have c2:(m:Int)<attrs:=ad;have c3:(0:Int)<=m+1:=ad;have c4:m+1<(attrs:Int):=ad;have⟨x,a⟩:=df attrs m;have⟨y,a4⟩:=aT cO;have K:=Ee a a4;rw[bu.o,ou]at K;obtain⟨g,c7,rfl,dc,al⟩:=(a9.o _ s).at a;have⟨c6,c8,e,dl,S⟩:=(a9.o _ s).at a4;injection e with e
       injection e with bc bd
       subst bc;subst bd;have t1:(((m:Int)+1).toNat)=m+1:=ad;rcases FI x y with⟨hv,a1⟩|⟨hv,a1,cL⟩
       ·rw[hv]at K
        have bF:G=14:=by rw[a6.o,au];apply Y.o;rw[<-ig (m+2) attrs];exact Af _ _ K
        have H:=ah bF;clear bF K hv a a4;rcases a1 with a1|⟨a1,cL⟩
        all_goals
         go_wp2
         go_quiet(fail)
         go_wp2
         go_ret;exact⟨da H.o.zy,ee s _⟩
       ·rw[hv]at K
        have cl:=ah K;clear K hv a a4
        go_wp2
        go_quiet(fail)
        go_wp2
        go_roundw
        case rel=>exact⟨_,aD,.inl ad,ee s _,cl.o⟩
        case measure=>exact aM
      ·have cN:decide (m+1<(attrs:Int))=false:=bU
       have h:Hid ((ts.take (k+1)).any (fun t=>eo t.zx)=false):=by
        have:=bu.o;rw[bI ad]at this;show _=_
        rw[X.o];exact this
       go_wp2
       go_roundw
       case rel=>exact⟨_,aD,ad,s,h.o⟩
       case measure=>exact aM
    ·have J:=bG d
     have af:ts.any (fun t=>eo t.zx)=false:=by have:=f.o;rwa[bI (aQ ao.o)]at this
     have bB:G=if ts.any fW=true then 12 else eW ts:=by rw[a6.o,ap (by rw[af];simp)]
     have a7:=ah bB;have cu:=C.O I;clear bB af f a6
     go_wp2
     go_loop [6] (fun v=>∃k:Nat,v=.int .i64 k/\k<=l/\Hid ((ts.take k).any fW=false)) (fun v=>l-(intOf v).toNat)
     case atStart=>exact⟨0,rfl,aH _,rfl⟩
     case round=>
      obtain⟨k,rfl,bi,f⟩:=hrel;by_cases d:k<l
      ·have J:=bC d
       have bo:=bk d;have bl:=aL k;have⟨x,a⟩:=aT d;have A:=bb.o k x a;have M:=rr A f.o;have N:fW x.t=true->G=12:=fun bg=>by rw[a7.o,au (ru A bg)]
       obtain⟨b,q,rfl,bZ,al,S,O,an,D,T⟩:=cu.at a;have a3:fW x.t=(x.t.text&&(!x.t.E.isEmpty|| !x.t.key.isEmpty)):=rfl;obtain⟨⟨name,label,attrs,key,text,nodes⟩,bz,ac,no,b9⟩:=x;simp only at an D T M N a3;generalize fW ⟨name,label,attrs,key,text,nodes⟩=cs at M N a3;have⟨X,Y,ba⟩:=bm M N a3;clear M N a3 a A al S O;cases text with
       |false=>
        have h:=ah (show(ts.take (k+1)).any fW=false by rw[X.o,ba.o];rfl)
        go_wp2
        go_round
        case rel=>exact⟨_,aD,ad,h.o⟩
        case measure=>exact aM
       |true=>
        by_cases dr:nodes.length>0
        ·have d1:decide ((nodes:Int)>0)=true:=bT
         have ab:nodes.isEmpty=false:=by cases nodes<;>simp_all
         have H:=ah (Y.o (by rw[ba.o,ab];rfl));clear ab
         go_wp2
         go_ret;exact⟨da H.o.zy,I⟩
        ·have d1:decide ((nodes:Int)>0)=false:=bU
         have ab:nodes.isEmpty=true:=by cases nodes<;>simp_all
         have bw:=ah (show cs= !key.isEmpty by rw[ba.o,ab];simp);clear ab;rcases gK (key=[])with b4|b4
         ·subst b4
          have h:=ah (show(ts.take (k+1)).any fW=false by rw[X.o,bw.o];rfl)
          go_wp2
          go_round
          case rel=>exact⟨_,aD,ad,h.o⟩
          case measure=>exact aM
         ·have H:=ah (Y.o (by rw[bw.o];cases key<;>simp_all))
          have c9:key.isEmpty=false:=by cases key<;>simp_all
          go_wp2
          go_ret;exact⟨da H.o.zy,I⟩
      ·have J:=bG d
       have af:ts.any fW=false:=by have:=f.o;rwa[bI (aQ ao.o)]at this
       have bE:G=eW ts:=by rw[a7.o,ap (by rw[af];simp)]
       have cc:=ah bE;clear bE af f a7
       go_wp2
       go_loopw [7] (fun v wr=>∃k:Nat,v=.int .i64 k/\k<=l/\aR w wr/\Hid (G=eW (ts.drop k))) (fun v _=>l-(intOf v).toNat)
       case atStart=>exact⟨0,rfl,aH _,I,cc.o⟩
       case round=>
        obtain⟨k,rfl,bi,s,f⟩:=hrel;by_cases d:k<l
        ·have J:=bC d
         have bo:=bk d;have bl:=aL k;have⟨x,a⟩:=aT d;have B:=f.o;rw[ch.o k x a]at B;unfold eW at B;have a2:=cg.o x (aK a) _ s;have aa:∀w',Below w.heap.size w w'->∃b q,o=some ⟨b,q,none⟩/\w'.cell? ⟨b,q+k*6+4,none⟩=some (.bool x.t.text):=fun w' r=>by obtain⟨b,q,e,_,_,_,_,_,D,_⟩:=(C.O r).at a;exact⟨b,q,e,D⟩
         have V:=ah aa;obtain⟨b,q,rfl,bZ,al,S,O,an,D,T⟩:=(C.O s).at a;obtain⟨⟨name,label,attrs,key,text,nodes⟩,bz,ac,no,b9⟩:=x;simp only at D T B a2 V;generalize bK nodes=E at B a2;have h:=ah B;clear B aa a al S O an D;go_wp2_with fail
         refine ar a2 ?_;intro ca cx;clear a2 T;have a0:=aE s cx;have⟨c0,ds,e,D⟩:=V.o _ a0;injection e with e
         injection e with bc bd
         subst bc;subst bd;cases text with
         |true=>
          have z:=h.o;rw[ap aj]at z;have W:=ah z;clear z
          go_wp2
          go_roundw
          case rel=>exact⟨_,aD,ad,a0,W.o⟩
          case measure=>exact aM
         |false=>
          by_cases be:E=0
          ·subst be
           have z:=h.o;rw[ap aj]at z;have W:=ah z;clear z
           go_wp2
           go_roundw
           case rel=>exact⟨_,aD,ad,a0,W.o⟩
           case measure=>exact aM
          ·have z:=h.o
           rw[au ⟨rfl,be⟩]at z;have W:=ah z;have dq:(E !=0)=true:=by rw[ka];exact be
           clear z
           go_wp2
           go_ret;exact⟨da W.o.zy,a0⟩
        ·have J:=bG d
         have B:=f.o;rw[se (aQ ao.o)]at B;have h:=ah (show G=0 from B);clear B
         go_wp2
         go_ret;exact⟨da h.o.zy,s⟩
def OQ{ts out n z}:z∈mg ts out n↔z∈out∨(n.op=2/\fi ts n.sym=z):=by unfold mg;by_cases b:n.op=2;rw[au b];by_cases c:out.contains (fi ts n.sym)=true;rw[au c];rw[pr]at c;exact⟨.inl,fun a=>a.elim id fun⟨_,e⟩=>e▸c⟩;rw[ap c,dk,pm];exact⟨fun a=>a.elim .inl fun e=>.inr ⟨b,e.zy⟩,fun a=>a.elim .inl fun⟨_,e⟩=>.inr e.zy⟩;rw[ap b];exact⟨.inl,fun a=>a.elim id fun⟨e,_⟩=>absurd e b⟩
def OR{ts z}:∀(l:List ax) out,z∈l.foldl (mg ts) out↔z∈out∨∃n∈l,n.op=2/\fi ts n.sym=z:=by
 intro l;induction l with
 |nil=>intro out;simp
 |cons n t ih=>
  intro out;rw[oA,ih,OQ];constructor;rintro((a|a)|⟨m,b,a⟩);exact .inl a;exact .inr ⟨n,eV .., a⟩;exact .inr ⟨m,dM _ b,a⟩;rintro(a|⟨m,b,a⟩);exact .inl (.inl a);rcases bX.1 b with rfl|b
  omega;exact .inr ⟨m,b,a⟩
def ye{ts l z}:z∈fE ts l↔∃n∈l,n.op=2/\fi ts n.sym=z:=by unfold fE;rw[OR];simp
def FJ{ts l z}(a:z∈fE ts l):z<ts:=by obtain⟨n,_,_,rfl⟩:=ye.1 a;exact OL ts _
def lG(ts:List aB)(t:aB):Bool:=(fE ts t.E).any (fun z=>(gS ts z.toNat).contains t.key)||t.key.isEmpty
def kU(ts:List aB)(t:aB):Bool:=(fE ts t.E).any (fun z=>decide (z<0))
def nh(ts:List aB)(t:aB):Bool:=cz (pU ts (fE ts t.E))
def s8(ts:List aB):Int:=
 if 64<ts.length then 17 else if ts.length=0 then 18 else if ts.any gR=true then 11 else
 if mh ts≠0 then mh ts else if ts.any (kU ts)=true then 16 else if ts.any (nh ts)=true then 24 else if ts.any (fun t=> !lG ts t)=true then 23 else 0
def OS l o cap w(y:cw w o cap l)(c:ep l)(m:∀x∈l,x.t.E.length<=1048576):
 cX 9 #[.slice o l cap] w (.int .i64 (s8 (l.map ai.t))):=by
 have a:=c.len;have a:=y.1.2.2.1;unfold maxLen at a;have s:=fun w' r=>OP l o cap w' (y.O r) c;have D:=fun x a w' r=>Oz x w' ((y.2 x a).1.O r) (c.name x a) (c.zv x a) (c.key x a) (c.zx x a) (c.attr x a);have R:=fun x a w' r=>FE l o cap w' (y.O r) c.len x ((y.2 x a).2.O r) (m x a);have u:=fun zs V T w' r B d=>OI l o cap w' (y.O r) c.len zs V T B d;have j:=fun x a w' r d=>OJ l o cap w' (y.O r) c x ((y.2 x a).2.O r) (m x a) d;have⟨ts,h⟩:=am (l.map ai.t);have A:∀(k:Nat) (x:ai),l[k]?=some x->ts[k]?=some x.t:=fun k x a=>by rw[h];exact FH a
 have F:ts=l.length:=by rw[h,bn]
 rw[<-h]at s R u j⊢;have⟨n,f⟩:=am (s8 ts);rw[<-f];unfold s8 at f;have⟨d,S,H,ba,bo,bi,X,C⟩:=rx f s D R u j A F;clear f s D R u j A F h c m;by_cases c:64<l.length
 ·have f:decide ((l:Int)>64)=true:=bT
  have A:=ah (show n=17 by rw[d.o,au (C.o▸c)])
  go_in
  go_wp2
  go_ret;exact⟨da A.o.zy,aA _ _⟩
 have f:decide ((l:Int)>64)=false:=bU;by_cases f:l.length=0
 ·have h:((l:Int)==0)=true:=qQ
  have A:=ah (show n=18 by rw[d.o,ap (C.o▸c),au (C.o▸f)])
  go_in
  go_wp2
  go_ret;exact⟨da A.o.zy,aA _ _⟩
 have h:((l:Int)==0)=false:=fU;have G:=ah (show n=if ts.any gR=true then 11 else if mh ts≠0 then mh ts else if ts.any (kU ts)=true then 16 else if ts.any (nh ts)=true then 24 else if ts.any (fun t=> !lG ts t)=true then 23 else 0 by rw[d.o,ap (C.o▸c),ap (C.o▸f)]);clear d
 go_in
 go_wp2
 go_loopw [3] (fun v wr=>∃k:Nat,v=.int .i64 k/\k<=l/\aR w wr/\Hid ((ts.take k).any gR=false)) (fun v _=>l-(intOf v).toNat)
 case atStart=>exact⟨0,rfl,aH _,aA _ _,rfl⟩
 case round=>
  obtain⟨k,rfl,a1,s,j⟩:=hrel;by_cases h:k<l
  ·have Q:=bC h
   have R:=bk h;have a2:=aL k;have⟨x,a⟩:=aT h;have m:=X.o k x a;have d:=rr m j.o;have f:gR x.t=true->n=11:=fun F=>by rw[G.o,au (ru m F)]
   have c:=H.o x (aK a) _ s;obtain⟨b,a6,rfl,a0,H,I,J,K,M,N⟩:=(y.O s).at a;obtain⟨⟨name,label,attrs,key,text,nodes⟩,ao,ac,no,a5⟩:=x;unfold dV typeRow at c;simp only at H I J K M N c d f;generalize gR ⟨name,label,attrs,key,text,nodes⟩=q at c d f;have⟨O,P⟩:=aC d f;clear d f a m;cases q with
   |true=>
    have A:=ah (P.o rfl);go_wp2_with fail
    refine ar c ?_;intro a7 D;clear c
    go_wp2
    go_ret;exact⟨da A.o.zy,aE s D⟩
   |false=>
    go_wp2_with fail
    refine ar c ?_;intro a7 D;clear c
    go_wp2
    go_roundw
    case rel=>exact⟨_,aD,ad,aE s D,O.o⟩
    case measure=>exact aM
  ·have Q:=bG h
   have u:ts.any gR=false:=by have:=j.o;rwa[bI (aQ C.o)]at this
   have aa:=ah (show n=if mh ts≠0 then mh ts else if ts.any (kU ts)=true then 16 else if ts.any (nh ts)=true then 24 else if ts.any (fun t=> !lG ts t)=true then 23 else 0 by rw[G.o,ap (by rw[u];simp)]);have Z:=S.o _ s;generalize mh ts=E at aa Z;clear u j G;by_cases aw:E=0
   ·subst aw
    have W:=ah (show n=if ts.any (kU ts)=true then 16 else if ts.any (nh ts)=true then 24 else if ts.any (fun t=> !lG ts t)=true then 23 else 0 by assumption);clear aa;go_wp2_with fail
    refine ar Z ?_;intro bu ab;clear Z;have c:=aE s ab;clear ab s
    go_wp2
    go_loopw [5] (fun v wr=>∃k:Nat,v=.int .i64 k/\k<=l/\aR w wr/\Hid ((ts.take k).any (kU ts)=false)) (fun v _=>l-(intOf v).toNat)
    case atStart=>exact⟨0,rfl,aH _,c,rfl⟩
    case round=>
     obtain⟨k,rfl,a1,s,j⟩:=hrel;obtain⟨c,rfl⟩:=am wr;by_cases h:k<l
     ·have Q:=bC h
      have R:=bk h;have a2:=aL k;have⟨x,a⟩:=aT h;have m:=X.o k x a;have d:=rr m j.o;have f:kU ts x.t=true->n=16:=fun F=>by rw[W.o,au (ru m F)]
      have c:=ba.o x (aK a) _ s;have G:kU ts x.t=(fE ts x.t.E).any (fun z=>decide _):=rfl;generalize fE ts x.t.E=zs at c G;obtain⟨b,a6,rfl,a0,H,I,J,K,M,N⟩:=(y.O s).at a;obtain⟨⟨name,label,attrs,key,text,nodes⟩,ao,ac,no,a5⟩:=x;unfold dV typeRow at c;simp only at H I J K M N c d f G;generalize kU ts ⟨name,label,attrs,key,text,nodes⟩=q at d f G;have⟨O,P,bb⟩:=bm d f G;clear d f a m G;go_wp2_with fail
      apply c.zz;rintro e a7 ⟨V,T,rfl,Y,D⟩;clear c H I J K M N;have S:=aE s D;have bt:=Y.2.2.1;have bF:=Y.2.1;unfold maxLen at bt;clear D
      go_wp2
      go_loop [7] (fun v=>∃i:Nat,v=.int .i64 i/\i<=zs/\Hid ((zs.take i).any (fun z=>decide (z<0))=false)) (fun v=>zs-(intOf v).toNat)
      case atStart=>exact⟨0,rfl,aH _,rfl⟩
      case round=>
       obtain⟨i,rfl,bA,a9⟩:=hrel;by_cases af:i<zs
       ·have bq:=bC af
        have bE:=bk af;have bB:=aL i;have⟨z,B⟩:=aT af;have bf:=rr (p:=fun z=>decide _) B a9.o;have bd:=fun F=>ru (p:=fun z=>decide (z<0)) B F;obtain⟨g,bw,rfl,bz,bZ⟩:=Y.at B;have⟨bl,bg⟩:=aC bf bd;clear bf bd B;by_cases ag:z<0
        ·have d1:decide (z<0)=true:=by rw[cf];exact ag
         have A:=ah (P.o (by rw[bb.o];exact bg.o d1));clear ag
         go_wp2
         go_ret;exact⟨da A.o.zy,S⟩
        ·have d1:decide (z<0)=false:=by rw[dd];exact ag
         have an:=ah (show(zs.take (i+1)).any (fun z=>decide _)=false by rw[bl.o];exact d1);clear ag
         go_wp2
         go_round
         case rel=>exact⟨_,aD,ad,an.o⟩
         case measure=>exact aM
       ·have bq:=bG af
        have an:=ah (show(ts.take (k+1)).any (kU ts)=false by rw[O.o,bb.o];have:=a9.o;rwa[bI ad]at this)
        go_wp2
        go_roundw
        case rel=>exact⟨_,aD,ad,S,an.o⟩
        case measure=>exact aM
     ·have Q:=bG h
      have u:ts.any (kU ts)=false:=by have:=j.o;rwa[bI (aQ C.o)]at this
      have al:=ah (show n=if ts.any (nh ts)=true then 24 else if ts.any (fun t=> !lG ts t)=true then 23 else 0 by rw[W.o,ap (by rw[u];simp)]);have be:∀(x:ai) (k:Nat),l[k]?=some x->∀z∈fE ts x.t.E,0<=z/\z<(l.length:Int):=fun x k a z B=>by refine⟨?_,by have:=FJ B;rwa[C.o]at this⟩;rw[nF]at u;have av:=u x.t (aK (X.o k x a));unfold kU at av;rw[iX,nF]at av;have:=av z B;simpa using this
      have bc:=ah be;clear u j W be
      go_wp2
      go_loopw [8] (fun v wr=>∃k:Nat,v=.int .i64 k/\k<=l/\aR w wr/\Hid ((ts.take k).any (nh ts)=false)) (fun v _=>l-(intOf v).toNat)
      case atStart=>exact⟨0,rfl,aH _,s,rfl⟩
      case round=>
       obtain⟨k,rfl,a1,ae,j⟩:=hrel;by_cases h:k<l
       ·have Q:=bC h
        have R:=bk h;have a2:=aL k;have⟨x,a⟩:=aT h;have m:=X.o k x a;have d:=rr m j.o;have f:nh ts x.t=true->n=24:=fun F=>by rw[al.o,au (ru m F)]
        have c:=ba.o x (aK a) _ ae;have a3:=bc.o x k a;have G:nh ts x.t=cz (pU ts (fE ts x.t.E)):=rfl;generalize fE ts x.t.E=zs at c G a3;rw[G]at d f;generalize hq:cz (pU ts zs)=q at d f;have a4:=fun V T w' r B=>bo.o zs V T w' r B a3;rw[hq]at a4;obtain⟨b,a6,rfl,a0,H,I,J,K,M,N⟩:=(y.O ae).at a;obtain⟨⟨name,label,attrs,key,text,nodes⟩,ao,ac,no,a5⟩:=x;unfold dV typeRow at c;simp only at H I J K M N c d f;have⟨O,P,r⟩:=bm d f a4;clear d f a m G a3 a4 hq;go_wp2_with fail
        apply c.zz;rintro e a7 ⟨V,T,rfl,Y,D⟩;clear c H I J K M N;have S:=aE ae D;have B:=r.o V T _ S Y;clear D;cases q with
        |true=>
         have A:=ah (P.o rfl);go_wp2_with fail
         refine ar B ?_;intro G r;clear B
         go_wp2
         go_ret;exact⟨da A.o.zy,aE S r⟩
        |false=>
         go_wp2_with fail
         refine ar B ?_;intro G r;clear B
         go_wp2
         go_roundw
         case rel=>exact⟨_,aD,ad,aE S r,O.o⟩
         case measure=>exact aM
       ·have Q:=bG h
        have u:ts.any (nh ts)=false:=by have:=j.o;rwa[bI (aQ C.o)]at this
        have D:=ah (show n=if ts.any (fun t=> !lG ts t)=true then 23 else 0 by rw[al.o,ap (by rw[u];simp)]);clear u j al
        go_wp2
        go_loopw [9] (fun v wr=>∃k:Nat,v=.int .i64 k/\k<=l/\aR w wr/\Hid ((ts.take k).any (fun t=> !lG ts t)=false)) (fun v _=>l-(intOf v).toNat)
        case atStart=>exact⟨0,rfl,aH _,ae,rfl⟩
        case round=>
         obtain⟨k,rfl,a1,B,j⟩:=hrel;by_cases h:k<l
         ·have Q:=bC h
          have R:=bk h;have a2:=aL k;have⟨x,a⟩:=aT h;have m:=X.o k x a;have d:=rr m j.o;have f:(!lG ts x.t)=true->n=23:=fun F=>by rw[D.o,au (ru m F)]
          have c:=bi.o x (aK a) _ B (bc.o x k a);rw[show((fE ts x.t.E).any (fun z=>(gS ts z.toNat).contains _)||x.t.key.isEmpty)=lG ts x.t from rfl]at c;obtain⟨b,a6,rfl,a0,H,I,J,K,M,N⟩:=(y.O B).at a;obtain⟨⟨name,label,attrs,key,text,nodes⟩,ao,ac,no,a5⟩:=x;unfold dV typeRow at c;simp only at H I J K M N c d f;generalize lG ts ⟨name,label,attrs,key,text,nodes⟩=q at c d f;have⟨O,P⟩:=aC d f;clear d f a m;cases q with
          |false=>
           have A:=ah (P.o rfl);go_wp2_with fail
           refine ar c ?_;intro G r;clear c
           go_wp2
           go_ret;exact⟨da A.o.zy,aE B r⟩
          |true=>
           go_wp2_with fail
           refine ar c ?_;intro G r;clear c
           go_wp2
           go_roundw
           case rel=>exact⟨_,aD,ad,aE B r,O.o⟩
           case measure=>exact aM
         ·have Q:=bG h
          have u:ts.any (fun t=> !lG ts t)=false:=by have:=j.o;rwa[bI (aQ C.o)]at this
          have a:=ah (show n=0 by rw[D.o,ap (by rw[u];simp)]);clear u j D
          go_wp2
          go_ret;exact⟨da a.o.zy,B⟩
   ·have W:=ah (show n=E by rw[aa.o,au aw])
    have a:(E !=0)=true:=by rw[ka];exact aw
    clear aa;go_wp2_with fail
    refine ar Z ?_;intro bu ab;clear Z
    go_wp2
    go_ret;exact⟨da W.o.zy,aE s ab⟩
def pV{c:Type}(l:List c):Prop:=∀(a b:Nat) x,l[a]?=some x->l[b]?=x->a=b
def FK{α l}(o:pV l)(f:α->Bytes):cz (l.map f)=true↔∃x∈l,∃y∈l,x≠y/\f x=f y:=by
 constructor;intro r;obtain⟨a,b,v,s,h,i⟩:=FG _ r;rw[bR]at h i;obtain⟨x,d,m⟩:=qH.1 h;obtain⟨y,g,n⟩:=qH.1 i;refine⟨x,aK d,y,aK g,fun e=> ?_,by rw[m,n]⟩;subst e;have:=o a b x d g;omega;rintro⟨x,d,y,g,q,p⟩;obtain⟨a,j⟩:=qG.1 d;obtain⟨b,c⟩:=qG.1 g;cases e:cz (l.map f)with
 |true=>rfl
 |false=>
  have:=xY e a b (f x) (by rw[bR,j];rfl) (by rw[bR,c,p];rfl);subst this;rw[j]at c;injection c with c
  exact absurd c q
def OT{α l}{x:α}(j:pV l)(i:x∉l):pV (l++[x]):=by intro a b y c d;by_cases g:a<l<;>by_cases h:b<l;rw[eC g]at c;rw[eC h]at d;exact j a b y c d;rw[eC g]at c;have f:=(aF.1 d).1;rw[ck,wh]at f;rw[gp ad,show b-l=0 by omega]at d;simp at d;subst d;exact absurd (aK c) i;rw[eC h]at d;have e:=(aF.1 c).1;rw[ck,wh]at e;rw[gp ad,show a-l=0 by omega]at c;simp at c;subst c;exact absurd (aK d) i;have e:=(aF.1 c).1;have f:=(aF.1 d).1;rw[ck,wh]at e f;omega
def OU{ts}:∀(l:List ax) out,pV out->pV (l.foldl (mg ts) out):=by
 intro l;induction l with
 |nil=>intro out a;exact a
 |cons n t ih=>
  intro out a;rw[oA];apply ih _;unfold mg;split;split;exact a;rename_i b;exact OT a (by rwa[pr]at b);exact a
def OV ts l:pV (fE ts l):=OU l [] (fun a b x c=>by simp at c)
def OW{a l}(m:(a::l).Pairwise (fun x y=>bD x y=true)):(dN (a::l)).Pairwise (fun x y=>bD x y=true/\x≠y)/\∀x∈dN (a::l),bD a x=true:=by
 induction l generalizing a with
 |nil=>
  refine⟨by simp[dN],fun x c=> ?_⟩;simp[dN]at c;subst c;unfold bD;simp
 |cons b t ih=>
  have h:=ue.1 m;have⟨i,g⟩:=ih h.2;have d:=h.1 b (eV ..);unfold dN;by_cases e:a=b;subst e;rw[au rfl];exact⟨i,g⟩;rw[ap e];have tr:∀x∈dN (b::t),bD a x=true:=fun x c=>by have:=g x c;unfold bD at*;rw[cf]at*;exact zS d this
  refine⟨ue.2 ⟨fun x c=>⟨tr x c,fun j=> ?_⟩,i⟩,fun x c=> ?_⟩;subst j;have f:=g a c;unfold bD at f d;rw[cf]at f d;exact e (si d f);rcases bX.1 c with rfl|c
  unfold bD;simp;exact tr x c
def yf{b}:∀{l},b∈l->b∈dN l
 |[],d=>d
 |[a],d=>d
 |a::c::t,d=>by
  simp only[dN];by_cases e:a=c;rw[au e];rcases bX.1 d with d|d
  subst d;exact yf (e▸eV ..);exact yf d;rw[ap e];rcases bX.1 d with d|d
  subst d;simp;exact dM _ (yf d)
def OX{l}(d:bK l=0){b}:b∈symsS l↔∃n∈l,n.op=2/\n.sym=b:=by
 unfold symsS;rw[au d];have f:b∈(gQ l).mergeSort bD↔b∈gQ l:=zF;have g:b∈gQ l↔∃n∈l,n.op=2/\n.sym=b:=by
  unfold gQ;rw[Ks];constructor;rintro⟨n,c,e⟩;by_cases a:n.op=2;rw[au a]at e;injection e with e;exact⟨n,c,a,e⟩
  rw[ap a]at e;cases e;rintro⟨n,c,a,e⟩;exact⟨n,c,by rw[au a,e]⟩
 rw[<-g,<-f];exact⟨sC,yf⟩
def OY{l}:pV (symsS l):=by
 unfold symsS;split;have m:((gQ l).mergeSort bD).Pairwise (fun x y=>bD x y=true):=by refine List.pairwise_mergeSort ?_ ?_ _;intro a b c n o;unfold bD at*;rw[cf]at*;exact zS n o;intro a b;unfold bD;rw[dA,cf,cf];exact wQ a b
 generalize(gQ l).mergeSort bD=s at m;have f:(dN s).Pairwise (fun x y=>x≠y):=by
  cases s with
  |nil=>simp[dN]
  |cons a t=>exact(OW m).1.imp fun d=>d.2
 intro a b x e p;obtain⟨g,h⟩:=aF.1 e;obtain⟨i,j⟩:=aF.1 p;rw[List.pairwise_iff_getElem]at f;rcases tV a b with d|d|d
 exact absurd (h.Z j.zy) (f a b g i d);exact d;exact absurd (j.Z h.zy) (f b a i g d);intro a b x e;simp at e
def uT{ts}(g:cz (ts.map aB.name)=false) n:fi ts n=match placeS ts n with|some k=>k|none=> -1:=by
 rcases yd ts n with⟨k,t,a,b,h,_⟩|⟨a,b⟩
 cases d:placeS ts n with
 |none=>
  have:=D6 ts n;rw[d]at this;have i:(ts.map aB.name).contains n=true:=by rw[pr];exact dL.2 ⟨t,aK a,b⟩
  rw[i]at this;cases this
 |some c=>
  obtain⟨u,e,f⟩:=xX d;have:k=c:=xY g k c n (by rw[bR,a];simp[b]) (by rw[bR,e];simp[f]);rw[h,this]
 cases d:placeS ts n with
 |none=>exact a
 |some c=>
  obtain⟨u,e,f⟩:=xX d;exact absurd f (b c u e)
def FL{ts}(a:cz (ts.map aB.name)=false) n:fi ts n<0↔placeS ts n=none:=by
 rw[uT a n];cases placeS ts n with
 |none=>simp
 |some k=>simp
def FM{ts}(b:eW ts=0):∀t∈ts,t.text=false->bK t.E=0:=by
 induction ts with
 |nil=>intro t a;simp at a
 |cons u ts ih=>
  unfold eW at b;intro t a d;by_cases c:u.text=false/\bK u.E≠0;rw[au c]at b;omega;rw[ap c]at b;rcases bX.1 a with rfl|a
  exact dU fun e=>c ⟨d,e⟩;exact ih b t a d
def yg{ts}(c:ts.any fW=false)(g:eW ts=0){t}(d:t∈ts){b}:b∈symsS t.E↔∃n∈t.E,n.op=2/\n.sym=b:=by
 cases f:t.text with
 |false=>exact OX (FM g t d f)
 |true=>
  rw[nF]at c;have:=c t d;unfold fW at this;rw[f]at this;have h:t.E=[]:=by
   cases e:t.E with
   |nil=>rfl
   |cons a r=>rw[e]at this;simp at this
  rw[h,AW];simp
def OZ{ts}(d:cz (ts.map aB.name)=false)(f:ts.any fW=false)(g:eW ts=0){t}(j:t∈ts):kU ts t=(symsS t.E).any (fun n=>(placeS ts n).isNone):=by
 rw[ft];unfold kU;rw[jx,jx];constructor;rintro⟨z,m,h⟩;obtain⟨n,c,a,rfl⟩:=ye.1 m;rw[cf]at h;exact⟨_,(yg f g j).2 ⟨n,c,a,rfl⟩,by rw[(FL d _).1 h];rfl⟩;rintro⟨b,l,i⟩;obtain⟨n,c,a,rfl⟩:=(yg f g j).1 l;refine⟨_,ye.2 ⟨n,c,a,rfl⟩,?_⟩;rw[cf,FL d];cases e:placeS ts n.sym with
 |none=>rfl
 |some k=>rw[e]at i;cases i
def rz{ts}(d:cz (ts.map aB.name)=false)(f:ts.any fW=false)(g:eW ts=0){t}(l:t∈ts)(j:∀b∈symsS t.E,placeS ts b≠none) z:z∈fE ts t.E↔∃k∈kidsS ts t,z=k:=by
 rw[ye];unfold kidsS;constructor;rintro⟨n,c,a,rfl⟩;have i:=(yg f g l).2 ⟨n,c,a,rfl⟩;refine⟨_,dL.2 ⟨_,i,rfl⟩,?_⟩;rw[uT d];cases e:placeS ts n.sym with
 |none=>exact absurd e (j _ i)
 |some k=>rfl
 rintro⟨k,m,rfl⟩;obtain⟨b,h,rfl⟩:=dL.1 m;obtain⟨n,c,a,rfl⟩:=(yg f g l).1 h;refine⟨n,c,a,?_⟩;rw[uT d];cases e:placeS ts n.sym with
 |none=>exact absurd e (j _ h)
 |some k=>rfl
def O0{ts t}(l:∀b∈symsS t.E,placeS ts b≠none):pV (kidsS ts t):=by
 unfold kidsS;intro a b k i j;rw[bR]at i j;obtain⟨x,m,e⟩:=qH.1 i;obtain⟨y,n,f⟩:=qH.1 j;have r:x=y:=by
  cases g:placeS ts x with
  |none=>exact absurd g (l x (aK m))
  |some c=>
   cases h:placeS ts y with
   |none=>exact absurd h (l y (aK n))
   |some d=>
    rw[g]at e;rw[h]at f;simp at e f;subst e;subst f;obtain⟨u,q,p⟩:=xX g;obtain⟨v,hv,o⟩:=xX h;rw[q]at hv;cases hv
    rw[<-p,<-o]
 subst r;exact OY a b x m n
def O1{ts}(c:cz (ts.map aB.name)=false)(d:ts.any fW=false)(f:eW ts=0){t}(g:t∈ts)(a:∀b∈symsS t.E,placeS ts b≠none):nh ts t=cz ((kidsS ts t).map (labelAt ts)):=by rw[ft];unfold nh pU;rw[FK (OV ts _),FK (O0 a)];constructor;rintro⟨x,n,y,o,m,h⟩;obtain⟨k,l,rfl⟩:=(rz c d f g a x).1 n;obtain⟨j,i,rfl⟩:=(rz c d f g a y).1 o;exact⟨k,l,j,i,fun e=>m (by rw[e]),by simpa using h⟩;rintro⟨k,l,j,i,m,h⟩;exact⟨k,(rz c d f g a _).2 ⟨k,l,rfl⟩,j,(rz c d f g a _).2 ⟨j,i,rfl⟩,ad,by simpa using h⟩
def O2{ts}(d:cz (ts.map aB.name)=false)(e:ts.any fW=false)(f:eW ts=0){t}(h:t∈ts)(g:∀b∈symsS t.E,placeS ts b≠none):(!lG ts t)=(!t.key.isEmpty&& !(kidsS ts t).any fun k=>(gS ts k).contains t.key):=by
 have i:(fE ts t.E).any (fun z=>(gS ts z.toNat).contains t.key)=(kidsS ts t).any fun k=>(gS ts k).contains t.key:=by rw[ft,jx,jx];constructor;rintro⟨z,j,a⟩;obtain⟨k,c,rfl⟩:=(rz d e f h g z).1 j;exact⟨k,c,by simpa using a⟩;rintro⟨k,c,a⟩;exact⟨k,(rz d e f h g _).2 ⟨k,c,rfl⟩,by simpa using a⟩
 unfold lG;rw[i];cases t.key.isEmpty<;>simp
def AZ{d:Type}{l:List d}{p q}(b:∀x∈l,p x=q x):l.any p=l.any q:=by
 induction l with
 |nil=>rfl
 |cons a t ih=>rw[Dn,Dn,b a (eV ..),ih fun x c=>b x (dM _ c)]
def FN ts:s8 ts=bY ts:=by unfold s8 bY;split;rfl;split;rfl;split;rfl;unfold mh;by_cases c:cz (ts.map aB.name)=true;rw[au c,au c,au aq];rw[ap c,ap c];by_cases h:ts.any (fun t=>eo t.zx)=true;rw[au h,au h,au aq];rw[ap h,ap h];rw[show(fun t=>t.text&&(!t.E.isEmpty|| !t.key.isEmpty))=fW from rfl];by_cases d:ts.any fW=true;rw[au d,au d,au aq];rw[ap d,ap d];by_cases f:eW ts=0;rw[ap (by simp[f]),ap (show¬eW ts≠0 by simp[f])];rw[iX]at c d;have l:ts.any (kU ts)=ts.any (fun t=>(symsS t.E).any _):=AZ fun t a=>OZ c d f a;rw[l];by_cases g:ts.any (fun t=>(symsS t.E).any fun n=>(placeS ts n).isNone)=true;rw[au g,au g];rw[ap g,ap g];have j:∀t∈ts,∀b∈symsS t.E,placeS ts b≠none:=fun t a b m e=>g (jx.2 ⟨t,a,jx.2 ⟨b,m,by rw[e];rfl⟩⟩);rw[AZ fun t a=>O1 c d f a (j t a)];by_cases i:ts.any (fun t=>cz ((kidsS ts t).map (labelAt ts)))=true;rw[au i,au i];rw[ap i,ap i];rw[AZ fun t a=>O2 c d f a (j t a)];omega
structure O3(ts:List aB):Prop where
 names:cz (ts.map aB.name)=false
 zs:∀t∈ts,∀z,z∈fE ts t.E↔∃k∈kidsS ts t,z=(k:Int)
def O4{ts}(a:bY ts=0):O3 ts:=by
 have i:=uR a;rw[<-FN]at a;unfold s8 at a;split at a;cases a
 split at a;cases a
 split at a;cases a
 split at a;rename_i j;omega;rename_i c;have c:=dU c;unfold mh at c;split at c;cases c
 rename_i d;split at c;cases c
 split at c;cases c
 rename_i f;rw[iX]at d f;refine⟨d,fun t g z=>rz d f c g (fun b h e=> ?_) z⟩;have:=i.placed t g b h;rw[e]at this;cases this
def A2 l o cap w(a:cw w o cap l)(c:l.length<=1048576) n:
 de 12 #[.slice o l cap,.string ⟨n.toArray⟩] w (.int .i64 (fi (l.map ai.t) n)) fun w'=>w=w':=by
 have b:=AY l o cap w a c n
 go_in
 go_wp2_with fail
 refine ar b ?_;rintro w' rfl
 go_wp2
 go_ret;simp
def yh{l ys:List ai}(a:ys.map ai.t=l.map ai.t){y}(b:y∈ys):∃x∈l,x.t=y.t:=by
 have:y.t∈l.map ai.t:=by rw[<-a];exact lY b
 exact dL.1 this
def A3{l ys}(d:ys.map ai.t=l.map ai.t)(a:ep l):ep ys:=by
 have f:ys.length=l.length:=by have:=gA List.length d;simpa using this
 refine⟨f▸a.len,fun y c=> ?_,fun y c=> ?_,fun y c=> ?_,fun y c=> ?_,fun y c=> ?_,fun y c=> ?_⟩;all_goals
  obtain⟨x,b,e⟩:=yh d c;rw[<-e]
 exact a.name x b;exact a.zv x b;exact a.key x b;exact a.zx x b;exact a.attr x b;exact a.sym x b
end Go.Proofs.YtfeidcmojcijpaaGreatDoor
