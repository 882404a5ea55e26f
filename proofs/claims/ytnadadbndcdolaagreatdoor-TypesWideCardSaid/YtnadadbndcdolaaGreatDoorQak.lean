import Derived.Test.YtnadadbndcdolaaGreatDoorQaj
set_option linter.unusedVariables false
set_option linter.unusedSimpArgs false
set_option maxRecDepth 100000
set_option maxHeartbeats 0
namespace Go.Proofs.YtnadadbndcdolaaGreatDoor
open Go.RowKit Tryz
def sF(w:World)(B:Nat)(v:Value)(ok:Bool)(a:Option (List aj)):Prop:=
 match a with
 |none=>v=.slice none 0 0/\ok=false
 |some l=>cj w B v l/\ok=true
theorem Dk:(nodeRow nt).toArray=#[.int .i64 0,.string ⟨#[]⟩,.int .i64 0,.int .i64 0]:=rfl
theorem Dl:(nodeRow dQ).toArray=#[.int .i64 1,.string ⟨#[]⟩,.int .i64 0,.int .i64 0]:=rfl
def yJ(a:List aj×Bool)(b p B:Nat)(c:ByteArray)(e:Bool)(w:World)(d:Ending)(w':World):Prop:=
 ∃v,d=.returned v/\cj w' B v a.1/\bX w' b c p e a.2/\aY b w w'
theorem yK{b p B:Nat}{c:ByteArray}{d:Bool}{w a:World}(g:bX a b c p d true)(h:aY b w a)(H:Nat)(f:a.heap.size=H)(e:B<=H):
 yJ ([nt],true) b p B c d w (.returned (.slice (some ⟨H,0,none⟩) 1 1)) (a.alloc (.cells #[.int .i64 0,.string ⟨#[]⟩,.int .i64 0,.int .i64 0] 102)):=by
 subst f;refine⟨_,rfl,?_,g.below aG,h.alloc _⟩;have:=vA a nt B e;rw[Dk]at this;exact this
theorem Dm{big:Bool}{a:Option (List aj)}(b:∀l,a=some l->1024<l.length):fD big a=([nt],true):=by
 unfold fD;split
 ·rfl
 ·rename_i l;rw[ay (.inr (b l rfl))]
theorem KJ{a:Option (List aj)}:fD true a=([nt],true):=by
 unfold fD;split
 ·rfl
 ·rw[ay (.inl rfl)]
theorem KK{l:List aj}(a:l.length<=1024):fD false (some l)=(l,false):=by
 show(if false=true∨1024<l.length then([nt],true)else(l,false))=_
 rw[au aR]
theorem vC(b p B:Nat)(h:ByteArray)(m e:Bool)(d:Option (List aj))(v:Value)(ok:Bool)(w:World)(a:bX w b h p m e)(i:sF w B v ok d)(f:B<=w.heap.size)(r:b<B)(q:∀l,d=some l->l.length<=1048576):
 Calls prog 321 #[.pointer (some ⟨b,0,none⟩),v,.bool ok] w (yJ (fD e d) b p B h m w):=by
 have s:=a.free 3;cases d with
 |none=>
  obtain⟨rfl,rfl⟩:=i;rw[Dm (by intro l c;cases c)];have g:=a.cBi;go_enter Bj,Bk
  go_wp2
  go_ret;exact yK (a.setBi true) ((aY.refl b w).setCell 3 _) _ (by simp[World.setCell]) f
 |some l=>
  obtain⟨j,rfl⟩:=i;have t:=q l rfl;obtain⟨y,x,rfl⟩:=eh j;by_cases n:1024<l.length
  ·rw[Dm (by intro u c;injection c with c;subst c;exact n)]
   have o:decide ((l.length:Int)>1024)=true:=bQ;have g:=a.cBi;go_enter Bj,Bk
   go_wp2
   go_ret;exact yK (a.setBi true) ((aY.refl b w).setCell 3 _) _ (by simp[World.setCell]) f
  ·have o:decide ((l.length:Int)>1024)=false:=bK
   have g:=a.cBi;cases e with
   |true=>
    rw[KJ];go_enter Bj,Bk
    go_wp2
    go_ret;exact yK a (aY.refl b w) _ rfl f
   |false=>
    rw[KK ad];go_enter Bj,Bk
    go_wp2
    go_ret;exact⟨_,rfl,j,a,aY.refl b w⟩
def eI(h:eG)(b:Nat)(a:ByteArray)(w:World)(e:Ending)(w':World):Prop:=
 (match h with
  |none=>(∃o n c,e=.returned (.tuple #[.slice o n c,.bool false]))/\∃p g f,p<=a.size/\bX w' b a p g f
  |some (l,d)=>(∃v,e=.returned (.tuple #[v,.bool true])/\cj w' w.heap.size v l)/\bX w' b a d.p d.long d.big)/\aY b w w'
theorem eI.no{g:eG}{b:Nat}{a:ByteArray}{w w':World}{e:Ending}{o:Option Addr}{n c p:Nat}{f d:Bool}(h:g=none)(l:e=.returned (.tuple #[.slice o n c,.bool false]))(m:p<=a.size)(i:bX w' b a p f d)(j:aY b w w'):eI g b a w e w':=by subst h;exact⟨⟨⟨o,n,c,l⟩,p,f,d,m,i⟩,j⟩
theorem eI.yes{e:eG}{b:Nat}{c:ByteArray}{w w':World}{d:Ending}{v:Value}{l:List aj}{a:da}(f:e=some (l,a))(i:d=.returned (.tuple #[v,.bool true]))(j:cj w' w.heap.size v l)(g:bX w' b c a.p a.long a.big)(h:aY b w w'):eI e b c w d w':=by subst f;exact⟨⟨⟨v,i,j⟩,g⟩,h⟩
def ms(k:FuncId)(b:Nat)(c:ByteArray)(F:da->eG)(n:Nat):Prop:=
 ∀(a:da) (w:World),bX w b c a.p a.long a.big->a.p<=c.size->c.size-a.p<n->Calls prog k #[.pointer (some ⟨b,0,none⟩)] w (eI (F a) b c w)
theorem vD{w:World}{B H:Nat}{n:aj}(b:w.heap.size=H)(a:B<=H){cs:Array Value}(c:(nodeRow n).toArray=cs):cj (w.alloc (.cells cs 102)) B (.slice (some ⟨H,0,none⟩) 1 1) [n]:=by subst b;subst c;exact vA w n B a
theorem KL{b n:Nat}{e:ByteArray}{E:da->eG}(V:e.size<=65536)(bi:ms 236 b e E n)(bl:kr e.data.toList E):ms 329 b e (ml e.data.toList E) (n+1):=by
 intro bu w a9 a3 bo;obtain⟨p,H,G⟩:=bu;simp only at a9 a3 bo;obtain⟨bD,a⟩:=ar (ml e.data.toList E ⟨p,H,G⟩);rw[<-a];unfold ml at a;simp only at a;have h:=od 33 33 rfl b p e H G w a9 a3 V;have P:=oc e 33 p a3;obtain⟨Z,d⟩:=ar (bU e.data.toList 33 p);rw[<-d]at h P a;cases ab:fI e.data.toList 33 p with
 |true=>
  rw[ab]at h a;rw[ay rfl]at a;have r:=ah a;clear a ab d;go_enter qo,qp
  go_wp2_with fail
  refine h.mono ?_;rintro f m ⟨rfl,d,q⟩;clear h
  go_wp2
  go_ret2
  exact eI.yes r.o rfl (vD rfl q.size Dk) (d.below aG) (q.alloc _)
 |false=>
  rw[ab]at h a;rw[au ak]at a;have l:=fun m d=>od 40 40 rfl b Z e H G m d P.1 V;have D:=oc e 40 Z P.1;obtain⟨F,j⟩:=ar (bU e.data.toList 40 Z);rw[<-j]at l D a;clear ab d;cases ae:fI e.data.toList 40 Z with
  |true=>
   rw[ae]at l a D;rw[ay rfl]at a;have B:=fun m d=>od 41 41 rfl b F e H G m d D.1 V;have aq:=oc e 41 F D.1;obtain⟨aa,i⟩:=ar (bU e.data.toList 41 F);rw[<-i]at B aq a;have bZ:=D.2.2 rfl;have bN:=P.2.1;have b0:=aq.2.1;have bc:=aq.1;clear ae j P D aq;cases af:fI e.data.toList 41 F with
   |true=>
    rw[af]at B a;rw[ay rfl]at a;have r:=ah a;clear a af i;go_enter qo,qp
    go_wp2_with fail
    refine h.mono ?_;rintro f m ⟨rfl,d,q⟩;clear h;have g:=l _ d;clear l;go_wp2_with fail
    refine g.mono ?_;rintro f Q ⟨rfl,j,u⟩;clear g;have C:=B _ j;clear B;go_wp2_with fail
    refine C.mono ?_;rintro f R ⟨rfl,i,x⟩;clear C;have s:=(q.trans u).trans x
    go_wp2
    go_ret2
    exact eI.yes r.o rfl (vD rfl s.size Dl) (i.below aG) (s.alloc _)
   |false=>
    rw[af]at B a;rw[au ak]at a;have y:=fun m d=>bi ⟨aa,H,G⟩ m d bc (by show e.size-aa<n;omega);have a2:=fun be a6 bg=>bl ⟨aa,H,G⟩ be a6 (by rw[<-dV];exact bc) bg;clear af i;cases X:E ⟨aa,H,G⟩with
    |none=>
     rw[X]at a y;simp only at a;have r:=ah a;unfold eI at y;simp only at y;clear a X a2;go_enter qo,qp
     go_wp2_with fail
     refine h.mono ?_;rintro f m ⟨rfl,d,q⟩;clear h;have g:=l _ d;clear l;go_wp2_with fail
     refine g.mono ?_;rintro f Q ⟨rfl,j,u⟩;clear g;have C:=B _ j;clear B;go_wp2_with fail
     refine C.mono ?_;rintro f R ⟨rfl,i,x⟩;clear C;have s:=(q.trans u).trans x;have I:=y _ i;clear y;go_wp2_with fail
     refine I.mono ?_;rintro f av ⟨⟨⟨o,k,c,rfl⟩,O,bd,a8,ao,A⟩,S⟩;clear I
     go_wp2
     go_ret2
     exact eI.no r.o rfl ao A (s.trans S)
    |some z=>
     obtain⟨be,a6⟩:=z;obtain⟨O,bd,a8⟩:=a6;have a1:=a2 _ _ X;rw[X]at a y;simp only at a a1;have ao:O<=e.size:=by rw[dV];exact a1.2.1
     have L:=fun m d=>od 41 41 rfl b O e bd a8 m d ao V;have a5:=oc e 41 O ao;unfold eI at y;simp only at y;obtain⟨bC,ba⟩:=ar (bU e.data.toList 41 O);rw[<-ba]at L a5 a;have bq:=a5.1;clear X a2 a1 ba a5;cases ag:fI e.data.toList 41 O with
     |true=>
      rw[ag]at L a;rw[ay rfl]at a;have r:=ah a;clear a ag;go_enter qo,qp
      go_wp2_with fail
      refine h.mono ?_;rintro f m ⟨rfl,d,q⟩;clear h;have g:=l _ d;clear l;go_wp2_with fail
      refine g.mono ?_;rintro f Q ⟨rfl,j,u⟩;clear g;have C:=B _ j;clear B;go_wp2_with fail
      refine C.mono ?_;rintro f R ⟨rfl,i,x⟩;clear C;have s:=(q.trans u).trans x;have I:=y _ i;clear y;go_wp2_with fail
      refine I.mono ?_;rintro f av ⟨⟨⟨v,rfl,N⟩,A⟩,S⟩;clear I;have Y:=L _ A;clear L;obtain⟨bz,bw,rfl⟩:=eh N;have a7:=ah N;clear N;go_wp2_with fail
      refine Y.mono ?_;rintro f bA ⟨rfl,a0,al⟩;clear Y
      go_wp2
      go_ret2
      exact eI.yes r.o rfl (mr (dS a7.o al.grownBy (.inr (by have:=dC a7.o;intro bf;have:=(this b bf).1;have:=i.lt;omega))) s.size) a0 ((s.trans S).trans al)
     |false=>
      rw[ag]at L a;rw[au ak]at a;have r:=ah a;clear a ag;go_enter qo,qp
      go_wp2_with fail
      refine h.mono ?_;rintro f m ⟨rfl,d,q⟩;clear h;have g:=l _ d;clear l;go_wp2_with fail
      refine g.mono ?_;rintro f Q ⟨rfl,j,u⟩;clear g;have C:=B _ j;clear B;go_wp2_with fail
      refine C.mono ?_;rintro f R ⟨rfl,i,x⟩;clear C;have s:=(q.trans u).trans x;have I:=y _ i;clear y;go_wp2_with fail
      refine I.mono ?_;rintro f av ⟨⟨⟨v,rfl,N⟩,A⟩,S⟩;clear I;have Y:=L _ A;clear L;obtain⟨bz,bw,rfl⟩:=eh N;clear N;go_wp2_with fail
      refine Y.mono ?_;rintro f bA ⟨rfl,a0,al⟩;clear Y
      go_wp2
      go_ret2
      exact eI.no r.o rfl bq a0 ((s.trans S).trans al)
  |false=>
   rw[ae]at l a;rw[au ak]at a;have M:=fun m d=>KD b F e H G m d D.1 V;have a4:=KC e F;have bt:F<=e.size:=D.1;obtain⟨W,bb⟩:=ar (iO e.data.toList F);rw[<-bb]at M a4 a;clear ae j bb P D;cases W with
   |nil=>
    rw[ay rfl]at a;have r:=ah a;clear a;go_enter qo,qp
    go_wp2_with fail
    refine h.mono ?_;rintro f m ⟨rfl,d,q⟩;clear h;have g:=l _ d;clear l;go_wp2_with fail
    refine g.mono ?_;rintro f Q ⟨rfl,j,u⟩;clear g;have J:=M _ j;clear M;go_wp2_with fail
    refine J.mono ?_;rintro f R ⟨rfl,i,x⟩;clear J
    go_wp2
    go_ret2
    exact eI.no r.o rfl bt i ((q.trans u).trans x)
   |cons c t=>
    rw[au ak]at a;have K:=fun w=>m9 ⟨(c::t).toArray⟩ w (by rw[dV];show(c::t).length<=_;omega);simp only at K;have bB:=ah a4;clear a4;generalize hwd:c::t=W at*;have b1:W.toArray.isEmpty=false:=by rw[<-hwd];rfl
    have b2:W.isEmpty=false:=by rw[<-hwd];rfl
    clear hwd;cases an:cH W with
    |true=>
     rw[an]at K a;have r:=ah a;clear a an;go_enter qo,qp
     go_wp2_with fail
     refine h.mono ?_;rintro f m ⟨rfl,d,q⟩;clear h;have g:=l _ d;clear l;go_wp2_with fail
     refine g.mono ?_;rintro f Q ⟨rfl,j,u⟩;clear g;have J:=M _ j;clear M;go_wp2_with fail
     refine J.mono ?_;rintro f R ⟨rfl,i,x⟩;clear J;go_wp2_with fail
     refine(K _).mono ?_;rintro f av ⟨rfl,T⟩;clear K;have s:=((q.trans u).trans x).trans (aY.of T);have A:=i.below T
     go_wp2
     go_ret2
     exact eI.yes r.o rfl (vD rfl s.size rfl) (by simpa using A.below aG) (s.alloc _)
    |false=>
     rw[an]at K a;have r:=ah a;clear a an;go_enter qo,qp
     go_wp2_with fail
     refine h.mono ?_;rintro f m ⟨rfl,d,q⟩;clear h;have g:=l _ d;clear l;go_wp2_with fail
     refine g.mono ?_;rintro f Q ⟨rfl,j,u⟩;clear g;have J:=M _ j;clear M;go_wp2_with fail
     refine J.mono ?_;rintro f R ⟨rfl,i,x⟩;clear J;go_wp2_with fail
     refine(K _).mono ?_;rintro f av ⟨rfl,T⟩;clear K;have s:=((q.trans u).trans x).trans (aY.of T);have A:=i.below T;have bF:=A.free 2;have bE:=A.cLo
     go_wp2
     go_ret2
     exact eI.yes r.o rfl (vD (by simp[World.setCell]) s.size rfl) (by simpa using(A.setLo true).below aG) ((s.setCell 2 _).alloc _)
theorem yL{b:Nat}{w0 w w':World}{row:Option Nat}(a:aY b w0 w)(c:w.grownBy w' row)(g:∀k,row=some k->w0.heap.size<=k):aY b w0 w':=
 ⟨c.os.trans a.os,c.tape.trans a.tape,c.output.trans a.output,aJ a.size c.size,fun k d f=>(c.block k (dn d a.size) (fun e=>by have:=g k e.symm;omega)).trans (a.block k d f)⟩
theorem yM{w w':World}{b p:Nat}{c:ByteArray}{e a:Bool}{row:Option Nat}(d:bX w b c p e a)(g:w.grownBy w' row)(h:row≠some b):bX w' b c p e a:=
 (g.block b d.lt (fun f=>h f.symm)).trans d
theorem yN{b:Option (List aj)}{w w':World}{d:Ending}(a:nA b w d w'):∃o n c ok,d=.returned (.tuple #[.slice o n c,.bool ok])/\sF w' w.heap.size (.slice o n c) ok b/\Below w.heap.size w w':=by
 cases b with
 |none=>exact⟨none,0,0,false,a.1,⟨rfl,rfl⟩,a.2⟩
 |some l=>
  obtain⟨⟨v,g,e⟩,f⟩:=a;obtain⟨o,c,rfl⟩:=eh e;exact⟨o,l.length,c,true,g,⟨e,rfl⟩,f⟩
theorem sF.down{w:World}{B c:Nat}{v:Value}{ok:Bool}{b:Option (List aj)}(a:sF w B v ok b)(d:c<=B):sF w c v ok b:=by
 cases b with
 |none=>exact a
 |some l=>exact⟨mr a.1 d,a.2⟩
theorem Dn{w:World}{B:Nat}{f g:Option Addr}{d e:Nat}{a b:List aj}(t:cj w B (.slice f a.length d) a)(v:cj w B (.slice g b.length e) b):
 ny (w.alloc (.cells #[.slice f a.length d,.slice g b.length e] 49)) (some ⟨w.heap.size,0,none⟩) 2 [⟨a,f,d⟩,⟨b,g,e⟩]:=by
 have A:=aB w (.cells #[.slice f a.length d,.slice g b.length e] 49);have h:=(aE w.heap.size w).alloc (az _) (.cells #[.slice f a.length d,.slice g b.length e] 49);refine⟨⟨rfl,az _,bI,fun _=>⟨w.heap.size,0,rfl,ak,fun j u x=> ?_⟩⟩,fun p i=> ?_⟩
 ·rw[cD,bs _ w.heap.size j _ _ _ A]
  simpa[pvVal]using x
 ·obtain⟨o,c,l,y⟩:=yG t
  injection l with n _ r
  obtain⟨o',C,m,z⟩:=yG v;injection m with q _ s
  subst n;subst r;subst q;subst s;simp at i;rcases i with rfl|rfl
  ·exact y.below h
  ·exact z.below h
theorem dl.pos{l:List aj}(b:dl l):1<=l.length:=by have:=b.ne;cases l with|nil=>exact absurd rfl this|cons a t=>simp
structure pC(b:Nat)(doc:ByteArray)(ns:List aj)(st:da)(v:Value)(w0 w:World):Prop where
 own:cj w w0.heap.size v ns
 rd:bX w b doc st.p st.long st.big
 sole:aY b w0 w
 good:dl ns
 bw:b<w0.heap.size
theorem pC.sole'{b:Nat}{d:ByteArray}{f:List aj}{c:da}{v:Value}{w0 w w':World}{p:Nat}(a:pC b d f c v w0 w)(e:aY b w w')(h:bX w' b d p c.long c.big):pC b d f ⟨p,c.long,c.big⟩ v w0 w':=
 ⟨dS a.own e.grownBy (.inr (fun g=>by have:=(dC a.own b g).1;have:=a.bw;omega)),h,a.sole.trans e,a.good,a.bw⟩
theorem vE{b p:Nat}{d:ByteArray}{g:Bool}{a:List aj×Bool}{w0 w w':World}{e:Ending}(i:aY b w0 w)(m:yJ a b p w0.heap.size d g w e w')(l:dl a.1)(j:b<w0.heap.size):∃o c,e=.returned (.slice o a.1.length c)/\pC b d a.1 ⟨p,g,a.2⟩ (.slice o a.1.length c) w0 w':=by obtain⟨v,rfl,f,h,n⟩:=m;obtain⟨o,c,rfl⟩:=eh f;exact⟨o,c,rfl,⟨f,h,i.trans n,l,j⟩⟩
theorem KM{b n:Nat}{d:ByteArray}{E:da->eG}(bB:d.size<=65536)(bl:ms 329 b d (ml d.data.toList E) n)(bo:kr d.data.toList E):ms 322 b d (lC d.data.toList E) n:=by
 intro O w bt s cb;obtain⟨co,H⟩:=ar (lC d.data.toList E O);rw[<-H];unfold lC at H;have i:=bl O w bt s cb;have b0:=fun e a0 cv=>C4 bo O e a0 (by rw[<-dV];exact s) cv;have K:=bt.lt;unfold eI at i;cases g:ml d.data.toList E O with
 |none=>
  rw[g]at H i;simp only at H i;have a7:=ah H;clear H g b0 bl bo;go_enter func322,ntmps322
  go_wp2_with fail
  go_step3
  go_wp2_with fail
  refine i.mono ?_;rintro a cl ⟨⟨⟨o,k,c,rfl⟩,ea,dr,c6,cG,bb⟩,bc⟩;clear i;go_wp2_with fail
  rw[lp];go_ret2
  exact eI.no a7.o rfl cG bb bc
 |some z=>
  obtain⟨e,a0⟩:=z;have bN:=b0 _ _ g;rw[g]at H i;simp only at H i;have a7:=ah H;clear H g b0 bl bo;go_enter func322,ntmps322
  go_wp2_with fail
  go_step3
  go_wp2_with fail
  refine i.mono ?_;rintro a cl ⟨⟨⟨v,rfl,cc⟩,bb⟩,bc⟩;clear i;have b9:pC b d e a0 v w cl:=⟨cc,bb,bc,bN.2.2,K⟩;have cd:a0.p<=d.size:=by rw[dV];exact bN.2.1
  clear cc bb bc bN bt s cb;go_wp2_with fail
  go_step3
  go_wp2
  go_loopg [4] (d.size-a0.p) (fun k v wr=>∃(e:List aj) (O:da) (f:Nat),O.p<=d.size/\k=d.size-O.p/\k<f/\pC b d e O v w wr/\Hid (co=some (kQ d.data.toList f e O)))
  case atStart=>exact⟨e,a0,d.data.toList.length+1,cd,rfl,by rw[<-dV];omega,b9,a7.o⟩
  case round=>
   obtain⟨e,⟨p,ab,W⟩,f,s,rfl,cF,t,bi⟩:=hrel;clear a7 b9 cd;simp only at s cF;obtain⟨f,rfl⟩:∃cu,f=cu+1:=⟨f-1,ad⟩;have h:=bi.o;unfold kQ at h;simp only at h;obtain⟨T,S,rfl⟩:=eh t.own;have i:=od 42 42 rfl b p d ab W wr t.rd s bB;have N:=oc d 42 p s;obtain⟨an,Y⟩:=ar (bU d.data.toList 42 p);rw[<-Y]at i N h;have bD:=t.good.pos;have c9:=t.good.len;cases a8:fI d.data.toList 42 p with
   |true=>
    rw[a8]at i h N;rw[ay rfl]at h;have I:=N.2.2 rfl;have av:=N.1;have J:=ah h;clear h a8 Y N bi;go_wp2_with fail
    refine i.mono ?_;rintro a bg ⟨rfl,A,C⟩;clear i;have j:=t.sole' C A;have b1:=j.sole.size;have a5:=yI w.heap.size e _ bg j.own b1 ad bD;clear t A C;go_wp2_with fail
    refine a5.mono ?_;rintro a al ⟨c4,rfl,bZ,bC⟩;clear a5;have u:∀k,(Value.slice T e.length S).ownBlock=some k->w.heap.size<=k:=fun k a=>(dC j.own k a).1;have B:=yM j.rd bC (fun a=>by have:=u b a;have:=j.bw;omega);have D:=yL j.sole bC u;have P:=vC b an w.heap.size d ab W (some (ee e)) c4 true al B ⟨bZ,rfl⟩ D.size K (by intro l a;injection a with a;subst a;have:=j.good.many.2.2;omega);obtain⟨ds,c7,rfl⟩:=eh bZ;clear B bZ bC u;go_wp2_with fail
    refine P.mono ?_;intro a y Q;obtain⟨ch,b6,rfl,m⟩:=vE D Q (dl.keep (C5 j.good)) K;clear P Q
    go_wp2
    go_roundg(d.size-an)
    case rel=>exact⟨_,_,f,av,rfl,ad,m,J.o⟩
    case measure=>omega
   |false=>
    rw[a8]at i h;rw[au ak]at h;have M:=fun b2 Y=>od 43 43 rfl b an d ab W b2 Y N.1 bB;have I:=oc d 43 an N.1;obtain⟨V,bu⟩:=ar (bU d.data.toList 43 an);rw[<-bu]at M I h;have eb:=N.2.1;clear a8 Y N bi;cases a9:fI d.data.toList 43 an with
    |true=>
     rw[a9]at M h I;rw[ay rfl]at h;have c3:=I.2.2 rfl;have av:=I.1;have J:=ah h;clear h a9 bu I;go_wp2_with fail
     refine i.mono ?_;rintro a bg ⟨rfl,A,C⟩;clear i;have j:=t.sole' C A;have R:=M _ j.rd;clear M t A C;go_wp2_with fail
     refine R.mono ?_;rintro a al ⟨rfl,B,D⟩;clear R;have r:=j.sole' D B;clear j B D;have b1:=r.sole.size;have ca:=KF e w.heap.size _ al r.own ad bD;go_wp2_with fail
     refine ca.mono ?_;rintro a y ⟨ed,rfl,bf,bz⟩;clear ca;have m:=r.sole' (aY.of bz) (r.rd.below bz);have cx:=ah r.own;clear r;obtain⟨ch,b6,rfl⟩:=eh bf;have cN:=m.sole.size;have a5:=yI w.heap.size e _ y (mr bf b1) cN ad bD;have u:∀k,(Value.slice ch e.length b6).ownBlock=some k->al.heap.size<=k:=fun k a=>(dC bf k a).1;have ce:∀k,(Value.slice T e.length S).ownBlock=some k->k<al.heap.size:=fun k a=>by have b8:=(dC cx.out k a).2;exact b8
     clear bf bz;go_wp2_with fail
     refine a5.mono ?_;rintro a b4 ⟨eg,rfl,ao,bd⟩;clear a5;have q:pC b d e ⟨V,ab,W⟩ (.slice T e.length S) w b4:=
      ⟨dS m.own bd (by
        cases a:(Value.slice T e.length S).ownBlock with
        |none=>exact .inl rfl
        |some k=>exact .inr (fun cs=>by have b8:=ce k a;have c8:=u k cs.symm;omega)),
       yM m.rd bd (fun a=>by have:=u b a;have:=K;omega),yL m.sole bd (fun k a=>by have:=u k a;omega),m.good,K⟩
     clear m bd u ce;obtain⟨ci,b7,rfl⟩:=eh ao;have aq:=Dn q.own ao;have aa:=(aE b4.heap.size b4).alloc (az _) (.cells #[.slice T e.length S,.slice ci (ee e).length b7] 49);have G:=q.sole' (aY.of aa) (q.rd.below aa);have be:=q.good.many;have L:=vB 3 1 [⟨e,T,S⟩,⟨ee e,ci,b7⟩] _ 2 _ aq ak (by intro p s;simp at s;rcases s with rfl|rfl;exact⟨q.good.ahead,by simp only;omega⟩;exact⟨be.1,by simp only;omega⟩) ak;simp only[gd,ul,db,ge,cD,Nat.reduceAdd]at L;obtain⟨ag,F⟩:=ar (dX 3 1 [e,ee e]);rw[<-F]at L;have bF:∀x,ag=some x->dA x/\x≠[]:=fun x g=>vx q.good ⟨be.1,be.2.1⟩ x (F.symm.trans g);have bE:∀x,ag=some x->x.length<=1048576:=fun x g=>by
      rw[F]at g;unfold dX at g;rw[au ak]at g;split at g
      ·cases g
      ·rename_i u
       injection g with g
       subst g;have:=vw 3 [e,ee e] 0 [];simp at this u;omega
     rw[<-F]at J;clear F be aq q ao;go_wp2_with fail
     refine L.mono ?_;intro a b3 a3;obtain⟨c1,c0,cp,ok,rfl,a4,Z⟩:=yN a3;clear L a3;have X:=G.sole' (aY.of Z) (G.rd.below Z);have P:=vC b V w.heap.size d ab W ag _ ok b3 X.rd (a4.down G.sole.size) X.sole.size K bE;clear a4 G aa Z;go_wp2_with fail
     refine P.mono ?_;intro a c5 Q;obtain⟨c2,cq,rfl,bq⟩:=vE X.sole Q (dl.keep bF) K;clear P Q
     go_wp2
     go_roundg(d.size-V)
     case rel=>exact⟨_,_,f,av,rfl,ad,bq,J.o⟩
     case measure=>omega
    |false=>
     rw[a9]at M h;rw[au ak]at h;have ae:=fun b2 Y=>od 63 63 rfl b V d ab W b2 Y I.1 bB;have af:=oc d 63 V I.1;obtain⟨b5,bw⟩:=ar (bU d.data.toList 63 V);rw[<-bw]at ae af h;have ec:=I.2.1;clear a9 bu I;cases ba:fI d.data.toList 63 V with
     |true=>
      rw[ba]at ae h af;rw[ay rfl]at h;have c3:=af.2.2 rfl;have av:=af.1;have J:=ah h;clear h ba bw af;go_wp2_with fail
      refine i.mono ?_;rintro a bg ⟨rfl,A,C⟩;clear i;have j:=t.sole' C A;have R:=M _ j.rd;clear M t A C;go_wp2_with fail
      refine R.mono ?_;rintro a al ⟨rfl,B,D⟩;clear R;have r:=j.sole' D B;clear j B D;have a6:=ae _ r.rd;clear ae;go_wp2_with fail
      refine a6.mono ?_;rintro a y ⟨rfl,a1,a2⟩;clear a6;have m:=r.sole' a2 a1;clear r a1 a2;have bA:=(aE y.heap.size y).alloc (az _) (.cells (nodeRow dQ).toArray 102);have q:=m.sole' (aY.of bA) (m.rd.below bA);have ao:cj (y.alloc (.cells (nodeRow dQ).toArray 102)) w.heap.size (.slice (some ⟨y.heap.size,0,none⟩) 1 1) [dQ]:=vA y dQ w.heap.size m.sole.size;have aq:=Dn (b:=[dQ]) q.own ao;rw[Dl]at aq q;have aa:=(aE _ (y.alloc (.cells #[.int .i64 1,.string ⟨#[]⟩,.int .i64 0,.int .i64 0] 102))).alloc (az _) (.cells #[.slice T e.length S,.slice (some ⟨y.heap.size,0,none⟩) [dQ].length 1] 49);have G:=q.sole' (aY.of aa) (q.rd.below aa);have L:=vB 4 0 [⟨e,T,S⟩,⟨[dQ],some ⟨y.heap.size,0,none⟩,1⟩] _ 2 _ aq ak (by intro p s;simp at s;rcases s with rfl|rfl;exact⟨q.good.ahead,by simp only;omega⟩;exact⟨dA.one _ rfl rfl,ak⟩) ak;simp only[gd,ul,db,ge,cD,Nat.reduceAdd,bj]at L G;obtain⟨ag,F⟩:=ar (dX 4 0 [e,[dQ]]);rw[<-F]at L;have bF:∀x,ag=some x->dA x/\x≠[]:=fun x g=>vx q.good ⟨dA.one _ rfl rfl,ak⟩ x (F.symm.trans g);have bE:∀x,ag=some x->x.length<=1048576:=fun x g=>by
       rw[F]at g;unfold dX at g;rw[au ak]at g;split at g
       ·cases g
       ·rename_i u
        injection g with g
        subst g;have:=vw 4 [e,[dQ]] 0 [];simp at this u;omega
      rw[<-F]at J;clear F aq q ao m bA;go_wp2_with fail
      refine L.mono ?_;intro a b3 a3;obtain⟨c1,c0,cp,ok,rfl,a4,Z⟩:=yN a3;clear L a3;have X:=G.sole' (aY.of Z) (G.rd.below Z);have P:=vC b b5 w.heap.size d ab W ag _ ok b3 X.rd (a4.down G.sole.size) X.sole.size K bE;clear a4 G aa Z;go_wp2_with fail
      refine P.mono ?_;intro a c5 Q;obtain⟨c2,cq,rfl,bq⟩:=vE X.sole Q (dl.keep bF) K;clear P Q
      go_wp2
      go_roundg(d.size-b5)
      case rel=>exact⟨_,_,f,av,rfl,ad,bq,J.o⟩
      case measure=>omega
     |false=>
      rw[ba]at ae h;rw[au ak]at h;have av:=af.1;have J:=ah h;clear h ba bw af;go_wp2_with fail
      refine i.mono ?_;rintro a bg ⟨rfl,A,C⟩;clear i;have j:=t.sole' C A;have R:=M _ j.rd;clear M t A C;go_wp2_with fail
      refine R.mono ?_;rintro a al ⟨rfl,B,D⟩;clear R;have r:=j.sole' D B;clear j B D;have a6:=ae _ r.rd;clear ae;go_wp2_with fail
      refine a6.mono ?_;rintro a y ⟨rfl,a1,a2⟩;clear a6;have m:=r.sole' a2 a1;clear r a1 a2;go_wp2_with fail
      rw[lp];go_ret2
      exact eI.yes J.o rfl m.own m.rd m.sole
theorem vF{w:World}{B c d size m n n':Nat}{v e:Value}{xs o:List Value}(h:w.ownsRow B c size v n xs)(i:w.ownsRow B d m e n' o)(l:c≠d):v.ownBlock=none∨v.ownBlock≠e.ownBlock:=by
 rcases h.2 with⟨rfl,_⟩|⟨g,cap,q,rfl,_,j,_⟩
 ·exact .inl rfl
 ·refine .inr ?_
  rcases i.2 with⟨rfl,_⟩|⟨s,p,r,rfl,_,a,_⟩
  ·simp[Value.ownBlock]
  ·simp only[Value.ownBlock]
   intro b;injection b with b
   subst b;rw[j]at a;injection a with a
   injection a with _ f _
   exact l f
theorem Do:(prog.info? 49).map (fun i=>(i.zero,i.size,i.bytes))=some (some (.slice none 0 0),1,24):=aA
structure kt(b:Nat)(doc:ByteArray)(ps:List PV)(st:da)(v:Value)(w0 w:World):Prop where
 row:w.ownsRow w0.heap.size 49 1 v ps.length (ps.map pvVal)
 own:∀p∈ps,cj w w0.heap.size (pvVal p) p.l
 rd:bX w b doc st.p st.long st.big
 sole:aY b w0 w
 good:∀p∈ps,dl p.l
 bw:b<w0.heap.size
theorem kt.sole'{b:Nat}{c:ByteArray}{ps:List PV}{h st':da}{v:Value}{w0 w w':World}(a:kt b c ps h v w0 w)(e:aY b w w')(g:bX w' b c st'.p st'.long st'.big):kt b c ps st' v w0 w':=
 ⟨dS a.row e.grownBy (.inr (fun d=>by have:=(dC a.row b d).1;have:=a.bw;omega)),fun p f=>dS (a.own p f) e.grownBy (.inr (fun d=>by have:=(dC (a.own p f) b d).1;have:=a.bw;omega)),g,a.sole.trans e,a.good,a.bw⟩
theorem kt.push{b:Nat}{f:ByteArray}{ps:List PV}{i:da}{v j:Value}{w0 w w':World}(c:kt b f ps i v w0 w){x:PV}(h:cj w w0.heap.size (pvVal x) x.l)(l:dl x.l)(d:w.grownBy w' v.ownBlock)
 (m:w'.ownsRow w0.heap.size 49 1 j (ps.length+1) (ps.map pvVal++[pvVal x])):kt b f (ps++[x]) i j w0 w':=by
 have g:∀k,v.ownBlock=some k->w0.heap.size<=k:=fun k e=>(dC c.row k e).1;refine⟨by rw[cR,iH];simpa using m,fun p a=> ?_,yM c.rd d (fun e=>by have:=g b e;have:=c.bw;omega),yL c.sole d g,fun p a=> ?_,c.bw⟩
 ·rcases fA.1 a with a|a
  ·exact dS (c.own p a) d (vF (c.own p a) c.row ap)
  ·simp at a;subst a;exact dS h d (vF h c.row ap)
 ·rcases fA.1 a with a|a
  ·exact c.good p a
  ·simp at a;subst a;exact l
theorem kt.parts{b:Nat}{i:ByteArray}{ps:List PV}{x:da}{o:Option Addr}{c:Nat}{w0 w:World}(e:kt b i ps x (.slice o ps.length c) w0 w)(l:1<=ps.length):ny w o c ps:=by
 obtain⟨g,y,v,A,n,r,m⟩:=pB e.row l;injection v with a z d
 subst a;subst d;refine⟨⟨ak,r,m,fun _=>⟨g,0,rfl,n,fun j u h=> ?_⟩⟩,fun p t=> ?_⟩
 ·rw[cD]
  have q:j<ps.length*1:=by have:=(aL.1 h).1;simpa using this
  exact(rH e.row j q).trans h
 ·obtain⟨o,c,f,s⟩:=yG (e.own p t)
  unfold pvVal at f;injection f with a _ d
  rw[a,d];exact s
theorem Dp{b n aa:Nat}{e:ByteArray}{F:da->eG}(b6:e.size<=65536)(c:UInt8)(bo:Int)(b5:bo=(c.toNat:Nat))(X W:Int)(hF:ms aa b e F n)(b4:kr e.data.toList F)
 (cq:∀args b1,(callFunc aa args).run prog b1=.ok (.enter aa args) b1) (C:da) (w:World) (aq:bX w b e C.p C.long C.big) (B:C.p<=e.size) (cF:e.size-C.p<n):
 Calls prog 294 #[.pointer (some ⟨b,0,none⟩),.int .u8 bo,.int .i64 X,.int .i64 W,.func (.func aa) #[.pointer (some ⟨b,0,none⟩)] #[]] w (eI (gX e.data.toList c X W F (e.data.toList.length+1) [] C) b e w):=by
 subst b5;obtain⟨b2,av⟩:=ar (gX e.data.toList c X W F (e.data.toList.length+1) [] C);rw[<-av];have bi:=ah av;have a1:=aq.lt;have bq:kt b e [] C (.slice none 0 0) w w:=⟨dc _ _ _ _,fun p B=>by simp at B,aq,aY.refl b w,fun p B=>by simp at B,a1⟩;obtain⟨bd,a4,ba,bb,bc⟩:=cY Do;clear av;go_enter func294,ntmps294
 go_wp2
 go_loopg [12] (e.size-C.p) (fun k v wr=>∃(ps:List PV) (st':da) (f:Nat),st'.p<=e.size/\C.p<=st'.p/\ps.length<=st'.p/\k=e.size-st'.p/\k<f/\kt b e ps st' v w wr/\Hid (b2=gX e.data.toList c X W F f (ps.map PV.l) st'))
 case atStart=>exact⟨[],C,e.data.toList.length+1,B,az _,aZ _,rfl,by rw[<-dV];omega,bq,bi.o⟩
 case round=>
  obtain⟨ps,st',f,bA,cx,cG,rfl,cs,r,an⟩:=hrel;clear bi bq aq;obtain⟨f,rfl⟩:∃b3,f=b3+1:=⟨f-1,ad⟩;have i:=an.o;unfold gX at i;obtain⟨bf,be,rfl⟩:=eh r.row;have s:=hF st' wr r.rd bA ad;unfold eI at s;have a6:=fun a h S=>b4 st' a h (by rw[<-dV];exact bA) S;cases Q:F st' with
  |none=>
   rw[Q]at i s;simp only at i s;have H:=ah i;clear i Q a6 an;go_wp2_with fail
   refine s.mono ?_;rintro I j ⟨⟨⟨o,k,ch,rfl⟩,c3,cN,ce,b7,D⟩,E⟩;clear s
   go_wp2
   go_ret2
   exact eI.no H.o rfl b7 D (r.sole.trans E)
  |some z=>
   obtain⟨a,h⟩:=z;have ag:=a6 _ _ Q;rw[Q]at i s;simp only at i s;have bB:h.p<=e.size:=by rw[dV];exact ag.2.1
   have cu:=ag.1;have a2:=ag.2.2;have G:=fun cc af=>od c _ rfl b h.p e h.long h.big cc af bB b6;have R:=oc e c h.p bB;obtain⟨P,af⟩:=ar (bU e.data.toList c h.p);rw[<-af]at G R i;clear Q a6 an ag af;cases ab:fI e.data.toList c h.p with
   |true=>
    rw[ab]at G i R;rw[ay rfl]at i;have c4:=R.2.2 rfl;have bF:=R.1;have H:=ah i;clear i ab R;go_wp2_with fail
    refine s.mono ?_;rintro I j ⟨⟨⟨v,rfl,A⟩,D⟩,E⟩;clear s;obtain⟨g,d,rfl⟩:=eh A;have q:=r.sole' E (st':=h) D;have K:cj j w.heap.size (pvVal ⟨a,g,d⟩) a:=mr A r.sole.size;have bC:=q.sole.size;have t:kt b e ps h (.slice bf ps.length be) w (j.alloc (.cells #[.slice g a.length d] 49)):=q.sole' ((aY.refl b j).alloc _) (q.rd.below aG);have L:cj (j.alloc (.cells #[.slice g a.length d] 49)) w.heap.size (pvVal ⟨a,g,d⟩) a:=f9 K _;clear r q A K D E;go_wp2_with(first
     |(at_builtin;go_must (refine jh _ rfl _ _ 163 rfl w.heap.size 49 bd (.slice none 0 0) 1 24 Bl a4 ba bb bc rfl ap _ _ _ rfl t.row ⟨j.heap.size,0,none⟩ 1 1 [.slice g a.length d] rfl rfl (dK _ [.slice g a.length d] _ _ rfl) (fun z N=>by simp at N;subst N;rfl) bI ad aR ?_);intro bZ b0 M J Z)
     |fail)
    have u:=t.push (x:=⟨a,g,d⟩) L a2 J M;have O:=G _ u.rd;clear G t L J M Z;go_wp2_with fail
    refine O.mono ?_;rintro I bg ⟨rfl,T,V⟩;clear O;have m:=u.sole' V (st':=⟨P,h.long,h.big⟩) T
    go_wp2
    go_roundg(e.size-P)
    case rel=>exact⟨ps++[⟨a,g,d⟩],⟨P,h.long,h.big⟩,f,bF,by(try simp only);omega,by simp only[cR,db,ge];omega,rfl,by(try simp only);omega,m,by have:=H.o;show _=_;rw[iH];exact this⟩
    case measure=>omega
   |false=>
    rw[ab]at G i;rw[au ak]at i;have bF:=R.1;clear ab R;cases ps with
    |nil=>
     rw[ul,ay rfl]at i;have H:=ah i;clear i;simp only[ge]at r;go_wp2_with fail
     refine s.mono ?_;rintro I j ⟨⟨⟨v,rfl,A⟩,D⟩,E⟩;clear s;obtain⟨g,d,rfl⟩:=eh A;have q:=r.sole' E (st':=h) D;have K:cj j w.heap.size (pvVal ⟨a,g,d⟩) a:=mr A r.sole.size;have bC:=q.sole.size;have t:kt b e [] h (.slice bf 0 be) w (j.alloc (.cells #[.slice g a.length d] 49)):=q.sole' ((aY.refl b j).alloc _) (q.rd.below aG);have L:cj (j.alloc (.cells #[.slice g a.length d] 49)) w.heap.size (pvVal ⟨a,g,d⟩) a:=f9 K _;clear r q A K D E;have a8:=t.row;simp only[ge]at a8;go_wp2_with(first
      |(at_builtin;go_must (refine jh _ rfl _ _ 163 rfl w.heap.size 49 bd (.slice none 0 0) 1 24 Bl a4 ba bb bc rfl ap _ _ _ rfl a8 ⟨j.heap.size,0,none⟩ 1 1 [.slice g a.length d] rfl rfl (dK _ [.slice g a.length d] _ _ rfl) (fun z N=>by simp at N;subst N;rfl) bI ad aR ?_);intro bZ b0 M J Z)
      |fail)
     have u:=t.push (x:=⟨a,g,d⟩) L a2 J M;have O:=G _ u.rd;clear G t L J M Z a8;have a9:=u.row;simp only[mS,db,ge]at a9;obtain⟨bE,bl,rfl⟩:=eh a9;clear a9;go_wp2_with fail
     refine O.mono ?_;rintro I bg ⟨rfl,T,V⟩;clear O;have m:=u.sole' V (st':=⟨P,h.long,h.big⟩) T
     go_wp2
     go_ret2
     exact eI.yes H.o rfl (m.own ⟨a,g,d⟩ ak) m.rd m.sole
    |cons ca cb=>
     rw[au ak]at i;generalize hps2:ca::cb=ps at*;have cv:1<=ps.length:=by rw[<-hps2];simp
     have co:((ps.length:Int)+1==1)=false:=gK;have cp:(((ps.length+1:Nat):Int)==1)=false:=gK;have H:=ah i;clear i hps2;go_wp2_with fail
     refine s.mono ?_;rintro I j ⟨⟨⟨v,rfl,A⟩,D⟩,E⟩;clear s;obtain⟨g,d,rfl⟩:=eh A;have q:=r.sole' E (st':=h) D;have K:cj j w.heap.size (pvVal ⟨a,g,d⟩) a:=mr A r.sole.size;have bC:=q.sole.size;have t:kt b e ps h (.slice bf ps.length be) w (j.alloc (.cells #[.slice g a.length d] 49)):=q.sole' ((aY.refl b j).alloc _) (q.rd.below aG);have L:cj (j.alloc (.cells #[.slice g a.length d] 49)) w.heap.size (pvVal ⟨a,g,d⟩) a:=f9 K _;clear r q A K D E;go_wp2_with(first
      |(at_builtin;go_must (refine jh _ rfl _ _ 163 rfl w.heap.size 49 bd (.slice none 0 0) 1 24 Bl a4 ba bb bc rfl ap _ _ _ rfl t.row ⟨j.heap.size,0,none⟩ 1 1 [.slice g a.length d] rfl rfl (dK _ [.slice g a.length d] _ _ rfl) (fun z N=>by simp at N;subst N;rfl) bI ad aR ?_);intro bZ b0 M J Z)
      |fail)
     have u:=t.push (x:=⟨a,g,d⟩) L a2 J M;have O:=G _ u.rd;clear G t L J M Z;obtain⟨bE,bl,bD⟩:=eh u.row;have al:(ps++[(⟨a,g,d⟩:PV)]).length=ps.length+1:=ak;rw[al]at bD;subst bD;go_wp2_with fail
     refine O.mono ?_;rintro I bg ⟨rfl,T,V⟩;clear O;have m:=u.sole' V (st':=⟨P,h.long,h.big⟩) T;clear u T V;rw[<-al]at m;have Y:=vB X W (ps++[(⟨a,g,d⟩:PV)]) bE bl bg (m.parts ad) ad (fun p B=>⟨(m.good p B).ahead,by have:=(m.good p B).len;omega⟩) ad;rw[al]at Y m;have a5:(ps++[(⟨a,g,d⟩:PV)]).map PV.l=ps.map PV.l++[a]:=ak;rw[a5]at Y;obtain⟨bN,a7⟩:=ar (dX X W (ps.map PV.l++[a]));rw[<-a7]at Y H;have a3:∀x,bN=some x->dl x:=fun x Q=>dl.fold (ps:=ps.map PV.l++[a]) (fun p B=>by rw[<-a5]at B;obtain⟨y,b9,rfl⟩:=fH.1 B;exact m.good y b9) (a7.symm.trans Q)
     clear a7 a5 al;go_wp2_with fail
     refine Y.mono ?_;intro I cd bt;obtain⟨c1,c0,ci,ok,rfl,bz,a0⟩:=yN bt;clear Y bt;have ae:=m.sole' (aY.of a0) (st':=⟨P,h.long,h.big⟩) (m.rd.below a0);have bu:=vC b P w.heap.size e h.long h.big bN _ ok cd ae.rd (bz.down m.sole.size) ae.sole.size a1 (fun l S=>by have:=(a3 l S).len;omega);have b8:=ae.sole;clear bz m a0 ae;go_wp2_with fail
     refine bu.mono ?_;intro I c5 bw;obtain⟨c2,cl,rfl,ao⟩:=vE b8 bw (dl.keep (fun l S=>⟨(a3 l S).ahead,(a3 l S).ne⟩)) a1;clear bu bw
     go_wp2
     go_ret2
     exact eI.yes H.o rfl ao.own ao.rd ao.sole
theorem KN:∀args a,(callFunc 322 args).run prog a=.ok (.enter 322 args) a:=fun _ _=>rfl
theorem KO:∀args a,(callFunc 295 args).run prog a=.ok (.enter 295 args) a:=fun _ _=>rfl
theorem eI.tuple{f:eG}{b:Nat}{g:ByteArray}{w w':World}{h:Ending}(d:eI f b g w h w'):∃o n c ok,h=.returned (.tuple #[.slice o n c,.bool ok])/\eI f b g w (.returned (.tuple #[.slice o n c,.bool ok])) w':=by
 cases f with
 |none=>
  have e:=d;obtain⟨⟨⟨o,n,c,a⟩,_⟩,_⟩:=e;exact⟨o,n,c,false,a,a▸d⟩
 |some z=>
  have e:=d;obtain⟨⟨⟨v,a,i⟩,_⟩,_⟩:=e;obtain⟨o,c,rfl⟩:=eh i;exact⟨o,_,c,true,a,a▸d⟩
theorem KP{b n:Nat}{a:ByteArray}{E:da->eG}(l:a.size<=65536)(h:ms 322 b a (lC a.data.toList E) n)(g:kr a.data.toList E):ms 295 b a (n6 a.data.toList E) n:=by
 intro e w j d m;have f:=Dp l 44 44 rfl 3 1 h (C6 g) KN e w j d m;have i:n6 a.data.toList E e=gX a.data.toList 44 3 1 (lC a.data.toList E) (a.data.toList.length+1) [] e:=rfl;rw[i];clear i h g;generalize gX a.data.toList 44 3 1 (lC a.data.toList E) (a.data.toList.length+1) [] e=q at f;go_enter func295,ntmps295
 go_wp2_with fail
 refine f.mono ?_;intro r s d;obtain⟨o,n,c,ok,rfl,p⟩:=d.tuple;clear f d
 go_wp2
 go_ret2
 exact p
theorem KQ{b n:Nat}{a:ByteArray}{E:da->eG}(j:a.size<=65536)(h:ms 295 b a (n6 a.data.toList E) n)(g:kr a.data.toList E):
 ms 236 b a (fun d=>gX a.data.toList 124 4 0 (n6 a.data.toList E) (a.data.toList.length+1) [] d) n:=by
 intro d w i e l;show Calls _ _ _ _ (eI (gX a.data.toList 124 4 0 (n6 a.data.toList E) (a.data.toList.length+1) [] d) b a w)
 have f:=Dp j 124 124 rfl 4 0 h (C9 g) KO d w i e l;clear h g;generalize gX a.data.toList 124 4 0 (n6 a.data.toList E) (a.data.toList.length+1) [] d=p at f;go_enter func236,ntmps236
 go_wp2_with fail
 refine f.mono ?_;intro q r e;obtain⟨o,n,c,ok,rfl,m⟩:=e.tuple;clear f e
 go_wp2
 go_ret2
 exact m
theorem KR{b:Nat}{a:ByteArray}(c:a.size<=65536):∀n,ms 236 b a (n7 a.data.toList n) n:=by
 intro n;induction n with
 |zero=>intro l w h j i;omega
 |succ n ih=>
  have d:=Da a.data.toList n;have e:=KL c ih d;have f:=KM c e d;have g:=KP c f d;exact KQ c g d
def mu(a:List aj×Int)(w:World)(b:Ending)(w':World):Prop:=
 ∃o c,b=.returned (.tuple #[.agg #[.slice o a.1.length c],.int .i64 a.2])/\cj w' w.heap.size (.slice o a.1.length c) a.1/\Below w.heap.size w w'
theorem mu.of{b:List aj×Int}{l:List aj}{n:Int}{o:Option Addr}{c:Nat}{w w':World}{a:Ending}(d:b=(l,n))(f:a=.returned (.tuple #[.agg #[.slice o l.length c],.int .i64 n]))(g:cj w' w.heap.size (.slice o l.length c) l)(e:Below w.heap.size w w'):mu b w a w':=by subst d;exact⟨o,c,f,g,e⟩
theorem KS(a:ByteArray)(w:World)(ao:a.size<=1152921504606846976):
 Calls prog 186 #[.string a] w (mu (n8 a.data.toList) w):=by
 obtain⟨an,d⟩:=ar (n8 a.data.toList);rw[<-d];unfold n8 at d;by_cases aa:65536<a.size
 ·rw[ay (by rw[<-dV];exact aa)]at d
  have t:=ah d;have af:decide ((a.size:Int)>65536)=true:=bQ;clear d;go_enter ux,uy
  go_wp2_with fail
  exact cg (v:=.tuple #[.agg #[.slice none 0 0],.int .i64 17]) (by simp[results,uA,go_sem]) rfl (mu.of t.o rfl (dc _ _ _ _) aG)
 ·rw[au (by rw[<-dV];exact aa)]at d
  have af:decide ((a.size:Int)>65536)=false:=bK;have L:a.size<=65536:=ad;obtain⟨w0,r⟩:=ar ((w.alloc (.cells #[.slice none 0 0] 51)).alloc (.cells #[.string a,.int .i64 0,.bool false,.bool false] 317));have x:Below w.heap.size w w0:=by rw[r];exact sD _ _ _
  have K:bX w0 (w.heap.size+1) a 0 false false:=by rw[r];have:=aB (w.alloc (.cells #[.slice none 0 0] 51)) (.cells #[.string a,.int .i64 0,.bool false,.bool false] 317);rw[bj]at this;exact this
  have u:w0.heap[w.heap.size]?=some (.cells #[.slice none 0 0] 51 (0,0)):=by rw[r];exact(((aE (w.heap.size+1) _).alloc ak _).block w.heap.size ad).trans (aB w _)
  have n:=KR (b:=w.heap.size+1) L (a.size+1) ⟨0,false,false⟩ w0 K (aZ _) (by show a.size-0<_;omega);have V:=Da a.data.toList (a.size+1) ⟨0,false,false⟩;have M:a.data.toList.length=a.size:=(dV a).symm;rw[M]at d V;unfold eI at n;have N:=aU u;rw[r]at n;cases P:n7 a.data.toList (a.size+1) ⟨0,false,false⟩with
  |none=>
   rw[P]at d n;simp only at d n;obtain⟨t,X⟩:=aD d (And.intro x (And.intro u r));clear d P V x u K r N M;go_enter ux,uy
   go_wp2_with fail
   refine n.mono ?_;rintro f E ⟨⟨⟨o,k,c,rfl⟩,D,R,J,H,q⟩,h⟩;clear n;have j:=qE (w.heap.size+1) D a R J E q H L;go_wp2_with fail
   refine j.mono ?_;rintro f l ⟨⟨v,rfl⟩,m,i⟩;clear j;rw[<-X.out.2.2]at h;have g:=h.trans i;have p:=(g.block w.heap.size (aU X.out.2.1) ad).trans X.out.2.1;have A:=bs l w.heap.size 0 _ _ _ p;have S:l.frozen? ⟨w.heap.size,0,none⟩=false:=by simp[World.frozen?,p]
   have s:=X.out.1.trans (g.below (B:=w.heap.size) ad X.out.1.size);clear X h i g p q;go_wp2_with fail
   refine cg (v:=.tuple #[.agg #[.slice none 0 0],.int .i64 12]) (by simp[results,uA,go_sem,A]) rfl (mu.of t.o rfl (dc _ _ _ _) ?_);first|exact s|exact s.setCell (az _) _
  |some z=>
   obtain⟨y,D,R,J⟩:=z;have T:=V y ⟨D,R,J⟩ (aZ _) P;rw[P]at d n;simp only at d n T;have H:=T.2.1;have al:=yF a D H;obtain⟨Q,C⟩:=ar (kn a.data.toList D);rw[<-C]at d al;clear P V T;by_cases ab:Q<a.size
   ·rw[ay ab]at d
    have ag:decide ((Q:Int)<a.size)=true:=bQ;obtain⟨t,X⟩:=aD d (And.intro x (And.intro u r));clear d x u K r N M;go_enter ux,uy
    go_wp2_with fail
    refine n.mono ?_;rintro f E ⟨⟨⟨v,rfl,e⟩,q⟩,h⟩;clear n;obtain⟨G,F,rfl⟩:=eh e;have j:=qE (w.heap.size+1) D a R J E q H L;rw[<-C]at j;go_wp2_with fail
    refine j.mono ?_;rintro f l ⟨⟨v,rfl⟩,m,i⟩;clear j;rw[<-X.out.2.2]at h e;have g:=h.trans i;have p:=(g.block w.heap.size (aU X.out.2.1) ad).trans X.out.2.1;have A:=bs l w.heap.size 0 _ _ _ p;have S:l.frozen? ⟨w.heap.size,0,none⟩=false:=by simp[World.frozen?,p]
    have W:=m.cPos;have Y:=m.cLo;have Z:=m.cBi;have s:=X.out.1.trans (g.below (B:=w.heap.size) ad X.out.1.size);have O:cj l (w.heap.size+2) (.slice G y.length F) y:=by
     have I:w0.heap.size=w.heap.size+2:=by rw[X.out.2.2];simp
     have:=dS e i.grownBy (.inr (fun f=>by have:=(dC e _ f).1;omega));rwa[I]at this
    clear X h i g q e C;go_wp2_with fail
    refine cg (v:=.tuple #[.agg #[.slice none 0 0],.int .i64 12]) (by simp[results,uA,go_sem,A]) rfl (mu.of t.o rfl (dc _ _ _ _) ?_);first|exact s|exact s.setCell (az _) _
   ·rw[au ab]at d
    have ag:decide ((Q:Int)<a.size)=false:=bK;cases R with
    |true=>
     rw[ay rfl]at d;obtain⟨t,X⟩:=aD d (And.intro x (And.intro u r));clear d x u K r N M;go_enter ux,uy
     go_wp2_with fail
     refine n.mono ?_;rintro f E ⟨⟨⟨v,rfl,e⟩,q⟩,h⟩;clear n;obtain⟨G,F,rfl⟩:=eh e;have j:=qE (w.heap.size+1) D a true J E q H L;rw[<-C]at j;go_wp2_with fail
     refine j.mono ?_;rintro f l ⟨⟨v,rfl⟩,m,i⟩;clear j;rw[<-X.out.2.2]at h e;have g:=h.trans i;have p:=(g.block w.heap.size (aU X.out.2.1) ad).trans X.out.2.1;have A:=bs l w.heap.size 0 _ _ _ p;have S:l.frozen? ⟨w.heap.size,0,none⟩=false:=by simp[World.frozen?,p]
     have W:=m.cPos;have Y:=m.cLo;have Z:=m.cBi;have s:=X.out.1.trans (g.below (B:=w.heap.size) ad X.out.1.size);have O:cj l (w.heap.size+2) (.slice G y.length F) y:=by
      have I:w0.heap.size=w.heap.size+2:=by rw[X.out.2.2];simp
      have:=dS e i.grownBy (.inr (fun f=>by have:=(dC e _ f).1;omega));rwa[I]at this
     clear X h i g q e C;go_wp2_with fail
     refine cg (v:=.tuple #[.agg #[.slice none 0 0],.int .i64 11]) (by simp[results,uA,go_sem,A]) rfl (mu.of t.o rfl (dc _ _ _ _) ?_);first|exact s|exact s.setCell (az _) _
    |false=>
     rw[au ak]at d;cases J with
     |true=>
      rw[ay rfl]at d;obtain⟨t,X⟩:=aD d (And.intro x (And.intro u r));clear d x u K r N M;go_enter ux,uy
      go_wp2_with fail
      refine n.mono ?_;rintro f E ⟨⟨⟨v,rfl,e⟩,q⟩,h⟩;clear n;obtain⟨G,F,rfl⟩:=eh e;have j:=qE (w.heap.size+1) D a false true E q H L;rw[<-C]at j;go_wp2_with fail
      refine j.mono ?_;rintro f l ⟨⟨v,rfl⟩,m,i⟩;clear j;rw[<-X.out.2.2]at h e;have g:=h.trans i;have p:=(g.block w.heap.size (aU X.out.2.1) ad).trans X.out.2.1;have A:=bs l w.heap.size 0 _ _ _ p;have S:l.frozen? ⟨w.heap.size,0,none⟩=false:=by simp[World.frozen?,p]
      have W:=m.cPos;have Y:=m.cLo;have Z:=m.cBi;have s:=X.out.1.trans (g.below (B:=w.heap.size) ad X.out.1.size);have O:cj l (w.heap.size+2) (.slice G y.length F) y:=by
       have I:w0.heap.size=w.heap.size+2:=by rw[X.out.2.2];simp
       have:=dS e i.grownBy (.inr (fun f=>by have:=(dC e _ f).1;omega));rwa[I]at this
      clear X h i g q e C;go_wp2_with fail
      refine cg (v:=.tuple #[.agg #[.slice none 0 0],.int .i64 17]) (by simp[results,uA,go_sem,A]) rfl (mu.of t.o rfl (dc _ _ _ _) ?_);first|exact s|exact s.setCell (az _) _
     |false=>
      rw[au ak]at d;obtain⟨t,X⟩:=aD d (And.intro x (And.intro u r));clear d x u K r N M;go_enter ux,uy
      go_wp2_with fail
      refine n.mono ?_;rintro f E ⟨⟨⟨v,rfl,e⟩,q⟩,h⟩;clear n;obtain⟨G,F,rfl⟩:=eh e;have j:=qE (w.heap.size+1) D a false false E q H L;rw[<-C]at j;go_wp2_with fail
      refine j.mono ?_;rintro f l ⟨⟨v,rfl⟩,m,i⟩;clear j;rw[<-X.out.2.2]at h e;have g:=h.trans i;have p:=(g.block w.heap.size (aU X.out.2.1) ad).trans X.out.2.1;have A:=bs l w.heap.size 0 _ _ _ p;have S:l.frozen? ⟨w.heap.size,0,none⟩=false:=by simp[World.frozen?,p]
      have W:=m.cPos;have Y:=m.cLo;have Z:=m.cBi;have s:=X.out.1.trans (g.below (B:=w.heap.size) ad X.out.1.size);have O:cj l (w.heap.size+2) (.slice G y.length F) y:=by
       have I:w0.heap.size=w.heap.size+2:=by rw[X.out.2.2];simp
       have:=dS e i.grownBy (.inr (fun f=>by have:=(dC e _ f).1;omega));rwa[I]at this
      clear X h i g q e C;go_wp2_with fail
      refine cg (v:=.tuple #[.agg #[.slice G y.length F],.int .i64 0]) (by simp[results,uA,go_sem,A]) rfl (mu.of t.o rfl ?_ (s.setCell (az _) _));exact mr (dS (row:=some w.heap.size) O ⟨rfl,rfl,rfl,by simp[World.setCell],fun k T ae=>fQ _ _ _ _ (fun f=>ae (by rw[f]))⟩ (.inr (fun f=>by have:=(dC O _ f).1;omega))) ad
end Go.Proofs.YtnadadbndcdolaaGreatDoor
