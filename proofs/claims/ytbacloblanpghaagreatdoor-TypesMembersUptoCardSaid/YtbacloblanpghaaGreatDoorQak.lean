import Derived.Test.YtbacloblanpghaaGreatDoorQaj
set_option linter.unusedVariables false
set_option linter.unusedSimpArgs false
set_option maxRecDepth 100000
set_option maxHeartbeats 0
namespace Go.Proofs.YtbacloblanpghaaGreatDoor
open Go.RowKit Tryz
def rp(w:World)(B:Nat)(v:Value)(ok:Bool)(r:Option (List ar)):Prop:=
 match r with
 |none=>v=.slice none 0 0/\ok=false
 |some l=>cr w B v l/\ok=true
theorem Bx:(nodeRow mv).toArray=#[.int .i64 0,.string ⟨#[]⟩,.int .i64 0,.int .i64 0]:=rfl
theorem By:(nodeRow iO).toArray=#[.int .i64 1,.string ⟨#[]⟩,.int .i64 0,.int .i64 0]:=rfl
def wV(r:List ar×Bool)(b p B:Nat)(a:ByteArray)(d:Bool)(w:World)(c:Ending)(w':World):Prop:=
 ∃v,c=.returned v/\cr w' B v r.1/\bY w' b a p d r.2/\aW b w w'
theorem wW{b p B:Nat}{a:ByteArray}{c:Bool}{w w1:World}(f:bY w1 b a p c true)(g:aW b w w1)(H:Nat)(e:w1.heap.size=H)(d:B<=H):
 wV ([mv],true) b p B a c w (.returned (.slice (some ⟨H,0,none⟩) 1 1)) (w1.alloc (.cells #[.int .i64 0,.string ⟨#[]⟩,.int .i64 0,.int .i64 0] 140)):=by
 subst e;refine⟨_,rfl,?_,f.below az,g.alloc _⟩;have:=wS w1 mv B d;rw[Bx]at this;exact this
theorem Bz{big:Bool}{r:Option (List ar)}(a:∀l,r=some l->1024<l.length):fk big r=([mv],true):=by
 unfold fk;split
 ·rfl
 ·rename_i l;rw[au (.inr (a l rfl))]
theorem IL{r:Option (List ar)}:fk true r=([mv],true):=by
 unfold fk;split
 ·rfl
 ·rw[au (.inl rfl)]
theorem IM{l:List ar}(a:l.length<=1024):fk false (some l)=(l,false):=by
 show(if false=true∨1024<l.length then([mv],true)else(l,false))=_
 rw[ap aO]
theorem tU(b p B:Nat)(g:ByteArray)(j d:Bool)(r:Option (List ar))(v:Value)(ok:Bool)(w:World)(a:bY w b g p j d)(h:rp w B v ok r)(e:B<=w.heap.size)(q:b<B)(o:∀l,r=some l->l.length<=1048576):
 Calls prog 285 #[.pointer (some ⟨b,0,none⟩),v,.bool ok] w (wV (fk d r) b p B g j w):=by
 have s:=a.free 3;cases r with
 |none=>
  obtain⟨rfl,rfl⟩:=h;rw[Bz (by intro l c;cases c)];have f:=a.cBi;go_enter zA,zB
  go_wp2
  go_ret;exact wW (a.setBi true) ((aW.refl b w).setCell 3 _) _ (by simp[World.setCell]) e
 |some l=>
  obtain⟨i,rfl⟩:=h;have t:=o l rfl;obtain⟨y,x,rfl⟩:=cJ i;by_cases m:1024<l.length
  ·rw[Bz (by intro u c;injection c with c;subst c;exact m)]
   have n:decide ((l.length:Int)>1024)=true:=aM;have f:=a.cBi;go_enter zA,zB
   go_wp2
   go_ret;exact wW (a.setBi true) ((aW.refl b w).setCell 3 _) _ (by simp[World.setCell]) e
  ·have n:decide ((l.length:Int)>1024)=false:=aJ
   have f:=a.cBi;cases d with
   |true=>
    rw[IL];go_enter zA,zB
    go_wp2
    go_ret;exact wW a (aW.refl b w) _ rfl e
   |false=>
    rw[IM ad];go_enter zA,zB
    go_wp2
    go_ret;exact⟨_,rfl,i,a,aW.refl b w⟩
def eo(r:ek)(b:Nat)(a:ByteArray)(w:World)(e:Ending)(w':World):Prop:=
 (match r with
  |none=>(∃o n c,e=.returned (.tuple #[.slice o n c,.bool false]))/\∃p g f,p<=a.size/\bY w' b a p g f
  |some (l,d)=>(∃v,e=.returned (.tuple #[v,.bool true])/\cr w' w.heap.size v l)/\bY w' b a d.p d.long d.big)/\aW b w w'
theorem eo.no{r:ek}{b:Nat}{a:ByteArray}{w w':World}{e:Ending}{o:Option Addr}{n c p:Nat}{f d:Bool}(g:r=none)(j:e=.returned (.tuple #[.slice o n c,.bool false]))(l:p<=a.size)(h:bY w' b a p f d)(i:aW b w w'):eo r b a w e w':=by subst g;exact⟨⟨⟨o,n,c,j⟩,p,f,d,l,h⟩,i⟩
theorem eo.yes{r:ek}{b:Nat}{c:ByteArray}{w w':World}{d:Ending}{v:Value}{l:List ar}{a:cQ}(e:r=some (l,a))(h:d=.returned (.tuple #[v,.bool true]))(i:cr w' w.heap.size v l)(f:bY w' b c a.p a.long a.big)(g:aW b w w'):eo r b c w d w':=by subst e;exact⟨⟨⟨v,h,i⟩,f⟩,g⟩
def lI(k:FuncId)(b:Nat)(c:ByteArray)(F:cQ->ek)(n:Nat):Prop:=
 ∀(a:cQ) (w:World),bY w b c a.p a.long a.big->a.p<=c.size->c.size-a.p<n->Calls prog k #[.pointer (some ⟨b,0,none⟩)] w (eo (F a) b c w)
theorem tV{w:World}{B H:Nat}{n:ar}(b:w.heap.size=H)(a:B<=H){cs:Array Value}(c:(nodeRow n).toArray=cs):cr (w.alloc (.cells cs 140)) B (.slice (some ⟨H,0,none⟩) 1 1) [n]:=by subst b;subst c;exact wS w n B a
theorem IN{b n:Nat}{e:ByteArray}{E:cQ->ek}(T:e.size<=65536)(bi:lI 214 b e E n)(bl:jO e.data.toList E):lI 296 b e (lD e.data.toList E) (n+1):=by
 intro bt w a9 a2 bm;obtain⟨p,G,F⟩:=bt;simp only at a9 a2 bm;obtain⟨bE,a⟩:=aj (lD e.data.toList E ⟨p,G,F⟩);rw[<-a];unfold lD at a;simp only at a;have h:=nH 33 33 rfl b p e G F w a9 a2 T;have O:=nG e 33 p a2;obtain⟨Y,d⟩:=aj (bR e.data.toList 33 p);rw[<-d]at h O a;cases aa:fA e.data.toList 33 p with
 |true=>
  rw[aa]at h a;rw[au rfl]at a;have q:=ah a;clear a aa d;go_enter pM,pN
  go_wp2_with fail
  refine h.mono ?_;rintro f w1 ⟨rfl,d,m⟩;clear h
  go_wp2
  go_ret2
  exact eo.yes q.o rfl (tV rfl m.size Bx) (d.below az) (m.alloc _)
 |false=>
  rw[aa]at h a;rw[ap ak]at a;have l:=fun w1 d=>nH 40 40 rfl b Y e G F w1 d O.1 T;have C:=nG e 40 Y O.1;obtain⟨D,j⟩:=aj (bR e.data.toList 40 Y);rw[<-j]at l C a;clear aa d;cases ab:fA e.data.toList 40 Y with
  |true=>
   rw[ab]at l a C;rw[au rfl]at a;have A:=fun w1 d=>nH 41 41 rfl b D e G F w1 d C.1 T;have ao:=nG e 41 D C.1;obtain⟨Z,i⟩:=aj (bR e.data.toList 41 D);rw[<-i]at A ao a;have b1:=C.2.2 rfl;have b0:=O.2.1;have b2:=ao.2.1;have bc:=ao.1;clear ab j O C ao;cases ae:fA e.data.toList 41 D with
   |true=>
    rw[ae]at A a;rw[au rfl]at a;have q:=ah a;clear a ae i;go_enter pM,pN
    go_wp2_with fail
    refine h.mono ?_;rintro f w1 ⟨rfl,d,m⟩;clear h;have g:=l _ d;clear l;go_wp2_with fail
    refine g.mono ?_;rintro f P ⟨rfl,j,s⟩;clear g;have B:=A _ j;clear A;go_wp2_with fail
    refine B.mono ?_;rintro f Q ⟨rfl,i,u⟩;clear B;have r:=(m.trans s).trans u
    go_wp2
    go_ret2
    exact eo.yes q.o rfl (tV rfl r.size By) (i.below az) (r.alloc _)
   |false=>
    rw[ae]at A a;rw[ap ak]at a;have x:=fun w1 d=>bi ⟨Z,G,F⟩ w1 d bc (by show e.size-Z<n;omega);have a1:=fun be a5 bg=>bl ⟨Z,G,F⟩ be a5 (by rw[<-dy];exact bc) bg;clear ae i;cases V:E ⟨Z,G,F⟩with
    |none=>
     rw[V]at a x;simp only at a;have q:=ah a;unfold eo at x;simp only at x;clear a V a1;go_enter pM,pN
     go_wp2_with fail
     refine h.mono ?_;rintro f w1 ⟨rfl,d,m⟩;clear h;have g:=l _ d;clear l;go_wp2_with fail
     refine g.mono ?_;rintro f P ⟨rfl,j,s⟩;clear g;have B:=A _ j;clear A;go_wp2_with fail
     refine B.mono ?_;rintro f Q ⟨rfl,i,u⟩;clear B;have r:=(m.trans s).trans u;have H:=x _ i;clear x;go_wp2_with fail
     refine H.mono ?_;rintro f aq ⟨⟨⟨o,k,c,rfl⟩,N,bd,a7,an,y⟩,R⟩;clear H
     go_wp2
     go_ret2
     exact eo.no q.o rfl an y (r.trans R)
    |some z=>
     obtain⟨be,a5⟩:=z;obtain⟨N,bd,a7⟩:=a5;have a0:=a1 _ _ V;rw[V]at a x;simp only at a a0;have an:N<=e.size:=by rw[dy];exact a0.2.1
     have K:=fun w1 d=>nH 41 41 rfl b N e bd a7 w1 d an T;have a4:=nG e 41 N an;unfold eo at x;simp only at x;obtain⟨bB,ba⟩:=aj (bR e.data.toList 41 N);rw[<-ba]at K a4 a;have bo:=a4.1;clear V a1 a0 ba a4;cases af:fA e.data.toList 41 N with
     |true=>
      rw[af]at K a;rw[au rfl]at a;have q:=ah a;clear a af;go_enter pM,pN
      go_wp2_with fail
      refine h.mono ?_;rintro f w1 ⟨rfl,d,m⟩;clear h;have g:=l _ d;clear l;go_wp2_with fail
      refine g.mono ?_;rintro f P ⟨rfl,j,s⟩;clear g;have B:=A _ j;clear A;go_wp2_with fail
      refine B.mono ?_;rintro f Q ⟨rfl,i,u⟩;clear B;have r:=(m.trans s).trans u;have H:=x _ i;clear x;go_wp2_with fail
      refine H.mono ?_;rintro f aq ⟨⟨⟨v,rfl,M⟩,y⟩,R⟩;clear H;have X:=K _ y;clear K;obtain⟨bw,bu,rfl⟩:=cJ M;have a6:=ah M;clear M;go_wp2_with fail
      refine X.mono ?_;rintro f bz ⟨rfl,av,ag⟩;clear X
      go_wp2
      go_ret2
      exact eo.yes q.o rfl (jP (df a6.o ag.grownBy (.inr (by have:=bX a6.o;intro bf;have:=(this b bf).1;have:=i.lt;omega))) r.size) av ((r.trans R).trans ag)
     |false=>
      rw[af]at K a;rw[ap ak]at a;have q:=ah a;clear a af;go_enter pM,pN
      go_wp2_with fail
      refine h.mono ?_;rintro f w1 ⟨rfl,d,m⟩;clear h;have g:=l _ d;clear l;go_wp2_with fail
      refine g.mono ?_;rintro f P ⟨rfl,j,s⟩;clear g;have B:=A _ j;clear A;go_wp2_with fail
      refine B.mono ?_;rintro f Q ⟨rfl,i,u⟩;clear B;have r:=(m.trans s).trans u;have H:=x _ i;clear x;go_wp2_with fail
      refine H.mono ?_;rintro f aq ⟨⟨⟨v,rfl,M⟩,y⟩,R⟩;clear H;have X:=K _ y;clear K;obtain⟨bw,bu,rfl⟩:=cJ M;clear M;go_wp2_with fail
      refine X.mono ?_;rintro f bz ⟨rfl,av,ag⟩;clear X
      go_wp2
      go_ret2
      exact eo.no q.o rfl bo av ((r.trans R).trans ag)
  |false=>
   rw[ab]at l a;rw[ap ak]at a;have L:=fun w1 d=>IE b D e G F w1 d C.1 T;have a3:=ID e D;have bq:D<=e.size:=C.1;obtain⟨W,bb⟩:=aj (iu e.data.toList D);rw[<-bb]at L a3 a;clear ab j bb O C;cases W with
   |nil=>
    rw[au rfl]at a;have q:=ah a;clear a;go_enter pM,pN
    go_wp2_with fail
    refine h.mono ?_;rintro f w1 ⟨rfl,d,m⟩;clear h;have g:=l _ d;clear l;go_wp2_with fail
    refine g.mono ?_;rintro f P ⟨rfl,j,s⟩;clear g;have I:=L _ j;clear L;go_wp2_with fail
    refine I.mono ?_;rintro f Q ⟨rfl,i,u⟩;clear I
    go_wp2
    go_ret2
    exact eo.no q.o rfl bq i ((m.trans s).trans u)
   |cons c t=>
    rw[ap ak]at a;have J:=fun w=>mi ⟨(c::t).toArray⟩ w (by rw[dy];show(c::t).length<=_;omega);simp only at J;have bA:=ah a3;clear a3;generalize hwd:c::t=W at*;have b3:W.toArray.isEmpty=false:=by rw[<-hwd];rfl
    have b4:W.isEmpty=false:=by rw[<-hwd];rfl
    clear hwd;cases al:a8 W with
    |true=>
     rw[al]at J a;have q:=ah a;clear a al;go_enter pM,pN
     go_wp2_with fail
     refine h.mono ?_;rintro f w1 ⟨rfl,d,m⟩;clear h;have g:=l _ d;clear l;go_wp2_with fail
     refine g.mono ?_;rintro f P ⟨rfl,j,s⟩;clear g;have I:=L _ j;clear L;go_wp2_with fail
     refine I.mono ?_;rintro f Q ⟨rfl,i,u⟩;clear I;go_wp2_with fail
     refine(J _).mono ?_;rintro f aq ⟨rfl,S⟩;clear J;have r:=((m.trans s).trans u).trans (aW.of S);have y:=i.below S
     go_wp2
     go_ret2
     exact eo.yes q.o rfl (tV rfl r.size rfl) (by simpa using y.below az) (r.alloc _)
    |false=>
     rw[al]at J a;have q:=ah a;clear a al;go_enter pM,pN
     go_wp2_with fail
     refine h.mono ?_;rintro f w1 ⟨rfl,d,m⟩;clear h;have g:=l _ d;clear l;go_wp2_with fail
     refine g.mono ?_;rintro f P ⟨rfl,j,s⟩;clear g;have I:=L _ j;clear L;go_wp2_with fail
     refine I.mono ?_;rintro f Q ⟨rfl,i,u⟩;clear I;go_wp2_with fail
     refine(J _).mono ?_;rintro f aq ⟨rfl,S⟩;clear J;have r:=((m.trans s).trans u).trans (aW.of S);have y:=i.below S;have bZ:=y.free 2;have bF:=y.cLo
     go_wp2
     go_ret2
     exact eo.yes q.o rfl (tV (by simp[World.setCell]) r.size rfl) (by simpa using(y.setLo true).below az) ((r.setCell 2 _).alloc _)
theorem wX{b:Nat}{w0 w w':World}{row:Option Nat}(a:aW b w0 w)(c:w.grownBy w' row)(g:∀k,row=some k->w0.heap.size<=k):aW b w0 w':=
 ⟨c.os.trans a.os,c.tape.trans a.tape,c.output.trans a.output,aR a.size c.size,fun k d f=>(c.block k (eR d a.size) (fun e=>by have:=g k e.symm;omega)).trans (a.block k d f)⟩
theorem wY{w w':World}{b p:Nat}{c:ByteArray}{e a:Bool}{row:Option Nat}(d:bY w b c p e a)(g:w.grownBy w' row)(h:row≠some b):bY w' b c p e a:=
 (g.block b d.lt (fun f=>h f.symm)).trans d
theorem xd{r:Option (List ar)}{w w':World}{b:Ending}(a:nJ r w b w'):∃o n c ok,b=.returned (.tuple #[.slice o n c,.bool ok])/\rp w' w.heap.size (.slice o n c) ok r/\Below w.heap.size w w':=by
 cases r with
 |none=>exact⟨none,0,0,false,a.1,⟨rfl,rfl⟩,a.2⟩
 |some l=>
  obtain⟨⟨v,f,d⟩,e⟩:=a;obtain⟨o,c,rfl⟩:=cJ d;exact⟨o,l.length,c,true,f,⟨d,rfl⟩,e⟩
theorem rp.down{w:World}{B B':Nat}{v:Value}{ok:Bool}{r:Option (List ar)}(a:rp w B v ok r)(b:B'<=B):rp w B' v ok r:=by
 cases r with
 |none=>exact a
 |some l=>exact⟨jP a.1 b,a.2⟩
theorem BA{w:World}{B:Nat}{f g:Option Addr}{d e:Nat}{a b:List ar}(t:cr w B (.slice f a.length d) a)(v:cr w B (.slice g b.length e) b):
 nI (w.alloc (.cells #[.slice f a.length d,.slice g b.length e] 63)) (some ⟨w.heap.size,0,none⟩) 2 [⟨a,f,d⟩,⟨b,g,e⟩]:=by
 have A:=aC w (.cells #[.slice f a.length d,.slice g b.length e] 63);have h:=(aA w.heap.size w).alloc (aB _) (.cells #[.slice f a.length d,.slice g b.length e] 63);refine⟨⟨rfl,aB _,bN,fun _=>⟨w.heap.size,0,rfl,ak,fun j u x=> ?_⟩⟩,fun p i=> ?_⟩
 ·rw[cE,aZ _ w.heap.size j _ _ _ A]
  simpa[pvVal]using x
 ·obtain⟨o,c,l,y⟩:=wR t
  injection l with n _ r
  obtain⟨o',C,m,z⟩:=wR v;injection m with q _ s
  subst n;subst r;subst q;subst s;simp at i;rcases i with rfl|rfl
  ·exact y.below h
  ·exact z.below h
theorem dc.pos{l:List ar}(b:dc l):1<=l.length:=by have:=b.ne;cases l with|nil=>exact absurd rfl this|cons a t=>simp
structure oL(b:Nat)(doc:ByteArray)(ns:List ar)(st:cQ)(v:Value)(w0 w:World):Prop where
 own:cr w w0.heap.size v ns
 rd:bY w b doc st.p st.long st.big
 sole:aW b w0 w
 good:dc ns
 bw:b<w0.heap.size
theorem oL.sole'{b:Nat}{d:ByteArray}{f:List ar}{c:cQ}{v:Value}{w0 w w':World}{p:Nat}(a:oL b d f c v w0 w)(e:aW b w w')(h:bY w' b d p c.long c.big):oL b d f ⟨p,c.long,c.big⟩ v w0 w':=
 ⟨df a.own e.grownBy (.inr (fun g=>by have:=(bX a.own b g).1;have:=a.bw;omega)),h,a.sole.trans e,a.good,a.bw⟩
theorem tW{b p:Nat}{a:ByteArray}{f:Bool}{r:List ar×Bool}{w0 w w':World}{d:Ending}(h:aW b w0 w)(l:wV r b p w0.heap.size a f w d w')(j:dc r.1)(i:b<w0.heap.size):∃o c,d=.returned (.slice o r.1.length c)/\oL b a r.1 ⟨p,f,r.2⟩ (.slice o r.1.length c) w0 w':=by obtain⟨v,rfl,e,g,m⟩:=l;obtain⟨o,c,rfl⟩:=cJ e;exact⟨o,c,rfl,⟨e,g,h.trans m,j,i⟩⟩
theorem q1{b n:Nat}{d:ByteArray}{E:cQ->ek}(bB:d.size<=65536)(bm:lI 296 b d (lD d.data.toList E) n)(bo:jO d.data.toList E):lI 287 b d (kU d.data.toList E) n:=by
 intro P w bt t ci;obtain⟨cx,I⟩:=aj (kU d.data.toList E P);rw[<-I];unfold kU at I;have i:=bm P w bt t ci;have b3:=fun e a0 c2=>Be bo P e a0 (by rw[<-dy];exact t) c2;have L:=bt.lt;unfold eo at i;cases g:lD d.data.toList E P with
 |none=>
  rw[g]at I i;simp only at I i;have a7:=ah I;clear I g b3 bm bo;go_enter func287,ntmps287
  go_wp2_with fail
  go_step3
  go_wp2_with fail
  refine i.mono ?_;rintro a cu ⟨⟨⟨o,k,c,rfl⟩,d5,d3,dz,c5,bc⟩,bd⟩;clear i;go_wp2_with fail
  rw[l8];go_ret2
  exact eo.no a7.o rfl c5 bc bd
 |some z=>
  obtain⟨e,a0⟩:=z;have b1:=b3 _ _ g;rw[g]at I i;simp only at I i;have a7:=ah I;clear I g b3 bm bo;go_enter func287,ntmps287
  go_wp2_with fail
  go_step3
  go_wp2_with fail
  refine i.mono ?_;rintro a cu ⟨⟨⟨v,rfl,cl⟩,bc⟩,bd⟩;clear i;have ce:oL b d e a0 v w cu:=⟨cl,bc,bd,b1.2.2,L⟩;have co:a0.p<=d.size:=by rw[dy];exact b1.2.1
  clear cl bc bd b1 bt t ci;go_wp2_with fail
  go_step3
  go_wp2
  go_loopg [4] (d.size-a0.p) (fun k v wr=>∃(e:List ar) (P:cQ) (f:Nat),P.p<=d.size/\k=d.size-P.p/\k<f/\oL b d e P v w wr/\Hid (cx=some (kx d.data.toList f e P)))
  case atStart=>exact⟨e,a0,d.data.toList.length+1,co,rfl,by rw[<-dy];omega,ce,a7.o⟩
  case round=>
   obtain⟨e,⟨p,ae,X⟩,f,t,rfl,c4,u,bl⟩:=hrel;clear a7 ce co;simp only at t c4;obtain⟨f,rfl⟩:∃c1,f=c1+1:=⟨f-1,ad⟩;have h:=bl.o;unfold kx at h;simp only at h;obtain⟨V,T,rfl⟩:=cJ u.own;have i:=nH 42 42 rfl b p d ae X wr u.rd t bB;have O:=nG d 42 p t;obtain⟨an,Z⟩:=aj (bR d.data.toList 42 p);rw[<-Z]at i O h;have bF:=u.good.pos;have d2:=u.good.len;cases a9:fA d.data.toList 42 p with
   |true=>
    rw[a9]at i h O;rw[au rfl]at h;have J:=O.2.2 rfl;have av:=O.1;have K:=ah h;clear h a9 Z O bl;go_wp2_with fail
    refine i.mono ?_;rintro a bi ⟨rfl,B,D⟩;clear i;have j:=u.sole' D B;have b4:=j.sole.size;have a5:=Bw w.heap.size e _ bi j.own b4 ad bF;clear u B D;go_wp2_with fail
    refine a5.mono ?_;rintro a al ⟨ds,rfl,b2,bE⟩;clear a5;have y:∀k,(Value.slice V e.length T).ownBlock=some k->w.heap.size<=k:=fun k a=>(bX j.own k a).1;have C:=wY j.rd bE (fun a=>by have:=y b a;have:=j.bw;omega);have F:=wX j.sole bE y;have Q:=tU b an w.heap.size d ae X (some (fM e)) ds true al C ⟨b2,rfl⟩ F.size L (by intro l a;injection a with a;subst a;have:=j.good.many.2.2;omega);obtain⟨d4,d0,rfl⟩:=cJ b2;clear C b2 bE y;go_wp2_with fail
    refine Q.mono ?_;intro a A R;obtain⟨cq,b8,rfl,m⟩:=tW F R (dc.keep (Bf j.good)) L;clear Q R
    go_wp2
    go_roundg(d.size-an)
    case rel=>exact⟨_,_,f,av,rfl,ad,m,K.o⟩
    case measure=>omega
   |false=>
    rw[a9]at i h;rw[ap ak]at h;have N:=fun w1 Z=>nH 43 43 rfl b an d ae X w1 Z O.1 bB;have J:=nG d 43 an O.1;obtain⟨W,bu⟩:=aj (bR d.data.toList 43 an);rw[<-bu]at N J h;have d6:=O.2.1;clear a9 Z O bl;cases ba:fA d.data.toList 43 an with
    |true=>
     rw[ba]at N h J;rw[au rfl]at h;have dr:=J.2.2 rfl;have av:=J.1;have K:=ah h;clear h ba bu J;go_wp2_with fail
     refine i.mono ?_;rintro a bi ⟨rfl,B,D⟩;clear i;have j:=u.sole' D B;have S:=N _ j.rd;clear N u B D;go_wp2_with fail
     refine S.mono ?_;rintro a al ⟨rfl,C,F⟩;clear S;have s:=j.sole' F C;clear j C F;have b4:=s.sole.size;have ch:=IH e w.heap.size _ al s.own ad bF;go_wp2_with fail
     refine ch.mono ?_;rintro a A ⟨d8,rfl,bg,bz⟩;clear ch;have m:=s.sole' (aW.of bz) (s.rd.below bz);have c3:=ah s.own;clear s;obtain⟨cq,b8,rfl⟩:=cJ bg;have c6:=m.sole.size;have a5:=Bw w.heap.size e _ A (jP bg b4) c6 ad bF;have y:∀k,(Value.slice cq e.length b8).ownBlock=some k->al.heap.size<=k:=fun k a=>(bX bg k a).1;have cp:∀k,(Value.slice V e.length T).ownBlock=some k->k<al.heap.size:=fun k a=>by have cc:=(bX c3.out k a).2;exact cc
     clear bg bz;go_wp2_with fail
     refine a5.mono ?_;rintro a b6 ⟨ea,rfl,ao,be⟩;clear a5;have q:oL b d e ⟨W,ae,X⟩ (.slice V e.length T) w b6:=
      ⟨df m.own be (by
        cases a:(Value.slice V e.length T).ownBlock with
        |none=>exact .inl rfl
        |some k=>exact .inr (fun c0=>by have cc:=cp k a;have d1:=y k c0.symm;omega)),
       wY m.rd be (fun a=>by have:=y b a;have:=L;omega),wX m.sole be (fun k a=>by have:=y k a;omega),m.good,L⟩
     clear m be y cp;obtain⟨cs,b9,rfl⟩:=cJ ao;have aq:=BA q.own ao;have ab:=(aA b6.heap.size b6).alloc (aB _) (.cells #[.slice V e.length T,.slice cs (fM e).length b9] 63);have H:=q.sole' (aW.of ab) (q.rd.below ab);have bf:=q.good.many;have M:=wU 3 1 [⟨e,V,T⟩,⟨fM e,cs,b9⟩] _ 2 _ aq ak (by intro p t;simp at t;rcases t with rfl|rfl;exact⟨q.good.ahead,by simp only;omega⟩;exact⟨bf.1,by simp only;omega⟩) ak;simp only[gX,mX,de,ga,cE,Nat.reduceAdd]at M;obtain⟨r,G⟩:=aj (ey 3 1 [e,fM e]);rw[<-G]at M;have b0:∀x,r=some x->dE x/\x≠[]:=fun x g=>tR q.good ⟨bf.1,bf.2.1⟩ x (G.symm.trans g);have bZ:∀x,r=some x->x.length<=1048576:=fun x g=>by
      rw[G]at g;unfold ey at g;rw[ap ak]at g;split at g
      ·cases g
      ·rename_i y
       injection g with g
       subst g;have:=tQ 3 [e,fM e] 0 [];simp at this y;omega
     rw[<-G]at K;clear G bf aq q ao;go_wp2_with fail
     refine M.mono ?_;intro a b5 a3;obtain⟨c8,c7,cG,ok,rfl,a4,aa⟩:=xd a3;clear M a3;have Y:=H.sole' (aW.of aa) (H.rd.below aa);have Q:=tU b W w.heap.size d ae X r _ ok b5 Y.rd (a4.down H.sole.size) Y.sole.size L bZ;clear a4 H ab aa;go_wp2_with fail
     refine Q.mono ?_;intro a du R;obtain⟨c9,cN,rfl,bq⟩:=tW Y.sole R (dc.keep b0) L;clear Q R
     go_wp2
     go_roundg(d.size-W)
     case rel=>exact⟨_,_,f,av,rfl,ad,bq,K.o⟩
     case measure=>omega
    |false=>
     rw[ba]at N h;rw[ap ak]at h;have af:=fun w1 Z=>nH 63 63 rfl b W d ae X w1 Z J.1 bB;have ag:=nG d 63 W J.1;obtain⟨b7,bw⟩:=aj (bR d.data.toList 63 W);rw[<-bw]at af ag h;have d7:=J.2.1;clear ba bu J;cases bb:fA d.data.toList 63 W with
     |true=>
      rw[bb]at af h ag;rw[au rfl]at h;have dr:=ag.2.2 rfl;have av:=ag.1;have K:=ah h;clear h bb bw ag;go_wp2_with fail
      refine i.mono ?_;rintro a bi ⟨rfl,B,D⟩;clear i;have j:=u.sole' D B;have S:=N _ j.rd;clear N u B D;go_wp2_with fail
      refine S.mono ?_;rintro a al ⟨rfl,C,F⟩;clear S;have s:=j.sole' F C;clear j C F;have a6:=af _ s.rd;clear af;go_wp2_with fail
      refine a6.mono ?_;rintro a A ⟨rfl,a1,a2⟩;clear a6;have m:=s.sole' a2 a1;clear s a1 a2;have bA:=(aA A.heap.size A).alloc (aB _) (.cells (nodeRow iO).toArray 140);have q:=m.sole' (aW.of bA) (m.rd.below bA);have ao:cr (A.alloc (.cells (nodeRow iO).toArray 140)) w.heap.size (.slice (some ⟨A.heap.size,0,none⟩) 1 1) [iO]:=wS A iO w.heap.size m.sole.size;have aq:=BA (b:=[iO]) q.own ao;rw[By]at aq q;have ab:=(aA _ (A.alloc (.cells #[.int .i64 1,.string ⟨#[]⟩,.int .i64 0,.int .i64 0] 140))).alloc (aB _) (.cells #[.slice V e.length T,.slice (some ⟨A.heap.size,0,none⟩) [iO].length 1] 63);have H:=q.sole' (aW.of ab) (q.rd.below ab);have M:=wU 4 0 [⟨e,V,T⟩,⟨[iO],some ⟨A.heap.size,0,none⟩,1⟩] _ 2 _ aq ak (by intro p t;simp at t;rcases t with rfl|rfl;exact⟨q.good.ahead,by simp only;omega⟩;exact⟨dE.one _ rfl rfl,ak⟩) ak;simp only[gX,mX,de,ga,cE,Nat.reduceAdd,bI]at M H;obtain⟨r,G⟩:=aj (ey 4 0 [e,[iO]]);rw[<-G]at M;have b0:∀x,r=some x->dE x/\x≠[]:=fun x g=>tR q.good ⟨dE.one _ rfl rfl,ak⟩ x (G.symm.trans g);have bZ:∀x,r=some x->x.length<=1048576:=fun x g=>by
       rw[G]at g;unfold ey at g;rw[ap ak]at g;split at g
       ·cases g
       ·rename_i y
        injection g with g
        subst g;have:=tQ 4 [e,[iO]] 0 [];simp at this y;omega
      rw[<-G]at K;clear G aq q ao m bA;go_wp2_with fail
      refine M.mono ?_;intro a b5 a3;obtain⟨c8,c7,cG,ok,rfl,a4,aa⟩:=xd a3;clear M a3;have Y:=H.sole' (aW.of aa) (H.rd.below aa);have Q:=tU b b7 w.heap.size d ae X r _ ok b5 Y.rd (a4.down H.sole.size) Y.sole.size L bZ;clear a4 H ab aa;go_wp2_with fail
      refine Q.mono ?_;intro a du R;obtain⟨c9,cN,rfl,bq⟩:=tW Y.sole R (dc.keep b0) L;clear Q R
      go_wp2
      go_roundg(d.size-b7)
      case rel=>exact⟨_,_,f,av,rfl,ad,bq,K.o⟩
      case measure=>omega
     |false=>
      rw[bb]at af h;rw[ap ak]at h;have av:=ag.1;have K:=ah h;clear h bb bw ag;go_wp2_with fail
      refine i.mono ?_;rintro a bi ⟨rfl,B,D⟩;clear i;have j:=u.sole' D B;have S:=N _ j.rd;clear N u B D;go_wp2_with fail
      refine S.mono ?_;rintro a al ⟨rfl,C,F⟩;clear S;have s:=j.sole' F C;clear j C F;have a6:=af _ s.rd;clear af;go_wp2_with fail
      refine a6.mono ?_;rintro a A ⟨rfl,a1,a2⟩;clear a6;have m:=s.sole' a2 a1;clear s a1 a2;go_wp2_with fail
      rw[l8];go_ret2
      exact eo.yes K.o rfl m.own m.rd m.sole
theorem p6{w:World}{B c d size m n n':Nat}{v e:Value}{xs o:List Value}(h:w.ownsRow B c size v n xs)(i:w.ownsRow B d m e n' o)(l:c≠d):v.ownBlock=none∨v.ownBlock≠e.ownBlock:=by
 rcases h.2 with⟨rfl,_⟩|⟨g,cap,q,rfl,_,j,_⟩
 ·exact .inl rfl
 ·refine .inr ?_
  rcases i.2 with⟨rfl,_⟩|⟨s,p,r,rfl,_,a,_⟩
  ·simp[Value.ownBlock]
  ·simp only[Value.ownBlock]
   intro b;injection b with b
   subst b;rw[j]at a;injection a with a
   injection a with _ f _
   exact l f
theorem IP:(prog.info? 63).map (fun i=>(i.zero,i.size,i.bytes))=some (some (.slice none 0 0),1,24):=ay
structure jQ(b:Nat)(doc:ByteArray)(ps:List PV)(st:cQ)(v:Value)(w0 w:World):Prop where
 row:w.ownsRow w0.heap.size 63 1 v ps.length (ps.map pvVal)
 own:∀p∈ps,cr w w0.heap.size (pvVal p) p.l
 rd:bY w b doc st.p st.long st.big
 sole:aW b w0 w
 good:∀p∈ps,dc p.l
 bw:b<w0.heap.size
theorem jQ.sole'{b:Nat}{c:ByteArray}{ps:List PV}{h st':cQ}{v:Value}{w0 w w':World}(a:jQ b c ps h v w0 w)(e:aW b w w')(g:bY w' b c st'.p st'.long st'.big):jQ b c ps st' v w0 w':=
 ⟨df a.row e.grownBy (.inr (fun d=>by have:=(bX a.row b d).1;have:=a.bw;omega)),fun p f=>df (a.own p f) e.grownBy (.inr (fun d=>by have:=(bX (a.own p f) b d).1;have:=a.bw;omega)),g,a.sole.trans e,a.good,a.bw⟩
theorem jQ.push{b:Nat}{f:ByteArray}{ps:List PV}{i:cQ}{v j:Value}{w0 w w':World}(c:jQ b f ps i v w0 w){x:PV}(h:cr w w0.heap.size (pvVal x) x.l)(l:dc x.l)(d:w.grownBy w' v.ownBlock)
 (m:w'.ownsRow w0.heap.size 63 1 j (ps.length+1) (ps.map pvVal++[pvVal x])):jQ b f (ps++[x]) i j w0 w':=by
 have g:∀k,v.ownBlock=some k->w0.heap.size<=k:=fun k e=>(bX c.row k e).1;refine⟨by rw[cm,fd];simpa using m,fun p a=> ?_,wY c.rd d (fun e=>by have:=g b e;have:=c.bw;omega),wX c.sole d g,fun p a=> ?_,c.bw⟩
 ·rcases fe.1 a with a|a
  ·exact df (c.own p a) d (p6 (c.own p a) c.row aw)
  ·simp at a;subst a;exact df h d (p6 h c.row aw)
 ·rcases fe.1 a with a|a
  ·exact c.good p a
  ·simp at a;subst a;exact l
theorem jQ.parts{b:Nat}{i:ByteArray}{ps:List PV}{x:cQ}{o:Option Addr}{c:Nat}{w0 w:World}(e:jQ b i ps x (.slice o ps.length c) w0 w)(l:1<=ps.length):nI w o c ps:=by
 obtain⟨g,y,v,A,n,r,m⟩:=pZ e.row l;injection v with a z d
 subst a;subst d;refine⟨⟨ak,r,m,fun _=>⟨g,0,rfl,n,fun j u h=> ?_⟩⟩,fun p t=> ?_⟩
 ·rw[cE]
  have q:j<ps.length*1:=by have:=(aP.1 h).1;simpa using this
  exact(vz e.row j q).trans h
 ·obtain⟨o,c,f,s⟩:=wR (e.own p t)
  unfold pvVal at f;injection f with a _ d
  rw[a,d];exact s
theorem BB{b n ab:Nat}{e:ByteArray}{F:cQ->ek}(b9:e.size<=65536)(c:UInt8)(bq:Int)(b8:bq=(c.toNat:Nat))(Y X:Int)(hF:lI ab b e F n)(b7:jO e.data.toList F)
 (cN:∀args b4,(callFunc ab args).run prog b4=.ok (.enter ab args) b4) (D:cQ) (w:World) (av:bY w b e D.p D.long D.big) (C:D.p<=e.size) (c4:e.size-D.p<n):
 Calls prog 254 #[.pointer (some ⟨b,0,none⟩),.int .u8 bq,.int .i64 Y,.int .i64 X,.func (.func ab) #[.pointer (some ⟨b,0,none⟩)] #[]] w (eo (gO e.data.toList c Y X F (e.data.toList.length+1) [] D) b e w):=by
 subst b8;obtain⟨b5,a0⟩:=aj (gO e.data.toList c Y X F (e.data.toList.length+1) [] D);rw[<-a0];have bm:=ah a0;have a2:=av.lt;have bt:jQ b e [] D (.slice none 0 0) w w:=⟨cR _ _ _ _,fun p C=>by simp at C,av,aW.refl b w,fun p C=>by simp at C,a2⟩;obtain⟨bf,a5,bc,bd,be⟩:=cL IP;clear a0;go_enter func254,ntmps254
 go_wp2
 go_loopg [12] (e.size-D.p) (fun k v wr=>∃(ps:List PV) (st':cQ) (f:Nat),st'.p<=e.size/\D.p<=st'.p/\ps.length<=st'.p/\k=e.size-st'.p/\k<f/\jQ b e ps st' v w wr/\Hid (b5=gO e.data.toList c Y X F f (ps.map PV.l) st'))
 case atStart=>exact⟨[],D,e.data.toList.length+1,C,aB _,aK _,rfl,by rw[<-dy];omega,bt,bm.o⟩
 case round=>
  obtain⟨ps,st',f,bB,c3,c5,rfl,c0,s,ao⟩:=hrel;clear bm bt av;obtain⟨f,rfl⟩:∃b6,f=b6+1:=⟨f-1,ad⟩;have i:=ao.o;unfold gO at i;obtain⟨bi,bg,rfl⟩:=cJ s.row;have t:=hF st' wr s.rd bB ad;unfold eo at t;have a7:=fun a h T=>b7 st' a h (by rw[<-dy];exact bB) T;cases R:F st' with
  |none=>
   rw[R]at i t;simp only at i t;have I:=ah i;clear i R a7 ao;go_wp2_with fail
   refine t.mono ?_;rintro J j ⟨⟨⟨o,k,cq,rfl⟩,dr,c6,cp,cc,E⟩,G⟩;clear t
   go_wp2
   go_ret2
   exact eo.no I.o rfl cc E (s.sole.trans G)
  |some z=>
   obtain⟨a,h⟩:=z;have al:=a7 _ _ R;rw[R]at i t;simp only at i t;have bE:h.p<=e.size:=by rw[dy];exact al.2.1
   have c1:=al.1;have a3:=al.2.2;have H:=fun w1 ag=>nH c _ rfl b h.p e h.long h.big w1 ag bE b9;have S:=nG e c h.p bE;obtain⟨Q,ag⟩:=aj (bR e.data.toList c h.p);rw[<-ag]at H S i;clear R a7 ao al ag;cases ae:fA e.data.toList c h.p with
   |true=>
    rw[ae]at H i S;rw[au rfl]at i;have ds:=S.2.2 rfl;have b1:=S.1;have I:=ah i;clear i ae S;go_wp2_with fail
    refine t.mono ?_;rintro J j ⟨⟨⟨v,rfl,B⟩,E⟩,G⟩;clear t;obtain⟨g,d,rfl⟩:=cJ B;have q:=s.sole' G (st':=h) E;have L:cr j w.heap.size (pvVal ⟨a,g,d⟩) a:=jP B s.sole.size;have bF:=q.sole.size;have u:jQ b e ps h (.slice bi ps.length bg) w (j.alloc (.cells #[.slice g a.length d] 63)):=q.sole' ((aW.refl b j).alloc _) (q.rd.below az);have M:cr (j.alloc (.cells #[.slice g a.length d] 63)) w.heap.size (pvVal ⟨a,g,d⟩) a:=dA L _;clear s q B L E G;go_wp2_with(first
     |(at_builtin;go_must (refine gY _ rfl _ _ 382 rfl w.heap.size 63 bf (.slice none 0 0) 1 24 Fx a5 bc bd be rfl aw _ _ _ rfl u.row ⟨j.heap.size,0,none⟩ 1 1 [.slice g a.length d] rfl rfl (dt _ [.slice g a.length d] _ _ rfl) (fun z O=>by simp at O;subst O;rfl) bN ad aO ?_);intro b2 b3 N K aa)
     |fail)
    have A:=u.push (x:=⟨a,g,d⟩) M a3 K N;have P:=H _ A.rd;clear H u M K N aa;go_wp2_with fail
    refine P.mono ?_;rintro J bl ⟨rfl,V,W⟩;clear P;have m:=A.sole' W (st':=⟨Q,h.long,h.big⟩) V
    go_wp2
    go_roundg(e.size-Q)
    case rel=>exact⟨ps++[⟨a,g,d⟩],⟨Q,h.long,h.big⟩,f,b1,by(try simp only);omega,by simp only[cm,de,ga];omega,rfl,by(try simp only);omega,m,by have:=I.o;show _=_;rw[fd];exact this⟩
    case measure=>omega
   |false=>
    rw[ae]at H i;rw[ap ak]at i;have b1:=S.1;clear ae S;cases ps with
    |nil=>
     rw[mX,au rfl]at i;have I:=ah i;clear i;simp only[ga]at s;go_wp2_with fail
     refine t.mono ?_;rintro J j ⟨⟨⟨v,rfl,B⟩,E⟩,G⟩;clear t;obtain⟨g,d,rfl⟩:=cJ B;have q:=s.sole' G (st':=h) E;have L:cr j w.heap.size (pvVal ⟨a,g,d⟩) a:=jP B s.sole.size;have bF:=q.sole.size;have u:jQ b e [] h (.slice bi 0 bg) w (j.alloc (.cells #[.slice g a.length d] 63)):=q.sole' ((aW.refl b j).alloc _) (q.rd.below az);have M:cr (j.alloc (.cells #[.slice g a.length d] 63)) w.heap.size (pvVal ⟨a,g,d⟩) a:=dA L _;clear s q B L E G;have ba:=u.row;simp only[ga]at ba;go_wp2_with(first
      |(at_builtin;go_must (refine gY _ rfl _ _ 382 rfl w.heap.size 63 bf (.slice none 0 0) 1 24 Fx a5 bc bd be rfl aw _ _ _ rfl ba ⟨j.heap.size,0,none⟩ 1 1 [.slice g a.length d] rfl rfl (dt _ [.slice g a.length d] _ _ rfl) (fun z O=>by simp at O;subst O;rfl) bN ad aO ?_);intro b2 b3 N K aa)
      |fail)
     have A:=u.push (x:=⟨a,g,d⟩) M a3 K N;have P:=H _ A.rd;clear H u M K N aa ba;have bb:=A.row;simp only[lm,de,ga]at bb;obtain⟨b0,bo,rfl⟩:=cJ bb;clear bb;go_wp2_with fail
     refine P.mono ?_;rintro J bl ⟨rfl,V,W⟩;clear P;have m:=A.sole' W (st':=⟨Q,h.long,h.big⟩) V
     go_wp2
     go_ret2
     exact eo.yes I.o rfl (m.own ⟨a,g,d⟩ ak) m.rd m.sole
    |cons ci cl=>
     rw[ap ak]at i;generalize hps2:ci::cl=ps at*;have c2:1<=ps.length:=by rw[<-hps2];simp
     have cx:((ps.length:Int)+1==1)=false:=dX;have cG:(((ps.length+1:Nat):Int)==1)=false:=dX;have I:=ah i;clear i hps2;go_wp2_with fail
     refine t.mono ?_;rintro J j ⟨⟨⟨v,rfl,B⟩,E⟩,G⟩;clear t;obtain⟨g,d,rfl⟩:=cJ B;have q:=s.sole' G (st':=h) E;have L:cr j w.heap.size (pvVal ⟨a,g,d⟩) a:=jP B s.sole.size;have bF:=q.sole.size;have u:jQ b e ps h (.slice bi ps.length bg) w (j.alloc (.cells #[.slice g a.length d] 63)):=q.sole' ((aW.refl b j).alloc _) (q.rd.below az);have M:cr (j.alloc (.cells #[.slice g a.length d] 63)) w.heap.size (pvVal ⟨a,g,d⟩) a:=dA L _;clear s q B L E G;go_wp2_with(first
      |(at_builtin;go_must (refine gY _ rfl _ _ 382 rfl w.heap.size 63 bf (.slice none 0 0) 1 24 Fx a5 bc bd be rfl aw _ _ _ rfl u.row ⟨j.heap.size,0,none⟩ 1 1 [.slice g a.length d] rfl rfl (dt _ [.slice g a.length d] _ _ rfl) (fun z O=>by simp at O;subst O;rfl) bN ad aO ?_);intro b2 b3 N K aa)
      |fail)
     have A:=u.push (x:=⟨a,g,d⟩) M a3 K N;have P:=H _ A.rd;clear H u M K N aa;obtain⟨b0,bo,bZ⟩:=cJ A.row;have an:(ps++[(⟨a,g,d⟩:PV)]).length=ps.length+1:=ak;rw[an]at bZ;subst bZ;go_wp2_with fail
     refine P.mono ?_;rintro J bl ⟨rfl,V,W⟩;clear P;have m:=A.sole' W (st':=⟨Q,h.long,h.big⟩) V;clear A V W;rw[<-an]at m;have Z:=wU Y X (ps++[(⟨a,g,d⟩:PV)]) b0 bo bl (m.parts ad) ad (fun p C=>⟨(m.good p C).ahead,by have:=(m.good p C).len;omega⟩) ad;rw[an]at Z m;have a6:(ps++[(⟨a,g,d⟩:PV)]).map PV.l=ps.map PV.l++[a]:=ak;rw[a6]at Z;obtain⟨r,a9⟩:=aj (ey Y X (ps.map PV.l++[a]));rw[<-a9]at Z I;have a4:∀x,r=some x->dc x:=fun x R=>dc.fold (ps:=ps.map PV.l++[a]) (fun p C=>by rw[<-a6]at C;obtain⟨y,ch,rfl⟩:=kO.1 C;exact m.good y ch) (a9.symm.trans R)
     clear a9 a6 an;go_wp2_with fail
     refine Z.mono ?_;intro J co bu;obtain⟨c8,c7,cs,ok,rfl,bA,a1⟩:=xd bu;clear Z bu;have af:=m.sole' (aW.of a1) (st':=⟨Q,h.long,h.big⟩) (m.rd.below a1);have bw:=tU b Q w.heap.size e h.long h.big r _ ok co af.rd (bA.down m.sole.size) af.sole.size a2 (fun l T=>by have:=(a4 l T).len;omega);have ce:=af.sole;clear bA m a1 af;go_wp2_with fail
     refine bw.mono ?_;intro J du bz;obtain⟨c9,cu,rfl,aq⟩:=tW ce bz (dc.keep (fun l T=>⟨(a4 l T).ahead,(a4 l T).ne⟩)) a2;clear bw bz
     go_wp2
     go_ret2
     exact eo.yes I.o rfl aq.own aq.rd aq.sole
theorem IQ:∀args a,(callFunc 287 args).run prog a=.ok (.enter 287 args) a:=fun _ _=>rfl
theorem IR:∀args a,(callFunc 255 args).run prog a=.ok (.enter 255 args) a:=fun _ _=>rfl
theorem eo.tuple{r:ek}{b:Nat}{f:ByteArray}{w w':World}{g:Ending}(d:eo r b f w g w'):∃o n c ok,g=.returned (.tuple #[.slice o n c,.bool ok])/\eo r b f w (.returned (.tuple #[.slice o n c,.bool ok])) w':=by
 cases r with
 |none=>
  have e:=d;obtain⟨⟨⟨o,n,c,a⟩,_⟩,_⟩:=e;exact⟨o,n,c,false,a,a▸d⟩
 |some z=>
  have e:=d;obtain⟨⟨⟨v,a,h⟩,_⟩,_⟩:=e;obtain⟨o,c,rfl⟩:=cJ h;exact⟨o,_,c,true,a,a▸d⟩
theorem IS{b n:Nat}{a:ByteArray}{E:cQ->ek}(l:a.size<=65536)(h:lI 287 b a (kU a.data.toList E) n)(g:jO a.data.toList E):lI 255 b a (nB a.data.toList E) n:=by
 intro e w j d m;have f:=BB l 44 44 rfl 3 1 h (Bg g) IQ e w j d m;have i:nB a.data.toList E e=gO a.data.toList 44 3 1 (kU a.data.toList E) (a.data.toList.length+1) [] e:=rfl;rw[i];clear i h g;generalize gO a.data.toList 44 3 1 (kU a.data.toList E) (a.data.toList.length+1) [] e=q at f;go_enter func255,ntmps255
 go_wp2_with fail
 refine f.mono ?_;intro r w1 d;obtain⟨o,n,c,ok,rfl,p⟩:=d.tuple;clear f d
 go_wp2
 go_ret2
 exact p
theorem IT{b n:Nat}{a:ByteArray}{E:cQ->ek}(j:a.size<=65536)(h:lI 255 b a (nB a.data.toList E) n)(g:jO a.data.toList E):
 lI 214 b a (fun d=>gO a.data.toList 124 4 0 (nB a.data.toList E) (a.data.toList.length+1) [] d) n:=by
 intro d w i e l;show Calls _ _ _ _ (eo (gO a.data.toList 124 4 0 (nB a.data.toList E) (a.data.toList.length+1) [] d) b a w)
 have f:=BB j 124 124 rfl 4 0 h (Bi g) IR d w i e l;clear h g;generalize gO a.data.toList 124 4 0 (nB a.data.toList E) (a.data.toList.length+1) [] d=p at f;go_enter func214,ntmps214
 go_wp2_with fail
 refine f.mono ?_;intro q w1 e;obtain⟨o,n,c,ok,rfl,m⟩:=e.tuple;clear f e
 go_wp2
 go_ret2
 exact m
theorem IU{b:Nat}{a:ByteArray}(c:a.size<=65536):∀n,lI 214 b a (nC a.data.toList n) n:=by
 intro n;induction n with
 |zero=>intro l w h j i;omega
 |succ n ih=>
  have d:=Bj a.data.toList n;have e:=IN c ih d;have f:=q1 c e d;have g:=IS c f d;exact IT c g d
def lJ(r:List ar×Int)(w:World)(a:Ending)(w':World):Prop:=
 ∃o c,a=.returned (.tuple #[.agg #[.slice o r.1.length c],.int .i64 r.2])/\cr w' w.heap.size (.slice o r.1.length c) r.1/\Below w.heap.size w w'
theorem lJ.of{r:List ar×Int}{l:List ar}{n:Int}{o:Option Addr}{c:Nat}{w w':World}{a:Ending}(b:r=(l,n))(e:a=.returned (.tuple #[.agg #[.slice o l.length c],.int .i64 n]))(f:cr w' w.heap.size (.slice o l.length c) l)(d:Below w.heap.size w w'):lJ r w a w':=by subst b;exact⟨o,c,e,f,d⟩
theorem IV(a:ByteArray)(w:World)(ao:a.size<=1152921504606846976):
 Calls prog 142 #[.string a] w (lJ (nD a.data.toList) w):=by
 obtain⟨an,d⟩:=aj (nD a.data.toList);rw[<-d];unfold nD at d;by_cases aa:65536<a.size
 ·rw[au (by rw[<-dy];exact aa)]at d
  have t:=ah d;have af:decide ((a.size:Int)>65536)=true:=aM;clear d;go_enter sP,sQ
  go_wp2_with fail
  exact bS (v:=.tuple #[.agg #[.slice none 0 0],.int .i64 17]) (by simp[results,sR,go_sem]) rfl (lJ.of t.o rfl (cR _ _ _ _) az)
 ·rw[ap (by rw[<-dy];exact aa)]at d
  have af:decide ((a.size:Int)>65536)=false:=aJ;have L:a.size<=65536:=ad;obtain⟨w0,r⟩:=aj ((w.alloc (.cells #[.slice none 0 0] 65)).alloc (.cells #[.string a,.int .i64 0,.bool false,.bool false] 301));have x:Below w.heap.size w w0:=by rw[r];exact pY _ _ _
  have K:bY w0 (w.heap.size+1) a 0 false false:=by rw[r];have:=aC (w.alloc (.cells #[.slice none 0 0] 65)) (.cells #[.string a,.int .i64 0,.bool false,.bool false] 301);rw[bI]at this;exact this
  have u:w0.heap[w.heap.size]?=some (.cells #[.slice none 0 0] 65 (0,0)):=by rw[r];exact(((aA (w.heap.size+1) _).alloc ak _).block w.heap.size ad).trans (aC w _)
  have n:=IU (b:=w.heap.size+1) L (a.size+1) ⟨0,false,false⟩ w0 K (aK _) (by show a.size-0<_;omega);have V:=Bj a.data.toList (a.size+1) ⟨0,false,false⟩;have M:a.data.toList.length=a.size:=(dy a).symm;rw[M]at d V;unfold eo at n;have N:=aN u;rw[r]at n;cases P:nC a.data.toList (a.size+1) ⟨0,false,false⟩with
  |none=>
   rw[P]at d n;simp only at d n;obtain⟨t,X⟩:=aE d (And.intro x (And.intro u r));clear d P V x u K r N M;go_enter sP,sQ
   go_wp2_with fail
   refine n.mono ?_;rintro f E ⟨⟨⟨o,k,c,rfl⟩,D,R,J,H,q⟩,h⟩;clear n;have j:=pX (w.heap.size+1) D a R J E q H L;go_wp2_with fail
   refine j.mono ?_;rintro f l ⟨⟨v,rfl⟩,m,i⟩;clear j;rw[<-X.out.2.2]at h;have g:=h.trans i;have p:=(g.block w.heap.size (aN X.out.2.1) ad).trans X.out.2.1;have A:=aZ l w.heap.size 0 _ _ _ p;have S:l.frozen? ⟨w.heap.size,0,none⟩=false:=by simp[World.frozen?,p]
   have s:=X.out.1.trans (g.below (B:=w.heap.size) ad X.out.1.size);clear X h i g p q;go_wp2_with fail
   refine bS (v:=.tuple #[.agg #[.slice none 0 0],.int .i64 12]) (by simp[results,sR,go_sem,A]) rfl (lJ.of t.o rfl (cR _ _ _ _) ?_);first|exact s|exact s.setCell (aB _) _
  |some z=>
   obtain⟨y,D,R,J⟩:=z;have T:=V y ⟨D,R,J⟩ (aK _) P;rw[P]at d n;simp only at d n T;have H:=T.2.1;have al:=wP a D H;obtain⟨Q,C⟩:=aj (jM a.data.toList D);rw[<-C]at d al;clear P V T;by_cases ab:Q<a.size
   ·rw[au ab]at d
    have ag:decide ((Q:Int)<a.size)=true:=aM;obtain⟨t,X⟩:=aE d (And.intro x (And.intro u r));clear d x u K r N M;go_enter sP,sQ
    go_wp2_with fail
    refine n.mono ?_;rintro f E ⟨⟨⟨v,rfl,e⟩,q⟩,h⟩;clear n;obtain⟨G,F,rfl⟩:=cJ e;have j:=pX (w.heap.size+1) D a R J E q H L;rw[<-C]at j;go_wp2_with fail
    refine j.mono ?_;rintro f l ⟨⟨v,rfl⟩,m,i⟩;clear j;rw[<-X.out.2.2]at h e;have g:=h.trans i;have p:=(g.block w.heap.size (aN X.out.2.1) ad).trans X.out.2.1;have A:=aZ l w.heap.size 0 _ _ _ p;have S:l.frozen? ⟨w.heap.size,0,none⟩=false:=by simp[World.frozen?,p]
    have W:=m.cPos;have Y:=m.cLo;have Z:=m.cBi;have s:=X.out.1.trans (g.below (B:=w.heap.size) ad X.out.1.size);have O:cr l (w.heap.size+2) (.slice G y.length F) y:=by
     have I:w0.heap.size=w.heap.size+2:=by rw[X.out.2.2];simp
     have:=df e i.grownBy (.inr (fun f=>by have:=(bX e _ f).1;omega));rwa[I]at this
    clear X h i g q e C;go_wp2_with fail
    refine bS (v:=.tuple #[.agg #[.slice none 0 0],.int .i64 12]) (by simp[results,sR,go_sem,A]) rfl (lJ.of t.o rfl (cR _ _ _ _) ?_);first|exact s|exact s.setCell (aB _) _
   ·rw[ap ab]at d
    have ag:decide ((Q:Int)<a.size)=false:=aJ;cases R with
    |true=>
     rw[au rfl]at d;obtain⟨t,X⟩:=aE d (And.intro x (And.intro u r));clear d x u K r N M;go_enter sP,sQ
     go_wp2_with fail
     refine n.mono ?_;rintro f E ⟨⟨⟨v,rfl,e⟩,q⟩,h⟩;clear n;obtain⟨G,F,rfl⟩:=cJ e;have j:=pX (w.heap.size+1) D a true J E q H L;rw[<-C]at j;go_wp2_with fail
     refine j.mono ?_;rintro f l ⟨⟨v,rfl⟩,m,i⟩;clear j;rw[<-X.out.2.2]at h e;have g:=h.trans i;have p:=(g.block w.heap.size (aN X.out.2.1) ad).trans X.out.2.1;have A:=aZ l w.heap.size 0 _ _ _ p;have S:l.frozen? ⟨w.heap.size,0,none⟩=false:=by simp[World.frozen?,p]
     have W:=m.cPos;have Y:=m.cLo;have Z:=m.cBi;have s:=X.out.1.trans (g.below (B:=w.heap.size) ad X.out.1.size);have O:cr l (w.heap.size+2) (.slice G y.length F) y:=by
      have I:w0.heap.size=w.heap.size+2:=by rw[X.out.2.2];simp
      have:=df e i.grownBy (.inr (fun f=>by have:=(bX e _ f).1;omega));rwa[I]at this
     clear X h i g q e C;go_wp2_with fail
     refine bS (v:=.tuple #[.agg #[.slice none 0 0],.int .i64 11]) (by simp[results,sR,go_sem,A]) rfl (lJ.of t.o rfl (cR _ _ _ _) ?_);first|exact s|exact s.setCell (aB _) _
    |false=>
     rw[ap ak]at d;cases J with
     |true=>
      rw[au rfl]at d;obtain⟨t,X⟩:=aE d (And.intro x (And.intro u r));clear d x u K r N M;go_enter sP,sQ
      go_wp2_with fail
      refine n.mono ?_;rintro f E ⟨⟨⟨v,rfl,e⟩,q⟩,h⟩;clear n;obtain⟨G,F,rfl⟩:=cJ e;have j:=pX (w.heap.size+1) D a false true E q H L;rw[<-C]at j;go_wp2_with fail
      refine j.mono ?_;rintro f l ⟨⟨v,rfl⟩,m,i⟩;clear j;rw[<-X.out.2.2]at h e;have g:=h.trans i;have p:=(g.block w.heap.size (aN X.out.2.1) ad).trans X.out.2.1;have A:=aZ l w.heap.size 0 _ _ _ p;have S:l.frozen? ⟨w.heap.size,0,none⟩=false:=by simp[World.frozen?,p]
      have W:=m.cPos;have Y:=m.cLo;have Z:=m.cBi;have s:=X.out.1.trans (g.below (B:=w.heap.size) ad X.out.1.size);have O:cr l (w.heap.size+2) (.slice G y.length F) y:=by
       have I:w0.heap.size=w.heap.size+2:=by rw[X.out.2.2];simp
       have:=df e i.grownBy (.inr (fun f=>by have:=(bX e _ f).1;omega));rwa[I]at this
      clear X h i g q e C;go_wp2_with fail
      refine bS (v:=.tuple #[.agg #[.slice none 0 0],.int .i64 17]) (by simp[results,sR,go_sem,A]) rfl (lJ.of t.o rfl (cR _ _ _ _) ?_);first|exact s|exact s.setCell (aB _) _
     |false=>
      rw[ap ak]at d;obtain⟨t,X⟩:=aE d (And.intro x (And.intro u r));clear d x u K r N M;go_enter sP,sQ
      go_wp2_with fail
      refine n.mono ?_;rintro f E ⟨⟨⟨v,rfl,e⟩,q⟩,h⟩;clear n;obtain⟨G,F,rfl⟩:=cJ e;have j:=pX (w.heap.size+1) D a false false E q H L;rw[<-C]at j;go_wp2_with fail
      refine j.mono ?_;rintro f l ⟨⟨v,rfl⟩,m,i⟩;clear j;rw[<-X.out.2.2]at h e;have g:=h.trans i;have p:=(g.block w.heap.size (aN X.out.2.1) ad).trans X.out.2.1;have A:=aZ l w.heap.size 0 _ _ _ p;have S:l.frozen? ⟨w.heap.size,0,none⟩=false:=by simp[World.frozen?,p]
      have W:=m.cPos;have Y:=m.cLo;have Z:=m.cBi;have s:=X.out.1.trans (g.below (B:=w.heap.size) ad X.out.1.size);have O:cr l (w.heap.size+2) (.slice G y.length F) y:=by
       have I:w0.heap.size=w.heap.size+2:=by rw[X.out.2.2];simp
       have:=df e i.grownBy (.inr (fun f=>by have:=(bX e _ f).1;omega));rwa[I]at this
      clear X h i g q e C;go_wp2_with fail
      refine bS (v:=.tuple #[.agg #[.slice G y.length F],.int .i64 0]) (by simp[results,sR,go_sem,A]) rfl (lJ.of t.o rfl ?_ (s.setCell (aB _) _));exact jP (df (row:=some w.heap.size) O ⟨rfl,rfl,rfl,by simp[World.setCell],fun k T ae=>eG _ _ _ _ (fun f=>ae (by rw[f]))⟩ (.inr (fun f=>by have:=(bX O _ f).1;omega))) ad
end Go.Proofs.YtbacloblanpghaaGreatDoor
