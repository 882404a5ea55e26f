import Derived.Test.YtnadadbndcdolaaGreatDoorQad
import Derived.Test.YtnadadbndcdolaaGreatDoorQag
set_option linter.unusedVariables false
set_option linter.unusedSimpArgs false
set_option maxRecDepth 100000
set_option maxHeartbeats 0
namespace Go.Proofs.YtnadadbndcdolaaGreatDoor
open Go.RowKit Tryz
theorem Jl(x:Int)(i:Nat)(b d:Nat)(w:World)(g:w.cell? ⟨b,0,none⟩=some (.int .i64 (i:Int)))(a:dy i x=false):
 Calls prog 161 #[.int .i64 x,.pointer (some ⟨b,0,none⟩),.pointer (some ⟨d,0,none⟩)] w fun e w'=>e=.returned (.bool false)/\w=w':=by
 unfold dy at a;rcases(by by_cases c:x<0<;>simp at a<;>omega:x<0∨(0<=x/\(i:Int)<=x))with c|⟨c,f⟩
 all_goals
  clear a;go_enter func161,ntmps161
  go_wp2
  go_ret;exact⟨rfl,rfl⟩
theorem Jm(x i n a b U:Nat)(u:Int)(w:World)(h:w.cell? ⟨a,0,none⟩=some (.int .i64 (i:Int)))(r:x<i)(j:i<=n)(l:n<=1024)
 (q:w.cell? ⟨b,0,none⟩=some (.slice (some ⟨U,0,none⟩) n n)) (m:w.cell? ⟨U,x,none⟩=some (.int .i64 u)) (o:0<=u) (p:u<=4096) (g:w.frozen? ⟨U,x,none⟩=false):
 Calls prog 161 #[.int .i64 (x:Int),.pointer (some ⟨a,0,none⟩),.pointer (some ⟨b,0,none⟩)] w fun c w'=>c=.returned (.bool true)/\w'=w.setCell ⟨U,x,none⟩ (.int .i64 (u+1)):=by
 have d:(0:Int)<=x:=ad;have e:(x:Int)<i:=ad;have f:(x:Int)<n:=ad;go_enter func161,ntmps161
 go_wp2
 go_ret;exact⟨rfl,rfl⟩
theorem pq:(prog.info? 3).map (fun i=>(i.zero,i.size,i.bytes))=some (some (.int .i64 0),1,8):=aA
def qt(w:World)(U:Nat)(a:List Nat):Prop:=w.heap[U]?=some (.cells (a.map fun u=>Value.int .i64 (u:Nat)).toArray 3 (0,0))
def bump(a:List Nat)(x:Nat):List Nat:=a.set x (a.getD x 0+1)
theorem jI(a:List Nat)(x:Nat):(bump a x).length=a.length:=by simp[bump]
theorem Co(a:List Nat)(x j:Nat)(c:j<a.length):(bump a x).getD j 0=a.getD j 0+if x=j then 1 else 0:=by
 unfold bump;simp only[fp,AX];by_cases b:x=j
 ·subst b;simp[c]
 ·simp[b]
theorem bn(w:World)(U x:Nat)(v:Value){cs:Array Value}{t:Nat}{a:Nat×Nat}(b:w.heap[U]?=some (.cells cs t a)):(w.setCell ⟨U,x,none⟩ v).heap[U]?=some (.cells (cs.setIfInBounds x v) t a):=by
 have c:=aU b;have d:w.heap[U]=.cells cs t a:=by simpa[lj c]using b
 show(w.heap.modify U _)[U]?=_
 rw[lj (by simpa using c),xH,d];rfl
theorem aS(w:World)(U x k:Nat)(v:Value)(b:k≠U):(w.setCell ⟨U,x,none⟩ v).heap[k]?=w.heap[k]?:=fQ _ _ _ _ (fun a=>b (by rw[a]))
theorem qt.bump{w:World}{U:Nat}{a:List Nat}(b:qt w U a){x:Nat}(c:x<a.length):qt (w.setCell ⟨U,x,none⟩ (.int .i64 ((a.getD x 0:Nat)+1:Int))) U (bump a x):=by
 unfold qt at*;rw[bn w U x _ b];congr 2
 unfold Go.Proofs.YtnadadbndcdolaaGreatDoor.bump;rw[aM,qh];rfl
theorem Cp{a:List Nat}{m:Nat}(b:∀j,a.getD j 0<=m)(x:Nat):∀j,(bump a x).getD j 0<=m+1:=by
 intro j;by_cases c:j<a.length
 ·rw[Co a x j c];have:=b j;split<;>omega
 ·rw[fp,oZ (by rw[jI];omega)];simp
theorem rX{a:List Nat}{x:Nat}(e:x<a.length)(j:Nat):(bump a x).getD j 0=a.getD j 0+[x].count j:=by
 by_cases c:j<a.length
 ·rw[Co a x j c]
  by_cases b:x=j
  ·subst b;simp
  ·simp[b]
 ·have d:¬x=j:=ad
  rw[fp,fp,oZ (by rw[jI];omega),oZ ad];simp[d]
theorem rY{i:Nat}{x:Int}(a:dy i x=true):x.toNat<i:=by unfold dy at a;simp at a;omega
structure me(U I:Nat)(n:aj)(i:Nat)(us:List Nat)(w0 w:World):Prop where
 uses:qt w U us
 ub:w.heap[U+1]?=some (.cells #[.slice (some ⟨U,0,none⟩) us.length us.length] 125 (0,0))
 ib:w.heap[I]?=some (.cells #[.int .i64 (i:Int)] 3 (0,0))
 nb:w.heap[I+1]?=some (.cells (nodeRow n).toArray 102 (0,0))
 below:Below w0.heap.size w0 w
 U0:w0.heap.size<=U
 UI:U+1<I
theorem me.bump{U b i:Nat}{n:aj}{c:List Nat}{w0 w:World}(a:me U b n i c w0 w){x:Nat}(e:x<c.length):me U b n i (bump c x) w0 (w.setCell ⟨U,x,none⟩ (.int .i64 ((c.getD x 0:Nat)+1:Int))):=by have d:=a.UI;refine⟨a.uses.bump e,?_,(aS w U x b _ ad).trans a.ib,(aS w U x (b+1) _ ad).trans a.nb,a.below.setCell a.U0 _,a.U0,d⟩;rw[jI];exact(aS w U x (U+1) _ ad).trans a.ub
theorem rZ{U b i:Nat}{n:aj}{a:List Nat}{w0 w:World}(c:me U b n i a w0 w)(x:Int)(m:i<=a.length)(o:a.length<=1024)(p:∀j,a.getD j 0<=4096):
 Calls prog 161 #[.int .i64 x,.pointer (some ⟨b,0,none⟩),.pointer (some ⟨U+1,0,none⟩)] w fun d w'=>d=.returned (.bool (dy i x))/\me U b n i (if dy i x=true then bump a x.toNat else a) w0 w':=by
 cases e:dy i x with
 |false=>
  refine(Jl x i b (U+1) w (bs w b 0 _ _ _ c.ib) e).mono ?_;rintro d w' ⟨rfl,rfl⟩;exact⟨rfl,by simpa using c⟩
 |true=>
  have f:=e;unfold dy at f;simp at f;obtain⟨y,rfl⟩:∃y:Nat,x=y:=⟨x.toNat,ad⟩;have g:y<a.length:=ad;have h:w.cell? ⟨U,y,none⟩=some (.int .i64 ((a.getD y 0:Nat):Int)):=by rw[bs w U y _ _ _ c.uses];simp[fp,aH g]
  refine(Jm y i a.length b (U+1) U (a.getD y 0:Nat) w (bs w b 0 _ _ _ c.ib) ad m o (bs w (U+1) 0 _ _ _ c.ub) h ad (by have:=p y;omega) (by have l:w.heap[U]?=_:=c.uses;simp[World.frozen?,l])).mono ?_;rintro d w' ⟨rfl,rfl⟩;exact⟨rfl,by simpa using c.bump g⟩
theorem Jn(l:List aj)(j:Nat):cV l j<=2*l.length:=by
 unfold cV;refine aJ List.count_le_length ?_;induction l with
 |nil=>simp
 |cons n t ih=>
  rw[uh,cR,db];have:(bO n).length<=2:=by unfold bO;split<;>(try split)<;>simp
  omega
theorem Jo(n:Nat):madeCells #[Value.int .i64 0] n=((List.replicate n 0).map fun u=>Value.int .i64 ((u:Nat):Int)).toArray:=by
 unfold madeCells;apply Array.ext
 ·simp
 ·intro i a b
  simp[Nat.mod_one]
structure r8(U:Nat)(us:List Nat)(w0 w:World):Prop where
 uses:qt w U us
 ub:w.heap[U+1]?=some (.cells #[.slice (some ⟨U,0,none⟩) us.length us.length] 125 (0,0))
 below:Below w0.heap.size w0 w
 U0:w0.heap.size<=U
theorem r8.node{U:Nat}{e:List Nat}{w0 w:World}(a:r8 U e w0 w)(n:aj)(i:Nat):me U w.heap.size n i e w0 ((w.alloc (.cells #[.int .i64 (i:Int)] 3)).alloc (.cells #[.int .i64 n.op,.string ⟨n.sym.toArray⟩,.int .i64 n.a,.int .i64 n.b] 102)):=by have b:Below w.heap.size w ((w.alloc (.cells #[.int .i64 (i:Int)] 3)).alloc (.cells #[.int .i64 n.op,.string ⟨n.sym.toArray⟩,.int .i64 n.a,.int .i64 n.b] 102)):=aG.alloc (by rw[bj];omega) _;have d:=aU a.ub;have f:(w.alloc (.cells #[.int .i64 (i:Int)] 3)).heap[w.heap.size]?=_:=aB w (.cells #[.int .i64 (i:Int)] 3);have c:=aB (w.alloc (.cells #[.int .i64 (i:Int)] 3)) (.cells #[.int .i64 n.op,.string ⟨n.sym.toArray⟩,.int .i64 n.a,.int .i64 n.b] 102);rw[bj]at c;refine⟨(b.block U ad).trans a.uses,(b.block (U+1) d).trans a.ub,?_,c,a.below.trans (b.mono a.below.size),a.U0,d⟩;exact(((aE (w.heap.size+1) (w.alloc (.cells #[.int .i64 (i:Int)] 3))).alloc (by rw[bj];omega) _).block _ ad).trans f
theorem me.cells{U a i:Nat}{n:aj}{c:List Nat}{w0 w:World}(b:me U a n i c w0 w):w.cell? ⟨a+1,0,none⟩=some (.int .i64 n.op)/\w.cell? ⟨a+1,1,none⟩=some (.string ⟨n.sym.toArray⟩)/\w.cell? ⟨a+1,2,none⟩=some (.int .i64 n.a)/\w.cell? ⟨a+1,3,none⟩=some (.int .i64 n.b):=
 ⟨bs w (a+1) 0 _ _ _ b.nb,bs w (a+1) 1 _ _ _ b.nb,bs w (a+1) 2 _ _ _ b.nb,bs w (a+1) 3 _ _ _ b.nb⟩
theorem me.back{U c i:Nat}{n:aj}{b:List Nat}{w0 w:World}(a:me U c n i b w0 w):r8 U b w0 w:=⟨a.uses,a.ub,a.below,a.U0⟩
theorem Jp(l:List aj)(o:Option Addr)(cap:Nat)(w:World)(be:cO w o cap l)(cb:l.length<=1024):
 Calls prog 96 #[.slice o l.length cap] w fun G w'=>G=.returned (.bool (iu l))/\Below w.heap.size w w':=by
 obtain⟨Z,I⟩:=ar (iu l);rw[<-I];have Y:=ah I;clear I;obtain⟨bD,V,bA,bB,bC⟩:=cY pq;have a9:=Jo l.length;have a0:=ah a9;clear a9;go_enter func96,ntmps96
 go_wp2_with(first
  |(at_make;go_must (refine wpList_make_row _ rfl _ _ _ rfl 3 bD (.int .i64 0) mR V bA bB rfl _ _ l.length rfl rfl (by rw[bC];omega) ad ?_)))
 rw[a0.o];have a4:r8 w.heap.size (List.replicate l.length 0) w ((w.alloc (.cells ((List.replicate l.length 0).map fun u=>Value.int .i64 ((u:Nat):Int)).toArray 3)).alloc (.cells #[.slice (some ⟨w.heap.size,0,none⟩) l.length l.length] 125)):=by have bf:=aB w (.cells ((List.replicate l.length 0).map fun u=>Value.int .i64 ((u:Nat):Int)).toArray 3);have a3:=aB (w.alloc (.cells ((List.replicate l.length 0).map fun u=>Value.int .i64 ((u:Nat):Int)).toArray 3)) (.cells #[.slice (some ⟨w.heap.size,0,none⟩) l.length l.length] 125);rw[bj]at a3;refine⟨?_,by rw[List.length_replicate];exact a3,aG.alloc (by rw[bj];omega) _,az _⟩;exact(((aE (w.heap.size+1) (w.alloc _)).alloc (by rw[bj];omega) _).block _ ad).trans bf
 clear a0;have a7:∀j,(List.replicate l.length 0).getD j 0=cV (l.take 0) j:=by
  intro j;have:cV (l.take 0) j=0:=by simp[cV]
  rw[this,fp,Ig];split<;>rfl
 have aq:=ah a7;clear a7;go_loopw [14] (fun i wr=>∃(k:Nat) (y:List Nat),i=.int .i64 k/\k<=l.length/\y.length=l.length/\r8 w.heap.size y w wr/\Hid (ey 0 (l.take k)=true/\∀j,y.getD j 0=cV (l.take k) j)) (fun i _=>l.length-(intOf i).toNat)
 case atStart=>exact⟨0,List.replicate l.length 0,rfl,aZ _,List.length_replicate,a4,rfl,aq.o⟩
 case round=>
  obtain⟨k,y,rfl,b9,O,P,S⟩:=hrel;clear a4 aq;by_cases bz:k<l.length
  ·have bt:decide ((k:Int)<l.length)=true:=bQ
   have ca:(k:Int)<l.length:=ad;obtain⟨n,Q⟩:∃n,l[k]?=some n:=⟨_,aH bz⟩;obtain⟨b,cd,rfl,b6,bE,bF,bN,bZ⟩:=(be.below (P.below)).at Q;have hF:=P.node n k;have ba:∀j,y.getD j 0<=2048:=fun j=>by rw[S.o.2];have:=Jn (l.take k) j;rw[fm]at this;omega
   have T:=ah ba;clear ba;obtain⟨p,sym,a,c⟩:=n;simp only at bE bF bN bZ;have g:dO k ⟨p,sym,a,c⟩=false->Z=false:=fun al=>by rw[Y.o];exact Jf Q al
   have m:∀an:List Nat,dO k ⟨p,sym,a,c⟩=true->(∀j,an.getD j 0=y.getD j 0+(bO ⟨p,sym,a,c⟩).count j)->ey 0 (l.take (k+1))=true/\∀j,an.getD j 0=cV (l.take (k+1)) j:=by intro an al bl;refine⟨by rw[Cl Q,S.o.1,al];rfl,fun j=> ?_⟩;rw[bl,rW Q,S.o.2]
   have b0:=ah Q;clear Q;obtain⟨C,D,E,F⟩:=hF.cells;simp only at C D E F;rcases(ad:p=0∨p=1∨p=2∨p=3∨p=4∨p=5∨(p<0∨5<p))with rfl|rfl|rfl|rfl|rfl|rfl|cc
   ·have f:dO k ⟨0,sym,a,c⟩=(sym.isEmpty&&decide (a=0)&&decide (c=0)):=rfl
    rw[f]at g m;have s:∀j,(bO ⟨0,sym,a,c⟩).count j=0:=fun j=>rfl;obtain⟨q,K,H⟩:=bH g m s;clear g m s f;rcases lk (sym=[])with h|h<;>rcases lk (a=0)with L|L<;>rcases lk (c=0)with x|x
    all_goals
     first|subst h|skip
     first|subst L|(have a1:(a==0)=false:=by rw[eu];exact L)
     first|subst x|(have aa:(c==0)=false:=by rw[eu];exact x)
     go_wp2_with fail
     first
      |(go_ret;exact⟨ck (q.o (by simp[*])).symm,hF.below⟩)
      |(go_roundw
        case rel=>exact⟨k+1,y,aV,ad,O,hF.back,K.o y (by simp[*]) (fun j=>by rw[H.o];rfl)⟩
        case measure=>simp[intOf];omega)
   ·have f:dO k ⟨1,sym,a,c⟩=(sym.isEmpty&&decide (a=0)&&decide (c=0)):=rfl
    rw[f]at g m;have s:∀j,(bO ⟨1,sym,a,c⟩).count j=0:=fun j=>rfl;obtain⟨q,K,H⟩:=bH g m s;clear g m s f;rcases lk (sym=[])with h|h<;>rcases lk (a=0)with L|L<;>rcases lk (c=0)with x|x
    all_goals
     first|subst h|skip
     first|subst L|(have a1:(a==0)=false:=by rw[eu];exact L)
     first|subst x|(have aa:(c==0)=false:=by rw[eu];exact x)
     go_wp2_with fail
     first
      |(go_ret;exact⟨ck (q.o (by simp[*])).symm,hF.below⟩)
      |(go_roundw
        case rel=>exact⟨k+1,y,aV,ad,O,hF.back,K.o y (by simp[*]) (fun j=>by rw[H.o];rfl)⟩
        case measure=>simp[intOf];omega)
   ·have f:dO k ⟨2,sym,a,c⟩=(decide (a=0)&&decide (c=0)):=rfl
    rw[f]at g m;have s:∀j,(bO ⟨2,sym,a,c⟩).count j=0:=fun j=>rfl;obtain⟨q,K,H⟩:=bH g m s;clear g m s f;rcases lk (sym=[])with h|h<;>rcases lk (a=0)with L|L<;>rcases lk (c=0)with x|x
    all_goals
     first|subst h|skip
     first|subst L|(have a1:(a==0)=false:=by rw[eu];exact L)
     first|subst x|(have aa:(c==0)=false:=by rw[eu];exact x)
     go_wp2_with fail
     first
      |(go_ret;exact⟨ck (q.o (by simp[*])).symm,hF.below⟩)
      |(go_roundw
        case rel=>exact⟨k+1,y,aV,ad,O,hF.back,K.o y (by simp[*]) (fun j=>by rw[H.o];rfl)⟩
        case measure=>simp[intOf];omega)
   ·have f:dO k ⟨3,sym,a,c⟩=(sym.isEmpty&&dy k a&&dy k c):=rfl
    rw[f]at g m;have s:∀j,(bO ⟨3,sym,a,c⟩).count j=[a.toNat,c.toNat].count j:=fun j=>rfl;obtain⟨q,K,H⟩:=bH g m s;clear g m s f;rcases lk (sym=[])with h|h
    ·subst h
     have d:=rZ hF a ad ad (fun j=>by have:=T.o j;omega);cases e:dy k a with
     |false=>
      rw[e]at d;have J:=ah e;clear e;go_wp2_with fail
      refine d.mono ?_;rintro G R ⟨rfl,r⟩;clear d;have z:=r.below
      go_wp2
      go_ret;exact⟨ck (q.o (by simp[J.o])).symm,z⟩
     |true=>
      rw[e]at d;simp only[iG]at d;have a5:=rY e;have J:=ah e;clear e;go_wp2_with fail
      refine d.mono ?_;rintro G R ⟨rfl,r⟩;clear d C D E F;obtain⟨C,D,E,F⟩:=r.cells;simp only at C D E F;have B:=rZ r c (by rw[jI];omega) (by rw[jI];omega) (fun j=>by have:=Cp T.o a.toNat j;omega);cases A:dy k c with
      |false=>
       rw[A]at B;have M:=ah A;clear A;go_wp2_with fail
       refine B.mono ?_;rintro G ao ⟨rfl,N⟩;clear B;have z:=N.below
       go_wp2
       go_ret;exact⟨ck (q.o (by simp[M.o])).symm,z⟩
      |true=>
       rw[A]at B;simp only[iG]at B;have bi:=rY A;have M:=ah A;clear A;go_wp2_with fail
       refine B.mono ?_;rintro G ao ⟨rfl,N⟩;clear B C D E F
       go_wp2
       go_roundw
       case rel=>exact⟨k+1,bump (bump y a.toNat) c.toNat,aV,ad,by rw[jI,jI];exact O,N.back,K.o _ (by simp[J.o,M.o]) (fun j=>by rw[H.o,rX (by rw[jI];omega),rX ad,show [a.toNat,c.toNat]=[a.toNat]++[c.toNat]from rfl,xG];omega)⟩
       case measure=>exact bh
    ·go_wp2_with fail
     go_ret;exact⟨ck (q.o (by simp[h])).symm,hF.below⟩
   ·have f:dO k ⟨4,sym,a,c⟩=(sym.isEmpty&&dy k a&&dy k c):=rfl
    rw[f]at g m;have s:∀j,(bO ⟨4,sym,a,c⟩).count j=[a.toNat,c.toNat].count j:=fun j=>rfl;obtain⟨q,K,H⟩:=bH g m s;clear g m s f;rcases lk (sym=[])with h|h
    ·subst h
     have d:=rZ hF a ad ad (fun j=>by have:=T.o j;omega);cases e:dy k a with
     |false=>
      rw[e]at d;have J:=ah e;clear e;go_wp2_with fail
      refine d.mono ?_;rintro G R ⟨rfl,r⟩;clear d;have z:=r.below
      go_wp2
      go_ret;exact⟨ck (q.o (by simp[J.o])).symm,z⟩
     |true=>
      rw[e]at d;simp only[iG]at d;have a5:=rY e;have J:=ah e;clear e;go_wp2_with fail
      refine d.mono ?_;rintro G R ⟨rfl,r⟩;clear d C D E F;obtain⟨C,D,E,F⟩:=r.cells;simp only at C D E F;have B:=rZ r c (by rw[jI];omega) (by rw[jI];omega) (fun j=>by have:=Cp T.o a.toNat j;omega);cases A:dy k c with
      |false=>
       rw[A]at B;have M:=ah A;clear A;go_wp2_with fail
       refine B.mono ?_;rintro G ao ⟨rfl,N⟩;clear B;have z:=N.below
       go_wp2
       go_ret;exact⟨ck (q.o (by simp[M.o])).symm,z⟩
      |true=>
       rw[A]at B;simp only[iG]at B;have bi:=rY A;have M:=ah A;clear A;go_wp2_with fail
       refine B.mono ?_;rintro G ao ⟨rfl,N⟩;clear B C D E F
       go_wp2
       go_roundw
       case rel=>exact⟨k+1,bump (bump y a.toNat) c.toNat,aV,ad,by rw[jI,jI];exact O,N.back,K.o _ (by simp[J.o,M.o]) (fun j=>by rw[H.o,rX (by rw[jI];omega),rX ad,show [a.toNat,c.toNat]=[a.toNat]++[c.toNat]from rfl,xG];omega)⟩
       case measure=>exact bh
    ·go_wp2_with fail
     go_ret;exact⟨ck (q.o (by simp[h])).symm,hF.below⟩
   ·have f:dO k ⟨5,sym,a,c⟩=(sym.isEmpty&&dy k a&&decide (c=0)):=rfl
    rw[f]at g m;have s:∀j,(bO ⟨5,sym,a,c⟩).count j=[a.toNat].count j:=fun j=>rfl;obtain⟨q,K,H⟩:=bH g m s;clear g m s f;rcases lk (sym=[])with h|h
    ·subst h
     have d:=rZ hF a ad ad (fun j=>by have:=T.o j;omega);cases e:dy k a with
     |false=>
      rw[e]at d;have J:=ah e;clear e;go_wp2_with fail
      refine d.mono ?_;rintro G R ⟨rfl,r⟩;clear d;have z:=r.below
      go_wp2
      go_ret;exact⟨ck (q.o (by simp[J.o])).symm,z⟩
     |true=>
      rw[e]at d;simp only[iG]at d;have a5:=rY e;have J:=ah e;clear e;rcases lk (c=0)with x|x
      ·subst x
       go_wp2_with fail
       refine d.mono ?_;rintro G R ⟨rfl,r⟩;clear d C D E F;obtain⟨C,D,E,F⟩:=r.cells;simp only at C D E F
       go_wp2
       go_roundw
       case rel=>exact⟨k+1,bump y a.toNat,aV,ad,by rw[jI];exact O,r.back,K.o _ (by simp[J.o]) (fun j=>by rw[H.o,rX ad])⟩
       case measure=>exact bh
      ·have aa:(c==0)=false:=by rw[eu];exact x
       go_wp2_with fail
       refine d.mono ?_;rintro G R ⟨rfl,r⟩;clear d C D E F;obtain⟨C,D,E,F⟩:=r.cells;simp only at C D E F;have z:=r.below
       go_wp2
       go_ret;exact⟨ck (q.o (by simp[x])).symm,z⟩
    ·go_wp2_with fail
     go_ret;exact⟨ck (q.o (by simp[h])).symm,hF.below⟩
   ·have f:dO k ⟨p,sym,a,c⟩=false:=by
     unfold dO;rw[au (by simp only;omega),au (by simp only;omega),au (by simp only;omega),au (by simp only;omega)]
    have I:=g f;have H:=ah I;clear g m f I;have b1:(p==0)=false:=gK;have ab:(p==1)=false:=gK;have b2:(p==2)=false:=gK;have b3:(p==3)=false:=gK;have b4:(p==4)=false:=gK;have b5:(p==5)=false:=gK
    go_wp2
    go_ret;exact⟨ck H.o.symm,hF.below⟩
  ·have bt:decide ((k:Int)<l.length)=false:=bK
   have bw:k=l.length:=ad;subst bw;obtain⟨ae,af⟩:=S.o;rw[kH]at ae;simp only[kH]at af;have ab:=bs wr (w.heap.size+1) 0 _ _ _ P.ub;have a2:∀j,j<l.length->wr.cell? ⟨w.heap.size,j,none⟩=some (.int .i64 ((cV l j:Nat):Int)):=fun j bu=>by rw[bs wr w.heap.size j _ _ _ P.uses,<-af j];simp[fp,aH (show j<y.length by omega)]
   obtain⟨bc,bb⟩:=aD a2 ae;have z:=P.below;simp only[gU,jZ]at ab;rw[O]at ab;clear ae af S a2 P
   go_wp2
   go_loop [80] (fun v=>∃j:Nat,v=.int .i64 j/\(j=0∨j+1<=l.length)/\Hid (∀i,i<j->cV l i=1)) (fun v=>l.length-(intOf v).toNat)
   case atStart=>exact⟨0,rfl,.inl rfl,fun i V=>ad⟩
   case round=>
    obtain⟨j,rfl,bu,av⟩:=hrel;by_cases b8:j+1<l.length
    ·have bq:decide ((j:Int)<l.length-1)=true:=bQ
     have a6:=bc.o j ad;have b7:(j:Int)<l.length:=ad;by_cases W:cV l j=1
     ·have ag:(((cV l j:Nat):Int) !=1)=false:=by rw[W];rfl
      have bd:Hid (∀i,i<j+1->cV l i=1):=by
       intro i V;by_cases G:i=j
       ·rw[G];exact W
       ·exact av.o i ad
      clear W;generalize cV l j=u at a6 ag
      go_wp2
      go_round
      case rel=>exact⟨j+1,aV,.inr ad,bd⟩
      case measure=>exact bh
     ·have ag:(((cV l j:Nat):Int) !=1)=true:=by rw[uj];omega
      have I:Z=false:=by
       rw[Y.o];unfold iu;rw[show(List.range (l.length-1)).all (fun j=>cV l j==1)=false from by rw[Bool.eq_false_iff,ne_eq,l4];intro bg;have:=bg j (gt.2 ad);simp at this;exact W this]
       simp
      have X:=ah I;clear W I;generalize cV l j=u at a6 ag
      go_wp2
      go_ret;exact⟨ck X.o.symm,z⟩
    ·have bq:decide ((j:Int)<l.length-1)=false:=bK
     have I:Z=decide (0<l.length):=by
      rw[Y.o];unfold iu;rw[bb.o,show(List.range (l.length-1)).all (fun j=>cV l j==1)=true from by rw[l4];intro i V;have:=av.o i (by have:=gt.1 V;omega);simpa using this]
      cases l with
      |nil=>rfl
      |cons n t=>simp
     have X:=ah I;clear I;by_cases a8:0<l.length
     ·have bo:decide ((l.length:Int)>0)=true:=bQ
      go_wp2
      go_ret;exact⟨ck (by rw[X.o];simpa using a8),z⟩
     ·have bo:decide ((l.length:Int)>0)=false:=bK
      go_wp2
      go_ret;exact⟨ck (by rw[X.o];simpa using a8),z⟩
theorem qu(l:List aj)(o:Option Addr)(cap:Nat)(w:World)(s:cO w o cap l)(T:∀n∈l,n.sym.length<=1048576):
 Calls prog 41 #[.agg #[.slice o l.length cap]] w fun m w'=>m=.returned (.int .i64 (bG l))/\Below w.heap.size w w':=by
 obtain⟨E,c⟩:=ar (bG l);rw[<-c];unfold bG at c;have al:=s.2.1;have O:=s.2.2.1;unfold maxLen at O;by_cases F:1024<l.length
 ·rw[ay F]at c
  have f:=ah c;have P:decide ((l.length:Int)>1024)=true:=bQ;clear c;go_enter func41,ntmps41
  go_wp2
  go_ret;exact⟨mZ f.o.symm,aG⟩
 ·rw[au F]at c
  have P:decide ((l.length:Int)>1024)=false:=bK;have h:Below w.heap.size w (w.alloc (.cells #[.slice o l.length cap] 51)):=aG;have G:=aB w (.cells #[.slice o l.length cap] 51);have J:(w.alloc (.cells #[.slice o l.length cap] 51)).heap.size=w.heap.size+1:=bj w _;have j:=Jp l o cap _ (s.below h) ad;cases i:iu l with
  |false=>
   rw[ay i]at c;rw[i]at j;have f:=ah c;clear c i J;go_enter func41,ntmps41
   go_wp2_with fail
   refine j.mono ?_;rintro m K ⟨rfl,p⟩;clear j;have z:=h.trans (p.mono h.size)
   go_wp2
   go_ret;exact⟨mZ f.o.symm,z⟩
  |true=>
   rw[au (by rw[i];simp)]at c;rw[i]at j;have f:=ah c;clear c i;go_enter func41,ntmps41
   go_wp2_with fail
   refine j.mono ?_;rintro m K ⟨rfl,p⟩;clear j;have z:=h.trans (p.mono h.size);have H:=(p.block w.heap.size ad).trans G;have ab:=bs K w.heap.size 0 _ _ _ H;clear G H h p J
   go_wp2
   go_loopw [16] (fun v wr=>∃k:Nat,v=.int .i64 k/\k<=l.length/\Below w.heap.size w wr/\Hid ((l.take k).any (fun n=>decide (n.op=2)&& !cH n.sym)=false)) (fun v _=>l.length-(intOf v).toNat)
   case atStart=>exact⟨0,rfl,aZ _,z,rfl⟩
   case round=>
    obtain⟨k,rfl,af,t,D⟩:=hrel;by_cases S:k<l.length
    ·have Q:decide ((k:Int)<l.length)=true:=bQ
     have ag:(k:Int)<l.length:=ad;obtain⟨n,r⟩:∃n,l[k]?=some n:=⟨_,aH S⟩;obtain⟨b,an,rfl,ae,W,X,Y,Z⟩:=(s.below t).at r;have e:(l.take (k+1)).any (fun n=>decide (n.op=2)&& !cH n.sym)=(decide (n.op=2)&& !cH n.sym):=by rw[bV,r,fF,uk,D.o];simp
     have I:=T n (aX r);have d:=fun w=>m9 ⟨n.sym.toArray⟩ w (by rw[dV];show n.sym.length<=_;omega);simp only at d;have g:(decide (n.op=2)&& !cH n.sym)=true->E=11:=fun R=>by rw[f.o,ay];rw[ir];exact⟨n,aX r,R⟩
     obtain⟨C,sym,a,N⟩:=n;simp only at W X Y Z e d g I;have q:=t.alloc t.size (.cells #[.int .i64 C,.string ⟨sym.toArray⟩,.int .i64 a,.int .i64 N] 102);clear r I;by_cases B:C=2
     ·subst B
      cases u:cH sym with
      |true=>
       rw[u]at d e;have x:=ah e;clear e g u;go_wp2_with fail
       refine(d _).mono ?_;rintro m V ⟨rfl,y⟩;clear d;have A:=q.trans (y.mono q.size)
       go_wp2
       go_roundw
       case rel=>exact⟨k+1,aV,ad,A,x.o⟩
       case measure=>exact bh
      |false=>
       rw[u]at d g;have M:=ah (g rfl);clear e g u;go_wp2_with fail
       refine(d _).mono ?_;rintro m V ⟨rfl,y⟩;clear d;have A:=q.trans (y.mono q.size)
       go_wp2
       go_ret;exact⟨mZ M.o.symm,A⟩
     ·have aa:(C==2)=false:=by rw[eu];exact B
      rw[l6 B]at e;have x:=ah e;clear e g d
      go_wp2
      go_roundw
      case rel=>exact⟨k+1,aV,ad,q,x.o⟩
      case measure=>exact bh
    ·have Q:decide ((k:Int)<l.length)=false:=bK
     have c:E=0:=by have:=D.o;rw[dh ad]at this;rw[f.o,au (by rw[this];simp)]
     have L:=ah c;clear c
     go_wp2
     go_ret;exact⟨mZ L.o.symm,t⟩
theorem Jq(l:List Bytes)(a b:Bytes):dd (l++[a,b])=if a=b then dd (l++[a])else dd (l++[a])++[b]:=by
 induction l with
 |nil=>
  simp only[mS,dd];by_cases c:a=b
  ·subst c;simp
  ·simp[c]
 |cons x t ih=>
  cases t with
  |nil=>
   simp only[jf,mS,dd];by_cases c:x=a<;>by_cases d:a=b<;>simp[c,d]
  |cons y e=>
   simp only[jf,dd]at ih⊢;by_cases c:x=y
   ·simp only[c,iG]at ih⊢;exact ih
   ·simp only[au c]
    rw[ih];split<;>simp
theorem Jr{d:Type}{l:List d}{k:Nat}{a b:d}(e:l[k]?=some a)(f:l[k+1]?=some b):l.take (k+2)=l.take k++[a,b]/\l.take (k+1)=l.take k++[a]:=by
 have c:l.take (k+1)=l.take k++[a]:=by rw[bV,e];rfl
 refine⟨?_,c⟩;rw[bV,f,c];simp
theorem Js(l:List Bytes):∀m,m<=l.length->Lib.compactUpTo l.toArray m=dd (l.take m):=by
 intro m;induction m with
 |zero=>intro _;simp[Lib.compactUpTo,dd]
 |succ m ih=>
  intro i;rw[Lib.compactUpTo_succ,ih ad];have d:l[m]?=some l[m]:=aH ad;have b:l.toArray[m]! =l[m]:=by simp[show m<l.length by omega]
  cases m with
  |zero=>
   rw[ay (Lib.keeps_lt_one _ 0 ad),b];rw[bV,d];simp[dd]
  |succ k=>
   have h:l[k]?=some l[k]:=aH ad;have c:l.toArray[k]! =l[k]:=by simp[show k<l.length by omega]
   obtain⟨f,g⟩:=Jr h d;rw[show k+1+1=k+2 from rfl,f,g,Jq,b];by_cases a:l[k]=l[k+1]
   ·rw[ay a,Lib.keeps_neg ad (by rw[b,show k+1-1=k from rfl,c];exact a.symm)]
    simp
   ·rw[au a,Lib.keeps_pos (by rw[b,show k+1-1=k from rfl,c];exact fun e=>a e.symm)]
    simp
theorem uS(l:List Bytes):Lib.compact l=dd l:=by
 show Lib.compactUpTo l.toArray l.length=_
 rw[Js l _ (az _),dh (az _)]
theorem mg{w:World}{b size n:Nat}{a:TypeId}{v:Value}{xs:List Value}(d:w.ownsRow b a size v n xs):∃o c,v=.slice o n c:=by
 rcases d.2 with⟨a,e⟩|⟨g,cap,h,f,_⟩
 ·exact⟨_,0,by rw[e];exact a⟩
 ·exact⟨_,_,f⟩
theorem Cs(w:World)(xs:List Value)(t n:Nat)(e:n=w.heap.size):∀j u,xs[j]?=some u->(w.alloc (.cells xs.toArray t)).cell? ((⟨n,0,none⟩:Addr).add j)=some u:=by
 intro j u d;subst e;have c:=bs (w.alloc (.cells xs.toArray t)) w.heap.size j _ _ _ (aB w _);have b:(⟨w.heap.size,0,none⟩:Addr).add j=⟨w.heap.size,j,none⟩:=by
  by_cases a:j=0
  ·subst a;simp[Addr.add]
  ·simp[Addr.add,a]
 rw[b,c];simpa using d
theorem qy:(prog.info? 9).map (fun i=>(i.zero,i.size,i.bytes))=some (some (.string ⟨#[]⟩),1,16):=aA
theorem Jv{l:List aj}{k:Nat}{n:aj}(a:l[k]?=some n):fB (l.take (k+1))=fB (l.take k)++(if n.op=2 then [n.sym]else []):=by unfold fB;rw[bV,a,fF,Ih];by_cases b:n.op=2<;>simp[b]
theorem uU(l:List aj):(fB l).length<=l.length:=List.length_filterMap_le _ _
def cn(w:World)(B:Nat)(v:Value)(a:List Bytes):Prop:=w.ownsRow B 9 1 v a.length (a.map encStr)
theorem Ct:bP=fun x y=>decide (x<=y):=rfl
def sr(l:List aj)(w:World)(a:Ending)(w':World):Prop:=(∃v,a=.returned v/\cn w' w.heap.size v (aI l))/\Below w.heap.size w w'
theorem Jw{w b:World}{l:List aj}{g cap f q:Nat}{os:Array Obj}{a ts:List Bytes}(v:cn b w.heap.size (.slice (some ⟨g,0,none⟩) a.length cap) a)(d:Below w.heap.size w b)(s:w.heap.size<=g)
 (y:ts=a.mergeSort bP) (p:aI l=Lib.compact ts):
 sr l w (.returned (.slice (some ⟨g,0,none⟩) (Lib.compact ts).length cap))
  (Sort.putRow encStr (Sort.ahead (Sort.grow (Sort.putRow encStr (Sort.ahead b f) g 0 ts.toArray) os) q) g 0 (Lib.compact ts++List.replicate (ts.length-(Lib.compact ts).length) []).toArray):=by
 have u:ts.length=a.length:=by rw[y];exact rG a
 have E:=AY ts;rcases v.2 with⟨h,_⟩|⟨C,A,B,z,c,r,i,m,o,D⟩
 ·cases h
 cases z
 have x:=ownsRow_sorted (n:=f) (os:=os) (ts:=ts) u c r i m o;have e:=Lib.ownsRow_putRow (q:=q) (k:=(Lib.compact ts).length) (ys:=Lib.compact ts++List.replicate (ts.length-(Lib.compact ts).length) []) x aR ad;rw[List.take_left]at e;exact⟨⟨_,rfl,by unfold cn;rw[p];exact e⟩,Lib.below_putRow (d.grown (grownBy_sorted _) d.size (fun j t=>by cases t;exact c)) s⟩
theorem uV(l:List aj)(o:Option Addr)(cap:Nat)(w:World)(A:cO w o cap l)(bb:∀n∈l,n.sym.length<=1048576):
 Calls prog 87 #[.agg #[.slice o l.length cap]] w (sr l w):=by
 obtain⟨bt,aa⟩:=ar (aI l);have bN:=A.2.1;have a3:=A.2.2.1;unfold maxLen at a3;have p:Below w.heap.size w (w.alloc (.cells #[.slice o l.length cap] 51)):=aG;have ab:=aB w (.cells #[.slice o l.length cap] 51);have u:=qu l o cap (w.alloc (.cells #[.slice o l.length cap] 51)) (A.below p) bb;have bc:(w.alloc (.cells #[.slice o l.length cap] 51)).heap.size=w.heap.size+1:=bj w _;obtain⟨E,e⟩:=ar (bG l);rw[<-e]at u;by_cases s:E=0
 ·have d:aI l=dd ((fB l).mergeSort bP):=by unfold aI;rw[ay (by rw[<-e];exact s)]
  have bE:l.length<=1024:=by apply ei;intro L;unfold bG at e;rw[ay ad,s]at e;cases e
  subst s;have x:=ah d;clear e d aa;obtain⟨bg,a7,bd,be,bf⟩:=cY qy;go_enter func87,ntmps87
  go_wp2_with fail
  refine u.mono ?_;rintro j av ⟨rfl,t⟩;clear u;have K:=p.trans (t.mono p.size);have ae:=(t.block w.heap.size ad).trans ab;have bz:=bs av w.heap.size 0 _ _ _ ae;clear ab ae p t bc
  go_wp2
  go_loopw [3,12] (fun v i wr=>∃k:Nat,i=.int .i64 k/\k<=l.length/\cn wr w.heap.size v (fB (l.take k))/\Below w.heap.size w wr) (fun _ i _=>l.length-(intOf i).toNat)
  case atStart=>exact⟨0,rfl,aZ _,dc _ _ _ _,K⟩
  case round=>
   obtain⟨k,rfl,bC,c,m⟩:=hrel;by_cases a8:k<l.length
   ·have a4:decide ((k:Int)<l.length)=true:=bQ
    have bD:(k:Int)<l.length:=ad;obtain⟨n,R⟩:∃n,l[k]?=some n:=⟨_,aH a8⟩;obtain⟨b,b2,rfl,bA,bi,bl,bo,bq⟩:=(A.below m).at R;have f:=Jv R;have B:=uU (l.take k);rw[fm]at B;obtain⟨D,sym,a,Y⟩:=n;simp only at bi bl bo bq f;have J:=m.alloc m.size (.cells #[.int .i64 D,.string ⟨sym.toArray⟩,.int .i64 a,.int .i64 Y] 102);obtain⟨h,r⟩:=ar (fB (l.take k));rw[<-r]at c B f;have P:cn (wr.alloc (.cells #[.int .i64 D,.string ⟨sym.toArray⟩,.int .i64 a,.int .i64 Y] 102)) w.heap.size u3 h:=f9 c _;clear R;by_cases O:D=2
    ·subst O
     rw[ay rfl]at f;have G:=ah f;clear f r;go_wp2_with(first
      |(at_builtin;go_must (refine jh _ rfl _ _ 48 rfl w.heap.size 9 bg (.string ⟨#[]⟩) 1 16 mT a7 bd be bf rfl ap _ _ _ rfl (f9 P _) ⟨wr.heap.size+1,0,none⟩ 1 1 [.string ⟨sym.toArray⟩] rfl rfl (Cs _ [.string ⟨sym.toArray⟩] _ _ ak) (fun z ao=>by simp at ao;subst ao;rfl) bI ad (by have:=m.size;simp;omega) ?_);intro b3 F ba a6 b1)
      |go_in)
     go_roundw
     case rel=>exact⟨k+1,aV,ad,by rw[G.o];unfold cn;simpa using ba,((J.alloc J.size _).grown a6 (by have:=m.size;simp;omega) (fun k j=>(dC P k j).1))⟩
     case measure=>exact bh
    ·have bu:(D==2)=false:=by rw[eu];exact O
     rw[au O,xI]at f;have G:=ah f;clear f r
     go_wp2
     go_roundw
     case rel=>exact⟨k+1,aV,ad,by rw[G.o];exact P,J⟩
     case measure=>exact bh
   ·have a4:decide ((k:Int)<l.length)=false:=bK
    rw[dh ad]at c;have B:=uU l;obtain⟨h,r⟩:=ar (fB l);have d:=x.o;rw[<-r]at c B d;have V:=ah d;clear d r x;have y:h.length=0∨0<h.length:=ad;rcases y with y|y
    ·obtain rfl:=qi y
     obtain⟨T,S,rfl⟩:=mg c;have a0:([]:List Bytes).length=0:=rfl;rw[a0]at c;have al:=Tc T S wr;have L:=Td T S wr;go_wp2_with fail
     refine al.mono ?_;rintro j F ⟨rfl,rfl⟩;clear al;go_wp2_with fail
     refine L.mono ?_;rintro j F ⟨rfl,rfl⟩;clear L
     go_wp2
     go_ret;have a1:dd (([]:List Bytes).mergeSort bP)=[]:=by simp[dd]
     exact⟨⟨.slice T 0 S,rfl,by rw[V.o,a1];exact c⟩,m⟩
    ·have ag:u3≠ .slice none 0 0:=by
      intro a5;rcases c.2 with⟨_,bZ⟩|⟨g,H,bw,an,_⟩
      ·omega
      ·rw[a5]at an;cases an
     obtain⟨g,H,rfl,a2,af,a9,bB,bF,I⟩:=Ii c ag;have Q:=slices_Sort_string g 0 H h wr I af ad;have X:=ah (And.intro c (And.intro I a9));clear c I ag;obtain⟨ts,C⟩:=ar (h.mergeSort bP);have N:ts.length=h.length:=by rw[C];exact rG h
     rw[<-Ct,<-C]at Q;have W:=ah C;clear C;go_wp2_with fail
     refine Q.mono ?_;rintro j F ⟨rfl,aq,os,rfl⟩;clear Q;have Z:Sort.Holds encStr (Sort.grow (Sort.putRow encStr (Sort.ahead wr aq) g 0 ts.toArray) os) g 0 ts.toArray:=
      Sort.holds_grow encStr _ os g 0 _ (by simpa[Sort.putRow,Sort.mapBlock,Sort.ahead]using af) (Sort.holds_putRow encStr _ g 0 _ _ (Sort.holds_ahead encStr wr aq g 0 _ X.out.2.1) (by simp[N]))
     have M:=slices_Compact_string g 0 H ts _ Z ad ad;rw[N]at M;clear Z;go_wp2_with fail
     refine M.mono ?_;rintro j F ⟨rfl,q,rfl⟩;clear M
     go_wp2
     go_ret;rw[<-N];exact Jw X.out.1 m a2 W.o (by rw[V.o,uS,W.o])
 ·have b0:(E==0)=false:=by rw[eu];exact s
  have d:aI l=[]:=by unfold aI;rw[au (by rw[<-e];exact s)]
  have x:=ah d;clear e d aa;go_enter func87,ntmps87
  go_wp2_with fail
  refine u.mono ?_;rintro j av ⟨rfl,t⟩;clear u;have K:=p.trans (t.mono p.size)
  go_wp2
  go_ret;exact⟨⟨_,rfl,by rw[x.o];exact dc _ _ _ _⟩,K⟩
structure am where
 t:aw
 ao:Option Addr
 ac:Nat
 no:Option Addr
 nc:Nat
def typeRow(x:am):List Value:=[.string ⟨x.t.name.toArray⟩,.string ⟨x.t.label.toArray⟩,.slice x.ao x.t.attrs.length x.ac,.string ⟨x.t.key.toArray⟩,.bool x.t.text,.slice x.no x.t.nodes.length x.nc]
def dT(x:am):Value:=.agg (typeRow x).toArray
def dZ(w:World)(o:Option Addr)(cap:Nat)(l:List Bytes):Prop:=dp w o l.length cap 1 (l.map encStr)
theorem dZ.below{w w':World}{o:Option Addr}{cap:Nat}{l:List Bytes}(a:dZ w o cap l)(b:Below w.heap.size w w'):dZ w' o cap l:=dp.below a b
theorem dZ.at{w:World}{o:Option Addr}{cap:Nat}{l:List Bytes}(e:dZ w o cap l){k:Nat}{b:Bytes}(c:l[k]?=some b):
 ∃g a,o=some ⟨g,a,none⟩/\g<w.heap.size/\w.cell? ⟨g,a+k,none⟩=some (.string ⟨b.toArray⟩):=by
 have i:=(aL.1 c).1;obtain⟨g,a,d,h,f⟩:=e.2.2.2 ad;exact⟨g,a,d,h,f k _ (by rw[bW,c];rfl)⟩
def bR(w:World)(o:Option Addr)(cap:Nat)(l:List am):Prop:=
 dp w o l.length cap 6 (l.flatMap typeRow)/\∀x∈l,dZ w x.ao x.ac x.t.attrs/\cO w x.no x.nc x.t.nodes
theorem bR.below{w w':World}{o:Option Addr}{cap:Nat}{l:List am}(a:bR w o cap l)(b:Below w.heap.size w w'):bR w' o cap l:=
 ⟨a.1.below b,fun x c=>⟨(a.2 x c).1.below b,(a.2 x c).2.below b⟩⟩
theorem bR.at{w:World}{o:Option Addr}{cap:Nat}{l:List am}(h:bR w o cap l){k:Nat}{x:am}(e:l[k]?=some x):
 ∃b a,o=some ⟨b,a,none⟩/\b<w.heap.size/\w.cell? ⟨b,a+k*6,none⟩=some (.string ⟨x.t.name.toArray⟩)/\w.cell? ⟨b,a+k*6+1,none⟩=some (.string ⟨x.t.label.toArray⟩)/\
  w.cell? ⟨b,a+k*6+2,none⟩=some (.slice x.ao x.t.attrs.length x.ac)/\w.cell? ⟨b,a+k*6+3,none⟩=some (.string ⟨x.t.key.toArray⟩)/\w.cell? ⟨b,a+k*6+4,none⟩=some (.bool x.t.text)/\
  w.cell? ⟨b,a+k*6+5,none⟩=some (.slice x.no x.t.nodes.length x.nc):=by
 have j:=(aL.1 e).1;obtain⟨b,a,g,i,c⟩:=h.1.2.2.2 ad;have d:=lu (f:=typeRow) 6 (fun _=>rfl) e;refine⟨b,a,g,i,?_,?_,?_,?_,?_,?_⟩
 ·exact c (k*6) _ ((d 0 ad).trans rfl)
 ·have:=c (k*6+1) _ ((d 1 ad).trans rfl);rwa[<-iE]at this
 ·have:=c (k*6+2) _ ((d 2 ad).trans rfl);rwa[<-iE]at this
 ·have:=c (k*6+3) _ ((d 3 ad).trans rfl);rwa[<-iE]at this
 ·have:=c (k*6+4) _ ((d 4 ad).trans rfl);rwa[<-iE]at this
 ·have:=c (k*6+5) _ ((d 5 ad).trans rfl);rwa[<-iE]at this
end Go.Proofs.YtnadadbndcdolaaGreatDoor
