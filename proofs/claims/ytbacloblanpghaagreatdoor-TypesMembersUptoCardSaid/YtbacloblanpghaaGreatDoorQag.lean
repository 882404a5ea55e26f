import Derived.Test.YtbacloblanpghaaGreatDoorQae
import Derived.Test.YtbacloblanpghaaGreatDoorQaf
set_option linter.unusedVariables false
set_option linter.unusedSimpArgs false
set_option maxRecDepth 100000
set_option maxHeartbeats 0
namespace Go.Proofs.YtbacloblanpghaaGreatDoor
open Go.RowKit Tryz
theorem Gc(x:Int)(i:Nat)(b d:Nat)(w:World)(g:w.cell? ⟨b,0,none⟩=some (.int .i64 (i:Int)))(a:bM i x=false):
 Calls prog 256 #[.int .i64 x,.pointer (some ⟨b,0,none⟩),.pointer (some ⟨d,0,none⟩)] w fun e w'=>e=.returned (.bool false)/\w=w':=by
 unfold bM at a;rcases(by by_cases c:x<0<;>simp at a<;>omega:x<0∨(0<=x/\(i:Int)<=x))with c|⟨c,f⟩
 all_goals
  clear a;go_enter func256,ntmps256
  go_wp2
  go_ret;exact⟨rfl,rfl⟩
theorem Gd(x i n a b U:Nat)(u:Int)(w:World)(h:w.cell? ⟨a,0,none⟩=some (.int .i64 (i:Int)))(r:x<i)(j:i<=n)(l:n<=1024)
 (q:w.cell? ⟨b,0,none⟩=some (.slice (some ⟨U,0,none⟩) n n)) (m:w.cell? ⟨U,x,none⟩=some (.int .i64 u)) (o:0<=u) (p:u<=4096) (g:w.frozen? ⟨U,x,none⟩=false):
 Calls prog 256 #[.int .i64 (x:Int),.pointer (some ⟨a,0,none⟩),.pointer (some ⟨b,0,none⟩)] w fun c w'=>c=.returned (.bool true)/\w'=w.setCell ⟨U,x,none⟩ (.int .i64 (u+1)):=by
 have d:(0:Int)<=x:=ad;have e:(x:Int)<i:=ad;have f:(x:Int)<n:=ad;go_enter func256,ntmps256
 go_wp2
 go_ret;exact⟨rfl,rfl⟩
theorem lu:(prog.info? 3).map (fun i=>(i.zero,i.size,i.bytes))=some (some (.int .i64 0),1,8):=ay
def oB(w:World)(U:Nat)(a:List Nat):Prop:=w.heap[U]?=some (.cells (a.map fun u=>Value.int .i64 (u:Nat)).toArray 3 (0,0))
def bump(a:List Nat)(x:Nat):List Nat:=a.set x (a.getD x 0+1)
theorem gK(a:List Nat)(x:Nat):(bump a x).length=a.length:=by simp[bump]
theorem Am(a:List Nat)(x j:Nat)(c:j<a.length):(bump a x).getD j 0=a.getD j 0+if x=j then 1 else 0:=by
 unfold bump;simp only[fJ,List.getElem?_set];by_cases b:x=j
 ·subst b;simp[c]
 ·simp[b]
theorem bL(w:World)(U x:Nat)(v:Value){cs:Array Value}{t:Nat}{a:Nat×Nat}(b:w.heap[U]?=some (.cells cs t a)):(w.setCell ⟨U,x,none⟩ v).heap[U]?=some (.cells (cs.setIfInBounds x v) t a):=by
 have c:=aN b;have d:w.heap[U]=.cells cs t a:=by simpa[mU c]using b
 show(w.heap.modify U _)[U]?=_
 rw[mU (by simpa using c),vu,d];rfl
theorem aX(w:World)(U x k:Nat)(v:Value)(b:k≠U):(w.setCell ⟨U,x,none⟩ v).heap[k]?=w.heap[k]?:=eG _ _ _ _ (fun a=>b (by rw[a]))
theorem oB.bump{w:World}{U:Nat}{a:List Nat}(b:oB w U a){x:Nat}(c:x<a.length):oB (w.setCell ⟨U,x,none⟩ (.int .i64 ((a.getD x 0:Nat)+1:Int))) U (bump a x):=by
 unfold oB at*;rw[bL w U x _ b];congr 2
 unfold Go.Proofs.YtbacloblanpghaaGreatDoor.bump;rw[bp,zc];rfl
theorem An{a:List Nat}{m:Nat}(b:∀j,a.getD j 0<=m)(x:Nat):∀j,(bump a x).getD j 0<=m+1:=by
 intro j;by_cases c:j<a.length
 ·rw[Am a x j c];have:=b j;split<;>omega
 ·rw[fJ,mV (by rw[gK];omega)];simp
theorem mj{a:List Nat}{x:Nat}(e:x<a.length)(j:Nat):(bump a x).getD j 0=a.getD j 0+[x].count j:=by
 by_cases c:j<a.length
 ·rw[Am a x j c]
  by_cases b:x=j
  ·subst b;simp
  ·simp[b]
 ·have d:¬x=j:=ad
  rw[fJ,fJ,mV (by rw[gK];omega),mV ad];simp[d]
theorem qZ{i:Nat}{x:Int}(a:bM i x=true):x.toNat<i:=by unfold bM at a;simp at a;omega
structure lv(U I:Nat)(n:ar)(i:Nat)(us:List Nat)(w0 w:World):Prop where
 uses:oB w U us
 ub:w.heap[U+1]?=some (.cells #[.slice (some ⟨U,0,none⟩) us.length us.length] 53 (0,0))
 ib:w.heap[I]?=some (.cells #[.int .i64 (i:Int)] 3 (0,0))
 nb:w.heap[I+1]?=some (.cells (nodeRow n).toArray 140 (0,0))
 below:Below w0.heap.size w0 w
 U0:w0.heap.size<=U
 UI:U+1<I
theorem lv.bump{U b i:Nat}{n:ar}{c:List Nat}{w0 w:World}(a:lv U b n i c w0 w){x:Nat}(e:x<c.length):lv U b n i (bump c x) w0 (w.setCell ⟨U,x,none⟩ (.int .i64 ((c.getD x 0:Nat)+1:Int))):=by have d:=a.UI;refine⟨a.uses.bump e,?_,(aX w U x b _ ad).trans a.ib,(aX w U x (b+1) _ ad).trans a.nb,a.below.setCell a.U0 _,a.U0,d⟩;rw[gK];exact(aX w U x (U+1) _ ad).trans a.ub
theorem q6{U b i:Nat}{n:ar}{a:List Nat}{w0 w:World}(c:lv U b n i a w0 w)(x:Int)(m:i<=a.length)(o:a.length<=1024)(p:∀j,a.getD j 0<=4096):
 Calls prog 256 #[.int .i64 x,.pointer (some ⟨b,0,none⟩),.pointer (some ⟨U+1,0,none⟩)] w fun d w'=>d=.returned (.bool (bM i x))/\lv U b n i (if bM i x=true then bump a x.toNat else a) w0 w':=by
 cases e:bM i x with
 |false=>
  refine(Gc x i b (U+1) w (aZ w b 0 _ _ _ c.ib) e).mono ?_;rintro d w' ⟨rfl,rfl⟩;exact⟨rfl,by simpa using c⟩
 |true=>
  have f:=e;unfold bM at f;simp at f;obtain⟨y,rfl⟩:∃y:Nat,x=y:=⟨x.toNat,ad⟩;have g:y<a.length:=ad;have h:w.cell? ⟨U,y,none⟩=some (.int .i64 ((a.getD y 0:Nat):Int)):=by rw[aZ w U y _ _ _ c.uses];simp[fJ,aF g]
  refine(Gd y i a.length b (U+1) U (a.getD y 0:Nat) w (aZ w b 0 _ _ _ c.ib) ad m o (aZ w (U+1) 0 _ _ _ c.ub) h ad (by have:=p y;omega) (by have l:w.heap[U]?=_:=c.uses;simp[World.frozen?,l])).mono ?_;rintro d w' ⟨rfl,rfl⟩;exact⟨rfl,by simpa using c.bump g⟩
theorem Ao(l:List ar)(j:Nat):cY l j<=2*l.length:=by
 unfold cY;refine aR vw ?_;induction l with
 |nil=>simp
 |cons n t ih=>
  rw[Fa,cm,de];have:(bU n).length<=2:=by unfold bU;split<;>(try split)<;>simp
  omega
theorem Ap(n:Nat):madeCells #[Value.int .i64 0] n=((List.replicate n 0).map fun u=>Value.int .i64 ((u:Nat):Int)).toArray:=by
 unfold madeCells;apply Array.ext
 ·simp
 ·intro i a b
  simp[Nat.mod_one]
structure q7(U:Nat)(us:List Nat)(w0 w:World):Prop where
 uses:oB w U us
 ub:w.heap[U+1]?=some (.cells #[.slice (some ⟨U,0,none⟩) us.length us.length] 53 (0,0))
 below:Below w0.heap.size w0 w
 U0:w0.heap.size<=U
theorem q7.node{U:Nat}{e:List Nat}{w0 w:World}(a:q7 U e w0 w)(n:ar)(i:Nat):lv U w.heap.size n i e w0 ((w.alloc (.cells #[.int .i64 (i:Int)] 3)).alloc (.cells #[.int .i64 n.op,.string ⟨n.sym.toArray⟩,.int .i64 n.a,.int .i64 n.b] 140)):=by have b:Below w.heap.size w ((w.alloc (.cells #[.int .i64 (i:Int)] 3)).alloc (.cells #[.int .i64 n.op,.string ⟨n.sym.toArray⟩,.int .i64 n.a,.int .i64 n.b] 140)):=az.alloc (by rw[bI];omega) _;have d:=aN a.ub;have f:(w.alloc (.cells #[.int .i64 (i:Int)] 3)).heap[w.heap.size]?=_:=aC w (.cells #[.int .i64 (i:Int)] 3);have c:=aC (w.alloc (.cells #[.int .i64 (i:Int)] 3)) (.cells #[.int .i64 n.op,.string ⟨n.sym.toArray⟩,.int .i64 n.a,.int .i64 n.b] 140);rw[bI]at c;refine⟨(b.block U ad).trans a.uses,(b.block (U+1) d).trans a.ub,?_,c,a.below.trans (b.mono a.below.size),a.U0,d⟩;exact(((aA (w.heap.size+1) (w.alloc (.cells #[.int .i64 (i:Int)] 3))).alloc (by rw[bI];omega) _).block _ ad).trans f
theorem lv.cells{U a i:Nat}{n:ar}{c:List Nat}{w0 w:World}(b:lv U a n i c w0 w):w.cell? ⟨a+1,0,none⟩=some (.int .i64 n.op)/\w.cell? ⟨a+1,1,none⟩=some (.string ⟨n.sym.toArray⟩)/\w.cell? ⟨a+1,2,none⟩=some (.int .i64 n.a)/\w.cell? ⟨a+1,3,none⟩=some (.int .i64 n.b):=
 ⟨aZ w (a+1) 0 _ _ _ b.nb,aZ w (a+1) 1 _ _ _ b.nb,aZ w (a+1) 2 _ _ _ b.nb,aZ w (a+1) 3 _ _ _ b.nb⟩
theorem lv.back{U c i:Nat}{n:ar}{b:List Nat}{w0 w:World}(a:lv U c n i b w0 w):q7 U b w0 w:=⟨a.uses,a.ub,a.below,a.U0⟩
theorem Ge(l:List ar)(o:Option Addr)(cap:Nat)(w:World)(be:di w o cap l)(ci:l.length<=1024):
 Calls prog 218 #[.slice o l.length cap] w fun G w'=>G=.returned (.bool (gi l))/\Below w.heap.size w w':=by
 obtain⟨Y,I⟩:=aj (gi l);rw[<-I];have X:=ah I;clear I;obtain⟨bE,T,bz,bA,bB⟩:=cL lu;have a9:=Ap l.length;have av:=ah a9;clear a9;go_enter func218,ntmps218
 go_wp2_with(first
  |(at_make;go_must (refine wpList_make_row _ rfl _ _ _ rfl 3 bE (.int .i64 0) ke T bz bA rfl _ _ l.length rfl rfl (by rw[bB];omega) ad ?_)))
 rw[av.o];have a3:q7 w.heap.size (List.replicate l.length 0) w ((w.alloc (.cells ((List.replicate l.length 0).map fun u=>Value.int .i64 ((u:Nat):Int)).toArray 3)).alloc (.cells #[.slice (some ⟨w.heap.size,0,none⟩) l.length l.length] 53)):=by have bf:=aC w (.cells ((List.replicate l.length 0).map fun u=>Value.int .i64 ((u:Nat):Int)).toArray 3);have a2:=aC (w.alloc (.cells ((List.replicate l.length 0).map fun u=>Value.int .i64 ((u:Nat):Int)).toArray 3)) (.cells #[.slice (some ⟨w.heap.size,0,none⟩) l.length l.length] 53);rw[bI]at a2;refine⟨?_,by rw[Fe];exact a2,az.alloc (by rw[bI];omega) _,aB _⟩;exact(((aA (w.heap.size+1) (w.alloc _)).alloc (by rw[bI];omega) _).block _ ad).trans bf
 clear av;have a6:∀j,(List.replicate l.length 0).getD j 0=cY (l.take 0) j:=by
  intro j;have:cY (l.take 0) j=0:=by simp[cY]
  rw[this,fJ,ze];split<;>rfl
 have ao:=ah a6;clear a6;go_loopw [14] (fun i wr=>∃(k:Nat) (y:List Nat),i=.int .i64 k/\k<=l.length/\y.length=l.length/\q7 w.heap.size y w wr/\Hid (dW 0 (l.take k)=true/\∀j,y.getD j 0=cY (l.take k) j)) (fun i _=>l.length-(intOf i).toNat)
 case atStart=>exact⟨0,List.replicate l.length 0,rfl,aK _,Fe,a3,rfl,ao.o⟩
 case round=>
  obtain⟨k,y,rfl,ce,O,P,R⟩:=hrel;clear a3 ao;by_cases bw:k<l.length
  ·have bq:decide ((k:Int)<l.length)=true:=aM
   have ch:(k:Int)<l.length:=ad;obtain⟨n,Q⟩:∃n,l[k]?=some n:=⟨_,aF bw⟩;obtain⟨b,co,rfl,b8,bF,bZ,b0,b1⟩:=(be.below (P.below)).at Q;have hF:=P.node n k;have ba:∀j,y.getD j 0<=2048:=fun j=>by rw[R.o.2];have:=Ao (l.take k) j;rw[dx]at this;omega
   have S:=ah ba;clear ba;obtain⟨p,sym,a,c⟩:=n;simp only at bF bZ b0 b1;have g:dG k ⟨p,sym,a,c⟩=false->Y=false:=fun ag=>by rw[X.o];exact vR Q ag
   have m:∀al:List Nat,dG k ⟨p,sym,a,c⟩=true->(∀j,al.getD j 0=y.getD j 0+(bU ⟨p,sym,a,c⟩).count j)->dW 0 (l.take (k+1))=true/\∀j,al.getD j 0=cY (l.take (k+1)) j:=by intro al ag bl;refine⟨by rw[vQ Q,R.o.1,ag];rfl,fun j=> ?_⟩;rw[bl,qY Q,R.o.2]
   have b2:=ah Q;clear Q;obtain⟨C,D,E,F⟩:=hF.cells;simp only at C D E F;rcases(ad:p=0∨p=1∨p=2∨p=3∨p=4∨p=5∨(p<0∨5<p))with rfl|rfl|rfl|rfl|rfl|rfl|cl
   ·have f:dG k ⟨0,sym,a,c⟩=(sym.isEmpty&&decide (a=0)&&decide (c=0)):=rfl
    rw[f]at g m;have s:∀j,(bU ⟨0,sym,a,c⟩).count j=0:=fun j=>rfl;obtain⟨q,K,H⟩:=bO g m s;clear g m s f;rcases fK (sym=[])with h|h<;>rcases fK (a=0)with L|L<;>rcases fK (c=0)with x|x
    all_goals
     first|subst h|skip
     first|subst L|(have a0:(a==0)=false:=by rw[cW];exact L)
     first|subst x|(have Z:(c==0)=false:=by rw[cW];exact x)
     go_wp2_with fail
     first
      |(go_ret;exact⟨bC (q.o (by simp[*])).symm,hF.below⟩)
      |(go_roundw
        case rel=>exact⟨k+1,y,aG,ad,O,hF.back,K.o y (by simp[*]) (fun j=>by rw[H.o];rfl)⟩
        case measure=>simp[intOf];omega)
   ·have f:dG k ⟨1,sym,a,c⟩=(sym.isEmpty&&decide (a=0)&&decide (c=0)):=rfl
    rw[f]at g m;have s:∀j,(bU ⟨1,sym,a,c⟩).count j=0:=fun j=>rfl;obtain⟨q,K,H⟩:=bO g m s;clear g m s f;rcases fK (sym=[])with h|h<;>rcases fK (a=0)with L|L<;>rcases fK (c=0)with x|x
    all_goals
     first|subst h|skip
     first|subst L|(have a0:(a==0)=false:=by rw[cW];exact L)
     first|subst x|(have Z:(c==0)=false:=by rw[cW];exact x)
     go_wp2_with fail
     first
      |(go_ret;exact⟨bC (q.o (by simp[*])).symm,hF.below⟩)
      |(go_roundw
        case rel=>exact⟨k+1,y,aG,ad,O,hF.back,K.o y (by simp[*]) (fun j=>by rw[H.o];rfl)⟩
        case measure=>simp[intOf];omega)
   ·have f:dG k ⟨2,sym,a,c⟩=(decide (a=0)&&decide (c=0)):=rfl
    rw[f]at g m;have s:∀j,(bU ⟨2,sym,a,c⟩).count j=0:=fun j=>rfl;obtain⟨q,K,H⟩:=bO g m s;clear g m s f;rcases fK (sym=[])with h|h<;>rcases fK (a=0)with L|L<;>rcases fK (c=0)with x|x
    all_goals
     first|subst h|skip
     first|subst L|(have a0:(a==0)=false:=by rw[cW];exact L)
     first|subst x|(have Z:(c==0)=false:=by rw[cW];exact x)
     go_wp2_with fail
     first
      |(go_ret;exact⟨bC (q.o (by simp[*])).symm,hF.below⟩)
      |(go_roundw
        case rel=>exact⟨k+1,y,aG,ad,O,hF.back,K.o y (by simp[*]) (fun j=>by rw[H.o];rfl)⟩
        case measure=>simp[intOf];omega)
   ·have f:dG k ⟨3,sym,a,c⟩=(sym.isEmpty&&bM k a&&bM k c):=rfl
    rw[f]at g m;have s:∀j,(bU ⟨3,sym,a,c⟩).count j=[a.toNat,c.toNat].count j:=fun j=>rfl;obtain⟨q,K,H⟩:=bO g m s;clear g m s f;rcases fK (sym=[])with h|h
    ·subst h
     have d:=q6 hF a ad ad (fun j=>by have:=S.o j;omega);cases e:bM k a with
     |false=>
      rw[e]at d;have J:=ah e;clear e;go_wp2_with fail
      refine d.mono ?_;rintro G w1 ⟨rfl,r⟩;clear d;have z:=r.below
      go_wp2
      go_ret;exact⟨bC (q.o (by simp[J.o])).symm,z⟩
     |true=>
      rw[e]at d;simp only[kf]at d;have a4:=qZ e;have J:=ah e;clear e;go_wp2_with fail
      refine d.mono ?_;rintro G w1 ⟨rfl,r⟩;clear d C D E F;obtain⟨C,D,E,F⟩:=r.cells;simp only at C D E F;have B:=q6 r c (by rw[gK];omega) (by rw[gK];omega) (fun j=>by have:=An S.o a.toNat j;omega);cases A:bM k c with
      |false=>
       rw[A]at B;have M:=ah A;clear A;go_wp2_with fail
       refine B.mono ?_;rintro G an ⟨rfl,N⟩;clear B;have z:=N.below
       go_wp2
       go_ret;exact⟨bC (q.o (by simp[M.o])).symm,z⟩
      |true=>
       rw[A]at B;simp only[kf]at B;have bi:=qZ A;have M:=ah A;clear A;go_wp2_with fail
       refine B.mono ?_;rintro G an ⟨rfl,N⟩;clear B C D E F
       go_wp2
       go_roundw
       case rel=>exact⟨k+1,bump (bump y a.toNat) c.toNat,aG,ad,by rw[gK,gK];exact O,N.back,K.o _ (by simp[J.o,M.o]) (fun j=>by rw[H.o,mj (by rw[gK];omega),mj ad,show [a.toNat,c.toNat]=[a.toNat]++[c.toNat]from rfl,pF];omega)⟩
       case measure=>exact aH
    ·go_wp2_with fail
     go_ret;exact⟨bC (q.o (by simp[h])).symm,hF.below⟩
   ·have f:dG k ⟨4,sym,a,c⟩=(sym.isEmpty&&bM k a&&bM k c):=rfl
    rw[f]at g m;have s:∀j,(bU ⟨4,sym,a,c⟩).count j=[a.toNat,c.toNat].count j:=fun j=>rfl;obtain⟨q,K,H⟩:=bO g m s;clear g m s f;rcases fK (sym=[])with h|h
    ·subst h
     have d:=q6 hF a ad ad (fun j=>by have:=S.o j;omega);cases e:bM k a with
     |false=>
      rw[e]at d;have J:=ah e;clear e;go_wp2_with fail
      refine d.mono ?_;rintro G w1 ⟨rfl,r⟩;clear d;have z:=r.below
      go_wp2
      go_ret;exact⟨bC (q.o (by simp[J.o])).symm,z⟩
     |true=>
      rw[e]at d;simp only[kf]at d;have a4:=qZ e;have J:=ah e;clear e;go_wp2_with fail
      refine d.mono ?_;rintro G w1 ⟨rfl,r⟩;clear d C D E F;obtain⟨C,D,E,F⟩:=r.cells;simp only at C D E F;have B:=q6 r c (by rw[gK];omega) (by rw[gK];omega) (fun j=>by have:=An S.o a.toNat j;omega);cases A:bM k c with
      |false=>
       rw[A]at B;have M:=ah A;clear A;go_wp2_with fail
       refine B.mono ?_;rintro G an ⟨rfl,N⟩;clear B;have z:=N.below
       go_wp2
       go_ret;exact⟨bC (q.o (by simp[M.o])).symm,z⟩
      |true=>
       rw[A]at B;simp only[kf]at B;have bi:=qZ A;have M:=ah A;clear A;go_wp2_with fail
       refine B.mono ?_;rintro G an ⟨rfl,N⟩;clear B C D E F
       go_wp2
       go_roundw
       case rel=>exact⟨k+1,bump (bump y a.toNat) c.toNat,aG,ad,by rw[gK,gK];exact O,N.back,K.o _ (by simp[J.o,M.o]) (fun j=>by rw[H.o,mj (by rw[gK];omega),mj ad,show [a.toNat,c.toNat]=[a.toNat]++[c.toNat]from rfl,pF];omega)⟩
       case measure=>exact aH
    ·go_wp2_with fail
     go_ret;exact⟨bC (q.o (by simp[h])).symm,hF.below⟩
   ·have f:dG k ⟨5,sym,a,c⟩=(sym.isEmpty&&bM k a&&decide (c=0)):=rfl
    rw[f]at g m;have s:∀j,(bU ⟨5,sym,a,c⟩).count j=[a.toNat].count j:=fun j=>rfl;obtain⟨q,K,H⟩:=bO g m s;clear g m s f;rcases fK (sym=[])with h|h
    ·subst h
     have d:=q6 hF a ad ad (fun j=>by have:=S.o j;omega);cases e:bM k a with
     |false=>
      rw[e]at d;have J:=ah e;clear e;go_wp2_with fail
      refine d.mono ?_;rintro G w1 ⟨rfl,r⟩;clear d;have z:=r.below
      go_wp2
      go_ret;exact⟨bC (q.o (by simp[J.o])).symm,z⟩
     |true=>
      rw[e]at d;simp only[kf]at d;have a4:=qZ e;have J:=ah e;clear e;rcases fK (c=0)with x|x
      ·subst x
       go_wp2_with fail
       refine d.mono ?_;rintro G w1 ⟨rfl,r⟩;clear d C D E F;obtain⟨C,D,E,F⟩:=r.cells;simp only at C D E F
       go_wp2
       go_roundw
       case rel=>exact⟨k+1,bump y a.toNat,aG,ad,by rw[gK];exact O,r.back,K.o _ (by simp[J.o]) (fun j=>by rw[H.o,mj ad])⟩
       case measure=>exact aH
      ·have Z:(c==0)=false:=by rw[cW];exact x
       go_wp2_with fail
       refine d.mono ?_;rintro G w1 ⟨rfl,r⟩;clear d C D E F;obtain⟨C,D,E,F⟩:=r.cells;simp only at C D E F;have z:=r.below
       go_wp2
       go_ret;exact⟨bC (q.o (by simp[x])).symm,z⟩
    ·go_wp2_with fail
     go_ret;exact⟨bC (q.o (by simp[h])).symm,hF.below⟩
   ·have f:dG k ⟨p,sym,a,c⟩=false:=by
     unfold dG;rw[ap (by simp only;omega),ap (by simp only;omega),ap (by simp only;omega),ap (by simp only;omega)]
    have I:=g f;have H:=ah I;clear g m f I;have b3:(p==0)=false:=dX;have aa:(p==1)=false:=dX;have b4:(p==2)=false:=dX;have b5:(p==3)=false:=dX;have b6:(p==4)=false:=dX;have b7:(p==5)=false:=dX
    go_wp2
    go_ret;exact⟨bC H.o.symm,hF.below⟩
  ·have bq:decide ((k:Int)<l.length)=false:=aJ
   have bu:k=l.length:=ad;subst bu;obtain⟨ab,ae⟩:=R.o;rw[pH]at ab;simp only[pH]at ae;have aa:=aZ wr (w.heap.size+1) 0 _ _ _ P.ub;have a1:∀j,j<l.length->wr.cell? ⟨w.heap.size,j,none⟩=some (.int .i64 ((cY l j:Nat):Int)):=fun j bt=>by rw[aZ wr w.heap.size j _ _ _ P.uses,<-ae j];simp[fJ,aF (show j<y.length by omega)]
   obtain⟨bc,bb⟩:=aE a1 ab;have z:=P.below;simp only[ig,jD]at aa;rw[O]at aa;clear ab ae R a1 P
   go_wp2
   go_loop [80] (fun v=>∃j:Nat,v=.int .i64 j/\(j=0∨j+1<=l.length)/\Hid (∀i,i<j->cY l i=1)) (fun v=>l.length-(intOf v).toNat)
   case atStart=>exact⟨0,rfl,.inl rfl,fun i T=>ad⟩
   case round=>
    obtain⟨j,rfl,bt,aq⟩:=hrel;by_cases cc:j+1<l.length
    ·have bo:decide ((j:Int)<l.length-1)=true:=aM
     have a5:=bc.o j ad;have b9:(j:Int)<l.length:=ad;by_cases V:cY l j=1
     ·have af:(((cY l j:Nat):Int) !=1)=false:=by rw[V];rfl
      have bd:Hid (∀i,i<j+1->cY l i=1):=by
       intro i T;by_cases G:i=j
       ·rw[G];exact V
       ·exact aq.o i ad
      clear V;generalize cY l j=u at a5 af
      go_wp2
      go_round
      case rel=>exact⟨j+1,aG,.inr ad,bd⟩
      case measure=>exact aH
     ·have af:(((cY l j:Nat):Int) !=1)=true:=by rw[iJ];omega
      have I:Y=false:=by
       rw[X.o];unfold gi;rw[show(List.range (l.length-1)).all (fun j=>cY l j==1)=false from by rw[Bool.eq_false_iff,ne_eq,kM];intro bg;have:=bg j (l6.2 ad);simp at this;exact V this]
       simp
      have W:=ah I;clear V I;generalize cY l j=u at a5 af
      go_wp2
      go_ret;exact⟨bC W.o.symm,z⟩
    ·have bo:decide ((j:Int)<l.length-1)=false:=aJ
     have I:Y=decide (0<l.length):=by
      rw[X.o];unfold gi;rw[bb.o,show(List.range (l.length-1)).all (fun j=>cY l j==1)=true from by rw[kM];intro i T;have:=aq.o i (by have:=l6.1 T;omega);simpa using this]
      cases l with
      |nil=>rfl
      |cons n t=>simp
     have W:=ah I;clear I;by_cases a7:0<l.length
     ·have bm:decide ((l.length:Int)>0)=true:=aM
      go_wp2
      go_ret;exact⟨bC (by rw[W.o];simpa using a7),z⟩
     ·have bm:decide ((l.length:Int)>0)=false:=aJ
      go_wp2
      go_ret;exact⟨bC (by rw[W.o];simpa using a7),z⟩
theorem tm(l:List ar)(o:Option Addr)(cap:Nat)(w:World)(s:di w o cap l)(T:∀n∈l,n.sym.length<=1048576):
 Calls prog 154 #[.agg #[.slice o l.length cap]] w fun m w'=>m=.returned (.int .i64 (cw l))/\Below w.heap.size w w':=by
 obtain⟨E,c⟩:=aj (cw l);rw[<-c];unfold cw at c;have al:=s.2.1;have O:=s.2.2.1;unfold maxLen at O;by_cases F:1024<l.length
 ·rw[au F]at c
  have f:=ah c;have P:decide ((l.length:Int)>1024)=true:=aM;clear c;go_enter func154,ntmps154
  go_wp2
  go_ret;exact⟨bT f.o.symm,az⟩
 ·rw[ap F]at c
  have P:decide ((l.length:Int)>1024)=false:=aJ;have h:Below w.heap.size w (w.alloc (.cells #[.slice o l.length cap] 65)):=az;have G:=aC w (.cells #[.slice o l.length cap] 65);have J:(w.alloc (.cells #[.slice o l.length cap] 65)).heap.size=w.heap.size+1:=bI w _;have j:=Ge l o cap _ (s.below h) ad;cases i:gi l with
  |false=>
   rw[au i]at c;rw[i]at j;have f:=ah c;clear c i J;go_enter func154,ntmps154
   go_wp2_with fail
   refine j.mono ?_;rintro m K ⟨rfl,p⟩;clear j;have z:=h.trans (p.mono h.size)
   go_wp2
   go_ret;exact⟨bT f.o.symm,z⟩
  |true=>
   rw[ap (by rw[i];simp)]at c;rw[i]at j;have f:=ah c;clear c i;go_enter func154,ntmps154
   go_wp2_with fail
   refine j.mono ?_;rintro m K ⟨rfl,p⟩;clear j;have z:=h.trans (p.mono h.size);have H:=(p.block w.heap.size ad).trans G;have ab:=aZ K w.heap.size 0 _ _ _ H;clear G H h p J
   go_wp2
   go_loopw [16] (fun v wr=>∃k:Nat,v=.int .i64 k/\k<=l.length/\Below w.heap.size w wr/\Hid ((l.take k).any (fun n=>decide (n.op=2)&& !a8 n.sym)=false)) (fun v _=>l.length-(intOf v).toNat)
   case atStart=>exact⟨0,rfl,aK _,z,rfl⟩
   case round=>
    obtain⟨k,rfl,af,t,D⟩:=hrel;by_cases S:k<l.length
    ·have Q:decide ((k:Int)<l.length)=true:=aM
     have ag:(k:Int)<l.length:=ad;obtain⟨n,r⟩:∃n,l[k]?=some n:=⟨_,aF S⟩;obtain⟨b,an,rfl,ae,W,X,Y,Z⟩:=(s.below t).at r;have e:(l.take (k+1)).any (fun n=>decide (n.op=2)&& !a8 n.sym)=(decide (n.op=2)&& !a8 n.sym):=by rw[bG,r,dR,iX,D.o];simp
     have I:=T n (aU r);have d:=fun w=>mi ⟨n.sym.toArray⟩ w (by rw[dy];show n.sym.length<=_;omega);simp only at d;have g:(decide (n.op=2)&& !a8 n.sym)=true->E=11:=fun R=>by rw[f.o,au];rw[gt];exact⟨n,aU r,R⟩
     obtain⟨C,sym,a,N⟩:=n;simp only at W X Y Z e d g I;have q:=t.alloc t.size (.cells #[.int .i64 C,.string ⟨sym.toArray⟩,.int .i64 a,.int .i64 N] 140);clear r I;by_cases B:C=2
     ·subst B
      cases u:a8 sym with
      |true=>
       rw[u]at d e;have x:=ah e;clear e g u;go_wp2_with fail
       refine(d _).mono ?_;rintro m V ⟨rfl,y⟩;clear d;have A:=q.trans (y.mono q.size)
       go_wp2
       go_roundw
       case rel=>exact⟨k+1,aG,ad,A,x.o⟩
       case measure=>exact aH
      |false=>
       rw[u]at d g;have M:=ah (g rfl);clear e g u;go_wp2_with fail
       refine(d _).mono ?_;rintro m V ⟨rfl,y⟩;clear d;have A:=q.trans (y.mono q.size)
       go_wp2
       go_ret;exact⟨bT M.o.symm,A⟩
     ·have aa:(C==2)=false:=by rw[cW];exact B
      rw[pI B]at e;have x:=ah e;clear e g d
      go_wp2
      go_roundw
      case rel=>exact⟨k+1,aG,ad,q,x.o⟩
      case measure=>exact aH
    ·have Q:decide ((k:Int)<l.length)=false:=aJ
     have c:E=0:=by have:=D.o;rw[bx ad]at this;rw[f.o,ap (by rw[this];simp)]
     have L:=ah c;clear c
     go_wp2
     go_ret;exact⟨bT L.o.symm,t⟩
theorem Gf(l:List Bytes)(a b:Bytes):cZ (l++[a,b])=if a=b then cZ (l++[a])else cZ (l++[a])++[b]:=by
 induction l with
 |nil=>
  simp only[lm,cZ];by_cases c:a=b
  ·subst c;simp
  ·simp[c]
 |cons x t ih=>
  cases t with
  |nil=>
   simp only[fH,lm,cZ];by_cases c:x=a<;>by_cases d:a=b<;>simp[c,d]
  |cons y r=>
   simp only[fH,cZ]at ih⊢;by_cases c:x=y
   ·simp only[c,kf]at ih⊢;exact ih
   ·simp only[ap c]
    rw[ih];split<;>simp
theorem Gg{d:Type}{l:List d}{k:Nat}{a b:d}(e:l[k]?=some a)(f:l[k+1]?=some b):l.take (k+2)=l.take k++[a,b]/\l.take (k+1)=l.take k++[a]:=by
 have c:l.take (k+1)=l.take k++[a]:=by rw[bG,e];rfl
 refine⟨?_,c⟩;rw[bG,f,c];simp
theorem Gh(l:List Bytes):∀m,m<=l.length->Lib.compactUpTo l.toArray m=cZ (l.take m):=by
 intro m;induction m with
 |zero=>intro _;simp[Lib.compactUpTo,cZ]
 |succ m ih=>
  intro i;rw[Lib.compactUpTo_succ,ih ad];have d:l[m]?=some l[m]:=aF ad;have b:l.toArray[m]! =l[m]:=by simp[show m<l.length by omega]
  cases m with
  |zero=>
   rw[au (Lib.keeps_lt_one _ 0 ad),b];rw[bG,d];simp[cZ]
  |succ k=>
   have h:l[k]?=some l[k]:=aF ad;have c:l.toArray[k]! =l[k]:=by simp[show k<l.length by omega]
   obtain⟨f,g⟩:=Gg h d;rw[show k+1+1=k+2 from rfl,f,g,Gf,b];by_cases a:l[k]=l[k+1]
   ·rw[au a,Lib.keeps_neg ad (by rw[b,show k+1-1=k from rfl,c];exact a.symm)]
    simp
   ·rw[ap a,Lib.keeps_pos (by rw[b,show k+1-1=k from rfl,c];exact fun e=>a e.symm)]
    simp
theorem tn(l:List Bytes):Lib.compact l=cZ l:=by
 show Lib.compactUpTo l.toArray l.length=_
 rw[Gh l _ (aB _),bx (aB _)]
theorem ly{w:World}{b size n:Nat}{a:TypeId}{v:Value}{xs:List Value}(d:w.ownsRow b a size v n xs):∃o c,v=.slice o n c:=by
 rcases d.2 with⟨a,e⟩|⟨g,cap,h,f,_⟩
 ·exact⟨_,0,by rw[e];exact a⟩
 ·exact⟨_,_,f⟩
theorem tq(w:World)(xs:List Value)(t n:Nat)(e:n=w.heap.size):∀j u,xs[j]?=some u->(w.alloc (.cells xs.toArray t)).cell? ((⟨n,0,none⟩:Addr).add j)=some u:=by
 intro j u d;subst e;have c:=aZ (w.alloc (.cells xs.toArray t)) w.heap.size j _ _ _ (aC w _);have b:(⟨w.heap.size,0,none⟩:Addr).add j=⟨w.heap.size,j,none⟩:=by
  by_cases a:j=0
  ·subst a;simp[Addr.add]
  ·simp[Addr.add,a]
 rw[b,c];simpa using d
theorem oG:(prog.info? 9).map (fun i=>(i.zero,i.size,i.bytes))=some (some (.string ⟨#[]⟩),1,16):=ay
theorem GC{l:List ar}{k:Nat}{n:ar}(a:l[k]?=some n):fL (l.take (k+1))=fL (l.take k)++(if n.op=2 then [n.sym]else []):=by unfold fL;rw[bG,a,dR,Ff];by_cases b:n.op=2<;>simp[b]
theorem tt(l:List ar):(fL l).length<=l.length:=List.length_filterMap_le _ _
def cA(w:World)(B:Nat)(v:Value)(a:List Bytes):Prop:=w.ownsRow B 9 1 v a.length (a.map encStr)
theorem Aw:br=fun x y=>decide (x<=y):=rfl
def rh(l:List ar)(w:World)(a:Ending)(w':World):Prop:=(∃v,a=.returned v/\cA w' w.heap.size v (symsS l))/\Below w.heap.size w w'
theorem GD{w w1:World}{l:List ar}{g cap e q:Nat}{os:Array Obj}{a ts:List Bytes}(u:cA w1 w.heap.size (.slice (some ⟨g,0,none⟩) a.length cap) a)(c:Below w.heap.size w w1)(r:w.heap.size<=g)
 (x:ts=a.mergeSort br) (o:symsS l=Lib.compact ts):
 rh l w (.returned (.slice (some ⟨g,0,none⟩) (Lib.compact ts).length cap))
  (Sort.putRow encStr (Sort.ahead (Sort.grow (Sort.putRow encStr (Sort.ahead w1 e) g 0 ts.toArray) os) q) g 0 (Lib.compact ts++List.replicate (ts.length-(Lib.compact ts).length) []).toArray):=by
 have t:ts.length=a.length:=by rw[x];exact qH a
 have D:=zh ts;rcases u.2 with⟨f,_⟩|⟨B,z,A,y,b,p,h,i,m,C⟩
 ·cases f
 cases y
 have v:=ownsRow_sorted (n:=e) (os:=os) (ts:=ts) t b p h i m;have d:=Lib.ownsRow_putRow (q:=q) (k:=(Lib.compact ts).length) (ys:=Lib.compact ts++List.replicate (ts.length-(Lib.compact ts).length) []) v aO ad;rw[List.take_left]at d;exact⟨⟨_,rfl,by unfold cA;rw[o];exact d⟩,Lib.below_putRow (c.grown (grownBy_sorted _) c.size (fun j s=>by cases s;exact b)) r⟩
theorem tu(l:List ar)(o:Option Addr)(cap:Nat)(w:World)(A:di w o cap l)(bc:∀n∈l,n.sym.length<=1048576):
 Calls prog 107 #[.agg #[.slice o l.length cap]] w (rh l w):=by
 obtain⟨bt,aa⟩:=aj (symsS l);have b1:=A.2.1;have a3:=A.2.2.1;unfold maxLen at a3;have p:Below w.heap.size w (w.alloc (.cells #[.slice o l.length cap] 65)):=az;have ab:=aC w (.cells #[.slice o l.length cap] 65);have u:=tm l o cap (w.alloc (.cells #[.slice o l.length cap] 65)) (A.below p) bc;have bd:(w.alloc (.cells #[.slice o l.length cap] 65)).heap.size=w.heap.size+1:=bI w _;obtain⟨E,e⟩:=aj (cw l);rw[<-e]at u;by_cases s:E=0
 ·have d:symsS l=cZ ((fL l).mergeSort br):=by unfold symsS;rw[au (by rw[<-e];exact s)]
  have bZ:l.length<=1024:=by apply fq;intro L;unfold cw at e;rw[au ad,s]at e;cases e
  subst s;have x:=ah d;clear e d aa;obtain⟨bi,a7,be,bf,bg⟩:=cL oG;go_enter func107,ntmps107
  go_wp2_with fail
  refine u.mono ?_;rintro j av ⟨rfl,t⟩;clear u;have K:=p.trans (t.mono p.size);have ae:=(t.block w.heap.size ad).trans ab;have bz:=aZ av w.heap.size 0 _ _ _ ae;clear ab ae p t bd
  go_wp2
  go_loopw [3,12] (fun v i wr=>∃k:Nat,i=.int .i64 k/\k<=l.length/\cA wr w.heap.size v (fL (l.take k))/\Below w.heap.size w wr) (fun _ i _=>l.length-(intOf i).toNat)
  case atStart=>exact⟨0,rfl,aK _,cR _ _ _ _,K⟩
  case round=>
   obtain⟨k,rfl,bE,c,m⟩:=hrel;by_cases a9:k<l.length
   ·have a4:decide ((k:Int)<l.length)=true:=aM
    have bF:(k:Int)<l.length:=ad;obtain⟨n,R⟩:∃n,l[k]?=some n:=⟨_,aF a9⟩;obtain⟨b,b5,rfl,bA,bl,bm,bo,bq⟩:=(A.below m).at R;have f:=GC R;have B:=tt (l.take k);rw[dx]at B;obtain⟨D,sym,a,Y⟩:=n;simp only at bl bm bo bq f;have J:=m.alloc m.size (.cells #[.int .i64 D,.string ⟨sym.toArray⟩,.int .i64 a,.int .i64 Y] 140);obtain⟨h,r⟩:=aj (fL (l.take k));rw[<-r]at c B f;have P:cA (wr.alloc (.cells #[.int .i64 D,.string ⟨sym.toArray⟩,.int .i64 a,.int .i64 Y] 140)) w.heap.size u3 h:=dA c _;clear R;by_cases O:D=2
    ·subst O
     rw[au rfl]at f;have G:=ah f;clear f r;go_wp2_with(first
      |(at_builtin;go_must (refine gY _ rfl _ _ 66 rfl w.heap.size 9 bi (.string ⟨#[]⟩) 1 16 jE a7 be bf bg rfl aw _ _ _ rfl (dA P _) ⟨wr.heap.size+1,0,none⟩ 1 1 [.string ⟨sym.toArray⟩] rfl rfl (tq _ [.string ⟨sym.toArray⟩] _ _ ak) (fun z ao=>by simp at ao;subst ao;rfl) bN ad (by have:=m.size;simp;omega) ?_);intro b6 F bb a6 b4)
      |go_in)
     go_roundw
     case rel=>exact⟨k+1,aG,ad,by rw[G.o];unfold cA;simpa using bb,((J.alloc J.size _).grown a6 (by have:=m.size;simp;omega) (fun k j=>(bX P k j).1))⟩
     case measure=>exact aH
    ·have bu:(D==2)=false:=by rw[cW];exact O
     rw[ap O,qF]at f;have G:=ah f;clear f r
     go_wp2
     go_roundw
     case rel=>exact⟨k+1,aG,ad,by rw[G.o];exact P,J⟩
     case measure=>exact aH
   ·have a4:decide ((k:Int)<l.length)=false:=aJ
    rw[bx ad]at c;have B:=tt l;obtain⟨h,r⟩:=aj (fL l);have d:=x.o;rw[<-r]at c B d;have V:=ah d;clear d r x;have y:h.length=0∨0<h.length:=ad;rcases y with y|y
    ·obtain rfl:=pK y
     obtain⟨T,S,rfl⟩:=ly c;have a0:([]:List Bytes).length=0:=rfl;rw[a0]at c;have al:=slices_Sort_string_none T S wr;have L:=slices_Compact_string_empty T S wr;go_wp2_with fail
     refine al.mono ?_;rintro j F ⟨rfl,rfl⟩;clear al;go_wp2_with fail
     refine L.mono ?_;rintro j F ⟨rfl,rfl⟩;clear L
     go_wp2
     go_ret;have a1:cZ (([]:List Bytes).mergeSort br)=[]:=by simp[cZ]
     exact⟨⟨.slice T 0 S,rfl,by rw[V.o,a1];exact c⟩,m⟩
    ·have ag:u3≠ .slice none 0 0:=by
      intro a5;rcases c.2 with⟨_,b2⟩|⟨g,H,bw,an,_⟩
      ·omega
      ·rw[a5]at an;cases an
     obtain⟨g,H,rfl,a2,af,ba,bB,b0,I⟩:=Fg c ag;have Q:=slices_Sort_string g 0 H h wr I af ad;have X:=ah (And.intro c (And.intro I ba));clear c I ag;obtain⟨ts,C⟩:=aj (h.mergeSort br);have N:ts.length=h.length:=by rw[C];exact qH h
     rw[<-Aw,<-C]at Q;have W:=ah C;clear C;go_wp2_with fail
     refine Q.mono ?_;rintro j F ⟨rfl,aq,os,rfl⟩;clear Q;have Z:Sort.Holds encStr (Sort.grow (Sort.putRow encStr (Sort.ahead wr aq) g 0 ts.toArray) os) g 0 ts.toArray:=
      Sort.holds_grow encStr _ os g 0 _ (by simpa[Sort.putRow,Sort.mapBlock,Sort.ahead]using af) (Sort.holds_putRow encStr _ g 0 _ _ (Sort.holds_ahead encStr wr aq g 0 _ X.out.2.1) (by simp[N]))
     have M:=slices_Compact_string g 0 H ts _ Z ad ad;rw[N]at M;clear Z;go_wp2_with fail
     refine M.mono ?_;rintro j F ⟨rfl,q,rfl⟩;clear M
     go_wp2
     go_ret;rw[<-N];exact GD X.out.1 m a2 W.o (by rw[V.o,tn,W.o])
 ·have b3:(E==0)=false:=by rw[cW];exact s
  have d:symsS l=[]:=by unfold symsS;rw[ap (by rw[<-e];exact s)]
  have x:=ah d;clear e d aa;go_enter func107,ntmps107
  go_wp2_with fail
  refine u.mono ?_;rintro j av ⟨rfl,t⟩;clear u;have K:=p.trans (t.mono p.size)
  go_wp2
  go_ret;exact⟨⟨_,rfl,by rw[x.o];exact cR _ _ _ _⟩,K⟩
structure am where
 t:ax
 ao:Option Addr
 ac:Nat
 no:Option Addr
 nc:Nat
def typeRow(x:am):List Value:=[.string ⟨x.t.name.toArray⟩,.string ⟨x.t.label.toArray⟩,.slice x.ao x.t.attrs.length x.ac,.string ⟨x.t.key.toArray⟩,.bool x.t.text,.slice x.no x.t.nodes.length x.nc]
def dj(x:am):Value:=.agg (typeRow x).toArray
def dk(w:World)(o:Option Addr)(cap:Nat)(l:List Bytes):Prop:=cS w o l.length cap 1 (l.map encStr)
theorem dk.below{w w':World}{o:Option Addr}{cap:Nat}{l:List Bytes}(a:dk w o cap l)(b:Below w.heap.size w w'):dk w' o cap l:=cS.below a b
theorem dk.at{w:World}{o:Option Addr}{cap:Nat}{l:List Bytes}(e:dk w o cap l){k:Nat}{b:Bytes}(c:l[k]?=some b):
 ∃g a,o=some ⟨g,a,none⟩/\g<w.heap.size/\w.cell? ⟨g,a+k,none⟩=some (.string ⟨b.toArray⟩):=by
 have i:=(aP.1 c).1;obtain⟨g,a,d,h,f⟩:=e.2.2.2 ad;exact⟨g,a,d,h,f k _ (by rw[cb,c];rfl)⟩
def cn(w:World)(o:Option Addr)(cap:Nat)(l:List am):Prop:=
 cS w o l.length cap 6 (l.flatMap typeRow)/\∀x∈l,dk w x.ao x.ac x.t.attrs/\di w x.no x.nc x.t.nodes
theorem cn.below{w w':World}{o:Option Addr}{cap:Nat}{l:List am}(a:cn w o cap l)(b:Below w.heap.size w w'):cn w' o cap l:=
 ⟨a.1.below b,fun x c=>⟨(a.2 x c).1.below b,(a.2 x c).2.below b⟩⟩
theorem cn.at{w:World}{o:Option Addr}{cap:Nat}{l:List am}(h:cn w o cap l){k:Nat}{x:am}(e:l[k]?=some x):
 ∃b a,o=some ⟨b,a,none⟩/\b<w.heap.size/\w.cell? ⟨b,a+k*6,none⟩=some (.string ⟨x.t.name.toArray⟩)/\w.cell? ⟨b,a+k*6+1,none⟩=some (.string ⟨x.t.label.toArray⟩)/\
  w.cell? ⟨b,a+k*6+2,none⟩=some (.slice x.ao x.t.attrs.length x.ac)/\w.cell? ⟨b,a+k*6+3,none⟩=some (.string ⟨x.t.key.toArray⟩)/\w.cell? ⟨b,a+k*6+4,none⟩=some (.bool x.t.text)/\
  w.cell? ⟨b,a+k*6+5,none⟩=some (.slice x.no x.t.nodes.length x.nc):=by
 have j:=(aP.1 e).1;obtain⟨b,a,g,i,c⟩:=h.1.2.2.2 ad;have d:=nh (f:=typeRow) 6 (fun _=>rfl) e;refine⟨b,a,g,i,?_,?_,?_,?_,?_,?_⟩
 ·exact c (k*6) _ ((d 0 ad).trans rfl)
 ·have:=c (k*6+1) _ ((d 1 ad).trans rfl);rwa[<-fI]at this
 ·have:=c (k*6+2) _ ((d 2 ad).trans rfl);rwa[<-fI]at this
 ·have:=c (k*6+3) _ ((d 3 ad).trans rfl);rwa[<-fI]at this
 ·have:=c (k*6+4) _ ((d 4 ad).trans rfl);rwa[<-fI]at this
 ·have:=c (k*6+5) _ ((d 5 ad).trans rfl);rwa[<-fI]at this
theorem GE(n:Bytes)(t:ax):∀(ts:List ax) (i:Nat) (r:Option Nat),kq i (ts++[t]) n r=if t.name=n then some (i+ts.length)else kq i ts n r:=by
 intro ts;induction ts with
 |nil=>intro i r;simp[kq]
 |cons x ts ih=>
  intro i r;simp only[fH,kq];rw[ih];simp only[de];rw[show i+1+ts.length=i+(ts.length+1) by omega]
theorem Ax(ts:List ax)(t:ax)(n:Bytes):placeS (ts++[t]) n=if t.name=n then some ts.length else placeS ts n:=by unfold placeS;rw[GE,cE]
def ir:List Bytes->Nat
 |[]=>0
 |a::t=>(if t.contains a then 0 else 1)+ir t
theorem Ay(l:List Bytes)(a:Bytes):ir (l++[a])=if l.contains a then ir l else ir l+1:=by
 induction l with
 |nil=>simp[ir]
 |cons b t ih=>
  simp only[fH,ir,ih];by_cases c:a=b
  ·subst c
   by_cases d:t.contains a=true
   ·simp_all
   ·simp_all;omega
  ·have f:((a==b):Bool)=false:=by simpa using c
   have g:¬b=a:=fun d=>c d.symm;by_cases d:t.contains a=true
   ·by_cases e:t.contains b=true<;>simp_all
   ·by_cases e:t.contains b=true<;>simp_all<;>omega
theorem GF(l:List Bytes):ir l<=l.length:=by
 induction l with
 |nil=>simp[ir]
 |cons b t ih=>simp only[ir,de];split<;>omega
theorem Az(l:List Bytes):decide (ir l<l.length)=bV l:=by
 have a:ir l<l.length↔bV l=true:=by
  induction l with
  |nil=>simp[ir,bV]
  |cons b t ih=>
   have f:=GF t;have d:ir (b::t)=(if t.contains b=true then 0 else 1)+ir t:=rfl;have e:bV (b::t)=(t.contains b||bV t):=rfl;rw[d,e,cM,<-ih,de];by_cases c:t.contains b=true
   ·rw[au c]
    exact⟨fun _=>.inl c,fun _=>ad⟩
   ·rw[ap c]
    exact⟨fun a=>.inr ad,fun a=>by rcases a with a|a;exact absurd a c;omega⟩
 rw[eS,ct];exact a
structure Pl(D:DataW Unit)(ts:List ax):Prop where
 tidy:Maps.Tidy D
 at0:∀n:Bytes,D.atKey (.string n) (.lit (.int .i64 0))=.lit (.int .i64 (((placeS ts n).getD 0:Nat):Int))
 has:∀n:Bytes,Maps.has D (.string n)=(placeS ts n).isSome
 size:Maps.size D=ir (ts.map ax.name)
theorem AA(ts:List ax)(n:Bytes):(placeS ts n).isSome=(ts.map ax.name).contains n:=by
 have:∀(l:List ax) (i:Nat) (r:Option Nat),(kq i l n r).isSome=(r.isSome||(l.map ax.name).contains n):=by
  intro l;induction l with
  |nil=>intro i r;simp[kq]
  |cons t l ih=>
   intro i r;simp only[kq,ih,gX,Fh];by_cases a:t.name=n
   ·simp[a]
   ·have b:((n==t.name):Bool)=false:=by simpa using fun c=>a c.symm
    simp[a,b]
 simpa[placeS]using this ts 0 none
theorem Pl.nil:Pl (.map []) []:=⟨Maps.tidy_empty,fun n=>rfl,fun n=>rfl,rfl⟩
theorem Pl.snoc{d:DataW Unit}{ts:List ax}(a:Pl d ts)(t:ax):Pl (d.put (.string t.name) (.lit (.int .i64 (ts.length:Nat)))) (ts++[t]):=by
 refine⟨a.tidy.put cD _,fun n=> ?_,fun n=> ?_,?_⟩
 ·rw[Ax]
  by_cases b:t.name=n
  ·subst b
   rw[au rfl,Maps.atKey_put_same a.tidy.isMap cD];rfl
  ·rw[ap b,Maps.atKey_put_other (by simpa using fun c:n=t.name=>b c.symm)]
   exact a.at0 n
 ·rw[Ax]
  by_cases b:t.name=n
  ·subst b
   rw[au rfl,Fi a.tidy.isMap cD];rfl
  ·rw[ap b,Fj (by simpa using fun c:n=t.name=>b c.symm)]
   exact a.has n
 ·rw[Maps.size_put a.tidy,a.has t.name,AA,fd,gX,mX,Ay,a.size]
theorem kt{n:Nat}(a:n<=1048576):(Lit.int .i64 (n:Int)).wf=true:=WalkArith.wf_i64 ad
def ei(w:World)(M:Nat)(ts:List ax):Prop:=∃a n,Pl a ts/\n<=ts.length/\w.ownsMap prog 9 (plainElem prog 3) M n a
theorem ei.kept{w w':World}{M:Nat}{ts:List ax}{row:Option Nat}(b:ei w M ts)(d:w.grownBy w' row)(g:some M≠row):ei w' M ts:=by obtain⟨a,n,c,f,e⟩:=b;exact⟨a,n,c,f,e.kept d g⟩
theorem ei.alloc{w:World}{M:Nat}{ts:List ax}(a:ei w M ts)(o:Obj):ei (w.alloc o) M ts:=a.kept (iY w o none) ak
theorem AB(l:List am)(o:Option Addr)(cap:Nat)(w:World)(f:cn w o cap l)(N:l.length<=1048576)(J:∀x∈l,x.t.name.length<=1048576):
 Calls prog 58 #[.agg #[.slice o l.length cap]] w fun e w'=>e=.returned (.map (some (w.heap.size+1)))/\ei w' (w.heap.size+1) (l.map am.t)/\Below w.heap.size w w':=by
 have O:=f.1.2.1;have A:=f.1.2.2.1;unfold maxLen at A;have z:Below w.heap.size w ((w.alloc (.cells #[.slice o l.length cap] 24)).alloc (.map #[] 0)):=az.alloc ak _;have F:ei ((w.alloc (.cells #[.slice o l.length cap] 24)).alloc (.map #[] 0)) (w.heap.size+1) []:=by have:=zi (H:=Unit) (w.alloc (.cells #[.slice o l.length cap] 24)) prog 9 (plainElem prog 3);have u:(w.alloc (.cells #[.slice o l.length cap] 24)).heap.size=w.heap.size+1:=ak;rw[u]at this;exact⟨_,0,Pl.nil,aB _,this⟩
 have P:= @mY prog;go_enter func58,ntmps58
 go_wp2
 go_loopw [10] (fun v wr=>∃k:Nat,v=.int .i64 k/\k<=l.length/\ei wr (w.heap.size+1) ((l.take k).map am.t)/\Below w.heap.size w wr) (fun v _=>l.length-(intOf v).toNat)
 case atStart=>exact⟨0,rfl,aK _,F,z⟩
 case round=>
  obtain⟨k,rfl,L,a,c⟩:=hrel;by_cases E:k<l.length
  ·have B:decide ((k:Int)<l.length)=true:=aM
   have M:(k:Int)<l.length:=ad;obtain⟨x,d⟩:∃n,l[k]?=some n:=⟨_,aF E⟩;obtain⟨b,R,rfl,K,T,V,W,X,Y,Z⟩:=(f.below c).at d;have Q:=J x (aU d);have q:(l.take (k+1)).map am.t=(l.take k).map am.t++[x.t]:=by rw[bG,d];simp
   have h:((l.take k).map am.t).length=k:=by rw[cd,dx];omega
   have D:keyOf prog 9 (.string ⟨x.t.name.toArray⟩)=some (.string x.t.name):=by have:=Fk fZ (s:=⟨x.t.name.toArray⟩) (by rw[dy];show x.t.name.length<=maxLen;unfold maxLen;omega);simpa using this
   have g:=c.alloc c.size (.cells (typeRow x).toArray 68);have y:=a.alloc (.cells (typeRow x).toArray 68);obtain⟨r,n,m,G,p⟩:=y;obtain⟨i,t⟩:=aE q m;rw[h]at G;unfold typeRow at p g;clear q m d a;go_wp2_with(first
    |(at_mapUpdate;go_must (refine zj _ rfl _ _ _ 77 rfl 9 3 (kN fZ) iZ _ (w.heap.size+1) _ r rfl p bN _ _ _ rfl rfl D _ [] (plainElem_int cX (kt ad)) ?_);intro S I C)
    |go_in)
   go_roundw
   case rel=>exact⟨k+1,aG,ad,⟨_,n+1,by rw[i.o];have:=t.o.snoc x.t;rw[h]at this;exact this,by rw[i.o,cm,h];simp;omega,I⟩,g.grown C g.size (fun j e=>by cases e;omega)⟩
   case measure=>exact aH
  ·have B:decide ((k:Int)<l.length)=false:=aJ
   rw[bx ad]at a
   go_wp2
   go_ret;exact⟨rfl,a,c⟩
theorem mp{w:World}{B:Nat}{o:Option Addr}{n c:Nat}{d:List Bytes}(f:cA w B (.slice o n c) d):n=d.length/\dk w o c d:=by
 by_cases i:Value.slice o n c=.slice none 0 0
 ·injection i with s t v
  subst s;subst t;subst v;have A:d.length=0:=by
   rcases f.2 with⟨_,E⟩|⟨g,cap,F,D,_⟩
   ·exact E
   ·cases D
  obtain rfl:=pK A;exact⟨rfl,rfl,aB _,aK _,fun r=>absurd r ak⟩
 ·obtain⟨g,cap,l,G,z,C,y,H,x⟩:=Fg f i
  injection l with m p q
  subst m;subst q;refine⟨p,ak,C,y,fun _=>⟨g,0,rfl,z,fun j u a=> ?_⟩⟩;rw[cb]at a;cases e:d[j]? with
  |none=>rw[e]at a;cases a
  |some b=>
   rw[e]at a;injection a with a
   subst a;have h:=(aP.1 e).1;have:=(x j (by simpa using h)).1;rw[this];congr 2
   simp[h,(aP.1 e).2]
theorem pR{b:Bytes}:∀{l:List Bytes},b∈cZ l->b∈l
 |[],d=>d
 |[a],d=>d
 |a::c::t,d=>by
  simp only[cZ]at d;by_cases e:a=c
  ·rw[au e]at d;exact f8 _ (pR d)
  ·rw[ap e]at d
   rcases eH.1 d with d|d
   ·exact eH.2 (.inl d)
   ·exact f8 _ (pR d)
theorem vY{l:List ar}{b:Bytes}(a:b∈symsS l):∃n∈l,n.sym=b:=by
 unfold symsS at a;split at a
 ·have d:=vy.1 (pR a)
  unfold fL at d;obtain⟨n,e,c⟩:=zk.1 d;refine⟨n,e,?_⟩;split at c
  ·injection c
  ·cases c
 ·cases a
def fj(l:List Nat):List Value:=l.map fun k=>.int .i64 (k:Nat)
def cO(w:World)(B:Nat)(v:Value)(l:List Nat):Prop:=w.ownsRow B 3 1 v l.length (fj l)
theorem GG{w:World}{B B' size n:Nat}{a:TypeId}{v:Value}{xs:List Value}(b:w.ownsRow B a size v n xs)(f:B'<=B):w.ownsRow B' a size v n xs:=by
 refine⟨b.1,?_⟩;rcases b.2 with d|⟨g,cap,c,e,h,rest⟩
 ·exact .inl d
 ·exact .inr ⟨g,cap,c,e,ad,rest⟩
theorem GH{w:World}{B c d size m n n':Nat}{v e:Value}{xs o:List Value}(h:w.ownsRow B c size v n xs)(i:w.ownsRow B d m e n' o)(l:c≠d):v.ownBlock=none∨v.ownBlock≠e.ownBlock:=by
 rcases h.2 with⟨rfl,_⟩|⟨g,cap,q,rfl,_,j,_⟩
 ·exact .inl rfl
 ·refine .inr ?_
  rcases i.2 with⟨rfl,_⟩|⟨s,p,r,rfl,_,a,_⟩
  ·simp[Value.ownBlock]
  ·simp only[Value.ownBlock]
   intro b;injection b with b
   subst b;rw[j]at a;injection a with a
   injection a with _ f _
   exact l f
def dl(ts:List ax)(n:Bytes):Nat:=(placeS ts n).getD 0
theorem tw(ts:List ax)(t:ax):kidsS ts t=(symsS t.nodes).map (dl ts):=rfl
theorem AC(ts:List ax)(x:am)(N:Value)(M:Nat)(w:World)(av:∃o n c,N=.agg #[.slice o n c])(B:di w x.no x.nc x.t.nodes)(V:ei w M ts)(a6:M<w.heap.size)(ae:(symsS x.t.nodes).length<=1048576)(G:∀n∈x.t.nodes,n.sym.length<=1048576):
 Calls prog 159 #[N,dj x,.map (some M)] w fun j w'=>(∃v,j=.returned v/\cO w' w.heap.size v (kidsS ts x.t))/\Below w.heap.size w w':=by
 obtain⟨bi,bg,bf,rfl⟩:=av;have I:∀b∈symsS x.t.nodes,b.length<=1048576:=fun b m=>by obtain⟨n,r,rfl⟩:=vY m;exact G n r
 obtain⟨a5,aa,a1,a2,a3⟩:=cL lu;unfold dj typeRow;have l:=fun Q (m:Below w.heap.size w Q)=>tu x.t.nodes x.no x.nc Q (B.below m) G;unfold rh at l;rw[tw];obtain⟨a,H⟩:=aj (symsS x.t.nodes);rw[<-H]at l I ae⊢;go_enter func159,ntmps159
 go_wp2_with fail
 go_must (refine(l _ (az.alloc ak _)).mono ?_)
 rintro j R ⟨⟨v,rfl,t⟩,Y⟩;have e:Below w.heap.size w R:=(az.alloc ak _).trans (Y.mono aO);obtain⟨P,O,rfl⟩:=ly t;obtain⟨bb,D⟩:=mp t;have an:cA R w.heap.size (.slice P a.length O) a:=GG t aO;clear l B H
 go_wp2
 go_loopw [7,14] (fun v i wr=>∃k:Nat,i=.int .i64 k/\k<=a.length/\cO wr w.heap.size v ((a.take k).map (dl ts))/\cA wr w.heap.size (.slice P a.length O) a/\ei wr M ts/\Below w.heap.size w wr) (fun _ i _=>a.length-(intOf i).toNat)
 case atStart=>exact⟨0,rfl,aK _,cR _ _ _ _,an,V.kept (row:=none) ⟨e.os,e.tape,e.output,e.size,fun k E _=>e.block k E⟩ ak,e⟩
 case round=>
  obtain⟨k,rfl,E,f,J,W,h⟩:=hrel;obtain⟨_,D⟩:=mp J;by_cases ag:k<a.length
  ·have Z:decide ((k:Int)<a.length)=true:=aM
   have a9:(k:Int)<a.length:=ad;obtain⟨b,u⟩:∃b,a[k]?=some b:=⟨_,aF ag⟩;obtain⟨g,be,rfl,a7,bo⟩:=D.at u;have bc:=I b (aU u);have ab:keyOf prog 9 (.string ⟨b.toArray⟩)=some (.string b):=by have:=Fk fZ (s:=⟨b.toArray⟩) (by rw[dy];show b.length<=maxLen;unfold maxLen;omega);simpa using this
   have a4:∀y,(zeroValue 3).run prog y=.ok (.int .i64 0) y:=fun y=>ay;obtain⟨A,n,C,r,F⟩:=W;have af:((a.take k).map (dl ts)).length=k:=by rw[cd,dx];omega
   have a0:(a.take (k+1)).map (dl ts)=(a.take k).map (dl ts)++[dl ts b]:=by rw[bG,u];simp
   have X:=C.at0 b;go_wp2_with(first
    |(at_lookup;go_must (refine wpList_lookup_own_int _ rfl _ _ 77 rfl 9 3 .i64 (kN fZ) iZ cX (a4 _) M _ A rfl F _ _ rfl ab ?_);intro c d bd;obtain rfl:c=((dl ts b:Nat):Int):=by{rw[X]at d;injection d with d;injection d with _ d;exact d.symm})
    |(at_builtin;go_must (refine gY _ rfl _ _ 53 rfl w.heap.size 3 a5 (.int .i64 0) 1 8 ke aa a1 a2 a3 rfl aw _ _ _ rfl (dA f _) ⟨wr.heap.size,0,none⟩ 1 1 [.int .i64 (dl ts b:Nat)] rfl rfl (tq _ [.int .i64 (dl ts b:Nat)] _ _ rfl) (fun z L=>by simp at L;subst L;rfl) bN ad (by have:=h.size;simp;omega) ?_);intro bl bm ao p ba)
    |go_in)
   have K:=dA J (.cells #[.int .i64 (dl ts b:Nat)] 3);have aq:=dA f (.cells #[.int .i64 (dl ts b:Nat)] 3);have al:∀q:Option Nat,q=u7.ownBlock->some M≠q:=fun q S T=>by subst S;have:=(bX f M T.symm).1;omega
   go_roundw
   case rel=>exact⟨k+1,aG,ad,by rw[a0];unfold cO;simpa[fj,af]using ao,df K p (GH K aq aw),⟨A,n,C,r,(F.kept (iY wr _ none) ak).kept p (al _ rfl)⟩,(h.alloc h.size _).grown p (by have:=h.size;simp;omega) (fun k j=>(bX f k j).1)⟩
   case measure=>exact aH
  ·have Z:decide ((k:Int)<a.length)=false:=aJ
   rw[bx ad]at f
   go_wp2
   go_ret;exact⟨⟨_,rfl,f⟩,h⟩
end Go.Proofs.YtbacloblanpghaaGreatDoor
