import Derived.Test.YtfeidcmojcijpaaGreatDoorQaf
import Derived.Test.YtfeidcmojcijpaaGreatDoorQah
set_option linter.all false
set_option maxRecDepth 100000
set_option maxHeartbeats 0
namespace Go.Proofs.YtfeidcmojcijpaaGreatDoor
open Go.RowKit Tryz
def Lm x(i:Nat) I UB w(d:gC w I 0 (.int .i64 i))(a:cy i x=false):
 de 239 #[x,I,.pointer (some ⟨UB,0,none⟩)] w false fun w'=>w=w':=by
 unfold cy at a;rcases(by by_cases b:x<0<;>simp at a<;>omega:x<0∨(0<=x/\i<=x))with b|⟨b,c⟩
 all_goals
  clear a
  go_in
  go_wp2
  go_ret;simp
def Ln(x i n a b U:Nat) u w(g:gC w a 0 (.int .i64 i))(q:x<i)(h:i<=n)(j:n<=1024)
 (p:gC w b 0 (.slice U n n)) (l:gC w U x (.int .i64 u)) (m:0<=u) (o:u<=4096) (f:w.frozen? ⟨U,x,none⟩=false):
 de 239 #[.int .i64 x,a,b] w true fun w'=>w'=w.setCell ⟨U,x,none⟩ (.int .i64 (u+1)):=by
 have c:=aL x;have d:(x:Int)<i:=ad;have e:(x:Int)<n:=ad
 go_in
 go_wp2
 go_ret;simp
def lm:(prog.info? 3).map (fun i=>(i.zero,i.size,i.bytes))=some (some (.int .i64 0),1,8):=az
def qM(w:World)(U:Nat)(us:List Nat):Prop:=w.heap[U]?=some (.cells (us.map fun u=>Value.int .i64 (u:Nat)) 3 (0,0))
def bump(us:List Nat)(x:Nat):List Nat:=us.set x (us.getD x 0+1)
def i6 us x:(bump us x)=us.length:=by simp[bump]
def DS us x j(b:j<us.length):(bump us x).getD j 0=us.getD j 0+if x=j then 1 else 0:=by unfold bump;simp only[cB,List.getElem?_set];by_cases a:x=j;subst a;simp[b];simp[a]
def a8(w:World) U x v{cs}{t:Nat}{fz}(a:w.heap[U]?=some (.cells cs t fz)):(w.setCell ⟨U,x,none⟩ v).heap[U]?=some (.cells (cs.setIfInBounds x v) t fz):=by
 have b:=aS a;have c:w.heap[U]=.cells cs t fz:=by simpa[pl b]using a
 show(w.heap.modify U _)[U]?=_
 rw[pl (by simpa using b),zD,c];rfl
def aU(w:World) U x k v(a:k≠U):(w.setCell ⟨U,x,none⟩ v).heap[k]?=w.heap[k]?:=gq _ _ _ _ (fun e=>a (by rw[e]))
def qM.bump{w:World}{U:Nat}{us:List Nat}(a:qM w U us){x:Nat}(b:x<us.length):qM (w.setCell ⟨U,x,none⟩ (.int .i64 ((us.getD x 0:Nat)+1:Int))) U (bump us x):=by
 unfold qM at*;rw[a8 w U x _ a];congr 2
 unfold Go.Proofs.YtfeidcmojcijpaaGreatDoor.bump;rw[cK,List.map_set];rfl
def DT{us m}(a:∀j,us.getD j 0<=m) x:∀j,(bump us x).getD j 0<=m+1:=by intro j;by_cases b:j<us;rw[DS us x j b];have:=a j;split<;>omega;rw[cB,jL (by rw[i6];omega)];simp
def oE{us x}(d:x<us.length) j:(bump us x).getD j 0=us.getD j 0+[x].count j:=by by_cases b:j<us;rw[DS us x j b];by_cases a:x=j;subst a;simp;simp[a];have c:¬x=j:=ad;rw[cB,cB,jL (by rw[i6];omega),jL ad];simp[c]
def ur{i x}(a:cy i x=true):x.toNat<i:=by unfold cy at a;simp at a;omega
structure nI(U I:Nat)(n:ax)(i:Nat)(us:List Nat)(w0 w:World):Prop where
 uses:qM w U us
 ub:w.heap[U+1]?=some (.cells #[.slice (some ⟨U,0,none⟩) us.length us.length] 41 (0,0))
 ib:w.heap[I]?=some (.cells #[.int .i64 (i:Int)] 3 (0,0))
 nb:w.heap[I+1]?=some (.cells (nodeRow n).toArray 104 (0,0))
 O:Below w0.heap.size w0 w
 U0:w0.heap.size<=U
 UI:U+1<I
def nI.bump{U b i:Nat}{n:ax}{us:List Nat}{c w:World}(a:nI U b n i us c w){x:Nat}(e:x<us.length):nI U b n i (bump us x) c (w.setCell ⟨U,x,none⟩ (.int .i64 ((us.getD x 0:Nat)+1:Int))):=by have d:=a.UI;refine⟨a.uses.bump e,?_,(aU w U x b _ ad).Z a.ib,(aU w U x (b+1) _ ad).Z a.nb,a.O.setCell a.U0 _,a.U0,d⟩;rw[i6];exact(aU w U x (U+1) _ ad).Z a.ub
def ut{U I i n us w0 w}(a:nI U I n i us w0 w) x(g:i<=us)(h:us.length<=1024)(l:∀j,us.getD j 0<=4096):
 de 239 #[.int .i64 x,I,.pointer (some ⟨U+1,0,none⟩)] w (.bool (cy i x)) fun w'=>nI U I n i (if cy i x=true then bump us x.toNat else us) w0 w':=by
 cases b:cy i x with
 |false=>
  refine ar (Lm x i I _ w (bj w I 0 _ _ _ a.ib) b) ?_;rintro w' rfl;exact⟨rfl,by simpa using a⟩
 |true=>
  have c:=b;unfold cy at c;simp at c;obtain⟨y,rfl⟩:∃y:Nat,x=y:=⟨x.toNat,ad⟩;have d:y<us:=ad;have e:w.cell? ⟨U,y,none⟩=some (.int .i64 ((us.getD y 0:Nat):Int)):=by rw[bj w U y _ _ _ a.uses];simp[cV d]
  refine ar (Ln y i _ I _ U (us.getD y 0) w (bj w I 0 _ _ _ a.ib) ad g h (bj w _ 0 _ _ _ a.ub) e ad (aQ (l y)) (by have f:w.heap[U]?=_:=a.uses;simp[World.frozen?,f])) ?_;rintro w' rfl;exact⟨rfl,by simpa using a.bump d⟩
def DU l j:dG l j<=2*l:=by
 unfold dG;apply aW zE;induction l with
 |nil=>simp
 |cons n t ih=>
  rw[tZ,ck,ef];have:(bQ n).length<=2:=by unfold bQ;split<;>(try split)<;>simp
  omega
def DV n:madeCells #[Value.int .i64 0] n=((List.replicate n 0).map fun u=>Value.int .i64 (u:Nat)):=by unfold madeCells;apply Array.ext;simp;intro i a b;simp[Nat.mod_one]
structure uw(U:Nat)(us:List Nat)(w0 w:World):Prop where
 uses:qM w U us
 ub:w.heap[U+1]?=some (.cells #[.slice (some ⟨U,0,none⟩) us.length us.length] 41 (0,0))
 O:Below w0.heap.size w0 w
 U0:w0.heap.size<=U
def uw.node{U:Nat}{us:List Nat}{e w:World}(a:uw U us e w)(n:ax)(i:Nat):nI U w.heap.size n i us e ((w.alloc (.cells #[.int .i64 (i:Int)] 3)).alloc (.cells #[.int .i64 n.op,.string ⟨n.sym.toArray⟩,.int .i64 n.a,.int .i64 n.b] 104)):=by have b:Below w.heap.size w ((w.alloc (.cells #[.int .i64 (i:Int)] 3)).alloc (.cells #[.int .i64 n.op,.string ⟨n.sym.toArray⟩,.int .i64 n.a,.int .i64 n.b] 104)):=aP.alloc (by rw[bP];omega) _;have d:=aS a.ub;have f:=aN w (.cells #[.int .i64 i] 3);have c:=aN (cT w #[.int .i64 i] 3) (.cells #[n.op,n.sym,n.a,n.b] 104);rw[bP]at c;refine⟨(b.J U ad).Z a.uses,(b.J _ d).Z a.ub,?_,c,a.O.Z (b.zz a.O.size),a.U0,d⟩;exact(((aA (w+1) (cT w #[.int .i64 i] 3)).alloc (by rw[bP];omega) _).J _ ad).Z f
def nI.cells{U a i:Nat}{n:ax}{us:List Nat}{c w:World}(b:nI U a n i us c w):w.cell? ⟨a+1,0,none⟩=some (.int .i64 n.op)/\w.cell? ⟨a+1,1,none⟩=some (.string ⟨n.sym.toArray⟩)/\w.cell? ⟨a+1,2,none⟩=some (.int .i64 n.a)/\w.cell? ⟨a+1,3,none⟩=some (.int .i64 n.b):=
 ⟨bj w _ 0 _ _ _ b.nb,bj w _ 1 _ _ _ b.nb,bj w _ 2 _ _ _ b.nb,bj w _ 3 _ _ _ b.nb⟩
def nI.back{U c i:Nat}{n:ax}{us:List Nat}{b w:World}(a:nI U c n i us b w):uw U us b w:=⟨a.uses,a.ub,a.O,a.U0⟩
def Lo l o cap w(g:dv w o cap l)(c:l.length<=1024):
 cX 194 #[.slice o l cap] w (.bool (gB l)):=by
 obtain⟨V,H⟩:=am (gB l);rw[<-H];have T:=ah H;clear H;have⟨p,R,f,h,m⟩:=cZ lm;have d:=DV l;have c:=ah d;clear d
 go_in
 go_wp2_with(first
  |(at_make;go_must (apply wpList_make_row _ rfl _ _ _ rfl 3 p _ j9 R f h rfl _ _ _ rfl rfl (by rw[m];omega) ad)))
 rw[c.o];have f:uw w.heap.size (List.replicate l.length 0) w ((w.alloc (.cells ((List.replicate l.length 0).map fun u=>Value.int .i64 ((u:Nat):Int)).toArray 3)).alloc (.cells #[.slice (some ⟨w.heap.size,0,none⟩) l.length l.length] 41)):=by have h:=aN w (.cells ((List.replicate l 0).map fun u=>Value.int .i64 (u:Nat)) 3);have d:=aN (cT w ((List.replicate l 0).map fun u=>Value.int .i64 (u:Nat)) 3) (.cells #[.slice w l l] 41);rw[bP]at d;refine⟨?_,qB▸d,aP.alloc (by rw[bP];omega) _,ay _⟩;exact(((aA (w+1) _).alloc (by rw[bP];omega) _).J _ ad).Z h
 clear c;have d:∀j,(List.replicate l.length 0).getD j 0=dG (l.take 0) j:=by
  intro j;have:dG (l.take 0) j=0:=by simp[dG]
  rw[this,cB,nD];split<;>rfl
 have c:=ah d;clear d;go_loopw [14] (fun i wr=>∃(k:Nat) (us:List Nat),i=.int .i64 k/\k<=l/\us=l.length/\uw w us w wr/\Hid (d9 0 (l.take k)=true/\∀j,us.getD j 0=dG (l.take k) j)) (fun i _=>l-(intOf i).toNat)
 case atStart=>exact⟨0,_,rfl,aH _,qB,f,rfl,c.o⟩
 case round=>
  obtain⟨k,us,rfl,d,N,O,P⟩:=hrel;clear f c;by_cases S:k<l
  ·have aa:=bC S
   have c:=bk S;have⟨n,d⟩:=aT S;obtain⟨b,q,rfl,c,f,h,m,p⟩:=(g.O O.O).at d;have hF:=O.node n k;have c:∀j,us.getD j 0<=2048:=fun j=>by rw[P.o.2];have:=DU (l.take k) j;rw[eh]at this;omega
   have Q:=ah c;clear c;obtain⟨q,sym,a,c⟩:=n;simp only at f h m p;have h:eA k ⟨q,sym,a,c⟩=false->V=false:=fun f=>by rw[T.o];exact Ab d f
   have p:∀g:List Nat,eA k ⟨q,sym,a,c⟩=true->(∀j,g.getD j 0=us.getD j 0+(bQ ⟨q,sym,a,c⟩).count j)->d9 0 (l.take (k+1))=true/\∀j,g.getD j 0=dG (l.take (k+1)) j:=by intro g f m;refine⟨by rw[Aa d,P.o.1,f];rfl,fun j=> ?_⟩;rw[m,uq d,P.o.2]
   have f:=ah d;clear d;have⟨C,D,E,F⟩:=hF.cells;simp only at C D E F;rcases(ad:q=0∨q=1∨q=2∨q=3∨q=4∨q=5∨(q<0∨5<q))with rfl|rfl|rfl|rfl|rfl|rfl|d
   ·have g:eA k ⟨0,sym,a,c⟩=(sym.isEmpty&&decide (a=0)&&decide (c=0)):=rfl
    rw[g]at h p;have x:∀j,(bQ ⟨0,sym,a,c⟩).count j=0:=fun j=>rfl;have⟨r,J,G⟩:=bm h p x;clear h p x g;rcases gK (sym=[])with m|m<;>rcases gK (a=0)with d|d<;>rcases gK (c=0)with y|y
    all_goals
     first|subst m|skip
     first|subst d|(have f:(a==0)=false:=by rw[dF];exact d)
     first|subst y|(have W:(c==0)=false:=by rw[dF];exact y)
     go_wp2_with fail
     first
      |(go_ret;exact⟨bJ (r.o (by simp[*])).zy,hF.O⟩)
      |(go_roundw
        case rel=>exact⟨_,us,aD,ad,N,hF.back,J.o us (by simp) (fun j=>by rw[G.o];rfl)⟩
        case measure=>simp[intOf];omega)
   ·have g:eA k ⟨1,sym,a,c⟩=(sym.isEmpty&&decide (a=0)&&decide (c=0)):=rfl
    rw[g]at h p;have x:∀j,(bQ ⟨1,sym,a,c⟩).count j=0:=fun j=>rfl;have⟨r,J,G⟩:=bm h p x;clear h p x g;rcases gK (sym=[])with m|m<;>rcases gK (a=0)with d|d<;>rcases gK (c=0)with y|y
    all_goals
     first|subst m|skip
     first|subst d|(have f:(a==0)=false:=by rw[dF];exact d)
     first|subst y|(have W:(c==0)=false:=by rw[dF];exact y)
     go_wp2_with fail
     first
      |(go_ret;exact⟨bJ (r.o (by simp[*])).zy,hF.O⟩)
      |(go_roundw
        case rel=>exact⟨_,us,aD,ad,N,hF.back,J.o us (by simp) (fun j=>by rw[G.o];rfl)⟩
        case measure=>simp[intOf];omega)
   ·have g:eA k ⟨2,sym,a,c⟩=(decide (a=0)&&decide (c=0)):=rfl
    rw[g]at h p;have x:∀j,(bQ ⟨2,sym,a,c⟩).count j=0:=fun j=>rfl;have⟨r,J,G⟩:=bm h p x;clear h p x g;rcases gK (sym=[])with m|m<;>rcases gK (a=0)with d|d<;>rcases gK (c=0)with y|y
    all_goals
     first|subst m|skip
     first|subst d|(have f:(a==0)=false:=by rw[dF];exact d)
     first|subst y|(have W:(c==0)=false:=by rw[dF];exact y)
     go_wp2_with fail
     first
      |(go_ret;exact⟨bJ (r.o (by simp[*])).zy,hF.O⟩)
      |(go_roundw
        case rel=>exact⟨_,us,aD,ad,N,hF.back,J.o us (by simp) (fun j=>by rw[G.o];rfl)⟩
        case measure=>simp[intOf];omega)
   ·have g:eA k ⟨3,sym,a,c⟩=(sym.isEmpty&&cy k a&&cy k c):=rfl
    rw[g]at h p;have x:∀j,(bQ ⟨3,sym,a,c⟩).count j=[a.toNat,c.toNat].count j:=fun j=>rfl;have⟨r,J,G⟩:=bm h p x;clear h p x g;rcases gK (sym=[])with m|m
    ·subst m
     have d:=ut hF a ad ad (fun j=>by have:=Q.o j;omega);cases f:cy k a with
     |false=>
      rw[f]at d;have I:=ah f;clear f;go_wp2_with fail
      refine ar d ?_;intro w1 s;clear d;have z:=s.O
      go_wp2
      go_ret;exact⟨bJ (r.o (by simp[I.o])).zy,z⟩
     |true=>
      rw[f]at d;simp only[ix]at d;have Y:=ur f;have I:=ah f;clear f;go_wp2_with fail
      refine ar d ?_;intro w1 s;clear d C D E F;obtain⟨C,D,E,F⟩:=s.cells;simp only at C D E F;have B:=ut s c (by rw[i6];omega) (by rw[i6];omega) (fun j=>by have:=DT Q.o a.toNat j;omega);cases A:cy k c with
      |false=>
       rw[A]at B;have K:=ah A;clear A;go_wp2_with fail
       refine ar B ?_;intro X M;clear B;have z:=M.O
       go_wp2
       go_ret;exact⟨bJ (r.o (by simp[K.o])).zy,z⟩
      |true=>
       rw[A]at B;simp only[ix]at B;have Z:=ur A;have K:=ah A;clear A;go_wp2_with fail
       refine ar B ?_;intro X M;clear B C D E F
       go_wp2
       go_roundw
       case rel=>exact⟨_,_,aD,ad,by rw[i6,i6];exact N,M.back,J.o _ (by simp[I.o,K.o]) (fun j=>by rw[G.o,oE (by rw[i6];omega),oE ad,show [a.toNat,c.toNat]=[a.toNat]++[c.toNat]from rfl,r8];omega)⟩
       case measure=>exact aM
    go_wp2_with fail
    go_ret;exact⟨bJ (r.o (by simp[m])).zy,hF.O⟩
   ·have g:eA k ⟨4,sym,a,c⟩=(sym.isEmpty&&cy k a&&cy k c):=rfl
    rw[g]at h p;have x:∀j,(bQ ⟨4,sym,a,c⟩).count j=[a.toNat,c.toNat].count j:=fun j=>rfl;have⟨r,J,G⟩:=bm h p x;clear h p x g;rcases gK (sym=[])with m|m
    ·subst m
     have d:=ut hF a ad ad (fun j=>by have:=Q.o j;omega);cases f:cy k a with
     |false=>
      rw[f]at d;have I:=ah f;clear f;go_wp2_with fail
      refine ar d ?_;intro w1 s;clear d;have z:=s.O
      go_wp2
      go_ret;exact⟨bJ (r.o (by simp[I.o])).zy,z⟩
     |true=>
      rw[f]at d;simp only[ix]at d;have Y:=ur f;have I:=ah f;clear f;go_wp2_with fail
      refine ar d ?_;intro w1 s;clear d C D E F;obtain⟨C,D,E,F⟩:=s.cells;simp only at C D E F;have B:=ut s c (by rw[i6];omega) (by rw[i6];omega) (fun j=>by have:=DT Q.o a.toNat j;omega);cases A:cy k c with
      |false=>
       rw[A]at B;have K:=ah A;clear A;go_wp2_with fail
       refine ar B ?_;intro X M;clear B;have z:=M.O
       go_wp2
       go_ret;exact⟨bJ (r.o (by simp[K.o])).zy,z⟩
      |true=>
       rw[A]at B;simp only[ix]at B;have Z:=ur A;have K:=ah A;clear A;go_wp2_with fail
       refine ar B ?_;intro X M;clear B C D E F
       go_wp2
       go_roundw
       case rel=>exact⟨_,_,aD,ad,by rw[i6,i6];exact N,M.back,J.o _ (by simp[I.o,K.o]) (fun j=>by rw[G.o,oE (by rw[i6];omega),oE ad,show [a.toNat,c.toNat]=[a.toNat]++[c.toNat]from rfl,r8];omega)⟩
       case measure=>exact aM
    go_wp2_with fail
    go_ret;exact⟨bJ (r.o (by simp[m])).zy,hF.O⟩
   ·have g:eA k ⟨5,sym,a,c⟩=(sym.isEmpty&&cy k a&&decide (c=0)):=rfl
    rw[g]at h p;have x:∀j,(bQ ⟨5,sym,a,c⟩).count j=[a.toNat].count j:=fun j=>rfl;have⟨r,J,G⟩:=bm h p x;clear h p x g;rcases gK (sym=[])with m|m
    ·subst m
     have d:=ut hF a ad ad (fun j=>by have:=Q.o j;omega);cases f:cy k a with
     |false=>
      rw[f]at d;have I:=ah f;clear f;go_wp2_with fail
      refine ar d ?_;intro w1 s;clear d;have z:=s.O
      go_wp2
      go_ret;exact⟨bJ (r.o (by simp[I.o])).zy,z⟩
     |true=>
      rw[f]at d;simp only[ix]at d;have Y:=ur f;have I:=ah f;clear f;rcases gK (c=0)with y|y
      ·subst y
       go_wp2_with fail
       refine ar d ?_;intro w1 s;clear d C D E F;obtain⟨C,D,E,F⟩:=s.cells;simp only at C D E F
       go_wp2
       go_roundw
       case rel=>exact⟨_,_,aD,ad,by rw[i6];exact N,s.back,J.o _ (by simp[I.o]) (fun j=>by rw[G.o,oE ad])⟩
       case measure=>exact aM
      have W:(c==0)=false:=by rw[dF];exact y
      go_wp2_with fail
      refine ar d ?_;intro w1 s;clear d C D E F;obtain⟨C,D,E,F⟩:=s.cells;simp only at C D E F;have z:=s.O
      go_wp2
      go_ret;exact⟨bJ (r.o (by simp[y])).zy,z⟩
    go_wp2_with fail
    go_ret;exact⟨bJ (r.o (by simp[m])).zy,hF.O⟩
   have g:eA k ⟨q,sym,a,c⟩=false:=by unfold eA;rw[ap (by simp only;omega),ap (by simp only;omega),ap (by simp only;omega),ap (by simp only;omega)]
   have H:=h g;have G:=ah H;clear h p g H;have c:(q==0)=false:=fU;have c:(q==1)=false:=fU;have d:(q==2)=false:=fU;have d:(q==3)=false:=fU;have d:(q==4)=false:=fU;have d:(q==5)=false:=fU
   go_wp2
   go_ret;exact⟨bJ G.o.zy,hF.O⟩
  ·have aa:=bG S
   have d:k=l:=ad;subst d;have⟨d,f⟩:=P.o;rw[ol]at d;simp only[ol]at f;have c:=bj wr _ 0 _ _ _ O.ub;have g:∀j,j<l.length->wr.cell? ⟨w.heap.size,j,none⟩=some (.int .i64 ((dG l j:Nat):Int)):=fun j h=>by rw[bj wr _ j _ _ _ O.uses,<-f j];simp[cV (show j<us by omega)]
   have⟨p,m⟩:=aC g d;have z:=O.O;simp only[iU,mR]at c;rw[N]at c;clear d f P g O
   go_wp2
   go_loop [80] (fun v=>∃j:Nat,v=.int .i64 j/\(j=0∨j+1<=l)/\Hid (∀i,i<j->dG l i=1)) (fun v=>l-(intOf v).toNat)
   case atStart=>exact⟨0,rfl,.inl rfl,fun i R=>ad⟩
   case round=>
    obtain⟨j,rfl,h,g⟩:=hrel;by_cases c:j+1<l
    ·have q:decide ((j:Int)<l-1)=true:=bT
     have h:=p.o j ad;have c:(j:Int)<l:=ad;by_cases d:dG l j=1
     ·have f:((dG l j:Int) !=1)=false:=by rw[d];rfl
      have c:Hid (∀i,i<j+1->dG l i=1):=by intro i R;by_cases e:i=j;rw[e];exact d;exact g.o i ad
      clear d;generalize dG l j=u at h f
      go_wp2
      go_round
      case rel=>exact⟨_,aD,.inr ad,c⟩
      case measure=>exact aM
     have f:(((dG l j:Nat):Int) !=1)=true:=by rw[ka];omega
     have H:V=false:=by
      rw[T.o];unfold gB;rw[show(List.range (l-1)).all (fun j=>dG l j==1)=false from by rw[Km,ne_eq,ke];intro c;have:=c j (eT.2 ad);simp at this;omega]
      simp
     have c:=ah H;clear d H;generalize dG l j=u at h f
     go_wp2
     go_ret;exact⟨bJ c.o.zy,z⟩
    have q:decide ((j:Int)<l-1)=false:=bU;have H:V=decide (0<l.length):=by
     rw[T.o];unfold gB;rw[m.o,show(List.range (l-1)).all (fun j=>dG l j==1)=true from by rw[ke];intro i R;have:=g.o i (aQ (eT.1 R));simpa using this]
     cases l with
     |nil=>rfl
     |cons n t=>simp
    have c:=ah H;clear H;by_cases d:0<l.length;have f:decide ((l:Int)>0)=true:=bT
    go_wp2
    go_ret;exact⟨bJ (by rw[c.o];simpa using d),z⟩;have f:decide ((l:Int)>0)=false:=bU
    go_wp2
    go_ret;exact⟨bJ (by rw[c.o];simpa using d),z⟩
def xm l o cap w(j:dv w o cap l)(r:∀n∈l,n.sym.length<=1048576):
 cX 119 #[.agg #[.slice o l cap]] w (.int .i64 (bK l)):=by
 obtain⟨x,c⟩:=am (bK l);rw[<-c];unfold bK at c;have d:=j.2.1;have d:=j.2.2.1;unfold maxLen at d;by_cases d:1024<l.length
 ·rw[au d]at c
  have f:=ah c;have e:decide ((l:Int)>1024)=true:=bT;clear c
  go_in
  go_wp2
  go_ret;exact⟨da f.o.zy,aP⟩
 ·rw[ap d]at c
  have e:decide ((l:Int)>1024)=false:=bU;have d:aR w (cT w #[.slice o l cap] 52):=aP;have m:=aN w (.cells #[.slice o l cap] 52);have p:(w.alloc (.cells #[.slice o l cap] 52))=w.heap.size+1:=bP w _;have g:=Lo l o cap _ (j.O d) ad;cases e:gB l with
  |false=>
   rw[au e]at c;rw[e]at g;have f:=ah c;clear c e p
   go_in
   go_wp2_with fail
   refine ar g ?_;intro q h;clear g;have i:=d.Z (h.zz d.size)
   go_wp2
   go_ret;exact⟨da f.o.zy,i⟩
  |true=>
   rw[ap (by rw[e];simp)]at c;rw[e]at g;have f:=ah c;clear c e
   go_in
   go_wp2_with fail
   refine ar g ?_;intro q h;clear g;have i:=d.Z (h.zz d.size);have e:=(h.J _ ad).Z m;have g:=bj q _ 0 _ _ _ e;clear m e d h p
   go_wp2
   go_loopw [16] (fun v wr=>∃k:Nat,v=.int .i64 k/\k<=l/\aR w wr/\Hid ((l.take k).any (fun n=>decide (n.op=2)&& !bp n.sym)=false)) (fun v _=>l-(intOf v).toNat)
   case atStart=>exact⟨0,rfl,aH _,i,rfl⟩
   case round=>
    obtain⟨k,rfl,d,m,u⟩:=hrel;by_cases p:k<l
    ·have z:=bC p
     have d:=bk p;have⟨n,i⟩:=aT p;obtain⟨b,e,rfl,d,s,y,A,B⟩:=(j.O m).at i;have e:(l.take (k+1)).any (fun n=>decide (n.op=2)&& !bp n.sym)=(decide (n.op=2)&& !bp n.sym):=by rw[bH,i,fp,qC,u.o];simp
     have j:=r n (aK i);have d:=fun w=>oD ⟨n.sym.toArray⟩ w (by rw[eJ];show n.sym.length<=_;omega);simp only at d;have g:(decide (n.op=2)&& !bp n.sym)=true->x=11:=fun h=>by rw[f.o,au];rw[jx];exact⟨n,aK i,h⟩
     obtain⟨t,sym,a,q⟩:=n;simp only at s y A B e d g j;have h:=m.alloc m.size (.cells #[t,sym,a,q] 104);clear i j;by_cases s:t=2
     ·subst s
      cases i:bp sym with
      |true=>
       rw[i]at d e;have j:=ah e;clear e g i;go_wp2_with fail
       refine ar (d _) ?_;intro A q;clear d;have r:=h.Z (q.zz h.size)
       go_wp2
       go_roundw
       case rel=>exact⟨_,aD,ad,r,j.o⟩
       case measure=>exact aM
      |false=>
       rw[i]at d g;have y:=ah (g rfl);clear e g i;go_wp2_with fail
       refine ar (d _) ?_;intro A q;clear d;have r:=h.Z (q.zz h.size)
       go_wp2
       go_ret;exact⟨da y.o.zy,r⟩
     have i:(t==2)=false:=by rw[dF];exact s
     rw[qD s]at e;have j:=ah e;clear e g d;refine qN ?_;
      exact⟨k+1,aD,ad,h,j.o⟩
    ·have z:=bG p
     have c:x=0:=by have:=u.o;rw[bI ad]at this;rw[f.o,ap (by rw[this];simp)]
     have d:=ah c;clear c
     go_wp2
     go_ret;exact⟨da d.o.zy,m⟩
def Lp l a b:dN (l++[a,b])=if a=b then dN (l++[a])else dN (l++[a])++[b]:=by
 induction l with
 |nil=>
  simp only[qE,dN];by_cases c:a=b;subst c;simp;simp[c]
 |cons x t ih=>
  cases t with
  |nil=>
   simp only[jK,qE,dN];by_cases c:x=a<;>by_cases d:a=b<;>simp[c,d]
  |cons y r=>
   simp only[jK,dN]at ih⊢;by_cases c:x=y;simp only[c,ix]at ih⊢;exact ih;simp only[ap c];rw[ih];split<;>simp
def Lq{f:Type}{l:List f}{k a b}(d:l[k]?=some a)(e:l[k+1]?=some b):l.take (k+2)=l.take k++[a,b]/\l.take (k+1)=l.take k++[a]:=by
 have c:l.take (k+1)=l.take k++[a]:=by rw[bH,d];rfl
 refine⟨?_,c⟩;rw[bH,e,c];simp
def Lr(l:List Bytes):∀m,m<=l.length->Lib.compactUpTo l m=dN (l.take m):=by
 intro m;induction m with
 |zero=>intro _;rfl
 |succ m ih=>
  intro i;rw[Lib.compactUpTo_succ,ih ad];have d:l[m]?=l[m]:=cV ad;have b:l.toArray[m]! =l[m]:=by simp[by omega]
  cases m with
  |zero=>
   rw[au (Lib.keeps_lt_one _ 0 ad),b];rw[bH,d];rfl
  |succ k=>
   have h:l[k]?=l[k]:=cV ad;have c:l.toArray[k]! =l[k]:=by simp[by omega]
   have⟨f,g⟩:=Lq h d;rw[show k+1+1=k+2 from rfl,f,g,Lp,b];by_cases a:l[k]=l[k+1];rw[au a,Lib.keeps_neg ad (by rw[b,show k+1-1=k from rfl,c];exact a.zy)];simp;rw[ap a,Lib.keeps_pos (by rw[b,show k+1-1=k from rfl,c];exact fun e=>a e.zy)];simp
def xn l:Lib.compact l=dN l:=by
 show Lib.compactUpTo l.toArray l=_
 rw[Lr l _ (ay _),bI (ay _)]
def nK{w:World}{base size n e v xs}(a:w.ownsRow base e size v n xs):∃o c,v=.slice o n c:=by
 rcases a.2 with⟨e,b⟩|⟨g,cap,d,hv,_⟩
 exact⟨_,0,by rw[b];exact e⟩;exact⟨_,_,hv⟩
def ln(w:World)(xs:List Value)(t n:Nat)(e:n=w):∀j u,xs[j]?=some u->(w.alloc (.cells xs t)).cell? ((n:Addr).add j)=some u:=by
 intro j u d;subst e;have c:=bj (cT w xs t) _ j _ _ _ (aN w _);have b:(⟨w.heap.size,0,none⟩:Addr).add j=⟨w.heap.size,j,none⟩:=by by_cases a:j=0;subst a;rfl;simp[Addr.add,a]
 rw[b,c];simpa using d
def pB:(prog.info? 9).map (fun i=>(i.zero,i.size,i.bytes))=some (some (.string ⟨#[]⟩),1,16):=az
def Lv{l:List ax}{k n}(a:l[k]?=some n):gQ (l.take (k+1))=gQ (l.take k)++(if n.op=2 then [n.sym]else []):=by unfold gQ;rw[bH,a,fp,List.filterMap_append];by_cases b:n.op=2<;>simp[b]
def xq l:(gQ l)<=l.length:=List.length_filterMap_le _ _
def bN(w:World)(b:Nat)(v:Value)(a:List Bytes):Prop:=w.ownsRow b 9 1 v a (a.map encStr)
def D2:bD=fun x y=>decide (x<=y):=rfl
def uE(l:List ax)(w:World)(e:Ending)(w':World):Prop:=(∃v,e=.returned v/\bN w' w v (symsS l))/\aR w w'
def Lw{w w1 l g cap nn q os ss ts}(s:bN w1 w.heap.size (.slice (some ⟨g,0,none⟩) ss.length cap) ss)(b:aR w w1)(o:w<=g)
 (u:ts=ss.mergeSort bD) (i:symsS l=Lib.compact ts):
 uE l w (.returned (.slice g (Lib.compact ts) cap))
  (Sort.putRow encStr (Sort.ahead (Sort.grow (Sort.putRow encStr (Sort.ahead w1 nn) g 0 ts) os) q) g 0 (Lib.compact ts++List.replicate (ts-(Lib.compact ts)) []).toArray):=by
 have r:ts=ss.length:=by rw[u];simp
 have A:=C5 ts;rcases s.2 with⟨d,_⟩|⟨y,v,x,hv,a,m,e,f,h,z⟩
 cases d
 cases hv
 have t:=ownsRow_sorted (n:=nn) (os:=os) r a m e f h;have c:=Lib.ownsRow_putRow (q:=q) (k:=(Lib.compact ts).length) (ys:=Lib.compact ts++List.replicate (ts.length-(Lib.compact ts).length) []) t aO ad;rw[C6]at c;exact⟨⟨_,rfl,by unfold bN;rw[i];exact c⟩,Lib.below_putRow (b.zu (grownBy_sorted _) b.size (fun j p=>by cases p;exact a)) o⟩
def xr l o cap w(h:dv w o cap l)(d:∀n∈l,n.sym.length<=1048576):
 dB 122 #[.agg #[.slice o l cap]] w (uE l w):=by
 obtain⟨c,K⟩:=am (symsS l);have c:=h.2.1;have c:=h.2.2.1;unfold maxLen at c;have p:aR w (cT w #[.slice o l cap] 52):=aP;have c:=aN w (.cells #[.slice o l cap] 52);have u:=xm l o cap _ (h.O p) d;have m:(w.alloc (.cells #[.slice o l cap] 52))=w.heap.size+1:=bP w _;have⟨E,f⟩:=am (bK l);rw[<-f]at u;by_cases s:E=0
 ·have d:symsS l=dN ((gQ l).mergeSort bD):=by unfold symsS;rw[au (f▸s)]
  have j:l.length<=1024:=by apply dU;intro H;unfold bK at f;rw[au ad,s]at f;cases f
  subst s;have x:=ah d;clear f d K;have⟨W,Q,S,T,V⟩:=cZ pB
  go_in
  go_wp2_with fail
  refine ar u ?_;intro N t;clear u;have G:=p.Z (t.zz p.size);have j:=(t.J _ ad).Z c;have r:=bj N _ 0 _ _ _ j;clear c j p t m
  go_wp2
  go_loopw [3,12] (fun v i wr=>∃k:Nat,i=.int .i64 k/\k<=l/\bN wr w v (gQ (l.take k))/\aR w wr) (fun _ i _=>l-(intOf i).toNat)
  case atStart=>exact⟨0,rfl,aH _,cW _ _ _ _,G⟩
  case round=>
   obtain⟨k,rfl,m,c,j⟩:=hrel;by_cases A:k<l
   ·have O:=bC A
    have m:=bk A;have⟨n,C⟩:=aT A;obtain⟨b,B,rfl,y,m,r,F,I⟩:=(h.O j).at C;have h:=Lv C;have y:=xq (l.take k);rw[eh]at y;obtain⟨B,sym,a,D⟩:=n;simp only at m r F I h;have F:=j.alloc j.size (.cells #[B,sym,a,D] 104);have⟨m,r⟩:=am (gQ (l.take k));rw[<-r]at c y h;have J:bN (cT wr #[B,sym,a,D] 104) w u3 m:=dp c _;clear C;by_cases I:B=2
    ·subst I
     rw[au rfl]at h;have D:=ah h;clear h r;go_wp2_with(first
      |(at_builtin;go_must (apply iV _ rfl _ _ 53 rfl _ 9 W _ 1 16 jM Q S T V rfl aq _ _ _ rfl (dp J _) _ 1 1 _ rfl rfl (ln _ _ _ _ aj) (fun z M=>by simp at M;subst M;rfl) bO ad (by have:=j.size;simp;omega));intro Z C R P Y)
      |go_in)
     go_roundw
     case rel=>exact⟨k+1,aD,ad,by rw[D.o];unfold bN;simpa using R,((F.alloc F.size _).zu P (by have:=j.size;simp;omega) (fun k e=>(aY J k e).1))⟩
     case measure=>exact aM
    have M:(B==2)=false:=by rw[dF];exact I
    rw[ap I,wI]at h;have D:=ah h;clear h r;refine qN ?_;
     exact⟨k+1,aD,ad,by rw[D.o];exact J,F⟩
   ·have O:=bG A
    rw[bI ad]at c;have y:=xq l;have⟨m,r⟩:=am (gQ l);have d:=x.o;rw[<-r]at c y d;have A:=ah d;clear d r x;have h:m.length=0∨0<m.length:=ad;rcases h with h|h
    ·obtain rfl:=pp h
     obtain⟨y,r,rfl⟩:=nK c;have h:([]:List Bytes).length=0:=rfl;rw[h]at c;have h:=Ws y r wr;have H:=Wt y r wr;go_wp2_with fail
     refine ar h ?_;rintro C rfl;clear h;go_wp2_with fail
     refine ar H ?_;rintro C rfl;clear H
     go_wp2
     go_ret;have h:dN (([]:List Bytes).mergeSort bD)=[]:=by simp[dN]
     exact⟨⟨_,rfl,by rw[A.o,h];exact c⟩,j⟩
    ·have D:u3≠ .slice none 0 0:=by
      intro r;rcases c.2 with⟨_,B⟩|⟨g,h,y,hv,_⟩
      omega;rw[r]at hv;cases hv
     obtain⟨g,h,rfl,F,B,H,y,I,r⟩:=Kn c D;have y:=slices_Sort_string g 0 h m wr r B ad;have X:=ah (And.intro c (And.intro r H));clear c r D;have⟨ts,c⟩:=am (m.mergeSort bD);have r:ts=m.length:=by rw[c];simp
     rw[<-D2,<-c]at y;have m:=ah c;clear c;go_wp2_with fail
     refine ar y ?_;rintro C ⟨c,os,rfl⟩;clear y;have y:Sort.Holds encStr (Sort.grow (Sort.putRow encStr (Sort.ahead wr c) g 0 ts.toArray) os) g 0 ts.toArray:=
      Sort.holds_grow encStr _ os g 0 _ (by simpa[Sort.ahead]using B) (Sort.holds_putRow encStr _ g 0 _ _ (Sort.holds_ahead encStr wr c g 0 _ X.out.2.1) (by simp[r]))
     have c:=slices_Compact_string g 0 h ts _ y ad ad;rw[r]at c;clear y;go_wp2_with fail
     refine ar c ?_;rintro C ⟨q,rfl⟩;clear c
     go_wp2
     go_ret;rw[<-r];exact Lw X.out.1 j F m.o (by rw[A.o,xn,m.o])
 ·have c:(E==0)=false:=by rw[dF];exact s
  have d:symsS l=[]:=by unfold symsS;rw[ap (f▸s)]
  have x:=ah d;clear f d K
  go_in
  go_wp2_with fail
  refine ar u ?_;intro N t;clear u;have G:=p.Z (t.zz p.size)
  go_wp2
  go_ret;exact⟨⟨_,rfl,x.o▸cW _ _ _ _⟩,G⟩
structure ai where
 t:aB
 ao:Option Addr
 ac:Nat
 no:Option Addr
 nc:Nat
def typeRow(x:ai):List Value:=[x.t.name,x.t.zv,.slice x.ao x.t.zx x.ac,x.t.key,x.t.text,.slice x.no x.t.E x.nc]
def dV(x:ai):Value:=.agg (typeRow x)
def cI(w:World)(o:Option Addr)(cap:Nat)(l:List Bytes):Prop:=cn w o l cap 1 (l.map encStr)
def cI.O{w w':World}{o:Option Addr}{cap:Nat}{l:List Bytes}(a:cI w o cap l)(b:Below w.heap.size w w'):cI w' o cap l:=cn.O a b
def cI.at{w:World}{o:Option Addr}{cap:Nat}{l:List Bytes}(d:cI w o cap l){k:Nat}{b:Bytes}(c:l[k]?=some b):
 ∃g a,o=some ⟨g,a,none⟩/\g<w.heap.size/\w.cell? ⟨g,a+k,none⟩=some (.string ⟨b.toArray⟩):=by
 have i:=(aF.1 c).1;have⟨g,a,e,h,f⟩:=d.2.2.2 ad;exact⟨g,a,e,h,f k _ (by rw[bR,c];rfl)⟩
def cw(w:World)(o:Option Addr)(cap:Nat)(l:List ai):Prop:=
 cn w o l cap 6 (l.flatMap typeRow)/\∀x∈l,cI w x.ao x.ac x.t.zx/\dv w x.no x.nc x.t.E
def cw.O{w w':World}{o:Option Addr}{cap:Nat}{l:List ai}(a:cw w o cap l)(b:Below w.heap.size w w'):cw w' o cap l:=
 ⟨a.1.O b,fun x c=>⟨(a.2 x c).1.O b,(a.2 x c).2.O b⟩⟩
def cw.at{w:World}{o:Option Addr}{cap:Nat}{l:List ai}(h:cw w o cap l){k:Nat}{x:ai}(g:l[k]?=some x):
 ∃b a,o=some ⟨b,a,none⟩/\b<w.heap.size/\w.cell? ⟨b,a+k*6,none⟩=some (.string ⟨x.t.name.toArray⟩)/\w.cell? ⟨b,a+k*6+1,none⟩=some (.string ⟨x.t.zv.toArray⟩)/\
  w.cell? ⟨b,a+k*6+2,none⟩=some (.slice x.ao x.t.zx.length x.ac)/\w.cell? ⟨b,a+k*6+3,none⟩=some (.string ⟨x.t.key.toArray⟩)/\w.cell? ⟨b,a+k*6+4,none⟩=some (.bool x.t.text)/\
  w.cell? ⟨b,a+k*6+5,none⟩=some (.slice x.no x.t.E.length x.nc):=by
 have j:=(aF.1 g).1;have⟨b,a,e,i,c⟩:=h.1.2.2.2 ad;have d:=oC (f:=typeRow) 6 (fun _=>rfl) g;refine⟨b,a,e,i,?_,?_,?_,?_,?_,?_⟩;exact c _ _ ((d 0 ad).Z rfl);have:=c _ _ ((d 1 ad).Z rfl);omega;have:=c _ _ ((d 2 ad).Z rfl);omega;have:=c _ _ ((d 3 ad).Z rfl);omega;have:=c _ _ ((d 4 ad).Z rfl);omega;have:=c _ _ ((d 5 ad).Z rfl);omega
def me(x:ai):Is (#[.string ⟨x.t.name.toArray⟩,.string ⟨x.t.zv.toArray⟩,.slice x.ao x.t.zx.length x.ac,.string ⟨x.t.key.toArray⟩,.bool x.t.text,.slice x.no x.t.E.length x.nc]:Array Value):={}
def Lx n t:∀ts i r,mV i (ts++[t]) n r=if t.name=n then some (i+ts.length)else mV i ts n r:=by
 intro ts;induction ts with
 |nil=>intro i r;rfl
 |cons x ts ih=>
  intro i r;simp only[jK,mV];rw[ih];simp only[ef];rw[show i+1+ts=i+(ts+1) by omega]
def D3 ts t n:placeS (ts++[t]) n=if t.name=n then ts.length else placeS ts n:=by unfold placeS;rw[Lx,cH]
def kM:List Bytes->Nat
 |[]=>0
 |a::t=>(if t.contains a then 0 else 1)+kM t
def D4 l(a:Bytes):kM (l++[a])=if l.contains a then kM l else kM l+1:=by
 induction l with
 |nil=>rfl
 |cons b t ih=>
  simp only[jK,kM,ih];by_cases e:a=b;subst e;by_cases c:t.contains a=true;simp_all;simp_all;omega;have f:((a==b):Bool)=false:=by simpa using e
  have g:¬b=a:=fun c=>e c.zy;by_cases c:t.contains a=true;by_cases d:t.contains b=true<;>simp_all;by_cases d:t.contains b=true<;>simp_all<;>omega
def Ly l:kM l<=l:=by
 induction l with
 |nil=>simp[kM]
 |cons b t ih=>simp only[kM,ef];split<;>omega
def D5 l:decide (kM l<l)=cz l:=by
 have a:kM l<l.length↔cz l=true:=by
  induction l with
  |nil=>simp[cz]
  |cons b t ih=>
   have f:=Ly t;have e:kM (b::t)=(if t.contains b=true then 0 else 1)+kM t:=rfl;have d:cz (b::t)=(t.contains b||cz t):=rfl;rw[e,d,dA,<-ih,ef];by_cases c:t.contains b=true;rw[au c];exact⟨fun _=>.inl c,fun _=>ad⟩;rw[ap c];exact⟨fun a=>.inr ad,fun a=>by rcases a with a|a;exact absurd a c;omega⟩
 rw[ft,cf];exact a
structure Pl(D:DataW Unit)(ts:List aB):Prop where
 tidy:Maps.Tidy D
 at0:∀n:Bytes,D.atKey (.string n) (.lit (.int .i64 0))=.lit (.int .i64 (((placeS ts n).getD 0:Nat):Int))
 has:∀n:Bytes,Maps.has D (.string n)=(placeS ts n).isSome
 size:Maps.size D=kM (ts.map aB.name)
def D6 ts n:(placeS ts n).isSome=(ts.map aB.name).contains n:=by
 have:∀(l:List aB) (i:Nat) (r:Option Nat),(mV i l n r).isSome=(r.isSome||(l.map aB.name).contains n):=by
  intro l;induction l with
  |nil=>intro i r;simp[mV]
  |cons t l ih=>
   intro i r;simp only[mV,ih,dZ,Ko];by_cases e:t.name=n;simp[e];have a:(n==t.name)=false:=by simpa using fun b=>e b.zy
   simp[e,a]
 simpa[placeS]using this ts 0 none
def Pl.nil:Pl (.map []) []:=⟨Maps.tidy_empty,fun n=>rfl,fun n=>rfl,rfl⟩
def Pl.snoc{D:DataW Unit}{ts:List aB}(a:Pl D ts)(t:aB):Pl (D.put (.string t.name) (.lit (.int .i64 (ts.length:Nat)))) (ts++[t]):=by refine⟨a.tidy.put eY _,fun n=> ?_,fun n=> ?_,?_⟩;rw[D3];by_cases e:t.name=n;subst e;rw[au rfl,Maps.atKey_put_same a.tidy.isMap eY];rfl;rw[ap e,Maps.atKey_put_other (by simpa using fun b=>e b.zy)];exact a.at0 n;rw[D3];by_cases e:t.name=n;subst e;rw[au rfl,Kq a.tidy.isMap eY];rfl;rw[ap e,Kr (by simpa using fun b=>e b.zy)];exact a.has n;rw[Maps.size_put a.tidy,a.has _,D6,gL,dZ,r9,D4,a.size]
end Go.Proofs.YtfeidcmojcijpaaGreatDoor
