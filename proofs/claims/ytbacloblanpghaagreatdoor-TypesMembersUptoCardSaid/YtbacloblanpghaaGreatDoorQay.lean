import Derived.Test.YtbacloblanpghaaGreatDoorQau
set_option linter.unusedVariables false
set_option linter.unusedSimpArgs false
set_option maxRecDepth 100000
set_option maxHeartbeats 0
namespace Go.Proofs.YtbacloblanpghaaGreatDoor
open Go.RowKit Tryz
theorem eP{a w1:World}(b:Below a.heap.size a w1)(o:Obj):Below a.heap.size a (w1.alloc o):=b.alloc b.size o
theorem eQ{a w1:World}(b:Below a.heap.size a w1):Below a.heap.size a w1.drew:=b.drew
theorem dk.take{w:World}{o:Option Addr}{cap:Nat}{c:List Bytes}(d:dk w o cap c)(k:Nat)(m:k<=c.length):dk w o cap (c.take k):=by
 have g:(c.take k).length=k:=by rw[dx];omega
 refine⟨by rw[cd];omega,by have:=d.2.1;omega,d.2.2.1,fun i=> ?_⟩;rw[g]at i;obtain⟨b,l,e,h,f⟩:=d.2.2.2 ad;refine⟨b,l,e,h,fun j u a=>f j u ?_⟩;rw[vI]at a;have:=(aP.1 a).1;rw[List.getElem?_take]at a;split at a
 ·exact a
 ·cases a
theorem dk.drop{w:World}{b e cap:Nat}{a:List Bytes}(d:dk w (some ⟨b,e,none⟩) cap a)(k:Nat)(t:k<=a.length)(o:Option Addr)(p:k<a.length->o=some ⟨b,e+k,none⟩):dk w o (cap-k) (a.drop k):=by
 have l:(a.drop k).length=a.length-k:=gI;have r:=d.2.1;have s:=d.2.2.1;refine⟨by rw[cd];omega,ad,ad,fun n=> ?_⟩;rw[l]at n;obtain⟨b',v,c,m,i⟩:=d.2.2.2 ad;injection c with c
 injection c with g h q
 subst g;subst h;refine⟨b,e+k,p ad,m,fun j u f=> ?_⟩;rw[List.map_drop,vG]at f;rw[fI];exact i (k+j) u f
theorem LA{l:List ar}(c:dW 0 l=true){i:Nat}{n:ar}(b:l[i]?=some n)(a:List Bytes):PRegex.MW (gy l) (aS l i) a↔PRegex.MW (gy l) (ev (aS l) i n) a:=by rw[pU c b]
theorem LC{a:Type}(c:Nat->a)(d:List a):¬PRegex.MW c .none d:=by rintro⟨u,b,_⟩;cases b
theorem LD{b:Type}(e:Nat->b)(a:List b):PRegex.MW e .eps a↔a=[]:=by
 constructor
 ·rintro⟨u,d,c⟩;cases d;simpa using c.symm
 ·rintro rfl;exact⟨[],.eps,rfl⟩
theorem LE{c:Type}(a:Nat->c)(p:Nat)(b:List c):PRegex.MW a (.sym p) b↔b=[a p]:=by
 constructor
 ·rintro⟨u,e,d⟩;cases e;simpa using d.symm
 ·rintro rfl;exact⟨[p],.sym p,rfl⟩
noncomputable def dd(l:List ar)(i:Nat)(a:List Bytes):Bool:= @decide (PRegex.MW (gy l) (aS l i) a) (Classical.propDecidable _)
theorem lS{l:List ar}{i:Nat}{a:List Bytes}:dd l i a=true↔PRegex.MW (gy l) (aS l i) a:=by unfold dd;simp
theorem xM{l:List ar}{i:Nat}{a:List Bytes}{q:Bool}(b:PRegex.MW (gy l) (aS l i) a↔q=true):dd l i a=q:=by rw[eS,lS];exact b
theorem LF(b a n c k:Nat)(f:k<=c)(g:c<=maxLen)(w:World):(Instr.slice 66 (.slice (some ⟨b,a,none⟩) n c) none (some (.int .i64 k)) none).run prog w=.ok (.slice (some ⟨b,a,none⟩) k c) w:=by have d:(0:Int)<=k:=ad;have e:(k:Int)<=c:=ad;simp[go_sem,jE,d,e,f]
theorem LG(b d n c k:Nat)(h:k<=n)(i:n<=c)(w:World):(Instr.slice 66 (.slice (some ⟨b,d,none⟩) n c) (some (.int .i64 k)) none none).run prog w=.ok (.slice (some ⟨b,if c=k then d else d+k,none⟩) (n-k) (c-k)) w:=by
 have e:(0:Int)<=k:=ad;have f:(k:Int)<=n:=ad;have g:(n:Int)<=c:=ad;by_cases a:c=k
 ·rw[au a]
  simp[go_sem,jE,e,f,g,h,a]
 ·rw[ap a]
  simp[go_sem,jE,e,f,g,h,a]
theorem CP(k:Nat)(a:k=0)(w:World):(Instr.slice 66 (.slice none 0 0) none (some (.int .i64 k)) none).run prog w=.ok (.slice none 0 0) w/\(Instr.slice 66 (.slice none 0 0) (some (.int .i64 k)) none none).run prog w=.ok (.slice none 0 0) w:=by subst a;constructor<;>simp[go_sem,jE]
def rM(o:Option Addr)(c:Nat):Prop:=(o=none/\c=0)∨∃b a,o=some ⟨b,a,none⟩
theorem CQ{w:World}{f:Option Addr}{wc:Nat}{c:List Bytes}(d:dk w f wc c)(p:rM f wc)(k:Nat)(e:k<=c.length):
 ∃(h i:Option Addr) (g:Nat),(∀a,(Instr.slice 66 (.slice f c.length wc) none (some (.int .i64 k)) none).run prog a=.ok (.slice h k wc) a)/\(∀a,(Instr.slice 66 (.slice f c.length wc) (some (.int .i64 k)) none none).run prog a=.ok (.slice i (c.length-k) g) a)/\
  dk w h wc (c.take k)/\dk w i g (c.drop k)/\rM h wc/\rM i g:=by
 have m:=d.2.1;have n:=d.2.2.1;rcases p with⟨rfl,rfl⟩|⟨b,l,rfl⟩
 ·have j:c.length=0:=ad
  have o:k=0:=ad;subst o;exact⟨none,none,0,fun a=>by rw[j,(CP 0 rfl a).1],fun a=>by rw[j,(CP 0 rfl a).2],d.take 0 e,d,.inl ⟨rfl,rfl⟩,.inl ⟨rfl,rfl⟩⟩
 ·exact⟨_,_,_,fun a=>LF b l _ wc k ad n a,fun a=>LG b l _ wc k e m a,d.take k e,d.drop k e _ (fun q=>by rw[ap ad]),.inr ⟨_,_,rfl⟩,.inr ⟨_,_,rfl⟩⟩
def M7(l:List ar)(i:Nat)(b:List Bytes)(w:World)(a:Ending)(w':World):Prop:=a=.returned (.bool (dd l i b))/\Below w.heap.size w w'
theorem LH(l:List ar)(o:Option Addr)(cap:Nat)(b4:dW 0 l=true):∀(i m:Nat) (c:List Bytes) (ag:Option Addr) (wc:Nat) (w:World),i<l.length->c.length<=m->di w o cap l->dk w ag wc c->rM ag wc->c.length<=1048576->
 Calls prog 37 #[.slice o l.length cap,.int .i64 i,.slice ag c.length wc] w (M7 l i c w):=by
 intro i;induction i using Nat.strongRecOn with
 |_ i b6=>
 intro m;induction m using Nat.strongRecOn with
 |_ m b7=>
 intro c ag wc w b3 dz P af bg d2;have du:=P.2.1;have ci:=P.2.2.1;have d3:=af.2.1;have cx:=af.2.2.1;unfold maxLen at ci cx;have ds:(i:Int)<l.length:=ad;have dr:(0:Int)<=i:=ad;obtain⟨n,ao⟩:∃n,l[i]?=some n:=⟨_,aF b3⟩;have D:=iM l 0 i n b4 ao;rw[cE]at D;have bf:=fun zs=>LA b4 ao zs;have d1:=lz D;obtain⟨b,ba,rfl,c8,cG,cN,c0,c1⟩:=P.at ao;obtain⟨b8,sym,G,L⟩:=n;have cu:gy l i=sym:=wu ao;simp only at cG cN c0 c1;have b2:=rm D;unfold ev at bf;simp only at bf b2;have s:Below w.heap.size w (w.alloc (.cells #[.int .i64 b8,.string ⟨sym.toArray⟩,.int .i64 G,.int .i64 L] 139)):=az;have E:=aC w (.cells #[.int .i64 b8,.string ⟨sym.toArray⟩,.int .i64 G,.int .i64 L] 139);obtain⟨A,bo⟩:=aj (dd l i c);unfold M7;rw[<-bo];obtain⟨M,a0,b9,c3,K⟩:=ku bo b6 b7 ao bf;clear bo b6 b7 ao bf;go_enter func37,ntmps37
 rcases b2 with rfl|rfl|rfl|rfl|rfl|rfl
 ·have p:A=false:=by rw[M.o];exact xM (by rw[K.o];simp;exact LC _ _)
  have r:=ah p;clear p
  go_wp2
  go_ret;exact⟨by rw[r.o];rfl,s⟩
 ·have p:A=((c.length:Int)==0):=by
   rw[M.o];refine xM ?_;rw[K.o];simp only[au];rw[LD];cases c<;>simp
   omega
  have r:=ah p;clear p
  go_wp2
  go_ret;exact⟨by rw[r.o];rfl,s⟩
 ·have b5:=af.below s
  obtain⟨w0,q⟩:=aj (w.alloc (.cells #[.int .i64 2,.string ⟨sym.toArray⟩,.int .i64 G,.int .i64 L] 139));rw[<-q]at E s b5;have c4:=ai 1 E;have u:A=true↔c=[sym]:=by rw[M.o,lS,K.o];simp only[ap (show¬(2:Int)=1 by decide),au];rw[LE,cu]
  rcases c with _|⟨x,_|⟨y,t⟩⟩
  ·have p:A=false:=by rw[<-fR,u];simp
   have r:=ah p;clear p u;go_wp2_with fail
   rw[<-q];clear q;go_quiet(fail)
   go_wp2
   go_ret;exact⟨by rw[r.o];rfl,dm s _⟩
  ·obtain⟨g,c6,rfl,c9,c2⟩:=b5.at (k:=0) (b:=x) rfl
   rw[mT]at c2;by_cases a6:x=sym
   ·have p:A=true:=by rw[u,a6]
    have r:=ah p;subst a6;clear p u;go_wp2_with fail
    rw[<-q];clear q;go_quiet(fail)
    go_wp2
    go_ret;exact⟨by rw[r.o];rfl,dm s _⟩
   ·have d0:(x==sym)=false:=by simpa using a6
    have p:A=false:=by rw[<-fR,u];simpa using a6
    have r:=ah p;clear p u a6;go_wp2_with fail
    rw[<-q];clear q;go_quiet(fail)
    go_wp2
    go_ret;exact⟨by rw[r.o];rfl,dm s _⟩
  ·have p:A=false:=by rw[<-fR,u];simp
   have r:=ah p;have bu:(((x::y::t).length:Int)==1)=false:=by rw[cW];simp only[de];omega
   clear p u;go_wp2_with fail
   rw[<-q];clear q;go_quiet(fail)
   go_wp2
   go_ret;exact⟨by rw[r.o];rfl,dm s _⟩
 ·obtain⟨J,ae⟩:bM i G=true/\bM i L=true:=by
   unfold dG at D;simp at D;exact⟨by simpa using D.1.2,by simpa using D.2⟩
  have W:=ny J;have bb:=ny ae;obtain⟨e,rfl⟩:∃e:Nat,G=e:=⟨G.toNat,by unfold bM at J;simp at J;omega⟩;obtain⟨b',rfl⟩:∃b':Nat,L=b':=⟨L.toNat,by unfold bM at ae;simp at ae;omega⟩;simp only[iL]at W bb;have u:A=true↔∃k,k<=c.length/\dd l e (c.take k)=true/\dd l b' (c.drop k)=true:=by rw[M.o,lS,K.o];simp only[ap (show¬(3:Int)=1 by decide),ap (show¬(3:Int)=2 by decide),au,iL];rw[PRegex.MW_cat];simp only[lS]
  have N:=ah u;obtain⟨w0,q⟩:=aj (w.alloc (.cells #[.int .i64 3,.string ⟨sym.toArray⟩,.int .i64 e,.int .i64 b'] 139));rw[<-q]at E s;have an:=aN E;have a4:∀a,Below w0.heap.size w0 a->a.cell? ⟨w.heap.size,2,none⟩=some (.int .i64 e)/\a.cell? ⟨w.heap.size,3,none⟩=some (.int .i64 b'):=fun a z=>by have:=(z.block _ an).trans E;exact⟨ai 2 this,ai 3 this⟩
  have al:=ah a4;clear u M K a4 E;go_wp2_with fail
  rw[<-q];clear q;go_loopw [8] (fun v wr=>∃k:Nat,v=.int .i64 k/\k<=c.length+1/\Below w0.heap.size w0 wr/\Hid (∀j,j<k->¬(dd l e (c.take j)=true/\dd l b' (c.drop j)=true))) (fun v _=>c.length+1-(intOf v).toNat)
  case atStart=>exact⟨0,rfl,aK _,aA _ _,fun j be=>ad⟩
  case round=>
   obtain⟨k,rfl,co,C,av⟩:=hrel;have Q:=aD s C;by_cases a5:k<=c.length
   ·have bw:decide ((k:Int)<=c.length)=true:=aM
    obtain⟨a7,a9,a1,cq,cs,a2,a3,bz,bA⟩:=CQ (af.below Q) bg k a5;have bB:(c.take k).length=k:=by rw[dx];omega
    have bE:(c.drop k).length=c.length-k:=gI;have F:∀a,Below wr.heap.size wr a->Calls prog 37 #[.slice (some ⟨b,ba,none⟩) l.length cap,.int .i64 e,.slice a7 k wc] a fun h w'=>h=.returned (.bool (dd l e (c.take k)))/\Below a.heap.size a w':=fun a z=>by have:=a0.o e W c.length (c.take k) a7 wc a ad ad ((P.below Q).below z) (a2.below z) bz ad;rw[bB]at this;exact this
    have B:∀a,Below wr.heap.size wr a->Calls prog 37 #[.slice (some ⟨b,ba,none⟩) l.length cap,.int .i64 b',.slice a9 (c.length-k) a1] a fun h w'=>h=.returned (.bool (dd l b' (c.drop k)))/\Below a.heap.size a w':=fun a z=>by have:=a0.o b' bb c.length (c.drop k) a9 a1 a ad ad ((P.below Q).below z) (a3.below z) bA ad;rw[bE]at this;exact this
    have S:dd l e (c.take k)=true->dd l b' (c.drop k)=true->A=true:=fun bi aa=>N.o.2 ⟨k,a5,bi,aa⟩;have R:¬(dd l e (c.take k)=true/\dd l b' (c.drop k)=true)->∀j,j<k+1->¬(dd l e (c.take j)=true/\dd l b' (c.drop j)=true):=fun h j be=>by
     by_cases aa:j=k
     ·subst aa;exact h
     ·exact av.o j ad
    generalize dd l e (c.take k)=aq at F S R;generalize dd l b' (c.drop k)=bc at B S R;obtain⟨O,H,Y,T⟩:=cI S R F B;obtain⟨bl,c5⟩:=al.o wr C;clear S R F B a2 a3;have cc:wr.drew.cell? ⟨w.heap.size,2,none⟩=some (.int .i64 e):=bl;cases aq with
    |false=>
     have Z:=ah (H.o ak);clear O H;go_wp2_with fail
     refine qR ay ?_;try(change wpAny _ _ _ _ _ _ _ (World.drew _))
     refine bD (i:=0) (v:= ?v0_0) rfl (Or.inl ⟨by rfl,?y0_0⟩) ?r0_0
     case y0_0=>(intro a;go_simp;try with_reducible rfl)
     refine bD (i:=1) (v:= ?v0_1) rfl (Or.inl ⟨by rfl,?y0_1⟩) ?r0_1
     case y0_1=>(intro a;go_simp;try with_reducible rfl)
     refine bD (i:=3) (v:= ?v0_3) rfl (Or.inl ⟨by rfl,?y0_3⟩) ?r0_3
     case y0_3=>(intro a;go_simp;try with_reducible rfl)
     refine bD (i:=4) (v:= ?v0_4) rfl (Or.inl ⟨by rfl,?y0_4⟩) ?r0_4
     case y0_4=>(intro a;go_simp;try with_reducible rfl)
     refine bD (i:=5) (v:= ?v0_5) rfl (Or.inl ⟨by rfl,?y0_5⟩) ?r0_5
     case y0_5=>(intro a;go_simp;try with_reducible rfl)
     refine ij (rs:=[2]) ay ak ?_;refine ik rfl (fun f d=> ?_) il;go_simp;refine d _ _ ?_;clear d f;refine ij (rs:=[6]) ay ak ?_;refine ik rfl (fun f d=> ?_) il;go_simp;(with_reducible refine kP (Y.o _ ?_) ?_;(focus(repeat(first|assumption|exact aA _ _|apply eP|apply eQ)));rintro h X ⟨rfl,I⟩;have V:=aD (w0:=wr) (by repeat(first|assumption|exact aA _ _|apply eP|apply eQ)) I;obtain⟨bm,b0⟩:=al.o X (aD C V))
     refine d _ _ ?_;clear d f;refine bD (i:=7) (v:= ?v0_7) rfl (Or.inl ⟨by rfl,?y0_7⟩) ?r0_7
     case y0_7=>(intro a;go_simp;try with_reducible rfl)
     refine bD (i:=8) (v:=undef) rfl (Or.inr ⟨ay,rfl⟩) ?_;refine bD (i:=9) (v:=undef) rfl (Or.inr ⟨ay,rfl⟩) ?_;refine bD (i:=10) (v:=undef) rfl (Or.inr ⟨ay,rfl⟩) ?_;refine bD (i:=11) (v:=undef) rfl (Or.inr ⟨ay,rfl⟩) ?_;refine bD (i:=12) (v:=undef) rfl (Or.inr ⟨ay,rfl⟩) ?_;refine bD (i:=13) (v:=undef) rfl (Or.inr ⟨ay,rfl⟩) ?_;refine bD (i:=14) (v:=undef) rfl (Or.inr ⟨ay,rfl⟩) ?_;refine bD (i:=15) (v:= ?v0_15) rfl (Or.inl ⟨by rfl,?y0_15⟩) ?r0_15
     case y0_15=>(intro a;go_simp;try with_reducible rfl)
     refine sY ay ?_ _;go_simp
     go_wp2
     go_roundw
     case rel=>exact⟨k+1,aG,ad,aD C (by repeat(first|assumption|exact aA _ _|apply eP|apply eQ)),Z.o⟩
     case measure=>exact aH
    |true=>
     cases bc with
     |false=>
      have Z:=ah (H.o ak);clear O H;go_wp2_with fail
      refine qR ay ?_;try(change wpAny _ _ _ _ _ _ _ (World.drew _))
      refine bD (i:=0) (v:= ?v1_0) rfl (Or.inl ⟨by rfl,?y1_0⟩) ?r1_0
      case y1_0=>(intro a;go_simp;try with_reducible rfl)
      refine bD (i:=1) (v:= ?v1_1) rfl (Or.inl ⟨by rfl,?y1_1⟩) ?r1_1
      case y1_1=>(intro a;go_simp;try with_reducible rfl)
      refine bD (i:=3) (v:= ?v1_3) rfl (Or.inl ⟨by rfl,?y1_3⟩) ?r1_3
      case y1_3=>(intro a;go_simp;try with_reducible rfl)
      refine bD (i:=4) (v:= ?v1_4) rfl (Or.inl ⟨by rfl,?y1_4⟩) ?r1_4
      case y1_4=>(intro a;go_simp;try with_reducible rfl)
      refine bD (i:=5) (v:= ?v1_5) rfl (Or.inl ⟨by rfl,?y1_5⟩) ?r1_5
      case y1_5=>(intro a;go_simp;try with_reducible rfl)
      refine ij (rs:=[2]) ay ak ?_;refine ik rfl (fun f d=> ?_) il;go_simp;refine d _ _ ?_;clear d f;refine ij (rs:=[6]) ay ak ?_;refine ik rfl (fun f d=> ?_) il;go_simp;(with_reducible refine kP (Y.o _ ?_) ?_;(focus(repeat(first|assumption|exact aA _ _|apply eP|apply eQ)));rintro h X ⟨rfl,I⟩;have V:=aD (w0:=wr) (by repeat(first|assumption|exact aA _ _|apply eP|apply eQ)) I;obtain⟨bm,b0⟩:=al.o X (aD C V))
      refine d _ _ ?_;clear d f;refine bD (i:=7) (v:= ?v1_7) rfl (Or.inl ⟨by rfl,?y1_7⟩) ?r1_7
      case y1_7=>(intro a;go_simp;try with_reducible rfl)
      refine bD (i:=8) (v:= ?v1_8) rfl (Or.inl ⟨by rfl,?y1_8⟩) ?r1_8
      case y1_8=>(intro a;go_simp;try with_reducible rfl)
      refine bD (i:=9) (v:= ?v1_9) rfl (Or.inl ⟨by rfl,?y1_9⟩) ?r1_9
      case y1_9=>(intro a;go_simp;try with_reducible rfl)
      refine bD (i:=11) (v:= ?v1_11) rfl (Or.inl ⟨by rfl,?y1_11⟩) ?r1_11
      case y1_11=>(intro a;go_simp;try with_reducible rfl)
      refine bD (i:=12) (v:= ?v1_12) rfl (Or.inl ⟨by rfl,?y1_12⟩) ?r1_12
      case y1_12=>(intro a;go_simp;try with_reducible rfl)
      refine bD (i:=13) (v:= ?v1_13) rfl (Or.inl ⟨by rfl,?y1_13⟩) ?r1_13
      case y1_13=>(intro a;go_simp;try with_reducible rfl)
      refine ij (rs:=[10]) ay ak ?_;refine ik rfl (fun f d=> ?_) il;go_simp;refine d _ _ ?_;clear d f;refine ij (rs:=[14]) ay ak ?_;refine ik rfl (fun f d=> ?_) il;go_simp;(with_reducible refine kP (T.o _ ?_) ?_;(focus(repeat(first|assumption|exact aA _ _|apply eP|apply eQ)));rintro h bZ ⟨rfl,ab⟩;have bt:=aD (w0:=wr) (by repeat(first|assumption|exact aA _ _|apply eP|apply eQ)) ab)
      refine d _ _ ?_;clear d f;refine bD (i:=15) (v:= ?v1_15) rfl (Or.inl ⟨by rfl,?y1_15⟩) ?r1_15
      case y1_15=>(intro a;go_simp;try with_reducible rfl)
      refine sY ay ?_ _;go_simp
      go_wp2
      go_roundw
      case rel=>exact⟨k+1,aG,ad,aD C (by repeat(first|assumption|exact aA _ _|apply eP|apply eQ)),Z.o⟩
      case measure=>exact aH
     |true=>
      have r:=ah (O.o rfl rfl);clear O H;go_wp2_with fail
      refine qR ay ?_;try(change wpAny _ _ _ _ _ _ _ (World.drew _))
      refine bD (i:=0) (v:= ?v2_0) rfl (Or.inl ⟨by rfl,?y2_0⟩) ?r2_0
      case y2_0=>(intro a;go_simp;try with_reducible rfl)
      refine bD (i:=1) (v:= ?v2_1) rfl (Or.inl ⟨by rfl,?y2_1⟩) ?r2_1
      case y2_1=>(intro a;go_simp;try with_reducible rfl)
      refine bD (i:=3) (v:= ?v2_3) rfl (Or.inl ⟨by rfl,?y2_3⟩) ?r2_3
      case y2_3=>(intro a;go_simp;try with_reducible rfl)
      refine bD (i:=4) (v:= ?v2_4) rfl (Or.inl ⟨by rfl,?y2_4⟩) ?r2_4
      case y2_4=>(intro a;go_simp;try with_reducible rfl)
      refine bD (i:=5) (v:= ?v2_5) rfl (Or.inl ⟨by rfl,?y2_5⟩) ?r2_5
      case y2_5=>(intro a;go_simp;try with_reducible rfl)
      refine ij (rs:=[2]) ay ak ?_;refine ik rfl (fun f d=> ?_) il;go_simp;refine d _ _ ?_;clear d f;refine ij (rs:=[6]) ay ak ?_;refine ik rfl (fun f d=> ?_) il;go_simp;(with_reducible refine kP (Y.o _ ?_) ?_;(focus(repeat(first|assumption|exact aA _ _|apply eP|apply eQ)));rintro h X ⟨rfl,I⟩;have V:=aD (w0:=wr) (by repeat(first|assumption|exact aA _ _|apply eP|apply eQ)) I;obtain⟨bm,b0⟩:=al.o X (aD C V))
      refine d _ _ ?_;clear d f;refine bD (i:=7) (v:= ?v2_7) rfl (Or.inl ⟨by rfl,?y2_7⟩) ?r2_7
      case y2_7=>(intro a;go_simp;try with_reducible rfl)
      refine bD (i:=8) (v:= ?v2_8) rfl (Or.inl ⟨by rfl,?y2_8⟩) ?r2_8
      case y2_8=>(intro a;go_simp;try with_reducible rfl)
      refine bD (i:=9) (v:= ?v2_9) rfl (Or.inl ⟨by rfl,?y2_9⟩) ?r2_9
      case y2_9=>(intro a;go_simp;try with_reducible rfl)
      refine bD (i:=11) (v:= ?v2_11) rfl (Or.inl ⟨by rfl,?y2_11⟩) ?r2_11
      case y2_11=>(intro a;go_simp;try with_reducible rfl)
      refine bD (i:=12) (v:= ?v2_12) rfl (Or.inl ⟨by rfl,?y2_12⟩) ?r2_12
      case y2_12=>(intro a;go_simp;try with_reducible rfl)
      refine bD (i:=13) (v:= ?v2_13) rfl (Or.inl ⟨by rfl,?y2_13⟩) ?r2_13
      case y2_13=>(intro a;go_simp;try with_reducible rfl)
      refine ij (rs:=[10]) ay ak ?_;refine ik rfl (fun f d=> ?_) il;go_simp;refine d _ _ ?_;clear d f;refine ij (rs:=[14]) ay ak ?_;refine ik rfl (fun f d=> ?_) il;go_simp;(with_reducible refine kP (T.o _ ?_) ?_;(focus(repeat(first|assumption|exact aA _ _|apply eP|apply eQ)));rintro h bZ ⟨rfl,ab⟩;have bt:=aD (w0:=wr) (by repeat(first|assumption|exact aA _ _|apply eP|apply eQ)) ab)
      refine d _ _ ?_;clear d f;refine bD (i:=15) (v:= ?v2_15) rfl (Or.inl ⟨by rfl,?y2_15⟩) ?r2_15
      case y2_15=>(intro a;go_simp;try with_reducible rfl)
      refine sY ay ?_ _;go_simp
      go_wp2
      go_ret;exact⟨by rw[r.o];rfl,aD s (aD C (by repeat(first|assumption|exact aA _ _|apply eP|apply eQ)))⟩
   ·have bw:decide ((k:Int)<=c.length)=false:=aJ
    have p:A=false:=by rw[<-fR,N.o];rintro⟨j,be,h⟩;exact av.o j ad h
    have r:=ah p;clear p
    go_wp2
    go_ret;exact⟨by rw[r.o];rfl,Q⟩
 ·obtain⟨J,ae⟩:bM i G=true/\bM i L=true:=by
   unfold dG at D;simp at D;exact⟨by simpa using D.1.2,by simpa using D.2⟩
  have W:=ny J;have bb:=ny ae;obtain⟨e,rfl⟩:∃e:Nat,G=e:=⟨G.toNat,by unfold bM at J;simp at J;omega⟩;obtain⟨b',rfl⟩:∃b':Nat,L=b':=⟨L.toNat,by unfold bM at ae;simp at ae;omega⟩;simp only[iL]at W bb;have u:A=(dd l e c||dd l b' c):=by rw[M.o];refine xM ?_;rw[K.o];simp only[ap (show¬(4:Int)=1 by decide),ap (show¬(4:Int)=2 by decide),ap (show¬(4:Int)=3 by decide),au,iL];rw[PRegex.MW_alt,cM,lS,lS]
  have an:=aN E;obtain⟨w0,q⟩:=aj (w.alloc (.cells #[.int .i64 4,.string ⟨sym.toArray⟩,.int .i64 e,.int .i64 b'] 139));rw[<-q]at E s an;have F:=a0.o e W c.length c ag wc w0 ad ad (P.below s) (af.below s) bg ad;have B:∀a,Below w0.heap.size w0 a->Calls prog 37 #[.slice (some ⟨b,ba,none⟩) l.length cap,.int .i64 b',.slice ag c.length wc] a (M7 l b' c a):=fun a z=>
   a0.o b' bb c.length c ag wc a ad ad (P.below (aD s z)) (af.below (aD s z)) bg ad
  unfold M7 at F B;generalize dd l e c=aq at F u;generalize dd l b' c=bc at B u;obtain⟨N,T⟩:=aE u B;clear u B M K;go_wp2_with fail
  rw[<-q];clear q;refine F.mono ?_;rintro h w1 ⟨rfl,bq⟩;clear F;have b1:=aD s bq;cases aq with
  |true=>
   go_wp2
   go_ret;exact⟨by rw[N.o];rfl,b1⟩
  |false=>
   have bm:=ai 3 ((bq.block _ an).trans E);have B:=T.o w1 bq;go_wp2_with fail
   refine B.mono ?_;rintro h d4 ⟨rfl,ce⟩;clear B T;have ch:=aD b1 ce
   go_wp2
   go_ret;exact⟨by rw[N.o];rfl,ch⟩
 ·have J:bM i G=true:=by
   unfold dG at D;simp at D;simpa using D.1.2
  have W:=ny J;obtain⟨e,rfl⟩:∃e:Nat,G=e:=⟨G.toNat,by unfold bM at J;simp at J;omega⟩;simp only[iL]at W;have u:A=true↔c=[]∨∃k,1<=k/\k<=c.length/\dd l e (c.take k)=true/\dd l i (c.drop k)=true:=by
   rw[M.o,lS,K.o];simp only[ap (show¬(5:Int)=1 by decide),ap (show¬(5:Int)=2 by decide),ap (show¬(5:Int)=3 by decide),ap (show¬(5:Int)=4 by decide),au,iL];rw[PRegex.MW_star];have cl:∀zs,PRegex.MW (gy l) (.star (aS l e)) zs↔dd l i zs=true:=fun zs=>by rw[lS,K.o];simp only[ap (show¬(5:Int)=1 by decide),ap (show¬(5:Int)=2 by decide),ap (show¬(5:Int)=3 by decide),ap (show¬(5:Int)=4 by decide),au,iL]
   simp only[cl];simp only[lS]
  have N:=ah u;obtain⟨w0,q⟩:=aj (w.alloc (.cells #[.int .i64 5,.string ⟨sym.toArray⟩,.int .i64 e,.int .i64 L] 139));rw[<-q]at E s;have an:=aN E;have a4:∀a,Below w0.heap.size w0 a->a.cell? ⟨w.heap.size,2,none⟩=some (.int .i64 e):=fun a z=>ai 2 ((z.block _ an).trans E);have al:=ah a4;clear u M K a4 E;by_cases bF:c.length=0
  ·have bu:((c.length:Int)==0)=true:=mq
   have p:A=true:=N.o.2 (.inl (pK bF));have r:=ah p;clear p bF;go_wp2_with fail
   rw[<-q]
   go_wp2
   go_ret;exact⟨by rw[r.o];rfl,s⟩
  have bu:((c.length:Int)==0)=false:=dX;go_wp2_with fail
  rw[<-q];clear q bu;go_loopw [9] (fun v wr=>∃k:Nat,v=.int .i64 k/\1<=k/\k<=c.length+1/\Below w0.heap.size w0 wr/\Hid (∀j,1<=j->j<k->¬(dd l e (c.take j)=true/\dd l i (c.drop j)=true))) (fun v _=>c.length+1-(intOf v).toNat)
  case atStart=>exact⟨1,rfl,aB _,ad,aA _ _,fun j bd c7=>ad⟩
  case round=>
   obtain⟨k,rfl,cp,co,C,av⟩:=hrel;have Q:=aD s C;by_cases a5:k<=c.length
   ·have bw:decide ((k:Int)<=c.length)=true:=aM
    obtain⟨a7,a9,a1,cq,cs,a2,a3,bz,bA⟩:=CQ (af.below Q) bg k a5;have bB:(c.take k).length=k:=by rw[dx];omega
    have bE:(c.drop k).length=c.length-k:=gI;have F:∀a,Below wr.heap.size wr a->Calls prog 37 #[.slice (some ⟨b,ba,none⟩) l.length cap,.int .i64 e,.slice a7 k wc] a fun h w'=>h=.returned (.bool (dd l e (c.take k)))/\Below a.heap.size a w':=fun a z=>by have:=a0.o e W c.length (c.take k) a7 wc a ad ad ((P.below Q).below z) (a2.below z) bz ad;rw[bB]at this;exact this
    have B:∀a,Below wr.heap.size wr a->Calls prog 37 #[.slice (some ⟨b,ba,none⟩) l.length cap,.int .i64 i,.slice a9 (c.length-k) a1] a fun h w'=>h=.returned (.bool (dd l i (c.drop k)))/\Below a.heap.size a w':=fun a z=>by have:=b9.o (c.length-k) ad (c.drop k) a9 a1 a b3 ad ((P.below Q).below z) (a3.below z) bA ad;rw[bE]at this;exact this
    have S:dd l e (c.take k)=true->dd l i (c.drop k)=true->A=true:=fun bi aa=>N.o.2 (.inr ⟨k,cp,a5,bi,aa⟩);have R:¬(dd l e (c.take k)=true/\dd l i (c.drop k)=true)->∀j,1<=j->j<k+1->¬(dd l e (c.take j)=true/\dd l i (c.drop j)=true):=fun h j bd be=>by
     by_cases aa:j=k
     ·subst aa;exact h
     ·exact av.o j bd ad
    generalize dd l e (c.take k)=aq at F S R;generalize dd l i (c.drop k)=bc at B S R;obtain⟨O,H,Y,T⟩:=cI S R F B;have bl:=al.o wr C;clear S R F B a2 a3;have cc:wr.drew.cell? ⟨w.heap.size,2,none⟩=some (.int .i64 e):=bl;cases aq with
    |false=>
     have Z:=ah (H.o ak);clear O H;go_wp2_with fail
     refine qR ay ?_;try(change wpAny _ _ _ _ _ _ _ (World.drew _))
     refine bD (i:=0) (v:= ?v3_0) rfl (Or.inl ⟨by rfl,?y3_0⟩) ?r3_0
     case y3_0=>(intro a;go_simp;try with_reducible rfl)
     refine bD (i:=1) (v:= ?v3_1) rfl (Or.inl ⟨by rfl,?y3_1⟩) ?r3_1
     case y3_1=>(intro a;go_simp;try with_reducible rfl)
     refine bD (i:=3) (v:= ?v3_3) rfl (Or.inl ⟨by rfl,?y3_3⟩) ?r3_3
     case y3_3=>(intro a;go_simp;try with_reducible rfl)
     refine bD (i:=4) (v:= ?v3_4) rfl (Or.inl ⟨by rfl,?y3_4⟩) ?r3_4
     case y3_4=>(intro a;go_simp;try with_reducible rfl)
     refine bD (i:=5) (v:= ?v3_5) rfl (Or.inl ⟨by rfl,?y3_5⟩) ?r3_5
     case y3_5=>(intro a;go_simp;try with_reducible rfl)
     refine ij (rs:=[2]) ay ak ?_;refine ik rfl (fun f d=> ?_) il;go_simp;refine d _ _ ?_;clear d f;refine ij (rs:=[6]) ay ak ?_;refine ik rfl (fun f d=> ?_) il;go_simp;(with_reducible refine kP (Y.o _ ?_) ?_;(focus(repeat(first|assumption|exact aA _ _|apply eP|apply eQ)));rintro h X ⟨rfl,I⟩;have V:=aD (w0:=wr) (by repeat(first|assumption|exact aA _ _|apply eP|apply eQ)) I)
     refine d _ _ ?_;clear d f;refine bD (i:=7) (v:= ?v3_7) rfl (Or.inl ⟨by rfl,?y3_7⟩) ?r3_7
     case y3_7=>(intro a;go_simp;try with_reducible rfl)
     refine bD (i:=8) (v:=undef) rfl (Or.inr ⟨ay,rfl⟩) ?_;refine bD (i:=9) (v:=undef) rfl (Or.inr ⟨ay,rfl⟩) ?_;refine bD (i:=10) (v:=undef) rfl (Or.inr ⟨ay,rfl⟩) ?_;refine bD (i:=11) (v:=undef) rfl (Or.inr ⟨ay,rfl⟩) ?_;refine bD (i:=12) (v:=undef) rfl (Or.inr ⟨ay,rfl⟩) ?_;refine bD (i:=13) (v:=undef) rfl (Or.inr ⟨ay,rfl⟩) ?_;refine bD (i:=14) (v:= ?v3_14) rfl (Or.inl ⟨by rfl,?y3_14⟩) ?r3_14
     case y3_14=>(intro a;go_simp;try with_reducible rfl)
     refine sY ay ?_ _;go_simp
     go_wp2
     go_roundw
     case rel=>exact⟨k+1,aG,ad,ad,aD C (by repeat(first|assumption|exact aA _ _|apply eP|apply eQ)),Z.o⟩
     case measure=>exact aH
    |true=>
     cases bc with
     |false=>
      have Z:=ah (H.o ak);clear O H;go_wp2_with fail
      refine qR ay ?_;try(change wpAny _ _ _ _ _ _ _ (World.drew _))
      refine bD (i:=0) (v:= ?v4_0) rfl (Or.inl ⟨by rfl,?y4_0⟩) ?r4_0
      case y4_0=>(intro a;go_simp;try with_reducible rfl)
      refine bD (i:=1) (v:= ?v4_1) rfl (Or.inl ⟨by rfl,?y4_1⟩) ?r4_1
      case y4_1=>(intro a;go_simp;try with_reducible rfl)
      refine bD (i:=3) (v:= ?v4_3) rfl (Or.inl ⟨by rfl,?y4_3⟩) ?r4_3
      case y4_3=>(intro a;go_simp;try with_reducible rfl)
      refine bD (i:=4) (v:= ?v4_4) rfl (Or.inl ⟨by rfl,?y4_4⟩) ?r4_4
      case y4_4=>(intro a;go_simp;try with_reducible rfl)
      refine bD (i:=5) (v:= ?v4_5) rfl (Or.inl ⟨by rfl,?y4_5⟩) ?r4_5
      case y4_5=>(intro a;go_simp;try with_reducible rfl)
      refine ij (rs:=[2]) ay ak ?_;refine ik rfl (fun f d=> ?_) il;go_simp;refine d _ _ ?_;clear d f;refine ij (rs:=[6]) ay ak ?_;refine ik rfl (fun f d=> ?_) il;go_simp;(with_reducible refine kP (Y.o _ ?_) ?_;(focus(repeat(first|assumption|exact aA _ _|apply eP|apply eQ)));rintro h X ⟨rfl,I⟩;have V:=aD (w0:=wr) (by repeat(first|assumption|exact aA _ _|apply eP|apply eQ)) I)
      refine d _ _ ?_;clear d f;refine bD (i:=7) (v:= ?v4_7) rfl (Or.inl ⟨by rfl,?y4_7⟩) ?r4_7
      case y4_7=>(intro a;go_simp;try with_reducible rfl)
      refine bD (i:=8) (v:= ?v4_8) rfl (Or.inl ⟨by rfl,?y4_8⟩) ?r4_8
      case y4_8=>(intro a;go_simp;try with_reducible rfl)
      refine bD (i:=9) (v:= ?v4_9) rfl (Or.inl ⟨by rfl,?y4_9⟩) ?r4_9
      case y4_9=>(intro a;go_simp;try with_reducible rfl)
      refine bD (i:=10) (v:= ?v4_10) rfl (Or.inl ⟨by rfl,?y4_10⟩) ?r4_10
      case y4_10=>(intro a;go_simp;try with_reducible rfl)
      refine bD (i:=11) (v:= ?v4_11) rfl (Or.inl ⟨by rfl,?y4_11⟩) ?r4_11
      case y4_11=>(intro a;go_simp;try with_reducible rfl)
      refine bD (i:=12) (v:= ?v4_12) rfl (Or.inl ⟨by rfl,?y4_12⟩) ?r4_12
      case y4_12=>(intro a;go_simp;try with_reducible rfl)
      refine ij (rs:=[13]) ay ak ?_;refine ik rfl (fun f d=> ?_) il;go_simp;(with_reducible refine kP (T.o _ ?_) ?_;(focus(repeat(first|assumption|exact aA _ _|apply eP|apply eQ)));rintro h bZ ⟨rfl,ab⟩;have bt:=aD (w0:=wr) (by repeat(first|assumption|exact aA _ _|apply eP|apply eQ)) ab)
      refine d _ _ ?_;clear d f;refine bD (i:=14) (v:= ?v4_14) rfl (Or.inl ⟨by rfl,?y4_14⟩) ?r4_14
      case y4_14=>(intro a;go_simp;try with_reducible rfl)
      refine sY ay ?_ _;go_simp
      go_wp2
      go_roundw
      case rel=>exact⟨k+1,aG,ad,ad,aD C (by repeat(first|assumption|exact aA _ _|apply eP|apply eQ)),Z.o⟩
      case measure=>exact aH
     |true=>
      have r:=ah (O.o rfl rfl);clear O H;go_wp2_with fail
      refine qR ay ?_;try(change wpAny _ _ _ _ _ _ _ (World.drew _))
      refine bD (i:=0) (v:= ?v5_0) rfl (Or.inl ⟨by rfl,?y5_0⟩) ?r5_0
      case y5_0=>(intro a;go_simp;try with_reducible rfl)
      refine bD (i:=1) (v:= ?v5_1) rfl (Or.inl ⟨by rfl,?y5_1⟩) ?r5_1
      case y5_1=>(intro a;go_simp;try with_reducible rfl)
      refine bD (i:=3) (v:= ?v5_3) rfl (Or.inl ⟨by rfl,?y5_3⟩) ?r5_3
      case y5_3=>(intro a;go_simp;try with_reducible rfl)
      refine bD (i:=4) (v:= ?v5_4) rfl (Or.inl ⟨by rfl,?y5_4⟩) ?r5_4
      case y5_4=>(intro a;go_simp;try with_reducible rfl)
      refine bD (i:=5) (v:= ?v5_5) rfl (Or.inl ⟨by rfl,?y5_5⟩) ?r5_5
      case y5_5=>(intro a;go_simp;try with_reducible rfl)
      refine ij (rs:=[2]) ay ak ?_;refine ik rfl (fun f d=> ?_) il;go_simp;refine d _ _ ?_;clear d f;refine ij (rs:=[6]) ay ak ?_;refine ik rfl (fun f d=> ?_) il;go_simp;(with_reducible refine kP (Y.o _ ?_) ?_;(focus(repeat(first|assumption|exact aA _ _|apply eP|apply eQ)));rintro h X ⟨rfl,I⟩;have V:=aD (w0:=wr) (by repeat(first|assumption|exact aA _ _|apply eP|apply eQ)) I)
      refine d _ _ ?_;clear d f;refine bD (i:=7) (v:= ?v5_7) rfl (Or.inl ⟨by rfl,?y5_7⟩) ?r5_7
      case y5_7=>(intro a;go_simp;try with_reducible rfl)
      refine bD (i:=8) (v:= ?v5_8) rfl (Or.inl ⟨by rfl,?y5_8⟩) ?r5_8
      case y5_8=>(intro a;go_simp;try with_reducible rfl)
      refine bD (i:=9) (v:= ?v5_9) rfl (Or.inl ⟨by rfl,?y5_9⟩) ?r5_9
      case y5_9=>(intro a;go_simp;try with_reducible rfl)
      refine bD (i:=10) (v:= ?v5_10) rfl (Or.inl ⟨by rfl,?y5_10⟩) ?r5_10
      case y5_10=>(intro a;go_simp;try with_reducible rfl)
      refine bD (i:=11) (v:= ?v5_11) rfl (Or.inl ⟨by rfl,?y5_11⟩) ?r5_11
      case y5_11=>(intro a;go_simp;try with_reducible rfl)
      refine bD (i:=12) (v:= ?v5_12) rfl (Or.inl ⟨by rfl,?y5_12⟩) ?r5_12
      case y5_12=>(intro a;go_simp;try with_reducible rfl)
      refine ij (rs:=[13]) ay ak ?_;refine ik rfl (fun f d=> ?_) il;go_simp;(with_reducible refine kP (T.o _ ?_) ?_;(focus(repeat(first|assumption|exact aA _ _|apply eP|apply eQ)));rintro h bZ ⟨rfl,ab⟩;have bt:=aD (w0:=wr) (by repeat(first|assumption|exact aA _ _|apply eP|apply eQ)) ab)
      refine d _ _ ?_;clear d f;refine bD (i:=14) (v:= ?v5_14) rfl (Or.inl ⟨by rfl,?y5_14⟩) ?r5_14
      case y5_14=>(intro a;go_simp;try with_reducible rfl)
      refine sY ay ?_ _;go_simp
      go_wp2
      go_ret;exact⟨by rw[r.o];rfl,aD s (aD C (by repeat(first|assumption|exact aA _ _|apply eP|apply eQ)))⟩
   ·have bw:decide ((k:Int)<=c.length)=false:=aJ
    have p:A=false:=by
     rw[<-fR,N.o];rintro(h|⟨j,bd,be,h⟩)
     ·exact bF (by rw[h];rfl)
     ·exact av.o j bd ad h
    have r:=ah p;clear p
    go_wp2
    go_ret;exact⟨by rw[r.o];rfl,Q⟩
end Go.Proofs.YtbacloblanpghaaGreatDoor
