import Derived.Test.YtfeidcmojcijpaaGreatDoorQas
set_option linter.all false
set_option maxRecDepth 100000
set_option maxHeartbeats 0
namespace Go.Proofs.YtfeidcmojcijpaaGreatDoor
open Go.RowKit Tryz
def Qt{ks:List Tr}{i k}(c:ks[i]?=some k):eX (ks.take (i+1))=eX (ks.take i)+eO k:=by
 have:∀(a b:List Tr),eX (a++b)=eX a+eX b:=fun a b=>by induction a with|nil=>simp[eX]|cons x a ih=>simp only[jK,eX,ih];omega
 rw[bH,c,this];rfl
def Qu{ks i k}(c:ks[i]?=some k):eX (ks.take i)+eO k<=eX ks:=by
 have:∀(a b:List Tr),eX (a++b)=eX a+eX b:=fun a b=>by induction a with|nil=>simp[eX]|cons x a ih=>simp only[jK,eX,ih];omega
 have d:=(aF.1 c).1;conv=>rhs;rw[<-ig i ks,this,mT d,(aF.1 c).2]
 simp only[eX];omega
def By:∀{ks} {k},k∈ks->dh k<=ij ks
 |a::ks,k,b=>by
  rw[ij];rcases bX.1 b with rfl|b
  omega;have:=By b;omega
def Gp:∀{ks} {d},(∀k∈ks,dh k<=d)->ij ks<=d
 |[],d,_=>by rw[ij];omega
 |a::ks,d,b=>by rw[ij];have e:=b a (eV ..);have f:=Gp (fun k c=>b k (dM _ c));omega
def Gq t:eO t=eX t.zs+1:=by cases t;rw[eO];rfl
def Bz t:dh t=ij t.zs+1:=by cases t;rw[dh];rfl
def BA(t:Tr)(d n a:Nat)(w:World)(e:Ending)(w':World):Prop:=
 ∃n',e=.returned (.bool (decide (dh t<=d/\eO t<=n)))/\(dh t<=d/\eO t<=n->n'=n-eO t)/\w'.heap[a]?=some (.cells #[.int .i64 n'] 3 (0,0))/\n'<=n/\w.grownBy w' a
def BB(w:World) o Bp:w.grownBy (w.alloc o) (some Bp):=(kf w o none).but _
def Qv Bp:∀N t r (d n:Nat) w,SizeOf.sizeOf t<=N->cE w (fun b=>b≠Bp) t r->w.heap[Bp]?=some (.cells #[.int .i64 n] 3 (0,0))->d<=1048576->n<=1048576->
 dB 73 #[cA t r,.int .i64 d,Bp] w (BA t d n Bp w):=by
 intro N;induction N with
 |zero=>intro t r d n w S;cases t;simp at S
 |succ N ih=>
 intro t r d n w S T O b6 a7;obtain⟨rs,Q,E,R⟩:=T.at_.zs;have D:∃rs:List KA,rs.length=t.zs.length/\kK w (fun b=>b≠Bp) r.ko t.zs.length r.kc 4 (kidRows t.zs rs)/\∀(i:Nat) (k:Tr) (q:KA),t.zs[i]?=some k->rs[i]?=some q->cE w (fun b=>b≠Bp) k q:=by
  cases T with
  |mk b5 rs a7 I b0=>exact⟨rs,a7,I,b0⟩
 clear R E Q rs;obtain⟨rs,Q,E,R⟩:=D;have H:=Gq t;have o:=Bz t;have aa:=fun k (I:k∈t.zs)=>(show SizeOf.sizeOf k<SizeOf.sizeOf t by obtain⟨l,x,a,ks⟩:=t;have:=KT I;simp only[Tr.zs]at this;simp only[Tr.mk.sizeOf_spec];omega)
 unfold BA;have⟨G,z⟩:=am (decide (dh t<=d/\eO t<=n));rw[<-z];have z:G=true↔(dh t<=d/\eO t<=n):=by rw[z];simp
 rw[H,o]at z⊢;obtain⟨l,x,av,ks⟩:=t;obtain⟨y,ac,s,C⟩:=r;unfold cA;simp only[Tr.zv,Tr.text,Tr.zx,Tr.zs]at Q E R z aa⊢;have ca:=E.2.1;have J:=E.2.2.1;unfold maxLen at J;have⟨F,bf,bl,bo⟩:=dE z ih S aa;clear z ih S aa H o T;have Z:=aS O;have K:(w.alloc (.cells (fZ l x y av ac s ks C) 36)).heap[Bp]?=some (.cells #[.int .i64 n] 3 (0,0)):=(br _ _ _ Z).Z O;have b2:=aN w (.cells (fZ l x y av ac s ks C) 36);have W:=BB w (.cells (fZ l x y av ac s ks C) 36) Bp;have bt:(w.alloc (.cells (fZ l x y av ac s ks C) 36)).cell? Bp=some (.int .i64 n):=ak 0 K;have f0:=aJ K 0
 go_in
 by_cases a1:d=0
 ·have g:G=false:=by rw[<-iX,F.o];omega
  have j:=ah g;subst a1;clear g
  go_wp2
  go_ret;exact⟨n,by rw[j.o];rfl,fun e=>ad,K,ay _,W⟩
 have b7:((d:Int)==0)=false:=fU;by_cases bE:n=0
 ·have g:G=false:=by rw[<-iX,F.o];omega
  have j:=ah g;subst bE;clear g a1
  go_wp2
  go_ret;exact⟨0,by rw[j.o];rfl,fun e=>ad,K,ay _,W⟩
 have cc:((n:Int)==0)=false:=fU;have b3:IntKind.i64.wrap (n-1)=n-1:=ox _ ad;have b4:IntKind.i64.wrap (d-1)=d-1:=ox _ ad;go_wp2_with fail
 have b1:(w.setCell ⟨Bp,0,none⟩ (.int .i64 ((n:Int)-1))).heap.size=w.heap.size:=by simp
 have bb:((w.setCell ⟨Bp,0,none⟩ (.int .i64 ((n:Int)-1))).alloc (.cells (fZ l x y av ac s ks C) 36)).heap[Bp]?=some (.cells #[.int .i64 ((n:Int)-1)] 3 (0,0)):=by apply(br _ _ _ (b1▸Z)).Z;rw[heap_setCell_same _ _ _ _ _ _ O];rfl
 have a3:w.grownBy (cT (w.setCell Bp (.int .i64 (n-1))) (fZ l x y av ac s ks C) 36) Bp:=(grownBy_setCell' w Bp _).Z (BB _ _ _);have⟨w1,bc⟩:=am (((w.setCell Bp (.int .i64 (n-1))).alloc (.cells (fZ l x y av ac s ks C) 36)));rw[<-bc]at bb a3⊢;have a5:∀u,w.grownBy u (some Bp)->∀(i:Nat) (k:Tr),ks[i]?=some k->∃b f q,s=some ⟨b,f,none⟩/\u.cell? ⟨b,f+i*4,none⟩=some (.string ⟨k.zv.toArray⟩)/\u.cell? ⟨b,f+i*4+1,none⟩=some (.string ⟨k.text.toArray⟩)/\u.cell? ⟨b,f+i*4+2,none⟩=some (.slice q.ao k.zx.length q.ac)/\u.cell? ⟨b,f+i*4+3,none⟩=some (.slice q.ko k.zs.length q.kc)/\cE u (fun b=>b≠Bp) k q:=by intro u V i k h;have a6:∀b f,b<w.heap.size->b≠Bp->u.cell? ⟨b,f,none⟩=w.cell? ⟨b,f,none⟩/\b≠Bp:=fun b f p M=>⟨ej (V.J b p (fun e=>M (by injection e))),M⟩;have bZ:=(E.zw V.size a6).row;have⟨b,f,q,bF,e,_,ab,ae,af,ag⟩:=qP Q bZ h;exact⟨b,f,q,e,ab,ae,af,ag,(R i k q h bF).zw V.size a6⟩
 have bg:=ah a5;clear bc a5 b2 W K bt f0 O Z;go_loopw [25] (fun v wr=>∃(i m:Nat),v=.int .i64 i/\i<=ks/\wr.heap[Bp]?=some (.cells #[.int .i64 m] 3 (0,0))/\m+eX (ks.take i)+1=n/\Hid (∀k∈ks.take i,dh k<=d-1)/\w.grownBy wr Bp) (fun v _=>ks-(intOf v).toNat)
 case atStart=>exact⟨0,n-1,rfl,aH _,by rw[bb];congr 3;simp;omega,by simp[eX];omega,fun k I=>by simp at I,a3⟩
 case round=>
  obtain⟨i,m,rfl,b8,P,bB,al,X⟩:=hrel;by_cases p:i<ks
  ·have bu:=bC p
   have b9:=bk p;have⟨k,h⟩:=aT p;obtain⟨b,f,q,rfl,ab,ae,af,ag,ao⟩:=bg.o wr X i k h;have J:=aK h;have H:=Qt h;have a0:=Qu h;have a2:=By J;have bA:=X.Z (BB wr (.cells (zz_mt k q) 36) Bp);have ba:(wr.alloc (.cells (zz_mt k q) 36)).heap[Bp]?=some (.cells #[.int .i64 m] 3 (0,0)):=(br _ _ _ (aS P)).Z P;have aw:=ao.zw (w':=cT wr (zz_mt k q) 36) aj (fun b f p M=>⟨ej (br _ _ _ p),M⟩);have D:=bf.o k q (d-1) m _ (jO (bo.o k J) bl.o) aw ba ad ad;rw[show((d-1:Nat))=(d:Int)-1 by omega]at D;unfold BA cA at D;have bd:dh k<=d-1->∀c∈ks.take (i+1),dh c<=d-1:=fun e c A=>by
    rw[bH,h]at A;rcases dk.1 A with A|A
    exact al.o c A;simp at A;subst A;exact e
   have⟨bq,an⟩:=aC bd (And.intro H (And.intro a0 a2));clear bd H a0 a2 h J ao aw P ba;go_wp2_with fail
   apply D.zz;rintro e cg ⟨n',rfl,Y,a9,cb,bz⟩;clear D ab ae af ag;have a4:=bA.Z bz;by_cases B:dh k<=d-1/\eO k<=m
   ·have o:=iS B
    rw[o];have cd:=Y B;have⟨bi,be⟩:=aC B (bq.o B.1);clear o Y B
    go_wp2
    go_roundw
    case rel=>exact⟨_,n',aD,ad,a9,by have:=an.o.1;have:=bi.o.2;omega,be.o,a4⟩
    case measure=>exact aM
   ·have o:=qD B
    rw[o];have g:G=false:=by rw[<-iX,F.o];have:=an.o.2;omega
    have j:=ah g;clear o Y B g
    go_wp2
    go_ret;refine⟨n',by rw[j.o];rfl,fun e=> ?_,a9,ad,a4⟩;exact absurd (F.o.2 e) (by rw[j.o];decide)
  ·have bu:=bG p
   have bw:ij ks<=d-1:=Gp (by have:=al.o;rwa[bI ad]at this);rw[bI ad]at bB;have g:G=true:=by rw[F.o];omega
   have j:=ah g;clear g bw
   go_wp2
   go_ret;exact⟨m,by rw[j.o];rfl,fun e=>ad,P,ad,X⟩
section
def Gr{p q}(h:∀j,q j=true->p j=true){i}(c:p i=true)(d:q i=false):∀n,i<n->((List.range n).filter q)<((List.range n).filter p).length:=by
 have b:∀n,((List.range n).filter q).length<=((List.range n).filter p).length:=fun n=>by
  induction n with
  |zero=>simp
  |succ n ih=>
   rw[tW,pk,pk,ck,ck];cases a:q n with
   |false=>simp[a];omega
   |true=>simp[a,h n a];omega
 intro n;induction n with
 |zero=>intro h;omega
 |succ n ih=>
  intro f;rw[tW,pk,pk,ck,ck];by_cases e:i=n;subst e;have:=b i;simp[c,d];omega;have:=ih ad;cases a:q n with
  |false=>simp[a];omega
  |true=>simp[a,h n a];omega
def Gs{listed:Array Bool}{i}(h:i<listed.size):(listed.setIfInBounds i true).getD i true=true:=by simp
def Gt{F n P md ops Q}(c:Array Bool->Act->World->Prop)
 (step:∀listed a w i,c listed a w->i∈Region.ready md ops listed->wpOpIn F n P ops Q i (fun t w'=>c (listed.setIfInBounds i true) t w') a w)
 (u:∀listed a w,c listed a w->Region.ready md ops listed=[]->Q .normal a w):
 ∀b listed a w,listed.size=ops.size->((List.range ops.size).filter fun i=> !listed.getD i true).length<=b->c listed a w->wpAnyIn F n P md ops Q b listed a w:=by
 intro b;induction b with
 |zero=>
  intro listed a w v x d;have f:Region.ready md ops listed=[]:=by rw[List.eq_nil_iff_forall_not_mem];intro i g;obtain⟨l,o,m,_⟩:=gO.1 g;have r:=(iJ.1 m).1;have:i∈(List.range ops.size).filter fun i=> !listed.getD i true:=jJ.2 ⟨eT.2 r,by rw[l];rfl⟩;have:=zy this;omega
  exact⟨f,u _ _ _ d f⟩
 |succ b ih=>
  intro listed a w v x d;refine⟨fun f=>u _ _ _ d f,fun i g=> ?_⟩;obtain⟨l,o,m,_⟩:=gO.1 g;have r:=(iJ.1 m).1;refine wpOpIn_mono (fun t w' h=>ih _ _ _ (by simpa using v) ?_ h) (step _ _ _ _ d g);have:=Gr (p:=fun j=> !listed.getD j true) (q:=fun j=> !(listed.setIfInBounds i true).getD j true) (fun j s=>by
   by_cases e:i=j;subst e;rw[Gs ad]at s;cases s
   rwa[Dx true e]at s) (i:=i) (by rw[l];rfl) (by rw[Gs ad];rfl) ops.size r
  omega
def ml(w:World)(d:Option Addr)(c b:Nat):Prop:=∃a,a.length=c/\cn w d c b 1 (fB a)/\(d=none->b=0)
def ml.O{w w':World}{c:Option Addr}{b a:Nat}(h:ml w c b a)(g:Below w.heap.size w w'):ml w' c b a:=by obtain⟨i,d,e,f⟩:=h;exact⟨i,d,cn.O e g,f⟩
def ml.put{w:World}{c:Option Addr}{b a l:Nat}{o o':Obj}(h:ml w c b a)(j:w.heap[l]?=some o)(g:o.isCells=false)(i:o'.isCells=false):ml (w.putObj l o') c b a:=by obtain⟨m,d,e,f⟩:=h;exact⟨m,d,Qs j g i e,f⟩
structure R8(fy ji pv xv:Value)(own PA:World->Value->Prop)(IB IY:World->Prop)(L:Nat->Prop)(Y:World)(v23 v24 v25 v26 v27 v28 v29 v30:Value):Prop where
 j0:L 0->v23=fy
 j1:L 1->v24=ji
 j2:L 2->¬L 4->own Y v25
 j3:L 3->v26=pv
 j4:L 4->¬L 6->PA Y v27
 j5:L 5->v28=xv
 j6:L 6->v29=.bool true
 j7:L 7->v30=.bool false
 jb:¬L 6->IB Y
 jy:L 6->IY Y
 jd:L 6->L 0/\L 1/\L 2/\L 3/\L 4/\L 5
 jc:L 4->L 2/\L 3
 je:L 2->L 1
section
variable{fy ji pv xv:Value} {own PA:World->Value->Prop} {IB IY:World->Prop} {L L':Nat->Prop} {Y Y':World} {v23 v24 v25 v26 v27 v28 v29 v30:Value}
 (h:R8 fy ji pv xv own PA IB IY L Y v23 v24 v25 v26 v27 v28 v29 v30)
include h
def R8.s0(b:∀j,L' j↔j=0∨L j)(c:¬L 0):R8 fy ji pv xv own PA IB IY L' Y fy v24 v25 v26 v27 v28 v29 v30:=by have a:¬L 6:=fun e=>c (h.jd e).1;constructor<;>simp only[b]<;>intros<;>(try simp_all);all_goals first|assumption|exact h.j0 ‹_›|exact h.j1 ‹_›|exact h.j3 ‹_›|exact h.j5 ‹_›|exact h.j6 ‹_›|exact h.j7 ‹_›|exact h.j2 ‹_› ‹_›|exact h.j4 ‹_› a|exact h.jc ‹_›|exact h.je ‹_›|exact h.jb a|exact h.jy ‹_›|(have:=h.jd ‹_›;simp_all)|(have:=h.jc ‹_›;simp_all)
def R8.s1(b:∀j,L' j↔j=1∨L j)(c:¬L 1):R8 fy ji pv xv own PA IB IY L' Y v23 ji v25 v26 v27 v28 v29 v30:=by have a:¬L 6:=fun e=>c (h.jd e).2.1;constructor<;>simp only[b]<;>intros<;>(try simp_all);all_goals first|assumption|exact h.j0 ‹_›|exact h.j1 ‹_›|exact h.j3 ‹_›|exact h.j5 ‹_›|exact h.j6 ‹_›|exact h.j7 ‹_›|exact h.j2 ‹_› ‹_›|exact h.j4 ‹_› a|exact h.jc ‹_›|exact h.je ‹_›|exact h.jb a|exact h.jy ‹_›|(have:=h.jd ‹_›;simp_all)|(have:=h.jc ‹_›;simp_all)
def R8.s2{u:Value}(c:∀j,L' j↔j=2∨L j)(b:¬L 2)(d:L 1)(i:own Y' u)(g:IB Y'):R8 fy ji pv xv own PA IB IY L' Y' v23 v24 u v26 v27 v28 v29 v30:=by have a:¬L 6:=fun e=>b (h.jd e).2.2.1;have f:¬L 4:=fun e=>b (h.jc e).1;constructor<;>simp only[c]<;>intros<;>(try simp_all);all_goals first|assumption|exact h.j0 ‹_›|exact h.j1 ‹_›|exact h.j3 ‹_›|exact h.j5 ‹_›|exact h.j6 ‹_›|exact h.j7 ‹_›|exact h.j2 ‹_› ‹_›|exact h.j4 ‹_› a|exact h.jc ‹_›|exact h.je ‹_›|exact h.jb a|exact h.jy ‹_›|(have:=h.jd ‹_›;simp_all)|(have:=h.jc ‹_›;simp_all)
def R8.s3(b:∀j,L' j↔j=3∨L j)(c:¬L 3):R8 fy ji pv xv own PA IB IY L' Y v23 v24 v25 pv v27 v28 v29 v30:=by have a:¬L 6:=fun e=>c (h.jd e).2.2.2.1;constructor<;>simp only[b]<;>intros<;>(try simp_all);all_goals first|assumption|exact h.j0 ‹_›|exact h.j1 ‹_›|exact h.j3 ‹_›|exact h.j5 ‹_›|exact h.j6 ‹_›|exact h.j7 ‹_›|exact h.j2 ‹_› ‹_›|exact h.j4 ‹_› a|exact h.jc ‹_›|exact h.je ‹_›|exact h.jb a|exact h.jy ‹_›|(have:=h.jd ‹_›;simp_all)|(have:=h.jc ‹_›;simp_all)
def R8.s4{u:Value}(b:∀j,L' j↔j=4∨L j)(c:¬L 4)(d:L 2)(f:L 3)(i:PA Y' u)(g:IB Y'):R8 fy ji pv xv own PA IB IY L' Y' v23 v24 v25 v26 u v28 v29 v30:=by have a:¬L 6:=fun e=>c (h.jd e).2.2.2.2.1;constructor<;>simp only[b]<;>intros<;>(try simp_all);all_goals first|assumption|exact h.j0 ‹_›|exact h.j1 ‹_›|exact h.j3 ‹_›|exact h.j5 ‹_›|exact h.j6 ‹_›|exact h.j7 ‹_›|exact h.j2 ‹_› ‹_›|exact h.j4 ‹_› a|exact h.jc ‹_›|exact h.je ‹_›|exact h.jb a|exact h.jy ‹_›|(have:=h.jd ‹_›;simp_all)|(have:=h.jc ‹_›;simp_all)
def R8.s5(b:∀j,L' j↔j=5∨L j)(c:¬L 5):R8 fy ji pv xv own PA IB IY L' Y v23 v24 v25 v26 v27 xv v29 v30:=by have a:¬L 6:=fun e=>c (h.jd e).2.2.2.2.2;constructor<;>simp only[b]<;>intros<;>(try simp_all);all_goals first|assumption|exact h.j0 ‹_›|exact h.j1 ‹_›|exact h.j3 ‹_›|exact h.j5 ‹_›|exact h.j6 ‹_›|exact h.j7 ‹_›|exact h.j2 ‹_› ‹_›|exact h.j4 ‹_› a|exact h.jc ‹_›|exact h.je ‹_›|exact h.jb a|exact h.jy ‹_›|(have:=h.jd ‹_›;simp_all)|(have:=h.jc ‹_›;simp_all)
def R8.s6(a:∀j,L' j↔j=6∨L j)(l:¬L 6)(b:L 0)(c:L 1)(d:L 2)(e:L 3)(f:L 4)(g:L 5)(i:IY Y'):R8 fy ji pv xv own PA IB IY L' Y' v23 v24 v25 v26 v27 v28 (.bool true) v30:=by constructor<;>simp only[a]<;>intros<;>(try simp_all);all_goals first|assumption|exact h.j0 ‹_›|exact h.j1 ‹_›|exact h.j3 ‹_›|exact h.j5 ‹_›|exact h.j6 ‹_›|exact h.j7 ‹_›|exact h.j2 ‹_› ‹_›|exact h.j4 ‹_› h6|exact h.jc ‹_›|exact h.je ‹_›|exact h.jb h6|exact h.jy ‹_›|(have:=h.jd ‹_›;simp_all)|(have:=h.jc ‹_›;simp_all)
def R8.s7(b:∀j,L' j↔j=7∨L j)(c:¬L 7)(a:L 6):R8 fy ji pv xv own PA IB IY L' Y v23 v24 v25 v26 v27 v28 v29 (.bool false):=by constructor<;>simp only[b]<;>intros<;>(try simp_all);all_goals first|assumption|exact h.j0 ‹_›|exact h.j1 ‹_›|exact h.j3 ‹_›|exact h.j5 ‹_›|exact h.j6 ‹_›|exact h.j7 ‹_›|exact h.j2 ‹_› ‹_›|exact h.j4 ‹_› a|exact h.jc ‹_›|exact h.je ‹_›|exact h.jb a|exact h.jy ‹_›|(have:=h.jd ‹_›;simp_all)|(have:=h.jc ‹_›;simp_all)
end
def Qw Y g ty:(Builtin.append_ #[41,41] ty #[.slice (some ⟨g,0,none⟩) 1 1,.slice none 0 0]).run prog Y=.ok (.slice g 1 1) Y:=by rfl
def Gu{listed:Array Bool}{i}(a:i<listed.size) j:(listed.setIfInBounds i true).getD j false=true↔j=i∨listed.getD j false=true:=by by_cases e:i=j;subst e;simp[a];rw[Dx false e];constructor;exact .inr;rintro(h|h);omega;exact h
def Gv{listed:Array Bool}{i}(h:listed.getD i true=false):¬listed.getD i false=true:=by rw[getD_both h];simp
def Gw{Y B v ns}(h:bW Y B v ns)(m:0<ns.length):∃o c,v=.slice o ns c/\ml Y o ns c:=by
 have d:=h;rcases h.2 with⟨_,l⟩|⟨g,cap,i,rfl,_⟩
 omega;have⟨o,c,e,f⟩:=uF d;injection e with a j b
 subst a;subst b;exact⟨_,_,rfl,ns,rfl,f,fun e=>(by cases e)⟩
def Qx{X3 Y g j d pc po}(O:Nat)(i:aR X3 Y)(m:Y.ownsRow X3 3 1 (.slice (some ⟨g,0,none⟩) 1 1) 1 [.int .i64 (j:Nat)])(C:ml Y po d pc)(N:d<=1048576):
 ∃f Y',(∀ty,(Builtin.append_ #[41,41] ty #[.slice g 1 1,.slice po d pc]).run prog Y=.ok f Y')/\(∃o c,f=.slice o (d+1) c/\ml Y' o (d+1) c)/\aR X3 Y':=by
 obtain⟨v,r,t,E⟩:=C;have z:=(aY m g rfl).1;cases po with
 |none=>
  have D:d=0:=by
   rcases zM d with h|h
   exact h;obtain⟨b,K,e,_⟩:=t.2.2.2 h;cases e
  subst D;obtain rfl:=E rfl;have l:bW Y X3 (.slice g 1 1) [j]:=m;exact⟨_,Y,fun ty=>Qw Y g ty,Gw l aj,i⟩
 |some a=>
  have⟨J,A,G,H,I⟩:=cZ lm;have B:∀k u,(fB v)[k]?=some u->Y.cell? (a.add k)=some u:=fun k u p=>by
   have q:=(aF.1 p).1;have:0<d:=by unfold fB at q;simp at q;omega
   have⟨b,K,e,_,y⟩:=t.2.2.2 this;injection e with e
   rw[e,Addr.add_mid];exact y k u p
  have⟨f,Y',F,l,w,M⟩:=run_append_own Y _ 41 41 3 J _ 1 8 j9 A G H I rfl aq _ _ _ m a d pc _ (by unfold fB;simp;omega) B (fun u n=>by unfold fB at n;simp at n;obtain⟨k,_,rfl⟩:=n;rfl) bO ad i.size;have x:bW Y' X3.heap.size f (j::v):=by unfold bW;rw[ef,r,Dy];exact l
  have s:=Gw x aj;rw[ef,r]at s;refine⟨f,Y',fun ty=> ?_,s,?_⟩;rw[<-F];rfl;exact i.zu w i.size (fun k e=>by cases e;exact z)
def yz(S:World->Nat->Prop)(t:Tr)(k:Nat)(W:World)(args:Array Value):Prop:=
 ∃(m:Tr) (q:KA) (c:Option Addr) (a b:Nat),(nodesT t)[k]?=m/\args=#[.slice c a b,cA m q]/\cE W (S W) m q/\ml W c a b/\a<dh t
def Gx{S t k W args}(h:yz S t k W args):args.size=2:=by obtain⟨_,_,_,_,_,_,rfl,_⟩:=h;rfl
def Gy t r w:de 74 #[cA t r] w (.func (.func 130) #[] #[w]) fun w'=>w'=cT w (zz_mt t r) 36:=by
 unfold cA
 go_in
 go_wp2
 go_ret;simp
def Gz:∀args a,(callFunc 130 args).run prog a=.ok (.enter 130 args) a:=fun _ _=>rfl
attribute [local go_sem] wO
structure tj(S:World->Nat->Prop)(W0 W:World)(l TB YB:Nat)(t:Tr)(r:KA):Prop where
 tb:W.heap[TB]?=some (.cells (zz_mt t r) 36)
 tbs:S W TB
 yb:W.heap[YB]?=some (.cells #[.func (.yield l) #[] #[]] 210)
 ybs:S W YB
 tree:cE W (S W) t r
def tj.kp{S:World->Nat->Prop}(d:nZ S){b W W':World}{l a c:Nat}{t:Tr}{r:KA}(h:tj S b W l a c t r)(k:Kp S W W'):tj S b W' l a c t r:=
 ⟨(k.same _ h.tbs).2.Z h.tb,(k.same _ h.tbs).1,(k.same _ h.ybs).2.Z h.yb,(k.same _ h.ybs).1,k.tree d h.tree⟩
def cE.kidsIn{w:World}{P:Nat->Prop}{t:Tr}{r:KA}(h:cE w P t r):∃rs:List KA,rs.length=t.zs.length/\kK w P r.ko t.zs.length r.kc 4 (kidRows t.zs rs)/\∀(i:Nat) (k:Tr) (q:KA),t.zs[i]?=some k->rs[i]?=some q->cE w P k q:=by
 cases h with
 |mk d rs b a c=>exact⟨rs,b,a,c⟩
def GA{ks:List Tr}{j k}(h:ks[j]?=some k):di (ks.take (j+1))=di (ks.take j)++nodesT k:=by
 have c:∀a b:List Tr,di (a++b)=di a++di b:=fun a b=>by
  induction a with
  |nil=>rfl
  |cons x a ih=>simp[di,ih]
 rw[bH,h,fp,c];simp[di]
def Qy{ks j k}(h:ks[j]?=some k){m x}(c:(nodesT k)[m]?=some x):(di ks)[(di (ks.take j)).length+m]?=some x:=by
 have d:∀a b:List Tr,di (a++b)=di a++di b:=fun a b=>by
  induction a with
  |nil=>rfl
  |cons x a ih=>simp[di,ih]
 have f:=(aF.1 c).1;have e:di ks=(di (ks.take j)++nodesT k)++di (ks.drop (j+1)):=by rw[<-GA h,<-d,ig]
 rw[e,eC (by rw[ck];omega),gp ad,Kx];exact c
def Qz{t j k}(h:t.zs[j]?=some k){m x}(a:(nodesT k)[m]?=some x):(nodesT t)[1+(di (t.zs.take j)).length+m]?=some x:=by
 cases t with
 |mk b c av ks=>
  have:=Qy (ks:=ks) h a;simp only[nodesT,Tr.zs];rw[show 1+(di (ks.take j))+m=((di (ks.take j))+m)+1 by omega,jw];exact this
def BC t:(nodesT t)=1+(di t.zs).length:=by
 cases t with
 |mk a b av ks=>simp[nodesT,Tr.zs];omega
structure mn(S:World->Nat->Prop)(Inv:Nat->World->Prop)(W:World)(l TB:Nat)(t:Tr)(r:KA)(cnt j IBk:Nat)(Ds:List Nat)(m:Nat)(X:World):Prop where
 inv:Inv (cnt+m) X
 st:tj S W X l TB W.heap.size t r
 ib:X.heap[IBk]?=some (.cells #[.int .i64 (j:Nat)] 3)
 ibs:S X IBk
 ds:∀D∈Ds,S X D/\X.heap[D]?=some (.deferred (some []))
def mn.O{S:World->Nat->Prop}(a:nZ S){Inv:Nat->World->Prop}{W:World}{l n:Nat}{t:Tr}{r:KA}{p j i:Nat}{g:List Nat}{m:Nat}{c f:World}(q:∀k d o,Inv k d->Below d.heap.size d o->Inv k o)(h:mn S Inv W l n t r p j i g m c)(b:Below c.heap.size c f):mn S Inv W l n t r p j i g m f:=
 ⟨q _ _ _ h.inv b,h.st.kp a (Kp.of a b),(b.J _ (a.lt h.ibs)).Z h.ib,a.grow h.ibs b,fun D e=>⟨a.grow (h.ds D e).1 b,(b.J D (a.lt (h.ds D e).1)).Z (h.ds D e).2⟩⟩
def mn.next{S:World->Nat->Prop}(n:nZ S){Inv:Nat->World->Prop}{W:World}{l i:Nat}{t:Tr}{r:KA}{c j g:Nat}{f:List Nat}{m:Nat}{e b:World}(h:mn S Inv W l i t r c j g f m e)(a:Kp S e b)(o:Inv (c+m+1) b):mn S Inv W l i t r c j g f (m+1) b:=
 ⟨o,h.st.kp n a,(a.same _ h.ibs).2.Z h.ib,(a.same _ h.ibs).1,fun D d=>⟨(a.same _ (h.ds D d).1).1,(a.same _ (h.ds D d).1).2.Z (h.ds D d).2⟩⟩
def mn.put{S:World->Nat->Prop}(b:nZ S){Inv:Nat->World->Prop}{W:World}{l n:Nat}{t:Tr}{r:KA}{p j i:Nat}{g:List Nat}{m:Nat}{f:World}{a:Nat}{o o':Obj}(x:Inv (p+m) (f.putObj a o'))(h:mn S Inv W l n t r p j i g m f)
 (s:n≠a) (u:W.heap.size≠a) (v:i≠a) (w:∀D∈g,D≠a) (c:f.heap[a]?=some o) (d:o.isCells=false) (e:o'.isCells=false):mn S Inv W l n t r p j i g m (f.putObj a o'):=
 ⟨x,⟨(eK s).Z h.st.tb,b.put h.st.tbs c d e,(eK u).Z h.st.yb,b.put h.st.ybs c d e,yy b c d e h.st.tree⟩,(eK v).Z h.ib,b.put h.ibs c d e,
   fun D q=>⟨b.put (h.ds D q).1 c d e,(eK (w D q)).Z (h.ds D q).2⟩⟩
def QA(S:World->Nat->Prop)(d:nZ S):∀(n:Nat) (t:Tr) (r:KA) (f:Nat) (w:World),SizeOf.sizeOf t<=n->cE w (S w) t r->(∀m∈nodesT t,m.zs.length<=1048576)->dh t<=1048576->w.heap[f]?=some (.cells (zz_mt t r) 36)->S w f->
 Gm S prog 130 #[.pointer (some ⟨f,0,none⟩)] (nodesT t).length (yz S t) w:=by
 intro n;induction n with
 |zero=>intro t r f w s;cases t;simp at s
 |succ n ih=>
 intro t r f w s z bf A y B l Inv W u R a0 be C;have s:=(iJ.1 y).1;have H:W.heap[f]?=_:=(u.J f s).Z y;have A:S W f:=d.grow B u;have E:cE W (S W) t r:=z.zw u.size fun b G M B=>⟨u.cell (p:=⟨b,G,none⟩) M,d.grow B u⟩;obtain⟨z,y,J⟩:=fQ W (.cells #[.func (.yield l) #[] #[]] 210);have s:=fH y;have s:tj S W z l f W.heap.size t r:=⟨(J.J _ (aQ u.size)).Z H,d.grow A J,by rw[y];exact aN W _,d.new A J (ay _) ad,E.zw J.size fun b G M B=>⟨J.cell (p:=⟨b,G,none⟩) M,d.grow B J⟩⟩;have u:Inv 0 z:=R _ _ _ C J;have K:=ak 0 s.tb;have N:=ak 1 s.tb;have O:=ak 2 s.tb;have A:=ak 3 s.tb;have al:=ak 0 s.yb;have P:0<(nodesT t).length:=by cases t;simp[nodesT]
 have I:(nodesT t)[0]?=some t:=by cases t;simp[nodesT]
 obtain⟨fn,tmps,assign,body,H,C⟩:=Gk (m':=8)<|be 0 z #[.slice none 0 0,cA t r] P u ⟨t,r,none,0,0,I,rfl,s.tree,⟨[],rfl,⟨rfl,ay _,aH _,fun h=>absurd h (tY _)⟩,fun _=>rfl⟩,by have:=Bz t;omega⟩
 unfold cA at H;have z:=ah s;clear s E;refine(lh (n:=9)).1 (KH func130 rfl trivial ?_ rfl);simp only[ntmps130,Dd,ef,gN,Nat.reduceAdd,Nat.reduceSub,De,Df,Dg,Dh,qE,jK]
 gi_wp2_with (first
  |(rw[<-y];clear y)
  |fail)
 refine C.zz ?_;rintro e I ⟨rfl,y,u⟩;have s:=ah (z.o.kp d u);clear H C K N O A al;have A:=ak 3 s.o.tb
 gi_wp2
 obtain⟨rs,N,A,P⟩:=s.o.tree.kidsIn;have z:=A.row;have a3:=ah u;have C:=bf t (by cases t;simp[nodesT]);have C:=z.2.2.1;unfold maxLen at C;have E:=z.2.1;have H:=ah y;clear u y;refine wpIn_loop (fun a W'=>∃(j:Nat) (E:List Nat) (u3 u4 u5 u6 u15 u16 u17 u18 u19 u20 u21 u22 u23 u24 u25 u26 u27 u28 u29 u30 u31:Value),a={tmps:=#[.func (.yield l) #[] #[],.pointer (some ⟨f,0,none⟩),.pointer (some ⟨W.heap.size,0,none⟩),u3,u4,u5,u6,.func (.yield l) #[] #[],.agg (zz_mt t r),.bool true,.bool false,.pointer (some ⟨f,3,none⟩),.slice r.ko t.zs.length r.kc,.int .i64 (t.zs.length:Nat),.int .i64 (j:Nat),u15,u16,u17,u18,u19,u20,u21,u22,u23,u24,u25,u26,u27,u28,u29,u30,u31],defers:=E.map fun D=>{target:=.collected D,args:=#[]}}/\j<=t.zs.length/\E.Nodup/\
  (∀D∈E,S W' D/\W.heap.size<=D/\W'.heap[D]?=some (.deferred (some [])))/\Hid (Inv (1+(di (t.zs.take j)).length) W')/\Hid (tj S W W' l f W.heap.size t r)/\Hid (Kp S I W'))
  (fun a _=>t.zs.length-(intOf (a.tmps.getD 14 undef)).toNat) ?_ ?_
 refine⟨0,[],_,_,_,_,_,_,_,_,_,_,_,_,_,_,_,_,_,_,_,_,_,rfl,aH _,Dz,fun D h=>by(cases h),?_,s,Kp.refl S I⟩;exact H.o
 ·rintro a s ⟨j,E,u3,u4,u5,u6,u15,u16,u17,u18,u19,u20,u21,u22,u23,u24,u25,u26,u27,u28,u29,u30,u31,rfl,u,bi,Z,a2,O,V⟩
  by_cases M:j<t.zs.length
  ·have co:=bC M
   have u:=bk M;have u:=aL j;obtain⟨u,H⟩:=aT M;obtain⟨b,G,q,y,K,ci,b3,b4,b5,b6⟩:=qP N z H;have bg:cE s (S s) u q:=V.o.tree d (P j u q H y);have N:S I b:=by
    obtain⟨Q,T,y,_,P,_⟩:=A.2.2.2 ad;rw[K]at y;injection y with y
    injection y with aw a6 Q
    rw[aw];exact P
   have A:=(V.o.same b N).2;have dc:=(ej (w:=I) (w':=s) (a:=⟨b,G+j*4,none⟩) A).Z b3;have dl:=(ej (w:=I) (w':=s) (a:=⟨b,G+j*4+1,none⟩) A).Z b4;have dm:=(ej (w:=I) (w':=s) (a:=⟨b,G+j*4+2,none⟩) A).Z b5;have dn:=(ej (w:=I) (w':=s) (a:=⟨b,G+j*4+3,none⟩) A).Z b6;rw[K]at z;obtain⟨y,z⟩:=am ((s.alloc (.cells #[.int .i64 (j:Nat)] 3)).alloc (.cells (zz_mt u q) 36));have P:Below s.heap.size s y:=by rw[z];exact aP.alloc aj _
   have c5:y.heap.size=s.heap.size+2:=by rw[z];simp
   have T:y.heap[s.heap.size]?=some (.cells #[.int .i64 (j:Nat)] 3):=by rw[z];exact(br _ _ _ aj).Z (aN s _)
   have f4:y.heap[s.heap.size+1]?=some (.cells (zz_mt u q) 36):=by rw[z];have:=aN (s.alloc (.cells #[.int .i64 (j:Nat)] 3)) (.cells (zz_mt u q) 36);rwa[bP]at this
   obtain⟨c0,c1,c2,c3⟩:=dC f4;have N:=Gy u q y;unfold cA at N;obtain⟨b8,b9,cd,cb,ao,a4⟩:=iL P T N bg H Z;have cp:=K;rw[K];clear P T f4 N b3 b4 b5 b6 bg H Z A
   gi_wp2_with (first
    |(rw[<-z];clear z dc dl dm dn)
    |fail)
   refine⟨trivial,?_⟩;refine(lh.2 cd.o).zz ?_;rintro e A ⟨rfl,H⟩;have K:Below y.heap.size y A:=by rw[H];exact aP
   have bE:A.heap.size=y.heap.size+1:=by rw[H];simp
   have P:A.heap[y.heap.size]?=some (.cells (zz_mt u q) 36):=by rw[H];exact aN y _
   rw[c5]at P;have z:Below s.heap.size s A:=b8.o.Z (K.zz ad);obtain⟨N,T⟩:=aC (O.o.kp d (Kp.of d z)) (R _ _ _ a2.o z);have cS:A.heap[s.heap.size]?=some (.cells #[.int .i64 (j:Nat)] 3):=(K.J _ ad).Z b9.o;have c8:S A s.heap.size:=d.new O.o.tbs z (ay _) ad;have c9:S A (s.heap.size+2):=d.new O.o.tbs z ad ad;have O:cE A (S A) u q:=(Kp.of d z).tree d cb.o;have ab:∀D∈E,S A D/\A.heap[D]?=some (.deferred (some [])):=fun D y=>by obtain⟨aa,a7,a9⟩:=a4.o D y;exact⟨d.grow aa z,(z.J D (d.lt aa)).Z a9⟩
   have ea:=z.size;have dz:=V.o.size;have du:=a3.o.size;have b7:=ah z;clear c0 c1 c2 c3 H K z
   gi_wp2
   have C:=aK ao.o;have z:=Bi C;have z:=Bz t;have z:=By C;have z:=ih u q (s.heap.size+2) A ad O (fun m H=>bf m (Bh C H)) ad P c9;refine Gn d f N.o.tbs 9 130 #[.pointer (some ⟨s.heap.size+2,0,none⟩)] (nodesT u).length (yz S u) rfl Gz z (fun k X args h=>Gx h)
    (mn S Inv W l f t r (1+(di (t.zs.take j)).length) j s.heap.size E) ?_ ?_ ?_ ?_ ?_
   exact fun k K z h B=>h.O d R B;intro k K O o o' h P C z H;have cs:=d.lt N.o.tbs;have cu:=d.lt N.o.ybs;exact h.put d (a0 _ _ _ _ _ h.inv ad C z H) ad ad ad (fun D y=>by have:=d.lt (ab D y).1;omega) C z H;exact⟨T.o,N.o,cS,c8,ab⟩
   ·rintro ae k X args busy m H bb z K ⟨c4,a1⟩
    obtain⟨x,H,ag,O,af,cO,rfl,bt,bl,K⟩:=z;unfold cA;obtain⟨av,z,P⟩:=fQ X (.cells (zz_mt x H) 36);have a5:=fH z;have bd:=iC z
    gi_wp2_with (first
     |(rw[<-z];clear z)
     |fail)
    refine⟨P,?_⟩;have cq:ae<X.heap.size:=(iJ.1 a1).1;have c6:av.heap.size=X.heap.size+1:=a5;obtain⟨z,K⟩:=am (av.putObj ae (.loop busy));rw[<-K];have T:av.heap[ae]?=some (.loop c4):=(P.J _ cq).Z a1;have cs:=d.lt N.o.tbs;have cu:=d.lt N.o.ybs;have N:=bb.O d R P;have bc:mn S Inv W l f t r (1+(di (t.zs.take j)).length) j s.heap.size E k z:=by rw[K];exact N.put d (a0 _ _ _ _ _ N.inv ad T rfl rfl) ad ad ad (fun D y=>by have:=d.lt (ab D y).1;omega) T rfl rfl
    have bu:cE z (S z) x H:=by rw[K];exact yy d T rfl rfl ((Kp.of d P).tree d bt)
    have bo:ml z ag O af:=by rw[K];exact(bl.O P).put T rfl rfl
    have bw:z.heap[X.heap.size]?=some (.cells (zz_mt x H) 36):=by rw[K];exact(eK ad).Z bd
    have c7:z.heap.size=X.heap.size+1:=by rw[K,n5];exact c6
    clear K a1 T bb N P bt bl bd a5;obtain⟨K,P⟩:=am (World.drew z);have N:Below z.heap.size z K:=by rw[P];exact(aA _ _).drew
    have T:K.heap.size=X.heap.size+1:=by rw[P];exact c7
    obtain⟨T,cg,cc⟩:=bm (bc.O d R N) ((Kp.of d N).tree d bu) (bo.O N);have bz:=(N.J _ ad).Z bw;have an:Hid (∀Y,Below K.heap.size K Y->Y.cell? ⟨W.heap.size,0,none⟩=some (.func (.yield l) #[] #[])/\Y.cell? ⟨s.heap.size,0,none⟩=some (.int .i64 (j:Nat))/\Y.cell? ⟨X.heap.size,0,none⟩=some (.string ⟨x.zv.toArray⟩)/\Y.cell? ⟨X.heap.size,1,none⟩=some (.string ⟨x.text.toArray⟩)/\Y.cell? ⟨X.heap.size,2,none⟩=some (.slice H.ao x.zx.length H.ac)/\Y.cell? ⟨X.heap.size,3,none⟩=some (.slice H.ko x.zs.length H.kc)):=fun Y B=>by have aw:=(B.J _ (d.lt T.o.st.ybs)).Z T.o.st.yb;have a6:=(B.J _ (d.lt T.o.ibs)).Z T.o.ib;have Q:=(B.J _ ad).Z bz;exact⟨ak 0 aw,ak 0 a6,ak 0 Q,ak 1 Q,ak 2 Q,ak 3 Q⟩
    have ca:=ah (Kp.of d N);clear bc bu bo bw bz N
    gi_wp2
    refine wpIn_region_any az ?_;change wpAnyIn _ _ _ _ _ _ _ _ _ (World.drew z);rw[<-P];clear P;refine Gt (fun listed a Y=>listed.size=8/\∃v23 v24 v25 v26 v27 v28 v29 v30:Value,a={tmps:=#[.func (.yield l) #[] #[],.pointer (some ⟨f,0,none⟩),.pointer (some ⟨W.heap.size,0,none⟩),.pointer (some ⟨s.heap.size,0,none⟩),.pointer (some ⟨s.heap.size+1,0,none⟩),.slice ag O af,.pointer (some ⟨X.heap.size,0,none⟩),.func (.yield l) #[] #[],.agg (fZ t.zv t.text r.ao t.zx r.ac (some ⟨b,G,none⟩) t.zs r.kc),.bool true,.bool false,.pointer (some ⟨f,3,none⟩),.slice (some ⟨b,G,none⟩) t.zs.length r.kc,.int .i64 (t.zs.length:Nat),.int .i64 (j:Nat),.bool true,.int .i64 (j:Nat),.pointer (some ⟨b,G+j*4,none⟩),.agg (zz_mt u q),.agg (zz_mt u q),.func (.func 130) #[] #[.pointer (some ⟨s.heap.size+2,0,none⟩)],.slice ag O af,.agg (zz_mt x H),v23,v24,v25,v26,v27,v28,v29,v30,u31],defers:=[]}/\
     R8 (.func (.yield l) #[] #[]) (.int .i64 (j:Nat)) (.slice ag O af) (.agg (zz_mt x H))
      (fun Y v=>∃g,v=.slice (some ⟨g,0,none⟩) 1 1/\Y.ownsRow K.heap.size 3 1 v 1 [.int .i64 (j:Nat)]) (fun Y v=>∃o c,v=.slice o (O+1) c/\ml Y o (O+1) c)
      (fun Y=>Below K.heap.size K Y) (fun Y=>mn S Inv W l f t r (1+(di (t.zs.take j)).length) j s.heap.size E (k+1) Y/\Kp S z Y) (fun i=>listed.getD i false=true) Y v23 v24 v25 v26 v27 v28 v29 v30) ?_ ?_ 8 (Array.replicate 8 false) _ _ rfl aq ?_
    ·rintro listed a Y i ⟨bq,v23,v24,v25,v26,v27,v28,v29,v30,rfl,f⟩ u
     obtain⟨z,o,C,Q⟩:=gO.1 u;have u:=Gv z;have z:i<8:=(iJ.1 C).1;have K:=Gu (listed:=listed) (i:=i) ad;have N:(listed.setIfInBounds i true).size=8:=by simpa using bq
     rcases(show i=0∨i=1∨i=2∨i=3∨i=4∨i=5∨i=6∨i=7 by omega)with rfl|rfl|rfl|rfl|rfl|rfl|rfl|rfl
     obtain⟨bF,al,bZ,b0,b1,b2⟩:=an.o Y (f.jb fun e=>u (f.jd e).1);refine kG rfl (fun P z=> ?_);go_simp;refine z _ _ ?_;exact⟨N,_,v24,v25,v26,v27,v28,v29,v30,rfl,f.s0 K u⟩;obtain⟨bF,al,bZ,b0,b1,b2⟩:=an.o Y (f.jb fun e=>u (f.jd e).2.1);refine kG rfl (fun P z=> ?_);go_simp;refine z _ _ ?_;exact⟨N,v23,_,v25,v26,v27,v28,v29,v30,rfl,f.s1 K u⟩;have G:=f.jb fun e=>u (f.jd e).2.2.1;simp only[iU,jw,mR,lX]at C;subst C;have d1:=Q {on:=1,ground:=.data} aj rfl;obtain rfl:=f.j1 d1;refine kG rfl (fun P z=> ?_);go_simp;refine z _ _ ?_;exact⟨N,v23,_,_,v26,v27,v28,v29,v30,rfl,f.s2 K u d1 ⟨Y.heap.size,rfl,rfl,.inr ⟨Y.heap.size,1,#[.int .i64 (j:Nat)],rfl,G.size,aN Y _,ay _,aq,rfl,rfl⟩⟩ (G.alloc G.size _)⟩;refine kG rfl (fun P z=> ?_);go_simp;refine z _ _ ?_;exact⟨N,v23,v24,v25,_,v27,v28,v29,v30,rfl,f.s3 K u⟩;have cv:¬listed.getD 6 false=true:=fun e=>u (f.jd e).2.2.2.2.1;have G:=f.jb cv;simp only[iU,jw,mR,lX]at C;subst C;have d2:=Q {on:=2,ground:=.data} aj rfl;have d3:=Q {on:=3,ground:=.data} aj rfl;obtain rfl:=f.j3 d3;obtain⟨g,rfl,cx⟩:=f.j2 d2 u;obtain⟨ec,Y',cN,cL,ch⟩:=Qx j G cx (cc.o.O G) ad;refine kG rfl (fun P z=> ?_);rw[au (by simp[Region.wanted])];unfold Oper.wpIn;refine⟨by simp[Oper.about,resolve,Target.leads,wR],?_⟩;rw[Oper.semAt_plain _ _ _ (by intro c cl;cases cl)];simp[execOp,resolve,invoke,builtin,cN,Result.andThen,Act.eval];exact z _ _ ⟨N,v23,v24,_,_,_,v28,v29,v30,rfl,f.s4 K u d2 d3 cL ch⟩;obtain⟨bF,al,bZ,b0,b1,b2⟩:=an.o Y (f.jb fun e=>u (f.jd e).2.2.2.2.2);refine kG rfl (fun P z=> ?_);go_simp;refine z _ _ ?_;exact⟨N,v23,v24,v25,v26,v27,_,v29,v30,rfl,f.s5 K u⟩
     ·simp only[iU,jw,mR,lX]at C
      subst C;have d0:=Q {on:=0,ground:=.data} aj rfl;have d4:=Q {on:=4,ground:=.data} aj rfl;have d5:=Q {on:=5,ground:=.data} aj rfl;have d23:=f.jc d4;have d1:=f.je d23.1;have G:=f.jb u;obtain rfl:=f.j0 d0;obtain rfl:=f.j5 d5;obtain⟨bB,bA,rfl,cG⟩:=f.j4 d4 u;have ba:=T.o.O d R G;have R:=Qz ao.o cO;obtain⟨ds,eb,dq,dr,cP,T⟩:=Gk (m':=m-1)<|be (1+(di (t.zs.take j)).length+k) Y #[.slice bB (O+1) bA,cA x H] (aF.1 R).1 ba.inv ⟨x,H,bB,O+1,bA,R,rfl,(Kp.of d G).tree d cg.o,cG,ad⟩
      unfold cA at cP;refine kG rfl (fun P z=> ?_);go_simp;refine⟨fun h=>(by cases h),?_⟩;refine RoundIn.zz (F:=Fence.wide.inRound ae) T ?_;rintro e R ⟨rfl,O,H⟩;refine z _ _ ?_;exact⟨N,_,v24,v25,v26,_,_,_,v30,rfl,f.s6 K u d0 d1 d23.1 d23.2 d4 d5 ⟨ba.next d H O,ca.o.Z ((Kp.of d G).Z H)⟩⟩
     simp only[iU,jw,mR,lX]at C;subst C;have d6:=Q {on:=6,ground:=.data} aj rfl;obtain rfl:=f.j6 d6;refine kG rfl (fun P z=> ?_);go_simp;refine z _ _ ?_;exact⟨N,v23,v24,v25,v26,v27,v28,_,_,rfl,f.s7 K u d6⟩
    rintro listed a Y ⟨bq,v23,v24,v25,v26,v27,v28,v29,v30,rfl,f⟩ C;have K:listed.getD 0 false=true:=by
     apply dU;intro z;have:(0:Nat)∈([]:List Nat):=by rw[<-C];exact gO.2 ⟨kH ad (by simpa using z),_,rfl,fun e u=>by simp at u⟩
     cases this
    have G:listed.getD 1 false=true:=by
     apply dU;intro z;have:(1:Nat)∈([]:List Nat):=by rw[<-C];exact gO.2 ⟨kH ad (by simpa using z),_,rfl,fun e u=>by simp at u⟩
     cases this
    have H:listed.getD 2 false=true:=by
     apply dU;intro z;have:(2:Nat)∈([]:List Nat):=by rw[<-C];exact gO.2 ⟨kH ad (by simpa using z),_,rfl,fun e u _=>by simp at u;subst u;exact G⟩
     cases this
    have N:listed.getD 3 false=true:=by
     apply dU;intro z;have:(3:Nat)∈([]:List Nat):=by rw[<-C];exact gO.2 ⟨kH ad (by simpa using z),_,rfl,fun e u=>by simp at u⟩
     cases this
    have G:listed.getD 4 false=true:=by
     apply dU;intro z;have:(4:Nat)∈([]:List Nat):=by rw[<-C];exact gO.2 ⟨kH ad (by simpa using z),_,rfl,fun e u _=>by simp at u;rcases u with rfl|rfl;exact H;exact N⟩
     cases this
    have N:listed.getD 5 false=true:=by
     apply dU;intro z;have:(5:Nat)∈([]:List Nat):=by rw[<-C];exact gO.2 ⟨kH ad (by simpa using z),_,rfl,fun e u=>by simp at u⟩
     cases this
    have H:listed.getD 6 false=true:=by
     apply dU;intro z;have:(6:Nat)∈([]:List Nat):=by rw[<-C];exact gO.2 ⟨kH ad (by simpa using z),_,rfl,fun e u _=>by simp at u;rcases u with rfl|rfl|rfl|rfl;exact K;exact G;exact N;exact G⟩
     cases this
    have G:listed.getD 7 false=true:=by
     apply dU;intro z;have:(7:Nat)∈([]:List Nat):=by rw[<-C];exact gO.2 ⟨kH ad (by simpa using z),_,rfl,fun e u _=>by simp at u;subst u;exact H⟩
     cases this
    obtain rfl:=f.j7 G;have u:=f.jy H
    gi_wp2
    have f:∀i,¬(Array.replicate 8 false).getD i false=true:=fun i=>by rw[getD_replicate_false];simp
    exact⟨aj,u23,u24,u25,u26,u27,u28,u29,u30,rfl,⟨fun h=>(f _ h).elim,fun h=>(f _ h).elim,fun h _=>(f _ h).elim,fun h=>(f _ h).elim,fun h _=>(f _ h).elim,fun h=>(f _ h).elim,fun h=>(f _ h).elim,fun h=>(f _ h).elim,fun _=>aA _ _,fun h=>(f _ h).elim,fun h=>(f _ h).elim,fun h=>(f _ h).elim,fun h=>(f _ h).elim⟩⟩
   rintro X ⟨aa,a7,a9,z,u⟩ f K H;have G:(A.heap.size::E).Nodup:=lS.2 ⟨fun h=>by have:=d.lt (ab _ h).1;omega,bi⟩;have z:Inv (1+(di (t.zs.take (j+1))).length) X:=by rw[GA ao.o,ck,<-lZ];exact aa
   have C:Kp S I X:=V.o.Z ((Kp.of d b7.o).Z H)
   gi_wp2
   rw[<-cp];refine⟨⟨j+1,A.heap.size::E,_,_,_,_,_,_,_,_,_,_,_,_,_,_,_,_,_,_,_,_,_,rfl,ad,G,fun D y=> ?_,z,a7,C⟩,?_⟩;rcases bX.1 y with rfl|y
   exact⟨K,ad,f⟩;exact⟨(u D y).1,(a4.o D y).2.1,(u D y).2⟩;simp[intOf];omega
  have co:=bG M
  gi_wp2
  obtain rfl:j=t.zs.length:=ad;have z:=a2.o;rw[bI (ay _),<-BC]at z;have A:Kp S W s:=(Kp.of d J).Z (a3.o.Z V.o);refine Bx (fun X=>Inv (nodesT t).length X/\Kp S W X) (fun X h=>⟨_,by simp[results,results130,go_sem];rfl,⟨_,rfl⟩,h.1,h.2⟩) E s bi (fun D y=>(Z D y).2.2) ⟨z,A⟩ (fun X D y f u=>⟨a0 _ _ _ _ _ u.1 (Z D y).2.1 f rfl rfl,⟨by rw[n5];exact u.2.size,fun b B=> ?_⟩⟩);obtain⟨bE,s⟩:=u.2.same b B;have ci:=d.lt B;exact⟨d.put bE f rfl rfl,by rw[eK (aQ ((Z D y).2.1))];exact s⟩
end
def zw(p:Prop)(w:World)(e:Ending)(w':World):Prop:=(∃b,e=.returned (.bool b)/\(b=true↔p))/\aR w w'
def J3{t k:Tr}(a:k∈t.zs):SizeOf.sizeOf k<SizeOf.sizeOf t:=by
 cases t
 simp only[Tr.zs]at a;have:=KT a;simp;omega
def VC(a c b d:Bytes) w:(binOp .neq 59 (.agg #[a,c]) (.agg #[b,d])).run prog w=.ok (.bool (!(a==b&&c==d))) w:=by simp[go_sem];by_cases e:a=b<;>by_cases f:c=d<;>simp[e,f]
def CU:∀(n:Nat) (t1 t2:Tr) (a d:KA) (w:World),SizeOf.sizeOf t1<=n->fM w t1 a->fM w t2 d->Calls prog 16 #[cA t1 a,cA t2 d] w (zw (t1=t2) w):=by
 intro n;induction n with
 |zero=>intro t1 t2 a d w J;cases t1;simp at J
 |succ n ih=>
 intro t1 t2 a d w J j C;have r:lq w a.ao a.ac t1.zx:=j.attr;have t:lq w d.ao d.ac t2.zx:=C.attr;obtain⟨c,ao,x,Q⟩:=j.zs;obtain⟨c,av,y,R⟩:=C.zs;have S:=fun k (ae:k∈t1.zs)=>J3 ae;obtain⟨f,o,a1,c⟩:=t1;obtain⟨l,u,h,g⟩:=t2;obtain⟨B,s,E,F⟩:=a;obtain⟨D,z,I,G⟩:=d;unfold cA;simp only[Tr.zv,Tr.text,Tr.zx,Tr.zs]at r t ao x Q av y R S⊢;obtain⟨d,i⟩:=am ((w.alloc (.cells (fZ f o B a1 s E c F) 36)).alloc (.cells (fZ l u D h z I g G) 36));have T:Below w.heap.size w d:=by rw[i];exact aP.alloc aj _
 have A:d.heap[w.heap.size]?=some (.cells (fZ f o B a1 s E c F) 36):=by rw[i];exact(br _ _ _ aj).Z (aN w _)
 have H:d.heap[w.heap.size+1]?=some (.cells (fZ l u D h z I g G) 36):=by rw[i];have:=aN (w.alloc (.cells (fZ f o B a1 s E c F) 36)) (.cells (fZ l u D h z I g G) 36);rwa[bP]at this
 have a:d.heap.size=w.heap.size+2:=by rw[i];simp
 have K:∀a,Below d.heap.size d a->a.cell? ⟨w.heap.size,0,none⟩=some (.string ⟨f.toArray⟩)/\a.cell? ⟨w.heap.size,1,none⟩=some (.string ⟨o.toArray⟩)/\a.cell? ⟨w.heap.size,2,none⟩=some (.slice B a1.length s)/\a.cell? ⟨w.heap.size,3,none⟩=some (.slice E c.length F)/\
  a.cell? ⟨w.heap.size+1,0,none⟩=some (.string ⟨l.toArray⟩)/\a.cell? ⟨w.heap.size+1,1,none⟩=some (.string ⟨u.toArray⟩)/\a.cell? ⟨w.heap.size+1,2,none⟩=some (.slice D h.length z)/\a.cell? ⟨w.heap.size+1,3,none⟩=some (.slice I g.length G):=fun a s=>by
  have z:=(s.J _ (aS A)).Z A;have B:=(s.J _ (aS H)).Z H;exact⟨ak 0 z,ak 1 z,ak 2 z,ak 3 z,ak 0 B,ak 1 B,ak 2 B,ak 3 B⟩
 obtain⟨M,N,O,P,d0,d1,d2,d3⟩:=K d (aA _ _);obtain⟨Z,I,X,Y,a5,a6,a7,a9,bd,bb⟩:=jB K T r t x y Q R S ih;have bc:=ah J;have z:=r.2.1;have z:=r.2.2.1;have B:=t.2.1;have B:=t.2.2.1;have D:=x.2.1;have D:=x.2.2.1;have E:=y.2.1;have E:=y.2.2.1;unfold maxLen at z B D E;have E:Hid (∀a,Below d.heap.size d a->¬(Tr.mk f o a1 c=Tr.mk l u h g)->zw (Tr.mk f o a1 c=Tr.mk l u h g) w (.returned (.bool false)) a):=fun a s D=>⟨⟨false,rfl,by simp[D]⟩,aE I.o s⟩;clear T A H K r t x y Q R S ih J j C;have r:(f==l)=false∨f=l:=by by_cases e:f=l<;>simp[e]
 go_enter func16,ntmps16
 rcases r with l|rfl
 ·have f:=ah (E.o d (aA _ _) (by simp at l;intro e;injection e with e;exact l e))
  go_wp2_with(first|(rw[<-i];clear i)|fail)
  go_ret;exact f.o
 have l:(o==u)=false∨o=u:=by by_cases e:o=u<;>simp[e]
 rcases l with t|rfl
 ·have f:=ah (E.o d (aA _ _) (by simp at t;intro e;injection e with _ e;exact t e))
  go_wp2_with(first|(rw[<-i];clear i)|fail)
  go_ret;exact f.o
 by_cases l:a1.length=h.length;rotate_left
 ·have r:((a1.length:Int) !=(h.length:Int))=true:=aO
  have f:=ah (E.o d (aA _ _) (by intro e;injection e with _ _ e;exact l (by rw[e])));clear l;go_wp2_with(first|(rw[<-i];clear i)|fail)
  go_ret;exact f.o
 by_cases o:c.length=g.length;rotate_left
 ·have r:((a1.length:Int) !=(h.length:Int))=false:=aO
  have x:((c.length:Int) !=(g.length:Int))=true:=aO;have f:=ah (E.o d (aA _ _) (by intro e;injection e with _ _ _ e;exact o (by rw[e])));clear l o;go_wp2_with(first|(rw[<-i];clear i)|fail)
  go_ret;exact f.o
 have r:((a1.length:Int) !=(h.length:Int))=false:=aO;have x:((c.length:Int) !=(g.length:Int))=false:=aO;obtain⟨T,aa⟩:=aC l o;clear l o;go_wp2_with(first|(rw[<-i];clear i)|fail)
 clear r x M N O P d0 d1 d2 d3;go_loopw [5] (fun v wr=>∃k:Nat,v=.int .i64 k/\k<=a1.length/\Below d.heap.size d wr/\Hid (a1.take k=h.take k)) (fun v _=>a1.length-(intOf v).toNat)
 case atStart=>exact⟨0,rfl,aH _,aA _ _,rfl⟩
 case round=>
 obtain⟨k,rfl,ae,l,B⟩:=hrel;obtain⟨M,N,O,P,d0,d1,d2,d3⟩:=Z.o wr l;by_cases y:k<a1.length
 ·have bi:=aL k
  have bl:=bk y;have bo:(k:Int)<h.length:=aQ T.o;obtain⟨⟨S,a0⟩,t⟩:=aT y;obtain⟨⟨aw,a2⟩,z⟩:=df h k (aQ T.o);obtain⟨b,o,rfl,Q,V,W⟩:=pA (X.o.O (aE I.o l)) t;obtain⟨i,r,rfl,R,X,A⟩:=pA (Y.o.O (aE I.o l)) z;simp only at V W X A;obtain⟨J,K⟩:=aC t z;clear t z;go_wp2_with fail
  have D:=fun a=>VC S a0 aw a2 a;obtain⟨Y,x⟩:=am ((S==aw&&a0==a2));rw[<-x]at D;have S:=ah x;clear x;cases Y with
  |false=>
   have f:Hid (∀nq,zw _ w _ (wr.drewN nq)):=fun nq=>(E.o (wr.drewN nq) (ee l nq) (by intro e;injection e with _ _ e;have j:=J.o;have C:=K.o;rw[e,C]at j;injection j with j;injection j with j bg;have D:=S.o;simp[j,bg]at D));go_quiet(fail)
   go_wp2
   go_ret;exact f.o _
  |true=>
   have f:Hid (a1.take (k+1)=h.take (k+1)):=ah (by rw[bH,bH,J.o,K.o,B.o];have D:=S.o;simp at D;rw[D.1,D.2]);go_quiet(fail)
   go_wp2
   go_roundw
   case rel=>exact⟨k+1,aD,ad,ee l _,f.o⟩
   case measure=>exact aM
 ·have S:¬(k:Int)<a1.length:=ad
  have af:=bG y;have ba:Hid (a1=h):=ah (by have:=B.o;rwa[bI ad,bI (aQ T.o)]at this);clear B;go_wp2_with fail
  clear M N O P d0 d1 d2 d3;go_loopw [6] (fun v h=>∃m:Nat,v=.int .i64 m/\m<=c.length/\Below d.heap.size d h/\Hid (c.take m=g.take m)) (fun v _=>c.length-(intOf v).toNat)
  case atStart=>exact⟨0,rfl,aH _,l,rfl⟩
  case round=>
  clear l ae y S af;obtain⟨m,rfl,d,l,B⟩:=hrel;obtain⟨h,d⟩:=am wr;subst d;obtain⟨M,N,O,P,d0,d1,d2,d3⟩:=Z.o h l;by_cases y:m<c.length
  ·have bi:=aL m
   have bl:=bk y;have bo:(m:Int)<g.length:=aQ aa.o;obtain⟨u1,t⟩:=aT y;obtain⟨u2,z⟩:=df g m (aQ aa.o);have T:=aE I.o l;obtain⟨b,o,q,al,rfl,Q,V,W,u,a3⟩:=qP ao (cn.O a5.o T) t;obtain⟨i,r,d,an,rfl,R,X,A,H,a4⟩:=qP av (cn.O a6.o T) z;obtain⟨J,K⟩:=aC t z;have S:=a7.o m u1 q t al;have ag:=a9.o m u2 d z an;have ab:∀a,Below h.heap.size h a->(a.cell? ⟨w.heap.size,3,none⟩=some (.slice (some ⟨b,o,none⟩) c.length F)/\a.cell? ⟨w.heap.size+1,3,none⟩=some (.slice (some ⟨i,r,none⟩) g.length G))/\
    (a.cell? ⟨b,o+m*4,none⟩=some (.string ⟨u1.zv.toArray⟩)/\a.cell? ⟨b,o+m*4+1,none⟩=some (.string ⟨u1.text.toArray⟩)/\a.cell? ⟨b,o+m*4+2,none⟩=some (.slice q.ao u1.zx.length q.ac)/\a.cell? ⟨b,o+m*4+3,none⟩=some (.slice q.ko u1.zs.length q.kc))/\
    (a.cell? ⟨i,r+m*4,none⟩=some (.string ⟨u2.zv.toArray⟩)/\a.cell? ⟨i,r+m*4+1,none⟩=some (.string ⟨u2.text.toArray⟩)/\a.cell? ⟨i,r+m*4+2,none⟩=some (.slice d.ao u2.zx.length d.ac)/\a.cell? ⟨i,r+m*4+3,none⟩=some (.slice d.ko u2.zs.length d.kc)):=fun a s=>by
    obtain⟨_,_,_,be,_,_,_,bf⟩:=Z.o a (l.Z (s.zz l.size));exact⟨⟨be,bf⟩,⟨(s.cell (p:=⟨b,o+m*4,none⟩) Q).Z V,(s.cell (p:=⟨b,o+m*4+1,none⟩) Q).Z W,(s.cell (p:=⟨b,o+m*4+2,none⟩) Q).Z u,(s.cell (p:=⟨b,o+m*4+3,none⟩) Q).Z a3⟩,
     ⟨(s.cell (p:=⟨i,r+m*4,none⟩) R).Z X,(s.cell (p:=⟨i,r+m*4+1,none⟩) R).Z A,(s.cell (p:=⟨i,r+m*4+2,none⟩) R).Z H,(s.cell (p:=⟨i,r+m*4+3,none⟩) R).Z a4⟩⟩
   have Q:=ab h.drew (aA _ h).drew;have R:=ah ab;have s:=bb.o u1 u2 q d h.drew (by have D:=bc.o;have Z:=bd.o u1 (aK t);simp at D Z;omega) (S.O T.drew) (ag.O T.drew);unfold cA at s;have D:=ah s;clear ab t z al an S ag s;go_wp2_with fail
   clear V W u a3 X A H a4 M N O P d0 d1 d2 d3;go_region_held3(fun a=>(a.cell? ⟨w.heap.size,3,none⟩=some (.slice (some ⟨b,o,none⟩) c.length F)/\a.cell? ⟨w.heap.size+1,3,none⟩=some (.slice (some ⟨i,r,none⟩) g.length G))/\
    (a.cell? ⟨b,o+m*4,none⟩=some (.string ⟨u1.zv.toArray⟩)/\a.cell? ⟨b,o+m*4+1,none⟩=some (.string ⟨u1.text.toArray⟩)/\a.cell? ⟨b,o+m*4+2,none⟩=some (.slice q.ao u1.zx.length q.ac)/\a.cell? ⟨b,o+m*4+3,none⟩=some (.slice q.ko u1.zs.length q.kc))/\
    (a.cell? ⟨i,r+m*4,none⟩=some (.string ⟨u2.zv.toArray⟩)/\a.cell? ⟨i,r+m*4+1,none⟩=some (.string ⟨u2.text.toArray⟩)/\a.cell? ⟨i,r+m*4+2,none⟩=some (.slice d.ao u2.zx.length d.ac)/\a.cell? ⟨i,r+m*4+3,none⟩=some (.slice d.ko u2.zs.length d.kc)))
    (first|exact Q|exact o)
    (first|(go_at_call 16;refine D.o.zz ?_;rintro e d ⟨⟨Y,rfl,x⟩,i⟩;have a:Below h.heap.size h d:=(aA _ h).drew.Z i;have o:=R.o d a;have r:=ah a;clear a i))
   have a:=l.Z (r.o.zz l.size);clear Q o;cases Y with
   |false=>
    have f:=ah (E.o d a (by intro e;injection e with _ _ _ e;have j:=J.o;have C:=K.o;rw[e,C]at j;injection j with j;have:=x.2 j.zy;cases this));clear x
    go_wp2
    go_ret;first|exact f.o|simpa using f.o
   |true=>
    have f:Hid (c.take (m+1)=g.take (m+1)):=ah (by rw[bH,bH,J.o,K.o,B.o,x.1 rfl]);clear x
    go_wp2
    go_roundw
    case rel=>exact⟨m+1,aD,ad,a,f.o⟩
    case measure=>exact aM
  ·have S:¬(m:Int)<c.length:=ad
   have af:=bG y;have a:Hid (c=g):=ah (by have:=B.o;rwa[bI ad,bI (aQ aa.o)]at this);clear B
   go_wp2
   go_ret;refine⟨⟨true,rfl,?_⟩,aE I.o l⟩;simp[ba.o,a.o]
end Go.Proofs.YtfeidcmojcijpaaGreatDoor
