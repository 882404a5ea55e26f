import Derived.Test.YtnadadbndcdolaaGreatDoorQav
import Derived.Test.YtnadadbndcdolaaGreatDoorQaz
set_option linter.unusedVariables false
set_option linter.unusedSimpArgs false
set_option maxRecDepth 100000
set_option maxHeartbeats 0
namespace Go.Proofs.YtnadadbndcdolaaGreatDoor
open Go.RowKit Tryz
section
theorem NC{p q:Nat->Bool}(h:∀j,q j=true->p j=true){i:Nat}(d:p i=true)(e:q i=false):∀n,i<n->((List.range n).filter q).length<((List.range n).filter p).length:=by
 have c:∀n,((List.range n).filter q).length<=((List.range n).filter p).length:=fun n=>by
  induction n with
  |zero=>simp
  |succ n ih=>
   rw[ud,li,li,cR,cR];cases a:q n with
   |false=>simp[a];omega
   |true=>simp[a,h n a];omega
 intro n;induction n with
 |zero=>intro h;omega
 |succ n ih=>
  intro f;rw[ud,li,li,cR,cR];by_cases b:i=n
  ·subst b
   have:=c i;simp[d,e];omega
  ·have:=ih ad
   cases a:q n with
   |false=>simp[a];omega
   |true=>simp[a,h n a];omega
theorem EL{listed:Array Bool}{i:Nat}(h:i<listed.size):(listed.setIfInBounds i true).getD i true=true:=by simp[h]
theorem EM{F:Fence}{n:Nat}{P:Program}{l:Region.Mode}{b:Array Oper}{Q:Exit->Act->World->Prop}(d:Array Bool->Act->World->Prop)
 (step:∀listed a w i,d listed a w->i∈Region.ready l b listed->wpOpIn F n P b Q i (fun u w'=>d (listed.setIfInBounds i true) u w') a w)
 (x:∀listed a w,d listed a w->Region.ready l b listed=[]->Q .normal a w):
 ∀(c:Nat) (listed:Array Bool) (a:Act) (w:World),listed.size=b.size->((List.range b.size).filter fun i=> !listed.getD i true).length<=c->d listed a w->wpAnyIn F n P l b Q c listed a w:=by
 intro c;induction c with
 |zero=>
  intro listed a w y z e;have f:Region.ready l b listed=[]:=by rw[List.eq_nil_iff_forall_not_mem];intro i g;obtain⟨m,o,r,_⟩:=gx.1 g;have s:=(iq.1 r).1;have:i∈(List.range b.size).filter fun i=> !listed.getD i true:=nR.2 ⟨gt.2 s,by rw[m];rfl⟩;have:=BM this;omega
  exact⟨f,x _ _ _ e f⟩
 |succ c ih=>
  intro listed a w y z e;refine⟨fun f=>x _ _ _ e f,fun i g=> ?_⟩;obtain⟨m,o,r,_⟩:=gx.1 g;have s:=(iq.1 r).1;refine wpOpIn_mono (fun u w' h=>ih _ _ _ (by simpa using y) ?_ h) (step _ _ _ _ e g);have:=NC (p:=fun j=> !listed.getD j true) (q:=fun j=> !(listed.setIfInBounds i true).getD j true) (fun j t=>by
   by_cases v:i=j
   ·subst v
    rw[EL ad]at t;cases t
   ·rwa[getD_set_ne true v]at t) (i:=i) (by rw[m];rfl) (by rw[EL ad];rfl) b.size s
  omega
def kS(w:World)(d:Option Addr)(c b:Nat):Prop:=∃a:List Nat,a.length=c/\dp w d c b 1 (fi a)/\(d=none->b=0)
theorem kS.below{w w':World}{c:Option Addr}{b a:Nat}(h:kS w c b a)(g:Below w.heap.size w w'):kS w' c b a:=by obtain⟨i,d,e,f⟩:=h;exact⟨i,d,dp.below e g,f⟩
theorem kS.put{w:World}{c:Option Addr}{b a l:Nat}{o o':Obj}(h:kS w c b a)(j:w.heap[l]?=some o)(g:o.isCells=false)(i:o'.isCells=false):kS (w.putObj l o') c b a:=by obtain⟨m,d,e,f⟩:=h;exact⟨m,d,Nx j g i e,f⟩
structure R8(fy ji pv xv:Value)(own PA:World->Value->Prop)(IB IY:World->Prop)(L:Nat->Prop)(Y:World)(v23 v24 v25 v26 v27 v28 v29 v30:Value):Prop where
 j0:L 0->v23=fy
 j1:L 1->v24=ji
 j2:L 2->¬L 4->own Y v25
 j3:L 3->v26=pv
 j4:L 4->¬L 6->PA Y v27
 j5:L 5->v28=xv
 j6:L 6->v29=.bool true
 j7:L 7->v30=.bool false
 jb:¬L 6->IB Y
 jy:L 6->IY Y
 jd:L 6->L 0/\L 1/\L 2/\L 3/\L 4/\L 5
 jc:L 4->L 2/\L 3
 je:L 2->L 1
section
variable{fy ji pv xv:Value} {own PA:World->Value->Prop} {IB IY:World->Prop} {L L':Nat->Prop} {Y Y':World} {v23 v24 v25 v26 v27 v28 v29 v30:Value}
 (h:R8 fy ji pv xv own PA IB IY L Y v23 v24 v25 v26 v27 v28 v29 v30)
include h
theorem R8.s0(c:∀j,L' j↔j=0∨L j)(d:¬L 0):R8 fy ji pv xv own PA IB IY L' Y fy v24 v25 v26 v27 v28 v29 v30:=by have a:¬L 6:=fun b=>d (h.jd b).1;constructor<;>simp only[c]<;>intros<;>(try simp_all);all_goals first|assumption|exact h.j0 ‹_›|exact h.j1 ‹_›|exact h.j3 ‹_›|exact h.j5 ‹_›|exact h.j6 ‹_›|exact h.j7 ‹_›|exact h.j2 ‹_› ‹_›|exact h.j4 ‹_› a|exact h.jc ‹_›|exact h.je ‹_›|exact h.jb a|exact h.jy ‹_›|(have:=h.jd ‹_›;simp_all)|(have:=h.jc ‹_›;simp_all)
theorem R8.s1(c:∀j,L' j↔j=1∨L j)(d:¬L 1):R8 fy ji pv xv own PA IB IY L' Y v23 ji v25 v26 v27 v28 v29 v30:=by have a:¬L 6:=fun b=>d (h.jd b).2.1;constructor<;>simp only[c]<;>intros<;>(try simp_all);all_goals first|assumption|exact h.j0 ‹_›|exact h.j1 ‹_›|exact h.j3 ‹_›|exact h.j5 ‹_›|exact h.j6 ‹_›|exact h.j7 ‹_›|exact h.j2 ‹_› ‹_›|exact h.j4 ‹_› a|exact h.jc ‹_›|exact h.je ‹_›|exact h.jb a|exact h.jy ‹_›|(have:=h.jd ‹_›;simp_all)|(have:=h.jc ‹_›;simp_all)
theorem R8.s2{u:Value}(d:∀j,L' j↔j=2∨L j)(c:¬L 2)(e:L 1)(i:own Y' u)(g:IB Y'):R8 fy ji pv xv own PA IB IY L' Y' v23 v24 u v26 v27 v28 v29 v30:=by have b:¬L 6:=fun a=>c (h.jd a).2.2.1;have f:¬L 4:=fun a=>c (h.jc a).1;constructor<;>simp only[d]<;>intros<;>(try simp_all);all_goals first|assumption|exact h.j0 ‹_›|exact h.j1 ‹_›|exact h.j3 ‹_›|exact h.j5 ‹_›|exact h.j6 ‹_›|exact h.j7 ‹_›|exact h.j2 ‹_› ‹_›|exact h.j4 ‹_› b|exact h.jc ‹_›|exact h.je ‹_›|exact h.jb b|exact h.jy ‹_›|(have:=h.jd ‹_›;simp_all)|(have:=h.jc ‹_›;simp_all)
theorem R8.s3(c:∀j,L' j↔j=3∨L j)(d:¬L 3):R8 fy ji pv xv own PA IB IY L' Y v23 v24 v25 pv v27 v28 v29 v30:=by have a:¬L 6:=fun b=>d (h.jd b).2.2.2.1;constructor<;>simp only[c]<;>intros<;>(try simp_all);all_goals first|assumption|exact h.j0 ‹_›|exact h.j1 ‹_›|exact h.j3 ‹_›|exact h.j5 ‹_›|exact h.j6 ‹_›|exact h.j7 ‹_›|exact h.j2 ‹_› ‹_›|exact h.j4 ‹_› a|exact h.jc ‹_›|exact h.je ‹_›|exact h.jb a|exact h.jy ‹_›|(have:=h.jd ‹_›;simp_all)|(have:=h.jc ‹_›;simp_all)
theorem R8.s4{u:Value}(c:∀j,L' j↔j=4∨L j)(d:¬L 4)(e:L 2)(f:L 3)(i:PA Y' u)(g:IB Y'):R8 fy ji pv xv own PA IB IY L' Y' v23 v24 v25 v26 u v28 v29 v30:=by have a:¬L 6:=fun b=>d (h.jd b).2.2.2.2.1;constructor<;>simp only[c]<;>intros<;>(try simp_all);all_goals first|assumption|exact h.j0 ‹_›|exact h.j1 ‹_›|exact h.j3 ‹_›|exact h.j5 ‹_›|exact h.j6 ‹_›|exact h.j7 ‹_›|exact h.j2 ‹_› ‹_›|exact h.j4 ‹_› a|exact h.jc ‹_›|exact h.je ‹_›|exact h.jb a|exact h.jy ‹_›|(have:=h.jd ‹_›;simp_all)|(have:=h.jc ‹_›;simp_all)
theorem R8.s5(c:∀j,L' j↔j=5∨L j)(d:¬L 5):R8 fy ji pv xv own PA IB IY L' Y v23 v24 v25 v26 v27 xv v29 v30:=by have a:¬L 6:=fun b=>d (h.jd b).2.2.2.2.2;constructor<;>simp only[c]<;>intros<;>(try simp_all);all_goals first|assumption|exact h.j0 ‹_›|exact h.j1 ‹_›|exact h.j3 ‹_›|exact h.j5 ‹_›|exact h.j6 ‹_›|exact h.j7 ‹_›|exact h.j2 ‹_› ‹_›|exact h.j4 ‹_› a|exact h.jc ‹_›|exact h.je ‹_›|exact h.jb a|exact h.jy ‹_›|(have:=h.jd ‹_›;simp_all)|(have:=h.jc ‹_›;simp_all)
theorem R8.s6(a:∀j,L' j↔j=6∨L j)(l:¬L 6)(b:L 0)(c:L 1)(d:L 2)(e:L 3)(f:L 4)(g:L 5)(i:IY Y'):R8 fy ji pv xv own PA IB IY L' Y' v23 v24 v25 v26 v27 v28 (.bool true) v30:=by constructor<;>simp only[a]<;>intros<;>(try simp_all);all_goals first|assumption|exact h.j0 ‹_›|exact h.j1 ‹_›|exact h.j3 ‹_›|exact h.j5 ‹_›|exact h.j6 ‹_›|exact h.j7 ‹_›|exact h.j2 ‹_› ‹_›|exact h.j4 ‹_› h6|exact h.jc ‹_›|exact h.je ‹_›|exact h.jb h6|exact h.jy ‹_›|(have:=h.jd ‹_›;simp_all)|(have:=h.jc ‹_›;simp_all)
theorem R8.s7(b:∀j,L' j↔j=7∨L j)(c:¬L 7)(a:L 6):R8 fy ji pv xv own PA IB IY L' Y v23 v24 v25 v26 v27 v28 v29 (.bool false):=by constructor<;>simp only[b]<;>intros<;>(try simp_all);all_goals first|assumption|exact h.j0 ‹_›|exact h.j1 ‹_›|exact h.j3 ‹_›|exact h.j5 ‹_›|exact h.j6 ‹_›|exact h.j7 ‹_›|exact h.j2 ‹_› ‹_›|exact h.j4 ‹_› a|exact h.jc ‹_›|exact h.je ‹_›|exact h.jb a|exact h.jy ‹_›|(have:=h.jd ‹_›;simp_all)|(have:=h.jc ‹_›;simp_all)
end
theorem ND(Y:World)(g:Nat)(ty:TypeId):(Builtin.append_ #[125,125] ty #[.slice (some ⟨g,0,none⟩) 1 1,.slice none 0 0]).run prog Y=.ok (.slice (some ⟨g,0,none⟩) 1 1) Y:=by simp[Builtin.append_,go_sem,Builtin.firstCells,Builtin.lenOf,storeCells]
theorem EN{listed:Array Bool}{i:Nat}(b:i<listed.size)(j:Nat):(listed.setIfInBounds i true).getD j false=true↔j=i∨listed.getD j false=true:=by
 by_cases a:i=j
 ·subst a;simp[b]
 ·rw[getD_set_ne false a]
  constructor
  ·exact .inr
  ·rintro(h|h)
   ·exact absurd h.symm a
   ·exact h
theorem EO{listed:Array Bool}{i:Nat}(h:listed.getD i true=false):¬listed.getD i false=true:=by rw[getD_both h];simp
theorem EP{Y:World}{B:Nat}{v:Value}{a:List Nat}(h:cW Y B v a)(n:0<a.length):∃o c,v=.slice o a.length c/\kS Y o a.length c:=by
 have f:=h;rcases h.2 with⟨_,m⟩|⟨g,cap,j,rfl,_⟩
 ·omega
 ·obtain⟨o,c,b,i⟩:=qA f
  injection b with d l e
  subst d;subst e;exact⟨_,_,rfl,a,rfl,i,fun b=>(by cases b)⟩
theorem NE{e Y:World}{g j d r:Nat}{s:Option Addr}(R:Nat)(l:Below e.heap.size e Y)(n:Y.ownsRow e.heap.size 3 1 (.slice (some ⟨g,0,none⟩) 1 1) 1 [.int .i64 (j:Nat)])(F:kS Y s d r)(Q:d<=1048576):
 ∃i Y',(∀ty,(Builtin.append_ #[125,125] ty #[.slice (some ⟨g,0,none⟩) 1 1,.slice s d r]).run prog Y=.ok i Y')/\(∃o c,i=.slice o (d+1) c/\kS Y' o (d+1) c)/\Below e.heap.size e Y':=by
 obtain⟨q,w,y,H⟩:=F;have C:=(dC n g rfl).1;cases s with
 |none=>
  have G:d=0:=by
   rcases uw d with h|h
   ·exact h
   ·obtain⟨b,N,f,_⟩:=y.2.2.2 h
    cases f
  subst G;obtain rfl:=H rfl;have m:cW Y e.heap.size (.slice (some ⟨g,0,none⟩) 1 1) [j]:=n;exact⟨_,Y,fun ty=>ND Y g ty,EP m ak,l⟩
 |some a=>
  obtain⟨M,D,J,K,L⟩:=cY pq;have E:∀k u,(fi q)[k]?=some u->Y.cell? (a.add k)=some u:=fun k u t=>by
   have v:=(aL.1 t).1;have:0<d:=by unfold fi at v;simp at v;omega
   obtain⟨b,N,f,_,B⟩:=y.2.2.2 this;injection f with f
   rw[f,BL];exact B k u t
  obtain⟨i,Y',I,m,z,O⟩:=run_append_own (P:=prog) Y e.heap.size 125 125 3 M (.int .i64 0) 1 8 mR D J K L rfl ap _ _ _ n a d r (fi q) (by unfold fi;simp;omega) E (fun u p=>by unfold fi at p;simp at p;obtain⟨k,_,rfl⟩:=p;rfl) bI ad l.size;have A:cW Y' e.heap.size i (j::q):=by unfold cW;rw[db,w,BN];exact m
  have x:=EP A ak;rw[db,w]at x;refine⟨i,Y',fun ty=> ?_,x,?_⟩
  ·rw[<-I];rfl
  ·exact l.grown z l.size (fun k f=>by cases f;exact C)
def wL(S:World->Nat->Prop)(t:Tr)(k:Nat)(W:World)(args:Array Value):Prop:=
 ∃(m:Tr) (q:KA) (c:Option Addr) (a b:Nat),(nodesT t)[k]?=some m/\args=#[.slice c a b,cP m q]/\dm W (S W) m q/\kS W c a b/\a<fR t
theorem EQ{S:World->Nat->Prop}{t:Tr}{k:Nat}{W:World}{args:Array Value}(h:wL S t k W args):args.size=2:=by obtain⟨_,_,_,_,_,_,rfl,_⟩:=h;rfl
theorem ER(t:Tr)(a:KA)(w:World):Calls prog 59 #[cP t a] w fun b w'=>b=.returned (.func (.func 131) #[] #[.pointer (some ⟨w.heap.size,0,none⟩)])/\w'=w.alloc (.cells #[.string ⟨t.label.toArray⟩,.string ⟨t.text.toArray⟩,.slice a.ao t.attrs.length a.ac,.slice a.ko t.kids.length a.kc] 29):=by
 unfold cP;go_enter func59,ntmps59
 go_wp2
 go_ret;exact⟨rfl,rfl⟩
theorem ES:∀args a,(callFunc 131 args).run prog a=.ok (.enter 131 args) a:=fun _ _=>rfl
attribute [local go_sem] uC
structure qP(S:World->Nat->Prop)(W0 W:World)(l TB YB:Nat)(t:Tr)(r:KA):Prop where
 tb:W.heap[TB]?=some (.cells #[.string ⟨t.label.toArray⟩,.string ⟨t.text.toArray⟩,.slice r.ao t.attrs.length r.ac,.slice r.ko t.kids.length r.kc] 29)
 tbs:S W TB
 yb:W.heap[YB]?=some (.cells #[.func (.yield l) #[] #[]] 211)
 ybs:S W YB
 tree:dm W (S W) t r
theorem qP.kp{S:World->Nat->Prop}(e:mF S){b W W':World}{l a c:Nat}{t:Tr}{d:KA}(h:qP S b W l a c t d)(k:Kp S W W'):qP S b W' l a c t d:=
 ⟨(k.same _ h.tbs).2.trans h.tb,(k.same _ h.tbs).1,(k.same _ h.ybs).2.trans h.yb,(k.same _ h.ybs).1,k.tree e h.tree⟩
theorem dm.kidsIn{w:World}{P:Nat->Prop}{t:Tr}{a:KA}(h:dm w P t a):∃rs:List KA,rs.length=t.kids.length/\mf w P a.ko t.kids.length a.kc 4 (kidRows t.kids rs)/\∀(i:Nat) (k:Tr) (q:KA),t.kids[i]?=some k->rs[i]?=some q->dm w P k q:=by
 cases h with
 |mk e rs c b d=>exact⟨rs,c,b,d⟩
theorem ET{ks:List Tr}{j:Nat}{k:Tr}(h:ks[j]?=some k):dz (ks.take (j+1))=dz (ks.take j)++nodesT k:=by
 have c:∀a b:List Tr,dz (a++b)=dz a++dz b:=fun a b=>by
  induction a with
  |nil=>simp[dz]
  |cons x a ih=>simp[dz,ih,xK]
 rw[bV,h,fF,c];simp[dz]
theorem NF{ks:List Tr}{j:Nat}{k:Tr}(h:ks[j]?=some k){m:Nat}{x:Tr}(c:(nodesT k)[m]?=some x):(dz ks)[(dz (ks.take j)).length+m]?=some x:=by
 have d:∀a b:List Tr,dz (a++b)=dz a++dz b:=fun a b=>by
  induction a with
  |nil=>simp[dz]
  |cons x a ih=>simp[dz,ih,xK]
 have f:=(aL.1 c).1;have e:dz ks=(dz (ks.take j)++nodesT k)++dz (ks.drop (j+1)):=by rw[<-ET h,<-d,mQ]
 rw[e,eP (by rw[cR];omega),fZ ad,Iz];exact c
theorem NG{t:Tr}{j:Nat}{k:Tr}(h:t.kids[j]?=some k){m:Nat}{x:Tr}(a:(nodesT k)[m]?=some x):(nodesT t)[1+(dz (t.kids.take j)).length+m]?=some x:=by
 cases t with
 |mk b c av ks=>
  have:=NF (ks:=ks) h a;simp only[nodesT,Tr.kids];rw[show 1+(dz (ks.take j)).length+m=((dz (ks.take j)).length+m)+1 by omega,gI];exact this
theorem zI(t:Tr):(nodesT t).length=1+(dz t.kids).length:=by
 cases t with
 |mk a b av ks=>simp[nodesT,Tr.kids];omega
structure kT(S:World->Nat->Prop)(Inv:Nat->World->Prop)(W:World)(l TB:Nat)(t:Tr)(r:KA)(cnt j IBk:Nat)(Ds:List Nat)(m:Nat)(X:World):Prop where
 inv:Inv (cnt+m) X
 st:qP S W X l TB W.heap.size t r
 ib:X.heap[IBk]?=some (.cells #[.int .i64 (j:Nat)] 3)
 ibs:S X IBk
 ds:∀D∈Ds,S X D/\X.heap[D]?=some (.deferred (some []))
theorem kT.below{S:World->Nat->Prop}(a:mF S){Inv:Nat->World->Prop}{W:World}{l n:Nat}{t:Tr}{q:KA}{p j i:Nat}{g:List Nat}{m:Nat}{d B:World}(r:∀k e o,Inv k e->Below e.heap.size e o->Inv k o)(h:kT S Inv W l n t q p j i g m d)(b:Below d.heap.size d B):kT S Inv W l n t q p j i g m B:=
 ⟨r _ _ _ h.inv b,h.st.kp a (Kp.of a b),(b.block _ (a.lt h.ibs)).trans h.ib,a.grow h.ibs b,fun c f=>⟨a.grow (h.ds c f).1 b,(b.block c (a.lt (h.ds c f).1)).trans (h.ds c f).2⟩⟩
theorem kT.next{S:World->Nat->Prop}(o:mF S){Inv:Nat->World->Prop}{W:World}{l i:Nat}{t:Tr}{n:KA}{c j g:Nat}{f:List Nat}{m:Nat}{e B:World}(h:kT S Inv W l i t n c j g f m e)(a:Kp S e B)(p:Inv (c+m+1) B):kT S Inv W l i t n c j g f (m+1) B:=
 ⟨p,h.st.kp o a,(a.same _ h.ibs).2.trans h.ib,(a.same _ h.ibs).1,fun b d=>⟨(a.same _ (h.ds b d).1).1,(a.same _ (h.ds b d).1).2.trans (h.ds b d).2⟩⟩
theorem kT.put{S:World->Nat->Prop}(c:mF S){Inv:Nat->World->Prop}{W:World}{l p:Nat}{t:Tr}{s:KA}{q j n:Nat}{i:List Nat}{m:Nat}{g:World}{a:Nat}{o o':Obj}(y:Inv (q+m) (g.putObj a o'))(h:kT S Inv W l p t s q j n i m g)
 (u:p≠a) (v:W.heap.size≠a) (w:n≠a) (x:∀b∈i,b≠a) (d:g.heap[a]?=some o) (e:o.isCells=false) (f:o'.isCells=false):kT S Inv W l p t s q j n i m (g.putObj a o'):=
 ⟨y,⟨(dN u).trans h.st.tb,c.put h.st.tbs d e f,(dN v).trans h.st.yb,c.put h.st.ybs d e f,wK c d e f h.st.tree⟩,(dN w).trans h.ib,c.put h.ibs d e f,
   fun b r=>⟨c.put (h.ds b r).1 d e f,(dN (x b r)).trans (h.ds b r).2⟩⟩
theorem NH(S:World->Nat->Prop)(d:mF S):∀(n:Nat) (t:Tr) (y:KA) (C:Nat) (w:World),SizeOf.sizeOf t<=n->dm w (S w) t y->(∀m∈nodesT t,m.kids.length<=1048576)->fR t<=1048576->w.heap[C]?=some (.cells #[.string ⟨t.label.toArray⟩,.string ⟨t.text.toArray⟩,.slice y.ao t.attrs.length y.ac,.slice y.ko t.kids.length y.kc] 29)->S w C->
 EH S prog 131 #[.pointer (some ⟨C,0,none⟩)] (nodesT t).length (wL S t) w:=by
 intro n;induction n with
 |zero=>intro t y C w ea;cases t;simp at ea
 |succ n ih=>
 intro t y C w ea hj c4 hM ed hk l Inv W a3 a1 b3 c2 fd;have fT:=(iq.1 ed).1;have ga:W.heap[C]?=_:=(a3.block C fT).trans ed;have c0:S W C:=d.grow hk a3;have ec:dm W (S W) t y:=hj.kept a3.size fun b O bb J=>⟨a3.cell (p:=⟨b,O,none⟩) bb,d.grow J a3⟩;obtain⟨bd,bg,V⟩:=dF W (.cells #[.func (.yield l) #[] #[]] 211);have h3:bd.heap.size=W.heap.size+1:=by rw[bg];simp
 have ab:qP S W bd l C W.heap.size t y:=⟨(V.block _ (by have:=a3.size;omega)).trans ga,d.grow c0 V,by rw[bg];exact aB W _,d.new c0 V (az _) ad,ec.kept V.size fun b O bb J=>⟨V.cell (p:=⟨b,O,none⟩) bb,d.grow J V⟩⟩;have fg:Inv 0 bd:=a1 _ _ _ fd V;have e9:=ai 0 ab.tb;have fb:=ai 1 ab.tb;have fc:=ai 2 ab.tb;have cd:=ai 3 ab.tb;have bD:=ai 0 ab.yb;have he:0<(nodesT t).length:=by cases t;simp[nodesT]
 have gs:(nodesT t)[0]?=some t:=by cases t;simp[nodesT]
 obtain⟨fn,tmps,assign,body,em,cN⟩:=EG (m':=8)<|c2 0 bd #[.slice none 0 0,cP t y] he fg ⟨t,y,none,0,0,gs,rfl,ab.tree,⟨[],rfl,⟨rfl,az _,aZ _,fun h=>absurd h (ue _)⟩,fun _=>rfl⟩,by have:=zE t;omega⟩
 unfold cP at em;have e4:=ah ab;clear ab ec;refine(j9 (n:=9)).1 (ID func131 rfl trivial ?_ rfl);simp only[ntmps131,Bm,db,ge,Nat.reduceAdd,Nat.reduceSub,Bn,Bo,Br,Bt,mS,jf]
 gi_wp2_with (first
  |(rw[<-bg];clear bg)
  |fail)
 refine cN.mono ?_;rintro z T ⟨rfl,cs,b4⟩;have bF:=ah (e4.o.kp d b4);clear em cN e9 fb fc cd bD;have cd:=ai 3 bF.o.tb
 gi_wp2
 obtain⟨rs,hg,ds,hh⟩:=bF.o.tree.kidsIn;have bz:=ds.row;have b9:=ah b4;have hX:=c4 t (by cases t;simp[nodesT]);have ba:=bz.2.2.1;unfold maxLen at ba;have hV:=bz.2.1;have e2:=ah cs;clear b4 cs;refine wpIn_loop (fun a W'=>∃(j:Nat) (M:List Nat) (u3 u4 u5 u6 u15 u16 u17 u18 u19 u20 u21 u22 u23 u24 u25 u26 u27 u28 u29 u30 u31:Value),a={tmps:=#[.func (.yield l) #[] #[],.pointer (some ⟨C,0,none⟩),.pointer (some ⟨W.heap.size,0,none⟩),u3,u4,u5,u6,.func (.yield l) #[] #[],.agg #[.string ⟨t.label.toArray⟩,.string ⟨t.text.toArray⟩,.slice y.ao t.attrs.length y.ac,.slice y.ko t.kids.length y.kc],.bool true,.bool false,.pointer (some ⟨C,3,none⟩),.slice y.ko t.kids.length y.kc,.int .i64 (t.kids.length:Nat),.int .i64 (j:Nat),u15,u16,u17,u18,u19,u20,u21,u22,u23,u24,u25,u26,u27,u28,u29,u30,u31],defers:=M.map fun u=>{target:=.collected u,args:=#[]}}/\j<=t.kids.length/\M.Nodup/\
  (∀u∈M,S W' u/\W.heap.size<=u/\W'.heap[u]?=some (.deferred (some [])))/\Hid (Inv (1+(dz (t.kids.take j)).length) W')/\Hid (qP S W W' l C W.heap.size t y)/\Hid (Kp S T W'))
  (fun a _=>t.kids.length-(intOf (a.tmps.getD 14 undef)).toNat) ?_ ?_
 ·refine⟨0,[],_,_,_,_,_,_,_,_,_,_,_,_,_,_,_,_,_,_,_,_,_,rfl,aZ _,xO,fun u h=>by(cases h),?_,bF,Kp.refl S T⟩
  exact e2.o
 ·rintro a r ⟨j,M,u3,u4,u5,u6,u15,u16,u17,u18,u19,u20,u21,u22,u23,u24,u25,u26,u27,u28,u29,u30,u31,rfl,hS,c6,a9,b8,bN,a5⟩
  by_cases bb:j<t.kids.length
  ·have gr:decide ((j:Int)<t.kids.length)=true:=bQ
   have hW:(j:Int)<t.kids.length:=ad;have hU:(0:Int)<=j:=ad;obtain⟨f,bu⟩:∃k,t.kids[j]?=some k:=⟨_,aH bb⟩;obtain⟨b,O,q,hf,bw,gf,eC,eD,eE,eN⟩:=nh hg bz bu;have c5:dm r (S r) f q:=a5.o.tree d (hh j f q bu hf);have gg:S T b:=by
    obtain⟨b',h2,be,_,hb,_⟩:=ds.2.2.2 ad;rw[bw]at be;injection be with be
    injection be with b1 ce a7
    rw[b1];exact hb
   have a8:=(a5.o.same b gg).2;have hz:=(dD (w:=T) (w':=r) (a:=⟨b,O+j*4,none⟩) a8).trans eC;have hA:=(dD (w:=T) (w':=r) (a:=⟨b,O+j*4+1,none⟩) a8).trans eD;have hB:=(dD (w:=T) (w':=r) (a:=⟨b,O+j*4+2,none⟩) a8).trans eE;have hC:=(dD (w:=T) (w':=r) (a:=⟨b,O+j*4+3,none⟩) a8).trans eN;rw[bw]at bz;obtain⟨P,a2⟩:=ar ((r.alloc (.cells #[.int .i64 (j:Nat)] 3)).alloc (.cells #[.string ⟨f.label.toArray⟩,.string ⟨f.text.toArray⟩,.slice q.ao f.attrs.length q.ac,.slice q.ko f.kids.length q.kc] 29));have cb:Below r.heap.size r P:=by rw[a2];exact aG.alloc ak _
   have ht:P.heap.size=r.heap.size+2:=by rw[a2];simp
   have ch:P.heap[r.heap.size]?=some (.cells #[.int .i64 (j:Nat)] 3):=by rw[a2];exact(bk _ _ _ ak).trans (aB r _)
   have f4:P.heap[r.heap.size+1]?=some (.cells #[.string ⟨f.label.toArray⟩,.string ⟨f.text.toArray⟩,.slice q.ao f.attrs.length q.ac,.slice q.ko f.kids.length q.kc] 29):=by rw[a2];have:=aB (r.alloc (.cells #[.int .i64 (j:Nat)] 3)) (.cells #[.string ⟨f.label.toArray⟩,.string ⟨f.text.toArray⟩,.slice q.ao f.attrs.length q.ac,.slice q.ko f.kids.length q.kc] 29);rwa[bj]at this
   have ho:=ai 0 f4;have hp:=ai 1 f4;have hq:=ai 2 f4;have hr:=ai 3 f4;have b6:=ER f q P;unfold cP at b6;obtain⟨eZ,e0,e7,e5,bZ,ca⟩:=g6 cb ch b6 c5 bu a9;have gG:=bw;rw[bw];clear cb ch f4 b6 eC eD eE eN c5 bu a9 a8
   gi_wp2_with (first
    |(rw[<-a2];clear a2 hz hA hB hC)
    |fail)
   refine⟨trivial,?_⟩;refine(j9.2 e7.o).mono ?_;rintro z I ⟨rfl,bi⟩;have b0:Below P.heap.size P I:=by rw[bi];exact aG
   have ev:I.heap.size=P.heap.size+1:=by rw[bi];simp
   have ci:I.heap[P.heap.size]?=some (.cells #[.string ⟨f.label.toArray⟩,.string ⟨f.text.toArray⟩,.slice q.ao f.attrs.length q.ac,.slice q.ko f.kids.length q.kc] 29):=by rw[bi];exact aB P _
   rw[ht]at ci;have Q:Below r.heap.size r I:=eZ.o.trans (b0.mono ad);obtain⟨aq,e1⟩:=aD (bN.o.kp d (Kp.of d Q)) (a1 _ _ _ b8.o Q);have hn:I.heap[r.heap.size]?=some (.cells #[.int .i64 (j:Nat)] 3):=(b0.block _ ad).trans e0.o;have hx:S I r.heap.size:=d.new bN.o.tbs Q (az _) ad;have hy:S I (r.heap.size+2):=d.new bN.o.tbs Q ad ad;have g1:dm I (S I) f q:=(Kp.of d Q).tree d e5.o;have bt:∀u∈M,S I u/\I.heap[u]?=some (.deferred (some [])):=fun u D=>by obtain⟨bf,cl,co⟩:=ca.o u D;exact⟨d.grow bf Q,(Q.block u (d.lt bf)).trans co⟩
   have hL:=Q.size;have hK:=a5.o.size;have hJ:=b9.o.size;have eV:=ah Q;clear ho hp hq hr bi b0 Q
   gi_wp2
   have ba:=aX bZ.o;have h1:=zn ba;have hN:=zE t;have hP:=zD ba;have gv:=ih f q (r.heap.size+2) I ad g1 (fun m g5=>c4 m (Eh ba g5)) ad ci hy;refine EI d C aq.o.tbs 9 131 #[.pointer (some ⟨r.heap.size+2,0,none⟩)] (nodesT f).length (wL S f) rfl ES gv (fun k X args h=>EQ h)
    (kT S Inv W l C t y (1+(dz (t.kids.take j)).length) j r.heap.size M) ?_ ?_ ?_ ?_ ?_
   ·exact fun k eU B h J=>h.below d a1 J
   ·intro k eU hG o o' h hZ L c7 c8
    have g3:=d.lt aq.o.tbs;have g4:=d.lt aq.o.ybs;exact h.put d (b3 _ _ _ _ _ h.inv ad L c7 c8) ad ad ad (fun u D=>by have:=d.lt (bt u D).1;omega) L c7 c8
   ·exact⟨e1.o,aq.o,hn,hx,bt⟩
   ·rintro bA k X args busy m hT cv g9 hY ⟨hs,b5⟩
    obtain⟨x,s,bC,af,bB,hl,rfl,ek,c9,h0⟩:=g9;unfold cP;obtain⟨a6,bl,a0⟩:=dF X (.cells #[.string ⟨x.label.toArray⟩,.string ⟨x.text.toArray⟩,.slice s.ao x.attrs.length s.ac,.slice s.ko x.kids.length s.kc] 29);have cc:a6.heap.size=X.heap.size+1:=by rw[bl];simp
    have c1:a6.heap[X.heap.size]?=some (.cells #[.string ⟨x.label.toArray⟩,.string ⟨x.text.toArray⟩,.slice s.ao x.attrs.length s.ac,.slice s.ko x.kids.length s.kc] 29):=by rw[bl];exact aB X _
    gi_wp2_with (first
     |(rw[<-bl];clear bl)
     |fail)
    refine⟨a0,?_⟩;have g2:bA<X.heap.size:=(iq.1 b5).1;have hu:a6.heap.size=X.heap.size+1:=cc;obtain⟨N,an⟩:=ar (a6.putObj bA (.loop busy));rw[<-an];have bc:a6.heap[bA]?=some (.loop hs):=(a0.block _ g2).trans b5;have g3:=d.lt aq.o.tbs;have g4:=d.lt aq.o.ybs;have b2:=cv.below d a1 a0;have cx:kT S Inv W l C t y (1+(dz (t.kids.take j)).length) j r.heap.size M k N:=by rw[an];exact b2.put d (b3 _ _ _ _ _ b2.inv ad bc rfl rfl) ad ad ad (fun u D=>by have:=d.lt (bt u D).1;omega) bc rfl rfl
    have el:dm N (S N) x s:=by rw[an];exact wK d bc rfl rfl ((Kp.of d a0).tree d ek)
    have dr:kS N bC af bB:=by rw[an];exact(c9.below a0).put bc rfl rfl
    have en:N.heap[X.heap.size]?=some (.cells #[.string ⟨x.label.toArray⟩,.string ⟨x.text.toArray⟩,.slice s.ao x.attrs.length s.ac,.slice s.ko x.kids.length s.kc] 29):=by rw[an];exact(dN ad).trans c1
    have hv:N.heap.size=X.heap.size+1:=by rw[an,lK];exact hu
    clear an b5 bc cv b2 a0 ek c9 c1 cc;obtain⟨al,bo⟩:=ar (World.drew N);have av:Below N.heap.size N al:=by rw[bo];exact(aE _ _).drew
    have h5:al.heap.size=X.heap.size+1:=by rw[bo];exact hv
    obtain⟨a4,e8,e6⟩:=bH (cx.below d a1 av) ((Kp.of d av).tree d el) (dr.below av);have eo:=(av.block _ ad).trans en;have bE:Hid (∀Y,Below al.heap.size al Y->Y.cell? ⟨W.heap.size,0,none⟩=some (.func (.yield l) #[] #[])/\Y.cell? ⟨r.heap.size,0,none⟩=some (.int .i64 (j:Nat))/\Y.cell? ⟨X.heap.size,0,none⟩=some (.string ⟨x.label.toArray⟩)/\Y.cell? ⟨X.heap.size,1,none⟩=some (.string ⟨x.text.toArray⟩)/\Y.cell? ⟨X.heap.size,2,none⟩=some (.slice s.ao x.attrs.length s.ac)/\Y.cell? ⟨X.heap.size,3,none⟩=some (.slice s.ko x.kids.length s.kc)):=fun Y J=>by have b1:=(J.block _ (d.lt a4.o.st.ybs)).trans a4.o.st.yb;have ce:=(J.block _ (d.lt a4.o.ibs)).trans a4.o.ib;have a7:=(J.block _ ad).trans eo;exact⟨ai 0 b1,ai 0 ce,ai 0 a7,ai 1 a7,ai 2 a7,ai 3 a7⟩
    have e3:=ah (Kp.of d av);clear cx el dr en eo av
    gi_wp2
    refine wpIn_region_any aA ?_;change wpAnyIn _ _ _ _ _ _ _ _ _ (World.drew N);rw[<-bo];clear bo;refine EM (fun listed a Y=>listed.size=8/\∃v23 v24 v25 v26 v27 v28 v29 v30:Value,a={tmps:=#[.func (.yield l) #[] #[],.pointer (some ⟨C,0,none⟩),.pointer (some ⟨W.heap.size,0,none⟩),.pointer (some ⟨r.heap.size,0,none⟩),.pointer (some ⟨r.heap.size+1,0,none⟩),.slice bC af bB,.pointer (some ⟨X.heap.size,0,none⟩),.func (.yield l) #[] #[],.agg #[.string ⟨t.label.toArray⟩,.string ⟨t.text.toArray⟩,.slice y.ao t.attrs.length y.ac,.slice (some ⟨b,O,none⟩) t.kids.length y.kc],.bool true,.bool false,.pointer (some ⟨C,3,none⟩),.slice (some ⟨b,O,none⟩) t.kids.length y.kc,.int .i64 (t.kids.length:Nat),.int .i64 (j:Nat),.bool true,.int .i64 (j:Nat),.pointer (some ⟨b,O+j*4,none⟩),.agg #[.string ⟨f.label.toArray⟩,.string ⟨f.text.toArray⟩,.slice q.ao f.attrs.length q.ac,.slice q.ko f.kids.length q.kc],.agg #[.string ⟨f.label.toArray⟩,.string ⟨f.text.toArray⟩,.slice q.ao f.attrs.length q.ac,.slice q.ko f.kids.length q.kc],.func (.func 131) #[] #[.pointer (some ⟨r.heap.size+2,0,none⟩)],.slice bC af bB,.agg #[.string ⟨x.label.toArray⟩,.string ⟨x.text.toArray⟩,.slice s.ao x.attrs.length s.ac,.slice s.ko x.kids.length s.kc],v23,v24,v25,v26,v27,v28,v29,v30,u31],defers:=[]}/\
     R8 (.func (.yield l) #[] #[]) (.int .i64 (j:Nat)) (.slice bC af bB) (.agg #[.string ⟨x.label.toArray⟩,.string ⟨x.text.toArray⟩,.slice s.ao x.attrs.length s.ac,.slice s.ko x.kids.length s.kc])
      (fun Y v=>∃g,v=.slice (some ⟨g,0,none⟩) 1 1/\Y.ownsRow al.heap.size 3 1 v 1 [.int .i64 (j:Nat)]) (fun Y v=>∃o c,v=.slice o (af+1) c/\kS Y o (af+1) c)
      (fun Y=>Below al.heap.size al Y) (fun Y=>kT S Inv W l C t y (1+(dz (t.kids.take j)).length) j r.heap.size M (k+1) Y/\Kp S N Y) (fun i=>listed.getD i false=true) Y v23 v24 v25 v26 v27 v28 v29 v30) ?_ ?_ 8 (Array.replicate 8 false) _ _ rfl ap ?_
    ·rintro listed a Y i ⟨eb,v23,v24,v25,v26,v27,v28,v29,v30,rfl,e⟩ gu
     obtain⟨g7,o,L,ao⟩:=gx.1 gu;have E:=EO g7;have hR:i<8:=(iq.1 L).1;have Z:=EN (listed:=listed) (i:=i) ad;have ae:(listed.setIfInBounds i true).size=8:=by simpa using eb
     rcases(show i=0∨i=1∨i=2∨i=3∨i=4∨i=5∨i=6∨i=7 by omega)with rfl|rfl|rfl|rfl|rfl|rfl|rfl|rfl
     ·obtain⟨ew,bD,ex,ez,eA,eB⟩:=bE.o Y (e.jb fun z=>E (e.jd z).1)
      refine jF rfl (fun ag G=> ?_);go_simp;refine G _ _ ?_;exact⟨ae,_,v24,v25,v26,v27,v28,v29,v30,rfl,e.s0 Z E⟩
     ·obtain⟨ew,bD,ex,ez,eA,eB⟩:=bE.o Y (e.jb fun z=>E (e.jd z).2.1)
      refine jF rfl (fun ag G=> ?_);go_simp;refine G _ _ ?_;exact⟨ae,v23,_,v25,v26,v27,v28,v29,v30,rfl,e.s1 Z E⟩
     ·have R:=e.jb fun z=>E (e.jd z).2.2.1
      simp only[gU,gI,jZ,jY]at L;subst L;have d1:=ao {on:=1,ground:=.data} ak rfl;obtain rfl:=e.j1 d1;refine jF rfl (fun ag G=> ?_);go_simp;refine G _ _ ?_;exact⟨ae,v23,_,_,v26,v27,v28,v29,v30,rfl,e.s2 Z E d1 ⟨Y.heap.size,rfl,rfl,.inr ⟨Y.heap.size,1,#[.int .i64 (j:Nat)],rfl,R.size,aB Y _,az _,ap,rfl,rfl⟩⟩ (R.alloc R.size _)⟩
     ·refine jF rfl (fun ag G=> ?_)
      go_simp;refine G _ _ ?_;exact⟨ae,v23,v24,v25,_,v27,v28,v29,v30,rfl,e.s3 Z E⟩
     ·have g8:¬listed.getD 6 false=true:=fun z=>E (e.jd z).2.2.2.2.1
      have R:=e.jb g8;simp only[gU,gI,jZ,jY]at L;subst L;have d2:=ao {on:=2,ground:=.data} ak rfl;have d3:=ao {on:=3,ground:=.data} ak rfl;obtain rfl:=e.j3 d3;obtain⟨g,rfl,ha⟩:=e.j2 d2 E;obtain⟨h7,Y',hi,hd,gb⟩:=NE j R ha (e6.o.below R) ad;refine jF rfl (fun ag G=> ?_);rw[ay (by simp[Region.wanted])];unfold Oper.wpIn;refine⟨by simp[Oper.about,resolve,Target.leads,uF],?_⟩;rw[Oper.semAt_plain _ _ _ (by intro c gl;cases gl)];simp[execOp,resolve,invoke,builtin,hi,Result.andThen,Act.eval];exact G _ _ ⟨ae,v23,v24,_,_,_,v28,v29,v30,rfl,e.s4 Z E d2 d3 hd gb⟩
     ·obtain⟨ew,bD,ex,ez,eA,eB⟩:=bE.o Y (e.jb fun z=>E (e.jd z).2.2.2.2.2)
      refine jF rfl (fun ag G=> ?_);go_simp;refine G _ _ ?_;exact⟨ae,v23,v24,v25,v26,v27,_,v29,v30,rfl,e.s5 Z E⟩
     ·simp only[gU,gI,jZ,jY]at L
      subst L;have d0:=ao {on:=0,ground:=.data} ak rfl;have d4:=ao {on:=4,ground:=.data} ak rfl;have d5:=ao {on:=5,ground:=.data} ak rfl;have d23:=e.jc d4;have d1:=e.je d23.1;have R:=e.jb E;obtain rfl:=e.j0 d0;obtain rfl:=e.j5 d5;obtain⟨es,er,rfl,hc⟩:=e.j4 d4 E;have cu:=a4.o.below d a1 R;have eg:=NG bZ.o hl;obtain⟨hI,h6,hE,hH,hm,fN⟩:=EG (m':=m-1)<|c2 (1+(dz (t.kids.take j)).length+k) Y #[.slice es (af+1) er,cP x s] (aL.1 eg).1 cu.inv ⟨x,s,es,af+1,er,eg,rfl,(Kp.of d R).tree d e8.o,hc,ad⟩
      unfold cP at hm;refine jF rfl (fun ag G=> ?_);go_simp;refine⟨fun h=>(by cases h),?_⟩;refine RoundIn.mono (F:=Fence.wide.inRound bA) fN ?_;rintro z hD ⟨rfl,fq,c3⟩;refine G _ _ ?_;exact⟨ae,_,v24,v25,v26,_,_,_,v30,rfl,e.s6 Z E d0 d1 d23.1 d23.2 d4 d5 ⟨cu.next d c3 fq,e3.o.trans ((Kp.of d R).trans c3)⟩⟩
     ·simp only[gU,gI,jZ,jY]at L
      subst L;have d6:=ao {on:=6,ground:=.data} ak rfl;obtain rfl:=e.j6 d6;refine jF rfl (fun ag G=> ?_);go_simp;refine G _ _ ?_;exact⟨ae,v23,v24,v25,v26,v27,v28,_,_,rfl,e.s7 Z E d6⟩
    ·rintro listed a Y ⟨eb,v23,v24,v25,v26,v27,v28,v29,v30,rfl,e⟩ aa
     have fu:listed.getD 0 false=true:=by
      apply ei;intro H;have:(0:Nat)∈([]:List Nat):=by rw[<-aa];exact gx.2 ⟨jG ad (by simpa using H),_,rfl,fun z A=>by simp at A⟩
      cases this
     have fv:listed.getD 1 false=true:=by
      apply ei;intro H;have:(1:Nat)∈([]:List Nat):=by rw[<-aa];exact gx.2 ⟨jG ad (by simpa using H),_,rfl,fun z A=>by simp at A⟩
      cases this
     have fw:listed.getD 2 false=true:=by
      apply ei;intro H;have:(2:Nat)∈([]:List Nat):=by rw[<-aa];exact gx.2 ⟨jG ad (by simpa using H),_,rfl,fun z A _=>by simp at A;subst A;exact fv⟩
      cases this
     have fx:listed.getD 3 false=true:=by
      apply ei;intro H;have:(3:Nat)∈([]:List Nat):=by rw[<-aa];exact gx.2 ⟨jG ad (by simpa using H),_,rfl,fun z A=>by simp at A⟩
      cases this
     have cF:listed.getD 4 false=true:=by
      apply ei;intro H;have:(4:Nat)∈([]:List Nat):=by rw[<-aa];exact gx.2 ⟨jG ad (by simpa using H),_,rfl,fun z A _=>by simp at A;rcases A with rfl|rfl;exact fw;exact fx⟩
      cases this
     have fy:listed.getD 5 false=true:=by
      apply ei;intro H;have:(5:Nat)∈([]:List Nat):=by rw[<-aa];exact gx.2 ⟨jG ad (by simpa using H),_,rfl,fun z A=>by simp at A⟩
      cases this
     have cG:listed.getD 6 false=true:=by
      apply ei;intro H;have:(6:Nat)∈([]:List Nat):=by rw[<-aa];exact gx.2 ⟨jG ad (by simpa using H),_,rfl,fun z A _=>by simp at A;rcases A with rfl|rfl|rfl|rfl;exact fu;exact cF;exact fy;exact cF⟩
      cases this
     have fz:listed.getD 7 false=true:=by
      apply ei;intro H;have:(7:Nat)∈([]:List Nat):=by rw[<-aa];exact gx.2 ⟨jG ad (by simpa using H),_,rfl,fun z A _=>by simp at A;subst A;exact cG⟩
      cases this
     obtain rfl:=e.j7 fz;have hQ:=e.jy cG
     gi_wp2
    ·have K:∀i,¬(Array.replicate 8 false).getD i false=true:=fun i=>by rw[getD_replicate_false];simp
     exact⟨ak,u23,u24,u25,u26,u27,u28,u29,u30,rfl,⟨fun h=>(K _ h).elim,fun h=>(K _ h).elim,fun h _=>(K _ h).elim,fun h=>(K _ h).elim,fun h _=>(K _ h).elim,fun h=>(K _ h).elim,fun h=>(K _ h).elim,fun h=>(K _ h).elim,fun _=>aE _ _,fun h=>(K _ h).elim,fun h=>(K _ h).elim,fun h=>(K _ h).elim,fun h=>(K _ h).elim⟩⟩
   ·rintro X ⟨bf,cl,co,h4,cp⟩ bq hw g0
    have fG:(I.heap.size::M).Nodup:=nS.2 ⟨fun h=>by have:=d.lt (bt _ h).1;omega,c6⟩;have fl:Inv (1+(dz (t.kids.take (j+1))).length) X:=by rw[ET bZ.o,cR,<-iE];exact bf
    have fs:Kp S T X:=a5.o.trans ((Kp.of d eV.o).trans g0)
    gi_wp2
    rw[<-gG];refine⟨⟨j+1,I.heap.size::M,_,_,_,_,_,_,_,_,_,_,_,_,_,_,_,_,_,_,_,_,_,rfl,ad,fG,fun u D=> ?_,fl,cl,fs⟩,?_⟩
    ·rcases du.1 D with rfl|D
     ·exact⟨hw,ad,bq⟩
     ·exact⟨(cp u D).1,(ca.o u D).2.1,(cp u D).2⟩
    ·simp[intOf];omega
  ·have gr:decide ((j:Int)<t.kids.length)=false:=bK
   gi_wp2
   obtain rfl:j=t.kids.length:=ad;have cq:=b8.o;rw[dh (az _),<-zI]at cq;have fr:Kp S W r:=(Kp.of d V).trans (b9.o.trans a5.o);refine tg (fun X=>Inv (nodesT t).length X/\Kp S W X) (fun X h=>⟨_,by simp[results,results131,go_sem];rfl,⟨_,rfl⟩,h.1,h.2⟩) M r c6 (fun u D=>(a9 u D).2.2) ⟨cq,fr⟩ (fun X u D bq b7=>⟨b3 _ _ _ _ _ b7.1 (a9 u D).2.1 bq rfl rfl,⟨by rw[lK];exact b7.2.size,fun b J=> ?_⟩⟩);obtain⟨ev,fo⟩:=b7.2.same b J;have gf:=d.lt J;exact⟨d.put ev bq rfl rfl,by rw[dN (by have:=(a9 u D).2.1;omega)];exact fo⟩
end
end Go.Proofs.YtnadadbndcdolaaGreatDoor
