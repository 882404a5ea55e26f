import Derived.Test.YtbacloblanpghaaGreatDoorQaz
import Derived.Test.YtbacloblanpghaaGreatDoorQbf
set_option linter.unusedVariables false
set_option linter.unusedSimpArgs false
set_option maxRecDepth 100000
set_option maxHeartbeats 0
namespace Go.Proofs.YtbacloblanpghaaGreatDoor
open Go.RowKit Tryz
section
theorem Mf{p q:Nat->Bool}(h:∀j,q j=true->p j=true){i:Nat}(d:p i=true)(e:q i=false):∀n,i<n->((List.range n).filter q).length<((List.range n).filter p).length:=by
 have c:∀n,((List.range n).filter q).length<=((List.range n).filter p).length:=fun n=>by
  induction n with
  |zero=>simp
  |succ n ih=>
   rw[sI,ou,ou,cm,cm];cases a:q n with
   |false=>simp[a];omega
   |true=>simp[a,h n a];omega
 intro n;induction n with
 |zero=>intro h;omega
 |succ n ih=>
  intro f;rw[sI,ou,ou,cm,cm];by_cases b:i=n
  ·subst b
   have:=c i;simp[d,e];omega
  ·have:=ih ad
   cases a:q n with
   |false=>simp[a];omega
   |true=>simp[a,h n a];omega
theorem Di{listed:Array Bool}{i:Nat}(h:i<listed.size):(listed.setIfInBounds i true).getD i true=true:=by simp[h]
theorem Dj{F:Fence}{n:Nat}{P:Program}{l:Region.Mode}{b:Array Oper}{Q:Exit->Act->World->Prop}(d:Array Bool->Act->World->Prop)
 (step:∀listed a w i,d listed a w->i∈Region.ready l b listed->wpOpIn F n P b Q i (fun u w'=>d (listed.setIfInBounds i true) u w') a w)
 (x:∀listed a w,d listed a w->Region.ready l b listed=[]->Q .normal a w):
 ∀(c:Nat) (listed:Array Bool) (a:Act) (w:World),listed.size=b.size->((List.range b.size).filter fun i=> !listed.getD i true).length<=c->d listed a w->wpAnyIn F n P l b Q c listed a w:=by
 intro c;induction c with
 |zero=>
  intro listed a w y z e;have f:Region.ready l b listed=[]:=by rw[List.eq_nil_iff_forall_not_mem];intro i g;obtain⟨m,o,r,_⟩:=gh.1 g;have s:=(gW.1 r).1;have:i∈(List.range b.size).filter fun i=> !listed.getD i true:=E5.2 ⟨l6.2 s,by rw[m];rfl⟩;have:=List.length_pos_of_mem this;omega
  exact⟨f,x _ _ _ e f⟩
 |succ c ih=>
  intro listed a w y z e;refine⟨fun f=>x _ _ _ e f,fun i g=> ?_⟩;obtain⟨m,o,r,_⟩:=gh.1 g;have s:=(gW.1 r).1;refine wpOpIn_mono (fun u w' h=>ih _ _ _ (by simpa using y) ?_ h) (step _ _ _ _ e g);have:=Mf (p:=fun j=> !listed.getD j true) (q:=fun j=> !(listed.setIfInBounds i true).getD j true) (fun j t=>by
   by_cases v:i=j
   ·subst v
    rw[Di ad]at t;cases t
   ·rwa[getD_set_ne true v]at t) (i:=i) (by rw[m];rfl) (by rw[Di ad];rfl) b.size s
  omega
def kC(w:World)(d:Option Addr)(c b:Nat):Prop:=∃a:List Nat,a.length=c/\cS w d c b 1 (fj a)/\(d=none->b=0)
theorem kC.below{w w':World}{c:Option Addr}{b a:Nat}(h:kC w c b a)(g:Below w.heap.size w w'):kC w' c b a:=by obtain⟨i,d,e,f⟩:=h;exact⟨i,d,cS.below e g,f⟩
theorem kC.put{w:World}{c:Option Addr}{b a l:Nat}{o o':Obj}(h:kC w c b a)(j:w.heap[l]?=some o)(g:o.isCells=false)(i:o'.isCells=false):kC (w.putObj l o') c b a:=by obtain⟨m,d,e,f⟩:=h;exact⟨m,d,Mb j g i e,f⟩
structure R8(fy ji pv xv:Value)(own PA:World->Value->Prop)(IB IY:World->Prop)(L:Nat->Prop)(Y:World)(v23 v24 v25 v26 v27 v28 v29 v30:Value):Prop where
 j0:L 0->v23=fy
 j1:L 1->v24=ji
 j2:L 2->¬L 4->own Y v25
 j3:L 3->v26=pv
 j4:L 4->¬L 6->PA Y v27
 j5:L 5->v28=xv
 j6:L 6->v29=.bool true
 j7:L 7->v30=.bool false
 jb:¬L 6->IB Y
 jy:L 6->IY Y
 jd:L 6->L 0/\L 1/\L 2/\L 3/\L 4/\L 5
 jc:L 4->L 2/\L 3
 je:L 2->L 1
section
variable{fy ji pv xv:Value} {own PA:World->Value->Prop} {IB IY:World->Prop} {L L':Nat->Prop} {Y Y':World} {v23 v24 v25 v26 v27 v28 v29 v30:Value}
 (h:R8 fy ji pv xv own PA IB IY L Y v23 v24 v25 v26 v27 v28 v29 v30)
include h
theorem R8.s0(c:∀j,L' j↔j=0∨L j)(d:¬L 0):R8 fy ji pv xv own PA IB IY L' Y fy v24 v25 v26 v27 v28 v29 v30:=by have a:¬L 6:=fun b=>d (h.jd b).1;constructor<;>simp only[c]<;>intros<;>(try simp_all);all_goals first|assumption|exact h.j0 ‹_›|exact h.j1 ‹_›|exact h.j3 ‹_›|exact h.j5 ‹_›|exact h.j6 ‹_›|exact h.j7 ‹_›|exact h.j2 ‹_› ‹_›|exact h.j4 ‹_› a|exact h.jc ‹_›|exact h.je ‹_›|exact h.jb a|exact h.jy ‹_›|(have:=h.jd ‹_›;simp_all)|(have:=h.jc ‹_›;simp_all)
theorem R8.s1(c:∀j,L' j↔j=1∨L j)(d:¬L 1):R8 fy ji pv xv own PA IB IY L' Y v23 ji v25 v26 v27 v28 v29 v30:=by have a:¬L 6:=fun b=>d (h.jd b).2.1;constructor<;>simp only[c]<;>intros<;>(try simp_all);all_goals first|assumption|exact h.j0 ‹_›|exact h.j1 ‹_›|exact h.j3 ‹_›|exact h.j5 ‹_›|exact h.j6 ‹_›|exact h.j7 ‹_›|exact h.j2 ‹_› ‹_›|exact h.j4 ‹_› a|exact h.jc ‹_›|exact h.je ‹_›|exact h.jb a|exact h.jy ‹_›|(have:=h.jd ‹_›;simp_all)|(have:=h.jc ‹_›;simp_all)
theorem R8.s2{u:Value}(d:∀j,L' j↔j=2∨L j)(c:¬L 2)(e:L 1)(i:own Y' u)(g:IB Y'):R8 fy ji pv xv own PA IB IY L' Y' v23 v24 u v26 v27 v28 v29 v30:=by have b:¬L 6:=fun a=>c (h.jd a).2.2.1;have f:¬L 4:=fun a=>c (h.jc a).1;constructor<;>simp only[d]<;>intros<;>(try simp_all);all_goals first|assumption|exact h.j0 ‹_›|exact h.j1 ‹_›|exact h.j3 ‹_›|exact h.j5 ‹_›|exact h.j6 ‹_›|exact h.j7 ‹_›|exact h.j2 ‹_› ‹_›|exact h.j4 ‹_› b|exact h.jc ‹_›|exact h.je ‹_›|exact h.jb b|exact h.jy ‹_›|(have:=h.jd ‹_›;simp_all)|(have:=h.jc ‹_›;simp_all)
theorem R8.s3(c:∀j,L' j↔j=3∨L j)(d:¬L 3):R8 fy ji pv xv own PA IB IY L' Y v23 v24 v25 pv v27 v28 v29 v30:=by have a:¬L 6:=fun b=>d (h.jd b).2.2.2.1;constructor<;>simp only[c]<;>intros<;>(try simp_all);all_goals first|assumption|exact h.j0 ‹_›|exact h.j1 ‹_›|exact h.j3 ‹_›|exact h.j5 ‹_›|exact h.j6 ‹_›|exact h.j7 ‹_›|exact h.j2 ‹_› ‹_›|exact h.j4 ‹_› a|exact h.jc ‹_›|exact h.je ‹_›|exact h.jb a|exact h.jy ‹_›|(have:=h.jd ‹_›;simp_all)|(have:=h.jc ‹_›;simp_all)
theorem R8.s4{u:Value}(c:∀j,L' j↔j=4∨L j)(d:¬L 4)(e:L 2)(f:L 3)(i:PA Y' u)(g:IB Y'):R8 fy ji pv xv own PA IB IY L' Y' v23 v24 v25 v26 u v28 v29 v30:=by have a:¬L 6:=fun b=>d (h.jd b).2.2.2.2.1;constructor<;>simp only[c]<;>intros<;>(try simp_all);all_goals first|assumption|exact h.j0 ‹_›|exact h.j1 ‹_›|exact h.j3 ‹_›|exact h.j5 ‹_›|exact h.j6 ‹_›|exact h.j7 ‹_›|exact h.j2 ‹_› ‹_›|exact h.j4 ‹_› a|exact h.jc ‹_›|exact h.je ‹_›|exact h.jb a|exact h.jy ‹_›|(have:=h.jd ‹_›;simp_all)|(have:=h.jc ‹_›;simp_all)
theorem R8.s5(c:∀j,L' j↔j=5∨L j)(d:¬L 5):R8 fy ji pv xv own PA IB IY L' Y v23 v24 v25 v26 v27 xv v29 v30:=by have a:¬L 6:=fun b=>d (h.jd b).2.2.2.2.2;constructor<;>simp only[c]<;>intros<;>(try simp_all);all_goals first|assumption|exact h.j0 ‹_›|exact h.j1 ‹_›|exact h.j3 ‹_›|exact h.j5 ‹_›|exact h.j6 ‹_›|exact h.j7 ‹_›|exact h.j2 ‹_› ‹_›|exact h.j4 ‹_› a|exact h.jc ‹_›|exact h.je ‹_›|exact h.jb a|exact h.jy ‹_›|(have:=h.jd ‹_›;simp_all)|(have:=h.jc ‹_›;simp_all)
theorem R8.s6(a:∀j,L' j↔j=6∨L j)(l:¬L 6)(b:L 0)(c:L 1)(d:L 2)(e:L 3)(f:L 4)(g:L 5)(i:IY Y'):R8 fy ji pv xv own PA IB IY L' Y' v23 v24 v25 v26 v27 v28 (.bool true) v30:=by constructor<;>simp only[a]<;>intros<;>(try simp_all);all_goals first|assumption|exact h.j0 ‹_›|exact h.j1 ‹_›|exact h.j3 ‹_›|exact h.j5 ‹_›|exact h.j6 ‹_›|exact h.j7 ‹_›|exact h.j2 ‹_› ‹_›|exact h.j4 ‹_› h6|exact h.jc ‹_›|exact h.je ‹_›|exact h.jb h6|exact h.jy ‹_›|(have:=h.jd ‹_›;simp_all)|(have:=h.jc ‹_›;simp_all)
theorem R8.s7(b:∀j,L' j↔j=7∨L j)(c:¬L 7)(a:L 6):R8 fy ji pv xv own PA IB IY L' Y v23 v24 v25 v26 v27 v28 v29 (.bool false):=by constructor<;>simp only[b]<;>intros<;>(try simp_all);all_goals first|assumption|exact h.j0 ‹_›|exact h.j1 ‹_›|exact h.j3 ‹_›|exact h.j5 ‹_›|exact h.j6 ‹_›|exact h.j7 ‹_›|exact h.j2 ‹_› ‹_›|exact h.j4 ‹_› a|exact h.jc ‹_›|exact h.je ‹_›|exact h.jb a|exact h.jy ‹_›|(have:=h.jd ‹_›;simp_all)|(have:=h.jc ‹_›;simp_all)
end
theorem Mg(Y:World)(g:Nat)(ty:TypeId):(Builtin.append_ #[53,53] ty #[.slice (some ⟨g,0,none⟩) 1 1,.slice none 0 0]).run prog Y=.ok (.slice (some ⟨g,0,none⟩) 1 1) Y:=by simp[Builtin.append_,go_sem,Builtin.firstCells,Builtin.lenOf,storeCells]
theorem Dk{listed:Array Bool}{i:Nat}(b:i<listed.size)(j:Nat):(listed.setIfInBounds i true).getD j false=true↔j=i∨listed.getD j false=true:=by
 by_cases a:i=j
 ·subst a;simp[b]
 ·rw[getD_set_ne false a]
  constructor
  ·exact .inr
  ·rintro(h|h)
   ·exact absurd h.symm a
   ·exact h
theorem Dl{listed:Array Bool}{i:Nat}(h:listed.getD i true=false):¬listed.getD i false=true:=by rw[getD_both h];simp
theorem Dm{Y:World}{B:Nat}{v:Value}{a:List Nat}(h:cO Y B v a)(n:0<a.length):∃o c,v=.slice o a.length c/\kC Y o a.length c:=by
 have f:=h;rcases h.2 with⟨_,m⟩|⟨g,cap,j,rfl,_⟩
 ·omega
 ·obtain⟨o,c,b,i⟩:=pS f
  injection b with d l e
  subst d;subst e;exact⟨_,_,rfl,a,rfl,i,fun b=>(by cases b)⟩
theorem Mh{e Y:World}{g j d r:Nat}{s:Option Addr}(R:Nat)(l:Below e.heap.size e Y)(n:Y.ownsRow e.heap.size 3 1 (.slice (some ⟨g,0,none⟩) 1 1) 1 [.int .i64 (j:Nat)])(F:kC Y s d r)(Q:d<=1048576):
 ∃i Y',(∀ty,(Builtin.append_ #[53,53] ty #[.slice (some ⟨g,0,none⟩) 1 1,.slice s d r]).run prog Y=.ok i Y')/\(∃o c,i=.slice o (d+1) c/\kC Y' o (d+1) c)/\Below e.heap.size e Y':=by
 obtain⟨q,w,y,H⟩:=F;have C:=(bX n g rfl).1;cases s with
 |none=>
  have G:d=0:=by
   rcases Nat.eq_zero_or_pos d with h|h
   ·exact h
   ·obtain⟨b,N,f,_⟩:=y.2.2.2 h
    cases f
  subst G;obtain rfl:=H rfl;have m:cO Y e.heap.size (.slice (some ⟨g,0,none⟩) 1 1) [j]:=n;exact⟨_,Y,fun ty=>Mg Y g ty,Dm m ak,l⟩
 |some a=>
  obtain⟨M,D,J,K,L⟩:=cL lu;have E:∀k u,(fj q)[k]?=some u->Y.cell? (a.add k)=some u:=fun k u t=>by
   have v:=(aP.1 t).1;have:0<d:=by unfold fj at v;simp at v;omega
   obtain⟨b,N,f,_,B⟩:=y.2.2.2 this;injection f with f
   rw[f,Addr.add_mid];exact B k u t
  obtain⟨i,Y',I,m,z,O⟩:=run_append_own (P:=prog) Y e.heap.size 53 53 3 M (.int .i64 0) 1 8 ke D J K L rfl aw _ _ _ n a d r (fj q) (by unfold fj;simp;omega) E (fun u p=>by unfold fj at p;simp at p;obtain⟨k,_,rfl⟩:=p;rfl) bN ad l.size;have A:cO Y' e.heap.size i (j::q):=by unfold cO;rw[de,w,Nat.add_comm];exact m
  have x:=Dm A ak;rw[de,w]at x;refine⟨i,Y',fun ty=> ?_,x,?_⟩
  ·rw[<-I];rfl
  ·exact l.grown z l.size (fun k f=>by cases f;exact C)
def uO(S:World->Nat->Prop)(t:Tr)(k:Nat)(W:World)(args:Array Value):Prop:=
 ∃(m:Tr) (q:KA) (c:Option Addr) (a b:Nat),(nodesT t)[k]?=some m/\args=#[.slice c a b,bJ m q]/\cg W (S W) m q/\kC W c a b/\a<dS t
theorem Dn{S:World->Nat->Prop}{t:Tr}{k:Nat}{W:World}{args:Array Value}(h:uO S t k W args):args.size=2:=by obtain⟨_,_,_,_,_,_,rfl,_⟩:=h;rfl
theorem Do(t:Tr)(r:KA)(w:World):Calls prog 60 #[bJ t r] w fun a w'=>a=.returned (.func (.func 95) #[] #[.pointer (some ⟨w.heap.size,0,none⟩)])/\w'=w.alloc (.cells #[.string ⟨t.label.toArray⟩,.string ⟨t.text.toArray⟩,.slice r.ao t.attrs.length r.ac,.slice r.ko t.kids.length r.kc] 29):=by
 unfold bJ;go_enter func60,ntmps60
 go_wp2
 go_ret;exact⟨rfl,rfl⟩
theorem Dp:∀args a,(callFunc 95 args).run prog a=.ok (.enter 95 args) a:=fun _ _=>rfl
attribute [local go_sem] sT
structure qp(S:World->Nat->Prop)(W0 W:World)(l TB YB:Nat)(t:Tr)(r:KA):Prop where
 tb:W.heap[TB]?=some (.cells #[.string ⟨t.label.toArray⟩,.string ⟨t.text.toArray⟩,.slice r.ao t.attrs.length r.ac,.slice r.ko t.kids.length r.kc] 29)
 tbs:S W TB
 yb:W.heap[YB]?=some (.cells #[.func (.yield l) #[] #[]] 178)
 ybs:S W YB
 tree:cg W (S W) t r
theorem qp.kp{S:World->Nat->Prop}(d:lT S){b W W':World}{l a c:Nat}{t:Tr}{r:KA}(h:qp S b W l a c t r)(k:Kp S W W'):qp S b W' l a c t r:=
 ⟨(k.same _ h.tbs).2.trans h.tb,(k.same _ h.tbs).1,(k.same _ h.ybs).2.trans h.yb,(k.same _ h.ybs).1,k.tree d h.tree⟩
theorem cg.kidsIn{w:World}{P:Nat->Prop}{t:Tr}{r:KA}(h:cg w P t r):∃rs:List KA,rs.length=t.kids.length/\kR w P r.ko t.kids.length r.kc 4 (kidRows t.kids rs)/\∀(i:Nat) (k:Tr) (q:KA),t.kids[i]?=some k->rs[i]?=some q->cg w P k q:=by
 cases h with
 |mk d rs b a c=>exact⟨rs,b,a,c⟩
theorem Dq{ks:List Tr}{j:Nat}{k:Tr}(h:ks[j]?=some k):cf (ks.take (j+1))=cf (ks.take j)++nodesT k:=by
 have c:∀a b:List Tr,cf (a++b)=cf a++cf b:=fun a b=>by
  induction a with
  |nil=>simp[cf]
  |cons x a ih=>simp[cf,ih,qG]
 rw[bG,h,dR,c];simp[cf]
theorem Mi{ks:List Tr}{j:Nat}{k:Tr}(h:ks[j]?=some k){m:Nat}{x:Tr}(c:(nodesT k)[m]?=some x):(cf ks)[(cf (ks.take j)).length+m]?=some x:=by
 have d:∀a b:List Tr,cf (a++b)=cf a++cf b:=fun a b=>by
  induction a with
  |nil=>simp[cf]
  |cons x a ih=>simp[cf,ih,qG]
 have f:=(aP.1 c).1;have e:cf ks=(cf (ks.take j)++nodesT k)++cf (ks.drop (j+1)):=by rw[<-Dq h,<-d,jC]
 rw[e,eF (by rw[cm];omega),gH ad,Fu];exact c
theorem Mj{t:Tr}{j:Nat}{k:Tr}(h:t.kids[j]?=some k){m:Nat}{x:Tr}(a:(nodesT k)[m]?=some x):(nodesT t)[1+(cf (t.kids.take j)).length+m]?=some x:=by
 cases t with
 |mk b c av ks=>
  have:=Mi (ks:=ks) h a;simp only[nodesT,Tr.kids];rw[show 1+(cf (ks.take j)).length+m=((cf (ks.take j)).length+m)+1 by omega,gq];exact this
theorem yi(t:Tr):(nodesT t).length=1+(cf t.kids).length:=by
 cases t with
 |mk a b av ks=>simp[nodesT,Tr.kids];omega
structure kD(S:World->Nat->Prop)(Inv:Nat->World->Prop)(W:World)(l TB:Nat)(t:Tr)(r:KA)(cnt j IBk:Nat)(Ds:List Nat)(m:Nat)(X:World):Prop where
 inv:Inv (cnt+m) X
 st:qp S W X l TB W.heap.size t r
 ib:X.heap[IBk]?=some (.cells #[.int .i64 (j:Nat)] 3)
 ibs:S X IBk
 ds:∀D∈Ds,S X D/\X.heap[D]?=some (.deferred (some []))
theorem kD.below{S:World->Nat->Prop}(a:lT S){Inv:Nat->World->Prop}{W:World}{l n:Nat}{t:Tr}{r:KA}{p j i:Nat}{g:List Nat}{m:Nat}{d B:World}(q:∀k e o,Inv k e->Below e.heap.size e o->Inv k o)(h:kD S Inv W l n t r p j i g m d)(b:Below d.heap.size d B):kD S Inv W l n t r p j i g m B:=
 ⟨q _ _ _ h.inv b,h.st.kp a (Kp.of a b),(b.block _ (a.lt h.ibs)).trans h.ib,a.grow h.ibs b,fun c f=>⟨a.grow (h.ds c f).1 b,(b.block c (a.lt (h.ds c f).1)).trans (h.ds c f).2⟩⟩
theorem kD.next{S:World->Nat->Prop}(n:lT S){Inv:Nat->World->Prop}{W:World}{l i:Nat}{t:Tr}{r:KA}{c j g:Nat}{f:List Nat}{m:Nat}{e B:World}(h:kD S Inv W l i t r c j g f m e)(a:Kp S e B)(o:Inv (c+m+1) B):kD S Inv W l i t r c j g f (m+1) B:=
 ⟨o,h.st.kp n a,(a.same _ h.ibs).2.trans h.ib,(a.same _ h.ibs).1,fun b d=>⟨(a.same _ (h.ds b d).1).1,(a.same _ (h.ds b d).1).2.trans (h.ds b d).2⟩⟩
theorem kD.put{S:World->Nat->Prop}(c:lT S){Inv:Nat->World->Prop}{W:World}{l p:Nat}{t:Tr}{r:KA}{q j n:Nat}{i:List Nat}{m:Nat}{g:World}{a:Nat}{o o':Obj}(y:Inv (q+m) (g.putObj a o'))(h:kD S Inv W l p t r q j n i m g)
 (u:p≠a) (v:W.heap.size≠a) (w:n≠a) (x:∀b∈i,b≠a) (d:g.heap[a]?=some o) (e:o.isCells=false) (f:o'.isCells=false):kD S Inv W l p t r q j n i m (g.putObj a o'):=
 ⟨y,⟨(dJ u).trans h.st.tb,c.put h.st.tbs d e f,(dJ v).trans h.st.yb,c.put h.st.ybs d e f,uN c d e f h.st.tree⟩,(dJ w).trans h.ib,c.put h.ibs d e f,
   fun b s=>⟨c.put (h.ds b s).1 d e f,(dJ (x b s)).trans (h.ds b s).2⟩⟩
theorem Ml(S:World->Nat->Prop)(d:lT S):∀(n:Nat) (t:Tr) (r:KA) (C:Nat) (w:World),SizeOf.sizeOf t<=n->cg w (S w) t r->(∀m∈nodesT t,m.kids.length<=1048576)->dS t<=1048576->w.heap[C]?=some (.cells #[.string ⟨t.label.toArray⟩,.string ⟨t.text.toArray⟩,.slice r.ao t.attrs.length r.ac,.slice r.ko t.kids.length r.kc] 29)->S w C->
 De S prog 95 #[.pointer (some ⟨C,0,none⟩)] (nodesT t).length (uO S t) w:=by
 intro n;induction n with
 |zero=>intro t r C w em;cases t;simp at em
 |succ n ih=>
 intro t r C w em hu d7 hY es hv l Inv W a4 a2 cc d5 f1;have g0:=(gW.1 es).1;have g1:W.heap[C]?=_:=(a4.block C g0).trans es;have d3:S W C:=d.grow hv a4;have er:cg W (S W) t r:=hu.kept a4.size fun b O bg J=>⟨a4.cell (p:=⟨b,O,none⟩) bg,d.grow J a4⟩;obtain⟨a7,bb⟩:=aj (W.alloc (.cells #[.func (.yield l) #[] #[]] 178));have V:Below W.heap.size W a7:=by rw[bb];exact az
 have io:a7.heap.size=W.heap.size+1:=by rw[bb];simp
 have ab:qp S W a7 l C W.heap.size t r:=⟨(V.block _ (by have:=a4.size;omega)).trans g1,d.grow d3 V,by rw[bb];exact aC W _,d.new d3 V (aB _) ad,er.kept V.size fun b O bg J=>⟨V.cell (p:=⟨b,O,none⟩) bg,d.grow J V⟩⟩;have f2:Inv 0 a7:=a2 _ _ _ f1 V;have fN:=ai 0 ab.tb;have fT:=ai 1 ab.tb;have f0:=ai 2 ab.tb;have cx:=ai 3 ab.tb;have b0:=ai 0 ab.yb;have hp:0<(nodesT t).length:=by cases t;simp[nodesT]
 have g8:(nodesT t)[0]?=some t:=by cases t;simp[nodesT]
 obtain⟨fn,tmps,assign,body,eD,d2⟩:=Dd (m':=8)<|d5 0 a7 #[.slice none 0 0,bJ t r] hp f2 ⟨t,r,none,0,0,g8,rfl,ab.tree,⟨[],rfl,⟨rfl,aB _,aK _,fun h=>absurd h (sJ _)⟩,fun _=>rfl⟩,by have:=yf t;omega⟩
 unfold bJ at eD;have fv:=ah ab;clear ab er;refine(jF (n:=9)).1 (Fz func95 rfl trivial ?_ rfl);simp only[ntmps95,zC,de,ga,Nat.reduceAdd,Nat.reduceSub,zD,zE,zF,zH,lm,fH]
 gi_wp2_with (first
  |(rw[<-bb];clear bb)
  |fail)
 refine d2.mono ?_;rintro z T ⟨rfl,dr,ce⟩;have b2:=ah (fv.o.kp d ce);clear eD d2 fN fT f0 cx b0;have cx:=ai 3 b2.o.tb
 gi_wp2
 obtain⟨rs,hr,el,hs⟩:=b2.o.tree.kidsIn;have bB:=el.row;have cp:=ah ce;have h8:=d7 t (by cases t;simp[nodesT]);have bf:=bB.2.2.1;unfold maxLen at bf;have h6:=bB.2.1;have fs:=ah dr;clear ce dr;refine wpIn_loop (fun a W'=>∃(j:Nat) (M:List Nat) (u3 u4 u5 u6 u15 u16 u17 u18 u19 u20 u21 u22 u23 u24 u25 u26 u27 u28 u29 u30 u31:Value),a={tmps:=#[.func (.yield l) #[] #[],.pointer (some ⟨C,0,none⟩),.pointer (some ⟨W.heap.size,0,none⟩),u3,u4,u5,u6,.func (.yield l) #[] #[],.agg #[.string ⟨t.label.toArray⟩,.string ⟨t.text.toArray⟩,.slice r.ao t.attrs.length r.ac,.slice r.ko t.kids.length r.kc],.bool true,.bool false,.pointer (some ⟨C,3,none⟩),.slice r.ko t.kids.length r.kc,.int .i64 (t.kids.length:Nat),.int .i64 (j:Nat),u15,u16,u17,u18,u19,u20,u21,u22,u23,u24,u25,u26,u27,u28,u29,u30,u31],defers:=M.map fun y=>{target:=.collected y,args:=#[]}}/\j<=t.kids.length/\M.Nodup/\
  (∀y∈M,S W' y/\W.heap.size<=y/\W'.heap[y]?=some (.deferred (some [])))/\Hid (Inv (1+(cf (t.kids.take j)).length) W')/\Hid (qp S W W' l C W.heap.size t r)/\Hid (Kp S T W'))
  (fun a _=>t.kids.length-(intOf (a.tmps.getD 14 undef)).toNat) ?_ ?_
 ·refine⟨0,[],_,_,_,_,_,_,_,_,_,_,_,_,_,_,_,_,_,_,_,_,_,rfl,aK _,vD,fun y h=>by(cases h),?_,b2,Kp.refl S T⟩
  exact fs.o
 ·rintro a s ⟨j,M,u3,u4,u5,u6,u15,u16,u17,u18,u19,u20,u21,u22,u23,u24,u25,u26,u27,u28,u29,u30,u31,rfl,h3,ea,be,co,b3,a6⟩
  by_cases bg:j<t.kids.length
  ·have g7:decide ((j:Int)<t.kids.length)=true:=aM
   have h7:(j:Int)<t.kids.length:=ad;have h5:(0:Int)<=j:=ad;obtain⟨f,bz⟩:∃k,t.kids[j]?=some k:=⟨_,aF bg⟩;obtain⟨b,O,q,hq,bA,g3,e7,e8,e9,fb⟩:=jl hr bB bz;have d8:cg s (S s) f q:=a6.o.tree d (hs j f q bz hq);have g4:S T b:=by
    obtain⟨b',ii,bm,_,hm,_⟩:=el.2.2.2 ad;rw[bA]at bm;injection bm with bm
    injection bm with b8 c3 a9
    rw[b8];exact hm
   have bd:=(a6.o.same b g4).2;have hL:=(dB (w:=T) (w':=s) (a:=⟨b,O+j*4,none⟩) bd).trans e7;have hM:=(dB (w:=T) (w':=s) (a:=⟨b,O+j*4+1,none⟩) bd).trans e8;have hN:=(dB (w:=T) (w':=s) (a:=⟨b,O+j*4+2,none⟩) bd).trans e9;have hP:=(dB (w:=T) (w':=s) (a:=⟨b,O+j*4+3,none⟩) bd).trans fb;rw[bA]at bB;obtain⟨P,a3⟩:=aj ((s.alloc (.cells #[.int .i64 (j:Nat)] 3)).alloc (.cells #[.string ⟨f.label.toArray⟩,.string ⟨f.text.toArray⟩,.slice q.ao f.attrs.length q.ac,.slice q.ko f.kids.length q.kc] 29));have cs:Below s.heap.size s P:=by rw[a3];exact az.alloc ak _
   have hE:P.heap.size=s.heap.size+2:=by rw[a3];simp
   have c4:P.heap[s.heap.size]?=some (.cells #[.int .i64 (j:Nat)] 3):=by rw[a3];exact(bH _ _ _ ak).trans (aC s _)
   have ba:P.heap[s.heap.size+1]?=some (.cells #[.string ⟨f.label.toArray⟩,.string ⟨f.text.toArray⟩,.slice q.ao f.attrs.length q.ac,.slice q.ko f.kids.length q.kc] 29):=by rw[a3];have:=aC (s.alloc (.cells #[.int .i64 (j:Nat)] 3)) (.cells #[.string ⟨f.label.toArray⟩,.string ⟨f.text.toArray⟩,.slice q.ao f.attrs.length q.ac,.slice q.ko f.kids.length q.kc] 29);rwa[bI]at this
   have hz:=ai 0 ba;have hA:=ai 1 ba;have hB:=ai 2 ba;have hC:=ai 3 ba;have ci:=Do f q P;unfold bJ at ci;obtain⟨fl,fo,fz,fx,b4,cq⟩:=gR cs c4 ci d8 bz be;have hb:=bA;rw[bA];clear cs c4 ba ci e7 e8 e9 fb d8 bz be bd
   gi_wp2_with (first
    |(rw[<-a3];clear a3 hL hM hN hP)
    |fail)
   refine⟨trivial,?_⟩;refine(jF.2 fz.o).mono ?_;rintro z I ⟨rfl,bq⟩;have b5:Below P.heap.size P I:=by rw[bq];exact az
   have e1:I.heap.size=P.heap.size+1:=by rw[bq];simp
   have c5:I.heap[P.heap.size]?=some (.cells #[.string ⟨f.label.toArray⟩,.string ⟨f.text.toArray⟩,.slice q.ao f.attrs.length q.ac,.slice q.ko f.kids.length q.kc] 29):=by rw[bq];exact aC P _
   rw[hE]at c5;have Q:Below s.heap.size s I:=fl.o.trans (b5.mono ad);obtain⟨aq,fr⟩:=aE (b3.o.kp d (Kp.of d Q)) (a2 _ _ _ co.o Q);have hy:I.heap[s.heap.size]?=some (.cells #[.int .i64 (j:Nat)] 3):=(b5.block _ ad).trans fo.o;have hJ:S I s.heap.size:=d.new b3.o.tbs Q (aB _) ad;have hK:S I (s.heap.size+2):=d.new b3.o.tbs Q ad ad;have hd:cg I (S I) f q:=(Kp.of d Q).tree d fx.o;have bw:∀y∈M,S I y/\I.heap[y]?=some (.deferred (some [])):=fun y D=>by obtain⟨bo,c6,c7⟩:=cq.o y D;exact⟨d.grow bo Q,(Q.block y (d.lt bo)).trans c7⟩
   have hX:=Q.size;have hW:=a6.o.size;have hV:=cp.o.size;have fg:=ah Q;clear hz hA hB hC bq b5 Q
   gi_wp2
   have bf:=aU b4.o;have ic:=uF bf;have hZ:=yf t;have h0:=ye bf;have ha:=ih f q (s.heap.size+2) I ad hd (fun m hh=>d7 m (xP bf hh)) ad c5 hK;refine Df d C aq.o.tbs 9 95 #[.pointer (some ⟨s.heap.size+2,0,none⟩)] (nodesT f).length (uO S f) rfl Dp ha (fun k X args h=>Dn h)
    (kD S Inv W l C t r (1+(cf (t.kids.take j)).length) j s.heap.size M) ?_ ?_ ?_ ?_ ?_
   ·exact fun k fc B h J=>h.below d a2 J
   ·intro k fc hS o o' h ia L eb ec
    have hf:=d.lt aq.o.tbs;have hg:=d.lt aq.o.ybs;exact h.put d (cc _ _ _ _ _ h.inv ad L eb ec) ad ad ad (fun y D=>by have:=d.lt (bw y D).1;omega) L eb ec
   ·exact⟨fr.o,aq.o,hy,hJ,bw⟩
   ·rintro bE k X args busy m h4 du hk h9 ⟨hD,ch⟩
    obtain⟨x,u,bZ,af,bF,hw,rfl,ez,ed,ib⟩:=hk;unfold bJ;obtain⟨av,bc⟩:=aj (X.alloc (.cells #[.string ⟨x.label.toArray⟩,.string ⟨x.text.toArray⟩,.slice u.ao x.attrs.length u.ac,.slice u.ko x.kids.length u.kc] 29));have a1:Below X.heap.size X av:=by rw[bc];exact az
    have cu:av.heap.size=X.heap.size+1:=by rw[bc];simp
    have d4:av.heap[X.heap.size]?=some (.cells #[.string ⟨x.label.toArray⟩,.string ⟨x.text.toArray⟩,.slice u.ao x.attrs.length u.ac,.slice u.ko x.kids.length u.kc] 29):=by rw[bc];exact aC X _
    gi_wp2_with (first
     |(rw[<-bc];clear bc)
     |fail)
    refine⟨a1,?_⟩;have he:bE<X.heap.size:=(gW.1 ch).1;have hG:av.heap.size=X.heap.size+1:=cu;obtain⟨N,an⟩:=aj (av.putObj bE (.loop busy));rw[<-an];have bi:av.heap[bE]?=some (.loop hD):=(a1.block _ he).trans ch;have hf:=d.lt aq.o.tbs;have hg:=d.lt aq.o.ybs;have b9:=du.below d a2 a1;have dz:kD S Inv W l C t r (1+(cf (t.kids.take j)).length) j s.heap.size M k N:=by rw[an];exact b9.put d (cc _ _ _ _ _ b9.inv ad bi rfl rfl) ad ad ad (fun y D=>by have:=d.lt (bw y D).1;omega) bi rfl rfl
    have eB:cg N (S N) x u:=by rw[an];exact uN d bi rfl rfl ((Kp.of d a1).tree d ez)
    have eg:kC N bZ af bF:=by rw[an];exact(ed.below a1).put bi rfl rfl
    have eE:N.heap[X.heap.size]?=some (.cells #[.string ⟨x.label.toArray⟩,.string ⟨x.text.toArray⟩,.slice u.ao x.attrs.length u.ac,.slice u.ko x.kids.length u.kc] 29):=by rw[an];exact(dJ ad).trans d4
    have hH:N.heap.size=X.heap.size+1:=by rw[an,k9];exact hG
    clear an ch bi du b9 a1 ez ed d4 cu;obtain⟨al,bt⟩:=aj (World.drew N);have a0:Below N.heap.size N al:=by rw[bt];exact(aA _ _).drew
    have iT:al.heap.size=X.heap.size+1:=by rw[bt];exact hH
    obtain⟨a5,fG,fy⟩:=bO (dz.below d a2 a0) ((Kp.of d a0).tree d eB) (eg.below a0);have eN:=(a0.block _ ad).trans eE;have b1:Hid (∀Y,Below al.heap.size al Y->Y.cell? ⟨W.heap.size,0,none⟩=some (.func (.yield l) #[] #[])/\Y.cell? ⟨s.heap.size,0,none⟩=some (.int .i64 (j:Nat))/\Y.cell? ⟨X.heap.size,0,none⟩=some (.string ⟨x.label.toArray⟩)/\Y.cell? ⟨X.heap.size,1,none⟩=some (.string ⟨x.text.toArray⟩)/\Y.cell? ⟨X.heap.size,2,none⟩=some (.slice u.ao x.attrs.length u.ac)/\Y.cell? ⟨X.heap.size,3,none⟩=some (.slice u.ko x.kids.length u.kc)):=fun Y J=>by have b8:=(J.block _ (d.lt a5.o.st.ybs)).trans a5.o.st.yb;have c3:=(J.block _ (d.lt a5.o.ibs)).trans a5.o.ib;have a9:=(J.block _ ad).trans eN;exact⟨ai 0 b8,ai 0 c3,ai 0 a9,ai 1 a9,ai 2 a9,ai 3 a9⟩
    have fu:=ah (Kp.of d a0);clear dz eB eg eE eN a0
    gi_wp2
    refine wpIn_region_any ay ?_;change wpAnyIn _ _ _ _ _ _ _ _ _ (World.drew N);rw[<-bt];clear bt;refine Dj (fun listed a Y=>listed.size=8/\∃v23 v24 v25 v26 v27 v28 v29 v30:Value,a={tmps:=#[.func (.yield l) #[] #[],.pointer (some ⟨C,0,none⟩),.pointer (some ⟨W.heap.size,0,none⟩),.pointer (some ⟨s.heap.size,0,none⟩),.pointer (some ⟨s.heap.size+1,0,none⟩),.slice bZ af bF,.pointer (some ⟨X.heap.size,0,none⟩),.func (.yield l) #[] #[],.agg #[.string ⟨t.label.toArray⟩,.string ⟨t.text.toArray⟩,.slice r.ao t.attrs.length r.ac,.slice (some ⟨b,O,none⟩) t.kids.length r.kc],.bool true,.bool false,.pointer (some ⟨C,3,none⟩),.slice (some ⟨b,O,none⟩) t.kids.length r.kc,.int .i64 (t.kids.length:Nat),.int .i64 (j:Nat),.bool true,.int .i64 (j:Nat),.pointer (some ⟨b,O+j*4,none⟩),.agg #[.string ⟨f.label.toArray⟩,.string ⟨f.text.toArray⟩,.slice q.ao f.attrs.length q.ac,.slice q.ko f.kids.length q.kc],.agg #[.string ⟨f.label.toArray⟩,.string ⟨f.text.toArray⟩,.slice q.ao f.attrs.length q.ac,.slice q.ko f.kids.length q.kc],.func (.func 95) #[] #[.pointer (some ⟨s.heap.size+2,0,none⟩)],.slice bZ af bF,.agg #[.string ⟨x.label.toArray⟩,.string ⟨x.text.toArray⟩,.slice u.ao x.attrs.length u.ac,.slice u.ko x.kids.length u.kc],v23,v24,v25,v26,v27,v28,v29,v30,u31],defers:=[]}/\
     R8 (.func (.yield l) #[] #[]) (.int .i64 (j:Nat)) (.slice bZ af bF) (.agg #[.string ⟨x.label.toArray⟩,.string ⟨x.text.toArray⟩,.slice u.ao x.attrs.length u.ac,.slice u.ko x.kids.length u.kc])
      (fun Y v=>∃g,v=.slice (some ⟨g,0,none⟩) 1 1/\Y.ownsRow al.heap.size 3 1 v 1 [.int .i64 (j:Nat)]) (fun Y v=>∃o c,v=.slice o (af+1) c/\kC Y o (af+1) c)
      (fun Y=>Below al.heap.size al Y) (fun Y=>kD S Inv W l C t r (1+(cf (t.kids.take j)).length) j s.heap.size M (k+1) Y/\Kp S N Y) (fun i=>listed.getD i false=true) Y v23 v24 v25 v26 v27 v28 v29 v30) ?_ ?_ 8 (Array.replicate 8 false) _ _ rfl aw ?_
    ·rintro listed a Y i ⟨en,v23,v24,v25,v26,v27,v28,v29,v30,rfl,e⟩ g9
     obtain⟨hi,o,L,ao⟩:=gh.1 g9;have E:=Dl hi;have h2:i<8:=(gW.1 L).1;have Z:=Dk (listed:=listed) (i:=i) ad;have ae:(listed.setIfInBounds i true).size=8:=by simpa using en
     rcases(show i=0∨i=1∨i=2∨i=3∨i=4∨i=5∨i=6∨i=7 by omega)with rfl|rfl|rfl|rfl|rfl|rfl|rfl|rfl
     ·obtain⟨e2,b0,e3,e4,e5,e6⟩:=b1.o Y (e.jb fun z=>E (e.jd z).1)
      refine ja rfl (fun ag G=> ?_);go_simp;refine G _ _ ?_;exact⟨ae,_,v24,v25,v26,v27,v28,v29,v30,rfl,e.s0 Z E⟩
     ·obtain⟨e2,b0,e3,e4,e5,e6⟩:=b1.o Y (e.jb fun z=>E (e.jd z).2.1)
      refine ja rfl (fun ag G=> ?_);go_simp;refine G _ _ ?_;exact⟨ae,v23,_,v25,v26,v27,v28,v29,v30,rfl,e.s1 Z E⟩
     ·have R:=e.jb fun z=>E (e.jd z).2.2.1
      simp only[ig,gq,jD,gV]at L;subst L;have bl:=ao {on:=1,ground:=.data} ak rfl;obtain rfl:=e.j1 bl;refine ja rfl (fun ag G=> ?_);go_simp;refine G _ _ ?_;exact⟨ae,v23,_,_,v26,v27,v28,v29,v30,rfl,e.s2 Z E bl ⟨Y.heap.size,rfl,rfl,.inr ⟨Y.heap.size,1,#[.int .i64 (j:Nat)],rfl,R.size,aC Y _,aB _,aw,rfl,rfl⟩⟩ (R.alloc R.size _)⟩
     ·refine ja rfl (fun ag G=> ?_)
      go_simp;refine G _ _ ?_;exact⟨ae,v23,v24,v25,_,v27,v28,v29,v30,rfl,e.s3 Z E⟩
     ·have hj:¬listed.getD 6 false=true:=fun z=>E (e.jd z).2.2.2.2.1
      have R:=e.jb hj;simp only[ig,gq,jD,gV]at L;subst L;have cN:=ao {on:=2,ground:=.data} ak rfl;have c0:=ao {on:=3,ground:=.data} ak rfl;obtain rfl:=e.j3 c0;obtain⟨g,rfl,hl⟩:=e.j2 cN E;obtain⟨i1,Y',ht,ho,g2⟩:=Mh j R hl (fy.o.below R) ad;refine ja rfl (fun ag G=> ?_);rw[au (by simp[Region.wanted])];unfold Oper.wpIn;refine⟨by simp[Oper.about,resolve,Target.leads,sW],?_⟩;rw[Oper.semAt_plain _ _ _ (by intro c g5;cases g5)];simp[execOp,resolve,invoke,builtin,ht,Result.andThen,Act.eval];exact G _ _ ⟨ae,v23,v24,_,_,_,v28,v29,v30,rfl,e.s4 Z E cN c0 ho g2⟩
     ·obtain⟨e2,b0,e3,e4,e5,e6⟩:=b1.o Y (e.jb fun z=>E (e.jd z).2.2.2.2.2)
      refine ja rfl (fun ag G=> ?_);go_simp;refine G _ _ ?_;exact⟨ae,v23,v24,v25,v26,v27,_,v29,v30,rfl,e.s5 Z E⟩
     ·simp only[ig,gq,jD,gV]at L
      subst L;have cG:=ao {on:=0,ground:=.data} ak rfl;have b7:=ao {on:=4,ground:=.data} ak rfl;have c1:=ao {on:=5,ground:=.data} ak rfl;have b6:=e.jc b7;have bl:=e.je b6.1;have R:=e.jb E;obtain rfl:=e.j0 cG;obtain rfl:=e.j5 c1;obtain⟨e0,eZ,rfl,hn⟩:=e.j4 b7 E;have ds:=a5.o.below d a2 R;have ex:=Mj b4.o hw;obtain⟨hU,i0,hR,hT,hx,gG⟩:=Dd (m':=m-1)<|d5 (1+(cf (t.kids.take j)).length+k) Y #[.slice e0 (af+1) eZ,bJ x u] (aP.1 ex).1 ds.inv ⟨x,u,e0,af+1,eZ,ex,rfl,(Kp.of d R).tree d fG.o,hn,ad⟩
      unfold bJ at hx;refine ja rfl (fun ag G=> ?_);go_simp;refine⟨fun h=>(by cases h),?_⟩;refine RoundIn.mono (F:=Fence.wide.inRound bE) gG ?_;rintro z hQ ⟨rfl,f6,d6⟩;refine G _ _ ?_;exact⟨ae,_,v24,v25,v26,_,_,_,v30,rfl,e.s6 Z E cG bl b6.1 b6.2 b7 c1 ⟨ds.next d d6 f6,fu.o.trans ((Kp.of d R).trans d6)⟩⟩
     ·simp only[ig,gq,jD,gV]at L
      subst L;have c2:=ao {on:=6,ground:=.data} ak rfl;obtain rfl:=e.j6 c2;refine ja rfl (fun ag G=> ?_);go_simp;refine G _ _ ?_;exact⟨ae,v23,v24,v25,v26,v27,v28,_,_,rfl,e.s7 Z E c2⟩
    ·rintro listed a Y ⟨en,v23,v24,v25,v26,v27,v28,v29,v30,rfl,e⟩ aa
     have gd:listed.getD 0 false=true:=by
      apply fq;intro H;have:(0:Nat)∈([]:List Nat):=by rw[<-aa];exact gh.2 ⟨jf ad (by simpa using H),_,rfl,fun z A=>by simp at A⟩
      cases this
     have gf:listed.getD 1 false=true:=by
      apply fq;intro H;have:(1:Nat)∈([]:List Nat):=by rw[<-aa];exact gh.2 ⟨jf ad (by simpa using H),_,rfl,fun z A=>by simp at A⟩
      cases this
     have gg:listed.getD 2 false=true:=by
      apply fq;intro H;have:(2:Nat)∈([]:List Nat):=by rw[<-aa];exact gh.2 ⟨jf ad (by simpa using H),_,rfl,fun z A _=>by simp at A;subst A;exact gf⟩
      cases this
     have gl:listed.getD 3 false=true:=by
      apply fq;intro H;have:(3:Nat)∈([]:List Nat):=by rw[<-aa];exact gh.2 ⟨jf ad (by simpa using H),_,rfl,fun z A=>by simp at A⟩
      cases this
     have d0:listed.getD 4 false=true:=by
      apply fq;intro H;have:(4:Nat)∈([]:List Nat):=by rw[<-aa];exact gh.2 ⟨jf ad (by simpa using H),_,rfl,fun z A _=>by simp at A;rcases A with rfl|rfl;exact gg;exact gl⟩
      cases this
     have gr:listed.getD 5 false=true:=by
      apply fq;intro H;have:(5:Nat)∈([]:List Nat):=by rw[<-aa];exact gh.2 ⟨jf ad (by simpa using H),_,rfl,fun z A=>by simp at A⟩
      cases this
     have d1:listed.getD 6 false=true:=by
      apply fq;intro H;have:(6:Nat)∈([]:List Nat):=by rw[<-aa];exact gh.2 ⟨jf ad (by simpa using H),_,rfl,fun z A _=>by simp at A;rcases A with rfl|rfl|rfl|rfl;exact gd;exact d0;exact gr;exact d0⟩
      cases this
     have gs:listed.getD 7 false=true:=by
      apply fq;intro H;have:(7:Nat)∈([]:List Nat):=by rw[<-aa];exact gh.2 ⟨jf ad (by simpa using H),_,rfl,fun z A _=>by simp at A;subst A;exact d1⟩
      cases this
     obtain rfl:=e.j7 gs;have h1:=e.jy d1
     gi_wp2
    ·have K:∀i,¬(Array.replicate 8 false).getD i false=true:=fun i=>by rw[getD_replicate_false];simp
     exact⟨ak,u23,u24,u25,u26,u27,u28,u29,u30,rfl,⟨fun h=>(K _ h).elim,fun h=>(K _ h).elim,fun h _=>(K _ h).elim,fun h=>(K _ h).elim,fun h _=>(K _ h).elim,fun h=>(K _ h).elim,fun h=>(K _ h).elim,fun h=>(K _ h).elim,fun _=>aA _ _,fun h=>(K _ h).elim,fun h=>(K _ h).elim,fun h=>(K _ h).elim,fun h=>(K _ h).elim⟩⟩
   ·rintro X ⟨bo,c6,c7,iv,c8⟩ bu hI hc
    have gv:(I.heap.size::M).Nodup:=vC.2 ⟨fun h=>by have:=d.lt (bw _ h).1;omega,ea⟩;have f4:Inv (1+(cf (t.kids.take (j+1))).length) X:=by rw[Dq b4.o,cm,<-fI];exact bo
    have gb:Kp S T X:=a6.o.trans ((Kp.of d fg.o).trans hc)
    gi_wp2
    rw[<-hb];refine⟨⟨j+1,I.heap.size::M,_,_,_,_,_,_,_,_,_,_,_,_,_,_,_,_,_,_,_,_,_,rfl,ad,gv,fun y D=> ?_,f4,c6,gb⟩,?_⟩
    ·rcases eH.1 D with rfl|D
     ·exact⟨hI,ad,bu⟩
     ·exact⟨(c8 y D).1,(cq.o y D).2.1,(c8 y D).2⟩
    ·simp[intOf];omega
  ·have g7:decide ((j:Int)<t.kids.length)=false:=aJ
   gi_wp2
   obtain rfl:j=t.kids.length:=ad;have c9:=co.o;rw[bx (aB _),<-yi]at c9;have f7:Kp S W s:=(Kp.of d V).trans (cp.o.trans a6.o);refine rQ (fun X=>Inv (nodesT t).length X/\Kp S W X) (fun X h=>⟨_,by simp[results,results95,go_sem];rfl,⟨_,rfl⟩,h.1,h.2⟩) M s ea (fun y D=>(be y D).2.2) ⟨c9,f7⟩ (fun X y D bu cl=>⟨cc _ _ _ _ _ cl.1 (be y D).2.1 bu rfl rfl,⟨by rw[k9];exact cl.2.size,fun b J=> ?_⟩⟩);obtain⟨e1,f5⟩:=cl.2.same b J;have g3:=d.lt J;exact⟨d.put e1 bu rfl rfl,by rw[dJ (by have:=(be y D).2.1;omega)];exact f5⟩
end
end Go.Proofs.YtbacloblanpghaaGreatDoor
