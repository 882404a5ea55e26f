import Derived.Test.YtbacloblanpghaaGreatDoorQab
set_option linter.unusedVariables false
set_option linter.unusedSimpArgs false
set_option maxRecDepth 100000
set_option maxHeartbeats 0
namespace Go.Proofs.YtbacloblanpghaaGreatDoor
open Go.RowKit Tryz
section
open Go Go.RowKit
section
variable{P:Program} {ops:Array Oper} {Q:Exit->Act->World->Prop} {md:Region.Mode} {S:World->Prop} {last:Nat}
def lY(P:Program)(md:Region.Mode)(ops:Array Oper)(Q:Exit->Act->World->Prop)(S:World->Prop)(last:Nat):Nat->Array Bool->Act->World->Prop
 |0,listed,a,w=>Region.ready md ops listed=[]/\Q .normal a w
 |c+1,listed,a,w=>
  (Region.ready md ops listed=[]->Q .normal a w)/\
  ∀i∈Region.ready md ops listed,wpOp P ops Q i (fun b w'=>(i≠last->S w')/\lY P md ops Q S last c (listed.setIfInBounds i true) b w') a w
theorem D8:∀(b:Nat) (listed:Array Bool) (a:Act) (w:World),lY P md ops Q S last b listed a w->wpAny P md ops Q b listed a w
 |0,_,_,_,c=>c
 |b+1,_,_,_,c=>⟨c.1,fun i f=>wpOp_mono (fun d w' e=>D8 b _ d w' e.2) (c.2 i f)⟩
def yK(md:Region.Mode)(ops:Array Oper)(last i:Nat):Bool:=match ops[last]? with|some o=>o.after.any (fun a=>Region.binds md a&&a.on==i)|none=>false
theorem Oy{i:Nat}{h:Oper}{v:Value}(A:ops[i]?=some h)(t:yK md ops last i=true)(G:∀(j:Nat) (o:Oper) cs b,ops[j]?=some o->o.op≠ .select cs b)
 (L:∀c a w,Q (.panic c) (a.put h.dst v) w->Q (.panic c) a w):
 ∀(m:Nat) (listed:Array Bool) (a:Act) (w:World),
  (∀j l,ops[j]?=some l->j≠i->listed.getD j true=false->(∀d∈l.after,Region.binds md d=true->d.on≠i)->h.apart ops l=true)->
  i∈Region.ready md ops listed->YieldsIf P ops S h v a->S w->
  lY P md ops Q S last m (listed.setIfInBounds i true) (a.put h.dst v) w->lY P md ops Q S last (m+1) listed a w:=by
 intro m;induction m with
 |zero=>
  intro listed a w _ g u n H;refine⟨fun x=>(by rw[x]at g;cases g),fun j r=> ?_⟩;by_cases e:j=i
  ·subst e;exact u.wpOp A n ⟨fun _=>n,H⟩
  ·have:=ready_mono r e
   rw[H.1]at this;cases this
 |succ m ih=>
  intro listed a w C g u n H;refine⟨fun x=>(by rw[x]at g;cases g),fun j r=> ?_⟩;by_cases e:j=i
  ·subst e;exact u.wpOp A n ⟨fun _=>n,H⟩
  ·have f:=H.2 j (ready_mono r e)
   obtain⟨E,l,s,M⟩:=gh.1 r;have F:∀d∈l.after,Region.binds md d=true->d.on≠i:=fun d z p N=>by
    have f:=M d z p;have B:=(gh.1 g).1;rw[N]at f;rcases ow i listed.size with y|y
    ·simp[y]at B f;rw[B]at f;cases f
    ·simp[Array.getElem?_eq_none y]at f
   have R:j≠last:=fun d=>by subst d;unfold yK at t;rw[s]at t;simp only[Array.any_eq_true']at t;obtain⟨d,z,p⟩:=t;rw[dg,ln]at p;exact F d z p.1 p.2
   have K:=wpOp_putIf s (C j l s e E F) (fun cs b=>G i h cs b A) (fun cs b=>G j l cs b s) L u f;have O:∀k ok,ops[k]?=some ok->k≠i->(listed.setIfInBounds j true).getD k true=false->
    (∀d∈ok.after,Region.binds md d=true->d.on≠i)->h.apart ops ok=true:=fun k ok T V I W=>by
    refine C k ok T V ?_ W;by_cases D:j=k
    ·subst D;exact E
    ·rw[getD_set_ne true D]at I;exact I
   refine wpOp_mono (fun J w' q=>⟨q.2.1,ih (listed.setIfInBounds j true) J w' O (ready_mono g (Ne.symm e)) q.1 (q.2.1 R) ?_⟩) K;rw[Array.setIfInBounds_comm _ _ e];exact q.2.2
theorem QO{i:Nat}{b:Oper}{v:Value}{d:Nat}{listed:Array Bool}{a:Act}{w:World}(e:ops[i]?=some b)(n:yK md ops last i=true)
 (m:Region.noSelect ops=true) (j:Region.free md ops listed i=true) (l:(Region.ready md ops listed).contains i=true)
 (g:∀c a w,Q (.panic c) (a.put b.dst v) w->Q (.panic c) a w) (o:YieldsIf P ops S b v a) (h:S w)
 (f:lY P md ops Q S last d (listed.setIfInBounds i true) (a.put b.dst v) w):lY P md ops Q S last (d+1) listed a w:=
 Oy e n (Region.noSelect_spec m) g d listed a w (Region.free_spec e j) (by simpa using l) o h f
theorem g6{i:Nat}{o:Oper}{d:Nat}{listed:Array Bool}{a:Act}{w:World}(g:Region.ready md ops listed=[i])(n:ops[i]?=some o)
 (h:∀b:Act->World->Prop,Shut (∀a w,(i≠last->S w)->((i≠last->S w)->lY P md ops Q S last d (listed.setIfInBounds i true) a w)->b a w)->if Region.wanted o (yielded ops a.tmps)=true then Oper.wp P o a w b Q else b (a.put o.dst undef) w):
 lY P md ops Q S last (d+1) listed a w:=
 ⟨(fun e=>by rw[g]at e;cases e),fun j c=>by rw[g]at c;simp at c;subst c;exact wpOp_step n (fun b l=>h b (fun a w f m=>l a w ⟨f,m f⟩))⟩
theorem su{listed:Array Bool}{a:Act}{w:World}(c:Region.ready md ops listed=[])(b:Q .normal a w):
 ∀d,lY P md ops Q S last d listed a w
 |0=>⟨c,b⟩
 |_+1=>⟨fun _=>b,by rw[c];simp⟩
theorem sw{id:Nat}{a:Act}{w:World}(c:P.follows .mixedOrders=true)
 (b:lY P .any ops Q S last ops.size (Array.replicate ops.size false) a w.drew):(Code.region id ops true).wp P Q a w:=
 qR c (D8 _ _ _ _ b)
end
theorem dF{P:Program}{md:Region.Mode}{ops:Array Oper}{Q:Exit->Act->World->Prop}{S:World->Prop}{last:Nat}{i:Nat}{oi:Oper}{v:Value}{fuel:Nat}{listed:Array Bool}{a:Act}{w:World}(hi:ops[i]?=some oi)(hS:S w)(h:lY P md ops Q S last fuel (listed.setIfInBounds i true) (a.put oi.dst v) w)(hy:YieldsIf P ops S oi v a:=by exact Or.inl ⟨by rfl,by intro wy hSw;(try dsimp only at hSw);go_simp;try with_reducible rfl⟩)(hwl:yK md ops last i=true:=by kernel_rfl)(hs:Region.noSelect ops=true:=by kernel_rfl)(hf:Region.free md ops listed i=true:=by kernel_rfl)(hr:(Region.ready md ops listed).contains i=true:=by kernel_rfl)(hQ:∀c a w,Q (.panic c) (a.put oi.dst v) w->Q (.panic c) a w:=by exact fun _ _ _ h=>h):lY P md ops Q S last (fuel+1) listed a w:=QO hi hwl hs hf hr hQ hy hS h
theorem Ea{P:Program}{md:Region.Mode}{ops:Array Oper}{Q:Exit->Act->World->Prop}{S:World->Prop}{last:Nat}{i:Nat}{oi:Oper}{v:Value}{fuel:Nat}{listed:Array Bool}{a:Act}{w:World}(hi:ops[i]?=some oi)(hy:YieldsIf P ops S oi v a)(hS:S w)(h:lY P md ops Q S last fuel (listed.setIfInBounds i true) (a.put oi.dst v) w)(hwl:yK md ops last i=true:=by kernel_rfl)(hs:Region.noSelect ops=true:=by kernel_rfl)(hf:Region.free md ops listed i=true:=by kernel_rfl)(hr:(Region.ready md ops listed).contains i=true:=by kernel_rfl)(hQ:∀c a w,Q (.panic c) (a.put oi.dst v) w->Q (.panic c) a w:=by exact fun _ _ _ h=>h):lY P md ops Q S last (fuel+1) listed a w:=QO hi hwl hs hf hr hQ hy hS h
end
end Go.Proofs.YtbacloblanpghaaGreatDoor
