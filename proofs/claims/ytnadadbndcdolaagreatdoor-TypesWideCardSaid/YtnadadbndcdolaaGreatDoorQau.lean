import Derived.Test.YtnadadbndcdolaaGreatDoorQaa
set_option linter.unusedVariables false
set_option linter.unusedSimpArgs false
set_option maxRecDepth 100000
set_option maxHeartbeats 0
namespace Go.Proofs.YtnadadbndcdolaaGreatDoor
open Go.RowKit Tryz
def pW(v:Value):Option (DataW Value×List MemPlace):=some (.held v,[])
def bp(w:World)(P:Program)(k:TypeId)(M n:Nat)(f:Lit->Option Value):Prop:=
 ∃a:DataW Value,w.ownsMap P k pW M n a/\Maps.IsMap a/\∀kl,WideAt.IsKeyLit kl->Maps.has a kl=(f kl).isSome/\∀v,f kl=some v->∀z,a.atKey kl z=.held v
theorem Ed{v:Value}{d:DataW Value}{ps:List MemPlace}(a:pW v=some (d,ps)):d=.held v:=by unfold pW at a;injection a with a;injection a with b _;exact b.symm
variable{w w':World} {P:Program} {k:TypeId} {M n:Nat} {f:Lit->Option Value}
theorem bp.made(w:World)(P:Program)(k:TypeId):bp (w.alloc (.map #[] 0)) P k w.heap.size 0 (fun _=>none):=
 ⟨_,AZ w P k pW,Maps.isMap_empty,fun kl _=>⟨rfl,fun v a=>by cases a⟩⟩
theorem bp.kept{row:Option Nat}(b:bp w P k M n f)(d:w.grownBy w' row)(e:some M≠row):bp w' P k M n f:=by obtain⟨a,c,g⟩:=b;exact⟨a,c.kept d e,g⟩
theorem bp.below{B:Nat}(c:bp w P k M n f)(h:Below B w w')(g:M<B):bp w' P k M n f:=by obtain⟨a,d,j⟩:=c;obtain⟨b,clock,i,F,l,e⟩:=d;exact⟨a,⟨b,clock,(h.block M g).trans i,F,l,e⟩,j⟩
theorem bp.lt(a:bp w P k M n f):M<w.heap.size:=by obtain⟨c,b,d⟩:=a;exact b.lt
theorem bp.look{t b:TypeId}(g:bp w P k M n f)(e:Maps.Keyed P k)(p:P.underlying t=some (.map k b)){z:Value}(r:(zeroValue b).run P w=.ok z w){key:Value}{kl:Lit}(j:WideAt.IsKeyLit kl)(l:keyOf P k key=some kl):
 (Instr.lookup t (.map (some M)) key false).run P w=.ok ((f kl).getD z) w:=by
 obtain⟨s,i,x,m⟩:=g;obtain⟨v,ps,o,q⟩:=i.lookup e p r (zd:=.held z) (zp:=[]) rfl l;have a:=Ed q;obtain⟨c,h⟩:=m kl j;rw[o];cases d:f kl with
 |none=>
  rw[d]at c;rw[Maps.atKey_of_not_has c]at a;injection a with a
  rw[a];rfl
 |some u=>
  rw[h u d]at a;injection a with a
  rw[a];rfl
theorem bp.look_ok{t c:TypeId}(g:bp w P k M n f)(e:Maps.Keyed P k)(p:P.underlying t=some (.map k c)){z:Value}(r:(zeroValue c).run P w=.ok z w){key:Value}{kl:Lit}(j:WideAt.IsKeyLit kl)(l:keyOf P k key=some kl):
 (Instr.lookup t (.map (some M)) key true).run P w=.ok (.tuple #[(f kl).getD z,.bool (f kl).isSome]) w:=by
 obtain⟨s,i,x,m⟩:=g;obtain⟨v,ps,o,q⟩:=i.look_ok e p r (zd:=.held z) (zp:=[]) rfl l;have a:=Ed q;obtain⟨b,h⟩:=m kl j;rw[o];rw[<-b];cases d:f kl with
 |none=>
  rw[d]at b;rw[Maps.atKey_of_not_has b]at a;injection a with a
  rw[a];rfl
 |some u=>
  rw[h u d]at a;injection a with a
  rw[a];rfl
open Classical in
noncomputable def eW(f:Lit->Option Value)(kl:Lit)(v:Value):Lit->Option Value:=fun x=>if x=kl then some v else f x
theorem jw(f:Lit->Option Value)(kl:Lit)(v:Value):eW f kl v kl=some v:=by unfold eW;rw[ay rfl]
theorem jS(f:Lit->Option Value){kl x:Lit}(v:Value)(a:x≠kl):eW f kl v x=f x:=by unfold eW;rw[au a]
theorem bp.put_of{b:DataW Value}{kl:Lit}{v:Value}(e:WideAt.IsKeyLit kl)(d:Maps.IsMap b)(g:∀kl,WideAt.IsKeyLit kl->Maps.has b kl=(f kl).isSome/\∀v,f kl=some v->∀z,b.atKey kl z=.held v)
 (i:w'.ownsMap P k pW M (n+1) (b.put kl (.held v))):bp w' P k M (n+1) (eW f kl v):=by
 refine⟨_,i,d.put _ _,fun x h=> ?_⟩;by_cases c:x=kl
 ·subst c
  rw[jw,Ij d e];exact⟨rfl,fun u a z=>by injection a with a;subst a;exact Maps.atKey_put_same d e _ _⟩
 ·rw[jS f v c,Ik c]
  exact⟨(g x h).1,fun u a z=>by rw[Maps.atKey_put_other c];exact(g x h).2 u a z⟩
theorem oy{w:World}{c:Array Oper}{rest:List Oper}{o:Oper}{a:Act}{Q:Exit->Act->World->Prop}
 (g:bp w P k M n f) (p:o.guard=none) (m x v:Operand) (t:TypeId) (z:o.op=Op.mapUpdate t m x v)
 (b:TypeId) (e:Maps.Keyed P k) (B:P.underlying t=some (.map k b)) (s:a.eval m=.map (some M)) (y:n<maxLen) (key val:Value) (kl:Lit) (D:a.eval x=key) (C:a.eval v=val) (q:WideAt.IsKeyLit kl) (r:keyOf P k key=some kl)
 (l:∀w',bp w' P k M (n+1) (eW f kl val)->w.grownBy w' (some M)->wpList P c Q rest (a.put o.dst undef) w'):
 wpList P c Q (o::rest) a w:=by
 obtain⟨d,j,u,A⟩:=g;exact A3 w p m x v t z k b e B pW M n d s j y key val kl D C r (.held val) [] rfl fun w' h i=>l w' (bp.put_of q u A h) i
end Go.Proofs.YtnadadbndcdolaaGreatDoor
