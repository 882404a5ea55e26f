import Derived.Test.YtbacloblanpghaaGreatDoorQaa
set_option linter.unusedVariables false
set_option linter.unusedSimpArgs false
set_option maxRecDepth 100000
set_option maxHeartbeats 0
namespace Go.Proofs.YtbacloblanpghaaGreatDoor
open Go.RowKit Tryz
def pl(v:Value):Option (DataW Value×List MemPlace):=some (.held v,[])
def bn(w:World)(P:Program)(k:TypeId)(M n:Nat)(f:Lit->Option Value):Prop:=
 ∃a:DataW Value,w.ownsMap P k pl M n a/\Maps.IsMap a/\∀kl,WideAt.IsKeyLit kl->Maps.has a kl=(f kl).isSome/\∀v,f kl=some v->∀z,a.atKey kl z=.held v
theorem CO{v:Value}{d:DataW Value}{ps:List MemPlace}(a:pl v=some (d,ps)):d=.held v:=by unfold pl at a;injection a with a;injection a with b _;exact b.symm
variable{w w':World} {P:Program} {k:TypeId} {M n:Nat} {f:Lit->Option Value}
theorem bn.made(w:World)(P:Program)(k:TypeId):bn (w.alloc (.map #[] 0)) P k w.heap.size 0 (fun _=>none):=
 ⟨_,zi w P k pl,Maps.isMap_empty,fun kl _=>⟨rfl,fun v a=>by cases a⟩⟩
theorem bn.kept{row:Option Nat}(b:bn w P k M n f)(d:w.grownBy w' row)(e:some M≠row):bn w' P k M n f:=by obtain⟨a,c,g⟩:=b;exact⟨a,c.kept d e,g⟩
theorem bn.below{B:Nat}(c:bn w P k M n f)(h:Below B w w')(g:M<B):bn w' P k M n f:=by obtain⟨a,d,j⟩:=c;obtain⟨b,clock,i,F,l,e⟩:=d;exact⟨a,⟨b,clock,(h.block M g).trans i,F,l,e⟩,j⟩
theorem bn.lt(a:bn w P k M n f):M<w.heap.size:=by obtain⟨c,b,d⟩:=a;exact b.lt
theorem bn.look{t b:TypeId}(g:bn w P k M n f)(e:Maps.Keyed P k)(p:P.underlying t=some (.map k b)){z:Value}(r:(zeroValue b).run P w=.ok z w){key:Value}{kl:Lit}(j:WideAt.IsKeyLit kl)(l:keyOf P k key=some kl):
 (Instr.lookup t (.map (some M)) key false).run P w=.ok ((f kl).getD z) w:=by
 obtain⟨s,i,x,m⟩:=g;obtain⟨v,ps,o,q⟩:=i.lookup e p r (zd:=.held z) (zp:=[]) rfl l;have a:=CO q;obtain⟨c,h⟩:=m kl j;rw[o];cases d:f kl with
 |none=>
  rw[d]at c;rw[Maps.atKey_of_not_has c]at a;injection a with a
  rw[a];rfl
 |some u=>
  rw[h u d]at a;injection a with a
  rw[a];rfl
theorem bn.look_ok{t c:TypeId}(g:bn w P k M n f)(e:Maps.Keyed P k)(p:P.underlying t=some (.map k c)){z:Value}(r:(zeroValue c).run P w=.ok z w){key:Value}{kl:Lit}(j:WideAt.IsKeyLit kl)(l:keyOf P k key=some kl):
 (Instr.lookup t (.map (some M)) key true).run P w=.ok (.tuple #[(f kl).getD z,.bool (f kl).isSome]) w:=by
 obtain⟨s,i,x,m⟩:=g;obtain⟨v,ps,o,q⟩:=i.look_ok e p r (zd:=.held z) (zp:=[]) rfl l;have a:=CO q;obtain⟨b,h⟩:=m kl j;rw[o];rw[<-b];cases d:f kl with
 |none=>
  rw[d]at b;rw[Maps.atKey_of_not_has b]at a;injection a with a
  rw[a];rfl
 |some u=>
  rw[h u d]at a;injection a with a
  rw[a];rfl
open Classical in
noncomputable def eO(f:Lit->Option Value)(kl:Lit)(v:Value):Lit->Option Value:=fun x=>if x=kl then some v else f x
theorem jz(f:Lit->Option Value)(kl:Lit)(v:Value):eO f kl v kl=some v:=by unfold eO;rw[au rfl]
theorem jX(f:Lit->Option Value){kl x:Lit}(v:Value)(a:x≠kl):eO f kl v x=f x:=by unfold eO;rw[ap a]
theorem bn.put_of{b:DataW Value}{kl:Lit}{v:Value}(e:WideAt.IsKeyLit kl)(d:Maps.IsMap b)(g:∀kl,WideAt.IsKeyLit kl->Maps.has b kl=(f kl).isSome/\∀v,f kl=some v->∀z,b.atKey kl z=.held v)
 (i:w'.ownsMap P k pl M (n+1) (b.put kl (.held v))):bn w' P k M (n+1) (eO f kl v):=by
 refine⟨_,i,d.put _ _,fun x h=> ?_⟩;by_cases c:x=kl
 ·subst c
  rw[jz,Fi d e];exact⟨rfl,fun u a z=>by injection a with a;subst a;exact Maps.atKey_put_same d e _ _⟩
 ·rw[jX f v c,Fj c]
  exact⟨(g x h).1,fun u a z=>by rw[Maps.atKey_put_other c];exact(g x h).2 u a z⟩
theorem nW{w:World}{c:Array Oper}{rest:List Oper}{o:Oper}{a:Act}{Q:Exit->Act->World->Prop}
 (g:bn w P k M n f) (p:o.guard=none) (m x v:Operand) (t:TypeId) (z:o.op=Op.mapUpdate t m x v)
 (b:TypeId) (e:Maps.Keyed P k) (B:P.underlying t=some (.map k b)) (s:a.eval m=.map (some M)) (y:n<maxLen) (key val:Value) (kl:Lit) (D:a.eval x=key) (C:a.eval v=val) (q:WideAt.IsKeyLit kl) (r:keyOf P k key=some kl)
 (l:∀w',bn w' P k M (n+1) (eO f kl val)->w.grownBy w' (some M)->wpList P c Q rest (a.put o.dst undef) w'):
 wpList P c Q (o::rest) a w:=by
 obtain⟨d,j,u,A⟩:=g;exact zj w p m x v t z k b e B pl M n d s j y key val kl D C r (.held val) [] rfl fun w' h i=>l w' (bn.put_of q u A h) i
end Go.Proofs.YtbacloblanpghaaGreatDoor
