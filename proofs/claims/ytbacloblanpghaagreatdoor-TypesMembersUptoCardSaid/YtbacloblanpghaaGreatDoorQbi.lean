import Derived.Test.YtbacloblanpghaaGreatDoorQab
set_option linter.unusedVariables false
set_option linter.unusedSimpArgs false
set_option maxRecDepth 100000
set_option maxHeartbeats 0
namespace Go.Proofs.YtbacloblanpghaaGreatDoor
open Go.RowKit Tryz
section
variable{α:Type}
def fP(L:List α)(i j:Nat):List α:=match L[i]?,L[j]? with|some a,some b=>(L.set i b).set j a|_,_=>L
theorem n5(L:List α)(i j:Nat):(fP L i j).length=L.length:=by unfold fP;split<;>simp
theorem pq{L:List α}{i j:Nat}{a b:α}(e:L[i]?=some a)(f:L[j]?=some b)(k:Nat):
 (fP L i j)[k]?=if k=j then some a else if k=i then some b else L[k]?:=by
 have g:=(aP.1 e).1;have h:=(aP.1 f).1;unfold fP;rw[e,f];simp only[List.getElem?_set,s8];by_cases c:k=j
 ·subst c;simp[h]
 ·by_cases d:k=i
  ·subst d;simp[g,c,Ne.symm c]
  ·simp[c,d,Ne.symm c,Ne.symm d]
theorem rS(L:List α)(i j:Nat):(fP L i j).Perm L:=by
 unfold fP;split
 ·rename_i a b c d
  obtain⟨e,rfl⟩:=aP.1 c;obtain⟨f,rfl⟩:=aP.1 d;have:=Array.swap_perm (xs:=L.toArray) (i:=i) (j:=j) (by simpa using e) (by simpa using f);have:=Array.perm_iff_toList_perm.1 this;simpa[Array.swap]using this
 ·exact List.Perm.refl _
structure qq(lt:α->α->Bool):Prop where
 asymm:∀a b,lt a b=true->lt b a=false
 trans:∀a b c,lt a b=false->lt b c=false->lt a c=false
def gD(lt:α->α->Bool)(L:List α)(n:Nat):Prop:=∀k x y,0<k->k<n->L[k]?=some x->L[(k-1)/2]?=some y->lt x y=false
def pr(lt:α->α->Bool)(L:List α)(j:Nat):Prop:=
 (∀k x y,0<k->k<L.length->k≠j->L[k]?=some x->L[(k-1)/2]?=some y->lt x y=false)/\
 ∀k x y,0<k->k<L.length->0<j->(k-1)/2=j->L[k]?=some x->L[(j-1)/2]?=some y->lt x y=false
theorem MF{lt:α->α->Bool}{L:List α}{x:α}(g:gD lt L L.length):pr lt (L++[x]) L.length:=by
 constructor
 ·intro k a b f c h d e
  simp at c;rw[eF ad]at d e;exact g k a b f ad d e
 ·intro k a b f c h i d e
  simp at c;omega
theorem MG{lt:α->α->Bool}{L:List α}(a:pr lt L 0):gD lt L L.length:=fun k x y b c d e=>a.1 k x y b c ad d e
theorem MH{lt:α->α->Bool}{L:List α}{j:Nat}{a b:α}(f:pr lt L j)(i:L[j]?=some a)(l:L[(j-1)/2]?=some b)(m:lt a b=false):gD lt L L.length:=by
 intro k x y g h c d;by_cases e:k=j
 ·subst e
  rw[i]at c;rw[l]at d;injection c with c;injection d with d
  subst c;subst d;exact m
 ·exact f.1 k x y g h e c d
theorem MI{lt:α->α->Bool}(o:qq lt){L:List α}{j:Nat}{a b:α}(g:pr lt L j)(w:0<j)(s:L[j]?=some a)(i:L[(j-1)/2]?=some b)(z:lt a b=true):pr lt (fP L ((j-1)/2) j) ((j-1)/2):=by
 have t:=o.asymm _ _ z;have A:=(aP.1 s).1;have q:=pq i s;have u:(j-1)/2≠j:=ad;constructor
 ·intro k x y h f n d c
  rw[n5]at f;rw[q]at d c;by_cases e:k=j
  ·subst e
   rw[au rfl]at d;rw[ap u,au rfl]at c;injection d with d;injection c with c
   subst d;subst c;exact t
  ·rw[ap e,ap n]at d
   by_cases l:(k-1)/2=j
   ·rw[au l]at c
    injection c with c
    subst c;exact g.2 k _ _ h f w l d i
   ·rw[ap l]at c
    by_cases m:(k-1)/2=(j-1)/2
    ·rw[au m]at c
     injection c with c
     subst c;have p:=g.1 k x b h f e d (by rw[m];exact i);exact o.trans _ _ _ p t
    ·rw[ap m]at c
     exact g.1 k x y h f e d c
 ·intro k x y h f n v d c
  rw[n5]at f;rw[q]at d c;rw[ap ad,ap ad]at c;have r:=g.1 ((j-1)/2) b y n ad u i c;by_cases e:k=j
  ·subst e
   rw[au rfl]at d;injection d with d
   subst d;exact r
  ·rw[ap e,ap ad]at d
   have p:=g.1 k x b h f e d (by rw[v];exact i);exact o.trans _ _ _ p r
def n6(lt:α->α->Bool)(L:List α)(n i:Nat):Prop:=
 (∀k x y,0<k->k<n->(k-1)/2≠i->L[k]?=some x->L[(k-1)/2]?=some y->lt x y=false)/\
 ∀k x y,0<k->k<n->0<i->(k-1)/2=i->L[k]?=some x->L[(i-1)/2]?=some y->lt x y=false
theorem MJ{lt:α->α->Bool}(o:qq lt){L:List α}{n:Nat}(f:gD lt L n)(i:∀a,lt a a=false):∀k x y,k<n->n<=L.length->L[k]?=some x->L[0]?=some y->lt x y=false:=by
 intro k;induction k using Nat.strongRecOn with
 |_ k ih=>
  intro x y g h d b;by_cases e:k=0
  ·subst e
   rw[d]at b;injection b with b
   subst b;exact i _
  ·have c:(k-1)/2<L.length:=ad
   exact o.trans _ _ _ (f k x _ ad g d (aF c)) (ih ((k-1)/2) ad _ y ad h (aF c) b)
theorem MK{lt:α->α->Bool}{L:List α}{n:Nat}(f:gD lt L (n+1))(h:n<L.length):n6 lt (fP L 0 n) n 0:=by
 constructor
 ·intro k x y c g d a b
  have e:L[0]?=some (L[0]'ad):=aF _;rw[pq e (aF h)]at a b;rw[ap ad,ap ad]at a;rw[ap ad,ap d]at b;exact f k x y c ad a b
 ·intro k x y c g d
  omega
theorem ML{lt:α->α->Bool}{L:List α}{n i:Nat}(a:n6 lt L n i)(f:n<=2*i+1):gD lt L n:=fun k x y b c d e=>a.1 k x y b c ad d e
def n7(lt:α->α->Bool)(L:List α)(n i j:Nat):Prop:=(j=2*i+1∨j=2*i+2)/\j<n/\∀k x y,0<k->k<n->(k-1)/2=i->L[k]?=some x->L[j]?=some y->lt x y=false
theorem ym{lt:α->α->Bool}(o:qq lt){L:List α}{n i j:Nat}{a b:α}(h:n6 lt L n i)(q:n7 lt L n i j)(m:L[j]?=some a)(p:L[i]?=some b)(r:lt a b=false):gD lt L n:=by
 intro k x y e f g c;by_cases d:(k-1)/2=i
 ·have l:=q.2.2 k x a e f d g m
  rw[d,p]at c;injection c with c
  subst c;exact o.trans _ _ _ l r
 ·exact h.1 k x y e f d g c
theorem yo{lt:α->α->Bool}(o:qq lt){L:List α}{n i j:Nat}{a b:α}(m:n6 lt L n i)(w:n7 lt L n i j)(h:L[j]?=some a)(u:L[i]?=some b)(B:lt a b=true):n6 lt (fP L i j) n j:=by
 have v:=o.asymm _ _ B;obtain⟨C,A,z⟩:=w;have p:(j-1)/2=i:=ad;have q:=pq u h;constructor
 ·intro k x y e g s d c
  rw[q]at d c;rw[ap s]at c;by_cases r:k=j
  ·subst r
   rw[au rfl]at d;rw[au p]at c;injection d with d;injection c with c
   subst d;subst c;exact v
  ·rw[ap r]at d
   by_cases f:(k-1)/2=i
   ·rw[ap ad]at d
    rw[au f]at c;injection c with c
    subst c;exact z k x _ e g f d h
   ·rw[ap f]at c
    by_cases l:k=i
    ·rw[au l]at d
     injection d with d
     subst d;subst l;exact m.2 j _ y ad A e p h c
    ·rw[ap l]at d
     exact m.1 k x y e g f d c
 ·intro k x y e g s t d c
  rw[q]at d c;rw[p,ap ad,au rfl]at c;injection c with c
  subst c;rw[ap ad,ap ad]at d;exact m.1 k x _ e g ad d (by rw[t];exact h)
theorem MM{lt:α->α->Bool}(d:∀a,lt a a=false){L:List α}{n i:Nat}(c:2*i+1<n)(f:¬2*i+2<n):n7 lt L n i (2*i+1):=
 ⟨.inl rfl,c,fun k x y g h j e b=>by
   have:k=2*i+1:=ad;subst this;rw[e]at b;injection b with b
   subst b;exact d _⟩
theorem MN{lt:α->α->Bool}(j:∀a,lt a a=false){L:List α}{n i:Nat}{a b:α}(l:2*i+2<n)(f:L[2*i+2]?=some a)(g:L[2*i+1]?=some b)(h:lt a b=false):n7 lt L n i (2*i+1):=
 ⟨.inl rfl,ad,fun k x y m o p d c=>by
   rcases(show k=2*i+1∨k=2*i+2 by omega)with e|e
   ·subst e
    rw[d]at c;injection c with c
    subst c;exact j _
   ·subst e
    rw[f]at d;rw[g]at c;injection d with d;injection c with c
    subst d;subst c;exact h⟩
theorem MO{lt:α->α->Bool}(o:qq lt)(l:∀a,lt a a=false){L:List α}{n i:Nat}{a b:α}(f:2*i+2<n)(g:L[2*i+2]?=some a)(h:L[2*i+1]?=some b)(j:lt a b=true):n7 lt L n i (2*i+2):=
 ⟨.inr rfl,f,fun k x y m p q d c=>by
   rcases(show k=2*i+1∨k=2*i+2 by omega)with e|e
   ·subst e
    rw[h]at d;rw[g]at c;injection d with d;injection c with c
    subst d;subst c;exact o.asymm _ _ j
   ·subst e
    rw[d]at c;injection c with c
    subst c;exact l _⟩
end
end Go.Proofs.YtbacloblanpghaaGreatDoor
