/-
  The scanner of layer 3: what holds while an Open is read: plain facts on memory, and on the list of attributes.
-/
import Derived.Test.YtkehbepopegboaaGreatDoorWords
import Derived.Maps.OwnSet
import Derived.Carry
import Derived.StringKeys
namespace Go.Proofs.YtkehbepopegboaaGreatDoor
open Go.RowKit
set_option linter.unusedVariables false
/-- an Open under way lies in block T -/
def TokAt (w : World) (T : Nat) (n : ByteArray) (av : Value) (m : Bool) : Prop := w.heap[T]? = some (.cells #[.int .i64 2, .string n, .string ⟨#[]⟩, av, .bool m] 40 (0, 0))
theorem TokAt.lt {w : World} {T : Nat} {n : ByteArray} {av : Value} {m : Bool} (h : TokAt w T n av m) : T < w.heap.size := lt_of_block h
theorem TokAt.cell {w : World} {r : Nat} {n : ByteArray} {av : Value} {m : Bool} (h : TokAt w r n av m) : w.cell? ⟨r, 0, none⟩ = some (.int .i64 2) ∧ w.cell? ⟨r, 1, none⟩ = some (.string n) ∧ w.cell? ⟨r, 2, none⟩ = some (.string ⟨#[]⟩) ∧ w.cell? ⟨r, 3, none⟩ = some av ∧ w.cell? ⟨r, 4, none⟩ = some (.bool m) ∧ (∀ o, w.frozen? ⟨r, o, none⟩ = false) := by
  unfold TokAt at h
  refine ⟨cell_of_row w r 0 _ _ _ h, cell_of_row w r 1 _ _ _ h, cell_of_row w r 2 _ _ _ h, cell_of_row w r 3 _ _ _ h, cell_of_row w r 4 _ _ _ h, ?_⟩
  intro o; simp [World.frozen?, h]
theorem TokAt.set {w : World} {r : Nat} {n : ByteArray} {av : Value} {m : Bool} (h : TokAt w r n av m) (v : Value) : TokAt (w.setCell ⟨r, 3, none⟩ v) r n v m := by
  have hlt := h.lt
  have h' : w.heap[r] = .cells #[.int .i64 2, .string n, .string ⟨#[]⟩, av, .bool m] 40 (0, 0) := by unfold TokAt at h; simpa [Array.getElem?_eq_getElem hlt] using h
  show (w.heap.modify r _)[r]? = _
  rw [Array.getElem?_eq_getElem (by simpa using hlt), Array.getElem_modify_self, h']
  rfl
theorem Sole.grown {b : Nat} {a w w' : World} {row : Option Nat} (h : Sole b a w) (hg : w.grownBy w' row) (hrow : ∀ k, row = some k → a.heap.size ≤ k) : Sole b a w' :=
  ⟨hg.os.trans h.os, hg.tape.trans h.tape, hg.output.trans h.output, Nat.le_trans h.size hg.size, fun k hk hb => (hg.block k (Nat.lt_of_lt_of_le hk h.size) (fun e => by have := hrow k e.symm; omega)).trans (h.block k hk hb)⟩
theorem Sole.grownBy {b : Nat} {w w' : World} (h : Sole b w w') : w.grownBy w' (some b) :=
  ⟨h.os, h.tape, h.output, h.size, fun k hk hb => h.block k hk (fun e => hb (by rw [e]))⟩
theorem Gl.grown {w w' : World} {row : Option Nat} (h : Gl w) (hg : w.grownBy w' row) (hrow : ∀ k, row = some k → 9 ≤ k) : Gl w' :=
  h.below (B := 9) (Nat.le_refl _) ⟨hg.os, hg.tape, hg.output, hg.size, fun k hk => hg.block k (Nat.lt_of_lt_of_le hk h.size) (fun e => by have := hrow k e.symm; omega)⟩
/-- what holds while attributes are read -/
structure Bst (b R T M : Nat) (doc nm : ByteArray) (q : Nat) (acc : List (Bytes × Bytes)) (av : Value) (D : DataW Unit) (n : Nat) (w : World) : Prop where
  place : PlaceAt w b doc q
  fresh : FreshTok w R
  tok : TokAt w T nm av false
  row : AttrsAt w (M + 1) av acc
  map : w.ownsMap Tryz.prog 9 (plainElem Tryz.prog 3) M n D
  gl : Gl w
  bR : b < R
  RT : R < T
  TM : T < M
  b9 : 9 ≤ b
section
variable {b R T M q : Nat} {doc nm : ByteArray} {acc : List (Bytes × Bytes)} {av : Value} {D : DataW Unit} {n : Nat} {w w' : World}
theorem Bst.mw (h : Bst b R T M doc nm q acc av D n w) : M < w.heap.size := h.map.lt
theorem Bst.rowne (h : Bst b R T M doc nm q acc av D n w) {k : Nat} (hk : k ≤ M) : av.ownBlock = none ∨ av.ownBlock ≠ some k := by
  cases e : av.ownBlock with
  | none => exact .inl rfl
  | some g => exact .inr (by have := h.row.lt g e; intro e2; cases e2; omega)
theorem Bst.grown (h : Bst b R T M doc nm q acc av D n w) {row : Option Nat} (hg : w.grownBy w' row) (hrow : ∀ k, row = some k → M < k) (hav : av.ownBlock = none ∨ av.ownBlock ≠ row) : Bst b R T M doc nm q acc av D n w' := by
  have hM := h.mw
  have hbR := h.bR
  have hRT := h.RT
  have hTM := h.TM
  have hb9 := h.b9
  have hne : ∀ k, k ≤ M → some k ≠ row := fun k hk e => by have := hrow k e.symm; omega
  refine ⟨(hg.block b (by omega) (hne b (by omega))).trans h.place, (hg.block R (by omega) (hne R (by omega))).trans h.fresh, (hg.block T (by omega) (hne T (by omega))).trans h.tok, h.row.kept hg hav, h.map.kept hg (hne M (Nat.le_refl _)), h.gl.grown hg (fun k e => by have := hrow k e; omega), hbR, hRT, hTM, hb9⟩
theorem Bst.alloc (h : Bst b R T M doc nm q acc av D n w) (o : Obj) : Bst b R T M doc nm q acc av D n (w.alloc o) :=
  h.grown (World.grownBy_alloc w o none) (by simp) (by cases av.ownBlock <;> simp)
theorem Bst.drewN (h : Bst b R T M doc nm q acc av D n w) (k : Nat) : Bst b R T M doc nm q acc av D n (w.drewN k) :=
  h.grown (w' := w.drewN k) (row := none) ⟨rfl, rfl, rfl, Nat.le_refl _, fun _ _ _ => rfl⟩ (by simp) (by cases av.ownBlock <;> simp)
theorem Bst.sole (h : Bst b R T M doc nm q acc av D n w) (hs : Sole b w w') {q' : Nat} (hP : PlaceAt w' b doc q') : Bst b R T M doc nm q' acc av D n w' := by
  have hM := h.mw
  have hbR := h.bR
  have hRT := h.RT
  have hTM := h.TM
  have hb9 := h.b9
  have hg := hs.grownBy
  exact ⟨hP, (hs.block R (by omega) (by omega)).trans h.fresh, (hs.block T (by omega) (by omega)).trans h.tok, h.row.kept hg (h.rowne (by omega)), h.map.kept hg (by simp; omega), h.gl.sole hb9 hs, hbR, hRT, hTM, hb9⟩
theorem Bst.put (h : Bst b R T M doc nm q acc av D n w) {D' : DataW Unit} {n' : Nat} (hg : w.grownBy w' (some M)) (hm : w'.ownsMap Tryz.prog 9 (plainElem Tryz.prog 3) M n' D') : Bst b R T M doc nm q acc av D' n' w' := by
  have hM := h.mw
  have hbR := h.bR
  have hRT := h.RT
  have hTM := h.TM
  have hb9 := h.b9
  have hne : ∀ k, k < M → some k ≠ some M := fun k hk e => by cases e; omega
  exact ⟨(hg.block b (by omega) (hne b (by omega))).trans h.place, (hg.block R (by omega) (hne R (by omega))).trans h.fresh, (hg.block T (by omega) (hne T (by omega))).trans h.tok, h.row.kept hg (h.rowne (Nat.le_refl _)), hm, h.gl.grown hg (fun k e => by cases e; omega), hbR, hRT, hTM, hb9⟩
theorem Bst.app (h : Bst b R T M doc nm q acc av D n w) {x y : Bytes} {v' : Value} (hg : w.grownBy w' av.ownBlock) (hr : w'.ownsRow (M + 1) 43 2 v' (acc.length + 1) (attrCells acc ++ [.string ⟨x.toArray⟩, .string ⟨y.toArray⟩])) :
    Bst b R T M doc nm q (acc ++ [(x, y)]) v' D n (w'.setCell ⟨T, 3, none⟩ v') := by
  have hM := h.mw
  have hbR := h.bR
  have hRT := h.RT
  have hTM := h.TM
  have hb9 := h.b9
  have hav := h.row.lt
  have hne : ∀ k, k ≤ M → some k ≠ av.ownBlock := fun k hk e => by have := hav k e.symm; omega
  have hsz := hg.size
  have hT : TokAt w' T nm av false := (hg.block T (by omega) (hne T (by omega))).trans h.tok
  have hg2 : w'.grownBy (w'.setCell ⟨T, 3, none⟩ v') (some T) := ⟨rfl, rfl, rfl, by simp [World.setCell], fun k hk hb => Below.heap_setCell _ _ _ _ (fun e => hb (by rw [e]))⟩
  have hb2 : ∀ k, k < w'.heap.size → k ≠ T → (w'.setCell ⟨T, 3, none⟩ v').heap[k]? = w'.heap[k]? := fun k hk hb => hg2.block k hk (fun e => hb (by cases e; rfl))
  have hr' : w'.ownsRow (M + 1) 43 2 v' (acc ++ [(x, y)]).length (attrCells (acc ++ [(x, y)])) := by
    have e1 : attrCells (acc ++ [(x, y)]) = attrCells acc ++ [.string ⟨x.toArray⟩, .string ⟨y.toArray⟩] := by simp [attrCells]
    rw [e1, List.length_append]; exact hr
  refine ⟨(hb2 b (by omega) (by omega)).trans ((hg.block b (by omega) (hne b (by omega))).trans h.place), (hb2 R (by omega) (by omega)).trans ((hg.block R (by omega) (hne R (by omega))).trans h.fresh), hT.set v', hr'.kept hg2 ?_, (h.map.kept hg (hne M (Nat.le_refl _))).kept hg2 (by simp; omega), (h.gl.grown hg (fun k e => by have := hav k e; omega)).grown hg2 (fun k e => by cases e; omega), hbR, hRT, hTM, hb9⟩
  cases e : v'.ownBlock with
  | none => exact .inl rfl
  | some g => exact .inr (by have := hr'.lt g e; intro e2; cases e2; omega)
end
theorem AttrsAt.mono {w : World} {B B' : Nat} {v : Value} {l : List (Bytes × Bytes)} (h : AttrsAt w B v l) (hB : B' ≤ B) : AttrsAt w B' v l := by
  refine ⟨h.1, ?_⟩
  rcases h.2 with hn | ⟨g, cap, cur, hv, hb, rest⟩
  · exact .inl hn
  · exact .inr ⟨g, cap, cur, hv, by omega, rest⟩
/-- the map holds just the attributes' names -/
def There (D : DataW Unit) (acc : List (Bytes × Bytes)) : Prop := ∀ n : Bytes, Maps.has D (.string n) = acc.any (fun y => y.1 == n)
theorem There.nil : There (.map []) [] := fun n => rfl
theorem There.put {D : DataW Unit} {acc : List (Bytes × Bytes)} (h : There D acc) (hD : Maps.IsMap D) (x y : Bytes) (d : DataW Unit) : There (D.put (.string x) d) (acc ++ [(x, y)]) := by
  intro n
  rw [List.any_append]
  by_cases e : n = x
  · subst e
    rw [Maps.has_put_same hD (by trivial)]
    simp
  · rw [Maps.has_put_other (by simpa using e), h n]
    have : ((x == n) : Bool) = false := by simpa using fun e2 => e e2.symm
    simp [this]
theorem PiecePost.opened {res : Option (Tok × Nat)} {b p : Nat} {doc : ByteArray} {w w' : World} {e : Ending} {t : Tok} {k : Nat} {av : Value} (h : res = some (t, k)) (he : e = .returned (.tuple #[tokV t av, .bool true])) (ha : AttrsAt w' w.heap.size av t.attrs) (hP : PlaceAt w' b doc (p + k)) (hs : Sole b w w') : PiecePost res b p doc w e w' := by
  subst h; exact ⟨⟨_, he, ha⟩, hP, hs⟩
theorem AttrsAt.setCell {w : World} {B r o : Nat} {v : Value} {l : List (Bytes × Bytes)} (h : AttrsAt w B v l) (hr : r < B) (u : Value) : AttrsAt (w.setCell ⟨r, o, .none⟩ u) B v l := by
  refine h.kept (row := some r) ⟨rfl, rfl, rfl, by simp [World.setCell], fun k hk hb => Below.heap_setCell _ _ _ _ (fun e => hb (by rw [e]))⟩ ?_
  cases e : v.ownBlock with
  | none => exact .inl rfl
  | some g => exact .inr (by have := h.lt g e; intro e2; cases e2; omega)
theorem AttrsAt.set5 {w : World} {B r : Nat} {v : Value} {l : List (Bytes × Bytes)} (h : AttrsAt w B v l) (hr : r < B) (v0 v1 v2 v3 v4 : Value) :
    AttrsAt (((((w.setCell ⟨r, 0, .none⟩ v0).setCell ⟨r, 1, .none⟩ v1).setCell ⟨r, 2, .none⟩ v2).setCell ⟨r, 3, .none⟩ v3).setCell ⟨r, 4, .none⟩ v4) B v l :=
  ((((h.setCell hr v0).setCell hr v1).setCell hr v2).setCell hr v3).setCell hr v4
/-- how the attributes that are left are tied to what is to be answered -/
def Link (res : Option (Tok × Nat)) (tw : Bytes) (p q : Nat) (rest : Option (List (Bytes × Bytes) × Bool × Nat)) : Prop :=
  (rest = none → res = none) ∧ ∀ r e k, rest = some (r, e, k) → res = some ({ kind := 2, name := tw, attrs := r, empty := e }, q - p + k)
theorem Link.none {res : Option (Tok × Nat)} {tw : Bytes} {p q : Nat} {rest : Option (List (Bytes × Bytes) × Bool × Nat)} (h : Link res tw p q rest) (e : rest = .none) : res = .none := h.1 e
theorem Link.next {res : Option (Tok × Nat)} {tw : Bytes} {p q d : Nat} {rest rest' : Option (List (Bytes × Bytes) × Bool × Nat)} (h : Link res tw p q rest) (hp : p ≤ q)
    (e : rest = match rest' with | .none => .none | some (r, e, k) => some (r, e, d + k)) : Link res tw p (q + d) rest' := by
  refine ⟨fun h0 => h.1 (by rw [e, h0]), fun r x k h1 => ?_⟩
  rw [h.2 r x (d + k) (by rw [e, h1]), show q - p + (d + k) = q + d - p + k from by omega]
theorem AttrsAt.shape {w : World} {B : Nat} {v : Value} {l : List (Bytes × Bytes)} (h : AttrsAt w B v l) : ∃ o c, v = .slice o l.length c := by
  rcases h.2 with ⟨e, hn⟩ | ⟨g, cap, cur, hv, _⟩
  · exact ⟨_, 0, by rw [hn]; exact e⟩
  · exact ⟨_, _, hv⟩
theorem ownsRow_shape {w : World} {base size n : Nat} {e : TypeId} {v : Value} {xs : List Value} (h : w.ownsRow base e size v n xs) : ∃ o c, v = .slice o n c := by
  rcases h.2 with ⟨e, hn⟩ | ⟨g, cap, cur, hv, _⟩
  · exact ⟨_, 0, by rw [hn]; exact e⟩
  · exact ⟨_, _, hv⟩
theorem Bst.tokGrown {b R T M q n : Nat} {doc nm : ByteArray} {acc : List (Bytes × Bytes)} {av : Value} {D : DataW Unit} {w w' : World} (h : Bst b R T M doc nm q acc av D n w) (hg : w.grownBy w' av.ownBlock) : TokAt w' T nm av false := by
  have hM := h.mw
  have hTM := h.TM
  exact (hg.block T (by omega) (fun e => by have := h.row.lt _ e.symm; omega)).trans h.tok
end Go.Proofs.YtkehbepopegboaaGreatDoor
