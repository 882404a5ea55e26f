/-
  The pieces' marks of layer 3, and how each piece is read: their walks.
-/
import Derived.Test.YtkehbepopegboaaGreatDoorBegin
namespace Go.Proofs.YtkehbepopegboaaGreatDoor
open Go.RowKit
set_option linter.unusedVariables false
def markB : Nat → Bytes
  | 0 => [60, 63, 120, 109, 108]
  | 1 => [60, 33, 45, 45]
  | 2 => [60, 33, 91, 67, 68, 65, 84, 65, 91]
  | 3 => [60, 47]
  | 4 => [60]
  | _ => []
def readF : Nat → Nat
  | 0 => 20
  | 1 => 21
  | 2 => 22
  | 3 => 23
  | 4 => 24
  | _ => 25
/-- the marks' block -/
def MarksAt (w : World) (m : Nat) : Prop := w.heap[m]? = some (.cells #[.string ⟨(markB 0).toArray⟩, .func (.func (readF 0)) #[] #[], .string ⟨(markB 1).toArray⟩, .func (.func (readF 1)) #[] #[], .string ⟨(markB 2).toArray⟩, .func (.func (readF 2)) #[] #[],
  .string ⟨(markB 3).toArray⟩, .func (.func (readF 3)) #[] #[], .string ⟨(markB 4).toArray⟩, .func (.func (readF 4)) #[] #[], .string ⟨(markB 5).toArray⟩, .func (.func (readF 5)) #[] #[]] 55 (0, 0))
theorem MarksAt.cell {w : World} {m : Nat} (h : MarksAt w m) (k : Nat) (hk : k < 6) : w.cell? ⟨m, k * 2, none⟩ = some (.string ⟨(markB k).toArray⟩) ∧ w.cell? ⟨m, k * 2 + 1, none⟩ = some (.func (.func (readF k)) #[] #[]) := by
  unfold MarksAt at h
  have : k = 0 ∨ k = 1 ∨ k = 2 ∨ k = 3 ∨ k = 4 ∨ k = 5 := by omega
  rcases this with rfl | rfl | rfl | rfl | rfl | rfl <;> exact ⟨cell_of_row w m _ _ _ _ h, cell_of_row w m _ _ _ _ h⟩
set_option maxHeartbeats 4000000 in
set_option maxRecDepth 100000 in
theorem marks_any (w : World) : Calls Tryz.prog 13 #[] w fun e w' => e = .returned (.slice (some ⟨w.heap.size, 0, none⟩) 6 6) ∧ MarksAt w' w.heap.size ∧ Below w.heap.size w w' ∧ w'.heap.size = w.heap.size + 1 := by
  go_enter Tryz.func13, Tryz.ntmps13
  go_wp2_with fail
  go_ret
  exact ⟨rfl, heap_alloc_new w _, (Below.refl _ w).alloc (Nat.le_refl _) _, by simp⟩
/-- the piece that the first mark that stands there tells -/
theorem reads_any (k b p : Nat) (hk : k < 6) (doc : ByteArray) (w : World) (hP : PlaceAt w b doc p) (hp : p ≤ doc.size) (hd : doc.size ≤ 65536) (hg : Gl w) (hb9 : 9 ≤ b)
    (hno : ∀ j, j < k → Lib.hasPrefix (doc.data.toList.drop p) (markB j) = false) (hm : Lib.hasPrefix (doc.data.toList.drop p) (markB k) = true) :
    Calls Tryz.prog (readF k) #[.pointer (some ⟨b, 0, none⟩)] w (PiecePost (pieceP (decide (p = 0)) (doc.data.toList.drop p)) b p doc w) := by
  have : k = 0 ∨ k = 1 ∨ k = 2 ∨ k = 3 ∨ k = 4 ∨ k = 5 := by omega
  unfold pieceP
  rcases this with rfl | rfl | rfl | rfl | rfl | rfl
  · have hm : Lib.hasPrefix (doc.data.toList.drop p) [60, 63, 120, 109, 108] = true := hm
    rw [if_pos hm]
    exact declaration_any b p doc w hP hp hd hg hb9
  · have h0 : ¬ Lib.hasPrefix (doc.data.toList.drop p) [60, 63, 120, 109, 108] = true := by have := hno 0 (by omega); exact fun e => absurd (e.symm.trans this) (by decide)
    have hm : Lib.hasPrefix (doc.data.toList.drop p) [60, 33, 45, 45] = true := hm
    rw [if_neg h0, if_pos hm]
    exact comment_any b p doc w hP hp hd hg hb9 hm
  · have h0 : ¬ Lib.hasPrefix (doc.data.toList.drop p) [60, 63, 120, 109, 108] = true := by have := hno 0 (by omega); exact fun e => absurd (e.symm.trans this) (by decide)
    have h1 : ¬ Lib.hasPrefix (doc.data.toList.drop p) [60, 33, 45, 45] = true := by have := hno 1 (by omega); exact fun e => absurd (e.symm.trans this) (by decide)
    have hm : Lib.hasPrefix (doc.data.toList.drop p) [60, 33, 91, 67, 68, 65, 84, 65, 91] = true := hm
    rw [if_neg h0, if_neg h1, if_pos hm]
    exact data_any b p doc w hP hp hd hg hb9 hm
  · have h0 : ¬ Lib.hasPrefix (doc.data.toList.drop p) [60, 63, 120, 109, 108] = true := by have := hno 0 (by omega); exact fun e => absurd (e.symm.trans this) (by decide)
    have h1 : ¬ Lib.hasPrefix (doc.data.toList.drop p) [60, 33, 45, 45] = true := by have := hno 1 (by omega); exact fun e => absurd (e.symm.trans this) (by decide)
    have h2 : ¬ Lib.hasPrefix (doc.data.toList.drop p) [60, 33, 91, 67, 68, 65, 84, 65, 91] = true := by have := hno 2 (by omega); exact fun e => absurd (e.symm.trans this) (by decide)
    have hm : Lib.hasPrefix (doc.data.toList.drop p) [60, 47] = true := hm
    rw [if_neg h0, if_neg h1, if_neg h2, if_pos hm]
    exact end_any b p doc w hP hp hd hg hb9 hm
  · have h0 : ¬ Lib.hasPrefix (doc.data.toList.drop p) [60, 63, 120, 109, 108] = true := by have := hno 0 (by omega); exact fun e => absurd (e.symm.trans this) (by decide)
    have h1 : ¬ Lib.hasPrefix (doc.data.toList.drop p) [60, 33, 45, 45] = true := by have := hno 1 (by omega); exact fun e => absurd (e.symm.trans this) (by decide)
    have h2 : ¬ Lib.hasPrefix (doc.data.toList.drop p) [60, 33, 91, 67, 68, 65, 84, 65, 91] = true := by have := hno 2 (by omega); exact fun e => absurd (e.symm.trans this) (by decide)
    have h3 : ¬ Lib.hasPrefix (doc.data.toList.drop p) [60, 47] = true := by have := hno 3 (by omega); exact fun e => absurd (e.symm.trans this) (by decide)
    have hm : Lib.hasPrefix (doc.data.toList.drop p) [60] = true := hm
    rw [if_neg h0, if_neg h1, if_neg h2, if_neg h3, if_pos hm]
    exact open_any b p doc w hP hp hd hg hb9 hm
  · have h0 : ¬ Lib.hasPrefix (doc.data.toList.drop p) [60, 63, 120, 109, 108] = true := by have := hno 0 (by omega); exact fun e => absurd (e.symm.trans this) (by decide)
    have h1 : ¬ Lib.hasPrefix (doc.data.toList.drop p) [60, 33, 45, 45] = true := by have := hno 1 (by omega); exact fun e => absurd (e.symm.trans this) (by decide)
    have h2 : ¬ Lib.hasPrefix (doc.data.toList.drop p) [60, 33, 91, 67, 68, 65, 84, 65, 91] = true := by have := hno 2 (by omega); exact fun e => absurd (e.symm.trans this) (by decide)
    have h3 : ¬ Lib.hasPrefix (doc.data.toList.drop p) [60, 47] = true := by have := hno 3 (by omega); exact fun e => absurd (e.symm.trans this) (by decide)
    have h4 : ¬ Lib.hasPrefix (doc.data.toList.drop p) [60] = true := by have := hno 4 (by omega); exact fun e => absurd (e.symm.trans this) (by decide)
    rw [if_neg h0, if_neg h1, if_neg h2, if_neg h3, if_neg h4]
    exact words_any b p doc w hP hp hd hg hb9
/-! ### a row of tokens -/
def tokRow (x : Tok × Value) : List Value := [.int .i64 x.1.kind, .string ⟨x.1.name.toArray⟩, .string ⟨x.1.text.toArray⟩, x.2, .bool x.1.empty]
/-- a slice value leads to these tokens, in blocks from B on -/
def ToksAt (w : World) (B : Nat) (v : Value) (l : List Tok) : Prop :=
  ∃ ps : List (Tok × Value), ps.map Prod.fst = l ∧ w.ownsRow B 40 5 v l.length (ps.flatMap tokRow) ∧ ∀ x ∈ ps, AttrsAt w B x.2 x.1.attrs
theorem ToksAt.nil (w : World) (B : Nat) : ToksAt w B (.slice none 0 0) [] := ⟨[], rfl, World.ownsRow_nil w B _ 5, by simp⟩
theorem ToksAt.kept {w w' : World} {B : Nat} {v : Value} {l : List Tok} {row : Option Nat} (h : ToksAt w B v l) (hg : w.grownBy w' row) (hr : ∀ k, row = some k → k < B) : ToksAt w' B v l := by
  obtain ⟨ps, h1, h2, h3⟩ := h
  have hk : ∀ (v : Value) (n size e : Nat) (xs : List Value), w.ownsRow B e size v n xs → w'.ownsRow B e size v n xs := fun v n size e xs ho => by
    refine ho.kept hg ?_
    cases e : v.ownBlock with
    | none => exact .inl rfl
    | some g => exact .inr (fun e2 => by have := ho.lt g e; have := hr g e2.symm; omega)
  exact ⟨ps, h1, hk _ _ _ _ _ h2, fun x hx => hk _ _ _ _ _ (h3 x hx)⟩
theorem ownsRow_kind {w : World} {B e e' size size' n n' : Nat} {v v' : Value} {xs xs' : List Value} (h : w.ownsRow B e size v n xs) (h' : w.ownsRow B e' size' v' n' xs') (hne : e ≠ e') : v.ownBlock = none ∨ v.ownBlock ≠ v'.ownBlock := by
  rcases h.2 with ⟨rfl, _⟩ | ⟨g, cap, cur, rfl, _, hg, _⟩
  · exact .inl rfl
  · refine .inr ?_
    rcases h'.2 with ⟨rfl, _⟩ | ⟨g', cap', cur', rfl, _, hg', _⟩
    · simp [Value.ownBlock]
    · simp only [Value.ownBlock]
      intro e1
      injection e1 with e1
      subst e1
      rw [hg] at hg'
      injection hg' with hg'
      injection hg' with _ e2 _
      exact hne e2
theorem ToksAt.append {w w' : World} {B : Nat} {v v' av : Value} {l : List Tok} {t : Tok} {ps : List (Tok × Value)} (h1 : ps.map Prod.fst = l) (h2 : w.ownsRow B 40 5 v l.length (ps.flatMap tokRow)) (h3 : ∀ x ∈ ps, AttrsAt w B x.2 x.1.attrs)
    (ha : AttrsAt w B av t.attrs) (hg : w.grownBy w' v.ownBlock) (hr : w'.ownsRow B 40 5 v' (l.length + 1) (ps.flatMap tokRow ++ tokRow (t, av))) : ToksAt w' B v' (l ++ [t]) := by
  refine ⟨ps ++ [(t, av)], by simp [h1], ?_, ?_⟩
  · rw [List.length_append, List.flatMap_append]
    simpa using hr
  · intro x hx
    rw [List.mem_append] at hx
    have hx' : AttrsAt w B x.2 x.1.attrs := by
      rcases hx with hx | hx
      · exact h3 x hx
      · simp at hx; subst hx; exact ha
    exact World.ownsRow.kept hx' hg (ownsRow_kind hx' h2 (by decide))
end Go.Proofs.YtkehbepopegboaaGreatDoor
