/-
  Layer 7 (regex): the reader's methods sequence and expression: every text. Conditions as before.
-/
import Derived.Test.YtnnbdlmilbcpjaaGreatDoorSRow
namespace Go.Proofs.YtnnbdlmilbcpjaaGreatDoor
open Go.RowKit
set_option linter.unusedVariables false
set_option maxRecDepth 100000 in
theorem enter_item : ∀ args wz, (callFunc 158 args).run Tryz.prog wz = .ok (.enter 158 args) wz := fun _ _ => rfl
set_option maxRecDepth 100000 in
theorem enter_seq : ∀ args wz, (callFunc 150 args).run Tryz.prog wz = .ok (.enter 150 args) wz := fun _ _ => rfl
/-- a result that is handed on -/
theorem PartPost.tuple {r : PartR} {b : Nat} {doc : ByteArray} {w w' : World} {e : Ending} (h : PartPost r b doc w e w') : ∃ o n c ok, e = .returned (.tuple #[.slice o n c, .bool ok]) ∧ PartPost r b doc w (.returned (.tuple #[.slice o n c, .bool ok])) w' := by
  cases r with
  | none =>
    have h2 := h
    obtain ⟨⟨⟨o, n, c, he⟩, _⟩, _⟩ := h2
    exact ⟨o, n, c, false, he, he ▸ h⟩
  | some z =>
    have h2 := h
    obtain ⟨⟨⟨v, he, ho⟩, _⟩, _⟩ := h2
    obtain ⟨o, c, rfl⟩ := ownRow_shape ho
    exact ⟨o, _, c, true, he, he ▸ h⟩
set_option maxHeartbeats 1000000 in
set_option maxRecDepth 100000 in
theorem seq_any {b n : Nat} {doc : ByteArray} {E : RSt → PartR} (hd : doc.size ≤ 65536) (hI : PartC 158 b doc (itemS doc.data.toList E) n) (hEk : PartOk doc.data.toList E) : PartC 150 b doc (seqS doc.data.toList E) n := by
  intro st w hP hp hn
  have hr := row_any hd 44 44 rfl 3 1 hI (itemS_ok hEk) enter_item st w hP hp hn
  have hs : seqS doc.data.toList E st = rowS doc.data.toList 44 3 1 (itemS doc.data.toList E) (doc.data.toList.length + 1) [] st := rfl
  rw [hs]
  clear hs hI hEk
  generalize rowS doc.data.toList 44 3 1 (itemS doc.data.toList E) (doc.data.toList.length + 1) [] st = R at hr
  go_enter Tryz.func150, Tryz.ntmps150
  go_wp2_with fail
  refine hr.mono ?_
  intro e w1 hp
  obtain ⟨o, n, c, ok, rfl, hp2⟩ := hp.tuple
  clear hr hp
  go_wp2_with fail
  go_ret2
  exact hp2
set_option maxHeartbeats 1000000 in
set_option maxRecDepth 100000 in
theorem expr_step {b n : Nat} {doc : ByteArray} {E : RSt → PartR} (hd : doc.size ≤ 65536) (hS : PartC 150 b doc (seqS doc.data.toList E) n) (hEk : PartOk doc.data.toList E) :
    PartC 136 b doc (fun st => rowS doc.data.toList 124 4 0 (seqS doc.data.toList E) (doc.data.toList.length + 1) [] st) n := by
  intro st w hP hp hn
  show Calls _ _ _ _ (PartPost (rowS doc.data.toList 124 4 0 (seqS doc.data.toList E) (doc.data.toList.length + 1) [] st) b doc w)
  have hr := row_any hd 124 124 rfl 4 0 hS (seqS_ok hEk) enter_seq st w hP hp hn
  clear hS hEk
  generalize rowS doc.data.toList 124 4 0 (seqS doc.data.toList E) (doc.data.toList.length + 1) [] st = R at hr
  go_enter Tryz.func136, Tryz.ntmps136
  go_wp2_with fail
  refine hr.mono ?_
  intro e w1 hp
  obtain ⟨o, n, c, ok, rfl, hp2⟩ := hp.tuple
  clear hr hp
  go_wp2_with fail
  go_ret2
  exact hp2
theorem expr_any {b : Nat} {doc : ByteArray} (hd : doc.size ≤ 65536) : ∀ n, PartC 136 b doc (exprS doc.data.toList n) n := by
  intro n
  induction n with
  | zero => intro st w hP hp hn; omega
  | succ n ih =>
    have hk := exprS_ok doc.data.toList n
    have hA := atom_any hd ih hk
    have hI := item_any hd hA hk
    have hS := seq_any hd hI hk
    exact expr_step hd hS hk
end Go.Proofs.YtnnbdlmilbcpjaaGreatDoor
