/-
  Small words used by the walks of this claim: endings, frames below a block. Plain facts, no condition.
-/
import Derived.Test.YtnnbdlmilbcpjaaGreatDoorChecked
import Derived.WalkKit
import Derived.Lib.Hide
import Derived.WalkSpells
import Derived.WalkLawsBesides
namespace Go.Proofs.YtnnbdlmilbcpjaaGreatDoor
open Go.RowKit

theorem ret_bool {a b : Bool} (h : a = b) : Ending.returned (.bool a) = .returned (.bool b) := by rw [h]
theorem ret_int {k : IntKind} {a b : Int} (h : a = b) : Ending.returned (.int k a) = .returned (.int k b) := by rw [h]
/-- all old cells and all old marks read as before -/
theorem bcell {B : Nat} {W w1 : World} (hb : Below B W w1) : (∀ b o, b < B → w1.cell? ⟨b, o, none⟩ = W.cell? ⟨b, o, none⟩) ∧ (∀ b o, b < B → w1.frozen? ⟨b, o, none⟩ = W.frozen? ⟨b, o, none⟩) :=
  ⟨fun b o h => hb.cell (p := ⟨b, o, none⟩) h, fun b o h => hb.frozen (p := ⟨b, o, none⟩) h⟩
theorem slice_from (t : ByteArray) (a : Nat) (h : a ≤ t.size) (w : World) : (Instr.slice 9 (.string t) (some (.int .i64 a)) none none).run Tryz.prog w = .ok (.string (t.extract a t.size)) w := by
  rw [run_slice_string_from_if w _ t .i64 a Tryz.underlying9, if_pos (by omega)]; rfl
theorem slice_mid (t : ByteArray) (a b : Nat) (h : a ≤ b) (h2 : b ≤ t.size) (w : World) : (Instr.slice 9 (.string t) (some (.int .i64 a)) (some (.int .i64 b)) none).run Tryz.prog w = .ok (.string (t.extract a b)) w := by
  rw [run_slice_string w _ t .i64 .i64 a b Tryz.underlying9 (by omega) (by omega) (by omega)]; rfl
end Go.Proofs.YtnnbdlmilbcpjaaGreatDoor
