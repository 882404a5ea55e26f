/-
  The scanner of layer 3: how a declaration and words are read: their walks. Conditions as before.
-/
import Derived.Test.YtkehbepopegboaaGreatDoorPiece
namespace Go.Proofs.YtkehbepopegboaaGreatDoor
open Go.RowKit
set_option linter.unusedVariables false
set_option maxHeartbeats 8000000 in
set_option maxRecDepth 100000 in
theorem declaration_any (b p : Nat) (doc : ByteArray) (w : World) (hP : PlaceAt w b doc p) (hp : p ≤ doc.size) (hd : doc.size ≤ 65536) (hg : Gl w) (hb9 : 9 ≤ b) :
    Calls Tryz.prog 20 #[.pointer (some ⟨b, 0, none⟩)] w (PiecePost (declP (decide (p = 0)) (doc.data.toList.drop p)) b p doc w) := by
  have hb := hP.lt
  have hP1 := hP.below ((Below.refl _ w).alloc (Nat.le_refl _) freshTokO)
  have hF1 := FreshTok.new w
  have hg1 := hg.below (Nat.le_refl 9) ((Below.refl _ w).alloc hg.size freshTokO)
  have hS1 := (Sole.refl b w).alloc freshTokO
  unfold freshTokO at hP1 hg1 hS1
  have hA := (rfl : declP (decide (p = 0)) (doc.data.toList.drop p) = declP (decide (p = 0)) (doc.data.toList.drop p))
  conv at hA => rhs; unfold declP
  generalize declP (decide (p = 0)) (doc.data.toList.drop p) = res at hA
  have hpos := hP1.pos
  by_cases h0 : p = 0
  · subst h0
    rw [if_neg (by simp)] at hA
    cases h1 : Lib.hasPrefix (doc.data.toList.drop 0) plainD with
    | true =>
      rw [if_pos h1] at hA
      have HA2 := Lib.hid hA
      have hsk := skipM_yes b 0 doc plainD 21 rfl _ hP1 hp hd h1
      clear hA h1
      go_enter Tryz.func20, Tryz.ntmps20
      go_wp2_with fail
      refine hsk.mono ?_
      rintro e w4 ⟨rfl, hP4, hS4⟩
      have hF4 := hF1.sole hS4 (by omega)
      have hS4' := hS1.trans hS4
      obtain ⟨c0, c1, c2, c3, c4, ff⟩ := hF4.cell
      have f0 := ff 0
      have f1 := ff 1
      have f2 := ff 2
      have f3 := ff 3
      have f4 := ff 4
      clear ff
      clear hsk hpos
      go_wp2_with fail
      refine bodyPost_ret (v := .tuple #[.agg #[.int .i64 1, .string ⟨#[]⟩, .string ⟨#[]⟩, .slice none 0 0, .bool false], .bool true]) (by simp [results, Tryz.results20, go_sem, c0, c1, c2, c3, c4]) rfl (PiecePost.yes HA2.out rfl ?_ ?_ (hS4'.set5 (Nat.le_refl _) _ _ _ _ _))
      · unfold tokV; rfl
      · exact hP4.set5 (by omega) _ _ _ _ _
    | false =>
      rw [if_neg (by rw [h1]; simp)] at hA
      have hsk := skipM_no b 0 doc plainD _ hP1 hp h1
      clear h1
      cases h2 : Lib.hasPrefix (doc.data.toList.drop 0) encodedD with
      | true =>
        rw [if_pos h2] at hA
        have HA2 := Lib.hid hA
        have H2 := Lib.hid h2
        clear hA h2
        go_enter Tryz.func20, Tryz.ntmps20
        go_wp2_with fail
        refine hsk.mono ?_
        rintro e w3 ⟨rfl, hP3, hS3⟩
        have hF3 := hF1.sole hS3 (by omega)
        have hS3' := hS1.trans hS3
        have hsk2 := skipM_yes b 0 doc encodedD 38 rfl _ hP3 hp hd H2.out
        clear hsk hpos
        go_wp2_with fail
        refine hsk2.mono ?_
        rintro e w4 ⟨rfl, hP4, hS4⟩
        have hF4 := hF3.sole hS4 (by omega)
        have hS4' := hS3'.trans hS4
        obtain ⟨c0, c1, c2, c3, c4, ff⟩ := hF4.cell
        have f0 := ff 0
        have f1 := ff 1
        have f2 := ff 2
        have f3 := ff 3
        have f4 := ff 4
        clear ff
        clear hsk2
        go_wp2_with fail
        refine bodyPost_ret (v := .tuple #[.agg #[.int .i64 1, .string ⟨#[]⟩, .string ⟨#[85, 84, 70, 45, 56]⟩, .slice none 0 0, .bool false], .bool true]) (by simp [results, Tryz.results20, go_sem, c0, c1, c2, c3, c4]) rfl (PiecePost.yes HA2.out rfl ?_ ?_ (hS4'.set5 (Nat.le_refl _) _ _ _ _ _))
        · unfold tokV; rfl
        · exact hP4.set5 (by omega) _ _ _ _ _
      | false =>
        rw [if_neg (by rw [h2]; simp)] at hA
        have HA2 := Lib.hid hA
        have H2 := Lib.hid h2
        clear hA h2
        go_enter Tryz.func20, Tryz.ntmps20
        go_wp2_with fail
        refine hsk.mono ?_
        rintro e w3 ⟨rfl, hP3, hS3⟩
        have hF3 := hF1.sole hS3 (by omega)
        have hS3' := hS1.trans hS3
        have hsk2 := skipM_no b 0 doc encodedD _ hP3 hp H2.out
        clear hsk hpos
        go_wp2_with fail
        refine hsk2.mono ?_
        rintro e w4 ⟨rfl, hP4, hS4⟩
        have hF4 := hF3.sole hS4 (by omega)
        have hS4' := hS3'.trans hS4
        obtain ⟨c0, c1, c2, c3, c4, ff⟩ := hF4.cell
        have f0 := ff 0
        have f1 := ff 1
        have f2 := ff 2
        have f3 := ff 3
        have f4 := ff 4
        clear ff
        clear hsk2
        go_wp2_with fail
        refine bodyPost_ret (v := .tuple #[.agg #[.int .i64 0, .string ⟨#[]⟩, .string ⟨#[]⟩, .slice none 0 0, .bool false], .bool false]) (by simp [results, Tryz.results20, go_sem, c0, c1, c2, c3, c4]) rfl (PiecePost.no HA2.out _ _ _ _ rfl (hS4'.set5 (Nat.le_refl _) _ _ _ _ _))
  · rw [if_pos (by simp [h0])] at hA
    have HA2 := Lib.hid hA
    have hne : ((p : Int) != 0) = true := by simp; exact h0
    obtain ⟨c0, c1, c2, c3, c4, ff⟩ := hF1.cell
    have f0 := ff 0
    have f1 := ff 1
    have f2 := ff 2
    have f3 := ff 3
    have f4 := ff 4
    clear ff
    clear hA h0
    go_enter Tryz.func20, Tryz.ntmps20
    go_wp2_with fail
    refine bodyPost_ret (v := .tuple #[.agg #[.int .i64 0, .string ⟨#[]⟩, .string ⟨#[]⟩, .slice none 0 0, .bool false], .bool false]) (by simp [results, Tryz.results20, go_sem, c0, c1, c2, c3, c4]) rfl (PiecePost.no HA2.out _ _ _ _ rfl hS1)
end Go.Proofs.YtkehbepopegboaaGreatDoor
