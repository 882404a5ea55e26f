/-
  Layer 7 (regex): Parse: which regular expression a text is, or what is wrong: every text. No condition but that a text has at most 2^60 bytes.
-/
import Derived.Test.YtnnbdlmilbcpjaaGreatDoorSExpr
namespace Go.Proofs.YtnnbdlmilbcpjaaGreatDoor
open Go.RowKit
set_option linter.unusedVariables false
/-- what Parse of a regular expression owes -/
def RegexPost (r : List SNode × Int) (w : World) (e : Ending) (w' : World) : Prop :=
  ∃ o c, e = .returned (.tuple #[.agg #[.slice o r.1.length c], .int .i64 r.2]) ∧ NodesOwn w' w.heap.size (.slice o r.1.length c) r.1 ∧ Below w.heap.size w w'
theorem RegexPost.of {r : List SNode × Int} {l : List SNode} {n : Int} {o : Option Addr} {c : Nat} {w w' : World} {e : Ending} (h : r = (l, n)) (he : e = .returned (.tuple #[.agg #[.slice o l.length c], .int .i64 n])) (ho : NodesOwn w' w.heap.size (.slice o l.length c) l) (hb : Below w.heap.size w w') : RegexPost r w e w' := by
  subst h; exact ⟨o, c, he, ho, hb⟩
set_option maxHeartbeats 4000000 in
set_option maxRecDepth 100000 in
theorem regexParse_any (doc : ByteArray) (w : World) (hs : doc.size ≤ 1152921504606846976) :
    Calls Tryz.prog 118 #[.string doc] w (RegexPost (regexP doc.data.toList) w) := by
  obtain ⟨R, hR⟩ : ∃ R, R = regexP doc.data.toList := ⟨_, rfl⟩
  rw [← hR]
  unfold regexP at hR
  by_cases hbig : 65536 < doc.size
  · rw [if_pos (by rw [← Lib.size_eq]; exact hbig)] at hR
    have HR := Lib.hid hR
    have hd : decide ((doc.size : Int) > 65536) = true := by rw [decide_eq_true_eq]; omega
    clear hR
    go_enter Tryz.func118, Tryz.ntmps118
    go_wp2_with fail
    exact bodyPost_ret (v := .tuple #[.agg #[.slice none 0 0], .int .i64 17]) (by simp [results, Tryz.results118, go_sem]) rfl (RegexPost.of HR.out rfl (World.ownsRow_nil _ _ _ _) ((Below.refl _ w).alloc (Nat.le_refl _) _))
  · rw [if_neg (by rw [← Lib.size_eq]; exact hbig)] at hR
    have hd : decide ((doc.size : Int) > 65536) = false := by rw [decide_eq_false_iff_not]; omega
    have hds : doc.size ≤ 65536 := by omega
    obtain ⟨w0, hw0⟩ : ∃ w0, w0 = (w.alloc (.cells #[.slice none 0 0] 45)).alloc (.cells #[.string doc, .int .i64 0, .bool false, .bool false] 163) := ⟨_, rfl⟩
    have hb0 : Below w.heap.size w w0 := by rw [hw0]; exact below2 _ _ _
    have hP0 : RdAt w0 (w.heap.size + 1) doc 0 false false := by
      rw [hw0]
      have := heap_alloc_new (w.alloc (.cells #[.slice none 0 0] 45)) (.cells #[.string doc, .int .i64 0, .bool false, .bool false] 163)
      rw [World.size_alloc] at this
      exact this
    have hx0 : w0.heap[w.heap.size]? = some (.cells #[.slice none 0 0] 45 (0, 0)) := by
      rw [hw0]
      exact (((Below.refl (w.heap.size + 1) _).alloc (by simp) _).block w.heap.size (by omega)).trans (heap_alloc_new w _)
    have hex := expr_any (b := w.heap.size + 1) hds (doc.size + 1) ⟨0, false, false⟩ w0 hP0 (Nat.zero_le _) (by show doc.size - 0 < _; omega)
    have hok := exprS_ok doc.data.toList (doc.size + 1) ⟨0, false, false⟩
    have hszl : doc.data.toList.length = doc.size := (Lib.size_eq doc).symm
    rw [hszl] at hR hok
    unfold PartPost at hex
    have hlt0 := lt_of_block hx0
    rw [hw0] at hex
    cases hx : exprS doc.data.toList (doc.size + 1) ⟨0, false, false⟩ with
    | none =>
      rw [hx] at hR hex
      simp only at hR hex
      have HR := Lib.hid hR
      have X := Lib.hid (And.intro hb0 (And.intro hx0 hw0))
      clear hR hx hok hb0 hx0 hP0 hw0 hlt0 hszl
      go_enter Tryz.func118, Tryz.ntmps118
      go_wp2_with fail
      refine hex.mono ?_
      rintro e w4 ⟨⟨⟨o, k, c, rfl⟩, p4, lo4, bi4, hp4, hP4⟩, hS4⟩
      clear hex
      have hbk := rblanks_any (w.heap.size + 1) p4 doc lo4 bi4 w4 hP4 hp4 hds
      go_wp2_with fail
      refine hbk.mono ?_
      rintro e w5 ⟨⟨v, rfl⟩, hP5, hS5⟩
      clear hbk
      rw [← X.out.2.2] at hS4
      have hS := hS4.trans hS5
      have hx5 := (hS.block w.heap.size (lt_of_block X.out.2.1) (by omega)).trans X.out.2.1
      have cx := cell_of_row w5 w.heap.size 0 _ _ _ hx5
      have fx : w5.frozen? ⟨w.heap.size, 0, none⟩ = false := by simp [World.frozen?, hx5]
      have hbe := X.out.1.trans (hS.below (B := w.heap.size) (by omega) X.out.1.size)
      clear X hS4 hS5 hS hx5 hP4
      go_wp2_with fail
      refine bodyPost_ret (v := .tuple #[.agg #[.slice none 0 0], .int .i64 12]) (by simp [results, Tryz.results118, go_sem, cx]) rfl (RegexPost.of HR.out rfl (World.ownsRow_nil _ _ _ _) ?_)
      first | exact hbe | exact hbe.setCell (Nat.le_refl _) _
    | some z =>
      obtain ⟨ns, p4, lo4, bi4⟩ := z
      have hk := hok ns ⟨p4, lo4, bi4⟩ (Nat.zero_le _) hx
      rw [hx] at hR hex
      simp only at hR hex hk
      have hp4 := hk.2.1
      have hq := blanksAt_le doc p4 hp4
      obtain ⟨Q, hQe⟩ : ∃ Q, Q = blanksAt doc.data.toList p4 := ⟨_, rfl⟩
      rw [← hQe] at hR hq
      clear hx hok hk
      by_cases hlt : Q < doc.size
      · rw [if_pos hlt] at hR
        have hdl : decide ((Q : Int) < (doc.size : Int)) = true := by rw [decide_eq_true_eq]; omega
        have HR := Lib.hid hR
        have X := Lib.hid (And.intro hb0 (And.intro hx0 hw0))
        clear hR hb0 hx0 hP0 hw0 hlt0 hszl
        go_enter Tryz.func118, Tryz.ntmps118
        go_wp2_with fail
        refine hex.mono ?_
        rintro e w4 ⟨⟨⟨v, rfl, hown⟩, hP4⟩, hS4⟩
        clear hex
        obtain ⟨vo, vc, rfl⟩ := ownRow_shape hown
        have hbk := rblanks_any (w.heap.size + 1) p4 doc lo4 bi4 w4 hP4 hp4 hds
        rw [← hQe] at hbk
        go_wp2_with fail
        refine hbk.mono ?_
        rintro e w5 ⟨⟨v, rfl⟩, hP5, hS5⟩
        clear hbk
        rw [← X.out.2.2] at hS4 hown
        have hS := hS4.trans hS5
        have hx5 := (hS.block w.heap.size (lt_of_block X.out.2.1) (by omega)).trans X.out.2.1
        have cx := cell_of_row w5 w.heap.size 0 _ _ _ hx5
        have fx : w5.frozen? ⟨w.heap.size, 0, none⟩ = false := by simp [World.frozen?, hx5]
        have c1 := hP5.cPos
        have c2 := hP5.cLo
        have c3 := hP5.cBi
        have hbe := X.out.1.trans (hS.below (B := w.heap.size) (by omega) X.out.1.size)
        have ho5 : NodesOwn w5 (w.heap.size + 2) (.slice vo ns.length vc) ns := by
          have hz : w0.heap.size = w.heap.size + 2 := by rw [X.out.2.2]; simp
          have := World.ownsRow.kept hown hS5.grownBy (.inr (fun e => by have := (World.ownsRow.lt hown _ e).1; omega))
          rwa [hz] at this
        clear X hS4 hS5 hS hP4 hown hQe
        go_wp2_with fail
        refine bodyPost_ret (v := .tuple #[.agg #[.slice none 0 0], .int .i64 12]) (by simp [results, Tryz.results118, go_sem, cx]) rfl (RegexPost.of HR.out rfl (World.ownsRow_nil _ _ _ _) ?_)
        first | exact hbe | exact hbe.setCell (Nat.le_refl _) _

      · rw [if_neg hlt] at hR
        have hdl : decide ((Q : Int) < (doc.size : Int)) = false := by rw [decide_eq_false_iff_not]; omega
        cases lo4 with
        | true =>
          rw [if_pos rfl] at hR
          have HR := Lib.hid hR
          have X := Lib.hid (And.intro hb0 (And.intro hx0 hw0))
          clear hR hb0 hx0 hP0 hw0 hlt0 hszl
          go_enter Tryz.func118, Tryz.ntmps118
          go_wp2_with fail
          refine hex.mono ?_
          rintro e w4 ⟨⟨⟨v, rfl, hown⟩, hP4⟩, hS4⟩
          clear hex
          obtain ⟨vo, vc, rfl⟩ := ownRow_shape hown
          have hbk := rblanks_any (w.heap.size + 1) p4 doc true bi4 w4 hP4 hp4 hds
          rw [← hQe] at hbk
          go_wp2_with fail
          refine hbk.mono ?_
          rintro e w5 ⟨⟨v, rfl⟩, hP5, hS5⟩
          clear hbk
          rw [← X.out.2.2] at hS4 hown
          have hS := hS4.trans hS5
          have hx5 := (hS.block w.heap.size (lt_of_block X.out.2.1) (by omega)).trans X.out.2.1
          have cx := cell_of_row w5 w.heap.size 0 _ _ _ hx5
          have fx : w5.frozen? ⟨w.heap.size, 0, none⟩ = false := by simp [World.frozen?, hx5]
          have c1 := hP5.cPos
          have c2 := hP5.cLo
          have c3 := hP5.cBi
          have hbe := X.out.1.trans (hS.below (B := w.heap.size) (by omega) X.out.1.size)
          have ho5 : NodesOwn w5 (w.heap.size + 2) (.slice vo ns.length vc) ns := by
            have hz : w0.heap.size = w.heap.size + 2 := by rw [X.out.2.2]; simp
            have := World.ownsRow.kept hown hS5.grownBy (.inr (fun e => by have := (World.ownsRow.lt hown _ e).1; omega))
            rwa [hz] at this
          clear X hS4 hS5 hS hP4 hown hQe
          go_wp2_with fail
          refine bodyPost_ret (v := .tuple #[.agg #[.slice none 0 0], .int .i64 11]) (by simp [results, Tryz.results118, go_sem, cx]) rfl (RegexPost.of HR.out rfl (World.ownsRow_nil _ _ _ _) ?_)
          first | exact hbe | exact hbe.setCell (Nat.le_refl _) _

        | false =>
          rw [if_neg (by simp)] at hR
          cases bi4 with
          | true =>
            rw [if_pos rfl] at hR
            have HR := Lib.hid hR
            have X := Lib.hid (And.intro hb0 (And.intro hx0 hw0))
            clear hR hb0 hx0 hP0 hw0 hlt0 hszl
            go_enter Tryz.func118, Tryz.ntmps118
            go_wp2_with fail
            refine hex.mono ?_
            rintro e w4 ⟨⟨⟨v, rfl, hown⟩, hP4⟩, hS4⟩
            clear hex
            obtain ⟨vo, vc, rfl⟩ := ownRow_shape hown
            have hbk := rblanks_any (w.heap.size + 1) p4 doc false true w4 hP4 hp4 hds
            rw [← hQe] at hbk
            go_wp2_with fail
            refine hbk.mono ?_
            rintro e w5 ⟨⟨v, rfl⟩, hP5, hS5⟩
            clear hbk
            rw [← X.out.2.2] at hS4 hown
            have hS := hS4.trans hS5
            have hx5 := (hS.block w.heap.size (lt_of_block X.out.2.1) (by omega)).trans X.out.2.1
            have cx := cell_of_row w5 w.heap.size 0 _ _ _ hx5
            have fx : w5.frozen? ⟨w.heap.size, 0, none⟩ = false := by simp [World.frozen?, hx5]
            have c1 := hP5.cPos
            have c2 := hP5.cLo
            have c3 := hP5.cBi
            have hbe := X.out.1.trans (hS.below (B := w.heap.size) (by omega) X.out.1.size)
            have ho5 : NodesOwn w5 (w.heap.size + 2) (.slice vo ns.length vc) ns := by
              have hz : w0.heap.size = w.heap.size + 2 := by rw [X.out.2.2]; simp
              have := World.ownsRow.kept hown hS5.grownBy (.inr (fun e => by have := (World.ownsRow.lt hown _ e).1; omega))
              rwa [hz] at this
            clear X hS4 hS5 hS hP4 hown hQe
            go_wp2_with fail
            refine bodyPost_ret (v := .tuple #[.agg #[.slice none 0 0], .int .i64 17]) (by simp [results, Tryz.results118, go_sem, cx]) rfl (RegexPost.of HR.out rfl (World.ownsRow_nil _ _ _ _) ?_)
            first | exact hbe | exact hbe.setCell (Nat.le_refl _) _

          | false =>
            rw [if_neg (by simp)] at hR
            have HR := Lib.hid hR
            have X := Lib.hid (And.intro hb0 (And.intro hx0 hw0))
            clear hR hb0 hx0 hP0 hw0 hlt0 hszl
            go_enter Tryz.func118, Tryz.ntmps118
            go_wp2_with fail
            refine hex.mono ?_
            rintro e w4 ⟨⟨⟨v, rfl, hown⟩, hP4⟩, hS4⟩
            clear hex
            obtain ⟨vo, vc, rfl⟩ := ownRow_shape hown
            have hbk := rblanks_any (w.heap.size + 1) p4 doc false false w4 hP4 hp4 hds
            rw [← hQe] at hbk
            go_wp2_with fail
            refine hbk.mono ?_
            rintro e w5 ⟨⟨v, rfl⟩, hP5, hS5⟩
            clear hbk
            rw [← X.out.2.2] at hS4 hown
            have hS := hS4.trans hS5
            have hx5 := (hS.block w.heap.size (lt_of_block X.out.2.1) (by omega)).trans X.out.2.1
            have cx := cell_of_row w5 w.heap.size 0 _ _ _ hx5
            have fx : w5.frozen? ⟨w.heap.size, 0, none⟩ = false := by simp [World.frozen?, hx5]
            have c1 := hP5.cPos
            have c2 := hP5.cLo
            have c3 := hP5.cBi
            have hbe := X.out.1.trans (hS.below (B := w.heap.size) (by omega) X.out.1.size)
            have ho5 : NodesOwn w5 (w.heap.size + 2) (.slice vo ns.length vc) ns := by
              have hz : w0.heap.size = w.heap.size + 2 := by rw [X.out.2.2]; simp
              have := World.ownsRow.kept hown hS5.grownBy (.inr (fun e => by have := (World.ownsRow.lt hown _ e).1; omega))
              rwa [hz] at this
            clear X hS4 hS5 hS hP4 hown hQe

            go_wp2_with fail
            refine bodyPost_ret (v := .tuple #[.agg #[.slice vo ns.length vc], .int .i64 0]) (by simp [results, Tryz.results118, go_sem, cx]) rfl (RegexPost.of HR.out rfl ?_ (hbe.setCell (Nat.le_refl _) _))
            exact ownRow_down (World.ownsRow.kept (row := some w.heap.size) ho5 ⟨rfl, rfl, rfl, by simp [World.setCell], fun k hk hb => Below.heap_setCell _ _ _ _ (fun e => hb (by rw [e]))⟩ (.inr (fun e => by have := (World.ownsRow.lt ho5 _ e).1; omega))) (by omega)
end Go.Proofs.YtnnbdlmilbcpjaaGreatDoor
