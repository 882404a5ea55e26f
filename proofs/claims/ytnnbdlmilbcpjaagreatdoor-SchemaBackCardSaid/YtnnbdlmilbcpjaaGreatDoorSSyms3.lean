/-
  Layer 7 (regex): the walk of Symbols.
-/
import Derived.Test.YtnnbdlmilbcpjaaGreatDoorSSyms2
namespace Go.Proofs.YtnnbdlmilbcpjaaGreatDoor
open Go.RowKit
set_option linter.unusedVariables false
set_option maxHeartbeats 2000000 in
set_option maxRecDepth 100000 in
theorem symbols_any (l : List SNode) (o : Option Addr) (cap : Nat) (w : World) (h : NodesAt w o cap l) (hs : ∀ n ∈ l, n.sym.length ≤ 1048576) :
    Calls Tryz.prog 15 #[.agg #[.slice o l.length cap]] w (SymsLeft l w) := by
  obtain ⟨R, hR⟩ : ∃ R, R = symsS l := ⟨_, rfl⟩
  have hlm := h.2.1
  have hcm := h.2.2.1
  unfold maxLen at hcm
  have hb0 : Below w.heap.size w (w.alloc (.cells #[.slice o l.length cap] 45)) := (Below.refl _ w).alloc (Nat.le_refl _) _
  have hbx := heap_alloc_new w (.cells #[.slice o l.length cap] 45)
  have hck := regexCheck_any l o cap (w.alloc (.cells #[.slice o l.length cap] 45)) (h.below hb0) hs
  have hz0 : (w.alloc (.cells #[.slice o l.length cap] 45)).heap.size = w.heap.size + 1 := World.size_alloc w _
  obtain ⟨E, hE⟩ : ∃ E, E = regexE l := ⟨_, rfl⟩
  rw [← hE] at hck
  by_cases h0 : E = 0
  · have hsy : symsS l = compactB ((symsOf l).mergeSort leS) := by unfold symsS; rw [if_pos (by rw [← hE]; exact h0)]
    have hl4 : l.length ≤ 1024 := by
      apply Classical.byContradiction
      intro hc
      unfold regexE at hE
      rw [if_pos (by omega), h0] at hE
      cases hE
    subst h0
    have Hsy := Lib.hid hsy
    clear hE hsy hR
    obtain ⟨i0, hi, hz1, hz2, hz3⟩ := info_parts info_str
    go_enter Tryz.func15, Tryz.ntmps15
    go_wp2_with fail
    refine hck.mono ?_
    rintro e w2 ⟨rfl, hb2⟩
    clear hck
    have hbe := hb0.trans (hb2.mono hb0.size)
    have hbx2 := (hb2.block w.heap.size (by omega)).trans hbx
    have cx := cell_of_row w2 w.heap.size 0 _ _ _ hbx2
    clear hbx hbx2 hb0 hb2 hz0
    go_wp2_with fail
    go_loopw [3, 12] (fun v i wr => ∃ k : Nat, i = .int .i64 k ∧ k ≤ l.length ∧ WordsOwn wr w.heap.size v (symsOf (l.take k)) ∧ Below w.heap.size w wr) (fun _ i _ => l.length - (intOf i).toNat)
    case atStart => exact ⟨0, rfl, Nat.zero_le _, World.ownsRow_nil _ _ _ _, hbe⟩
    case round =>
      obtain ⟨k, rfl, hk, hown, hbr⟩ := hrel
      by_cases hlt : k < l.length
      · have hdk : decide ((k : Int) < (l.length : Int)) = true := by rw [decide_eq_true_eq]; omega
        have hki : (k : Int) < (l.length : Int) := by omega
        obtain ⟨n, hx⟩ : ∃ n, l[k]? = some n := ⟨_, List.getElem?_eq_getElem hlt⟩
        obtain ⟨b, off, rfl, hbl, x0, x1, x2, x3⟩ := (h.below hbr).at hx
        have hsn := symsOf_snoc hx
        have hle := symsOf_len (l.take k)
        rw [List.length_take] at hle
        obtain ⟨op, sym, a, b2⟩ := n
        simp only at x0 x1 x2 x3 hsn
        have hb3 := hbr.alloc hbr.size (.cells #[.int .i64 op, .string ⟨sym.toArray⟩, .int .i64 a, .int .i64 b2] 70)
        obtain ⟨ss, hss⟩ : ∃ ss, ss = symsOf (l.take k) := ⟨_, rfl⟩
        rw [← hss] at hown hle hsn
        have hown1 : WordsOwn (wr.alloc (.cells #[.int .i64 op, .string ⟨sym.toArray⟩, .int .i64 a, .int .i64 b2] 70)) w.heap.size u3 ss := World.ownsRow.alloc hown _
        clear hx
        by_cases ho : op = 2
        · subst ho
          rw [if_pos rfl] at hsn
          have Hsn := Lib.hid hsn
          clear hsn hss
          go_wp2_with (first
            | (at_builtin; go_must (refine wpList_append_own _ rfl _ _ 37 rfl w.heap.size 9 i0 (.string ⟨#[]⟩) 1 16 Tryz.underlying37 hi hz1 hz2 hz3 rfl (by decide) _ _ _ rfl (World.ownsRow.alloc hown1 _) ⟨wr.heap.size + 1, 0, none⟩ 1 1 [.string ⟨sym.toArray⟩] rfl rfl (cells_new _ [.string ⟨sym.toArray⟩] _ _ (by simp)) (fun z hz => by simp at hz; subst hz; rfl) (by unfold maxLen; omega) (by omega) (by have := hbr.size; simp; omega) ?_); intro v1 w3 hown2 hg1 hnil1)
            | go_in)
          go_roundw
          case rel => exact ⟨k + 1, by go_num, by omega, by rw [Hsn.out]; unfold WordsOwn; simpa using hown2, ((hb3.alloc hb3.size _).grown hg1 (by have := hbr.size; simp; omega) (fun k e => (World.ownsRow.lt hown1 k e).1))⟩
          case measure => simp [intOf]; omega
        · have bo : (op == 2) = false := by rw [beq_eq_false_iff_ne]; exact ho
          rw [if_neg ho, List.append_nil] at hsn
          have Hsn := Lib.hid hsn
          clear hsn hss
          go_wp2_with fail
          go_roundw
          case rel => exact ⟨k + 1, by go_num, by omega, by rw [Hsn.out]; exact hown1, hb3⟩
          case measure => simp [intOf]; omega
      · have hdk : decide ((k : Int) < (l.length : Int)) = false := by rw [decide_eq_false_iff_not]; omega
        rw [List.take_of_length_le (by omega)] at hown
        have hle := symsOf_len l
        obtain ⟨ss, hss⟩ : ∃ ss, ss = symsOf l := ⟨_, rfl⟩
        have hsy := Hsy.out
        rw [← hss] at hown hle hsy
        have Hsy2 := Lib.hid hsy
        clear hsy hss Hsy
        have e30 : ss.length = 0 ∨ 0 < ss.length := by omega
        rcases e30 with e30 | e30
        · obtain rfl := List.eq_nil_of_length_eq_zero e30
          obtain ⟨vo, vc, rfl⟩ := ownsRow_shape hown
          have e1 : ([] : List Bytes).length = 0 := rfl
          rw [e1] at hown
          have ht := Tryz.slices_Sort_string_none vo vc wr
          have hc := Tryz.slices_Compact_string_empty vo vc wr
          go_wp2_with fail
          refine ht.mono ?_
          rintro e w3 ⟨rfl, rfl⟩
          clear ht
          go_wp2_with fail
          refine hc.mono ?_
          rintro e w3 ⟨rfl, rfl⟩
          clear hc
          go_wp2_with fail
          go_ret
          have e5 : compactB (([] : List Bytes).mergeSort leS) = [] := by simp [compactB]
          exact ⟨⟨.slice vo 0 vc, rfl, by rw [Hsy2.out, e5]; exact hown⟩, hbr⟩
        · have hnn : u3 ≠ .slice none 0 0 := by
            intro he
            rcases hown.2 with ⟨_, hn⟩ | ⟨g, c2, cur, hv, _⟩
            · omega
            · rw [he] at hv; cases hv
          obtain ⟨g, c2, rfl, hbg, hgl, hnc, hcm2, hlen, hH⟩ := Lib.holds_of_ownsRow hown hnn
          have hsort := Tryz.slices_Sort_string g 0 c2 ss wr hH hgl (by omega)
          have X := Lib.hid (And.intro hown (And.intro hH hnc))
          clear hown hH hnn
          obtain ⟨ts, hts⟩ : ∃ ts, ts = ss.mergeSort leS := ⟨_, rfl⟩
          have hl2 : ts.length = ss.length := by rw [hts]; exact List.length_mergeSort ss
          rw [← leS_eq, ← hts] at hsort
          have Hts := Lib.hid hts
          clear hts
          go_wp2_with fail
          refine hsort.mono ?_
          rintro e w3 ⟨rfl, nn, os, rfl⟩
          clear hsort
          have hH2 : Sort.Holds encStr (Sort.grow (Sort.putRow encStr (Sort.ahead wr nn) g 0 ts.toArray) os) g 0 ts.toArray :=
            Sort.holds_grow encStr _ os g 0 _ (by simpa [Sort.putRow, Sort.mapBlock, Sort.ahead] using hgl) (Sort.holds_putRow encStr _ g 0 _ _ (Sort.holds_ahead encStr wr nn g 0 _ X.out.2.1) (by simp [hl2]))
          have hcomp := Tryz.slices_Compact_string g 0 c2 ts _ hH2 (by omega) (by omega)
          rw [hl2] at hcomp
          clear hH2
          go_wp2_with fail
          refine hcomp.mono ?_
          rintro e w3 ⟨rfl, q, rfl⟩
          clear hcomp
          go_wp2_with fail
          go_ret
          rw [← hl2]
          exact symsLeft_of X.out.1 hbr hbg Hts.out (by rw [Hsy2.out, compact_eq, Hts.out])
  · have hne : (E == 0) = false := by rw [beq_eq_false_iff_ne]; exact h0
    have hsy : symsS l = [] := by unfold symsS; rw [if_neg (by rw [← hE]; exact h0)]
    have Hsy := Lib.hid hsy
    clear hE hsy hR
    go_enter Tryz.func15, Tryz.ntmps15
    go_wp2_with fail
    refine hck.mono ?_
    rintro e w2 ⟨rfl, hb2⟩
    clear hck
    have hbe := hb0.trans (hb2.mono hb0.size)
    go_wp2_with fail
    go_ret
    exact ⟨⟨_, rfl, by rw [Hsy.out]; exact World.ownsRow_nil _ _ _ _⟩, hbe⟩
end Go.Proofs.YtnnbdlmilbcpjaaGreatDoor
