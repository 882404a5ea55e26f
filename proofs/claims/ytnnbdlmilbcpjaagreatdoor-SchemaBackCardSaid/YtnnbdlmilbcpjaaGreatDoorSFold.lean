/-
  Layer 7 (regex): fold: its walk. Conditions: each part has at most 1024 nodes, whose parts stand ahead.
-/
import Derived.Test.YtnnbdlmilbcpjaaGreatDoorSMoved
import Derived.Test.YtnnbdlmilbcpjaaGreatDoorSFoldP
namespace Go.Proofs.YtnnbdlmilbcpjaaGreatDoor
open Go.RowKit
set_option linter.unusedVariables false
/-- a part, and where it lies -/
structure PV where
  l : List SNode
  o : Option Addr
  c : Nat
def pvVal (p : PV) : Value := .slice p.o p.l.length p.c
/-- a slice leads to these parts -/
def PartsAt (w : World) (o : Option Addr) (cap : Nat) (ps : List PV) : Prop := RowAt w o ps.length cap 1 (ps.map pvVal) ∧ ∀ p ∈ ps, NodesAt w p.o p.c p.l
theorem PartsAt.below {w w' : World} {o : Option Addr} {cap : Nat} {l : List PV} (h : PartsAt w o cap l) (hb : Below w.heap.size w w') : PartsAt w' o cap l := ⟨h.1.below hb, fun p hp => (h.2 p hp).below hb⟩
theorem PartsAt.at {w : World} {o : Option Addr} {cap : Nat} {l : List PV} (h : PartsAt w o cap l) {k : Nat} {x : PV} (hx : l[k]? = some x) :
    ∃ g off, o = some ⟨g, off, none⟩ ∧ g < w.heap.size ∧ w.cell? ⟨g, off + k, none⟩ = some (.slice x.o x.l.length x.c) := by
  have hk := (List.getElem?_eq_some_iff.1 hx).1
  obtain ⟨g, off, e, hlt, hc⟩ := h.1.2.2.2 (by omega)
  exact ⟨g, off, e, hlt, hc k _ (by rw [List.getElem?_map, hx]; rfl)⟩
/-- what fold owes -/
def FoldPost (r : Option (List SNode)) (w : World) (e : Ending) (w' : World) : Prop :=
  (match r with
   | none => e = .returned (.tuple #[.slice none 0 0, .bool false])
   | some l => ∃ v, e = .returned (.tuple #[v, .bool true]) ∧ NodesOwn w' w.heap.size v l) ∧ Below w.heap.size w w'
theorem FoldPost.none {r : Option (List SNode)} {w w' : World} {e : Ending} (h : r = .none) (he : e = .returned (.tuple #[.slice .none 0 0, .bool false])) (hb : Below w.heap.size w w') : FoldPost r w e w' := by
  subst h; exact ⟨he, hb⟩
theorem FoldPost.some {r : Option (List SNode)} {l : List SNode} {v : Value} {w w' : World} {e : Ending} (h : r = .some l) (he : e = .returned (.tuple #[v, .bool true])) (ho : NodesOwn w' w.heap.size v l) (hb : Below w.heap.size w w') : FoldPost r w e w' := by
  subst h; exact ⟨⟨v, he, ho⟩, hb⟩
theorem foldS_big {op none_ : Int} {ps : List (List SNode)} (h : ps ≠ []) (hl : 1024 < ps.length - 1 + sumS ps) : foldS op none_ ps = none := by unfold foldS; rw [if_neg h, if_pos hl]
theorem foldS_ok {op none_ : Int} {ps : List (List SNode)} (h : ps ≠ []) (hl : ¬ 1024 < ps.length - 1 + sumS ps) : foldS op none_ ps = some (foldGo op 0 [] ps) := by unfold foldS; rw [if_neg h, if_neg hl]
theorem movedRow_len (l : List SNode) (k by_ : Nat) (h : k ≤ l.length) : ((l.take k).map (movedS by_)).length = k := by simp; omega
set_option maxHeartbeats 4000000 in
set_option maxRecDepth 100000 in
theorem fold_any (op none_ : Int) (ps : List PV) (o : Option Addr) (cap : Nat) (w : World) (h : PartsAt w o cap ps) (hl : ps.length ≤ 131072) (hp : ∀ p ∈ ps, Ahead p.l ∧ p.l.length ≤ 2048) (h1 : 1 ≤ ps.length) :
    Calls Tryz.prog 157 #[.int .i64 op, .int .i64 none_, .slice o ps.length cap] w (FoldPost (foldS op none_ (ps.map PV.l)) w) := by
  obtain ⟨R, hR⟩ : ∃ R, R = foldS op none_ (ps.map PV.l) := ⟨_, rfl⟩
  rw [← hR]
  have hne : ps.map PV.l ≠ [] := by cases ps with | nil => simp at h1 | cons a t => simp
  have hlm := h.1.2.1
  have hcm := h.1.2.2.1
  unfold maxLen at hcm
  have h10 : ((ps.length : Int) == 0) = false := by rw [beq_eq_false_iff_ne]; omega
  have hlen : (ps.map PV.l).length = ps.length := List.length_map _
  have HR := Lib.hid hR
  have Hne := Lib.hid hne
  have Hp := Lib.hid hp
  have Hlen := Lib.hid hlen
  clear hR hne hp hlen
  go_enter Tryz.func157, Tryz.ntmps157
  go_wp2_with fail
  go_loop [8, 28] (fun s i => ∃ k m : Nat, i = .int .i64 k ∧ k ≤ ps.length ∧ s = .int .i64 m ∧ m ≤ 2048 * k + ps.length ∧ Hid (m = ps.length - 1 + sumS ((ps.map PV.l).take k))) (fun _ i => ps.length - (intOf i).toNat)
  case atStart => exact ⟨0, ps.length - 1, rfl, Nat.zero_le _, by congr 1; omega, by omega, by show _ = _; simp [sumS]⟩
  case round =>
    obtain ⟨k, m, rfl, hk, rfl, hm, Hm⟩ := hrel
    by_cases hlt : k < ps.length
    · have hdk : decide ((k : Int) < (ps.length : Int)) = true := by rw [decide_eq_true_eq]; omega
      have hki : (k : Int) < (ps.length : Int) := by omega
      obtain ⟨x, hx⟩ : ∃ n, ps[k]? = some n := ⟨_, List.getElem?_eq_getElem hlt⟩
      obtain ⟨b, off, rfl, hbl, x0⟩ := h.at hx
      have hxl := (Hp.out x (List.mem_of_getElem? hx)).2
      have hst : m + x.l.length = ps.length - 1 + sumS ((ps.map PV.l).take (k + 1)) := by
        rw [sumS_take (ps.map PV.l) k x.l (by rw [List.getElem?_map, hx]; rfl)]
        have := Hm.out
        omega
      have Hst := Lib.hid hst
      clear hst hx
      go_wp2_with fail
      go_round
      case rel => exact ⟨k + 1, m + x.l.length, by go_num, by omega, by go_num, by omega, Hst.out⟩
      case measure => simp [intOf]; omega
    · have hdk : decide ((k : Int) < (ps.length : Int)) = false := by rw [decide_eq_false_iff_not]; omega
      have hm2 : m = ps.length - 1 + sumS (ps.map PV.l) := by
        have := Hm.out
        rwa [List.take_of_length_le (by rw [Hlen.out]; omega)] at this
      by_cases hbig : 1024 < m
      · have hd : decide ((m : Int) > 1024) = true := by rw [decide_eq_true_eq]; omega
        have hRe : R = none := by rw [HR.out]; exact foldS_big Hne.out (by rw [Hlen.out]; omega)
        have HRe := Lib.hid hRe
        clear hRe hm2
        go_wp2_with fail
        go_ret2
        exact FoldPost.none HRe.out rfl (Below.refl _ _)
      · have hd : decide ((m : Int) > 1024) = false := by rw [decide_eq_false_iff_not]; omega
        have hRe : R = some (foldGo op 0 [] (ps.map PV.l)) := by rw [HR.out]; exact foldS_ok Hne.out (by rw [Hlen.out]; omega)
        have HRe := Lib.hid hRe
        have hlens : ∀ k, (foldGo op 0 [] ((ps.map PV.l).take k)).length ≤ 3072 := fun k => by
          have e1 := foldGo_len op ((ps.map PV.l).take k) 0 []
          have e2 := sumS_take_le (ps.map PV.l) k
          rw [List.length_take, Hlen.out] at e1
          simp only [List.length_nil] at e1
          omega
        have Hlens := Lib.hid hlens
        obtain ⟨i0, hi, hz0, hz1, hz2⟩ := info_parts info_node
        clear hRe hm2 hlens
        go_wp2_with fail
        go_loopw [11, 41] (fun v i wr => ∃ k : Nat, i = .int .i64 k ∧ k ≤ ps.length ∧ NodesOwn wr w.heap.size v (foldGo op 0 [] ((ps.map PV.l).take k)) ∧ Below w.heap.size w wr) (fun _ i _ => ps.length - (intOf i).toNat)
        case atStart => exact ⟨0, rfl, Nat.zero_le _, World.ownsRow_nil _ _ _ _, Below.refl _ _⟩
        case round =>
          obtain ⟨k, rfl, hk, hown, hbr⟩ := hrel
          by_cases hlt : k < ps.length
          · have hdk : decide ((k : Int) < (ps.length : Int)) = true := by rw [decide_eq_true_eq]; omega
            have hki : (k : Int) < (ps.length : Int) := by omega
            obtain ⟨x, hx⟩ : ∃ n, ps[k]? = some n := ⟨_, List.getElem?_eq_getElem hlt⟩
            obtain ⟨b, off, rfl, hbl, x0⟩ := (h.below hbr).at hx
            have hxp := Hp.out x (List.mem_of_getElem? hx)
            have hna := (h.2 x (List.mem_of_getElem? hx)).below hbr
            have htk := foldGo_take op (ps.map PV.l) k x.l (by rw [List.getElem?_map, hx]; rfl)
            have hbl2 := Hlens.out k
            have hbl3 := Hlens.out (k + 1)
            rw [htk] at hbl3
            generalize foldGo op 0 [] ((ps.map PV.l).take k) = out at hown htk hbl2 hbl3
            have Htk := Lib.hid htk
            have Hxp := Lib.hid hxp.1
            have hxl := hxp.2
            obtain ⟨vo, vc, rfl⟩ := ownRow_shape hown
            have hx2 := h.2 x (List.mem_of_getElem? hx)
            clear hx hna hxp hm
            obtain ⟨xl, xo, xc⟩ := x
            simp only at hx2 hxl Htk Hxp x0 hbl3
            obtain ⟨wo, rfl⟩ : ∃ wo : World, wo = wr := ⟨_, rfl⟩
            go_wp2_with fail
            go_loopw [11, 50] (fun v i wq => ∃ j : Nat, i = .int .i64 j ∧ j ≤ xl.length ∧ NodesOwn wq w.heap.size v (out ++ (xl.take j).map (movedS out.length)) ∧ Below w.heap.size w wq) (fun _ i _ => xl.length - (intOf i).toNat)
            case atStart => exact ⟨0, rfl, Nat.zero_le _, by simpa using hown, hbr⟩
            case round =>
              obtain ⟨j, rfl, hj, hrow, hbq⟩ := hrel
              clear x0 hown
              by_cases hlj : j < xl.length
              · have hdj : decide ((j : Int) < (xl.length : Int)) = true := by rw [decide_eq_true_eq]; omega
                have hji : (j : Int) < (xl.length : Int) := by omega
                obtain ⟨n, hn⟩ : ∃ n, xl[j]? = some n := ⟨_, List.getElem?_eq_getElem hlj⟩
                obtain ⟨g, off2, rfl, hgl, n0, n1, n2, n3⟩ := (hx2.below hbq).at hn
                have hsn : (xl.take (j + 1)).map (movedS out.length) = (xl.take j).map (movedS out.length) ++ [movedS out.length n] := by rw [List.take_add_one, hn]; simp
                have hah := Hxp.out j n hn
                have hmv := fun w1 => moved_any n out.length w1 (by omega) (by omega) (by omega)
                obtain ⟨m', hm'⟩ : ∃ m', m' = movedS out.length n := ⟨_, rfl⟩
                rw [← hm'] at hmv hsn
                unfold nodeVal nodeRow at hmv
                obtain ⟨op1, sym1, a1, b1⟩ := n
                have hrl : (out ++ (xl.take j).map (movedS out.length)).length = out.length + j := by rw [List.length_append, movedRow_len _ _ _ (by omega)]
                have hro : out ++ ((xl.take j).map (movedS out.length) ++ [m']) = (out ++ (xl.take j).map (movedS out.length)) ++ [m'] := by simp
                have Hsn := Lib.hid hsn
                have Hro := Lib.hid hro
                generalize out ++ (xl.take j).map (movedS out.length) = row at hrow Hro hrl
                have hrl2 : row.length ≤ 8192 := by omega
                obtain ⟨op2, sym2, a2, b2⟩ := m'
                simp only at hmv n0 n1 n2 n3
                have hb4 := hbq.alloc hbq.size (.cells #[.int .i64 op1, .string ⟨sym1.toArray⟩, .int .i64 a1, .int .i64 b1] 70)
                have hrow4 : NodesOwn (wr.alloc (.cells #[.int .i64 op1, .string ⟨sym1.toArray⟩, .int .i64 a1, .int .i64 b1] 70)) w.heap.size u11 row := World.ownsRow.alloc hrow _
                clear hsn hro hn hm' hah hrow hrl
                go_wp2_with fail
                refine (hmv _).mono ?_
                rintro e w5 ⟨rfl, hb5⟩
                have hrow5 : w5.ownsRow w.heap.size 70 4 u11 row.length (row.flatMap nodeRow) := World.ownsRow.kept (row := none) hrow4 ⟨hb5.os, hb5.tape, hb5.output, hb5.size, fun k hk _ => hb5.block k hk⟩ (by cases u11.ownBlock <;> simp)
                have hbe5 := hb4.trans (hb5.mono hb4.size)
                clear hmv hrow4 hb4 hb5 hbq n0 n1 n2 n3
                go_wp2_with (first
                  | (at_builtin; go_must (refine wpList_append_own _ rfl _ _ 43 rfl w.heap.size 70 i0 (.agg #[.int .i64 0, .string ⟨#[]⟩, .int .i64 0, .int .i64 0]) 4 40 Tryz.underlying43 hi hz0 hz1 hz2 rfl (by decide) _ _ _ rfl (World.ownsRow.alloc hrow5 _) ⟨w5.heap.size, 0, none⟩ 1 1 [.int .i64 op2, .string ⟨sym2.toArray⟩, .int .i64 a2, .int .i64 b2] rfl rfl (row_cells_new _ [.int .i64 op2, .string ⟨sym2.toArray⟩, .int .i64 a2, .int .i64 b2] _ _ rfl) (fun z hz => by simp at hz; rcases hz with rfl | rfl | rfl | rfl <;> rfl) (by unfold maxLen; omega) (by omega) (by have := hbe5.size; simp; omega) ?_); intro v1 w6 hown2 hg1 hnil1)
                  | go_in)
                go_roundw
                case rel => exact ⟨j + 1, by go_num, by omega, by rw [Hsn.out, Hro.out]; exact nodesOwn_snoc hown2, (hbe5.alloc hbe5.size _).grown hg1 (by have := hbe5.size; simp; omega) (fun k e => (World.ownsRow.lt hrow5 k e).1)⟩
                case measure => simp [intOf]; omega
              · have hdj : decide ((j : Int) < (xl.length : Int)) = false := by rw [decide_eq_false_iff_not]; omega
                rw [List.take_of_length_le (by omega)] at hrow
                unfold stepF at Htk
                rcases Nat.eq_zero_or_pos k with h0 | h0
                · subst h0
                  have htk := Htk.out
                  rw [if_pos rfl] at htk
                  have Htk2 := Lib.hid htk
                  clear htk Htk
                  go_wp2_with fail
                  go_roundw
                  case rel => exact ⟨1, rfl, by omega, by rw [Htk2.out]; exact hrow, hbq⟩
                  case measure => simp [intOf]; omega
                · have hk0 : decide ((k : Int) > 0) = true := by rw [decide_eq_true_eq]; omega
                  have htk := Htk.out
                  rw [if_neg (by omega)] at htk
                  have hlr : (out ++ xl.map (movedS out.length)).length ≤ 8192 := by rw [List.length_append, List.length_map]; omega
                  have Htk2 := Lib.hid htk
                  generalize out ++ xl.map (movedS out.length) = row at hrow Htk2 hlr
                  unfold NodesOwn at hrow
                  obtain ⟨ro, rc, rfl⟩ := ownRow_shape hrow
                  clear htk Htk
                  go_wp2_with (first
                    | (at_builtin; go_must (refine wpList_append_own _ rfl _ _ 43 rfl w.heap.size 70 i0 (.agg #[.int .i64 0, .string ⟨#[]⟩, .int .i64 0, .int .i64 0]) 4 40 Tryz.underlying43 hi hz0 hz1 hz2 rfl (by decide) _ _ _ rfl (World.ownsRow.alloc hrow _) ⟨wr.heap.size, 0, none⟩ 1 1 [.int .i64 op, .string ⟨#[]⟩, .int .i64 ((out.length : Int) - 1), .int .i64 ((row.length : Int) - 1)] rfl rfl (row_cells_new _ [.int .i64 op, .string ⟨#[]⟩, .int .i64 ((out.length : Int) - 1), .int .i64 ((row.length : Int) - 1)] _ _ rfl) (fun z hz => by simp at hz; rcases hz with rfl | rfl | rfl | rfl <;> rfl) (by unfold maxLen; omega) (by omega) (by have := hbq.size; simp; omega) ?_); intro v1 w6 hown2 hg1 hnil1)
                    | go_in)
                  go_roundw
                  case rel => exact ⟨k + 1, by go_num, by omega, by rw [Htk2.out]; exact nodesOwn_snoc hown2, (hbq.alloc hbq.size _).grown hg1 (by have := hbq.size; simp; omega) (fun k e => (World.ownsRow.lt hrow k e).1)⟩
                  case measure => simp [intOf]; omega
          · have hdk : decide ((k : Int) < (ps.length : Int)) = false := by rw [decide_eq_false_iff_not]; omega
            rw [List.take_of_length_le (by rw [Hlen.out]; omega)] at hown
            go_wp2_with fail
            go_ret2
            exact FoldPost.some HRe.out rfl hown hbr
end Go.Proofs.YtnnbdlmilbcpjaaGreatDoor
