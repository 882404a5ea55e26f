/-
  Layer 8 (schema): the walk of kids.
-/
import Derived.Test.YtnnbdlmilbcpjaaGreatDoorSMemS
namespace Go.Proofs.YtnnbdlmilbcpjaaGreatDoor
open Go.RowKit
set_option linter.unusedVariables false
def intVs (l : List Nat) : List Value := l.map fun k => .int .i64 (k : Nat)
/-- an own row of numbers -/
def IntsOwn (w : World) (B : Nat) (v : Value) (l : List Nat) : Prop := w.ownsRow B 3 1 v l.length (intVs l)
theorem ownsRow_down {w : World} {B B' size n : Nat} {e : TypeId} {v : Value} {xs : List Value} (h : w.ownsRow B e size v n xs) (hb : B' ≤ B) : w.ownsRow B' e size v n xs := by
  refine ⟨h.1, ?_⟩
  rcases h.2 with hn | ⟨g, cap, cur, hv, hg, rest⟩
  · exact .inl hn
  · exact .inr ⟨g, cap, cur, hv, by omega, rest⟩
theorem ownsRow_kind {w : World} {B e e' size size' n n' : Nat} {v v' : Value} {xs xs' : List Value} (h : w.ownsRow B e size v n xs) (h' : w.ownsRow B e' size' v' n' xs') (hne : e ≠ e') : v.ownBlock = none ∨ v.ownBlock ≠ v'.ownBlock := by
  rcases h.2 with ⟨rfl, _⟩ | ⟨g, cap, cur, rfl, _, hg, _⟩
  · exact .inl rfl
  · refine .inr ?_
    rcases h'.2 with ⟨rfl, _⟩ | ⟨g', cap', cur', rfl, _, hg', _⟩
    · simp [Value.ownBlock]
    · simp only [Value.ownBlock]
      intro e1
      injection e1 with e1
      subst e1
      rw [hg] at hg'
      injection hg' with hg'
      injection hg' with _ e2 _
      exact hne e2
def kidOf (ts : List SType) (n : Bytes) : Nat := (placeS ts n).getD 0
theorem kidsS_eq (ts : List SType) (t : SType) : kidsS ts t = (symsS t.nodes).map (kidOf ts) := rfl
set_option maxHeartbeats 2000000 in
set_option maxRecDepth 100000 in
theorem kids_any (ts : List SType) (x : TyV) (sv : Value) (M : Nat) (w : World) (hsv : ∃ o n c, sv = .agg #[.slice o n c]) (h : NodesAt w x.no x.nc x.t.nodes) (hP : PlacesAt w M ts) (hM : M < w.heap.size) (hl : (symsS x.t.nodes).length ≤ 1048576) (hs : ∀ n ∈ x.t.nodes, n.sym.length ≤ 1048576) :
    Calls Tryz.prog 26 #[sv, typeVal x, .map (some M)] w fun e w' => (∃ v, e = .returned v ∧ IntsOwn w' w.heap.size v (kidsS ts x.t)) ∧ Below w.heap.size w w' := by
  obtain ⟨so, sn, sc, rfl⟩ := hsv
  have hsy : ∀ b ∈ symsS x.t.nodes, b.length ≤ 1048576 := fun b hb => by
    obtain ⟨n, hn, rfl⟩ := symsS_mem hb
    exact hs n hn
  obtain ⟨i0, hi, hz0, hz1, hz2⟩ := info_parts info_int
  unfold typeVal typeRow
  have hw2 := fun w2 (hb : Below w.heap.size w w2) => symbols_any x.t.nodes x.no x.nc w2 (h.below hb) hs
  unfold SymsLeft at hw2
  rw [kidsS_eq]
  obtain ⟨ss, hss⟩ : ∃ ss, ss = symsS x.t.nodes := ⟨_, rfl⟩
  rw [← hss] at hw2 hsy hl ⊢
  go_enter Tryz.func26, Tryz.ntmps26
  go_wp2_with fail
  go_must (refine (hw2 _ (((Below.refl _ w).alloc (Nat.le_refl _) _).alloc (by simp) _)).mono ?_)
  rintro e w3 ⟨⟨v, rfl, hown⟩, hb3⟩
  have hbe : Below w.heap.size w w3 := (((Below.refl _ w).alloc (Nat.le_refl _) _).alloc (by simp) _).trans (hb3.mono (by simp; omega))
  obtain ⟨vo, vc, rfl⟩ := ownsRow_shape hown
  obtain ⟨hnl, hin⟩ := wordsIn_of_own hown
  have hown' : WordsOwn w3 w.heap.size (.slice vo ss.length vc) ss := ownsRow_down hown (by simp; omega)
  clear hw2 h hss
  go_wp2_with fail
  go_loopw [7, 14] (fun v i wr => ∃ k : Nat, i = .int .i64 k ∧ k ≤ ss.length ∧ IntsOwn wr w.heap.size v ((ss.take k).map (kidOf ts)) ∧ WordsOwn wr w.heap.size (.slice vo ss.length vc) ss ∧ PlacesAt wr M ts ∧ Below w.heap.size w wr) (fun _ i _ => ss.length - (intOf i).toNat)
  case atStart => exact ⟨0, rfl, Nat.zero_le _, World.ownsRow_nil _ _ _ _, hown', hP.kept (row := none) ⟨hbe.os, hbe.tape, hbe.output, hbe.size, fun k hk _ => hbe.block k hk⟩ (by simp), hbe⟩
  case round =>
    obtain ⟨k, rfl, hk, hro, hws, hPr, hbr⟩ := hrel
    obtain ⟨_, hin⟩ := wordsIn_of_own hws
    by_cases hlt : k < ss.length
    · have hdk : decide ((k : Int) < (ss.length : Int)) = true := by rw [decide_eq_true_eq]; omega
      have hki : (k : Int) < (ss.length : Int) := by omega
      obtain ⟨b, hx⟩ : ∃ b, ss[k]? = some b := ⟨_, List.getElem?_eq_getElem hlt⟩
      obtain ⟨g, off, rfl, hgl, x0⟩ := hin.at hx
      have hsn := hsy b (List.mem_of_getElem? hx)
      have hkey : keyOf Tryz.prog 9 (.string ⟨b.toArray⟩) = some (.string b) := by
        have := WideMaps.keyOf_string_mk Tryz.underlying9 (s := ⟨b.toArray⟩) (by rw [Lib.size_eq]; show b.length ≤ maxLen; unfold maxLen; omega)
        simpa using this
      have hzero : ∀ wz, (zeroValue 3).run Tryz.prog wz = .ok (.int .i64 0) wz := fun wz => by kernel_rfl
      obtain ⟨D, n, hD, hn, hmap⟩ := hPr
      have hlk : ((ss.take k).map (kidOf ts)).length = k := by rw [List.length_map, List.length_take]; omega
      have htk : (ss.take (k + 1)).map (kidOf ts) = (ss.take k).map (kidOf ts) ++ [kidOf ts b] := by rw [List.take_add_one, hx]; simp
      have hat0 := hD.at0 b
      go_wp2_with (first
        | (at_lookup; go_must (refine wpList_lookup_own_int _ rfl _ _ 61 rfl 9 3 .i64 (Maps.string_keyed Tryz.underlying9) Tryz.underlying61 Tryz.underlying3 (hzero _) M _ D rfl hmap _ _ rfl hkey ?_); intro c hat hwc; obtain rfl : c = ((kidOf ts b : Nat) : Int) := by { rw [hat0] at hat; injection hat with hat; injection hat with _ hat; exact hat.symm })
        | (at_builtin; go_must (refine wpList_append_own _ rfl _ _ 35 rfl w.heap.size 3 i0 (.int .i64 0) 1 8 Tryz.underlying35 hi hz0 hz1 hz2 rfl (by decide) _ _ _ rfl (World.ownsRow.alloc hro _) ⟨wr.heap.size, 0, none⟩ 1 1 [.int .i64 (kidOf ts b : Nat)] rfl rfl (cells_new _ [.int .i64 (kidOf ts b : Nat)] _ _ rfl) (fun z hz => by simp at hz; subst hz; rfl) (by unfold maxLen; omega) (by omega) (by have := hbr.size; simp; omega) ?_); intro v1 w4 hown1 hg1 hnil1)
        | go_in)
      have hws1 := World.ownsRow.alloc hws (.cells #[.int .i64 (kidOf ts b : Nat)] 3)
      have hro1 := World.ownsRow.alloc hro (.cells #[.int .i64 (kidOf ts b : Nat)] 3)
      have hnM : ∀ q : Option Nat, q = u7.ownBlock → some M ≠ q := fun q e1 e2 => by
        subst e1
        have := (World.ownsRow.lt hro M e2.symm).1
        omega
      go_roundw
      case rel => exact ⟨k + 1, by go_num, by omega, by rw [htk]; unfold IntsOwn; simpa [intVs, hlk] using hown1, World.ownsRow.kept hws1 hg1 (ownsRow_kind hws1 hro1 (by decide)), ⟨D, n, hD, hn, (hmap.kept (World.grownBy_alloc wr _ none) (by simp)).kept hg1 (hnM _ rfl)⟩, (hbr.alloc hbr.size _).grown hg1 (by have := hbr.size; simp; omega) (fun k e => (World.ownsRow.lt hro k e).1)⟩
      case measure => simp [intOf]; omega
    · have hdk : decide ((k : Int) < (ss.length : Int)) = false := by rw [decide_eq_false_iff_not]; omega
      rw [List.take_of_length_le (by omega)] at hro
      go_wp2_with fail
      go_ret
      exact ⟨⟨_, rfl, hro⟩, hbr⟩
end Go.Proofs.YtnnbdlmilbcpjaaGreatDoor
