/-
  The document's answer, layer 2: which texts are names: its walk. It leaves the world as it is. Condition: the text is no longer than a machine's.
  The document's answer, layer 7: what is wrong with nodes: its walk. Conditions: the nodes are laid; their words are no longer than a megabyte.
  The document's answer, layer 7: what is wrong with nodes: its walk. Conditions: the nodes are laid; their words are no longer than a megabyte.
  Layers 7 and 9: a content and a schema as the document's answer has them (Plain): the walks. Conditions: what comes in is laid, and bounded.
  The document's answer, layer 9: where a type is, whether a list has a text, whether a type's names are names, which types stand in a content, whether two of them have one label, whether one has a key: the walks. Conditions: what comes in is laid, and bounded.
  The document's answer, layer 9: which types stand in a content, whether two of them have one label, whether one has a key: the walks. Conditions: what comes in is laid, and bounded.
  The document's answer, layer 9: what is wrong with types (shape, Check): the walks. Conditions: what comes in is laid, and bounded.
  The document's answer, layer 9: what is wrong with types (Check): its walk. Conditions: what comes in is laid, and bounded.
  Layer 9 (schema): the document's answer and the program's agree: the plain law of SchemaFinds. No condition.
  Layer 9 (schema): SchemaFinds: its walk. Condition: the schema is laid.
-/
import Derived.Test.YtnnbdlmilbcpjaaGreatDoorSRegex2
import Derived.Test.YtnnbdlmilbcpjaaGreatDoorSKidsL
import Derived.Deep.RegionHeld3
import Derived.Deep.AppendLies
namespace Go.Proofs.YtnnbdlmilbcpjaaGreatDoor
open Go.RowKit
set_option linter.unusedVariables false
/-- a byte may stand at a place of a name -/
def nameAt (k : Nat) (c : Int) : Bool := if k = 0 then letterB c else partB c
theorem isName_iff (l : Bytes) : isName l = true ↔ (1 ≤ l.length ∧ l.length ≤ 64) ∧ (∀ k c, l[k]? = some c → nameAt k (c.toNat : Nat) = true) := by
  unfold isName
  simp only [Bool.and_eq_true, decide_eq_true_eq]
  constructor
  · rintro ⟨⟨h1, h2⟩, h3⟩
    refine ⟨h1, fun k c hc => ?_⟩
    unfold nameAt
    by_cases hk : k = 0
    · subst hk
      rw [if_pos rfl]
      rw [List.headD_eq_head?_getD, List.head?_eq_getElem?, hc] at h2
      exact h2
    · rw [if_neg hk]
      unfold allB at h3
      rw [List.all_eq_true] at h3
      exact h3 c (List.mem_of_getElem? hc)
  · rintro ⟨h1, h2⟩
    refine ⟨⟨h1, ?_⟩, ?_⟩
    · have := h2 0 l[0] (List.getElem?_eq_getElem (by omega))
      rw [List.headD_eq_head?_getD, List.head?_eq_getElem?, List.getElem?_eq_getElem (by omega)]
      exact this
    · unfold allB
      rw [List.all_eq_true]
      intro c hc
      obtain ⟨k, hk⟩ := List.mem_iff_getElem?.1 hc
      have := h2 k c hk
      unfold nameAt at this
      split at this
      · unfold partB; rw [this]; rfl
      · exact this
theorem partB_iff (c : Int) : partB c = decide ((97 ≤ c ∧ c ≤ 122) ∨ (65 ≤ c ∧ c ≤ 90) ∨ c = 95 ∨ (48 ≤ c ∧ c ≤ 57) ∨ c = 45 ∨ c = 46) := by
  rw [Bool.eq_iff_iff]; simp [partB, letterB, decB]; omega
set_option maxHeartbeats 4000000 in
set_option maxRecDepth 100000 in
theorem refIs_any (s : ByteArray) (w : World) (hs : s.size ≤ 9223372036854775807) :
    Calls Tryz.prog 40 #[.string s] w fun e w' => e = .returned (.bool (isName s.data.toList)) ∧ w = w' := by
  have hlen : s.data.toList.length = s.size := (Lib.size_eq s).symm
  have hp := isName_iff s.data.toList
  rw [hlen] at hp
  generalize isName s.data.toList = R at hp
  have Hp := Lib.hid hp
  have Hlen := Lib.hid hlen
  clear hp hlen
  go_enter Tryz.func40, Tryz.ntmps40
  go_wp2_with fail
  go_loop [3] (fun i => ∃ k : Nat, i = .int .i64 k ∧ k ≤ s.size ∧ Hid (∀ j c, j < k → s.data.toList[j]? = some c → nameAt j (c.toNat : Nat) = true)) (fun i => s.size - (intOf i).toNat)
  case atStart => exact ⟨0, rfl, Nat.zero_le _, fun j c hj => absurd hj (by omega)⟩
  case round =>
    obtain ⟨k, rfl, hk, Hh⟩ := hrel
    by_cases hlt : k < s.size
    · have hdk : decide ((k : Int) < (s.size : Int)) = true := by rw [decide_eq_true_eq]; omega
      have hget : s.data.toList[k]? = some s[k] := Lib.data_getElem? s k hlt
      have hu := s[k].toNat_lt
      have hyes : nameAt k (s[k].toNat : Nat) = true → ∀ j c, j < k + 1 → s.data.toList[j]? = some c → nameAt j (c.toNat : Nat) = true := by
        intro h j c hj hc
        by_cases e : j = k
        · subst e; rw [hget] at hc; injection hc with hc; subst hc; exact h
        · exact Hh.out j c (by omega) hc
      have hno : nameAt k (s[k].toNat : Nat) = false → R = false := by
        intro h
        cases hR : R with
        | false => rfl
        | true =>
          have h2 := (Hp.out.1 hR).2 k _ hget
          rw [h2] at h
          cases h
      have hl : letterB (s[k].toNat : Nat) = decide ((97 ≤ ((s[k].toNat : Nat) : Int) ∧ ((s[k].toNat : Nat) : Int) ≤ 122) ∨ (65 ≤ ((s[k].toNat : Nat) : Int) ∧ ((s[k].toNat : Nat) : Int) ≤ 90) ∨ ((s[k].toNat : Nat) : Int) = 95) := rfl
      have hpt := partB_iff (s[k].toNat : Nat)
      have Hyes := Lib.hid hyes
      have Hno := Lib.hid hno
      have Hl := Lib.hid hl
      have Hpt := Lib.hid hpt
      have hki : (k : Int) < (s.size : Int) := by omega
      clear hyes hno hget hl hpt
      rcases (by omega : ((97 ≤ ((s[k].toNat : Nat) : Int) ∧ ((s[k].toNat : Nat) : Int) ≤ 122) ∨ (65 ≤ ((s[k].toNat : Nat) : Int) ∧ ((s[k].toNat : Nat) : Int) ≤ 90) ∨ (95 ≤ ((s[k].toNat : Nat) : Int) ∧ ((s[k].toNat : Nat) : Int) ≤ 95)) ∨ ((48 ≤ ((s[k].toNat : Nat) : Int) ∧ ((s[k].toNat : Nat) : Int) ≤ 57) ∨ (45 ≤ ((s[k].toNat : Nat) : Int) ∧ ((s[k].toNat : Nat) : Int) ≤ 45) ∨ (46 ≤ ((s[k].toNat : Nat) : Int) ∧ ((s[k].toNat : Nat) : Int) ≤ 46)) ∨ (((s[k].toNat : Nat) : Int) < 45 ∨ (47 ≤ ((s[k].toNat : Nat) : Int) ∧ ((s[k].toNat : Nat) : Int) ≤ 47) ∨ (58 ≤ ((s[k].toNat : Nat) : Int) ∧ ((s[k].toNat : Nat) : Int) ≤ 64) ∨ (91 ≤ ((s[k].toNat : Nat) : Int) ∧ ((s[k].toNat : Nat) : Int) ≤ 94) ∨ (96 ≤ ((s[k].toNat : Nat) : Int) ∧ ((s[k].toNat : Nat) : Int) ≤ 96) ∨ 123 ≤ ((s[k].toNat : Nat) : Int))) with hc | hc | hc
      · have hok : nameAt k (s[k].toNat : Nat) = true := by
          unfold nameAt
          rw [Hl.out, Hpt.out]
          split <;> rw [decide_eq_true_eq] <;> omega
        have Hst := Lib.hid (Hyes.out hok)
        clear hok
        rcases hc with ⟨h, h'⟩ | ⟨h, h'⟩ | ⟨h, h'⟩
        all_goals
          first
            | (have d95 : (((s[k].toNat : Nat) : Int) == 95) = true := by rw [beq_iff_eq]; omega)
            | (have d95 : (((s[k].toNat : Nat) : Int) == 95) = false := by rw [beq_eq_false_iff_ne]; omega)
          go_wp2_with fail
          go_round
          case rel => exact ⟨k + 1, by go_num, by omega, Hst.out⟩
          case measure => simp [intOf]; omega
      · by_cases hk0 : k = 0
        · have hok : nameAt k (s[k].toNat : Nat) = false := by
            unfold nameAt
            rw [if_pos hk0, Hl.out, decide_eq_false_iff_not]; omega
          have HR := Lib.hid (Hno.out hok)
          have d0 : ((k : Int) == 0) = true := by rw [beq_iff_eq]; omega
          clear hok hk0
          rcases hc with ⟨h, h'⟩ | ⟨h, h'⟩ | ⟨h, h'⟩
          all_goals
            have d95 : (((s[k].toNat : Nat) : Int) == 95) = false := by rw [beq_eq_false_iff_ne]; omega
            go_wp2_with fail
            go_ret
            exact ⟨ret_bool HR.out.symm, rfl⟩
        · have hok : nameAt k (s[k].toNat : Nat) = true := by
            unfold nameAt
            rw [if_neg hk0, Hpt.out, decide_eq_true_eq]; omega
          have Hst := Lib.hid (Hyes.out hok)
          have d0 : ((k : Int) == 0) = false := by rw [beq_eq_false_iff_ne]; omega
          clear hok hk0
          rcases hc with ⟨h, h'⟩ | ⟨h, h'⟩ | ⟨h, h'⟩
          all_goals
            have d95 : (((s[k].toNat : Nat) : Int) == 95) = false := by rw [beq_eq_false_iff_ne]; omega
            first
              | (have d45 : (((s[k].toNat : Nat) : Int) == 45) = true := by rw [beq_iff_eq]; omega)
              | (have d45 : (((s[k].toNat : Nat) : Int) == 45) = false := by rw [beq_eq_false_iff_ne]; omega)
            first
              | (have d46 : (((s[k].toNat : Nat) : Int) == 46) = true := by rw [beq_iff_eq]; omega)
              | (have d46 : (((s[k].toNat : Nat) : Int) == 46) = false := by rw [beq_eq_false_iff_ne]; omega)
            go_wp2_with fail
            go_round
            case rel => exact ⟨k + 1, by go_num, by omega, Hst.out⟩
            case measure => simp [intOf]; omega
      · have hok : nameAt k (s[k].toNat : Nat) = false := by
          unfold nameAt
          rw [Hl.out, Hpt.out]
          split <;> rw [decide_eq_false_iff_not] <;> omega
        have HR := Lib.hid (Hno.out hok)
        clear hok
        have d95 : (((s[k].toNat : Nat) : Int) == 95) = false := by rw [beq_eq_false_iff_ne]; omega
        have d45 : (((s[k].toNat : Nat) : Int) == 45) = false := by rw [beq_eq_false_iff_ne]; omega
        have d46 : (((s[k].toNat : Nat) : Int) == 46) = false := by rw [beq_eq_false_iff_ne]; omega
        rcases (by omega : k = 0 ∨ 0 < k) with hk0 | hk0
        all_goals
          first
            | (have d0 : ((k : Int) == 0) = true := by rw [beq_iff_eq]; omega)
            | (have d0 : ((k : Int) == 0) = false := by rw [beq_eq_false_iff_ne]; omega)
          clear hk0
          rcases hc with h | ⟨h, h'⟩ | ⟨h, h'⟩ | ⟨h, h'⟩ | ⟨h, h'⟩ | h
          all_goals
            first
              | (have u122 : decide (((s[k].toNat : Nat) : Int) ≤ 122) = true := by rw [decide_eq_true_eq]; omega)
              | (have u122 : decide (((s[k].toNat : Nat) : Int) ≤ 122) = false := by rw [decide_eq_false_iff_not]; omega)
            first
              | (have u90 : decide (((s[k].toNat : Nat) : Int) ≤ 90) = true := by rw [decide_eq_true_eq]; omega)
              | (have u90 : decide (((s[k].toNat : Nat) : Int) ≤ 90) = false := by rw [decide_eq_false_iff_not]; omega)
            first
              | (have u57 : decide (((s[k].toNat : Nat) : Int) ≤ 57) = true := by rw [decide_eq_true_eq]; omega)
              | (have u57 : decide (((s[k].toNat : Nat) : Int) ≤ 57) = false := by rw [decide_eq_false_iff_not]; omega)
            go_wp2_with fail
            go_ret
            exact ⟨ret_bool HR.out.symm, rfl⟩
    · have hdk : decide ((k : Int) < (s.size : Int)) = false := by rw [decide_eq_false_iff_not]; omega
      have hR : R = decide (1 ≤ s.size ∧ s.size ≤ 64) := by
        rw [Bool.eq_iff_iff, Hp.out, decide_eq_true_eq]
        refine ⟨fun h => h.1, fun h => ⟨h, ?_⟩⟩
        intro j c hc
        have hj := (List.getElem?_eq_some_iff.1 hc).1
        rw [Hlen.out] at hj
        exact Hh.out j c (by omega) hc
      have HR := Lib.hid hR
      clear hR
      rcases (by omega : s.size < 1 ∨ (1 ≤ s.size ∧ s.size ≤ 64) ∨ 64 < s.size) with h | ⟨h, h'⟩ | h
      · have HRv : Hid (R = false) := by show _ = _; rw [HR.out, decide_eq_false_iff_not]; omega
        go_wp2_with fail
        go_ret
        exact ⟨ret_bool HRv.out.symm, rfl⟩
      · have HRv : Hid (R = true) := by show _ = _; rw [HR.out, decide_eq_true_eq]; omega
        go_wp2_with fail
        go_ret
        exact ⟨ret_bool (by rw [HRv.out, decide_eq_true_eq]; omega), rfl⟩
      · have HRv : Hid (R = false) := by show _ = _; rw [HR.out, decide_eq_false_iff_not]; omega
        go_wp2_with fail
        go_ret
        exact ⟨ret_bool (by rw [HRv.out, decide_eq_false_iff_not]; omega), rfl⟩
/-- a node's parts -/
def partsZ (n : SNode) : List Int := if n.op = 3 ∨ n.op = 4 then [n.a, n.b] else if n.op = 5 then [n.a] else []
def headOk (n : SNode) : Bool := !(decide (n.op < 0) || decide (n.op > 5) || (n.op != 2 && !n.sym.isEmpty) || (decide (n.op < 3) && (n.a != 0 || n.b != 0)) || (n.op == 5 && n.b != 0))
theorem beqd (a b : Int) : (a == b) = decide (a = b) := by rw [Bool.eq_iff_iff]; simp
theorem nodeOk_eq (i : Nat) (n : SNode) : nodeOk i n = (headOk n && (partsZ n).all (partOk i)) := by
  obtain ⟨op, sym, a, b⟩ := n
  unfold nodeOk headOk partsZ
  simp only
  rcases (by omega : op = 0 ∨ op = 1 ∨ op = 2 ∨ op = 3 ∨ op = 4 ∨ op = 5 ∨ op < 0 ∨ 5 < op) with rfl | rfl | rfl | rfl | rfl | rfl | h | h
  · cases sym <;> simp [bne, beqd]
  · cases sym <;> simp [bne, beqd]
  · cases sym <;> simp [bne, beqd]
  · cases sym <;> simp [bne]
  · cases sym <;> simp [bne]
  · cases sym <;> simp [bne, beqd, Bool.and_comm]
  · rw [if_neg (by omega), if_neg (by omega), if_neg (by omega), if_neg (by omega)]; simp [h]
  · rw [if_neg (by omega), if_neg (by omega), if_neg (by omega), if_neg (by omega)]; simp [h]
theorem refsN_eq (n : SNode) : refsN n = (partsZ n).map Int.toNat := by
  unfold refsN partsZ
  split
  · rfl
  · split <;> rfl
/-- a slice of parts, in a block of its own -/
def PZ (w : World) (g : Nat) (o : Option Addr) (ps : List Int) : Prop := (ps = [] ∧ o = none) ∨ (o = some ⟨g, 0, none⟩ ∧ g < w.heap.size ∧ ∀ j u, ps[j]? = some u → w.cell? ⟨g, j, none⟩ = some (.int .i64 u))
theorem PZ.at {w : World} {g : Nat} {o : Option Addr} {ps : List Int} (h : PZ w g o ps) {j : Nat} {u : Int} (hj : ps[j]? = some u) : o = some ⟨g, 0, none⟩ ∧ w.cell? ⟨g, j, none⟩ = some (.int .i64 u) := by
  rcases h with ⟨rfl, _⟩ | ⟨rfl, _, hc⟩
  · simp at hj
  · exact ⟨rfl, hc j u hj⟩
theorem PZ.set {w : World} {g : Nat} {o : Option Addr} {ps : List Int} (h : PZ w g o ps) {U x : Nat} {v : Value} (hU : U ≠ g) : PZ (w.setCell ⟨U, x, none⟩ v) g o ps := by
  rcases h with h | ⟨h1, h2, hc⟩
  · exact .inl h
  · refine .inr ⟨h1, by simpa [World.setCell] using h2, fun j u hj => ?_⟩
    rw [← hc j u hj]
    show World.cell? _ _ = World.cell? _ _
    unfold World.cell?
    simp only
    rw [heap_set_ne w U x g v (fun e => hU e.symm)]
set_option maxRecDepth 100000 in
theorem refParts_any (n : SNode) (w : World) :
    Calls Tryz.prog 85 #[.agg #[.int .i64 n.op, .string ⟨n.sym.toArray⟩, .int .i64 n.a, .int .i64 n.b]] w fun e w' => ∃ g o, w.heap.size ≤ g ∧ e = .returned (.slice o (partsZ n).length (partsZ n).length) ∧ PZ w' g o (partsZ n) ∧ Below w.heap.size w w' := by
  obtain ⟨op, sym, a, b⟩ := n
  have hb0 : Below w.heap.size w (w.alloc (.cells #[.int .i64 op, .string ⟨sym.toArray⟩, .int .i64 a, .int .i64 b] 65)) := (Below.refl _ w).alloc (Nat.le_refl _) _
  have two : ∀ (w1 : World) (H : Nat), w1.heap.size = H → Below w.heap.size w w1 → w.heap.size ≤ H ∧ PZ (w1.alloc (.cells #[.int .i64 a, .int .i64 b] 3)) H (some ⟨H, 0, none⟩) [a, b] ∧ Below w.heap.size w (w1.alloc (.cells #[.int .i64 a, .int .i64 b] 3)) := by
    rintro w1 _ rfl hb
    refine ⟨hb.size, .inr ⟨rfl, by simp, fun j u hj => ?_⟩, hb.alloc hb.size _⟩
    have := cell_of_row _ w1.heap.size j _ _ _ (heap_alloc_new w1 (.cells #[.int .i64 a, .int .i64 b] 3))
    rw [this]
    match j, hj with
    | 0, hj => simp at hj; subst hj; rfl
    | 1, hj => simp at hj; subst hj; rfl
    | j + 2, hj => simp at hj
  have one : ∀ (w1 : World) (H : Nat), w1.heap.size = H → Below w.heap.size w w1 → w.heap.size ≤ H ∧ PZ (w1.alloc (.cells #[.int .i64 a] 3)) H (some ⟨H, 0, none⟩) [a] ∧ Below w.heap.size w (w1.alloc (.cells #[.int .i64 a] 3)) := by
    rintro w1 _ rfl hb
    refine ⟨hb.size, .inr ⟨rfl, by simp, fun j u hj => ?_⟩, hb.alloc hb.size _⟩
    have := cell_of_row _ w1.heap.size j _ _ _ (heap_alloc_new w1 (.cells #[.int .i64 a] 3))
    rw [this]
    match j, hj with
    | 0, hj => simp at hj; subst hj; rfl
    | j + 1, hj => simp at hj
  have Two := Lib.hid two
  have One := Lib.hid one
  clear two one
  unfold partsZ
  simp only
  rcases (by omega : op = 3 ∨ op = 4 ∨ op = 5 ∨ (op ≠ 3 ∧ op ≠ 4 ∧ op ≠ 5)) with rfl | rfl | rfl | ⟨h3, h4, h5⟩
  · go_enter Tryz.func85, Tryz.ntmps85
    go_wp2_with fail
    go_ret
    obtain ⟨q1, q2, q3⟩ := Two.out _ (w.heap.size + 1) (by simp) hb0
    exact ⟨_, q1, _, rfl, q2, q3⟩
  · go_enter Tryz.func85, Tryz.ntmps85
    go_wp2_with fail
    go_ret
    obtain ⟨q1, q2, q3⟩ := Two.out _ (w.heap.size + 1) (by simp) hb0
    exact ⟨_, q1, _, rfl, q2, q3⟩
  · go_enter Tryz.func85, Tryz.ntmps85
    go_wp2_with fail
    go_ret
    obtain ⟨q1, q2, q3⟩ := One.out _ (w.heap.size + 1) (by simp) hb0
    exact ⟨_, q1, _, rfl, q2, q3⟩
  · have d3 : (op == 3) = false := by rw [beq_eq_false_iff_ne]; exact h3
    have d4 : (op == 4) = false := by rw [beq_eq_false_iff_ne]; exact h4
    have d5 : (op == 5) = false := by rw [beq_eq_false_iff_ne]; exact h5
    rw [if_neg (by omega), if_neg (by omega)]
    go_enter Tryz.func85, Tryz.ntmps85
    go_wp2_with fail
    go_ret
    refine ⟨w.heap.size, none, Nat.le_refl _, rfl, .inl ⟨rfl, rfl⟩, hb0⟩
theorem refIsL_any (l : Bytes) (w : World) (hl : l.length ≤ 1048576) : Calls Tryz.prog 40 #[.string ⟨l.toArray⟩] w fun e w' => e = .returned (.bool (isName l)) ∧ w = w' := by
  have := refIs_any ⟨l.toArray⟩ w (by rw [Lib.size_eq]; show l.length ≤ _; omega)
  simpa using this
/-- what is held ahead of each node -/
structure UsSt (U : Nat) (us : List Nat) (w0 w : World) : Prop where
  uses : UsesAt w U us
  below : Below w0.heap.size w0 w
  U0 : w0.heap.size ≤ U
theorem UsSt.lt {U : Nat} {us : List Nat} {w0 w : World} (h : UsSt U us w0 w) : U < w.heap.size := lt_of_block h.uses
theorem UsSt.grow {U : Nat} {us : List Nat} {w0 w w' : World} (h : UsSt U us w0 w) (hb : Below w.heap.size w w') : UsSt U us w0 w' := ⟨(hb.block U h.lt).trans h.uses, h.below.trans (hb.mono h.below.size), h.U0⟩
theorem UsSt.bump {U : Nat} {us : List Nat} {w0 w : World} (h : UsSt U us w0 w) {x : Nat} (hx : x < us.length) : UsSt U (bump us x) w0 (w.setCell ⟨U, x, none⟩ (.int .i64 ((us.getD x 0 : Nat) + 1 : Int))) := ⟨h.uses.bump hx, h.below.setCell h.U0 _, h.U0⟩
theorem UsSt.cell {U : Nat} {us : List Nat} {w0 w : World} (h : UsSt U us w0 w) {x : Nat} (hx : x < us.length) : w.cell? ⟨U, x, none⟩ = some (.int .i64 ((us.getD x 0 : Nat) : Int)) ∧ w.frozen? ⟨U, x, none⟩ = false := by
  have hh : w.heap[U]? = _ := h.uses
  refine ⟨?_, by simp [World.frozen?, hh]⟩
  rw [cell_of_row w U x _ _ _ h.uses]
  simp [List.getD_eq_getElem?_getD, List.getElem?_eq_getElem hx]
theorem regexE_form {l : List SNode} (hl : ¬ 1024 < l.length) (h : formedS l = false) : regexE l = 12 := by unfold regexE; rw [if_neg hl, if_pos h]
theorem regexE_name {l : List SNode} (hl : ¬ 1024 < l.length) (h : formedS l = true) : regexE l = if l.any (fun n => decide (n.op = 2) && !isName n.sym) = true then 11 else 0 := by unfold regexE; rw [if_neg hl, if_neg (by rw [h]; simp)]
theorem formedS_used {l : List SNode} {j : Nat} (hj : j < l.length - 1) (h : usedS l j ≠ 1) : formedS l = false := by
  unfold formedS
  rw [Bool.and_eq_false_iff]
  refine .inl ?_
  rw [Bool.and_eq_false_iff]
  refine .inr ?_
  rw [List.all_eq_false]
  exact ⟨j, List.mem_range.2 hj, by simpa using h⟩
theorem formedS_all {l : List SNode} (h0 : l ≠ []) (h : nodesOk 0 l = true) (hu : ∀ j, j < l.length - 1 → usedS l j = 1) : formedS l = true := by
  unfold formedS
  rw [h, Bool.true_and, Bool.and_eq_true]
  refine ⟨?_, by cases l <;> simp_all⟩
  rw [List.all_eq_true]
  intro j hj
  rw [hu j (List.mem_range.1 hj)]
  rfl
set_option maxHeartbeats 8000000 in
set_option maxRecDepth 100000 in
theorem refCheck7_any (l : List SNode) (o : Option Addr) (cap : Nat) (w : World) (h : NodesAt w o cap l) (hs : ∀ n ∈ l, n.sym.length ≤ 1048576) :
    Calls Tryz.prog 41 #[.slice o l.length cap] w fun e w' => e = .returned (.int .i64 (regexE l)) ∧ Below w.heap.size w w' := by
  obtain ⟨R, hR⟩ : ∃ R, R = regexE l := ⟨_, rfl⟩
  rw [← hR]
  have HR := Lib.hid hR
  clear hR
  have Hs := Lib.hid hs
  clear hs
  by_cases hbig : 1024 < l.length
  · have hd : decide ((l.length : Int) > 1024) = true := by rw [decide_eq_true_eq]; omega
    have hRe : R = 17 := by rw [HR.out]; unfold regexE; rw [if_pos hbig]
    have HRe := Lib.hid hRe
    clear hRe
    go_enter Tryz.func41, Tryz.ntmps41
    go_wp2_with fail
    go_ret
    exact ⟨ret_int HRe.out.symm, Below.refl _ _⟩
  have hd : decide ((l.length : Int) > 1024) = false := by rw [decide_eq_false_iff_not]; omega
  by_cases h0 : l.length = 0
  · have hd0 : ((l.length : Int) == 0) = true := by rw [beq_iff_eq]; omega
    have hRe : R = 12 := by
      rw [HR.out]
      refine regexE_form hbig ?_
      obtain rfl := List.eq_nil_of_length_eq_zero h0
      rfl
    have HRe := Lib.hid hRe
    clear hRe
    go_enter Tryz.func41, Tryz.ntmps41
    go_wp2_with fail
    go_ret
    exact ⟨ret_int HRe.out.symm, Below.refl _ _⟩
  have hd0 : ((l.length : Int) == 0) = false := by rw [beq_eq_false_iff_ne]; omega
  obtain ⟨i0, hi, hz0, hz1, hz2⟩ := info_parts info_int
  have hmade := made_uses l.length
  have Hmade := Lib.hid hmade
  clear hmade
  have hG0 : UsSt w.heap.size (List.replicate l.length 0) w (w.alloc (.cells ((List.replicate l.length 0).map fun u => Value.int .i64 ((u : Nat) : Int)).toArray 3)) :=
    ⟨heap_alloc_new w _, (Below.refl _ w).alloc (Nat.le_refl _) _, Nat.le_refl _⟩
  have hgetr : ∀ j, (List.replicate l.length 0).getD j 0 = usedS (l.take 0) j := by
    intro j
    have : usedS (l.take 0) j = 0 := by simp [usedS]
    rw [this, List.getD_eq_getElem?_getD, List.getElem?_replicate]
    split <;> rfl
  have Hgetr := Lib.hid hgetr
  have Hpar := Lib.hid refParts_any
  clear hgetr
  go_enter Tryz.func41, Tryz.ntmps41
  go_wp2_with (first
    | (at_make; go_must (refine wpList_make_row _ rfl _ _ _ rfl 3 i0 (.int .i64 0) Tryz.underlying35 hi hz0 hz1 rfl _ _ l.length rfl rfl (by rw [hz2]; omega) (by omega) ?_)))
  rw [Hmade.out]
  clear Hmade
  go_loopw [4] (fun i wr => ∃ (k : Nat) (us : List Nat), i = .int .i64 k ∧ k ≤ l.length ∧ us.length = l.length ∧ UsSt w.heap.size us w wr ∧ Hid (nodesOk 0 (l.take k) = true ∧ ∀ j, us.getD j 0 = usedS (l.take k) j)) (fun i _ => l.length - (intOf i).toNat)
  case atStart => exact ⟨0, List.replicate l.length 0, rfl, Nat.zero_le _, List.length_replicate, hG0, rfl, Hgetr.out⟩
  case round =>
    obtain ⟨k, us, rfl, hk, hus, hG, HU⟩ := hrel
    obtain ⟨wo, hwo⟩ : ∃ wo, wo = wr := ⟨_, rfl⟩
    subst hwo
    clear hG0 Hgetr
    by_cases hlt : k < l.length
    · have hdk : decide ((k : Int) < (l.length : Int)) = true := by rw [decide_eq_true_eq]; omega
      have hki : (k : Int) < (l.length : Int) := by omega
      have hk0 : (0 : Int) ≤ (k : Int) := by omega
      obtain ⟨n, hx⟩ : ∃ n, l[k]? = some n := ⟨_, List.getElem?_eq_getElem hlt⟩
      obtain ⟨b, off, rfl, hbl, x0, x1, x2, x3⟩ := (h.below (hG.below)).at hx
      have hu : ∀ j, us.getD j 0 ≤ 2048 := fun j => by rw [HU.out.2]; have := used_le (l.take k) j; rw [List.length_take] at this; omega
      have Hu := Lib.hid hu
      clear hu
      have hno : headOk n = false → R = 12 := fun hn => by rw [HR.out]; exact regexE_form hbig (nodesOk_no hx (by rw [nodeOk_eq, hn]; rfl))
      have hnp : ∀ x ∈ partsZ n, partOk k x = false → R = 12 := fun x hxm hp => by
        rw [HR.out]
        refine regexE_form hbig (nodesOk_no hx ?_)
        rw [nodeOk_eq, Bool.and_eq_false_iff]
        exact .inr (List.all_eq_false.2 ⟨x, hxm, by rw [hp]; simp⟩)
      have hyes : ∀ us' : List Nat, headOk n = true → (∀ x ∈ partsZ n, partOk k x = true) → (∀ j, us'.getD j 0 = us.getD j 0 + ((partsZ n).map Int.toNat).count j) → nodesOk 0 (l.take (k + 1)) = true ∧ ∀ j, us'.getD j 0 = usedS (l.take (k + 1)) j := by
        intro us' hn hpp hc
        refine ⟨by rw [nodesOk_snoc hx, HU.out.1, nodeOk_eq, hn, List.all_eq_true.2 hpp]; rfl, fun j => ?_⟩
        rw [hc, usedS_snoc hx, HU.out.2, refsN_eq]
      have hpc := fun w1 => Hpar.out n w1
      have hpl : (partsZ n).length ≤ 2 := by unfold partsZ; split <;> (try split) <;> simp
      obtain ⟨ps, hps⟩ : ∃ ps, ps = partsZ n := ⟨_, rfl⟩
      rw [← hps] at hnp hyes hpl
      have hpc' : ∀ w1, Calls Tryz.prog 85 #[.agg #[.int .i64 n.op, .string ⟨n.sym.toArray⟩, .int .i64 n.a, .int .i64 n.b]] w1 fun e w' => ∃ g o, w1.heap.size ≤ g ∧ e = .returned (.slice o ps.length ps.length) ∧ PZ w' g o ps ∧ Below w1.heap.size w1 w' := by rw [hps]; exact hpc
      have hhd : headOk n = !(decide (n.op < 0) || decide (n.op > 5) || (n.op != 2 && !n.sym.isEmpty) || (decide (n.op < 3) && (n.a != 0 || n.b != 0)) || (n.op == 5 && n.b != 0)) := rfl
      obtain ⟨op, sym, a, b2⟩ := n
      simp only at x0 x1 x2 x3 hpc' hhd
      generalize headOk ⟨op, sym, a, b2⟩ = hd2 at hno hyes hhd
      have Hno := Lib.hid hno
      have Hnp := Lib.hid hnp
      have Hyes := Lib.hid hyes
      have Hhd := Lib.hid hhd
      clear hpc hps hx hno hnp hyes hhd
      have hba : Below wo.heap.size wo (wo.alloc (.cells #[.int .i64 op, .string ⟨sym.toArray⟩, .int .i64 a, .int .i64 b2] 65)) := (Below.refl _ wo).alloc (Nat.le_refl _) _
      have hGa := hG.grow hba
      have hUlt := hG.lt
      have hfail : hd2 = false → R = 12 := Hno.out
      have hbf := hGa.below
      clear hfail
      by_cases c1 : op < 0
      · have e1 : decide (op < 0) = true := by rw [decide_eq_true_eq]; exact c1
        have HRe := Lib.hid (Hno.out (by rw [Hhd.out]; simp [c1]))
        go_wp2_with fail
        go_ret
        exact ⟨ret_int HRe.out.symm, hbf⟩
      have e1 : decide (op < 0) = false := by rw [decide_eq_false_iff_not]; exact c1
      by_cases c2 : op > 5
      · have e2 : decide (op > 5) = true := by rw [decide_eq_true_eq]; exact c2
        have HRe := Lib.hid (Hno.out (by rw [Hhd.out]; simp [c2]))
        go_wp2_with fail
        go_ret
        exact ⟨ret_int HRe.out.symm, hbf⟩
      have e2 : decide (op > 5) = false := by rw [decide_eq_false_iff_not]; exact c2
      rcases (by omega : op = 2 ∨ (op ≠ 2 ∧ op < 3) ∨ (op ≠ 2 ∧ ¬ op < 3 ∧ op ≠ 5) ∨ op = 5) with rfl | ⟨c3, c4⟩ | ⟨c3, c4, c5⟩ | rfl
      · rcases Classical.em (a = 0) with ha | ha
        · subst ha
          rcases Classical.em (b2 = 0) with hb | hb
          · subst hb
            have Hh := Lib.hid (show hd2 = true by rw [Hhd.out]; rfl)
            go_wp2_with fail
            refine (hpc' _).mono ?_
            rintro e w5 ⟨g, po, hg, rfl, hPZ, hb5⟩
            have hG5 := hGa.grow hb5
            have hgU : w.heap.size ≠ g := by have := hba.size; omega
            clear hpc' x0 x1 x2 x3 hb5 hbf hGa hba
            go_wp2_with fail
            go_loopw [7] (fun v wq => ∃ (j : Nat) (us' : List Nat), v = .int .i64 j ∧ j ≤ ps.length ∧ us'.length = l.length ∧ UsSt w.heap.size us' w wq ∧ PZ wq g po ps ∧ Hid ((∀ m, us'.getD m 0 = us.getD m 0 + ((ps.take j).map Int.toNat).count m) ∧ ∀ x ∈ ps.take j, partOk k x = true)) (fun v _ => ps.length - (intOf v).toNat)
            case atStart => exact ⟨0, us, rfl, Nat.zero_le _, hus, hG5, hPZ, fun m => by simp, fun x hx => by simp at hx⟩
            case round =>
              obtain ⟨j, us', rfl, hj, hus', hG6, hPZ6, HV⟩ := hrel
              clear hG5 hPZ
              by_cases hjt : j < ps.length
              · have hdj : decide ((j : Int) < (ps.length : Int)) = true := by rw [decide_eq_true_eq]; omega
                have hji : (j : Int) < (ps.length : Int) := by omega
                have hj0 : (0 : Int) ≤ (j : Int) := by omega
                obtain ⟨x, hx⟩ : ∃ x, ps[j]? = some x := ⟨_, List.getElem?_eq_getElem hjt⟩
                obtain ⟨rfl, y0⟩ := hPZ6.at hx
                have hxm := List.mem_of_getElem? hx
                have hb6 := hG6.below
                by_cases p1 : x < 0
                · have d1 : decide (x < 0) = true := by rw [decide_eq_true_eq]; exact p1
                  have HRe := Lib.hid (Hnp.out x hxm (by unfold partOk; rw [Bool.and_eq_false_iff, decide_eq_false_iff_not]; exact .inl (by omega)))
                  clear hx hxm
                  go_wp2_with fail
                  go_ret
                  exact ⟨ret_int HRe.out.symm, hb6⟩
                have d1 : decide (x < 0) = false := by rw [decide_eq_false_iff_not]; exact p1
                by_cases p2 : x ≥ (k : Int)
                · have d2 : decide (x ≥ (k : Int)) = true := by rw [decide_eq_true_eq]; exact p2
                  have HRe := Lib.hid (Hnp.out x hxm (by unfold partOk; rw [Bool.and_eq_false_iff, decide_eq_false_iff_not, decide_eq_false_iff_not]; exact .inr (by omega)))
                  clear hx hxm
                  go_wp2_with fail
                  go_ret
                  exact ⟨ret_int HRe.out.symm, hb6⟩
                have d2 : decide (x ≥ (k : Int)) = false := by rw [decide_eq_false_iff_not]; exact p2
                obtain ⟨y, rfl⟩ : ∃ y : Nat, x = y := ⟨x.toNat, by omega⟩
                have hy : y < us'.length := by omega
                obtain ⟨z0, z1⟩ := hG6.cell hy
                have hbump := hG6.bump hy
                have e3 : (0 : Int) ≤ (y : Int) := by omega
                have hyk : y < k := by omega
                have e4 : (y : Int) < (l.length : Int) := by omega
                have hval : us'.getD y 0 ≤ 4096 := by
                  have h1 := HV.out.1 y
                  have h2 := Hu.out y
                  have h3 : ((ps.take j).map Int.toNat).count y ≤ 2 := Nat.le_trans List.count_le_length (by rw [List.length_map, List.length_take]; omega)
                  omega
                have Hst : Hid ((∀ m, (bump us' y).getD m 0 = us.getD m 0 + ((ps.take (j + 1)).map Int.toNat).count m) ∧ ∀ x ∈ ps.take (j + 1), partOk k x = true) := by
                  rw [List.take_add_one, hx]
                  refine ⟨fun m => ?_, fun x hx2 => ?_⟩
                  · rw [bump_count hy, HV.out.1 m, List.map_append, List.count_append]
                    simp [Nat.add_assoc]
                  · rcases List.mem_append.1 hx2 with hx2 | hx2
                    · exact HV.out.2 x hx2
                    · simp at hx2; subst hx2; unfold partOk; simp; omega
                generalize us'.getD y 0 = uy at z0 hval hbump
                have v1 : (0 : Int) ≤ (uy : Int) := by omega
                have v2 : (uy : Int) ≤ 4096 := by omega
                clear hval
                have Hbump := Lib.hid hbump
                have HPZ := Lib.hid hPZ6
                have Hus' := Lib.hid hus'
                clear hx hxm hbump hPZ6 hb6 p1 p2 hus hus' hy
                go_wp2_with fail
                go_roundw
                case rel => exact ⟨j + 1, bump us' y, by go_num, by omega, by rw [bump_len]; exact Hus'.out, Hbump.out, HPZ.out.set hgU, Hst.out⟩
                case measure => simp [intOf]; omega
              · have hdj : decide ((j : Int) < (ps.length : Int)) = false := by rw [decide_eq_false_iff_not]; omega
                have Hst := Lib.hid (Hyes.out us' Hh.out (by have := HV.out.2; rwa [List.take_of_length_le (by omega)] at this) (by have := HV.out.1; rwa [List.take_of_length_le (by omega)] at this))
                go_wp2_with fail
                go_roundw
                case rel => exact ⟨k + 1, us', by go_num, by omega, hus', hG6, Hst.out⟩
                case measure => simp [intOf]; omega
          · have bb : (b2 != 0) = true := by rw [bne_iff_ne]; exact hb
            have HRe := Lib.hid (Hno.out (by rw [Hhd.out]; simp [bb]))
            go_wp2_with fail
            go_ret
            exact ⟨ret_int HRe.out.symm, hbf⟩
        · have ba : (a != 0) = true := by rw [bne_iff_ne]; exact ha
          have HRe := Lib.hid (Hno.out (by rw [Hhd.out]; simp [ba]))
          go_wp2_with fail
          go_ret
          exact ⟨ret_int HRe.out.symm, hbf⟩
      · have e3 : (op != 2) = true := by rw [bne_iff_ne]; exact c3
        have e4 : decide (op < 3) = true := by rw [decide_eq_true_eq]; exact c4
        have e5 : (op == 5) = false := by rw [beq_eq_false_iff_ne]; omega
        rcases Classical.em (sym = []) with hs | hs
        · subst hs
          rcases Classical.em (a = 0) with ha | ha
          · subst ha
            rcases Classical.em (b2 = 0) with hb | hb
            · subst hb
              have Hh := Lib.hid (show hd2 = true by rw [Hhd.out, e1, e2, e5]; simp)
              go_wp2_with fail
              refine (hpc' _).mono ?_
              rintro e w5 ⟨g, po, hg, rfl, hPZ, hb5⟩
              have hG5 := hGa.grow hb5
              have hgU : w.heap.size ≠ g := by have := hba.size; omega
              clear hpc' x0 x1 x2 x3 hb5 hbf hGa hba
              go_wp2_with fail
              go_loopw [7] (fun v wq => ∃ (j : Nat) (us' : List Nat), v = .int .i64 j ∧ j ≤ ps.length ∧ us'.length = l.length ∧ UsSt w.heap.size us' w wq ∧ PZ wq g po ps ∧ Hid ((∀ m, us'.getD m 0 = us.getD m 0 + ((ps.take j).map Int.toNat).count m) ∧ ∀ x ∈ ps.take j, partOk k x = true)) (fun v _ => ps.length - (intOf v).toNat)
              case atStart => exact ⟨0, us, rfl, Nat.zero_le _, hus, hG5, hPZ, fun m => by simp, fun x hx => by simp at hx⟩
              case round =>
                obtain ⟨j, us', rfl, hj, hus', hG6, hPZ6, HV⟩ := hrel
                clear hG5 hPZ
                by_cases hjt : j < ps.length
                · have hdj : decide ((j : Int) < (ps.length : Int)) = true := by rw [decide_eq_true_eq]; omega
                  have hji : (j : Int) < (ps.length : Int) := by omega
                  have hj0 : (0 : Int) ≤ (j : Int) := by omega
                  obtain ⟨x, hx⟩ : ∃ x, ps[j]? = some x := ⟨_, List.getElem?_eq_getElem hjt⟩
                  obtain ⟨rfl, y0⟩ := hPZ6.at hx
                  have hxm := List.mem_of_getElem? hx
                  have hb6 := hG6.below
                  by_cases p1 : x < 0
                  · have d1 : decide (x < 0) = true := by rw [decide_eq_true_eq]; exact p1
                    have HRe := Lib.hid (Hnp.out x hxm (by unfold partOk; rw [Bool.and_eq_false_iff, decide_eq_false_iff_not]; exact .inl (by omega)))
                    clear hx hxm
                    go_wp2_with fail
                    go_ret
                    exact ⟨ret_int HRe.out.symm, hb6⟩
                  have d1 : decide (x < 0) = false := by rw [decide_eq_false_iff_not]; exact p1
                  by_cases p2 : x ≥ (k : Int)
                  · have d2 : decide (x ≥ (k : Int)) = true := by rw [decide_eq_true_eq]; exact p2
                    have HRe := Lib.hid (Hnp.out x hxm (by unfold partOk; rw [Bool.and_eq_false_iff, decide_eq_false_iff_not, decide_eq_false_iff_not]; exact .inr (by omega)))
                    clear hx hxm
                    go_wp2_with fail
                    go_ret
                    exact ⟨ret_int HRe.out.symm, hb6⟩
                  have d2 : decide (x ≥ (k : Int)) = false := by rw [decide_eq_false_iff_not]; exact p2
                  obtain ⟨y, rfl⟩ : ∃ y : Nat, x = y := ⟨x.toNat, by omega⟩
                  have hy : y < us'.length := by omega
                  obtain ⟨z0, z1⟩ := hG6.cell hy
                  have hbump := hG6.bump hy
                  have e3 : (0 : Int) ≤ (y : Int) := by omega
                  have hyk : y < k := by omega
                  have e4 : (y : Int) < (l.length : Int) := by omega
                  have hval : us'.getD y 0 ≤ 4096 := by
                    have h1 := HV.out.1 y
                    have h2 := Hu.out y
                    have h3 : ((ps.take j).map Int.toNat).count y ≤ 2 := Nat.le_trans List.count_le_length (by rw [List.length_map, List.length_take]; omega)
                    omega
                  have Hst : Hid ((∀ m, (bump us' y).getD m 0 = us.getD m 0 + ((ps.take (j + 1)).map Int.toNat).count m) ∧ ∀ x ∈ ps.take (j + 1), partOk k x = true) := by
                    rw [List.take_add_one, hx]
                    refine ⟨fun m => ?_, fun x hx2 => ?_⟩
                    · rw [bump_count hy, HV.out.1 m, List.map_append, List.count_append]
                      simp [Nat.add_assoc]
                    · rcases List.mem_append.1 hx2 with hx2 | hx2
                      · exact HV.out.2 x hx2
                      · simp at hx2; subst hx2; unfold partOk; simp; omega
                  generalize us'.getD y 0 = uy at z0 hval hbump
                  have v1 : (0 : Int) ≤ (uy : Int) := by omega
                  have v2 : (uy : Int) ≤ 4096 := by omega
                  clear hval
                  have Hbump := Lib.hid hbump
                  have HPZ := Lib.hid hPZ6
                  have Hus' := Lib.hid hus'
                  clear hx hxm hbump hPZ6 hb6 p1 p2 hus hus' hy
                  go_wp2_with fail
                  go_roundw
                  case rel => exact ⟨j + 1, bump us' y, by go_num, by omega, by rw [bump_len]; exact Hus'.out, Hbump.out, HPZ.out.set hgU, Hst.out⟩
                  case measure => simp [intOf]; omega
                · have hdj : decide ((j : Int) < (ps.length : Int)) = false := by rw [decide_eq_false_iff_not]; omega
                  have Hst := Lib.hid (Hyes.out us' Hh.out (by have := HV.out.2; rwa [List.take_of_length_le (by omega)] at this) (by have := HV.out.1; rwa [List.take_of_length_le (by omega)] at this))
                  go_wp2_with fail
                  go_roundw
                  case rel => exact ⟨k + 1, us', by go_num, by omega, hus', hG6, Hst.out⟩
                  case measure => simp [intOf]; omega
            · have bb : (b2 != 0) = true := by rw [bne_iff_ne]; exact hb
              have HRe := Lib.hid (Hno.out (by rw [Hhd.out]; simp [bb, e4]))
              go_wp2_with fail
              go_ret
              exact ⟨ret_int HRe.out.symm, hbf⟩
          · have ba : (a != 0) = true := by rw [bne_iff_ne]; exact ha
            have HRe := Lib.hid (Hno.out (by rw [Hhd.out]; simp [ba, e4]))
            go_wp2_with fail
            go_ret
            exact ⟨ret_int HRe.out.symm, hbf⟩
        · have he : sym.isEmpty = false := by cases sym <;> simp_all
          have HRe := Lib.hid (Hno.out (by rw [Hhd.out]; simp [he, e3]))
          go_wp2_with fail
          go_ret
          exact ⟨ret_int HRe.out.symm, hbf⟩
      · have e3 : (op != 2) = true := by rw [bne_iff_ne]; exact c3
        have e4 : decide (op < 3) = false := by rw [decide_eq_false_iff_not]; exact c4
        have e5 : (op == 5) = false := by rw [beq_eq_false_iff_ne]; exact c5
        rcases Classical.em (sym = []) with hs | hs
        · subst hs
          have Hh := Lib.hid (show hd2 = true by rw [Hhd.out, e1, e2, e4, e5]; simp)
          go_wp2_with fail
          refine (hpc' _).mono ?_
          rintro e w5 ⟨g, po, hg, rfl, hPZ, hb5⟩
          have hG5 := hGa.grow hb5
          have hgU : w.heap.size ≠ g := by have := hba.size; omega
          clear hpc' x0 x1 x2 x3 hb5 hbf hGa hba
          go_wp2_with fail
          go_loopw [7] (fun v wq => ∃ (j : Nat) (us' : List Nat), v = .int .i64 j ∧ j ≤ ps.length ∧ us'.length = l.length ∧ UsSt w.heap.size us' w wq ∧ PZ wq g po ps ∧ Hid ((∀ m, us'.getD m 0 = us.getD m 0 + ((ps.take j).map Int.toNat).count m) ∧ ∀ x ∈ ps.take j, partOk k x = true)) (fun v _ => ps.length - (intOf v).toNat)
          case atStart => exact ⟨0, us, rfl, Nat.zero_le _, hus, hG5, hPZ, fun m => by simp, fun x hx => by simp at hx⟩
          case round =>
            obtain ⟨j, us', rfl, hj, hus', hG6, hPZ6, HV⟩ := hrel
            clear hG5 hPZ
            by_cases hjt : j < ps.length
            · have hdj : decide ((j : Int) < (ps.length : Int)) = true := by rw [decide_eq_true_eq]; omega
              have hji : (j : Int) < (ps.length : Int) := by omega
              have hj0 : (0 : Int) ≤ (j : Int) := by omega
              obtain ⟨x, hx⟩ : ∃ x, ps[j]? = some x := ⟨_, List.getElem?_eq_getElem hjt⟩
              obtain ⟨rfl, y0⟩ := hPZ6.at hx
              have hxm := List.mem_of_getElem? hx
              have hb6 := hG6.below
              by_cases p1 : x < 0
              · have d1 : decide (x < 0) = true := by rw [decide_eq_true_eq]; exact p1
                have HRe := Lib.hid (Hnp.out x hxm (by unfold partOk; rw [Bool.and_eq_false_iff, decide_eq_false_iff_not]; exact .inl (by omega)))
                clear hx hxm
                go_wp2_with fail
                go_ret
                exact ⟨ret_int HRe.out.symm, hb6⟩
              have d1 : decide (x < 0) = false := by rw [decide_eq_false_iff_not]; exact p1
              by_cases p2 : x ≥ (k : Int)
              · have d2 : decide (x ≥ (k : Int)) = true := by rw [decide_eq_true_eq]; exact p2
                have HRe := Lib.hid (Hnp.out x hxm (by unfold partOk; rw [Bool.and_eq_false_iff, decide_eq_false_iff_not, decide_eq_false_iff_not]; exact .inr (by omega)))
                clear hx hxm
                go_wp2_with fail
                go_ret
                exact ⟨ret_int HRe.out.symm, hb6⟩
              have d2 : decide (x ≥ (k : Int)) = false := by rw [decide_eq_false_iff_not]; exact p2
              obtain ⟨y, rfl⟩ : ∃ y : Nat, x = y := ⟨x.toNat, by omega⟩
              have hy : y < us'.length := by omega
              obtain ⟨z0, z1⟩ := hG6.cell hy
              have hbump := hG6.bump hy
              have e3 : (0 : Int) ≤ (y : Int) := by omega
              have hyk : y < k := by omega
              have e4 : (y : Int) < (l.length : Int) := by omega
              have hval : us'.getD y 0 ≤ 4096 := by
                have h1 := HV.out.1 y
                have h2 := Hu.out y
                have h3 : ((ps.take j).map Int.toNat).count y ≤ 2 := Nat.le_trans List.count_le_length (by rw [List.length_map, List.length_take]; omega)
                omega
              have Hst : Hid ((∀ m, (bump us' y).getD m 0 = us.getD m 0 + ((ps.take (j + 1)).map Int.toNat).count m) ∧ ∀ x ∈ ps.take (j + 1), partOk k x = true) := by
                rw [List.take_add_one, hx]
                refine ⟨fun m => ?_, fun x hx2 => ?_⟩
                · rw [bump_count hy, HV.out.1 m, List.map_append, List.count_append]
                  simp [Nat.add_assoc]
                · rcases List.mem_append.1 hx2 with hx2 | hx2
                  · exact HV.out.2 x hx2
                  · simp at hx2; subst hx2; unfold partOk; simp; omega
              generalize us'.getD y 0 = uy at z0 hval hbump
              have v1 : (0 : Int) ≤ (uy : Int) := by omega
              have v2 : (uy : Int) ≤ 4096 := by omega
              clear hval
              have Hbump := Lib.hid hbump
              have HPZ := Lib.hid hPZ6
              have Hus' := Lib.hid hus'
              clear hx hxm hbump hPZ6 hb6 p1 p2 hus hus' hy
              go_wp2_with fail
              go_roundw
              case rel => exact ⟨j + 1, bump us' y, by go_num, by omega, by rw [bump_len]; exact Hus'.out, Hbump.out, HPZ.out.set hgU, Hst.out⟩
              case measure => simp [intOf]; omega
            · have hdj : decide ((j : Int) < (ps.length : Int)) = false := by rw [decide_eq_false_iff_not]; omega
              have Hst := Lib.hid (Hyes.out us' Hh.out (by have := HV.out.2; rwa [List.take_of_length_le (by omega)] at this) (by have := HV.out.1; rwa [List.take_of_length_le (by omega)] at this))
              go_wp2_with fail
              go_roundw
              case rel => exact ⟨k + 1, us', by go_num, by omega, hus', hG6, Hst.out⟩
              case measure => simp [intOf]; omega
        · have he : sym.isEmpty = false := by cases sym <;> simp_all
          have HRe := Lib.hid (Hno.out (by rw [Hhd.out]; simp [he, e3]))
          go_wp2_with fail
          go_ret
          exact ⟨ret_int HRe.out.symm, hbf⟩
      · rcases Classical.em (sym = []) with hs | hs
        · subst hs
          rcases Classical.em (b2 = 0) with hb | hb
          · subst hb
            have Hh := Lib.hid (show hd2 = true by rw [Hhd.out]; rfl)
            go_wp2_with fail
            refine (hpc' _).mono ?_
            rintro e w5 ⟨g, po, hg, rfl, hPZ, hb5⟩
            have hG5 := hGa.grow hb5
            have hgU : w.heap.size ≠ g := by have := hba.size; omega
            clear hpc' x0 x1 x2 x3 hb5 hbf hGa hba
            go_wp2_with fail
            go_loopw [7] (fun v wq => ∃ (j : Nat) (us' : List Nat), v = .int .i64 j ∧ j ≤ ps.length ∧ us'.length = l.length ∧ UsSt w.heap.size us' w wq ∧ PZ wq g po ps ∧ Hid ((∀ m, us'.getD m 0 = us.getD m 0 + ((ps.take j).map Int.toNat).count m) ∧ ∀ x ∈ ps.take j, partOk k x = true)) (fun v _ => ps.length - (intOf v).toNat)
            case atStart => exact ⟨0, us, rfl, Nat.zero_le _, hus, hG5, hPZ, fun m => by simp, fun x hx => by simp at hx⟩
            case round =>
              obtain ⟨j, us', rfl, hj, hus', hG6, hPZ6, HV⟩ := hrel
              clear hG5 hPZ
              by_cases hjt : j < ps.length
              · have hdj : decide ((j : Int) < (ps.length : Int)) = true := by rw [decide_eq_true_eq]; omega
                have hji : (j : Int) < (ps.length : Int) := by omega
                have hj0 : (0 : Int) ≤ (j : Int) := by omega
                obtain ⟨x, hx⟩ : ∃ x, ps[j]? = some x := ⟨_, List.getElem?_eq_getElem hjt⟩
                obtain ⟨rfl, y0⟩ := hPZ6.at hx
                have hxm := List.mem_of_getElem? hx
                have hb6 := hG6.below
                by_cases p1 : x < 0
                · have d1 : decide (x < 0) = true := by rw [decide_eq_true_eq]; exact p1
                  have HRe := Lib.hid (Hnp.out x hxm (by unfold partOk; rw [Bool.and_eq_false_iff, decide_eq_false_iff_not]; exact .inl (by omega)))
                  clear hx hxm
                  go_wp2_with fail
                  go_ret
                  exact ⟨ret_int HRe.out.symm, hb6⟩
                have d1 : decide (x < 0) = false := by rw [decide_eq_false_iff_not]; exact p1
                by_cases p2 : x ≥ (k : Int)
                · have d2 : decide (x ≥ (k : Int)) = true := by rw [decide_eq_true_eq]; exact p2
                  have HRe := Lib.hid (Hnp.out x hxm (by unfold partOk; rw [Bool.and_eq_false_iff, decide_eq_false_iff_not, decide_eq_false_iff_not]; exact .inr (by omega)))
                  clear hx hxm
                  go_wp2_with fail
                  go_ret
                  exact ⟨ret_int HRe.out.symm, hb6⟩
                have d2 : decide (x ≥ (k : Int)) = false := by rw [decide_eq_false_iff_not]; exact p2
                obtain ⟨y, rfl⟩ : ∃ y : Nat, x = y := ⟨x.toNat, by omega⟩
                have hy : y < us'.length := by omega
                obtain ⟨z0, z1⟩ := hG6.cell hy
                have hbump := hG6.bump hy
                have e3 : (0 : Int) ≤ (y : Int) := by omega
                have hyk : y < k := by omega
                have e4 : (y : Int) < (l.length : Int) := by omega
                have hval : us'.getD y 0 ≤ 4096 := by
                  have h1 := HV.out.1 y
                  have h2 := Hu.out y
                  have h3 : ((ps.take j).map Int.toNat).count y ≤ 2 := Nat.le_trans List.count_le_length (by rw [List.length_map, List.length_take]; omega)
                  omega
                have Hst : Hid ((∀ m, (bump us' y).getD m 0 = us.getD m 0 + ((ps.take (j + 1)).map Int.toNat).count m) ∧ ∀ x ∈ ps.take (j + 1), partOk k x = true) := by
                  rw [List.take_add_one, hx]
                  refine ⟨fun m => ?_, fun x hx2 => ?_⟩
                  · rw [bump_count hy, HV.out.1 m, List.map_append, List.count_append]
                    simp [Nat.add_assoc]
                  · rcases List.mem_append.1 hx2 with hx2 | hx2
                    · exact HV.out.2 x hx2
                    · simp at hx2; subst hx2; unfold partOk; simp; omega
                generalize us'.getD y 0 = uy at z0 hval hbump
                have v1 : (0 : Int) ≤ (uy : Int) := by omega
                have v2 : (uy : Int) ≤ 4096 := by omega
                clear hval
                have Hbump := Lib.hid hbump
                have HPZ := Lib.hid hPZ6
                have Hus' := Lib.hid hus'
                clear hx hxm hbump hPZ6 hb6 p1 p2 hus hus' hy
                go_wp2_with fail
                go_roundw
                case rel => exact ⟨j + 1, bump us' y, by go_num, by omega, by rw [bump_len]; exact Hus'.out, Hbump.out, HPZ.out.set hgU, Hst.out⟩
                case measure => simp [intOf]; omega
              · have hdj : decide ((j : Int) < (ps.length : Int)) = false := by rw [decide_eq_false_iff_not]; omega
                have Hst := Lib.hid (Hyes.out us' Hh.out (by have := HV.out.2; rwa [List.take_of_length_le (by omega)] at this) (by have := HV.out.1; rwa [List.take_of_length_le (by omega)] at this))
                go_wp2_with fail
                go_roundw
                case rel => exact ⟨k + 1, us', by go_num, by omega, hus', hG6, Hst.out⟩
                case measure => simp [intOf]; omega
          · have bb : (b2 != 0) = true := by rw [bne_iff_ne]; exact hb
            have HRe := Lib.hid (Hno.out (by rw [Hhd.out]; simp [bb]))
            go_wp2_with fail
            go_ret
            exact ⟨ret_int HRe.out.symm, hbf⟩
        · have he : sym.isEmpty = false := by cases sym <;> simp_all
          have HRe := Lib.hid (Hno.out (by rw [Hhd.out]; simp [he]))
          go_wp2_with fail
          go_ret
          exact ⟨ret_int HRe.out.symm, hbf⟩
    · have hdk : decide ((k : Int) < (l.length : Int)) = false := by rw [decide_eq_false_iff_not]; omega
      have hU1 : nodesOk 0 l = true ∧ ∀ j, us.getD j 0 = usedS l j := by have := HU.out; rwa [List.take_of_length_le (by omega)] at this
      have hcell := fun j (hj : j < l.length) => hG.cell (x := j) (by omega)
      have hbG := hG.below
      have HU1 := Lib.hid hU1
      have Hcell := Lib.hid hcell
      clear hU1 hcell HU
      go_wp2_with fail
      go_loop [8] (fun v => ∃ j : Nat, v = .int .i64 j ∧ j ≤ l.length - 1 ∧ Hid (∀ m, m < j → usedS l m = 1)) (fun v => l.length - (intOf v).toNat)
      case atStart => exact ⟨0, rfl, Nat.zero_le _, fun m hm => absurd hm (by omega)⟩
      case round =>
        obtain ⟨j, rfl, hj, HV⟩ := hrel
        by_cases hjt : j < l.length - 1
        · have hdj : decide ((j : Int) < (l.length : Int) - 1) = true := by rw [decide_eq_true_eq]; omega
          have hji : (j : Int) < (l.length : Int) := by omega
          have hj0 : (0 : Int) ≤ (j : Int) := by omega
          obtain ⟨z0, _⟩ := Hcell.out j (by omega)
          have hval := HU1.out.2 j
          generalize us.getD j 0 = u at z0 hval
          by_cases hu1 : u = 1
          · have du : (((u : Nat) : Int) != 1) = false := by rw [hu1]; rfl
            have Hst : Hid (∀ m, m < j + 1 → usedS l m = 1) := fun m hm => by
              by_cases e : m = j
              · subst e; rw [← hval, hu1]
              · exact HV.out m (by omega)
            clear hval hu1
            go_wp2_with fail
            go_round
            case rel => exact ⟨j + 1, by go_num, by omega, Hst.out⟩
            case measure => simp [intOf]; omega
          · have du : (((u : Nat) : Int) != 1) = true := by rw [bne_iff_ne]; omega
            have hRe : R = 12 := by rw [HR.out]; exact regexE_form hbig (formedS_used hjt (by rw [← hval]; exact hu1))
            have HRe := Lib.hid hRe
            clear hval hu1 hRe
            go_wp2_with fail
            go_ret
            exact ⟨ret_int HRe.out.symm, hbG⟩
        · have hdj : decide ((j : Int) < (l.length : Int) - 1) = false := by rw [decide_eq_false_iff_not]; omega
          have hform : formedS l = true := formedS_all (by intro e; rw [e] at h0; exact h0 rfl) HU1.out.1 (fun m hm => HV.out m (by omega))
          have hRe : R = if l.any (fun n => decide (n.op = 2) && !isName n.sym) = true then 11 else 0 := by rw [HR.out]; exact regexE_name hbig hform
          have HRe := Lib.hid hRe
          clear hform hRe
          go_wp2_with fail
          go_loop [9] (fun v => ∃ i : Nat, v = .int .i64 i ∧ i ≤ l.length ∧ Hid (∀ n ∈ l.take i, (decide (n.op = 2) && !isName n.sym) = false)) (fun v => l.length - (intOf v).toNat)
          case atStart => exact ⟨0, rfl, Nat.zero_le _, fun m hm => by simp at hm⟩
          case round =>
            obtain ⟨i, rfl, hi2, HN⟩ := hrel
            by_cases hit : i < l.length
            · have hdi : decide ((i : Int) < (l.length : Int)) = true := by rw [decide_eq_true_eq]; omega
              have hii : (i : Int) < (l.length : Int) := by omega
              have hi0 : (0 : Int) ≤ (i : Int) := by omega
              obtain ⟨n, hx⟩ : ∃ n, l[i]? = some n := ⟨_, List.getElem?_eq_getElem hit⟩
              have hsl := Hs.out n (List.mem_of_getElem? hx)
              obtain ⟨b, off, rfl, hbl, x0, x1, x2, x3⟩ := (h.below hbG).at hx
              have hnext : (decide (n.op = 2) && !isName n.sym) = false → ∀ m ∈ l.take (i + 1), (decide (m.op = 2) && !isName m.sym) = false := fun he m hm => by
                rw [List.take_add_one, hx] at hm
                rcases List.mem_append.1 hm with hm | hm
                · exact HN.out m hm
                · simp at hm; subst hm; exact he
              have hbadn : (decide (n.op = 2) && !isName n.sym) = true → R = 11 := fun he => by
                rw [HRe.out, if_pos]
                exact List.any_eq_true.2 ⟨n, List.mem_of_getElem? hx, he⟩
              have his := refIsL_any n.sym wo hsl
              obtain ⟨op, sym, a, b2⟩ := n
              simp only at x0 x1 x2 x3 his hnext hbadn
              have Hnext := Lib.hid hnext
              have Hbadn := Lib.hid hbadn
              clear x2 x3 hx hnext hbadn
              by_cases h2 : op = 2
              · subst h2
                cases hq : isName sym with
                | true =>
                  rw [hq] at his
                  have Hst := Lib.hid (Hnext.out (by rw [hq]; rfl))
                  clear hq
                  go_wp2_with fail
                  refine his.mono ?_
                  rintro e w6 ⟨rfl, rfl⟩
                  clear his
                  go_wp2_with fail
                  go_round
                  case rel => exact ⟨i + 1, by go_num, by omega, Hst.out⟩
                  case measure => simp [intOf]; omega
                | false =>
                  rw [hq] at his
                  have HR11 := Lib.hid (Hbadn.out (by rw [hq]; rfl))
                  clear hq
                  go_wp2_with fail
                  refine his.mono ?_
                  rintro e w6 ⟨rfl, rfl⟩
                  clear his
                  go_wp2_with fail
                  go_ret
                  exact ⟨ret_int HR11.out.symm, hbG⟩
              · have d2 : (op == 2) = false := by rw [beq_eq_false_iff_ne]; exact h2
                have Hst := Lib.hid (Hnext.out (by simp [h2]))
                clear his
                go_wp2_with fail
                go_round
                case rel => exact ⟨i + 1, by go_num, by omega, Hst.out⟩
                case measure => simp [intOf]; omega
            · have hdi : decide ((i : Int) < (l.length : Int)) = false := by rw [decide_eq_false_iff_not]; omega
              have hRz : R = 0 := by
                rw [HRe.out, if_neg]
                rw [Bool.not_eq_true, List.any_eq_false]
                intro m hm
                have := HN.out m (by rwa [List.take_of_length_le (by omega)])
                rw [this]; simp
              have HRz := Lib.hid hRz
              clear hRz
              go_wp2_with fail
              go_ret
              exact ⟨ret_int HRz.out.symm, hbG⟩
theorem info_node7 : (Tryz.prog.info? 65).map (fun i => (i.zero, i.size, i.bytes)) = some (some (.agg #[.int .i64 0, .string ⟨#[]⟩, .int .i64 0, .int .i64 0]), 4, 40) := by kernel_rfl
theorem info_type9 : (Tryz.prog.info? 40).map (fun i => (i.zero, i.size, i.bytes)) = some (some zeroType, 6, 104) := by kernel_rfl
/-- an own row of the document's nodes -/
def RNodesOwn (w : World) (B : Nat) (v : Value) (l : List SNode) : Prop := w.ownsRow B 65 4 v l.length (l.flatMap nodeRow)
theorem rnodesOwn_snoc {w : World} {B : Nat} {v : Value} {l : List SNode} {n : SNode} (h : w.ownsRow B 65 4 v (l.length + 1) (l.flatMap nodeRow ++ nodeRow n)) : RNodesOwn w B v (l ++ [n]) := by
  unfold RNodesOwn
  rw [List.length_append, List.flatMap_append]
  simpa using h
set_option maxHeartbeats 4000000 in
set_option maxRecDepth 100000 in
theorem plain7_any (l : List SNode) (o : Option Addr) (cap : Nat) (w : World) (h : NodesAt w o cap l) (hl : l.length ≤ 1048576) :
    Calls Tryz.prog 20 #[.agg #[.slice o l.length cap]] w fun e w' => ∃ v, e = .returned v ∧ RNodesOwn w' w.heap.size v l ∧ Below w.heap.size w w' := by
  obtain ⟨i0, hi, hz0, hz1, hz2⟩ := info_parts info_node7
  have hlm := h.2.1
  have hcm := h.2.2.1
  unfold maxLen at hcm
  have hb0 : Below w.heap.size w (w.alloc (.cells #[.slice o l.length cap] 45)) := (Below.refl _ w).alloc (Nat.le_refl _) _
  have hx0 := heap_alloc_new w (.cells #[.slice o l.length cap] 45)
  have hz : w.heap.size + 1 ≤ (w.alloc (.cells #[.slice o l.length cap] 45)).heap.size := by simp
  go_enter Tryz.func20, Tryz.ntmps20
  go_wp2_with fail
  go_loopw [3, 4] (fun v i wr => ∃ k : Nat, i = .int .i64 k ∧ k ≤ l.length ∧ wr.heap[w.heap.size]? = some (.cells #[.slice o l.length cap] 45 (0, 0)) ∧ w.heap.size + 1 ≤ wr.heap.size ∧ RNodesOwn wr (w.heap.size + 1) v (l.take k) ∧ Below w.heap.size w wr) (fun _ i _ => l.length - (intOf i).toNat)
  case atStart => exact ⟨0, rfl, Nat.zero_le _, hx0, hz, World.ownsRow_nil _ _ _ _, hb0⟩
  case round =>
    obtain ⟨k, rfl, hk, hbx, hsz, hown, hbr⟩ := hrel
    clear hx0 hb0 hz
    have cs := cell_of_row wr w.heap.size 0 _ _ _ hbx
    by_cases hlt : k < l.length
    · have hdk : decide ((k : Int) < (l.length : Int)) = true := by rw [decide_eq_true_eq]; omega
      have hki : (k : Int) < (l.length : Int) := by omega
      have hk0 : (0 : Int) ≤ (k : Int) := by omega
      obtain ⟨n, hx⟩ : ∃ n, l[k]? = some n := ⟨_, List.getElem?_eq_getElem hlt⟩
      obtain ⟨b, off, rfl, hbl, x0, x1, x2, x3⟩ := (h.below hbr).at hx
      have htk : l.take (k + 1) = l.take k ++ [n] := by rw [List.take_add_one, hx]; rfl
      have hlk : (l.take k).length = k := by rw [List.length_take]; omega
      obtain ⟨op, sym, a, b2⟩ := n
      simp only at x0 x1 x2 x3
      unfold RNodesOwn at hown
      rw [hlk] at hown
      obtain ⟨vo, vc, rfl⟩ := ownRow_shape hown
      have how1 := World.ownsRow.alloc hown (.cells #[.int .i64 op, .string ⟨sym.toArray⟩, .int .i64 a, .int .i64 b2] 70)
      have Htk := Lib.hid htk
      have Hlk := Lib.hid hlk
      clear htk hx hlk
      go_wp2_with (first
        | (at_builtin; go_must (refine wpList_append_own _ rfl _ _ 38 rfl (w.heap.size + 1) 65 i0 (.agg #[.int .i64 0, .string ⟨#[]⟩, .int .i64 0, .int .i64 0]) 4 40 Tryz.underlying38 hi hz0 hz1 hz2 rfl (by decide) _ _ _ rfl (World.ownsRow.alloc how1 _) ⟨wr.heap.size + 1, 0, none⟩ 1 1 [.int .i64 op, .string ⟨sym.toArray⟩, .int .i64 a, .int .i64 b2] rfl rfl (row_cells_new _ [.int .i64 op, .string ⟨sym.toArray⟩, .int .i64 a, .int .i64 b2] _ _ (by simp)) (fun z hz => by simp at hz; rcases hz with rfl | rfl | rfl | rfl <;> rfl) (by unfold maxLen; omega) (by omega) (by simp; omega) ?_); intro v1 w6 hown2 hg1 hnil1)
        | go_in)
      have hnr : ∀ j, j < w.heap.size + 1 → some j ≠ (Value.slice vo k vc).ownBlock := fun j hj e => by have := (World.ownsRow.lt hown j e.symm).1; omega
      go_roundw
      case rel =>
        refine ⟨k + 1, by go_num, by omega, ?_, ?_, ?_, ?_⟩
        · rw [hg1.block w.heap.size (by simp; omega) (hnr _ (by omega)), (below2 wr _ _).block w.heap.size (by omega)]
          exact hbx
        · have := hg1.size; simp at this; omega
        · rw [Htk.out]
          refine rnodesOwn_snoc ?_
          rw [Hlk.out]
          exact hown2
        · exact ((hbr.alloc hbr.size _).alloc (by have := hbr.size; simp; omega) _).grown hg1 (by have := hbr.size; simp; omega) (fun j e => by have := (World.ownsRow.lt hown j e).1; omega)
      case measure => simp [intOf]; omega
    · have hdk : decide ((k : Int) < (l.length : Int)) = false := by rw [decide_eq_false_iff_not]; omega
      rw [List.take_of_length_le (by omega)] at hown
      go_wp2_with fail
      go_ret
      exact ⟨_, rfl, ownRow_down hown (by omega), hbr⟩
/-- the document's types laid so far -/
structure PlSt (l : List TyV) (o : Option Addr) (cap : Nat) (w : World) (k : Nat) (v : Value) (ys : List TyV) (wr : World) : Prop where
  len : ys.length = k
  same : ∀ (i : Nat) (y : TyV), ys[i]? = some y → ∃ x : TyV, l[i]? = some x ∧ y.t = x.t ∧ y.ao = x.ao ∧ y.ac = x.ac
  row : wr.ownsRow (w.heap.size + 1) 40 6 v ys.length (ys.flatMap typeRow)
  each : ∀ y : TyV, y ∈ ys → wr.ownsRow (w.heap.size + 1) 65 4 (.slice y.no y.t.nodes.length y.nc) y.t.nodes.length (y.t.nodes.flatMap nodeRow)
  box : wr.heap[w.heap.size]? = some (.cells #[.slice o l.length cap] 24 (0, 0))
  below : Below w.heap.size w wr
theorem PlSt.add {l : List TyV} {o : Option Addr} {cap : Nat} {w : World} {k : Nat} {v v3 : Value} {ys : List TyV} {wr w1 w2 : World} {x y : TyV} (h : PlSt l o cap w k v ys wr) (hx : l[k]? = some x) (hy : y.t = x.t ∧ y.ao = x.ao ∧ y.ac = x.ac)
    (hb : Below wr.heap.size wr w1) (hn : w1.ownsRow wr.heap.size 65 4 (.slice y.no y.t.nodes.length y.nc) y.t.nodes.length (y.t.nodes.flatMap nodeRow))
    (hg : w1.grownBy w2 v.ownBlock) (h3 : w2.ownsRow (w.heap.size + 1) 40 6 v3 (ys.length + 1) (ys.flatMap typeRow ++ typeRow y)) : PlSt l o cap w (k + 1) v3 (ys ++ [y]) w2 := by
  have hbx := lt_of_block h.box
  have hnr : ∀ j, j < w.heap.size + 1 → some j ≠ v.ownBlock := fun j hj e => by have := (World.ownsRow.lt h.row j e.symm).1; omega
  have hrow1 : w1.ownsRow (w.heap.size + 1) 40 6 v ys.length (ys.flatMap typeRow) := World.ownsRow.kept (row := none) h.row (grown_below hb) (by cases e : v.ownBlock with | none => exact .inl rfl | some g => exact .inr (fun e2 => by cases e2))
  refine ⟨by rw [List.length_append, h.len]; rfl, ?_, by rw [List.length_append, List.flatMap_append]; simpa using h3, ?_, ?_, ?_⟩
  · intro i z hz
    by_cases e : i < ys.length
    · rw [List.getElem?_append_left e] at hz
      exact h.same i z hz
    · rw [List.getElem?_append_right (by omega)] at hz
      have e2 : i = k := by
        have h1 := (List.getElem?_eq_some_iff.1 hz).1
        have h2 := h.len
        rw [List.length_singleton] at h1
        omega
      subst e2
      rw [h.len, Nat.sub_self] at hz
      simp at hz
      subst hz
      exact ⟨x, hx, hy⟩
  · intro z hz
    have hz1 : w1.ownsRow (w.heap.size + 1) 65 4 (.slice z.no z.t.nodes.length z.nc) z.t.nodes.length (z.t.nodes.flatMap nodeRow) := by
      rcases List.mem_append.1 hz with hz | hz
      · exact World.ownsRow.kept (row := none) (h.each z hz) (grown_below hb) (by cases e : (Value.slice z.no z.t.nodes.length z.nc).ownBlock with | none => exact .inl rfl | some g => exact .inr (fun e2 => by cases e2))
      · simp at hz; subst hz
        exact ownRow_down hn (by omega)
    exact World.ownsRow.kept hz1 hg (ownsRow_apart hz1 hrow1 (by decide))
  · rw [hg.block w.heap.size (by have := hb.size; omega) (hnr _ (by omega)), hb.block w.heap.size (by omega)]
    exact h.box
  · exact (h.below.trans (hb.mono h.below.size)).grown hg (by have := hb.size; have := h.below.size; omega) (fun j e => by have := (World.ownsRow.lt h.row j e).1; omega)
theorem PlSt.done {l : List TyV} {o : Option Addr} {cap : Nat} {w wr : World} {vo : Option Addr} {vc : Nat} {ys : List TyV} (h : PlSt l o cap w l.length (.slice vo l.length vc) ys wr) (hT : TypesAt w o cap l) : ys.length = l.length ∧ ys.map TyV.t = l.map TyV.t ∧ TypesAt wr vo vc ys := by
  refine ⟨h.len, ?_, ?_, ?_⟩
  · refine List.ext_getElem? fun i => ?_
    rw [List.getElem?_map, List.getElem?_map]
    cases e : ys[i]? with
    | some y =>
      obtain ⟨x, hx, h1, _⟩ := h.same i y e
      rw [hx]
      simp [h1]
    | none =>
      rw [List.getElem?_eq_none_iff] at e
      rw [List.getElem?_eq_none (by have := h.len; omega)]
  · have := h.row
    rw [← h.len] at this
    exact rowAt_of this
  · intro y hy
    obtain ⟨i, hi⟩ := List.mem_iff_getElem?.1 hy
    obtain ⟨x, hx, h1, h2, h3⟩ := h.same i y hi
    refine ⟨?_, rowAt_of (h.each y hy)⟩
    have := ((hT.below h.below).2 x (List.mem_of_getElem? hx)).1
    rw [h1, h2, h3]
    exact this
set_option maxHeartbeats 4000000 in
set_option maxRecDepth 100000 in
theorem plain9_any (l : List TyV) (o : Option Addr) (cap : Nat) (w : World) (h : TypesAt w o cap l) (hL : Lim l) (hn : ∀ x ∈ l, x.t.nodes.length ≤ 1048576) :
    Calls Tryz.prog 8 #[.agg #[.slice o l.length cap]] w fun e w' => ∃ ys o' c', e = .returned (.slice o' ys.length c') ∧ ys.map TyV.t = l.map TyV.t ∧ TypesAt w' o' c' ys ∧ Below w.heap.size w w' := by
  obtain ⟨i0, hi, hz0, hz1, hz2⟩ := info_parts info_type9
  unfold zeroType at hz0
  have hll := hL.len
  have hcm := h.1.2.2.1
  unfold maxLen at hcm
  have hp0 : PlSt l o cap w 0 (.slice none 0 0) [] (w.alloc (.cells #[.slice o l.length cap] 24)) :=
    ⟨rfl, fun i y hy => by simp at hy, World.ownsRow_nil _ _ _ _, fun y hy => by simp at hy, heap_alloc_new w _, (Below.refl _ w).alloc (Nat.le_refl _) _⟩
  have hpc := fun l' o' cap' w' h' hl' => plain7_any l' o' cap' w' h' hl'
  unfold RNodesOwn at hpc
  have Hpc := Lib.hid hpc
  have Hn := Lib.hid hn
  clear hpc hn
  go_enter Tryz.func8, Tryz.ntmps8
  go_wp2_with fail
  go_loopw [3, 4] (fun v i wr => ∃ (k : Nat) (ys : List TyV), i = .int .i64 k ∧ k ≤ l.length ∧ PlSt l o cap w k v ys wr) (fun _ i _ => l.length - (intOf i).toNat)
  case atStart => exact ⟨0, [], rfl, Nat.zero_le _, hp0⟩
  case round =>
    obtain ⟨k, ys, rfl, hk, hP⟩ := hrel
    clear hp0
    have cs := cell_of_row wr w.heap.size 0 _ _ _ hP.box
    by_cases hlt : k < l.length
    · have hdk : decide ((k : Int) < (l.length : Int)) = true := by rw [decide_eq_true_eq]; omega
      have hki : (k : Int) < (l.length : Int) := by omega
      have hk0 : (0 : Int) ≤ (k : Int) := by omega
      obtain ⟨x, hx⟩ : ∃ n, l[k]? = some n := ⟨_, List.getElem?_eq_getElem hlt⟩
      have hxn := ((h.below hP.below).2 x (List.mem_of_getElem? hx)).2
      have hxl := Hn.out x (List.mem_of_getElem? hx)
      obtain ⟨b, off, rfl, hbl, x0, x1, x2, x3, x4, x5⟩ := (h.below hP.below).at hx
      have Hx := Lib.hid hx
      obtain ⟨⟨name, label, attrs, key, text, nodes⟩, ao, ac, no, nc⟩ := x
      simp only at x0 x1 x2 x3 x4 x5 hxn hxl
      obtain ⟨vo, vc, rfl⟩ := ownRow_shape hP.row
      obtain rfl := hP.len
      have HP := Lib.hid hP
      have hrow := hP.row
      have hbs := hP.below.size
      clear hx hP
      go_wp2_with fail
      obtain ⟨wa, hwa⟩ : ∃ wa, wa = wr.alloc (.cells #[.string ⟨name.toArray⟩, .string ⟨label.toArray⟩, .slice ao attrs.length ac, .string ⟨key.toArray⟩, .bool text, .slice no nodes.length nc] 47) := ⟨_, rfl⟩
      rw [← hwa]
      have hba : Below wr.heap.size wr wa := by rw [hwa]; exact (Below.refl _ wr).alloc (Nat.le_refl _) _
      have hlta : wr.heap.size < wa.heap.size := by rw [hwa]; simp
      have rc := row_cells_new wr [.string ⟨name.toArray⟩, .string ⟨label.toArray⟩, .slice ao attrs.length ac, .string ⟨key.toArray⟩, .bool text, .slice no nodes.length nc] 47 _ rfl
      have hX : ∀ w', Below wa.heap.size wa w' → w'.cell? ⟨wr.heap.size, 0, none⟩ = some (.string ⟨name.toArray⟩) ∧ w'.cell? ⟨wr.heap.size, 1, none⟩ = some (.string ⟨label.toArray⟩) ∧ w'.cell? ⟨wr.heap.size, 2, none⟩ = some (.slice ao attrs.length ac) ∧ w'.cell? ⟨wr.heap.size, 3, none⟩ = some (.string ⟨key.toArray⟩) ∧ w'.cell? ⟨wr.heap.size, 4, none⟩ = some (.bool text) ∧ w'.cell? ⟨wr.heap.size, 5, none⟩ = some (.slice no nodes.length nc) := by
        rw [hwa]
        intro w' hb
        have hl : wr.heap.size < (wr.alloc (.cells #[.string ⟨name.toArray⟩, .string ⟨label.toArray⟩, .slice ao attrs.length ac, .string ⟨key.toArray⟩, .bool text, .slice no nodes.length nc] 47)).heap.size := by simp
        exact ⟨(hb.cell (p := ⟨wr.heap.size, 0, none⟩) hl).trans (rc 0 _ rfl), (hb.cell (p := ⟨wr.heap.size, 1, none⟩) hl).trans (rc 1 _ rfl), (hb.cell (p := ⟨wr.heap.size, 2, none⟩) hl).trans (rc 2 _ rfl), (hb.cell (p := ⟨wr.heap.size, 3, none⟩) hl).trans (rc 3 _ rfl), (hb.cell (p := ⟨wr.heap.size, 4, none⟩) hl).trans (rc 4 _ rfl), (hb.cell (p := ⟨wr.heap.size, 5, none⟩) hl).trans (rc 5 _ rfl)⟩
      have hxa : ∀ w', Below wa.heap.size wa w' → NodesAt w' no nc nodes := fun w' hb => hxn.below (bel_next hba hb)
      have hra : ∀ w', Below wa.heap.size wa w' → w'.ownsRow (w.heap.size + 1) 40 6 (.slice vo ys.length vc) ys.length (ys.flatMap typeRow) := fun w' hb => World.ownsRow.kept (row := none) hrow (grown_below (bel_next hba hb)) (by cases e : (Value.slice vo ys.length vc).ownBlock with | none => exact .inl rfl | some g => exact .inr (fun e2 => by cases e2))
      have hbd := (Below.refl wa.heap.size wa).drew
      have hG : ∀ u u' : World, Below wa.heap.size wa u → u.grownBy u' (Value.slice vo ys.length vc).ownBlock → u'.cell? ⟨wr.heap.size, 0, none⟩ = some (.string ⟨name.toArray⟩) ∧ u'.cell? ⟨wr.heap.size, 1, none⟩ = some (.string ⟨label.toArray⟩) ∧ u'.cell? ⟨wr.heap.size, 2, none⟩ = some (.slice ao attrs.length ac) ∧ u'.cell? ⟨wr.heap.size, 3, none⟩ = some (.string ⟨key.toArray⟩) ∧ u'.cell? ⟨wr.heap.size, 4, none⟩ = some (.bool text) ∧ u'.cell? ⟨wr.heap.size, 5, none⟩ = some (.slice no nodes.length nc) := by
        intro u u' hb hg
        have hne : some wr.heap.size ≠ (Value.slice vo ys.length vc).ownBlock := fun e => by have := (World.ownsRow.lt hrow _ e.symm).2; omega
        have hlu : wr.heap.size < u.heap.size := by have := hb.size; omega
        obtain ⟨c0, c1, c2, c3, c4, c5⟩ := hX u hb
        exact ⟨(hg.cell_far ⟨wr.heap.size, 0, none⟩ hlu hne).trans c0, (hg.cell_far ⟨wr.heap.size, 1, none⟩ hlu hne).trans c1, (hg.cell_far ⟨wr.heap.size, 2, none⟩ hlu hne).trans c2, (hg.cell_far ⟨wr.heap.size, 3, none⟩ hlu hne).trans c3, (hg.cell_far ⟨wr.heap.size, 4, none⟩ hlu hne).trans c4, (hg.cell_far ⟨wr.heap.size, 5, none⟩ hlu hne).trans c5⟩
      have HG := Lib.hid hG
      have HX := Lib.hid hX
      have Hxa := Lib.hid hxa
      have Hra := Lib.hid hra
      clear hX hxa hra hG rc hwa hxn x0 x1 x2 x3 x4 x5 cs hrow
      go_region_held3 (fun w' => w'.cell? ⟨wr.heap.size, 0, none⟩ = some (.string ⟨name.toArray⟩) ∧ w'.cell? ⟨wr.heap.size, 1, none⟩ = some (.string ⟨label.toArray⟩) ∧ w'.cell? ⟨wr.heap.size, 2, none⟩ = some (.slice ao attrs.length ac) ∧ w'.cell? ⟨wr.heap.size, 3, none⟩ = some (.string ⟨key.toArray⟩) ∧ w'.cell? ⟨wr.heap.size, 4, none⟩ = some (.bool text) ∧ w'.cell? ⟨wr.heap.size, 5, none⟩ = some (.slice no nodes.length nc))
        (first
          | exact HX.out _ (by assumption)
          | exact HX.out _ (Below.alloc (by assumption) (Below.size (by assumption)) _)
          | exact HX.out _ ((Below.alloc (by assumption) (Below.size (by assumption)) _).drew)
          | exact HG.out _ _ (Below.alloc hbw hbw.size _) hgrow)
        (first
          | (go_at_call 20; refine (Hpc.out nodes no nc _ (Hxa.out _ (by assumption)) hxl).mono ?_; rintro e w'' ⟨v7, rfl, hown7, hbn⟩; have hbw := bel_next (w0 := wa) (by assumption) hbn; obtain ⟨no2, nc2, rfl⟩ := ownRow_shape hown7)
          | ((refine step_append_lies _ (by rfl) _ _ _ (by rfl) (w.heap.size + 1) 40 i0 _ 6 104 Tryz.underlying27 hi hz0 hz1 hz2 rfl (by omega) (.slice vo ys.length vc) ys.length (ys.flatMap typeRow) (by rfl) (by (first | exact World.ownsRow.alloc (Hra.out _ hbw) _ | exact (World.ownsRow.alloc (Hra.out _ hbw) _).drew)) ⟨w''.heap.size, 0, none⟩ 1 1 [.string ⟨name.toArray⟩, .string ⟨label.toArray⟩, .slice ao attrs.length ac, .string ⟨key.toArray⟩, .bool text, .slice no2 nodes.length nc2] (by rfl) (by rfl) (by exact row_cells_new w'' [.string ⟨name.toArray⟩, .string ⟨label.toArray⟩, .slice ao attrs.length ac, .string ⟨key.toArray⟩, .bool text, .slice no2 nodes.length nc2] _ _ rfl) (fun z hz => by simp at hz; rcases hz with rfl | rfl | rfl | rfl | rfl | rfl <;> rfl) (by omega) (by unfold maxLen; omega) (by omega) (by have := hbw.size; have := hba.size; simp; omega) _ rfl ?_; intro gg gc w1 hown1 hgrow hat hlt2)))
      clear HX HG Hxa Hra hbd
      go_wp2_with fail
      go_roundw
      case rel =>
        refine ⟨ys.length + 1, ys ++ [⟨⟨name, label, attrs, key, text, nodes⟩, ao, ac, no2, nc2⟩], by go_num, by omega, ?_⟩
        have hbw2 := bel_next hba hbw
        refine HP.out.add (w1 := w''.alloc (.cells #[.string ⟨name.toArray⟩, .string ⟨label.toArray⟩, .slice ao attrs.length ac, .string ⟨key.toArray⟩, .bool text, .slice no2 nodes.length nc2] 40)) Hx.out ⟨rfl, rfl, rfl⟩ (hbw2.alloc hbw2.size _) ?_ hgrow hown1
        refine ownRow_down (World.ownsRow.alloc hown7 _) ?_
        have := hba.size
        simp <;> omega
      case measure => simp [intOf]; omega
    · have hdk : decide ((k : Int) < (l.length : Int)) = false := by rw [decide_eq_false_iff_not]; omega
      obtain rfl : k = l.length := by omega
      obtain ⟨vo, vc, rfl⟩ := ownRow_shape hP.row
      have hlen := hP.len
      rw [hlen] at hP
      obtain ⟨q1, q2, q3⟩ := hP.done h
      have hbw := hP.below
      clear hP
      rw [hlen]
      go_wp2_with fail
      go_ret
      exact ⟨ys, vo, vc, by rw [hlen]; rfl, q2, q3, hbw⟩
/-- the first type of a name -/
def findG : Nat → List SType → Bytes → Int
  | _, [], _ => -1
  | i, t :: ts, n => if t.name = n then (i : Int) else findG (i + 1) ts n
def findR (ts : List SType) (n : Bytes) : Int := findG 0 ts n
theorem dropT {l : List TyV} {k : Nat} {x : TyV} (h : l[k]? = some x) : (l.map TyV.t).drop k = x.t :: (l.map TyV.t).drop (k + 1) := by
  obtain ⟨hk, e⟩ := List.getElem?_eq_some_iff.1 h
  rw [List.drop_eq_getElem_cons (by rw [List.length_map]; exact hk)]
  simp [e]
set_option maxHeartbeats 1000000 in
set_option maxRecDepth 100000 in
theorem refFind_any (l : List TyV) (o : Option Addr) (cap : Nat) (w : World) (h : TypesAt w o cap l) (hl : l.length ≤ 1048576) (n : Bytes) :
    Calls Tryz.prog 27 #[.slice o l.length cap, .string ⟨n.toArray⟩] w fun e w' => e = .returned (.int .i64 (findR (l.map TyV.t) n)) ∧ w = w' := by
  obtain ⟨R, hR⟩ : ∃ R, R = findR (l.map TyV.t) n := ⟨_, rfl⟩
  rw [← hR]
  unfold findR at hR
  have hcm := h.1.2.2.1
  unfold maxLen at hcm
  have HR := Lib.hid hR
  clear hR
  go_enter Tryz.func27, Tryz.ntmps27
  go_wp2_with fail
  go_loop [5] (fun i => ∃ k : Nat, i = .int .i64 k ∧ k ≤ l.length ∧ Hid (R = findG k ((l.map TyV.t).drop k) n)) (fun i => l.length - (intOf i).toNat)
  case atStart => exact ⟨0, rfl, Nat.zero_le _, HR.out⟩
  case round =>
    obtain ⟨k, rfl, hk, HK⟩ := hrel
    clear HR
    by_cases hlt : k < l.length
    · have hdk : decide ((k : Int) < (l.length : Int)) = true := by rw [decide_eq_true_eq]; omega
      have hki : (k : Int) < (l.length : Int) := by omega
      have hk0 : (0 : Int) ≤ (k : Int) := by omega
      obtain ⟨x, hx⟩ : ∃ n, l[k]? = some n := ⟨_, List.getElem?_eq_getElem hlt⟩
      obtain ⟨b, off, rfl, hbl, x0, x1, x2, x3, x4, x5⟩ := h.at hx
      have hst := HK.out
      rw [dropT hx] at hst
      unfold findG at hst
      clear x1 x2 x3 x4 x5 hx
      by_cases hq : x.t.name = n
      · rw [if_pos hq] at hst
        have Hst := Lib.hid hst
        rw [hq] at x0
        clear hst hq
        go_wp2_with fail
        go_ret
        exact ⟨ret_int Hst.out.symm, rfl⟩
      · have hbeq : (x.t.name == n) = false := by simpa using hq
        rw [if_neg hq] at hst
        have Hst := Lib.hid hst
        clear hst hq
        go_wp2_with fail
        go_round
        case rel => exact ⟨k + 1, by go_num, by omega, Hst.out⟩
        case measure => simp [intOf]; omega
    · have hdk : decide ((k : Int) < (l.length : Int)) = false := by rw [decide_eq_false_iff_not]; omega
      have hst := HK.out
      rw [List.drop_of_length_le (by rw [List.length_map]; omega)] at hst
      unfold findG at hst
      have Hst := Lib.hid hst
      clear hst
      go_wp2_with fail
      go_ret
      exact ⟨ret_int Hst.out.symm, rfl⟩
set_option maxHeartbeats 1000000 in
set_option maxRecDepth 100000 in
theorem refHas_any (ws : List Bytes) (o : Option Addr) (cap : Nat) (w : World) (h : WordsIn w o cap ws) (hl : ws.length ≤ 1048576) (n : Bytes) :
    Calls Tryz.prog 42 #[.slice o ws.length cap, .string ⟨n.toArray⟩] w fun e w' => e = .returned (.bool (ws.contains n)) ∧ w = w' := by
  obtain ⟨R, hR⟩ : ∃ R, R = ws.contains n := ⟨_, rfl⟩
  rw [← hR]
  have hcm := h.2.2.1
  unfold maxLen at hcm
  have HR := Lib.hid hR
  clear hR
  go_enter Tryz.func42, Tryz.ntmps42
  go_wp2_with fail
  go_loop [5] (fun i => ∃ k : Nat, i = .int .i64 k ∧ k ≤ ws.length ∧ Hid (R = (ws.drop k).contains n)) (fun i => ws.length - (intOf i).toNat)
  case atStart => exact ⟨0, rfl, Nat.zero_le _, HR.out⟩
  case round =>
    obtain ⟨k, rfl, hk, HK⟩ := hrel
    clear HR
    by_cases hlt : k < ws.length
    · have hdk : decide ((k : Int) < (ws.length : Int)) = true := by rw [decide_eq_true_eq]; omega
      have hki : (k : Int) < (ws.length : Int) := by omega
      have hk0 : (0 : Int) ≤ (k : Int) := by omega
      obtain ⟨x, hx⟩ : ∃ n, ws[k]? = some n := ⟨_, List.getElem?_eq_getElem hlt⟩
      obtain ⟨g, off, rfl, hgl, x0⟩ := h.at hx
      have hst := HK.out
      rw [drop_at' hx, List.contains_cons] at hst
      clear hx
      by_cases hq : x = n
      · subst hq
        rw [beq_self_eq_true, Bool.true_or] at hst
        have Hst := Lib.hid hst
        clear hst
        go_wp2_with fail
        go_ret
        exact ⟨ret_bool Hst.out.symm, rfl⟩
      · have hbeq : (x == n) = false := by simpa using hq
        have hbeq2 : (n == x) = false := by simpa using fun e : n = x => hq e.symm
        rw [hbeq2, Bool.false_or] at hst
        have Hst := Lib.hid hst
        clear hst hbeq2 hq
        go_wp2_with fail
        go_round
        case rel => exact ⟨k + 1, by go_num, by omega, Hst.out⟩
        case measure => simp [intOf]; omega
    · have hdk : decide ((k : Int) < (ws.length : Int)) = false := by rw [decide_eq_false_iff_not]; omega
      have hst := HK.out
      rw [List.drop_of_length_le (by omega)] at hst
      have Hst := Lib.hid (show R = false from hst)
      clear hst
      go_wp2_with fail
      go_ret
      exact ⟨ret_bool Hst.out.symm, rfl⟩
theorem unnamed_of {t : SType} (ha : t.attrs.any (fun a => !isName a) = false) : (!unnamedS t) = (isName t.name && isName t.label && (t.key.isEmpty || isName t.key)) := by
  unfold unnamedS
  rw [ha]
  cases isName t.name <;> cases isName t.label <;> cases t.key.isEmpty <;> cases isName t.key <;> rfl
set_option maxHeartbeats 2000000 in
set_option maxRecDepth 100000 in
theorem refNamed_any (x : TyV) (w : World) (hW : WordsIn w x.ao x.ac x.t.attrs) (h1 : x.t.name.length ≤ 1048576) (h2 : x.t.label.length ≤ 1048576) (h3 : x.t.key.length ≤ 1048576) (h4 : x.t.attrs.length ≤ 1048576) (h5 : ∀ a ∈ x.t.attrs, a.length ≤ 1048576) :
    Calls Tryz.prog 21 #[typeVal x] w fun e w' => e = .returned (.bool (!unnamedS x.t)) ∧ Below w.heap.size w w' := by
  obtain ⟨R, hR⟩ : ∃ R, R = !unnamedS x.t := ⟨_, rfl⟩
  rw [← hR]
  have hno : ∀ a ∈ x.t.attrs, isName a = false → R = false := fun a ha hn => by
    rw [hR]
    unfold unnamedS
    have : x.t.attrs.any (fun a => !isName a) = true := List.any_eq_true.2 ⟨a, ha, by rw [hn]; rfl⟩
    rw [this]
    simp
  have hyes : x.t.attrs.any (fun a => !isName a) = false → R = (isName x.t.name && isName x.t.label && (x.t.key.isEmpty || isName x.t.key)) := fun ha => by rw [hR]; exact unnamed_of ha
  have i1 := fun w1 => refIsL_any x.t.name w1 h1
  have i2 := fun w1 => refIsL_any x.t.label w1 h2
  have i3 := fun w1 => refIsL_any x.t.key w1 h3
  have i4 := fun a w1 (ha : a ∈ x.t.attrs) => refIsL_any a w1 (h5 a ha)
  have hcm := hW.2.2.1
  unfold maxLen at hcm
  have hlm := hW.2.1
  obtain ⟨⟨name, label, attrs, key, text, nodes⟩, ao, ac, no, nc⟩ := x
  unfold typeVal typeRow
  simp only at hno hyes i1 i2 i3 i4 hW h1 h2 h3 h4 hcm hlm ⊢
  have hb0 : Below w.heap.size w (w.alloc (.cells #[.string ⟨name.toArray⟩, .string ⟨label.toArray⟩, .slice ao attrs.length ac, .string ⟨key.toArray⟩, .bool text, .slice no nodes.length nc] 40)) := (Below.refl _ w).alloc (Nat.le_refl _) _
  have rc := row_cells_new w [.string ⟨name.toArray⟩, .string ⟨label.toArray⟩, .slice ao attrs.length ac, .string ⟨key.toArray⟩, .bool text, .slice no nodes.length nc] 40 _ rfl
  have c0 := rc 0 _ rfl
  have c1 := rc 1 _ rfl
  have c2 := rc 2 _ rfl
  have c3 := rc 3 _ rfl
  have hw1 := hW.below hb0
  have Hno := Lib.hid hno
  have Hyes := Lib.hid hyes
  have I1 := Lib.hid i1
  have I2 := Lib.hid i2
  have I3 := Lib.hid i3
  have I4 := Lib.hid i4
  clear hR rc hno hyes i1 i2 i3 i4 h5 hW
  go_enter Tryz.func21, Tryz.ntmps21
  go_wp2_with fail
  go_loop [3] (fun i => ∃ k : Nat, i = .int .i64 k ∧ k ≤ attrs.length ∧ Hid ((attrs.take k).any (fun a => !isName a) = false)) (fun i => attrs.length - (intOf i).toNat)
  case atStart => exact ⟨0, rfl, Nat.zero_le _, rfl⟩
  case round =>
    obtain ⟨k, rfl, hk, HK⟩ := hrel
    by_cases hlt : k < attrs.length
    · have hdk : decide ((k : Int) < (attrs.length : Int)) = true := by rw [decide_eq_true_eq]; omega
      have hki : (k : Int) < (attrs.length : Int) := by omega
      have hk0 : (0 : Int) ≤ (k : Int) := by omega
      obtain ⟨a, hx⟩ : ∃ n, attrs[k]? = some n := ⟨_, List.getElem?_eq_getElem hlt⟩
      obtain ⟨g, off, rfl, hgl, x0⟩ := hw1.at hx
      have ha := List.mem_of_getElem? hx
      have hia := fun w1 => I4.out a w1 ha
      cases hq : isName a with
      | true =>
        have Hst : Hid ((attrs.take (k + 1)).any (fun a => !isName a) = false) := by
          show _ = _
          rw [List.take_add_one, hx, List.any_append, HK.out]
          simp [hq]
        rw [hq] at hia
        clear hx ha hq
        go_wp2_with fail
        refine (hia _).mono ?_
        rintro e w6 ⟨rfl, rfl⟩
        clear hia
        go_wp2_with fail
        go_round
        case rel => exact ⟨k + 1, by go_num, by omega, Hst.out⟩
        case measure => simp [intOf]; omega
      | false =>
        have HR := Lib.hid (Hno.out a ha hq)
        rw [hq] at hia
        clear hx ha hq
        go_wp2_with fail
        refine (hia _).mono ?_
        rintro e w6 ⟨rfl, rfl⟩
        clear hia
        go_wp2_with fail
        go_ret
        exact ⟨ret_bool HR.out.symm, hb0⟩
    · have hdk : decide ((k : Int) < (attrs.length : Int)) = false := by rw [decide_eq_false_iff_not]; omega
      have hRe : R = (isName name && isName label && (key.isEmpty || isName key)) := Hyes.out (by have := HK.out; rwa [List.take_of_length_le (by omega)] at this)
      have HRe := Lib.hid hRe
      have j1 := I1.out
      have j2 := I2.out
      have j3 := I3.out
      clear hRe Hyes Hno I4 HK
      generalize isName name = q1 at j1 HRe
      generalize isName label = q2 at j2 HRe
      generalize isName key = q3 at j3 HRe
      cases q1 with
      | false =>
        have HR := Lib.hid (show R = false by rw [HRe.out]; rfl)
        go_wp2_with fail
        refine (j1 _).mono ?_
        rintro e w6 ⟨rfl, rfl⟩
        clear j1
        go_wp2_with fail
        go_ret
        exact ⟨ret_bool HR.out.symm, hb0⟩
      | true =>
        go_wp2_with fail
        refine (j1 _).mono ?_
        rintro e w6 ⟨rfl, rfl⟩
        clear j1
        cases q2 with
        | false =>
          have HR := Lib.hid (show R = false by rw [HRe.out]; rfl)
          go_wp2_with fail
          refine (j2 _).mono ?_
          rintro e w6 ⟨rfl, rfl⟩
          clear j2
          go_wp2_with fail
          go_ret
          exact ⟨ret_bool HR.out.symm, hb0⟩
        | true =>
          go_wp2_with fail
          refine (j2 _).mono ?_
          rintro e w6 ⟨rfl, rfl⟩
          clear j2
          rcases Classical.em (key = []) with hk0 | hk0
          · subst hk0
            have HR := Lib.hid (show R = true by rw [HRe.out]; rfl)
            go_wp2_with fail
            go_ret
            exact ⟨ret_bool HR.out.symm, hb0⟩
          · have he : key.isEmpty = false := by cases key <;> simp_all
            have HR := Lib.hid (show R = q3 by rw [HRe.out, he]; rfl)
            go_wp2_with fail
            refine (j3 _).mono ?_
            rintro e w6 ⟨rfl, rfl⟩
            clear j3
            go_wp2_with fail
            go_ret
            exact ⟨ret_bool HR.out.symm, hb0⟩
/-- a row of numbers -/
def zVs (l : List Int) : List Value := l.map (Value.int .i64)
def ZOwn (w : World) (B : Nat) (v : Value) (l : List Int) : Prop := w.ownsRow B 3 1 v l.length (zVs l)
def ZIn (w : World) (o : Option Addr) (cap : Nat) (l : List Int) : Prop := RowAt w o l.length cap 1 (zVs l)
theorem ZIn.below {w w' : World} {o : Option Addr} {cap : Nat} {l : List Int} (h : ZIn w o cap l) (hb : Below w.heap.size w w') : ZIn w' o cap l := RowAt.below h hb
theorem ZIn.at {w : World} {o : Option Addr} {cap : Nat} {l : List Int} (h : ZIn w o cap l) {k : Nat} {x : Int} (hx : l[k]? = some x) :
    ∃ g off, o = some ⟨g, off, none⟩ ∧ g < w.heap.size ∧ w.cell? ⟨g, off + k, none⟩ = some (.int .i64 x) := by
  have hk := (List.getElem?_eq_some_iff.1 hx).1
  obtain ⟨g, off, e, hlt, hc⟩ := h.2.2.2 (by omega)
  exact ⟨g, off, e, hlt, hc k _ (by unfold zVs; rw [List.getElem?_map, hx]; rfl)⟩
/-- which types stand in a content: one step -/
def kidStep (ts : List SType) (out : List Int) (n : SNode) : List Int := if n.op = 2 then (if out.contains (findR ts n.sym) then out else out ++ [findR ts n.sym]) else out
def kidsR (ts : List SType) (l : List SNode) : List Int := l.foldl (kidStep ts) []
theorem kidsR_snoc {ts : List SType} {l : List SNode} {k : Nat} {n : SNode} (hx : l[k]? = some n) : kidsR ts (l.take (k + 1)) = kidStep ts (kidsR ts (l.take k)) n := by
  unfold kidsR
  rw [List.take_add_one, hx, Option.toList_some, List.foldl_append]
  rfl
theorem kidStep_len (ts : List SType) (out : List Int) (n : SNode) : (kidStep ts out n).length ≤ out.length + 1 := by
  unfold kidStep
  split
  · split <;> simp
  · omega
theorem kidsR_len (ts : List SType) : ∀ (l : List SNode) (out : List Int), (l.foldl (kidStep ts) out).length ≤ out.length + l.length := by
  intro l
  induction l with
  | nil => intro out; simp
  | cons n t ih => intro out; have := ih (kidStep ts out n); have := kidStep_len ts out n; simp only [List.foldl_cons, List.length_cons]; omega
theorem contains_step {out : List Int} {j : Nat} {z k : Int} (hj : out[j]? = some z) : (out.take (j + 1)).contains k = ((out.take j).contains k || (z == k)) := by
  rw [List.take_add_one, hj, Option.toList_some, List.contains_eq_any_beq, List.contains_eq_any_beq, List.any_append]
  simp only [List.any_cons, List.any_nil, Bool.or_false]
  congr 1
  rw [beqd, beqd]
  exact decide_eq_decide.2 ⟨Eq.symm, Eq.symm⟩
set_option maxHeartbeats 4000000 in
set_option maxRecDepth 100000 in
theorem refKids_any (l : List TyV) (o : Option Addr) (cap : Nat) (w : World) (h : TypesAt w o cap l) (hl : l.length ≤ 1048576) (x : TyV) (hN : NodesAt w x.no x.nc x.t.nodes) (hnl : x.t.nodes.length ≤ 1048576) :
    Calls Tryz.prog 13 #[.slice o l.length cap, typeVal x] w fun e w' => ∃ vo vc, e = .returned (.slice vo (kidsR (l.map TyV.t) x.t.nodes).length vc) ∧ ZIn w' vo vc (kidsR (l.map TyV.t) x.t.nodes) ∧ Below w.heap.size w w' := by
  obtain ⟨i0, hi, hz0, hz1, hz2⟩ := info_parts info_int
  have hfi := fun n w' (hb : Below w.heap.size w w') => refFind_any l o cap w' (h.below hb) hl n
  generalize l.map TyV.t = ts at hfi ⊢
  obtain ⟨⟨name, label, attrs, key, text, nodes⟩, ao, ac, no, nc⟩ := x
  unfold typeVal typeRow
  simp only at hN hnl ⊢
  have hncm := hN.2.2.1
  unfold maxLen at hncm
  have hnlm := hN.2.1
  have hb0 : Below w.heap.size w (w.alloc (.cells #[.string ⟨name.toArray⟩, .string ⟨label.toArray⟩, .slice ao attrs.length ac, .string ⟨key.toArray⟩, .bool text, .slice no nodes.length nc] 40)) := (Below.refl _ w).alloc (Nat.le_refl _) _
  have hx0 := heap_alloc_new w (.cells #[.string ⟨name.toArray⟩, .string ⟨label.toArray⟩, .slice ao attrs.length ac, .string ⟨key.toArray⟩, .bool text, .slice no nodes.length nc] 40)
  have hz : w.heap.size + 1 ≤ (w.alloc (.cells #[.string ⟨name.toArray⟩, .string ⟨label.toArray⟩, .slice ao attrs.length ac, .string ⟨key.toArray⟩, .bool text, .slice no nodes.length nc] 40)).heap.size := by simp
  have Hfi := Lib.hid hfi
  clear hfi h
  go_enter Tryz.func13, Tryz.ntmps13
  go_wp2_with fail
  go_loopw [5, 6] (fun v i wr => ∃ k : Nat, i = .int .i64 k ∧ k ≤ nodes.length ∧ wr.heap[w.heap.size]? = some (.cells #[.string ⟨name.toArray⟩, .string ⟨label.toArray⟩, .slice ao attrs.length ac, .string ⟨key.toArray⟩, .bool text, .slice no nodes.length nc] 40 (0, 0)) ∧ w.heap.size + 1 ≤ wr.heap.size ∧ ZOwn wr (w.heap.size + 1) v (kidsR ts (nodes.take k)) ∧ Below w.heap.size w wr) (fun _ i _ => nodes.length - (intOf i).toNat)
  case atStart => exact ⟨0, rfl, Nat.zero_le _, hx0, hz, World.ownsRow_nil _ _ _ _, hb0⟩
  case round =>
    obtain ⟨k, rfl, hk, hbx, hsz, hown, hbr⟩ := hrel
    obtain ⟨wo, hwo⟩ : ∃ wo, wo = wr := ⟨_, rfl⟩
    subst hwo
    clear hx0 hb0 hz
    have c5 := cell_of_row wo w.heap.size 5 _ _ _ hbx
    by_cases hlt : k < nodes.length
    · have hdk : decide ((k : Int) < (nodes.length : Int)) = true := by rw [decide_eq_true_eq]; omega
      have hki : (k : Int) < (nodes.length : Int) := by omega
      have hk0 : (0 : Int) ≤ (k : Int) := by omega
      obtain ⟨n, hx⟩ : ∃ n, nodes[k]? = some n := ⟨_, List.getElem?_eq_getElem hlt⟩
      obtain ⟨b, off, rfl, hbl, x0, x1, x2, x3⟩ := (hN.below hbr).at hx
      have hst := kidsR_snoc (ts := ts) hx
      have hlen := kidsR_len ts (nodes.take k) []
      rw [List.length_take, List.length_nil] at hlen
      change (kidsR ts (nodes.take k)).length ≤ _ at hlen
      have hf := Hfi.out n.sym wo hbr
      unfold kidStep at hst
      obtain ⟨op, sym, a, b2⟩ := n
      simp only at x0 x1 hf hst
      unfold ZOwn at hown
      clear x2 x3 hx
      by_cases h2 : op = 2
      · subst h2
        rw [if_pos rfl] at hst
        generalize findR ts sym = F at hf hst
        generalize hout : kidsR ts (nodes.take k) = out at hown hst hlen
        have Hst := Lib.hid hst
        clear hst hout
        obtain ⟨vo, vc, rfl⟩ := ownRow_shape hown
        have hin : ZIn wo vo vc out := rowAt_of hown
        have hvm := hin.2.1
        have hvc := hin.2.2.1
        unfold maxLen at hvc
        go_wp2_with fail
        refine hf.mono ?_
        rintro e w6 ⟨rfl, rfl⟩
        clear hf
        go_wp2_with fail
        go_loop [8, 9] (fun v j => ∃ i : Nat, j = .int .i64 i ∧ v = .bool ((out.take i).contains F) ∧ i ≤ out.length) (fun _ j => out.length - (intOf j).toNat)
        case atStart => exact ⟨0, rfl, rfl, Nat.zero_le _⟩
        case round =>
          obtain ⟨i, rfl, rfl, hi2⟩ := hrel
          by_cases hit : i < out.length
          · have hdi : decide ((i : Int) < (out.length : Int)) = true := by rw [decide_eq_true_eq]; omega
            have hii : (i : Int) < (out.length : Int) := by omega
            have hi00 : (0 : Int) ≤ (i : Int) := by omega
            obtain ⟨z, hzx⟩ : ∃ z, out[i]? = some z := ⟨_, List.getElem?_eq_getElem hit⟩
            obtain ⟨g, off2, rfl, hgl, z0⟩ := hin.at hzx
            have hcs := contains_step (k := F) hzx
            clear hzx
            cases hc : (out.take i).contains F with
            | true =>
              rw [hc, Bool.true_or] at hcs
              have Hcs := Lib.hid hcs
              clear hc hcs
              go_wp2_with fail
              go_round
              case rel => exact ⟨i + 1, by go_num, by rw [Hcs.out], by omega⟩
              case measure => simp [intOf]; omega
            | false =>
              rw [hc, Bool.false_or] at hcs
              have Hcs := Lib.hid hcs
              clear hc hcs
              go_wp2_with fail
              go_round
              case rel => exact ⟨i + 1, by go_num, by rw [Hcs.out], by omega⟩
              case measure => simp [intOf]; omega
          · have hdi : decide ((i : Int) < (out.length : Int)) = false := by rw [decide_eq_false_iff_not]; omega
            rw [List.take_of_length_le (by omega)]
            cases hc : out.contains F with
            | true =>
              have hs2 := Hst.out
              rw [if_pos hc] at hs2
              have Hs2 := Lib.hid hs2
              clear hc hs2
              go_wp2_with fail
              go_roundw
              case rel => exact ⟨k + 1, by go_num, by omega, hbx, hsz, by rw [Hs2.out]; exact hown, hbr⟩
              case measure => simp [intOf]; omega
            | false =>
              have hs2 := Hst.out
              rw [if_neg (by rw [hc]; simp)] at hs2
              have Hs2 := Lib.hid hs2
              have hnr : ∀ j, j < w.heap.size + 1 → some j ≠ (Value.slice vo out.length vc).ownBlock := fun j hj e => by have := (World.ownsRow.lt hown j e.symm).1; omega
              have hba : Below wo.heap.size wo (wo.alloc (.cells #[.int .i64 F] 3)) := (Below.refl _ wo).alloc (Nat.le_refl _) _
              clear hc hs2
              go_wp2_with (first
                | (at_builtin; go_must (refine wpList_append_own _ rfl _ _ 35 rfl (w.heap.size + 1) 3 i0 (.int .i64 0) 1 8 Tryz.underlying35 hi hz0 hz1 hz2 rfl (by decide) _ _ _ rfl (World.ownsRow.alloc hown _) ⟨wo.heap.size, 0, none⟩ 1 1 [.int .i64 F] rfl rfl (cells_new _ [.int .i64 F] _ _ rfl) (fun z hz => by simp at hz; subst hz; rfl) (by unfold maxLen; omega) (by omega) (by simp; omega) ?_); intro v1 w4 hown1 hg1 hnil1)
                | go_in)
              go_roundw
              case rel =>
                refine ⟨k + 1, by go_num, by omega, ?_, ?_, ?_, ?_⟩
                · rw [hg1.block w.heap.size (by simp; omega) (hnr _ (by omega)), hba.block w.heap.size (by omega)]
                  exact hbx
                · have := hg1.size; simp at this; omega
                · rw [Hs2.out]
                  unfold ZOwn
                  simpa [zVs] using hown1
                · exact (hbr.alloc hbr.size _).grown hg1 (by have := hbr.size; simp; omega) (fun j e => by have := (World.ownsRow.lt hown j e).1; omega)
              case measure => simp [intOf]; omega
      · have d2 : (op != 2) = true := by rw [bne_iff_ne]; exact h2
        rw [if_neg h2] at hst
        have Hst := Lib.hid hst
        clear hst hf
        go_wp2_with fail
        go_roundw
        case rel => exact ⟨k + 1, by go_num, by omega, hbx, hsz, by rw [Hst.out]; exact hown, hbr⟩
        case measure => simp [intOf]; omega
    · have hdk : decide ((k : Int) < (nodes.length : Int)) = false := by rw [decide_eq_false_iff_not]; omega
      rw [List.take_of_length_le (by omega)] at hown
      unfold ZOwn at hown
      obtain ⟨vo, vc, rfl⟩ := ownRow_shape hown
      have hin : ZIn wo vo vc (kidsR ts nodes) := rowAt_of hown
      go_wp2_with fail
      go_ret
      exact ⟨vo, vc, rfl, hin, hbr⟩
theorem twiceB_snoc (a : Bytes) : ∀ l : List Bytes, twiceB (l ++ [a]) = (twiceB l || l.contains a) := by
  intro l
  induction l with
  | nil => simp [twiceB]
  | cons b t ih =>
    simp only [List.cons_append, twiceB, ih, List.contains_cons]
    rw [Bool.eq_iff_iff]
    simp only [Bool.or_eq_true, List.contains_iff_mem, List.mem_append, List.mem_singleton, beq_iff_eq]
    constructor
    · rintro ((h | h) | h | h)
      · exact .inl (.inl h)
      · exact .inr (.inl h.symm)
      · exact .inl (.inr h)
      · exact .inr (.inr h)
    · rintro ((h | h) | h | h)
      · exact .inl (.inl h)
      · exact .inr (.inl h)
      · exact .inl (.inr h.symm)
      · exact .inr (.inr h)
theorem twiceB_left (b : List Bytes) : ∀ a : List Bytes, twiceB a = true → twiceB (a ++ b) = true := by
  intro a
  induction a with
  | nil => intro h; simp [twiceB] at h
  | cons c t ih =>
    intro h
    simp only [List.cons_append, twiceB, Bool.or_eq_true, List.contains_iff_mem] at h ⊢
    rcases h with h | h
    · exact .inl (List.mem_append_left _ h)
    · exact .inr (ih h)
def zLabels (ts : List SType) (zs : List Int) : List Bytes := zs.map fun z => labelAt ts z.toNat
theorem zLabels_at {ts : List SType} {zs : List Int} {i : Nat} {z : Int} (h : zs[i]? = some z) : (zLabels ts zs)[i]? = some (labelAt ts z.toNat) := by unfold zLabels; rw [List.getElem?_map, h]; rfl
set_option maxHeartbeats 4000000 in
set_option maxRecDepth 100000 in
theorem refTwice_any (l : List TyV) (o : Option Addr) (cap : Nat) (w : World) (h : TypesAt w o cap l) (hl : l.length ≤ 1048576) (zs : List Int) (vo : Option Addr) (vc : Nat) (hz : ZIn w vo vc zs) (hr : ∀ z ∈ zs, 0 ≤ z ∧ z < l.length) :
    Calls Tryz.prog 23 #[.slice o l.length cap, .slice vo zs.length vc] w fun e w' => e = .returned (.bool (twiceB (zLabels (l.map TyV.t) zs))) ∧ Below w.heap.size w w' := by
  obtain ⟨lbs, hlbs⟩ : ∃ lbs, lbs = zLabels (l.map TyV.t) zs := ⟨_, rfl⟩
  rw [← hlbs]
  obtain ⟨R, hR⟩ : ∃ R, R = twiceB lbs := ⟨_, rfl⟩
  rw [← hR]
  have hcm := h.1.2.2.1
  have hzm := hz.2.2.1
  have hzl := hz.2.1
  unfold maxLen at hcm hzm
  have hbl : lbs.length = zs.length := by rw [hlbs]; exact List.length_map _
  have hget : ∀ (i : Nat) (z : Int) (x : TyV), zs[i]? = some z → l[z.toNat]? = some x → lbs[i]? = some x.t.label := fun i z x h1 h2 => by
    rw [hlbs, zLabels_at h1, labelAt_eq (t := x.t) (by rw [List.getElem?_map, h2]; rfl)]
  have HR := Lib.hid hR
  have Hr := Lib.hid hr
  have Hget := Lib.hid hget
  have Hbl := Lib.hid hbl
  clear hR hlbs hr hget hbl
  go_enter Tryz.func23, Tryz.ntmps23
  go_wp2_with fail
  go_loopw [5] (fun v wr => ∃ i : Nat, v = .int .i64 i ∧ i ≤ zs.length ∧ Below w.heap.size w wr ∧ Hid (twiceB (lbs.take i) = false)) (fun v _ => zs.length - (intOf v).toNat)
  case atStart => exact ⟨0, rfl, Nat.zero_le _, Below.refl _ _, rfl⟩
  case round =>
    obtain ⟨i, rfl, hi, hbr, HT⟩ := hrel
    obtain ⟨wo, hwo⟩ : ∃ wo, wo = wr := ⟨_, rfl⟩
    subst hwo
    by_cases hlt : i < zs.length
    · have hdk : decide ((i : Int) < (zs.length : Int)) = true := by rw [decide_eq_true_eq]; omega
      have hki : (i : Int) < (zs.length : Int) := by omega
      have hk0 : (0 : Int) ≤ (i : Int) := by omega
      obtain ⟨z, hzi⟩ : ∃ n, zs[i]? = some n := ⟨_, List.getElem?_eq_getElem hlt⟩
      obtain ⟨r0, r1⟩ := Hr.out z (List.mem_of_getElem? hzi)
      obtain ⟨c, rfl⟩ : ∃ c : Nat, z = c := ⟨z.toNat, by omega⟩
      obtain ⟨x, hx⟩ : ∃ n, l[c]? = some n := ⟨_, List.getElem?_eq_getElem (by omega)⟩
      have hlx := Hget.out i c x hzi (by simpa using hx)
      have hsn : twiceB (lbs.take (i + 1)) = (lbs.take i).contains x.t.label := by
        rw [List.take_add_one, hlx, Option.toList_some, twiceB_snoc, HT.out, Bool.false_or]
      have Hsn := Lib.hid hsn
      have Hzi := Lib.hid hzi
      have Hx := Lib.hid hx
      clear hsn hzi hx hlx
      go_wp2_with fail
      go_loopw [6] (fun v wq => ∃ k : Nat, v = .int .i64 k ∧ k ≤ i ∧ Below w.heap.size w wq ∧ Hid ((lbs.take k).contains x.t.label = false)) (fun v _ => i - (intOf v).toNat)
      case atStart => exact ⟨0, rfl, Nat.zero_le _, hbr, rfl⟩
      case round =>
        obtain ⟨k, rfl, hk, hbq, HC⟩ := hrel
        by_cases hkt : k < i
        · have hdi : decide ((k : Int) < (i : Int)) = true := by rw [decide_eq_true_eq]; omega
          have hki2 : (k : Int) < (zs.length : Int) := by omega
          have hk00 : (0 : Int) ≤ (k : Int) := by omega
          obtain ⟨z2, hzk⟩ : ∃ n, zs[k]? = some n := ⟨_, List.getElem?_eq_getElem (by omega)⟩
          obtain ⟨r2, r3⟩ := Hr.out z2 (List.mem_of_getElem? hzk)
          obtain ⟨d, rfl⟩ : ∃ c : Nat, z2 = c := ⟨z2.toNat, by omega⟩
          obtain ⟨y, hy⟩ : ∃ n, l[d]? = some n := ⟨_, List.getElem?_eq_getElem (by omega)⟩
          have hly := Hget.out k d y hzk (by simpa using hy)
          have hcs : (lbs.take (k + 1)).contains x.t.label = (y.t.label == x.t.label) := by
            have := HC.out
            rw [List.contains_eq_any_beq] at this
            rw [List.take_add_one, hly, Option.toList_some, List.contains_eq_any_beq, List.any_append, this]
            simp only [List.any_cons, List.any_nil, Bool.or_false, Bool.false_or]
            by_cases e : y.t.label = x.t.label
            · rw [e]
            · rw [beq_eq_false_iff_ne.2 e, beq_eq_false_iff_ne.2 (Ne.symm e)]
          obtain ⟨g, goff, rfl, hgl, z0⟩ := (hz.below hbq).at Hzi.out
          obtain ⟨g', goff', e, hgl', z1⟩ := (hz.below hbq).at hzk
          injection e with e
          injection e with e1 e2
          subst e1; subst e2
          obtain ⟨b, off, rfl, hbl, _, x1, _⟩ := (h.below hbq).at Hx.out
          obtain ⟨b', off', e, _, _, y1, _⟩ := (h.below hbq).at hy
          injection e with e
          injection e with e1 e2
          subst e1; subst e2
          have Hcs := Lib.hid hcs
          clear hcs hly hy hzk
          by_cases hq : y.t.label = x.t.label
          · have Hst : Hid (R = true) := by
              show _ = _
              rw [HR.out, ← List.take_append_drop (i + 1) lbs]
              refine twiceB_left _ _ ?_
              rw [Hsn.out, List.contains_iff_mem]
              have := Hcs.out
              rw [hq, beq_self_eq_true, List.contains_iff_mem] at this
              exact (List.take_prefix_take_left (by omega : k + 1 ≤ i)).subset this
            rw [hq] at y1
            clear hq
            go_wp2_with fail
            go_quiet (fail)
            go_wp2_with fail
            go_ret
            exact ⟨ret_bool Hst.out.symm, below_drewN hbq _⟩
          · have hbeq : (x.t.label == y.t.label) = false := by simpa using fun e : x.t.label = y.t.label => hq e.symm
            have Hst : Hid ((lbs.take (k + 1)).contains x.t.label = false) := by show _ = _; rw [Hcs.out]; simpa using hq
            clear hq
            go_wp2_with fail
            go_quiet (fail)
            go_wp2_with fail
            go_roundw
            case rel => exact ⟨k + 1, by go_num, by omega, below_drewN hbq _, Hst.out⟩
            case measure => simp [intOf]; omega
        · have hdi : decide ((k : Int) < (i : Int)) = false := by rw [decide_eq_false_iff_not]; omega
          have Hst : Hid (twiceB (lbs.take (i + 1)) = false) := by
            show _ = _
            rw [Hsn.out]
            have e : k = i := by omega
            rw [← e]
            exact HC.out
          go_wp2_with fail
          go_roundw
          case rel => exact ⟨i + 1, by go_num, by omega, hbq, Hst.out⟩
          case measure => simp [intOf]; omega
    · have hdk : decide ((i : Int) < (zs.length : Int)) = false := by rw [decide_eq_false_iff_not]; omega
      have Hst : Hid (R = false) := by
        have := HT.out
        rw [List.take_of_length_le (by rw [Hbl.out]; omega)] at this
        show _ = _
        rw [HR.out]
        exact this
      go_wp2_with fail
      go_ret
      exact ⟨ret_bool Hst.out.symm, hbr⟩
set_option maxHeartbeats 4000000 in
set_option maxRecDepth 100000 in
theorem refKeyed_any (l : List TyV) (o : Option Addr) (cap : Nat) (w : World) (h : TypesAt w o cap l) (hL : Lim l) (x : TyV) (hN : NodesAt w x.no x.nc x.t.nodes) (hnl : x.t.nodes.length ≤ 1048576)
    (hr : ∀ z ∈ kidsR (l.map TyV.t) x.t.nodes, 0 ≤ z ∧ z < l.length) :
    Calls Tryz.prog 24 #[.slice o l.length cap, typeVal x] w fun e w' => e = .returned (.bool ((kidsR (l.map TyV.t) x.t.nodes).any (fun z => (attrsAt (l.map TyV.t) z.toNat).contains x.t.key) || x.t.key.isEmpty)) ∧ Below w.heap.size w w' := by
  have hki := fun w' (hb : Below w.heap.size w w') => refKids_any l o cap w' (h.below hb) hL.len x (hN.below hb) hnl
  have hll := hL.len
  have hcm := h.1.2.2.1
  unfold maxLen at hcm
  have hat : ∀ (k : Nat) (t : TyV), l[k]? = some t → attrsAt (l.map TyV.t) k = t.t.attrs := fun k t hk => attrsAt_eq (by rw [List.getElem?_map, hk]; rfl)
  have hal := hL.attrs
  have hhas := fun (ws : List Bytes) o c w1 h1 h2 => refHas_any ws o c w1 h1 h2 x.t.key
  obtain ⟨zs, hzs⟩ : ∃ zs, zs = kidsR (l.map TyV.t) x.t.nodes := ⟨_, rfl⟩
  rw [← hzs] at hki hr ⊢
  obtain ⟨R, hR⟩ : ∃ R, R = (zs.any (fun z => (attrsAt (l.map TyV.t) z.toNat).contains x.t.key) || x.t.key.isEmpty) := ⟨_, rfl⟩
  rw [← hR]
  obtain ⟨⟨name, label, attrs, key, text, nodes⟩, ao, ac, no, nc⟩ := x
  unfold typeVal typeRow at *
  simp only at hki hhas hR ⊢
  have hb0 : Below w.heap.size w (w.alloc (.cells #[.string ⟨name.toArray⟩, .string ⟨label.toArray⟩, .slice ao attrs.length ac, .string ⟨key.toArray⟩, .bool text, .slice no nodes.length nc] 40)) := (Below.refl _ w).alloc (Nat.le_refl _) _
  have hlt0 : w.heap.size < (w.alloc (.cells #[.string ⟨name.toArray⟩, .string ⟨label.toArray⟩, .slice ao attrs.length ac, .string ⟨key.toArray⟩, .bool text, .slice no nodes.length nc] 40)).heap.size := by simp
  have hx0 := heap_alloc_new w (.cells #[.string ⟨name.toArray⟩, .string ⟨label.toArray⟩, .slice ao attrs.length ac, .string ⟨key.toArray⟩, .bool text, .slice no nodes.length nc] 40)
  have hkc := hki _ hb0
  have HR := Lib.hid hR
  have Hr := Lib.hid hr
  have Hat := Lib.hid hat
  have Hal := Lib.hid hal
  have Hhas := Lib.hid hhas
  clear hR hr hat hal hhas hki hzs hN
  go_enter Tryz.func24, Tryz.ntmps24
  go_wp2_with fail
  refine hkc.mono ?_
  rintro e w3 ⟨vo, vc, rfl, hin, hb3⟩
  clear hkc
  have hb03 := bel_next hb0 hb3
  have hx3 := (hb3.block w.heap.size hlt0).trans hx0
  have hlt3 := lt_of_block hx3
  have hzm := hin.2.2.1
  have hzl := hin.2.1
  unfold maxLen at hzm
  clear hb3 hx0 hlt0 hb0
  go_wp2_with fail
  go_loopw [6] (fun v wr => ∃ i : Nat, v = .int .i64 i ∧ i ≤ zs.length ∧ Below w3.heap.size w3 wr ∧ Hid ((zs.take i).any (fun z => (attrsAt (l.map TyV.t) z.toNat).contains key) = false)) (fun v _ => zs.length - (intOf v).toNat)
  case atStart => exact ⟨0, rfl, Nat.zero_le _, Below.refl _ _, rfl⟩
  case round =>
    obtain ⟨i, rfl, hi, hbr, HT⟩ := hrel
    have hx4 := (hbr.block w.heap.size hlt3).trans hx3
    have c3 := cell_of_row wr w.heap.size 3 _ _ _ hx4
    by_cases hlt : i < zs.length
    · have hdk : decide ((i : Int) < (zs.length : Int)) = true := by rw [decide_eq_true_eq]; omega
      have hki : (i : Int) < (zs.length : Int) := by omega
      have hk0 : (0 : Int) ≤ (i : Int) := by omega
      obtain ⟨z, hzi⟩ : ∃ n, zs[i]? = some n := ⟨_, List.getElem?_eq_getElem hlt⟩
      obtain ⟨r0, r1⟩ := Hr.out z (List.mem_of_getElem? hzi)
      obtain ⟨c, rfl⟩ : ∃ c : Nat, z = c := ⟨z.toNat, by omega⟩
      obtain ⟨y, hy⟩ : ∃ n, l[c]? = some n := ⟨_, List.getElem?_eq_getElem (by omega)⟩
      have hya := Hat.out c y hy
      have hyl := Hal.out y (List.mem_of_getElem? hy)
      have hsn : (zs.take (i + 1)).any (fun z => (attrsAt (l.map TyV.t) z.toNat).contains key) = y.t.attrs.contains key := by
        rw [List.take_add_one, hzi, Option.toList_some, List.any_append, HT.out]
        simp [hya]
      have hmem := List.mem_of_getElem? hzi
      have htr : y.t.attrs.contains key = true → R = true := fun hc => by
        rw [HR.out, Bool.or_eq_true]
        exact .inl (List.any_eq_true.2 ⟨(c : Int), hmem, by simpa [hya] using hc⟩)
      obtain ⟨g, goff, rfl, hgl, z0⟩ := (hin.below hbr).at hzi
      have hbw := bel_next hb03 hbr
      have hya1 := ((h.below hbw).2 y (List.mem_of_getElem? hy)).1
      obtain ⟨b, off, rfl, hbl, _, _, y2, _⟩ := (h.below hbw).at hy
      have hcall : ∀ n, Calls Tryz.prog 42 #[.slice y.ao y.t.attrs.length y.ac, .string ⟨key.toArray⟩] (wr.drewN n) fun e w' => e = .returned (.bool (y.t.attrs.contains key)) ∧ w' = wr.drewN n := fun n => (Hhas.out y.t.attrs y.ao y.ac (wr.drewN n) (hya1.below (below_drewN (Below.refl _ _) n)) hyl).mono fun e w' h => ⟨h.1, h.2.symm⟩
      generalize y.t.attrs.contains key = q at hsn htr hcall
      generalize y.t.attrs.length = yn at hcall y2
      have Hsn := Lib.hid hsn
      have Htr := Lib.hid htr
      have Hcall := Lib.hid hcall
      clear hsn htr hcall hzi hy hya hmem hya1
      cases q with
      | true =>
        have Hst := Lib.hid (Htr.out rfl)
        go_wp2_with fail
        go_quiet ((go_at_call 42; exact Calls.quiet_of_same (Hcall.out _)))
        go_wp2_with fail
        go_ret
        exact ⟨ret_bool Hst.out.symm, below_drewN hbw _⟩
      | false =>
        go_wp2_with fail
        go_quiet ((go_at_call 42; exact Calls.quiet_of_same (Hcall.out _)))
        go_wp2_with fail
        go_roundw
        case rel => exact ⟨i + 1, by go_num, by omega, below_drewN hbr _, Hsn.out⟩
        case measure => simp [intOf]; omega
    · have hdk : decide ((i : Int) < (zs.length : Int)) = false := by rw [decide_eq_false_iff_not]; omega
      have hRk : R = key.isEmpty := by
        have := HT.out
        rw [List.take_of_length_le (by omega)] at this
        rw [HR.out, this, Bool.false_or]
      have HRk := Lib.hid hRk
      have hbw := bel_next hb03 hbr
      clear hRk
      rcases Classical.em (key = []) with hk0 | hk0
      · subst hk0
        have Hst := Lib.hid (show R = true by rw [HRk.out]; rfl)
        go_wp2_with fail
        go_ret
        exact ⟨ret_bool Hst.out.symm, hbw⟩
      · have he : key.isEmpty = false := by cases key <;> simp_all
        have Hst := Lib.hid (show R = false by rw [HRk.out, he])
        go_wp2_with fail
        go_ret
        first | exact ⟨ret_bool Hst.out.symm, hbw⟩ | exact ⟨ret_bool (by rw [Hst.out, he]), hbw⟩
theorem findG_spec : ∀ (ts : List SType) (i : Nat) (n : Bytes), (∃ (k : Nat) (t : SType), ts[k]? = some t ∧ t.name = n ∧ findG i ts n = ((i + k : Nat) : Int) ∧ ∀ (j : Nat) (u : SType), j < k → ts[j]? = some u → u.name ≠ n) ∨ (findG i ts n = -1 ∧ ∀ (j : Nat) (u : SType), ts[j]? = some u → u.name ≠ n) := by
  intro ts
  induction ts with
  | nil => intro i n; exact .inr ⟨rfl, fun j u h => by simp at h⟩
  | cons t ts ih =>
    intro i n
    unfold findG
    by_cases hq : t.name = n
    · rw [if_pos hq]
      exact .inl ⟨0, t, rfl, hq, by simp, fun j u hj => absurd hj (by omega)⟩
    · rw [if_neg hq]
      rcases ih (i + 1) n with ⟨k, u, h1, h2, h3, h4⟩ | ⟨h1, h2⟩
      · refine .inl ⟨k + 1, u, h1, h2, by rw [h3]; omega, fun j v hj hv => ?_⟩
        cases j with
        | zero => simp at hv; subst hv; exact hq
        | succ j => exact h4 j v (by omega) (by simpa using hv)
      · refine .inr ⟨h1, fun j v hv => ?_⟩
        cases j with
        | zero => simp at hv; subst hv; exact hq
        | succ j => exact h2 j v (by simpa using hv)
theorem findR_spec (ts : List SType) (n : Bytes) : (∃ (k : Nat) (t : SType), ts[k]? = some t ∧ t.name = n ∧ findR ts n = (k : Int) ∧ ∀ (j : Nat) (u : SType), j < k → ts[j]? = some u → u.name ≠ n) ∨ (findR ts n = -1 ∧ ∀ (j : Nat) (u : SType), ts[j]? = some u → u.name ≠ n) := by
  have := findG_spec ts 0 n
  simpa [findR] using this
theorem findR_lt (ts : List SType) (n : Bytes) : findR ts n < (ts.length : Int) := by
  rcases findR_spec ts n with ⟨k, t, h1, _, h3, _⟩ | ⟨h1, _⟩
  · have := (List.getElem?_eq_some_iff.1 h1).1; omega
  · omega
theorem twiceB_ex : ∀ l : List Bytes, twiceB l = true → ∃ (a b : Nat) (x : Bytes), a < b ∧ l[a]? = some x ∧ l[b]? = some x := by
  intro l
  induction l with
  | nil => intro h; simp [twiceB] at h
  | cons c t ih =>
    intro h
    simp only [twiceB, Bool.or_eq_true, List.contains_iff_mem] at h
    rcases h with h | h
    · obtain ⟨b, hb⟩ := List.mem_iff_getElem?.1 h
      exact ⟨0, b + 1, c, by omega, rfl, hb⟩
    · obtain ⟨a, b, x, h1, h2, h3⟩ := ih h
      exact ⟨a + 1, b + 1, x, by omega, h2, h3⟩
/-- a type stands behind one of its name -/
theorem names_twice {ts : List SType} {j : Nat} {u : SType} (hu : ts[j]? = some u) (h : findR ts u.name < (j : Int)) : twiceB (ts.map SType.name) = true := by
  cases e : twiceB (ts.map SType.name) with
  | true => rfl
  | false =>
    rcases findR_spec ts u.name with ⟨k, t, h1, h2, h3, _⟩ | ⟨_, h2⟩
    · have := twice_inj e k j u.name (by rw [List.getElem?_map, h1]; simp [h2]) (by rw [List.getElem?_map, hu]; rfl)
      omega
    · exact absurd rfl (h2 j u hu)
theorem names_once {ts : List SType} (h : ∀ (j : Nat) (u : SType), ts[j]? = some u → ¬ findR ts u.name < (j : Int)) : twiceB (ts.map SType.name) = false := by
  cases e : twiceB (ts.map SType.name) with
  | false => rfl
  | true =>
    obtain ⟨a, b, x, h1, h2, h3⟩ := twiceB_ex _ e
    rw [List.getElem?_map] at h2 h3
    obtain ⟨t, ht, rfl⟩ := Option.map_eq_some_iff.1 h2
    obtain ⟨u, hu, hn⟩ := Option.map_eq_some_iff.1 h3
    refine absurd ?_ (h b u hu)
    rcases findR_spec ts u.name with ⟨k, v, g1, g2, g3, g4⟩ | ⟨_, g2⟩
    · rw [g3]
      have : ¬ a < k := fun hak => g4 a t hak ht hn.symm
      omega
    · exact absurd rfl (g2 b u hu)
/-- what is wrong with types that have names -/
def shapeR (ts : List SType) : Int := if twiceB (ts.map SType.name) = true then 15 else if ts.any (fun t => fallsS t.attrs) = true then 14 else if ts.any formB = true then 12 else contentE ts
theorem any_take {α : Type} {l : List α} {p : α → Bool} {k : Nat} {x : α} (hx : l[k]? = some x) (h : (l.take k).any p = false) : (l.take (k + 1)).any p = p x := by
  rw [List.take_add_one, hx, Option.toList_some, List.any_append, h]; simp
theorem any_at {α : Type} {l : List α} {p : α → Bool} {k : Nat} {x : α} (hx : l[k]? = some x) (h : p x = true) : l.any p = true := List.any_eq_true.2 ⟨x, List.mem_of_getElem? hx, h⟩
theorem mapT {l : List TyV} {k : Nat} {x : TyV} (h : l[k]? = some x) : (l.map TyV.t)[k]? = some x.t := by rw [List.getElem?_map, h]; rfl
theorem le_split (x y : Bytes) : (leS y x = true ∧ ((Op.bytesLess y x = true) ∨ (Op.bytesLess y x = false ∧ (y == x) = true))) ∨ (leS y x = false ∧ Op.bytesLess y x = false ∧ (y == x) = false) := by
  rw [less_leS y x]
  by_cases e : y = x
  · subst e
    have : leS y y = true := by unfold leS; simp
    rw [this]
    exact .inl ⟨rfl, .inr ⟨rfl, by simp⟩⟩
  · have hb : (y == x) = false := by simpa using e
    rw [hb]
    by_cases h : leS y x = true
    · refine .inl ⟨h, .inl ?_⟩
      unfold leS at h ⊢
      rw [decide_eq_true_eq] at h
      rw [Bool.not_eq_true', decide_eq_false_iff_not]
      exact fun h2 => e (List.le_antisymm h h2)
    · rw [Bool.not_eq_true] at h
      refine .inr ⟨h, ?_, rfl⟩
      unfold leS at h ⊢
      rw [decide_eq_false_iff_not] at h
      rw [Bool.not_eq_false', decide_eq_true_eq]
      rcases List.le_total y x with h2 | h2
      · exact absurd h2 h
      · exact h2
set_option maxHeartbeats 4000000 in
set_option maxRecDepth 100000 in
theorem refShape_any (l : List TyV) (o : Option Addr) (cap : Nat) (w : World) (h : TypesAt w o cap l) (hL : Lim l) :
    Calls Tryz.prog 22 #[.slice o l.length cap] w fun e w' => e = .returned (.int .i64 (shapeR (l.map TyV.t))) ∧ Below w.heap.size w w' := by
  have hfi := fun n w' (hb : Below w.heap.size w w') => refFind_any l o cap w' (h.below hb) hL.len n
  have hck := fun (x : TyV) (hx : x ∈ l) w' (hb : Below w.heap.size w w') => refCheck7_any x.t.nodes x.no x.nc w' ((h.2 x hx).2.below hb) (hL.sym x hx)
  have hwd := fun (x : TyV) (hx : x ∈ l) w' (hb : Below w.heap.size w w') => (h.2 x hx).1.below hb
  have hll := hL.len
  have hcm := h.1.2.2.1
  unfold maxLen at hcm
  obtain ⟨ts, hts⟩ : ∃ ts, ts = l.map TyV.t := ⟨_, rfl⟩
  have hget : ∀ (k : Nat) (x : TyV), l[k]? = some x → ts[k]? = some x.t := fun k x hx => by rw [hts]; exact mapT hx
  have hdrop : ∀ (k : Nat) (x : TyV), l[k]? = some x → ts.drop k = x.t :: ts.drop (k + 1) := fun k x hx => by rw [hts]; exact dropT hx
  have htl : ts.length = l.length := by rw [hts, List.length_map]
  rw [← hts] at hfi ⊢
  obtain ⟨R, hR⟩ : ∃ R, R = shapeR ts := ⟨_, rfl⟩
  rw [← hR]
  unfold shapeR at hR
  have HR := Lib.hid hR
  have Hfi := Lib.hid hfi
  have Hck := Lib.hid hck
  have Hwd := Lib.hid hwd
  have Hget := Lib.hid hget
  have Hdrop := Lib.hid hdrop
  have Htl := Lib.hid htl
  have Hal := Lib.hid hL.attrs
  clear hR hfi hck hwd hget hdrop htl hts hL
  go_enter Tryz.func22, Tryz.ntmps22
  go_wp2_with fail
  go_loop [3] (fun v => ∃ k : Nat, v = .int .i64 k ∧ k ≤ l.length ∧ Hid (∀ (j : Nat) (u : SType), j < k → ts[j]? = some u → (j : Int) ≤ findR ts u.name)) (fun v => l.length - (intOf v).toNat)
  case atStart => exact ⟨0, rfl, Nat.zero_le _, fun j u hj => absurd hj (by omega)⟩
  case round =>
    obtain ⟨k, rfl, hk, HK⟩ := hrel
    by_cases hlt : k < l.length
    · have hdk : decide ((k : Int) < (l.length : Int)) = true := by rw [decide_eq_true_eq]; omega
      have hki : (k : Int) < (l.length : Int) := by omega
      have hk0 : (0 : Int) ≤ (k : Int) := by omega
      obtain ⟨x, hx⟩ : ∃ n, l[k]? = some n := ⟨_, List.getElem?_eq_getElem hlt⟩
      obtain ⟨b, off, rfl, hbl, x0, x1, x2, x3, x4, x5⟩ := h.at hx
      have hf := Hfi.out x.t.name w (Below.refl _ _)
      have hxt := Hget.out k x hx
      have hnx : ¬ findR ts x.t.name < (k : Int) → ∀ (j : Nat) (u : SType), j < k + 1 → ts[j]? = some u → (j : Int) ≤ findR ts u.name := fun hn j u hj hu => by
        by_cases e : j = k
        · subst e; rw [hxt] at hu; injection hu with hu; subst hu; omega
        · exact HK.out j u (by omega) hu
      have htw := fun hn => names_twice hxt hn
      generalize findR ts x.t.name = F at hf hnx htw
      have Hnx := Lib.hid hnx
      have Htw := Lib.hid htw
      clear x1 x2 x3 x4 x5 hx hxt hnx htw
      by_cases hlt2 : F < (k : Int)
      · have d1 : decide (F < (k : Int)) = true := by rw [decide_eq_true_eq]; exact hlt2
        have HRe := Lib.hid (show R = 15 by rw [HR.out, if_pos (Htw.out hlt2)])
        clear hlt2
        go_wp2_with fail
        refine hf.mono ?_
        rintro e w6 ⟨rfl, rfl⟩
        clear hf
        go_wp2_with fail
        go_ret
        exact ⟨ret_int HRe.out.symm, Below.refl _ _⟩
      · have d1 : decide (F < (k : Int)) = false := by rw [decide_eq_false_iff_not]; exact hlt2
        have Hst := Lib.hid (Hnx.out hlt2)
        clear hlt2
        go_wp2_with fail
        refine hf.mono ?_
        rintro e w6 ⟨rfl, rfl⟩
        clear hf
        go_wp2_with fail
        go_round
        case rel => exact ⟨k + 1, by go_num, by omega, Hst.out⟩
        case measure => simp [intOf]; omega
    · have hdk : decide ((k : Int) < (l.length : Int)) = false := by rw [decide_eq_false_iff_not]; omega
      have htw : twiceB (ts.map SType.name) = false := names_once fun j u hu => by have := HK.out j u (by have := (List.getElem?_eq_some_iff.1 hu).1; have := Htl.out; omega) hu; omega
      have hR2 : R = if ts.any (fun t => fallsS t.attrs) = true then 14 else if ts.any formB = true then 12 else contentE ts := by rw [HR.out, if_neg (by rw [htw]; simp)]
      have HR2 := Lib.hid hR2
      clear hR2 htw HK HR
      go_wp2_with fail
      go_loopw [4] (fun v wr => ∃ k : Nat, v = .int .i64 k ∧ k ≤ l.length ∧ Below w.heap.size w wr ∧ Hid ((ts.take k).any (fun t => fallsS t.attrs) = false)) (fun v _ => l.length - (intOf v).toNat)
      case atStart => exact ⟨0, rfl, Nat.zero_le _, Below.refl _ _, rfl⟩
      case round =>
        obtain ⟨k, rfl, hk, hbr, HK⟩ := hrel
        obtain ⟨wo, hwo⟩ : ∃ wo, wo = wr := ⟨_, rfl⟩
        subst hwo
        by_cases hlt : k < l.length
        · have hdk : decide ((k : Int) < (l.length : Int)) = true := by rw [decide_eq_true_eq]; omega
          have hki : (k : Int) < (l.length : Int) := by omega
          have hk0 : (0 : Int) ≤ (k : Int) := by omega
          obtain ⟨x, hx⟩ : ∃ n, l[k]? = some n := ⟨_, List.getElem?_eq_getElem hlt⟩
          have hxm := List.mem_of_getElem? hx
          have hxt := Hget.out k x hx
          have hsn := any_take (p := fun t : SType => fallsS t.attrs) hxt HK.out
          have hyes := fun hh => any_at (p := fun t : SType => fallsS t.attrs) hxt hh
          have hW := fun w' hb => Hwd.out x hxm w' hb
          have hal := Hal.out x hxm
          have hcell : ∀ w', Below w.heap.size w w' → ∃ b off, o = some ⟨b, off, none⟩ ∧ w'.cell? ⟨b, off + k * 6 + 2, none⟩ = some (.slice x.ao x.t.attrs.length x.ac) := fun w' hb => by
            obtain ⟨b, off, e, _, _, _, x2, _⟩ := (h.below hb).at hx
            exact ⟨b, off, e, x2⟩
          have Hcell := Lib.hid hcell
          have Hsn := Lib.hid hsn
          have Hyes := Lib.hid hyes
          have hwm := (hW wo hbr).2.2.1
          unfold maxLen at hwm
          have hwl := (hW wo hbr).2.1
          have HW := Lib.hid hW
          obtain ⟨⟨name, label, attrs, key, text, nodes⟩, ao, ac, no, nc⟩ := x
          simp only at Hcell Hsn Hyes HW hal hwm hwl
          clear hcell hsn hyes hW hx hxm hxt
          go_wp2_with fail
          go_loopw [5] (fun i wq => ∃ m : Nat, i = .int .i64 ((m : Int) + 1) ∧ (m + 1 ≤ attrs.length ∨ m = 0) ∧ Below w.heap.size w wq ∧ Hid (fallsS (attrs.take (m + 1)) = false)) (fun i _ => attrs.length - (intOf i).toNat)
          case atStart =>
            refine ⟨0, rfl, .inr rfl, hbr, ?_⟩
            show _ = _
            cases attrs with
            | nil => rfl
            | cons c t => simp [fallsS]
          case round =>
            obtain ⟨m, rfl, hm, hbq, HF⟩ := hrel
            obtain ⟨b, off, rfl, c2⟩ := Hcell.out _ hbq
            by_cases hmt : m + 1 < attrs.length
            · have hdm : decide ((m : Int) + 1 < (attrs.length : Int)) = true := by rw [decide_eq_true_eq]; omega
              have b1 : (0 : Int) ≤ (m : Int) := by omega
              have b2 : (m : Int) < (attrs.length : Int) := by omega
              have b3 : (0 : Int) ≤ (m : Int) + 1 := by omega
              have b4 : (m : Int) + 1 < (attrs.length : Int) := by omega
              obtain ⟨x, hx⟩ : ∃ n, attrs[m]? = some n := ⟨_, List.getElem?_eq_getElem (by omega)⟩
              obtain ⟨y, hy⟩ : ∃ n, attrs[m + 1]? = some n := ⟨_, List.getElem?_eq_getElem hmt⟩
              have hft := fallsS_take hx hy
              rw [HF.out, Bool.false_or] at hft
              obtain ⟨g, goff, rfl, hgl, x0⟩ := (HW.out _ hbq).at hx
              obtain ⟨g', goff', e, hgl', x1⟩ := (HW.out _ hbq).at hy
              injection e with e
              injection e with e1 e2
              subst e1; subst e2
              have t1 : (((m : Int) + 1).toNat) = m + 1 := by omega
              rcases le_split x y with ⟨hv, hcm1⟩ | ⟨hv, hcm1, hcm2⟩
              · rw [hv] at hft
                have hRe : R = 14 := by
                  rw [HR2.out, if_pos]
                  refine Hyes.out ?_
                  rw [← List.take_append_drop (m + 2) attrs]
                  exact fallsS_left _ _ hft
                have HRe := Lib.hid hRe
                clear hRe hft hv hx hy
                rcases hcm1 with hcm1 | ⟨hcm1, hcm2⟩
                all_goals
                  go_wp2_with fail
                  go_quiet (fail)
                  go_wp2_with fail
                  go_ret
                  exact ⟨ret_int HRe.out.symm, below_drewN hbq _⟩
              · rw [hv] at hft
                have Hft := Lib.hid hft
                clear hft hv hx hy
                go_wp2_with fail
                go_quiet (fail)
                go_wp2_with fail
                go_roundw
                case rel => exact ⟨m + 1, by go_num, .inl (by omega), below_drewN hbq _, Hft.out⟩
                case measure => simp [intOf]; omega
            · have hdm : decide ((m : Int) + 1 < (attrs.length : Int)) = false := by rw [decide_eq_false_iff_not]; omega
              have Hst : Hid ((ts.take (k + 1)).any (fun t => fallsS t.attrs) = false) := by
                have := HF.out
                rw [List.take_of_length_le (by omega)] at this
                show _ = _
                rw [Hsn.out]
                exact this
              go_wp2_with fail
              go_roundw
              case rel => exact ⟨k + 1, by go_num, by omega, hbq, Hst.out⟩
              case measure => simp [intOf]; omega
        · have hdk : decide ((k : Int) < (l.length : Int)) = false := by rw [decide_eq_false_iff_not]; omega
          have hfl : ts.any (fun t => fallsS t.attrs) = false := by have := HK.out; rwa [List.take_of_length_le (by have := Htl.out; omega)] at this
          have hR3 : R = if ts.any formB = true then 12 else contentE ts := by rw [HR2.out, if_neg (by rw [hfl]; simp)]
          have HR3 := Lib.hid hR3
          have h1 := h.below hbr
          clear hR3 hfl HK HR2
          go_wp2_with fail
          go_loop [6] (fun v => ∃ k : Nat, v = .int .i64 k ∧ k ≤ l.length ∧ Hid ((ts.take k).any formB = false)) (fun v => l.length - (intOf v).toNat)
          case atStart => exact ⟨0, rfl, Nat.zero_le _, rfl⟩
          case round =>
            obtain ⟨k, rfl, hk, HK⟩ := hrel
            by_cases hlt : k < l.length
            · have hdk : decide ((k : Int) < (l.length : Int)) = true := by rw [decide_eq_true_eq]; omega
              have hki : (k : Int) < (l.length : Int) := by omega
              have hk0 : (0 : Int) ≤ (k : Int) := by omega
              obtain ⟨x, hx⟩ : ∃ n, l[k]? = some n := ⟨_, List.getElem?_eq_getElem hlt⟩
              have hxt := Hget.out k x hx
              have hsn := any_take (p := formB) hxt HK.out
              have hyes : formB x.t = true → R = 12 := fun hh => by rw [HR3.out, if_pos (any_at hxt hh)]
              obtain ⟨b, off, rfl, hbl, x0, x1, x2, x3, x4, x5⟩ := h1.at hx
              have hfb : formB x.t = (x.t.text && (!x.t.nodes.isEmpty || !x.t.key.isEmpty)) := rfl
              obtain ⟨⟨name, label, attrs, key, text, nodes⟩, ao, ac, no, nc⟩ := x
              simp only at x3 x4 x5 hsn hyes hfb
              generalize formB ⟨name, label, attrs, key, text, nodes⟩ = fb at hsn hyes hfb
              have Hsn := Lib.hid hsn
              have Hyes := Lib.hid hyes
              have Hfb := Lib.hid hfb
              clear hsn hyes hfb hx hxt x0 x1 x2
              cases text with
              | false =>
                have Hst := Lib.hid (show (ts.take (k + 1)).any formB = false by rw [Hsn.out, Hfb.out]; rfl)
                go_wp2_with fail
                go_round
                case rel => exact ⟨k + 1, by go_num, by omega, Hst.out⟩
                case measure => simp [intOf]; omega
              | true =>
                by_cases hnn : nodes.length > 0
                · have d1 : decide ((nodes.length : Int) > 0) = true := by rw [decide_eq_true_eq]; omega
                  have he : nodes.isEmpty = false := by cases nodes <;> simp_all
                  have HRe := Lib.hid (Hyes.out (by rw [Hfb.out, he]; rfl))
                  clear he
                  go_wp2_with fail
                  go_ret
                  exact ⟨ret_int HRe.out.symm, hbr⟩
                · have d1 : decide ((nodes.length : Int) > 0) = false := by rw [decide_eq_false_iff_not]; omega
                  have he : nodes.isEmpty = true := by cases nodes <;> simp_all
                  have Hfb2 := Lib.hid (show fb = !key.isEmpty by rw [Hfb.out, he]; simp)
                  clear he
                  rcases Classical.em (key = []) with hkk | hkk
                  · subst hkk
                    have Hst := Lib.hid (show (ts.take (k + 1)).any formB = false by rw [Hsn.out, Hfb2.out]; rfl)
                    go_wp2_with fail
                    go_round
                    case rel => exact ⟨k + 1, by go_num, by omega, Hst.out⟩
                    case measure => simp [intOf]; omega
                  · have HRe := Lib.hid (Hyes.out (by rw [Hfb2.out]; cases key <;> simp_all))
                    have hek : key.isEmpty = false := by cases key <;> simp_all
                    go_wp2_with fail
                    go_ret
                    exact ⟨ret_int HRe.out.symm, hbr⟩
            · have hdk : decide ((k : Int) < (l.length : Int)) = false := by rw [decide_eq_false_iff_not]; omega
              have hfl : ts.any formB = false := by have := HK.out; rwa [List.take_of_length_le (by have := Htl.out; omega)] at this
              have hR4 : R = contentE ts := by rw [HR3.out, if_neg (by rw [hfl]; simp)]
              have HR4 := Lib.hid hR4
              clear hR4 hfl HK HR3
              go_wp2_with fail
              go_loopw [7] (fun v wr => ∃ k : Nat, v = .int .i64 k ∧ k ≤ l.length ∧ Below w.heap.size w wr ∧ Hid (R = contentE (ts.drop k))) (fun v _ => l.length - (intOf v).toNat)
              case atStart => exact ⟨0, rfl, Nat.zero_le _, hbr, HR4.out⟩
              case round =>
                obtain ⟨k, rfl, hk, hbq, HK⟩ := hrel
                by_cases hlt : k < l.length
                · have hdk : decide ((k : Int) < (l.length : Int)) = true := by rw [decide_eq_true_eq]; omega
                  have hki : (k : Int) < (l.length : Int) := by omega
                  have hk0 : (0 : Int) ≤ (k : Int) := by omega
                  obtain ⟨x, hx⟩ : ∃ n, l[k]? = some n := ⟨_, List.getElem?_eq_getElem hlt⟩
                  have hst := HK.out
                  rw [Hdrop.out k x hx] at hst
                  unfold contentE at hst
                  have hcx := Hck.out x (List.mem_of_getElem? hx) _ hbq
                  have hcell : ∀ w', Below w.heap.size w w' → ∃ b off, o = some ⟨b, off, none⟩ ∧ w'.cell? ⟨b, off + k * 6 + 4, none⟩ = some (.bool x.t.text) := fun w' hb => by
                    obtain ⟨b, off, e, _, _, _, _, _, x4, _⟩ := (h.below hb).at hx
                    exact ⟨b, off, e, x4⟩
                  have Hcell := Lib.hid hcell
                  obtain ⟨b, off, rfl, hbl, x0, x1, x2, x3, x4, x5⟩ := (h.below hbq).at hx
                  obtain ⟨⟨name, label, attrs, key, text, nodes⟩, ao, ac, no, nc⟩ := x
                  simp only at x4 x5 hst hcx Hcell
                  generalize regexE nodes = E at hst hcx
                  have Hst := Lib.hid hst
                  clear hst hcell hx x0 x1 x2 x3 x4
                  go_wp2_with fail
                  refine hcx.mono ?_
                  rintro e w6 ⟨rfl, hb6⟩
                  clear hcx x5
                  have hb66 := bel_next hbq hb6
                  obtain ⟨b', off', e, x4⟩ := Hcell.out _ hb66
                  injection e with e
                  injection e with e1 e2
                  subst e1; subst e2
                  cases text with
                  | true =>
                    have hs2 := Hst.out
                    rw [if_neg (by simp)] at hs2
                    have Hs2 := Lib.hid hs2
                    clear hs2
                    go_wp2_with fail
                    go_roundw
                    case rel => exact ⟨k + 1, by go_num, by omega, hb66, Hs2.out⟩
                    case measure => simp [intOf]; omega
                  | false =>
                    by_cases hE : E = 0
                    · subst hE
                      have hs2 := Hst.out
                      rw [if_neg (by simp)] at hs2
                      have Hs2 := Lib.hid hs2
                      clear hs2
                      go_wp2_with fail
                      go_roundw
                      case rel => exact ⟨k + 1, by go_num, by omega, hb66, Hs2.out⟩
                      case measure => simp [intOf]; omega
                    · have hs2 := Hst.out
                      rw [if_pos ⟨rfl, hE⟩] at hs2
                      have Hs2 := Lib.hid hs2
                      have hne : (E != 0) = true := by rw [bne_iff_ne]; exact hE
                      clear hs2
                      go_wp2_with fail
                      go_ret
                      exact ⟨ret_int Hs2.out.symm, hb66⟩
                · have hdk : decide ((k : Int) < (l.length : Int)) = false := by rw [decide_eq_false_iff_not]; omega
                  have hst := HK.out
                  rw [List.drop_of_length_le (by have := Htl.out; omega)] at hst
                  have Hst := Lib.hid (show R = 0 from hst)
                  clear hst
                  go_wp2_with fail
                  go_ret
                  exact ⟨ret_int Hst.out.symm, hbq⟩
theorem findR_ge (ts : List SType) (n : Bytes) : -1 ≤ findR ts n := by
  rcases findR_spec ts n with ⟨k, t, _, _, h3, _⟩ | ⟨h1, _⟩ <;> omega
theorem kidStep_mem {ts : List SType} {out : List Int} {n : SNode} {z : Int} : z ∈ kidStep ts out n ↔ z ∈ out ∨ (n.op = 2 ∧ findR ts n.sym = z) := by
  unfold kidStep
  by_cases h2 : n.op = 2
  · rw [if_pos h2]
    by_cases hc : out.contains (findR ts n.sym) = true
    · rw [if_pos hc]
      rw [List.contains_iff_mem] at hc
      exact ⟨.inl, fun h => h.elim id fun ⟨_, e⟩ => e ▸ hc⟩
    · rw [if_neg hc, List.mem_append, List.mem_singleton]
      exact ⟨fun h => h.elim .inl fun e => .inr ⟨h2, e.symm⟩, fun h => h.elim .inl fun ⟨_, e⟩ => .inr e.symm⟩
  · rw [if_neg h2]
    exact ⟨.inl, fun h => h.elim id fun ⟨e, _⟩ => absurd e h2⟩
theorem foldKids_mem {ts : List SType} {z : Int} : ∀ (l : List SNode) (out : List Int), z ∈ l.foldl (kidStep ts) out ↔ z ∈ out ∨ ∃ n ∈ l, n.op = 2 ∧ findR ts n.sym = z := by
  intro l
  induction l with
  | nil => intro out; simp
  | cons n t ih =>
    intro out
    rw [List.foldl_cons, ih, kidStep_mem]
    constructor
    · rintro ((h | h) | ⟨m, hm, h⟩)
      · exact .inl h
      · exact .inr ⟨n, List.mem_cons_self .., h⟩
      · exact .inr ⟨m, List.mem_cons_of_mem _ hm, h⟩
    · rintro (h | ⟨m, hm, h⟩)
      · exact .inl (.inl h)
      · rcases List.mem_cons.1 hm with rfl | hm
        · exact .inl (.inr h)
        · exact .inr ⟨m, hm, h⟩
theorem kidsR_mem {ts : List SType} {l : List SNode} {z : Int} : z ∈ kidsR ts l ↔ ∃ n ∈ l, n.op = 2 ∧ findR ts n.sym = z := by
  unfold kidsR
  rw [foldKids_mem]
  simp
theorem kidsR_lt {ts : List SType} {l : List SNode} {z : Int} (h : z ∈ kidsR ts l) : z < (ts.length : Int) := by
  obtain ⟨n, _, _, rfl⟩ := kidsR_mem.1 h
  exact findR_lt ts n.sym
def keyedR (ts : List SType) (t : SType) : Bool := (kidsR ts t.nodes).any (fun z => (attrsAt ts z.toNat).contains t.key) || t.key.isEmpty
def noneR (ts : List SType) (t : SType) : Bool := (kidsR ts t.nodes).any (fun z => decide (z < 0))
def twiceR (ts : List SType) (t : SType) : Bool := twiceB (zLabels ts (kidsR ts t.nodes))
/-- what is wrong with types -/
def chkR (ts : List SType) : Int :=
  if 64 < ts.length then 17 else if ts.length = 0 then 18 else if ts.any unnamedS = true then 11 else
  if shapeR ts ≠ 0 then shapeR ts else if ts.any (noneR ts) = true then 16 else if ts.any (twiceR ts) = true then 24 else if ts.any (fun t => !keyedR ts t) = true then 23 else 0
set_option maxHeartbeats 8000000 in
set_option maxRecDepth 100000 in
theorem refCheck9_any (l : List TyV) (o : Option Addr) (cap : Nat) (w : World) (h : TypesAt w o cap l) (hL : Lim l) (hn : ∀ x ∈ l, x.t.nodes.length ≤ 1048576) :
    Calls Tryz.prog 9 #[.slice o l.length cap] w fun e w' => e = .returned (.int .i64 (chkR (l.map TyV.t))) ∧ Below w.heap.size w w' := by
  have hll := hL.len
  have hcm := h.1.2.2.1
  unfold maxLen at hcm
  have hsh := fun w' (hb : Below w.heap.size w w') => refShape_any l o cap w' (h.below hb) hL
  have hnm := fun (x : TyV) (hx : x ∈ l) w' (hb : Below w.heap.size w w') => refNamed_any x w' ((h.2 x hx).1.below hb) (hL.name x hx) (hL.label x hx) (hL.key x hx) (hL.attrs x hx) (hL.attr x hx)
  have hki := fun (x : TyV) (hx : x ∈ l) w' (hb : Below w.heap.size w w') => refKids_any l o cap w' (h.below hb) hL.len x ((h.2 x hx).2.below hb) (hn x hx)
  have htw := fun zs vo vc w' (hb : Below w.heap.size w w') hz hr => refTwice_any l o cap w' (h.below hb) hL.len zs vo vc hz hr
  have hke := fun (x : TyV) (hx : x ∈ l) w' (hb : Below w.heap.size w w') hr => refKeyed_any l o cap w' (h.below hb) hL x ((h.2 x hx).2.below hb) (hn x hx) hr
  obtain ⟨ts, hts⟩ : ∃ ts, ts = l.map TyV.t := ⟨_, rfl⟩
  have hget : ∀ (k : Nat) (x : TyV), l[k]? = some x → ts[k]? = some x.t := fun k x hx => by rw [hts]; exact mapT hx
  have htl : ts.length = l.length := by rw [hts, List.length_map]
  rw [← hts] at hsh hki htw hke ⊢
  obtain ⟨R, hR⟩ : ∃ R, R = chkR ts := ⟨_, rfl⟩
  rw [← hR]
  unfold chkR at hR
  have HR := Lib.hid hR
  have Hsh := Lib.hid hsh
  have Hnm := Lib.hid hnm
  have Hki := Lib.hid hki
  have Htw := Lib.hid htw
  have Hke := Lib.hid hke
  have Hget := Lib.hid hget
  have Htl := Lib.hid htl
  clear hR hsh hnm hki htw hke hget htl hts hL hn
  by_cases hbig : 64 < l.length
  · have hd : decide ((l.length : Int) > 64) = true := by rw [decide_eq_true_eq]; omega
    have HRe := Lib.hid (show R = 17 by rw [HR.out, if_pos (by rw [Htl.out]; exact hbig)])
    go_enter Tryz.func9, Tryz.ntmps9
    go_wp2_with fail
    go_ret
    exact ⟨ret_int HRe.out.symm, Below.refl _ _⟩
  have hd : decide ((l.length : Int) > 64) = false := by rw [decide_eq_false_iff_not]; omega
  by_cases h0 : l.length = 0
  · have hd0 : ((l.length : Int) == 0) = true := by rw [beq_iff_eq]; omega
    have HRe := Lib.hid (show R = 18 by rw [HR.out, if_neg (by rw [Htl.out]; exact hbig), if_pos (by rw [Htl.out]; exact h0)])
    go_enter Tryz.func9, Tryz.ntmps9
    go_wp2_with fail
    go_ret
    exact ⟨ret_int HRe.out.symm, Below.refl _ _⟩
  have hd0 : ((l.length : Int) == 0) = false := by rw [beq_eq_false_iff_ne]; omega
  have HR1 := Lib.hid (show R = if ts.any unnamedS = true then 11 else if shapeR ts ≠ 0 then shapeR ts else if ts.any (noneR ts) = true then 16 else if ts.any (twiceR ts) = true then 24 else if ts.any (fun t => !keyedR ts t) = true then 23 else 0 by rw [HR.out, if_neg (by rw [Htl.out]; exact hbig), if_neg (by rw [Htl.out]; exact h0)])
  clear HR
  go_enter Tryz.func9, Tryz.ntmps9
  go_wp2_with fail
  go_loopw [3] (fun v wr => ∃ k : Nat, v = .int .i64 k ∧ k ≤ l.length ∧ Below w.heap.size w wr ∧ Hid ((ts.take k).any unnamedS = false)) (fun v _ => l.length - (intOf v).toNat)
  case atStart => exact ⟨0, rfl, Nat.zero_le _, Below.refl _ _, rfl⟩
  case round =>
    obtain ⟨k, rfl, hk, hbr, HK⟩ := hrel
    by_cases hlt : k < l.length
    · have hdk : decide ((k : Int) < (l.length : Int)) = true := by rw [decide_eq_true_eq]; omega
      have hki : (k : Int) < (l.length : Int) := by omega
      have hk0 : (0 : Int) ≤ (k : Int) := by omega
      obtain ⟨x, hx⟩ : ∃ n, l[k]? = some n := ⟨_, List.getElem?_eq_getElem hlt⟩
      have hxt := Hget.out k x hx
      have hsn := any_take (p := unnamedS) hxt HK.out
      have hyes : unnamedS x.t = true → R = 11 := fun hh => by rw [HR1.out, if_pos (any_at hxt hh)]
      have hnx := Hnm.out x (List.mem_of_getElem? hx) _ hbr
      obtain ⟨b, off, rfl, hbl, x0, x1, x2, x3, x4, x5⟩ := (h.below hbr).at hx
      obtain ⟨⟨name, label, attrs, key, text, nodes⟩, ao, ac, no, nc⟩ := x
      unfold typeVal typeRow at hnx
      simp only at x0 x1 x2 x3 x4 x5 hnx hsn hyes
      generalize unnamedS ⟨name, label, attrs, key, text, nodes⟩ = q at hnx hsn hyes
      have Hsn := Lib.hid hsn
      have Hyes := Lib.hid hyes
      clear hsn hyes hx hxt
      cases q with
      | true =>
        have HRe := Lib.hid (Hyes.out rfl)
        go_wp2_with fail
        refine hnx.mono ?_
        rintro e w6 ⟨rfl, hb6⟩
        clear hnx
        go_wp2_with fail
        go_ret
        exact ⟨ret_int HRe.out.symm, bel_next hbr hb6⟩
      | false =>
        go_wp2_with fail
        refine hnx.mono ?_
        rintro e w6 ⟨rfl, hb6⟩
        clear hnx
        go_wp2_with fail
        go_roundw
        case rel => exact ⟨k + 1, by go_num, by omega, bel_next hbr hb6, Hsn.out⟩
        case measure => simp [intOf]; omega
    · have hdk : decide ((k : Int) < (l.length : Int)) = false := by rw [decide_eq_false_iff_not]; omega
      have hfl : ts.any unnamedS = false := by have := HK.out; rwa [List.take_of_length_le (by have := Htl.out; omega)] at this
      have HR2 := Lib.hid (show R = if shapeR ts ≠ 0 then shapeR ts else if ts.any (noneR ts) = true then 16 else if ts.any (twiceR ts) = true then 24 else if ts.any (fun t => !keyedR ts t) = true then 23 else 0 by rw [HR1.out, if_neg (by rw [hfl]; simp)])
      have hsw := Hsh.out _ hbr
      generalize shapeR ts = E at HR2 hsw
      clear hfl HK HR1
      by_cases hE : E = 0
      · subst hE
        have HR3 := Lib.hid (show R = if ts.any (noneR ts) = true then 16 else if ts.any (twiceR ts) = true then 24 else if ts.any (fun t => !keyedR ts t) = true then 23 else 0 by rw [HR2.out, if_neg (by simp)])
        clear HR2
        go_wp2_with fail
        refine hsw.mono ?_
        rintro e w5 ⟨rfl, hb5⟩
        clear hsw
        have hb05 := bel_next hbr hb5
        clear hb5 hbr
        go_wp2_with fail
        go_loopw [5] (fun v wr => ∃ k : Nat, v = .int .i64 k ∧ k ≤ l.length ∧ Below w.heap.size w wr ∧ Hid ((ts.take k).any (noneR ts) = false)) (fun v _ => l.length - (intOf v).toNat)
        case atStart => exact ⟨0, rfl, Nat.zero_le _, hb05, rfl⟩
        case round =>
          obtain ⟨k, rfl, hk, hbr, HK⟩ := hrel
          obtain ⟨wo, hwo⟩ : ∃ wo, wo = wr := ⟨_, rfl⟩
          subst hwo
          by_cases hlt : k < l.length
          · have hdk : decide ((k : Int) < (l.length : Int)) = true := by rw [decide_eq_true_eq]; omega
            have hki : (k : Int) < (l.length : Int) := by omega
            have hk0 : (0 : Int) ≤ (k : Int) := by omega
            obtain ⟨x, hx⟩ : ∃ n, l[k]? = some n := ⟨_, List.getElem?_eq_getElem hlt⟩
            have hxt := Hget.out k x hx
            have hsn := any_take (p := noneR ts) hxt HK.out
            have hyes : noneR ts x.t = true → R = 16 := fun hh => by rw [HR3.out, if_pos (any_at hxt hh)]
            have hkx := Hki.out x (List.mem_of_getElem? hx) _ hbr
            have hnr : noneR ts x.t = (kidsR ts x.t.nodes).any (fun z => decide (z < 0)) := rfl
            generalize kidsR ts x.t.nodes = zs at hkx hnr
            obtain ⟨b, off, rfl, hbl, x0, x1, x2, x3, x4, x5⟩ := (h.below hbr).at hx
            obtain ⟨⟨name, label, attrs, key, text, nodes⟩, ao, ac, no, nc⟩ := x
            unfold typeVal typeRow at hkx
            simp only at x0 x1 x2 x3 x4 x5 hkx hsn hyes hnr
            generalize noneR ts ⟨name, label, attrs, key, text, nodes⟩ = q at hsn hyes hnr
            have Hsn := Lib.hid hsn
            have Hyes := Lib.hid hyes
            have Hnr := Lib.hid hnr
            clear hsn hyes hx hxt hnr
            go_wp2_with fail
            refine hkx.mono ?_
            rintro e w6 ⟨vo, vc, rfl, hin, hb6⟩
            clear hkx x0 x1 x2 x3 x4 x5
            have hb66 := bel_next hbr hb6
            have hzm := hin.2.2.1
            have hzl := hin.2.1
            unfold maxLen at hzm
            clear hb6
            go_wp2_with fail
            go_loop [7] (fun v => ∃ i : Nat, v = .int .i64 i ∧ i ≤ zs.length ∧ Hid ((zs.take i).any (fun z => decide (z < 0)) = false)) (fun v => zs.length - (intOf v).toNat)
            case atStart => exact ⟨0, rfl, Nat.zero_le _, rfl⟩
            case round =>
              obtain ⟨i, rfl, hi, HI⟩ := hrel
              by_cases hit : i < zs.length
              · have hdi : decide ((i : Int) < (zs.length : Int)) = true := by rw [decide_eq_true_eq]; omega
                have hii : (i : Int) < (zs.length : Int) := by omega
                have hi0 : (0 : Int) ≤ (i : Int) := by omega
                obtain ⟨z, hz⟩ : ∃ n, zs[i]? = some n := ⟨_, List.getElem?_eq_getElem hit⟩
                have hsz := any_take (p := fun z : Int => decide (z < 0)) hz HI.out
                have hay := fun hh => any_at (p := fun z : Int => decide (z < 0)) hz hh
                obtain ⟨g, goff, rfl, hgl, z0⟩ := hin.at hz
                have Hsz := Lib.hid hsz
                have Hay := Lib.hid hay
                clear hsz hay hz
                by_cases hneg : z < 0
                · have d1 : decide (z < 0) = true := by rw [decide_eq_true_eq]; exact hneg
                  have HRe := Lib.hid (Hyes.out (by rw [Hnr.out]; exact Hay.out d1))
                  clear hneg
                  go_wp2_with fail
                  go_ret
                  exact ⟨ret_int HRe.out.symm, hb66⟩
                · have d1 : decide (z < 0) = false := by rw [decide_eq_false_iff_not]; exact hneg
                  have Hst := Lib.hid (show (zs.take (i + 1)).any (fun z => decide (z < 0)) = false by rw [Hsz.out]; exact d1)
                  clear hneg
                  go_wp2_with fail
                  go_round
                  case rel => exact ⟨i + 1, by go_num, by omega, Hst.out⟩
                  case measure => simp [intOf]; omega
              · have hdi : decide ((i : Int) < (zs.length : Int)) = false := by rw [decide_eq_false_iff_not]; omega
                have Hst := Lib.hid (show (ts.take (k + 1)).any (noneR ts) = false by
                  rw [Hsn.out, Hnr.out]
                  have := HI.out
                  rwa [List.take_of_length_le (by omega)] at this)
                go_wp2_with fail
                go_roundw
                case rel => exact ⟨k + 1, by go_num, by omega, hb66, Hst.out⟩
                case measure => simp [intOf]; omega
          · have hdk : decide ((k : Int) < (l.length : Int)) = false := by rw [decide_eq_false_iff_not]; omega
            have hfl : ts.any (noneR ts) = false := by have := HK.out; rwa [List.take_of_length_le (by have := Htl.out; omega)] at this
            have HR4 := Lib.hid (show R = if ts.any (twiceR ts) = true then 24 else if ts.any (fun t => !keyedR ts t) = true then 23 else 0 by rw [HR3.out, if_neg (by rw [hfl]; simp)])
            have hrg : ∀ (x : TyV) (k : Nat), l[k]? = some x → ∀ z ∈ kidsR ts x.t.nodes, 0 ≤ z ∧ z < (l.length : Int) := fun x k hx z hz => by
              refine ⟨?_, by have := kidsR_lt hz; rw [Htl.out] at this; exact this⟩
              rw [List.any_eq_false] at hfl
              have h1 := hfl x.t (List.mem_of_getElem? (Hget.out k x hx))
              unfold noneR at h1
              rw [Bool.not_eq_true, List.any_eq_false] at h1
              have := h1 z hz
              simpa using this
            have Hrg := Lib.hid hrg
            clear hfl HK HR3 hrg
            go_wp2_with fail
            go_loopw [8] (fun v wr => ∃ k : Nat, v = .int .i64 k ∧ k ≤ l.length ∧ Below w.heap.size w wr ∧ Hid ((ts.take k).any (twiceR ts) = false)) (fun v _ => l.length - (intOf v).toNat)
            case atStart => exact ⟨0, rfl, Nat.zero_le _, hbr, rfl⟩
            case round =>
              obtain ⟨k, rfl, hk, hbq, HK⟩ := hrel
              by_cases hlt : k < l.length
              · have hdk : decide ((k : Int) < (l.length : Int)) = true := by rw [decide_eq_true_eq]; omega
                have hki : (k : Int) < (l.length : Int) := by omega
                have hk0 : (0 : Int) ≤ (k : Int) := by omega
                obtain ⟨x, hx⟩ : ∃ n, l[k]? = some n := ⟨_, List.getElem?_eq_getElem hlt⟩
                have hxt := Hget.out k x hx
                have hsn := any_take (p := twiceR ts) hxt HK.out
                have hyes : twiceR ts x.t = true → R = 24 := fun hh => by rw [HR4.out, if_pos (any_at hxt hh)]
                have hkx := Hki.out x (List.mem_of_getElem? hx) _ hbq
                have hrx := Hrg.out x k hx
                have hnr : twiceR ts x.t = twiceB (zLabels ts (kidsR ts x.t.nodes)) := rfl
                generalize kidsR ts x.t.nodes = zs at hkx hnr hrx
                rw [hnr] at hsn hyes
                generalize hq : twiceB (zLabels ts zs) = q at hsn hyes
                have htx := fun vo vc w' hb hz => Htw.out zs vo vc w' hb hz hrx
                rw [hq] at htx
                obtain ⟨b, off, rfl, hbl, x0, x1, x2, x3, x4, x5⟩ := (h.below hbq).at hx
                obtain ⟨⟨name, label, attrs, key, text, nodes⟩, ao, ac, no, nc⟩ := x
                unfold typeVal typeRow at hkx
                simp only at x0 x1 x2 x3 x4 x5 hkx hsn hyes
                have Hsn := Lib.hid hsn
                have Hyes := Lib.hid hyes
                have Htx := Lib.hid htx
                clear hsn hyes hx hxt hnr hrx htx hq
                go_wp2_with fail
                refine hkx.mono ?_
                rintro e w6 ⟨vo, vc, rfl, hin, hb6⟩
                clear hkx x0 x1 x2 x3 x4 x5
                have hb66 := bel_next hbq hb6
                have htz := Htx.out vo vc _ hb66 hin
                clear hb6
                cases q with
                | true =>
                  have HRe := Lib.hid (Hyes.out rfl)
                  go_wp2_with fail
                  refine htz.mono ?_
                  rintro e w7 ⟨rfl, hb7⟩
                  clear htz
                  go_wp2_with fail
                  go_ret
                  exact ⟨ret_int HRe.out.symm, bel_next hb66 hb7⟩
                | false =>
                  go_wp2_with fail
                  refine htz.mono ?_
                  rintro e w7 ⟨rfl, hb7⟩
                  clear htz
                  go_wp2_with fail
                  go_roundw
                  case rel => exact ⟨k + 1, by go_num, by omega, bel_next hb66 hb7, Hsn.out⟩
                  case measure => simp [intOf]; omega
              · have hdk : decide ((k : Int) < (l.length : Int)) = false := by rw [decide_eq_false_iff_not]; omega
                have hfl : ts.any (twiceR ts) = false := by have := HK.out; rwa [List.take_of_length_le (by have := Htl.out; omega)] at this
                have HR5 := Lib.hid (show R = if ts.any (fun t => !keyedR ts t) = true then 23 else 0 by rw [HR4.out, if_neg (by rw [hfl]; simp)])
                clear hfl HK HR4
                go_wp2_with fail
                go_loopw [9] (fun v wr => ∃ k : Nat, v = .int .i64 k ∧ k ≤ l.length ∧ Below w.heap.size w wr ∧ Hid ((ts.take k).any (fun t => !keyedR ts t) = false)) (fun v _ => l.length - (intOf v).toNat)
                case atStart => exact ⟨0, rfl, Nat.zero_le _, hbq, rfl⟩
                case round =>
                  obtain ⟨k, rfl, hk, hbs, HK⟩ := hrel
                  by_cases hlt : k < l.length
                  · have hdk : decide ((k : Int) < (l.length : Int)) = true := by rw [decide_eq_true_eq]; omega
                    have hki : (k : Int) < (l.length : Int) := by omega
                    have hk0 : (0 : Int) ≤ (k : Int) := by omega
                    obtain ⟨x, hx⟩ : ∃ n, l[k]? = some n := ⟨_, List.getElem?_eq_getElem hlt⟩
                    have hxt := Hget.out k x hx
                    have hsn := any_take (p := fun t => !keyedR ts t) hxt HK.out
                    have hyes : (!keyedR ts x.t) = true → R = 23 := fun hh => by rw [HR5.out, if_pos (any_at (p := fun t => !keyedR ts t) hxt hh)]
                    have hkx := Hke.out x (List.mem_of_getElem? hx) _ hbs (Hrg.out x k hx)
                    rw [show ((kidsR ts x.t.nodes).any (fun z => (attrsAt ts z.toNat).contains x.t.key) || x.t.key.isEmpty) = keyedR ts x.t from rfl] at hkx
                    obtain ⟨b, off, rfl, hbl, x0, x1, x2, x3, x4, x5⟩ := (h.below hbs).at hx
                    obtain ⟨⟨name, label, attrs, key, text, nodes⟩, ao, ac, no, nc⟩ := x
                    unfold typeVal typeRow at hkx
                    simp only at x0 x1 x2 x3 x4 x5 hkx hsn hyes
                    generalize keyedR ts ⟨name, label, attrs, key, text, nodes⟩ = q at hkx hsn hyes
                    have Hsn := Lib.hid hsn
                    have Hyes := Lib.hid hyes
                    clear hsn hyes hx hxt
                    cases q with
                    | false =>
                      have HRe := Lib.hid (Hyes.out rfl)
                      go_wp2_with fail
                      refine hkx.mono ?_
                      rintro e w7 ⟨rfl, hb7⟩
                      clear hkx
                      go_wp2_with fail
                      go_ret
                      exact ⟨ret_int HRe.out.symm, bel_next hbs hb7⟩
                    | true =>
                      go_wp2_with fail
                      refine hkx.mono ?_
                      rintro e w7 ⟨rfl, hb7⟩
                      clear hkx
                      go_wp2_with fail
                      go_roundw
                      case rel => exact ⟨k + 1, by go_num, by omega, bel_next hbs hb7, Hsn.out⟩
                      case measure => simp [intOf]; omega
                  · have hdk : decide ((k : Int) < (l.length : Int)) = false := by rw [decide_eq_false_iff_not]; omega
                    have hfl : ts.any (fun t => !keyedR ts t) = false := by have := HK.out; rwa [List.take_of_length_le (by have := Htl.out; omega)] at this
                    have HR6 := Lib.hid (show R = 0 by rw [HR5.out, if_neg (by rw [hfl]; simp)])
                    clear hfl HK HR5
                    go_wp2_with fail
                    go_ret
                    exact ⟨ret_int HR6.out.symm, hbs⟩
      · have HR3 := Lib.hid (show R = E by rw [HR2.out, if_pos hE])
        have hne : (E != 0) = true := by rw [bne_iff_ne]; exact hE
        clear HR2
        go_wp2_with fail
        refine hsw.mono ?_
        rintro e w5 ⟨rfl, hb5⟩
        clear hsw
        go_wp2_with fail
        go_ret
        exact ⟨ret_int HR3.out.symm, bel_next hbr hb5⟩
/-- no two places hold the same -/
def Once {α : Type} (l : List α) : Prop := ∀ (a b : Nat) (x : α), l[a]? = some x → l[b]? = some x → a = b
theorem twice_iff {α : Type} {l : List α} (h : Once l) (f : α → Bytes) : twiceB (l.map f) = true ↔ ∃ x ∈ l, ∃ y ∈ l, x ≠ y ∧ f x = f y := by
  constructor
  · intro ht
    obtain ⟨a, b, v, h1, h2, h3⟩ := twiceB_ex _ ht
    rw [List.getElem?_map] at h2 h3
    obtain ⟨x, hx, e1⟩ := Option.map_eq_some_iff.1 h2
    obtain ⟨y, hy, e2⟩ := Option.map_eq_some_iff.1 h3
    refine ⟨x, List.mem_of_getElem? hx, y, List.mem_of_getElem? hy, fun e => ?_, by rw [e1, e2]⟩
    subst e
    have := h a b x hx hy
    omega
  · rintro ⟨x, hx, y, hy, hne, hf⟩
    obtain ⟨a, ha⟩ := List.mem_iff_getElem?.1 hx
    obtain ⟨b, hb⟩ := List.mem_iff_getElem?.1 hy
    cases e : twiceB (l.map f) with
    | true => rfl
    | false =>
      have := twice_inj e a b (f x) (by rw [List.getElem?_map, ha]; rfl) (by rw [List.getElem?_map, hb, hf]; rfl)
      subst this
      rw [ha] at hb
      injection hb with hb
      exact absurd hb hne
theorem once_snoc {α : Type} {l : List α} {x : α} (h : Once l) (hx : x ∉ l) : Once (l ++ [x]) := by
  intro a b y ha hb
  by_cases h1 : a < l.length <;> by_cases h2 : b < l.length
  · rw [List.getElem?_append_left h1] at ha
    rw [List.getElem?_append_left h2] at hb
    exact h a b y ha hb
  · rw [List.getElem?_append_left h1] at ha
    have hb2 := (List.getElem?_eq_some_iff.1 hb).1
    rw [List.length_append, List.length_singleton] at hb2
    rw [List.getElem?_append_right (by omega), show b - l.length = 0 by omega] at hb
    simp at hb
    subst hb
    exact absurd (List.mem_of_getElem? ha) hx
  · rw [List.getElem?_append_left h2] at hb
    have ha2 := (List.getElem?_eq_some_iff.1 ha).1
    rw [List.length_append, List.length_singleton] at ha2
    rw [List.getElem?_append_right (by omega), show a - l.length = 0 by omega] at ha
    simp at ha
    subst ha
    exact absurd (List.mem_of_getElem? hb) hx
  · have ha2 := (List.getElem?_eq_some_iff.1 ha).1
    have hb2 := (List.getElem?_eq_some_iff.1 hb).1
    rw [List.length_append, List.length_singleton] at ha2 hb2
    omega
theorem foldKids_once {ts : List SType} : ∀ (l : List SNode) (out : List Int), Once out → Once (l.foldl (kidStep ts) out) := by
  intro l
  induction l with
  | nil => intro out h; exact h
  | cons n t ih =>
    intro out h
    rw [List.foldl_cons]
    refine ih _ ?_
    unfold kidStep
    split
    · split
      · exact h
      · rename_i hc
        exact once_snoc h (by rwa [List.contains_iff_mem] at hc)
    · exact h
theorem kidsR_once (ts : List SType) (l : List SNode) : Once (kidsR ts l) := foldKids_once l [] (fun a b x h => by simp at h)
/-- a sorted row, of equal neighbours one: no two are the same -/
theorem compactB_cons {a : Bytes} {l : List Bytes} (h : (a :: l).Pairwise (fun x y => leS x y = true)) : (compactB (a :: l)).Pairwise (fun x y => leS x y = true ∧ x ≠ y) ∧ ∀ x ∈ compactB (a :: l), leS a x = true := by
  induction l generalizing a with
  | nil =>
    refine ⟨by simp [compactB], fun x hx => ?_⟩
    simp [compactB] at hx
    subst hx
    unfold leS; simp
  | cons b t ih =>
    have hp := List.pairwise_cons.1 h
    obtain ⟨i1, i2⟩ := ih hp.2
    have hab := hp.1 b (List.mem_cons_self ..)
    unfold compactB
    by_cases e : a = b
    · subst e
      rw [if_pos rfl]
      exact ⟨i1, i2⟩
    · rw [if_neg e]
      have tr : ∀ x ∈ compactB (b :: t), leS a x = true := fun x hx => by
        have := i2 x hx
        unfold leS at *
        rw [decide_eq_true_eq] at *
        exact List.le_trans hab this
      refine ⟨List.pairwise_cons.2 ⟨fun x hx => ⟨tr x hx, fun e2 => ?_⟩, i1⟩, fun x hx => ?_⟩
      · subst e2
        have h2 := i2 a hx
        unfold leS at h2 hab
        rw [decide_eq_true_eq] at h2 hab
        exact e (List.le_antisymm hab h2)
      · rcases List.mem_cons.1 hx with rfl | hx
        · unfold leS; simp
        · exact tr x hx
theorem compactB_mem2 {b : Bytes} : ∀ {l : List Bytes}, b ∈ l → b ∈ compactB l
  | [], h => h
  | [a], h => h
  | a :: c :: t, h => by
    simp only [compactB]
    by_cases e : a = c
    · rw [if_pos e]
      rcases List.mem_cons.1 h with h | h
      · subst h; exact compactB_mem2 (e ▸ List.mem_cons_self ..)
      · exact compactB_mem2 h
    · rw [if_neg e]
      rcases List.mem_cons.1 h with h | h
      · subst h; exact List.mem_cons_self ..
      · exact List.mem_cons_of_mem _ (compactB_mem2 h)
theorem symsS_iff {l : List SNode} (h : regexE l = 0) {b : Bytes} : b ∈ symsS l ↔ ∃ n ∈ l, n.op = 2 ∧ n.sym = b := by
  unfold symsS
  rw [if_pos h]
  have hm : b ∈ (symsOf l).mergeSort leS ↔ b ∈ symsOf l := List.mem_mergeSort
  have hs : b ∈ symsOf l ↔ ∃ n ∈ l, n.op = 2 ∧ n.sym = b := by
    unfold symsOf
    rw [List.mem_filterMap]
    constructor
    · rintro ⟨n, hn, e⟩
      by_cases h2 : n.op = 2
      · rw [if_pos h2] at e; injection e with e; exact ⟨n, hn, h2, e⟩
      · rw [if_neg h2] at e; cases e
    · rintro ⟨n, hn, h2, e⟩
      exact ⟨n, hn, by rw [if_pos h2, e]⟩
  rw [← hs, ← hm]
  exact ⟨compactB_mem, compactB_mem2⟩
theorem symsS_once {l : List SNode} : Once (symsS l) := by
  unfold symsS
  split
  · have hsort : ((symsOf l).mergeSort leS).Pairwise (fun x y => leS x y = true) := by
      refine List.pairwise_mergeSort ?_ ?_ _
      · intro a b c h1 h2
        unfold leS at *
        rw [decide_eq_true_eq] at *
        exact List.le_trans h1 h2
      · intro a b
        unfold leS
        rw [Bool.or_eq_true, decide_eq_true_eq, decide_eq_true_eq]
        exact List.le_total a b
    generalize (symsOf l).mergeSort leS = s at hsort
    have hp : (compactB s).Pairwise (fun x y => x ≠ y) := by
      cases s with
      | nil => simp [compactB]
      | cons a t => exact (compactB_cons hsort).1.imp fun h => h.2
    intro a b x ha hb
    obtain ⟨ha1, ha2⟩ := List.getElem?_eq_some_iff.1 ha
    obtain ⟨hb1, hb2⟩ := List.getElem?_eq_some_iff.1 hb
    rw [List.pairwise_iff_getElem] at hp
    rcases Nat.lt_trichotomy a b with h | h | h
    · exact absurd (ha2.trans hb2.symm) (hp a b ha1 hb1 h)
    · exact h
    · exact absurd (hb2.trans ha2.symm) (hp b a hb1 ha1 h)
  · intro a b x ha; simp at ha
/-- names once: the first is the last -/
theorem place_find {ts : List SType} (h : twiceB (ts.map SType.name) = false) (n : Bytes) : findR ts n = match placeS ts n with | some k => (k : Int) | none => -1 := by
  rcases findR_spec ts n with ⟨k, t, h1, h2, h3, _⟩ | ⟨h1, h2⟩
  · cases hp : placeS ts n with
    | none =>
      have := placeS_some ts n
      rw [hp] at this
      have hm : (ts.map SType.name).contains n = true := by rw [List.contains_iff_mem]; exact List.mem_map.2 ⟨t, List.mem_of_getElem? h1, h2⟩
      rw [hm] at this
      cases this
    | some c =>
      obtain ⟨u, hu, hun⟩ := placeS_at hp
      have : k = c := twice_inj h k c n (by rw [List.getElem?_map, h1]; simp [h2]) (by rw [List.getElem?_map, hu]; simp [hun])
      rw [h3, this]
  · cases hp : placeS ts n with
    | none => exact h1
    | some c =>
      obtain ⟨u, hu, hun⟩ := placeS_at hp
      exact absurd hun (h2 c u hu)
theorem find_neg {ts : List SType} (h : twiceB (ts.map SType.name) = false) (n : Bytes) : findR ts n < 0 ↔ placeS ts n = none := by
  rw [place_find h n]
  cases placeS ts n with
  | none => simp
  | some k => simp
theorem contentE_none {ts : List SType} (h : contentE ts = 0) : ∀ t ∈ ts, t.text = false → regexE t.nodes = 0 := by
  induction ts with
  | nil => intro t ht; simp at ht
  | cons u ts ih =>
    unfold contentE at h
    intro t ht htx
    by_cases hc : u.text = false ∧ regexE u.nodes ≠ 0
    · rw [if_pos hc] at h; exact absurd h hc.2
    · rw [if_neg hc] at h
      rcases List.mem_cons.1 ht with rfl | ht
      · exact Classical.byContradiction fun e => hc ⟨htx, e⟩
      · exact ih h t ht htx
/-- the words of a content that may be -/
theorem syms_of {ts : List SType} (h3 : ts.any formB = false) (h4 : contentE ts = 0) {t : SType} (ht : t ∈ ts) {b : Bytes} : b ∈ symsS t.nodes ↔ ∃ n ∈ t.nodes, n.op = 2 ∧ n.sym = b := by
  cases htx : t.text with
  | false => exact symsS_iff (contentE_none h4 t ht htx)
  | true =>
    rw [List.any_eq_false] at h3
    have := h3 t ht
    unfold formB at this
    rw [htx] at this
    have hn : t.nodes = [] := by
      cases e : t.nodes with
      | nil => rfl
      | cons a r => rw [e] at this; simp at this
    rw [hn, syms_nil]
    simp
theorem none_eq {ts : List SType} (h1 : twiceB (ts.map SType.name) = false) (h3 : ts.any formB = false) (h4 : contentE ts = 0) {t : SType} (ht : t ∈ ts) : noneR ts t = (symsS t.nodes).any (fun n => (placeS ts n).isNone) := by
  rw [Bool.eq_iff_iff]
  unfold noneR
  rw [List.any_eq_true, List.any_eq_true]
  constructor
  · rintro ⟨z, hz, hneg⟩
    obtain ⟨n, hn, h2, rfl⟩ := kidsR_mem.1 hz
    rw [decide_eq_true_eq] at hneg
    exact ⟨n.sym, (syms_of h3 h4 ht).2 ⟨n, hn, h2, rfl⟩, by rw [(find_neg h1 _).1 hneg]; rfl⟩
  · rintro ⟨b, hb, hno⟩
    obtain ⟨n, hn, h2, rfl⟩ := (syms_of h3 h4 ht).1 hb
    refine ⟨findR ts n.sym, kidsR_mem.2 ⟨n, hn, h2, rfl⟩, ?_⟩
    rw [decide_eq_true_eq, find_neg h1]
    cases e : placeS ts n.sym with
    | none => rfl
    | some k => rw [e] at hno; cases hno
/-- the same types stand in a content -/
theorem kids_same {ts : List SType} (h1 : twiceB (ts.map SType.name) = false) (h3 : ts.any formB = false) (h4 : contentE ts = 0) {t : SType} (ht : t ∈ ts) (hp : ∀ b ∈ symsS t.nodes, placeS ts b ≠ none) (z : Int) : z ∈ kidsR ts t.nodes ↔ ∃ k ∈ kidsS ts t, z = (k : Int) := by
  rw [kidsR_mem]
  unfold kidsS
  constructor
  · rintro ⟨n, hn, h2, rfl⟩
    have hm := (syms_of h3 h4 ht).2 ⟨n, hn, h2, rfl⟩
    refine ⟨_, List.mem_map.2 ⟨n.sym, hm, rfl⟩, ?_⟩
    rw [place_find h1]
    cases e : placeS ts n.sym with
    | none => exact absurd e (hp _ hm)
    | some k => rfl
  · rintro ⟨k, hk, rfl⟩
    obtain ⟨b, hb, rfl⟩ := List.mem_map.1 hk
    obtain ⟨n, hn, h2, rfl⟩ := (syms_of h3 h4 ht).1 hb
    refine ⟨n, hn, h2, ?_⟩
    rw [place_find h1]
    cases e : placeS ts n.sym with
    | none => exact absurd e (hp _ hb)
    | some k => rfl
theorem kidsS_once {ts : List SType} {t : SType} (hp : ∀ b ∈ symsS t.nodes, placeS ts b ≠ none) : Once (kidsS ts t) := by
  unfold kidsS
  intro a b k ha hb
  rw [List.getElem?_map] at ha hb
  obtain ⟨x, hx, e1⟩ := Option.map_eq_some_iff.1 ha
  obtain ⟨y, hy, e2⟩ := Option.map_eq_some_iff.1 hb
  have hxy : x = y := by
    cases p1 : placeS ts x with
    | none => exact absurd p1 (hp x (List.mem_of_getElem? hx))
    | some c =>
      cases p2 : placeS ts y with
      | none => exact absurd p2 (hp y (List.mem_of_getElem? hy))
      | some d =>
        rw [p1] at e1
        rw [p2] at e2
        simp at e1 e2
        subst e1; subst e2
        obtain ⟨u, hu, hn⟩ := placeS_at p1
        obtain ⟨v, hv, hm⟩ := placeS_at p2
        rw [hu] at hv
        injection hv with hv
        subst hv
        rw [← hn, ← hm]
  subst hxy
  exact symsS_once a b x hx hy
theorem twice_eq {ts : List SType} (h1 : twiceB (ts.map SType.name) = false) (h3 : ts.any formB = false) (h4 : contentE ts = 0) {t : SType} (ht : t ∈ ts) (hp : ∀ b ∈ symsS t.nodes, placeS ts b ≠ none) : twiceR ts t = twiceB ((kidsS ts t).map (labelAt ts)) := by
  rw [Bool.eq_iff_iff]
  unfold twiceR zLabels
  rw [twice_iff (kidsR_once ts t.nodes), twice_iff (kidsS_once hp)]
  constructor
  · rintro ⟨x, hx, y, hy, hne, hf⟩
    obtain ⟨k, hk, rfl⟩ := (kids_same h1 h3 h4 ht hp x).1 hx
    obtain ⟨j, hj, rfl⟩ := (kids_same h1 h3 h4 ht hp y).1 hy
    exact ⟨k, hk, j, hj, fun e => hne (by rw [e]), by simpa using hf⟩
  · rintro ⟨k, hk, j, hj, hne, hf⟩
    exact ⟨k, (kids_same h1 h3 h4 ht hp _).2 ⟨k, hk, rfl⟩, j, (kids_same h1 h3 h4 ht hp _).2 ⟨j, hj, rfl⟩, by omega, by simpa using hf⟩
theorem keyed_eq {ts : List SType} (h1 : twiceB (ts.map SType.name) = false) (h3 : ts.any formB = false) (h4 : contentE ts = 0) {t : SType} (ht : t ∈ ts) (hp : ∀ b ∈ symsS t.nodes, placeS ts b ≠ none) : (!keyedR ts t) = (!t.key.isEmpty && !(kidsS ts t).any fun k => (attrsAt ts k).contains t.key) := by
  have he : (kidsR ts t.nodes).any (fun z => (attrsAt ts z.toNat).contains t.key) = (kidsS ts t).any fun k => (attrsAt ts k).contains t.key := by
    rw [Bool.eq_iff_iff, List.any_eq_true, List.any_eq_true]
    constructor
    · rintro ⟨z, hz, hc⟩
      obtain ⟨k, hk, rfl⟩ := (kids_same h1 h3 h4 ht hp z).1 hz
      exact ⟨k, hk, by simpa using hc⟩
    · rintro ⟨k, hk, hc⟩
      exact ⟨(k : Int), (kids_same h1 h3 h4 ht hp _).2 ⟨k, hk, rfl⟩, by simpa using hc⟩
  unfold keyedR
  rw [he]
  cases t.key.isEmpty <;> simp
theorem any_congr {α : Type} {l : List α} {p q : α → Bool} (h : ∀ x ∈ l, p x = q x) : l.any p = l.any q := by
  induction l with
  | nil => rfl
  | cons a t ih => rw [List.any_cons, List.any_cons, h a (List.mem_cons_self ..), ih fun x hx => h x (List.mem_cons_of_mem _ hx)]
theorem chkR_eq (ts : List SType) : chkR ts = chkS ts := by
  unfold chkR chkS
  split
  · rfl
  split
  · rfl
  split
  · rfl
  unfold shapeR
  by_cases h1 : twiceB (ts.map SType.name) = true
  · rw [if_pos h1, if_pos h1, if_pos (by decide)]
  rw [if_neg h1, if_neg h1]
  by_cases h2 : ts.any (fun t => fallsS t.attrs) = true
  · rw [if_pos h2, if_pos h2, if_pos (by decide)]
  rw [if_neg h2, if_neg h2]
  rw [show (fun t : SType => t.text && (!t.nodes.isEmpty || !t.key.isEmpty)) = formB from rfl]
  by_cases h3 : ts.any formB = true
  · rw [if_pos h3, if_pos h3, if_pos (by decide)]
  rw [if_neg h3, if_neg h3]
  by_cases h4 : contentE ts = 0
  · rw [if_neg (show ¬ contentE ts ≠ 0 by simp [h4]), if_neg (show ¬ contentE ts ≠ 0 by simp [h4])]
    rw [Bool.not_eq_true] at h1 h3
    have e5 : ts.any (noneR ts) = ts.any (fun t => (symsS t.nodes).any fun n => (placeS ts n).isNone) := any_congr fun t ht => none_eq h1 h3 h4 ht
    rw [e5]
    by_cases h5 : ts.any (fun t => (symsS t.nodes).any fun n => (placeS ts n).isNone) = true
    · rw [if_pos h5, if_pos h5]
    rw [if_neg h5, if_neg h5]
    have hp : ∀ t ∈ ts, ∀ b ∈ symsS t.nodes, placeS ts b ≠ none := fun t ht b hb e => h5 (List.any_eq_true.2 ⟨t, ht, List.any_eq_true.2 ⟨b, hb, by rw [e]; rfl⟩⟩)
    rw [any_congr (q := fun t => twiceB ((kidsS ts t).map (labelAt ts))) fun t ht => twice_eq h1 h3 h4 ht (hp t ht)]
    by_cases h6 : ts.any (fun t => twiceB ((kidsS ts t).map (labelAt ts))) = true
    · rw [if_pos h6, if_pos h6]
    rw [if_neg h6, if_neg h6]
    rw [any_congr fun t ht => keyed_eq h1 h3 h4 ht (hp t ht)]
  · rw [if_pos h4, if_pos h4]
/-! ### of a schema that may be -/
structure Whole2 (ts : List SType) : Prop where
  names : twiceB (ts.map SType.name) = false
  kids : ∀ t ∈ ts, ∀ z, z ∈ kidsR ts t.nodes ↔ ∃ k ∈ kidsS ts t, z = (k : Int)
theorem whole2_of {ts : List SType} (h : chkS ts = 0) : Whole2 ts := by
  have hw := whole_of h
  rw [← chkR_eq] at h
  unfold chkR at h
  split at h
  · cases h
  split at h
  · cases h
  split at h
  · cases h
  split at h
  · rename_i h7; exact absurd h h7
  rename_i hs
  have hs : shapeR ts = 0 := Classical.byContradiction hs
  unfold shapeR at hs
  split at hs
  · cases hs
  rename_i h1
  split at hs
  · cases hs
  split at hs
  · cases hs
  rename_i h3
  rw [Bool.not_eq_true] at h1 h3
  refine ⟨h1, fun t ht z => kids_same h1 h3 hs ht (fun b hb e => ?_) z⟩
  have := hw.placed t ht b hb
  rw [e] at this
  cases this
/-- what the law asks of Find -/
theorem finds_find {ts : List SType} (h : chkS ts = 0) (n : Bytes) : (findR ts n < 0 ∧ findS ts n = (0, 16) ∧ ∀ lb, childS ts n lb = (0, 16)) ∨ (∃ (k : Nat) (t : SType), ts[k]? = some t ∧ findR ts n = (k : Int) ∧ findS ts n = ((k : Int), 0) ∧ ∀ lb, childS ts n lb = match (kidsS ts t).find? (fun j => labelAt ts j == lb) with | some j => ((j : Int), 0) | none => (0, 16)) := by
  have hW := whole2_of h
  rw [place_find hW.names]
  unfold findS childS
  simp only [if_pos h]
  cases hp : placeS ts n with
  | none => exact .inl ⟨by decide, rfl, fun _ => rfl⟩
  | some k =>
    obtain ⟨t, ht, _⟩ := placeS_at hp
    refine .inr ⟨k, t, ht, rfl, rfl, fun lb => ?_⟩
    simp only [ht]
    cases (kidsS ts t).find? (fun j => labelAt ts j == lb) <;> rfl
theorem finds_bad {ts : List SType} (h : chkS ts ≠ 0) (n lb : Bytes) : findS ts n = (0, chkS ts) ∧ childS ts n lb = (0, chkS ts) := by
  unfold findS childS
  rw [if_neg h, if_neg h]
  exact ⟨rfl, rfl⟩
/-- a kid of a label is the one that Child answers; if there is none, it answers none -/
theorem finds_kid {ts : List SType} (h : chkS ts = 0) {t : SType} (ht : t ∈ ts) (lb : Bytes) :
    (∀ z ∈ kidsR ts t.nodes, 0 ≤ z ∧ z < (ts.length : Int) ∧ (labelAt ts z.toNat = lb → (match (kidsS ts t).find? (fun j => labelAt ts j == lb) with | some j => ((j : Int), (0 : Int)) | none => (0, 16)) = (z, 0))) ∧
    ((∀ z ∈ kidsR ts t.nodes, labelAt ts z.toNat ≠ lb) → (match (kidsS ts t).find? (fun j => labelAt ts j == lb) with | some j => ((j : Int), (0 : Int)) | none => (0, 16)) = (0, 16)) := by
  have hk := (whole2_of h).kids t ht
  have hl := (whole_of h).labels t ht
  refine ⟨fun z hz => ?_, fun hno => ?_⟩
  · obtain ⟨k, hkm, rfl⟩ := (hk z).1 hz
    refine ⟨by omega, kidsR_lt hz, fun e => ?_⟩
    have hf := find_of hl hkm
    rw [show labelAt ts ((k : Int).toNat) = labelAt ts k by simp] at e
    rw [e] at hf
    rw [hf]
  · cases hf : (kidsS ts t).find? (fun j => labelAt ts j == lb) with
    | none => rfl
    | some j =>
      have h1 := List.find?_some hf
      have h2 := List.mem_of_find?_eq_some hf
      exact absurd (by simpa using h1) (hno (j : Int) ((hk _).2 ⟨j, h2, rfl⟩))
theorem refFindX_any (l : List TyV) (o : Option Addr) (cap : Nat) (w : World) (h : TypesAt w o cap l) (hl : l.length ≤ 1048576) (n : Bytes) :
    Calls Tryz.prog 12 #[.slice o l.length cap, .string ⟨n.toArray⟩] w fun e w' => e = .returned (.int .i64 (findR (l.map TyV.t) n)) ∧ w = w' := by
  have hf := refFind_any l o cap w h hl n
  go_enter Tryz.func12, Tryz.ntmps12
  go_wp2_with fail
  refine hf.mono ?_
  rintro e w' ⟨rfl, rfl⟩
  go_wp2_with fail
  go_ret
  exact ⟨rfl, rfl⟩
theorem mem_map_t {l ys : List TyV} (h : ys.map TyV.t = l.map TyV.t) {y : TyV} (hy : y ∈ ys) : ∃ x ∈ l, x.t = y.t := by
  have : y.t ∈ l.map TyV.t := by rw [← h]; exact List.mem_map_of_mem hy
  exact List.mem_map.1 this
theorem lim_map {l ys : List TyV} (h : ys.map TyV.t = l.map TyV.t) (hL : Lim l) : Lim ys := by
  have hl : ys.length = l.length := by have := congrArg List.length h; simpa using this
  refine ⟨by rw [hl]; exact hL.len, fun y hy => ?_, fun y hy => ?_, fun y hy => ?_, fun y hy => ?_, fun y hy => ?_, fun y hy => ?_⟩
  all_goals
    obtain ⟨x, hx, e⟩ := mem_map_t h hy
    rw [← e]
  · exact hL.name x hx
  · exact hL.label x hx
  · exact hL.key x hx
  · exact hL.attrs x hx
  · exact hL.attr x hx
  · exact hL.sym x hx
theorem nodes_small {l : List TyV} (h : smallS (l.map TyV.t) = true) : ∀ x ∈ l, x.t.nodes.length ≤ 1048576 := by
  intro x hx
  unfold smallS at h
  rw [Bool.and_eq_true, List.all_eq_true] at h
  have h2 := h.1 _ (List.mem_map_of_mem hx)
  have h3 : smallN x.t.nodes = true := by
    unfold smallT at h2
    simp only [Bool.and_eq_true] at h2
    simp_all
  unfold smallN at h3
  rw [Bool.and_eq_true] at h3
  have := of_decide_eq_true h3.2
  omega
set_option maxHeartbeats 8000000 in
set_option maxRecDepth 100000 in
theorem findsLaw_any (l : List TyV) (o : Option Addr) (cap : Nat) (nm lb : Bytes) (w : World) (h : TypesAt w o cap l) :
    Calls Tryz.prog 3 #[.agg #[.slice o l.length cap], .string ⟨nm.toArray⟩, .string ⟨lb.toArray⟩] w fun e w' => e = .returned (.bool true) ∧ Below w.heap.size w w' := by
  have hlm := h.1.2.1
  have hcm := h.1.2.2.1
  unfold maxLen at hcm
  have hb0 : Below w.heap.size w (w.alloc (.cells #[.slice o l.length cap] 24)) := (Below.refl _ w).alloc (Nat.le_refl _) _
  have h1 := h.below hb0
  obtain ⟨w1, hw1⟩ : ∃ w1, w1 = w.alloc (.cells #[.slice o l.length cap] 24) := ⟨_, rfl⟩
  have hx0 := heap_alloc_new w (.cells #[.slice o l.length cap] 24)
  have hz0 : w.heap.size < (w.alloc (.cells #[.slice o l.length cap] 24)).heap.size := by simp
  have hsm := small09_any l o cap
  have haw := awake_any
  go_enter Tryz.func3, Tryz.ntmps3
  go_wp2_with fail
  rw [← hw1] at hb0 h1 hx0 hz0 ⊢
  clear hw1
  have hsm1 := hsm w1 h1
  clear hsm
  have hS : ∀ w', Below w1.heap.size w1 w' → w'.cell? ⟨w.heap.size, 0, none⟩ = some (.slice o l.length cap) := fun w' hb => cell_of_row _ _ 0 _ _ _ ((hb.block w.heap.size hz0).trans hx0)
  have HS := Lib.hid hS
  clear hx0 hz0 h hS
  refine hsm1.mono ?_
  rintro e w2 ⟨rfl, hb2⟩
  clear hsm1
  have hbw := bel_next hb0 hb2
  cases hsb : smallS (l.map TyV.t) with
  | false =>
    go_wp2_with fail
    refine (haw _).mono ?_
    rintro e w3 ⟨rfl, hb3⟩
    go_wp2_with fail
    go_ret
    exact ⟨rfl, bel_next hbw hb3⟩
  | true =>
  by_cases hn80 : nm.length ≤ 80
  rotate_left
  · have hd : decide ((nm.length : Int) > 80) = true := by rw [decide_eq_true_eq]; omega
    clear hsb
    go_wp2_with fail
    refine (haw _).mono ?_
    rintro e w3 ⟨rfl, hb3⟩
    go_wp2_with fail
    go_ret
    exact ⟨rfl, bel_next hbw hb3⟩
  have hd1 : decide ((nm.length : Int) > 80) = false := by rw [decide_eq_false_iff_not]; omega
  by_cases hl80 : lb.length ≤ 80
  rotate_left
  · have hd : decide ((lb.length : Int) > 80) = true := by rw [decide_eq_true_eq]; omega
    clear hsb
    go_wp2_with fail
    refine (haw _).mono ?_
    rintro e w3 ⟨rfl, hb3⟩
    go_wp2_with fail
    go_ret
    exact ⟨rfl, bel_next hbw hb3⟩
  have hd2 : decide ((lb.length : Int) > 80) = false := by rw [decide_eq_false_iff_not]; omega
  have hL := lim_small hsb
  have hns := nodes_small hsb
  clear hsb
  have c2 := HS.out _ hb2
  have hpl := plain9_any l o cap w2 (h1.below hb2) hL hns
  go_wp2_with fail
  refine hpl.mono ?_
  rintro e w3 ⟨ys, yo, yc, rfl, hyt, hT3, hb3⟩
  have hb13 := bel_next hb2 hb3
  have hLy := lim_map hyt hL
  have hny : ∀ y ∈ ys, y.t.nodes.length ≤ 1048576 := fun y hy => by
    obtain ⟨x, hx, e⟩ := mem_map_t hyt hy
    rw [← e]; exact hns x hx
  have hyl : ys.length = l.length := by have := congrArg List.length hyt; simpa using this
  have hck := refCheck9_any ys yo yc w3 hT3 hLy hny
  have hfi := fun w' (hb : Below w1.heap.size w1 w') => find_any l o cap w' (h1.below hb) hL nm (by omega)
  have hci := fun w' (hb : Below w1.heap.size w1 w') => child_any l o cap w' (h1.below hb) hL nm lb (by omega)
  have hfx := fun w' (hb : Below w3.heap.size w3 w') => refFindX_any ys yo yc w' (hT3.below hb) hLy.len nm
  have hkx := fun (y : TyV) (hy : y ∈ ys) w' (hb : Below w3.heap.size w3 w') => refKids_any ys yo yc w' (hT3.below hb) hLy.len y ((hT3.2 y hy).2.below hb) (hny y hy)
  rw [hyt, chkR_eq] at hck
  unfold FindPost at hfi hci
  have hgety : ∀ (k : Nat) (t : SType), (l.map TyV.t)[k]? = some t → ∃ y, ys[k]? = some y ∧ y.t = t := fun k t hk => by
    rw [← hyt, List.getElem?_map] at hk
    exact Option.map_eq_some_iff.1 hk
  have hlaby : ∀ (k : Nat) (y : TyV), ys[k]? = some y → labelAt (l.map TyV.t) k = y.t.label := fun k y hk => labelAt_eq (by rw [← hyt, List.getElem?_map, hk]; rfl)
  rw [hyt] at hfx hkx
  clear hpl hb2 hbw hL hns hyt hny
  obtain ⟨ts, hts⟩ : ∃ ts, ts = l.map TyV.t := ⟨_, rfl⟩
  have htl : ts.length = l.length := by rw [hts, List.length_map]
  rw [← hts] at hck hfi hci hfx hkx hgety hlaby
  clear hts
  have Hfi := Lib.hid hfi
  have Hci := Lib.hid hci
  have Hfx := Lib.hid hfx
  have Hkx := Lib.hid hkx
  have Hgety := Lib.hid hgety
  have Hlaby := Lib.hid hlaby
  have Htl := Lib.hid htl
  have Hyl := Lib.hid hyl
  have hycm := hT3.1.2.2.1
  unfold maxLen at hycm
  have hylm := hT3.1.2.1
  clear hfi hci hfx hkx hgety hlaby htl c2 hLy hyl
  go_wp2_with fail
  refine hck.mono ?_
  rintro e w4 ⟨rfl, hb4⟩
  clear hck
  have hb14 := bel_next hb13 hb4
  have c4 := HS.out _ hb14
  have hfw := Hfi.out _ hb14
  by_cases hch : chkS ts = 0
  · rw [hch]
    have hff := finds_find hch nm
    rcases hff with ⟨hneg, hf0, hc0⟩ | ⟨k, t, htk, hat, hf0, hc0⟩
    · rw [hf0] at hfw
      simp only at hfw
      have Hc0 := Lib.hid hc0
      have Hneg := Lib.hid hneg
      clear hch hneg hf0 hc0
      go_wp2_with fail
      refine hfw.mono ?_
      rintro e w5 ⟨rfl, hb5⟩
      clear hfw
      have hb15 := bel_next hb14 hb5
      have hb35 := bel_next hb4 hb5
      have c5 := HS.out _ hb15
      have hcw := Hci.out _ hb15
      rw [Hc0.out] at hcw
      simp only at hcw
      clear c4 hb5 hb4
      go_wp2_with fail
      refine hcw.mono ?_
      rintro e w6 ⟨rfl, hb6⟩
      clear hcw
      have hb16 := bel_next hb15 hb6
      have hb36 := bel_next hb35 hb6
      have hfx := Hfx.out _ hb36
      have hneg := Hneg.out
      generalize findR ts nm = F at hfx hneg
      have dn : decide (F < 0) = true := by rw [decide_eq_true_eq]; exact hneg
      clear hneg Hneg c5 hb6
      go_wp2_with fail
      refine hfx.mono ?_
      rintro e w7 ⟨rfl, rfl⟩
      clear hfx
      go_wp2_with fail
      refine (haw _).mono ?_
      rintro e w8 ⟨rfl, hb8⟩
      go_wp2_with fail
      go_ret
      exact ⟨rfl, bel_next (bel_next hb0 hb16) hb8⟩
    · rw [hf0] at hfw
      simp only at hfw
      obtain ⟨y, hy, rfl⟩ := Hgety.out k t htk
      have htm := List.mem_of_getElem? htk
      obtain ⟨hk1, hk2⟩ := finds_kid hch htm lb
      have hcl := hc0 lb
      rw [← hcl] at hk2
      have hk1' : ∀ z ∈ kidsR ts y.t.nodes, 0 ≤ z ∧ z < (ts.length : Int) ∧ (labelAt ts z.toNat = lb → childS ts nm lb = (z, 0)) := fun z hz => by
        obtain ⟨q1, q2, q3⟩ := hk1 z hz
        exact ⟨q1, q2, fun e => by rw [hcl]; exact q3 e⟩
      obtain ⟨c1, cc2, hcc⟩ : ∃ a b, childS ts nm lb = (a, b) := ⟨_, _, rfl⟩
      rw [hcc] at hk1' hk2
      have Hcc := Lib.hid hcc
      have Hk1 := Lib.hid hk1'
      have Hk2 := Lib.hid hk2
      have Hat := Lib.hid hat
      have Hy := Lib.hid hy
      have hkl := (List.getElem?_eq_some_iff.1 hy).1
      clear hch hf0 hc0 hk1 hk1' hk2 hcl hcc hat htk htm hy
      have bk0 : (0 : Int) ≤ (k : Int) := by omega
      have bk1 : (k : Int) < (ys.length : Int) := by omega
      have dk : decide ((k : Int) < 0) = false := by rw [decide_eq_false_iff_not]; omega
      go_wp2_with fail
      refine hfw.mono ?_
      rintro e w5 ⟨rfl, hb5⟩
      clear hfw
      have hb15 := bel_next hb14 hb5
      have hb35 := bel_next hb4 hb5
      have c5 := HS.out _ hb15
      have hcw := Hci.out _ hb15
      rw [Hcc.out] at hcw
      simp only at hcw
      clear c4 hb5 hb4
      go_wp2_with fail
      refine hcw.mono ?_
      rintro e w6 ⟨rfl, hb6⟩
      clear hcw
      have hb16 := bel_next hb15 hb6
      have hb36 := bel_next hb35 hb6
      have hfx := Hfx.out _ hb36
      rw [Hat.out] at hfx
      have hkw := Hkx.out y (List.mem_of_getElem? Hy.out) _ hb36
      obtain ⟨b, off, rfl, hbl, x0, x1, x2, x3, x4, x5⟩ := (hT3.below hb36).at Hy.out
      unfold typeVal typeRow at hkw
      generalize kidsR ts y.t.nodes = zs at hkw Hk1 Hk2
      have hnn : ((k : Int) != (k : Int)) = false := by simp
      clear c5 hb6
      go_wp2_with fail
      refine hfx.mono ?_
      rintro e w7 ⟨rfl, rfl⟩
      clear hfx
      go_wp2_with fail
      refine hkw.mono ?_
      rintro e w7 ⟨vo, vc, rfl, hin, hb7⟩
      clear hkw x0 x1 x2 x3 x4 x5
      have hb17 := bel_next hb16 hb7
      have hb37 := bel_next hb36 hb7
      have hzm := hin.2.2.1
      have hzl := hin.2.1
      unfold maxLen at hzm
      clear hb7 hnn
      go_wp2_with fail
      go_loop [15] (fun v => ∃ i : Nat, v = .int .i64 i ∧ i ≤ zs.length ∧ Hid (∀ z ∈ zs.take i, labelAt ts z.toNat ≠ lb)) (fun v => zs.length - (intOf v).toNat)
      case atStart => exact ⟨0, rfl, Nat.zero_le _, fun z hz => by simp at hz⟩
      case round =>
        obtain ⟨i, rfl, hi, HI⟩ := hrel
        by_cases hit : i < zs.length
        · have hdi : decide ((i : Int) < (zs.length : Int)) = true := by rw [decide_eq_true_eq]; omega
          have hii : (i : Int) < (zs.length : Int) := by omega
          have hi0 : (0 : Int) ≤ (i : Int) := by omega
          obtain ⟨z, hz⟩ : ∃ n, zs[i]? = some n := ⟨_, List.getElem?_eq_getElem hit⟩
          obtain ⟨r0, r1, r2⟩ := Hk1.out z (List.mem_of_getElem? hz)
          rw [Htl.out, ← Hyl.out] at r1
          obtain ⟨d, rfl⟩ : ∃ c : Nat, z = c := ⟨z.toNat, by omega⟩
          obtain ⟨u, hu⟩ : ∃ n, ys[d]? = some n := ⟨_, List.getElem?_eq_getElem (by omega)⟩
          have hlu := Hlaby.out d u hu
          have hnx : u.t.label ≠ lb → ∀ z ∈ zs.take (i + 1), labelAt ts z.toNat ≠ lb := fun hq z hzm => by
            rw [List.take_add_one, hz] at hzm
            rcases List.mem_append.1 hzm with hzm | hzm
            · exact HI.out z hzm
            · simp at hzm
              subst hzm
              rw [show ((d : Int).toNat) = d by simp, hlu]
              exact hq
          have r2' : u.t.label = lb → (c1, cc2) = ((d : Int), (0 : Int)) := fun e => r2 (by rw [show ((d : Int).toNat) = d by simp, hlu]; exact e)
          obtain ⟨g, goff, rfl, hgl, z0⟩ := hin.at hz
          obtain ⟨b', off', e, _, _, u1, _⟩ := (hT3.below hb37).at hu
          injection e with e
          injection e with e1 e2
          subst e1; subst e2
          have Hnx := Lib.hid hnx
          have Hr2 := Lib.hid r2'
          clear hnx r2 r2' hz hu hlu
          by_cases hq : u.t.label = lb
          · have e2 := Hr2.out hq
            injection e2 with e2 e3
            subst e2; subst e3
            rw [hq] at u1
            clear hq
            go_wp2_with fail
            refine (haw _).mono ?_
            rintro e w8 ⟨rfl, hb8⟩
            go_wp2_with fail
            go_ret
            exact ⟨rfl, bel_next (bel_next hb0 hb17) hb8⟩
          · have hbeq : (u.t.label == lb) = false := by simpa using hq
            have Hst := Lib.hid (Hnx.out hq)
            clear hq
            go_wp2_with fail
            go_round
            case rel => exact ⟨i + 1, by go_num, by omega, Hst.out⟩
            case measure => simp [intOf]; omega
        · have hdi : decide ((i : Int) < (zs.length : Int)) = false := by rw [decide_eq_false_iff_not]; omega
          have e2 := Hk2.out (fun z hz => HI.out z (by rwa [List.take_of_length_le (by omega)]))
          injection e2 with e2 e3
          subst e2; subst e3
          go_wp2_with fail
          refine (haw _).mono ?_
          rintro e w8 ⟨rfl, hb8⟩
          go_wp2_with fail
          go_ret
          exact ⟨rfl, bel_next (bel_next hb0 hb17) hb8⟩
  · obtain ⟨hf0, hc0⟩ := finds_bad hch nm lb
    rw [hf0] at hfw
    simp only at hfw
    have Hc0 := Lib.hid hc0
    clear hf0 hc0
    generalize chkS ts = E at hfw hch Hc0
    have hne : (E != 0) = true := by rw [bne_iff_ne]; exact hch
    have hee : (E == E) = true := by simp
    clear hch
    go_wp2_with fail
    refine hfw.mono ?_
    rintro e w5 ⟨rfl, hb5⟩
    clear hfw
    have hb15 := bel_next hb14 hb5
    have c5 := HS.out _ hb15
    have hcw := Hci.out _ hb15
    rw [Hc0.out] at hcw
    simp only at hcw
    clear c4 hb5 hb4
    go_wp2_with fail
    refine hcw.mono ?_
    rintro e w6 ⟨rfl, hb6⟩
    clear hcw
    have hb16 := bel_next hb15 hb6
    clear c5 hb6
    go_wp2_with fail
    refine (haw _).mono ?_
    rintro e w8 ⟨rfl, hb8⟩
    go_wp2_with fail
    go_ret
    exact ⟨rfl, bel_next (bel_next hb0 hb16) hb8⟩
end Go.Proofs.YtnnbdlmilbcpjaaGreatDoor
