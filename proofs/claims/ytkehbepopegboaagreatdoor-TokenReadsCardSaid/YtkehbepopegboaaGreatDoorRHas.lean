/-
  The document's answer, layer 3: an attribute, and whether attributes have a name: walks, for every text of at most 65536 bytes.
  The document's answer, layer 3: whether attributes have a name: its walk.
-/
import Derived.Test.YtkehbepopegboaaGreatDoorRValue
import Derived.Test.YtkehbepopegboaaGreatDoorBegin1
namespace Go.Proofs.YtkehbepopegboaaGreatDoor
open Go.RowKit
set_option linter.unusedVariables false
/-- what attr owes -/
def RAttr (res : Option ((Bytes × Bytes) × Nat)) (p : Nat) (w : World) (e : Ending) (w' : World) : Prop :=
  match res with
  | none => (∃ x y : ByteArray, e = .returned (.tuple #[.agg #[.string x, .string y], .int .i64 (-1)])) ∧ Below w.heap.size w w'
  | some ((n, v), k) => e = .returned (.tuple #[.agg #[.string ⟨n.toArray⟩, .string ⟨v.toArray⟩], .int .i64 ((p + k : Nat) : Int)]) ∧ Below w.heap.size w w'
theorem RAttr.no {res : Option ((Bytes × Bytes) × Nat)} {p : Nat} {w w' : World} {e : Ending} (h : res = none) (x y : ByteArray) (he : e = .returned (.tuple #[.agg #[.string x, .string y], .int .i64 (-1)])) (hb : Below w.heap.size w w') : RAttr res p w e w' := by
  subst h; exact ⟨⟨x, y, he⟩, hb⟩
theorem RAttr.yes {res : Option ((Bytes × Bytes) × Nat)} {p : Nat} {w w' : World} {e : Ending} {n v : Bytes} {k : Nat} (h : res = some ((n, v), k)) (he : e = .returned (.tuple #[.agg #[.string ⟨n.toArray⟩, .string ⟨v.toArray⟩], .int .i64 ((p + k : Nat) : Int)])) (hb : Below w.heap.size w w') : RAttr res p w e w' := by
  subst h; exact ⟨he, hb⟩
def freshAttrO : Obj := .cells #[.string ⟨#[]⟩, .string ⟨#[]⟩] 43
def NewAttr (w : World) (r : Nat) : Prop := w.heap[r]? = some (.cells #[.string ⟨#[]⟩, .string ⟨#[]⟩] 43 (0, 0))
theorem NewAttr.cell {w : World} {r : Nat} (h : NewAttr w r) : w.cell? ⟨r, 0, none⟩ = some (.string ⟨#[]⟩) ∧ w.cell? ⟨r, 1, none⟩ = some (.string ⟨#[]⟩) ∧ (∀ o, w.frozen? ⟨r, o, none⟩ = false) := by
  unfold NewAttr at h
  refine ⟨cell_of_row w r 0 _ _ _ h, cell_of_row w r 1 _ _ _ h, ?_⟩
  intro o; simp [World.frozen?, h]
theorem below_set2 {w w' : World} (h : Below w.heap.size w w') (hw : w.heap.size < w'.heap.size) (u v : Value) : Below w.heap.size w ((w'.setCell ⟨w.heap.size, 0, none⟩ u).setCell ⟨w.heap.size, 1, none⟩ v) :=
  (h.setCell (Nat.le_refl _) u).setCell (Nat.le_refl _) v
set_option maxHeartbeats 4000000 in
set_option maxRecDepth 100000 in
theorem rAttr_any (s : ByteArray) (p : Nat) (w : World) (hs : s.size ≤ 65536) (hp : p ≤ s.size) :
    Calls Tryz.prog 55 #[.string s, .int .i64 p] w (RAttr (attrR (s.data.toList.drop p)) p w) := by
  have hlen : s.data.toList.length = s.size := (Lib.size_eq s).symm
  have Hlen := Lib.hid hlen
  clear hlen
  have hA := (rfl : attrR (s.data.toList.drop p) = attrR (s.data.toList.drop p))
  conv at hA => rhs; unfold attrR; simp only [List.drop_drop]
  generalize attrR (s.data.toList.drop p) = res at hA
  have hN0 : NewAttr (w.alloc freshAttrO) w.heap.size := heap_alloc_new w _
  have hB0 : Below w.heap.size w (w.alloc freshAttrO) := (Below.refl _ w).alloc (Nat.le_refl _) _
  have hz0 : (w.alloc freshAttrO).heap.size = w.heap.size + 1 := World.size_alloc w _
  unfold freshAttrO at hN0 hB0 hz0
  have hnm := fun w => rName_any s p w (by omega) hp
  have hpn := partN_le (s.data.toList.drop p)
  rw [List.length_drop, Hlen.out] at hpn
  have hcut : ∀ (n : Nat), p + n ≤ s.size → ∀ wx, (Instr.slice 9 (.string s) (some (.int .i64 p)) (some (.int .i64 ((p + n : Nat) : Int))) none).run Tryz.prog wx = .ok (.string (s.extract p (p + n))) wx := fun n hn wx => slice_mid s p (p + n) (by omega) hn wx
  generalize partN (s.data.toList.drop p) = n at hA hnm hpn
  have hcut := hcut n (by omega)
  have hex : (s.extract p (p + n)).data.toList = (s.data.toList.drop p).take n := by rw [Lib.extract_data, Nat.add_sub_cancel_left]
  have Hex := Lib.hid hex
  clear hex
  cases hin : isName ((s.data.toList.drop p).take n) with
  | false =>
    rw [if_pos hin] at hA
    rw [hin] at hnm
    have HA := Lib.hid hA
    obtain ⟨c0, c1, ff⟩ := hN0.cell
    have f0 := ff 0
    have f1 := ff 1
    clear ff hA hin hcut
    go_enter Tryz.func55, Tryz.ntmps55
    go_wp2_with fail
    refine (hnm _).mono ?_
    rintro e w' ⟨rfl, rfl⟩
    clear hnm
    go_wp2_with fail
    exact bodyPost_ret (v := .tuple #[.agg #[.string ⟨#[]⟩, .string ⟨#[]⟩], .int .i64 (-1)]) (by simp [results, Tryz.results55, go_sem, c0, c1]) rfl (RAttr.no HA.out _ _ rfl hB0)
  | true =>
    rw [if_neg (by rw [hin]; simp)] at hA
    rw [hin] at hnm
    simp only [if_true] at hnm
    obtain ⟨E, hE⟩ : ∃ E, E = p + n := ⟨_, rfl⟩
    rw [← hE] at hnm hcut Hex hA
    have hEs : E ≤ s.size := by omega
    have hE1 := Nat.le_of_eq hE
    have hE2 := Nat.le_of_eq hE.symm
    have HE := Lib.hid hE
    have hbl := fun w => rBlanks_any s E w (by omega) hEs
    have hble := blanksN_le (s.data.toList.drop E)
    rw [List.length_drop, Hlen.out] at hble
    simp only [← Nat.add_assoc, ← hE] at hA
    generalize blanksN (s.data.toList.drop E) = g at hA hbl hble
    obtain ⟨Q, hQ⟩ : ∃ Q, Q = E + g := ⟨_, rfl⟩
    rw [← hQ] at hbl hA
    have hQs : Q ≤ s.size := by omega
    have hbg := fun w => rBegins_any s ⟨#[61]⟩ Q w (by omega) hQs (by show 1 ≤ 1048576; omega)
    rw [show (⟨#[61]⟩ : ByteArray).data.toList = [61] from rfl] at hbg
    have hQ1 := Nat.le_of_eq hQ
    have hQ2 := Nat.le_of_eq hQ.symm
    have HQ := Lib.hid hQ
    clear hin hE hQ
    have hE0 : decide ((E : Int) < 0) = false := by rw [decide_eq_false_iff_not]; omega
    cases hpq : Lib.hasPrefix (s.data.toList.drop Q) [61] with
    | false =>
      rw [if_pos hpq] at hA
      rw [hpq] at hbg
      have HA := Lib.hid hA
      obtain ⟨c0, c1, ff⟩ := hN0.cell
      have f0 := ff 0
      have f1 := ff 1
      clear ff hA hpq hcut
      go_enter Tryz.func55, Tryz.ntmps55
      go_wp2_with fail
      refine (hnm _).mono ?_
      rintro e w' ⟨rfl, rfl⟩
      clear hnm
      go_wp2_with fail
      refine (hbl _).mono ?_
      rintro e w' ⟨rfl, rfl⟩
      clear hbl
      go_wp2_with fail
      refine (hbg _).mono ?_
      rintro e w' ⟨rfl, rfl⟩
      clear hbg
      go_wp2_with fail
      exact bodyPost_ret (v := .tuple #[.agg #[.string ⟨#[]⟩, .string ⟨#[]⟩], .int .i64 (-1)]) (by simp [results, Tryz.results55, go_sem, c0, c1]) rfl (RAttr.no HA.out _ _ rfl hB0)
    | true =>
      rw [if_neg (by rw [hpq]; simp)] at hA
      have hroom := prefix_room hpq (by simp)
      simp only [List.length_cons, List.length_nil] at hroom
      rw [hpq] at hbg
      have hb2 := fun w => rBlanks_any s (Q + 1) w (by omega) (by omega)
      have hble2 := blanksN_le (s.data.toList.drop (Q + 1))
      rw [List.length_drop, Hlen.out] at hble2
      clear hpq
      generalize blanksN (s.data.toList.drop (Q + 1)) = h at hA hb2 hble2
      obtain ⟨b, hb⟩ : ∃ b, b = Q + 1 + h := ⟨_, rfl⟩
      rw [← hb] at hA hb2
      have hbs : b ≤ s.size := by omega
      have hbp : b = p + (n + g + 1 + h) := by rw [hb, HQ.out, HE.out]; omega
      have hvl := fun w => rValue_any s b w hs hbs
      generalize valueR (s.data.toList.drop b) = V at hA hvl
      clear hb
      have Hbp := Lib.hid hbp
      clear hbp
      have hb2' : ∀ w, Calls Tryz.prog 32 #[.string s, .int .i64 ((Q : Int) + 1)] w fun e w' => e = .returned (.int .i64 (b : Int)) ∧ w = w' := fun w => hb2 w
      clear hb2
      cases V with
      | none =>
        have HA := Lib.hid hA
        clear hA
        go_enter Tryz.func55, Tryz.ntmps55
        go_wp2_with fail
        refine (hnm _).mono ?_
        rintro e w' ⟨rfl, rfl⟩
        clear hnm
        go_wp2_with fail
        refine (hbl _).mono ?_
        rintro e w' ⟨rfl, rfl⟩
        clear hbl
        go_wp2_with fail
        refine (hbg _).mono ?_
        rintro e w' ⟨rfl, rfl⟩
        clear hbg
        go_wp2_with fail
        refine (hb2' _).mono ?_
        rintro e w' ⟨rfl, rfl⟩
        clear hb2'
        go_wp2_with fail
        refine (hvl _).mono ?_
        rintro e w2 ⟨rfl, hbw⟩
        clear hvl
        unfold vlV
        have hN2 : NewAttr w2 w.heap.size := (hbw.block _ (by omega)).trans hN0
        have hB2 := hB0.trans (hbw.mono (by omega))
        have hz2 := hbw.size
        obtain ⟨c0, c1, ff⟩ := hN2.cell
        have f0 := ff 0
        have f1 := ff 1
        clear ff hN0 hbw hB0
        go_wp2_with fail
        exact bodyPost_ret (v := .tuple #[.agg #[.string (s.extract p E), .string ⟨#[]⟩], .int .i64 (-1)]) (by simp [results, Tryz.results55, go_sem, c0, c1]) rfl (RAttr.no HA.out _ _ rfl (below_set2 hB2 (by omega) _ _))
      | some z =>
        obtain ⟨v, k⟩ := z
        simp only at hA
        have HA := Lib.hid hA
        clear hA
        go_enter Tryz.func55, Tryz.ntmps55
        go_wp2_with fail
        refine (hnm _).mono ?_
        rintro e w' ⟨rfl, rfl⟩
        clear hnm
        go_wp2_with fail
        refine (hbl _).mono ?_
        rintro e w' ⟨rfl, rfl⟩
        clear hbl
        go_wp2_with fail
        refine (hbg _).mono ?_
        rintro e w' ⟨rfl, rfl⟩
        clear hbg
        go_wp2_with fail
        refine (hb2' _).mono ?_
        rintro e w' ⟨rfl, rfl⟩
        clear hb2'
        go_wp2_with fail
        refine (hvl _).mono ?_
        rintro e w2 ⟨rfl, hbw⟩
        clear hvl
        unfold vlV
        have hN2 : NewAttr w2 w.heap.size := (hbw.block _ (by omega)).trans hN0
        have hB2 := hB0.trans (hbw.mono (by omega))
        have hz2 := hbw.size
        obtain ⟨c0, c1, ff⟩ := hN2.cell
        have f0 := ff 0
        have f1 := ff 1
        clear ff hN0 hbw hB0
        go_wp2_with fail
        refine bodyPost_ret (v := .tuple #[.agg #[.string (s.extract p E), .string ⟨v.toArray⟩], .int .i64 ((b + k : Nat) : Int)]) (by simp [results, Tryz.results55, go_sem, c0, c1]) rfl (RAttr.yes HA.out ?_ (below_set2 hB2 (by omega) _ _))
        rw [← Hex.out, Hbp.out]
        congr 4
        simp only [Nat.add_assoc]
theorem attrCells_get (l : List (Bytes × Bytes)) : ∀ k, k < l.length → (attrCells l)[k * 2]? = some (.string ⟨(l.getD k ([], [])).1.toArray⟩) := by
  induction l with
  | nil => intro k hk; simp at hk
  | cons x t ih =>
    intro k hk
    have e : attrCells (x :: t) = .string ⟨x.1.toArray⟩ :: .string ⟨x.2.toArray⟩ :: attrCells t := by simp [attrCells]
    rw [e]
    cases k with
    | zero => rfl
    | succ k =>
      rw [show (k + 1) * 2 = k * 2 + 1 + 1 by omega, List.getElem?_cons_succ, List.getElem?_cons_succ, ih k (by simp at hk; omega)]
      rfl
set_option maxRecDepth 100000 in
theorem rHas_any (l : List (Bytes × Bytes)) (n : Bytes) (B c : Nat) (o : Option Addr) (w : World) (hl : l.length ≤ 1048576) (ha : AttrsAt w B (.slice o l.length c) l) :
    Calls Tryz.prog 56 #[.slice o l.length c, .string ⟨n.toArray⟩] w fun e w' => e = .returned (.bool (l.any fun y => y.1 == n)) ∧ w = w' := by
  obtain ⟨R, hR⟩ : ∃ R, R = l.any fun y => y.1 == n := ⟨_, rfl⟩
  rw [← hR]
  have HR := Lib.hid hR
  clear hR
  go_enter Tryz.func56, Tryz.ntmps56
  go_wp2_with fail
  go_loop [5] (fun i => ∃ k : Nat, i = .int .i64 k ∧ k ≤ l.length ∧ Hid ((l.take k).any (fun y => y.1 == n) = false)) (fun i => l.length - (intOf i).toNat)
  case atStart => exact ⟨0, rfl, Nat.zero_le _, rfl⟩
  case round =>
    obtain ⟨k, rfl, hk, Hno⟩ := hrel
    by_cases hlt : k < l.length
    · have hdk : decide ((k : Int) < (l.length : Int)) = true := by rw [decide_eq_true_eq]; omega
      obtain ⟨g, hg⟩ : ∃ g, o = some ⟨g, 0, none⟩ := by
        rcases ha.2 with ⟨_, hz⟩ | ⟨g, cap, cur, hv, _⟩
        · omega
        · injection hv with h1 _ _
          exact ⟨g, h1⟩
      subst hg
      have hcell := (World.ownsRow.cellAt ha (k * 2) (by omega)).trans (attrCells_get l k hlt)
      have htk : (l.take (k + 1)).any (fun y => y.1 == n) = ((l.getD k ([], [])).1 == n) := by
        rw [List.take_add_one, List.getElem?_eq_getElem hlt, List.any_append, Hno.out]
        simp [List.getD_eq_getElem?_getD, List.getElem?_eq_getElem hlt]
      have hbeq : ((⟨(l.getD k ([], [])).1.toArray⟩ : ByteArray).toList == (⟨n.toArray⟩ : ByteArray).toList) = ((l.getD k ([], [])).1 == n) := by
        rw [Lib.toList_data, Lib.toList_data]
      have hki : (k : Int) < (l.length : Int) := by omega
      generalize (l.getD k ([], [])).1 = m at hcell htk hbeq
      by_cases hm : (m == n) = true
      · rw [hm] at htk hbeq
        have hR : R = true := by
          rw [HR.out, ← List.take_append_drop (k + 1) l, List.any_append, htk, Bool.true_or]
        have HR2 := Lib.hid hR
        clear hR htk hbeq
        go_wp2_with fail
        go_ret
        exact ⟨ret_bool HR2.out.symm, rfl⟩
      · have hm : (m == n) = false := by simpa using hm
        rw [hm] at htk hbeq
        have Htk := Lib.hid htk
        clear htk hbeq
        go_wp2_with fail
        go_round
        case rel => exact ⟨k + 1, by go_num, by omega, Htk.out⟩
        case measure => simp [intOf]; omega
    · have hdk : decide ((k : Int) < (l.length : Int)) = false := by rw [decide_eq_false_iff_not]; omega
      have hR : R = false := by
        have := Hno.out
        rw [List.take_of_length_le (by omega)] at this
        rw [HR.out, this]
      have HR2 := Lib.hid hR
      clear hR
      go_wp2_with fail
      go_ret
      exact ⟨ret_bool HR2.out.symm, rfl⟩
end Go.Proofs.YtkehbepopegboaaGreatDoor
