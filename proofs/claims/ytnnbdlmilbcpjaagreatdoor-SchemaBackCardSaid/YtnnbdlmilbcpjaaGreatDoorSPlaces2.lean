/-
  Layer 8 (schema): the walk of places.
-/
import Derived.Test.YtnnbdlmilbcpjaaGreatDoorSPlaces
namespace Go.Proofs.YtnnbdlmilbcpjaaGreatDoor
open Go.RowKit
set_option linter.unusedVariables false
theorem wf_nat {n : Nat} (h : n ≤ 1048576) : (Lit.int .i64 (n : Int)).wf = true := WalkArith.wf_i64 (by omega)
/-- block M holds the places of these types -/
def PlacesAt (w : World) (M : Nat) (ts : List SType) : Prop := ∃ D n, Pl D ts ∧ n ≤ ts.length ∧ w.ownsMap Tryz.prog 9 (plainElem Tryz.prog 3) M n D
theorem PlacesAt.kept {w w' : World} {M : Nat} {ts : List SType} {row : Option Nat} (h : PlacesAt w M ts) (hg : w.grownBy w' row) (hne : some M ≠ row) : PlacesAt w' M ts := by
  obtain ⟨D, n, hD, hn, hm⟩ := h
  exact ⟨D, n, hD, hn, hm.kept hg hne⟩
theorem PlacesAt.alloc {w : World} {M : Nat} {ts : List SType} (h : PlacesAt w M ts) (o : Obj) : PlacesAt (w.alloc o) M ts := h.kept (World.grownBy_alloc w o none) (by simp)
set_option maxHeartbeats 2000000 in
set_option maxRecDepth 100000 in
theorem places_any (l : List TyV) (o : Option Addr) (cap : Nat) (w : World) (h : TypesAt w o cap l) (hl : l.length ≤ 1048576) (hs : ∀ x ∈ l, x.t.name.length ≤ 1048576) :
    Calls Tryz.prog 25 #[.agg #[.slice o l.length cap]] w fun e w' => e = .returned (.map (some (w.heap.size + 1))) ∧ PlacesAt w' (w.heap.size + 1) (l.map TyV.t) ∧ Below w.heap.size w w' := by
  have hlm := h.1.2.1
  have hcm := h.1.2.2.1
  unfold maxLen at hcm
  have hb0 : Below w.heap.size w ((w.alloc (.cells #[.slice o l.length cap] 24)).alloc (.map #[] 0)) := ((Below.refl _ w).alloc (Nat.le_refl _) _).alloc (by simp) _
  have hm0 : PlacesAt ((w.alloc (.cells #[.slice o l.length cap] 24)).alloc (.map #[] 0)) (w.heap.size + 1) [] := by
    have := World.ownsMap_made (H := Unit) (w.alloc (.cells #[.slice o l.length cap] 24)) Tryz.prog 9 (plainElem Tryz.prog 3)
    have e1 : (w.alloc (.cells #[.slice o l.length cap] 24)).heap.size = w.heap.size + 1 := by simp
    rw [e1] at this
    exact ⟨_, 0, Pl.nil, Nat.le_refl _, this⟩
  have hmm := @run_makeMap Tryz.prog
  go_enter Tryz.func25, Tryz.ntmps25
  go_wp2_with fail
  go_loopw [10] (fun v wr => ∃ k : Nat, v = .int .i64 k ∧ k ≤ l.length ∧ PlacesAt wr (w.heap.size + 1) ((l.take k).map TyV.t) ∧ Below w.heap.size w wr) (fun v _ => l.length - (intOf v).toNat)
  case atStart => exact ⟨0, rfl, Nat.zero_le _, hm0, hb0⟩
  case round =>
    obtain ⟨k, rfl, hk, hP, hbr⟩ := hrel
    by_cases hlt : k < l.length
    · have hdk : decide ((k : Int) < (l.length : Int)) = true := by rw [decide_eq_true_eq]; omega
      have hki : (k : Int) < (l.length : Int) := by omega
      obtain ⟨x, hx⟩ : ∃ n, l[k]? = some n := ⟨_, List.getElem?_eq_getElem hlt⟩
      obtain ⟨b, off, rfl, hbl, x0, x1, x2, x3, x4, x5⟩ := (h.below hbr).at hx
      have hsn := hs x (List.mem_of_getElem? hx)
      have htk : (l.take (k + 1)).map TyV.t = (l.take k).map TyV.t ++ [x.t] := by rw [List.take_add_one, hx]; simp
      have hlk : ((l.take k).map TyV.t).length = k := by rw [List.length_map, List.length_take]; omega
      have hkey : keyOf Tryz.prog 9 (.string ⟨x.t.name.toArray⟩) = some (.string x.t.name) := by
        have := WideMaps.keyOf_string_mk Tryz.underlying9 (s := ⟨x.t.name.toArray⟩) (by rw [Lib.size_eq]; show x.t.name.length ≤ maxLen; unfold maxLen; omega)
        simpa using this
      have hb3 := hbr.alloc hbr.size (.cells (typeRow x).toArray 47)
      have hP3 := hP.alloc (.cells (typeRow x).toArray 47)
      obtain ⟨D, n, hD, hn, hmap⟩ := hP3
      have Htk := Lib.hid htk
      have HD := Lib.hid hD
      rw [hlk] at hn
      unfold typeRow at hmap hb3
      clear htk hD hx hP
      go_wp2_with (first
        | (at_mapUpdate; go_must (refine wpList_mapUpdate_own _ rfl _ _ _ 61 rfl 9 3 (Maps.string_keyed Tryz.underlying9) Tryz.underlying61 _ (w.heap.size + 1) _ D rfl hmap (by unfold maxLen; omega) _ _ _ rfl rfl hkey _ [] (plainElem_int Tryz.underlying3 (wf_nat (by omega))) ?_); intro w8 hown8 hg8)
        | go_in)
      go_roundw
      case rel => exact ⟨k + 1, by go_num, by omega, ⟨_, n + 1, by rw [Htk.out]; have := HD.out.snoc x.t; rw [hlk] at this; exact this, by rw [Htk.out, List.length_append, hlk]; simp; omega, hown8⟩, hb3.grown hg8 hb3.size (fun j e => by cases e; omega)⟩
      case measure => simp [intOf]; omega
    · have hdk : decide ((k : Int) < (l.length : Int)) = false := by rw [decide_eq_false_iff_not]; omega
      rw [List.take_of_length_le (by omega)] at hP
      go_wp2_with fail
      go_ret
      exact ⟨rfl, hP, hbr⟩
end Go.Proofs.YtnnbdlmilbcpjaaGreatDoor
