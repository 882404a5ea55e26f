/-
  The library's IndexFunc and ContainsFunc over rows of types, of words, of numbers: their walks. Conditions: the function that is handed over answers for each element, in whatever later world, and turns nothing that was there.
-/
import Derived.Test.YtnnbdlmilbcpjaaGreatDoorSKids
namespace Go.Proofs.YtnnbdlmilbcpjaaGreatDoor
open Go.RowKit
set_option linter.unusedVariables false
/-- a slice leads to these numbers -/
def IntsIn (w : World) (o : Option Addr) (cap : Nat) (l : List Nat) : Prop := RowAt w o l.length cap 1 (intVs l)
theorem IntsIn.below {w w' : World} {o : Option Addr} {cap : Nat} {l : List Nat} (h : IntsIn w o cap l) (hb : Below w.heap.size w w') : IntsIn w' o cap l := RowAt.below h hb
theorem IntsIn.at {w : World} {o : Option Addr} {cap : Nat} {l : List Nat} (h : IntsIn w o cap l) {k : Nat} {x : Nat} (hx : l[k]? = some x) :
    ∃ g off, o = some ⟨g, off, none⟩ ∧ g < w.heap.size ∧ w.cell? ⟨g, off + k, none⟩ = some (.int .i64 (x : Nat)) := by
  have hk := (List.getElem?_eq_some_iff.1 hx).1
  obtain ⟨g, off, e, hlt, hc⟩ := h.2.2.2 (by omega)
  exact ⟨g, off, e, hlt, hc k _ (by unfold intVs; rw [List.getElem?_map, hx]; rfl)⟩
theorem intsIn_of_own {w : World} {B : Nat} {v : Value} {l : List Nat} (h : IntsOwn w B v l) : ∃ o c, v = .slice o l.length c ∧ IntsIn w o c l := by
  obtain ⟨o, c, rfl⟩ := ownsRow_shape h
  refine ⟨o, c, rfl, ?_⟩
  by_cases hn : Value.slice o l.length c = .slice none 0 0
  · injection hn with h1 h2 h3
    subst h1; subst h3
    exact ⟨by simp [intVs], by omega, Nat.zero_le _, fun h0 => by omega⟩
  · rcases h.2 with ⟨e, h0⟩ | ⟨g, cap, cur, hv, hbg, hg, h1, h2, h3, h4⟩
    · exfalso
      rw [h0] at e hn
      exact hn e
    · injection hv with e1 e2 e3
      subst e1; subst e3
      have hlt := lt_of_block hg
      refine ⟨by simp [intVs], by omega, h2, fun _ => ⟨g, 0, rfl, hlt, fun j u hj => ?_⟩⟩
      have hj2 : j < (intVs l).length := (List.getElem?_eq_some_iff.1 hj).1
      rw [Nat.zero_add]
      exact (World.ownsRow.cellAt h j (by simpa [intVs] using hj2)).trans hj
set_option maxHeartbeats 1000000 in
set_option maxRecDepth 100000 in
theorem index_types {F : Nat} {caps : Array Value} {q : TyV → Bool} (l : List TyV) (o : Option Addr) (cap : Nat) (w : World) (h : TypesAt w o cap l) (hl : l.length ≤ 1048576)
    (he : ∀ args wz, (callFunc F args).run Tryz.prog wz = .ok (.enter F args) wz)
    (hf : ∀ x ∈ l, ∀ w1, Below w.heap.size w w1 → Calls Tryz.prog F (#[typeVal x] ++ caps) w1 fun e w2 => e = .returned (.bool (q x)) ∧ Below w1.heap.size w1 w2) :
    Calls Tryz.prog 86 #[.slice o l.length cap, .func (.func F) #[] caps] w fun e w' => (∃ r : Int, e = .returned (.int .i64 r) ∧ Hid (decide (r ≥ 0) = l.any q)) ∧ Below w.heap.size w w' := by
  have hlm := h.1.2.1
  have hcm := h.1.2.2.1
  unfold maxLen at hcm
  have Hf := Lib.hid hf
  clear hf
  go_enter Tryz.func86, Tryz.ntmps86
  go_wp2_with fail
  go_loopw [8] (fun v wr => ∃ k : Nat, v = .int .i64 k ∧ k ≤ l.length ∧ Below w.heap.size w wr ∧ Hid ((l.take k).any q = false)) (fun v _ => l.length - (intOf v).toNat)
  case atStart => exact ⟨0, rfl, Nat.zero_le _, Below.refl _ _, rfl⟩
  case round =>
    obtain ⟨k, rfl, hk, hbr, Hno⟩ := hrel
    by_cases hlt : k < l.length
    · have hdk : decide ((k : Int) < (l.length : Int)) = true := by rw [decide_eq_true_eq]; omega
      have hki : (k : Int) < (l.length : Int) := by omega
      obtain ⟨x, hx⟩ : ∃ n, l[k]? = some n := ⟨_, List.getElem?_eq_getElem hlt⟩
      obtain ⟨b, off, rfl, hbl, x0, x1, x2, x3, x4, x5⟩ := (h.below hbr).at hx
      have hf1 := Hf.out x (List.mem_of_getElem? hx) wr hbr
      have htk : (l.take (k + 1)).any q = q x := by rw [List.take_add_one, hx, Option.toList_some, List.any_append, Hno.out]; simp
      have Hx := Lib.hid hx
      unfold typeVal typeRow at hf1
      cases hq : q x with
      | true =>
        rw [hq] at hf1
        have hall : l.any q = true := by rw [List.any_eq_true]; exact ⟨x, List.mem_of_getElem? hx, hq⟩
        have Hall := Lib.hid hall
        clear hall htk hx hq Hf
        go_wp2_with fail
        refine hf1.mono ?_
        rintro e w3 ⟨rfl, hb3⟩
        clear hf1
        have hbe := hbr.trans (hb3.mono hbr.size)
        go_wp2_with fail
        go_ret
        exact ⟨⟨(k : Nat), rfl, by show _ = _; rw [Hall.out, decide_eq_true_eq]; omega⟩, hbe⟩
      | false =>
        rw [hq] at hf1 htk
        have Htk := Lib.hid htk
        clear htk hx hq
        go_wp2_with fail
        refine hf1.mono ?_
        rintro e w3 ⟨rfl, hb3⟩
        clear hf1
        have hbe := hbr.trans (hb3.mono hbr.size)
        go_wp2_with fail
        go_roundw
        case rel => exact ⟨k + 1, by go_num, by omega, hbe, Htk.out⟩
        case measure => simp [intOf]; omega
    · have hdk : decide ((k : Int) < (l.length : Int)) = false := by rw [decide_eq_false_iff_not]; omega
      have hall : l.any q = false := by
        have := Hno.out
        rwa [List.take_of_length_le (by omega)] at this
      have Hall := Lib.hid hall
      clear hall
      go_wp2_with fail
      go_ret
      exact ⟨⟨-1, rfl, by show _ = _; rw [Hall.out, decide_eq_false_iff_not]; omega⟩, hbr⟩
set_option maxRecDepth 100000 in
theorem contains_types {F : Nat} {caps : Array Value} {q : TyV → Bool} (l : List TyV) (o : Option Addr) (cap : Nat) (w : World) (h : TypesAt w o cap l) (hl : l.length ≤ 1048576)
    (he : ∀ args wz, (callFunc F args).run Tryz.prog wz = .ok (.enter F args) wz)
    (hf : ∀ x ∈ l, ∀ w1, Below w.heap.size w w1 → Calls Tryz.prog F (#[typeVal x] ++ caps) w1 fun e w2 => e = .returned (.bool (q x)) ∧ Below w1.heap.size w1 w2) :
    Calls Tryz.prog 46 #[.slice o l.length cap, .func (.func F) #[] caps] w fun e w' => e = .returned (.bool (l.any q)) ∧ Below w.heap.size w w' := by
  have hi := index_types l o cap w h hl he hf
  clear h hl he hf
  go_enter Tryz.func46, Tryz.ntmps46
  go_wp2_with fail
  refine hi.mono ?_
  rintro e w3 ⟨⟨r, rfl, hr⟩, hb3⟩
  clear hi
  go_wp2_with fail
  go_ret
  exact ⟨ret_bool hr.out, hb3⟩
set_option maxHeartbeats 1000000 in
set_option maxRecDepth 100000 in
theorem index_words {F : Nat} {caps : Array Value} {q : Bytes → Bool} (l : List Bytes) (o : Option Addr) (cap : Nat) (w : World) (h : WordsIn w o cap l) (hl : l.length ≤ 1048576)
    (he : ∀ args wz, (callFunc F args).run Tryz.prog wz = .ok (.enter F args) wz)
    (hf : ∀ x ∈ l, ∀ w1, Below w.heap.size w w1 → Calls Tryz.prog F (#[.string ⟨x.toArray⟩] ++ caps) w1 fun e w2 => e = .returned (.bool (q x)) ∧ Below w1.heap.size w1 w2) :
    Calls Tryz.prog 88 #[.slice o l.length cap, .func (.func F) #[] caps] w fun e w' => (∃ r : Int, e = .returned (.int .i64 r) ∧ Hid (decide (r ≥ 0) = l.any q)) ∧ Below w.heap.size w w' := by
  have hlm := h.2.1
  have hcm := h.2.2.1
  unfold maxLen at hcm
  have Hf := Lib.hid hf
  clear hf
  go_enter Tryz.func88, Tryz.ntmps88
  go_wp2_with fail
  go_loopw [8] (fun v wr => ∃ k : Nat, v = .int .i64 k ∧ k ≤ l.length ∧ Below w.heap.size w wr ∧ Hid ((l.take k).any q = false)) (fun v _ => l.length - (intOf v).toNat)
  case atStart => exact ⟨0, rfl, Nat.zero_le _, Below.refl _ _, rfl⟩
  case round =>
    obtain ⟨k, rfl, hk, hbr, Hno⟩ := hrel
    by_cases hlt : k < l.length
    · have hdk : decide ((k : Int) < (l.length : Int)) = true := by rw [decide_eq_true_eq]; omega
      have hki : (k : Int) < (l.length : Int) := by omega
      obtain ⟨x, hx⟩ : ∃ n, l[k]? = some n := ⟨_, List.getElem?_eq_getElem hlt⟩
      obtain ⟨b, off, rfl, hbl, x0⟩ := (h.below hbr).at hx
      have hf1 := Hf.out x (List.mem_of_getElem? hx) wr hbr
      have htk : (l.take (k + 1)).any q = q x := by rw [List.take_add_one, hx, Option.toList_some, List.any_append, Hno.out]; simp
      have Hx := Lib.hid hx
      skip
      cases hq : q x with
      | true =>
        rw [hq] at hf1
        have hall : l.any q = true := by rw [List.any_eq_true]; exact ⟨x, List.mem_of_getElem? hx, hq⟩
        have Hall := Lib.hid hall
        clear hall htk hx hq Hf
        go_wp2_with fail
        refine hf1.mono ?_
        rintro e w3 ⟨rfl, hb3⟩
        clear hf1
        have hbe := hbr.trans (hb3.mono hbr.size)
        go_wp2_with fail
        go_ret
        exact ⟨⟨(k : Nat), rfl, by show _ = _; rw [Hall.out, decide_eq_true_eq]; omega⟩, hbe⟩
      | false =>
        rw [hq] at hf1 htk
        have Htk := Lib.hid htk
        clear htk hx hq
        go_wp2_with fail
        refine hf1.mono ?_
        rintro e w3 ⟨rfl, hb3⟩
        clear hf1
        have hbe := hbr.trans (hb3.mono hbr.size)
        go_wp2_with fail
        go_roundw
        case rel => exact ⟨k + 1, by go_num, by omega, hbe, Htk.out⟩
        case measure => simp [intOf]; omega
    · have hdk : decide ((k : Int) < (l.length : Int)) = false := by rw [decide_eq_false_iff_not]; omega
      have hall : l.any q = false := by
        have := Hno.out
        rwa [List.take_of_length_le (by omega)] at this
      have Hall := Lib.hid hall
      clear hall
      go_wp2_with fail
      go_ret
      exact ⟨⟨-1, rfl, by show _ = _; rw [Hall.out, decide_eq_false_iff_not]; omega⟩, hbr⟩
set_option maxRecDepth 100000 in
theorem contains_words {F : Nat} {caps : Array Value} {q : Bytes → Bool} (l : List Bytes) (o : Option Addr) (cap : Nat) (w : World) (h : WordsIn w o cap l) (hl : l.length ≤ 1048576)
    (he : ∀ args wz, (callFunc F args).run Tryz.prog wz = .ok (.enter F args) wz)
    (hf : ∀ x ∈ l, ∀ w1, Below w.heap.size w w1 → Calls Tryz.prog F (#[.string ⟨x.toArray⟩] ++ caps) w1 fun e w2 => e = .returned (.bool (q x)) ∧ Below w1.heap.size w1 w2) :
    Calls Tryz.prog 55 #[.slice o l.length cap, .func (.func F) #[] caps] w fun e w' => e = .returned (.bool (l.any q)) ∧ Below w.heap.size w w' := by
  have hi := index_words l o cap w h hl he hf
  clear h hl he hf
  go_enter Tryz.func55, Tryz.ntmps55
  go_wp2_with fail
  refine hi.mono ?_
  rintro e w3 ⟨⟨r, rfl, hr⟩, hb3⟩
  clear hi
  go_wp2_with fail
  go_ret
  exact ⟨ret_bool hr.out, hb3⟩
set_option maxHeartbeats 1000000 in
set_option maxRecDepth 100000 in
theorem index_ints {F : Nat} {caps : Array Value} {q : Nat → Bool} (l : List Nat) (o : Option Addr) (cap : Nat) (w : World) (h : IntsIn w o cap l) (hl : l.length ≤ 1048576)
    (he : ∀ args wz, (callFunc F args).run Tryz.prog wz = .ok (.enter F args) wz)
    (hf : ∀ x ∈ l, ∀ w1, Below w.heap.size w w1 → Calls Tryz.prog F (#[.int .i64 (x : Nat)] ++ caps) w1 fun e w2 => e = .returned (.bool (q x)) ∧ Below w1.heap.size w1 w2) :
    Calls Tryz.prog 90 #[.slice o l.length cap, .func (.func F) #[] caps] w fun e w' => (∃ r : Int, e = .returned (.int .i64 r) ∧ Hid (decide (r ≥ 0) = l.any q)) ∧ Below w.heap.size w w' := by
  have hlm := h.2.1
  have hcm := h.2.2.1
  unfold maxLen at hcm
  have Hf := Lib.hid hf
  clear hf
  go_enter Tryz.func90, Tryz.ntmps90
  go_wp2_with fail
  go_loopw [8] (fun v wr => ∃ k : Nat, v = .int .i64 k ∧ k ≤ l.length ∧ Below w.heap.size w wr ∧ Hid ((l.take k).any q = false)) (fun v _ => l.length - (intOf v).toNat)
  case atStart => exact ⟨0, rfl, Nat.zero_le _, Below.refl _ _, rfl⟩
  case round =>
    obtain ⟨k, rfl, hk, hbr, Hno⟩ := hrel
    by_cases hlt : k < l.length
    · have hdk : decide ((k : Int) < (l.length : Int)) = true := by rw [decide_eq_true_eq]; omega
      have hki : (k : Int) < (l.length : Int) := by omega
      obtain ⟨x, hx⟩ : ∃ n, l[k]? = some n := ⟨_, List.getElem?_eq_getElem hlt⟩
      obtain ⟨b, off, rfl, hbl, x0⟩ := (h.below hbr).at hx
      have hf1 := Hf.out x (List.mem_of_getElem? hx) wr hbr
      have htk : (l.take (k + 1)).any q = q x := by rw [List.take_add_one, hx, Option.toList_some, List.any_append, Hno.out]; simp
      have Hx := Lib.hid hx
      skip
      cases hq : q x with
      | true =>
        rw [hq] at hf1
        have hall : l.any q = true := by rw [List.any_eq_true]; exact ⟨x, List.mem_of_getElem? hx, hq⟩
        have Hall := Lib.hid hall
        clear hall htk hx hq Hf
        go_wp2_with fail
        refine hf1.mono ?_
        rintro e w3 ⟨rfl, hb3⟩
        clear hf1
        have hbe := hbr.trans (hb3.mono hbr.size)
        go_wp2_with fail
        go_ret
        exact ⟨⟨(k : Nat), rfl, by show _ = _; rw [Hall.out, decide_eq_true_eq]; omega⟩, hbe⟩
      | false =>
        rw [hq] at hf1 htk
        have Htk := Lib.hid htk
        clear htk hx hq
        go_wp2_with fail
        refine hf1.mono ?_
        rintro e w3 ⟨rfl, hb3⟩
        clear hf1
        have hbe := hbr.trans (hb3.mono hbr.size)
        go_wp2_with fail
        go_roundw
        case rel => exact ⟨k + 1, by go_num, by omega, hbe, Htk.out⟩
        case measure => simp [intOf]; omega
    · have hdk : decide ((k : Int) < (l.length : Int)) = false := by rw [decide_eq_false_iff_not]; omega
      have hall : l.any q = false := by
        have := Hno.out
        rwa [List.take_of_length_le (by omega)] at this
      have Hall := Lib.hid hall
      clear hall
      go_wp2_with fail
      go_ret
      exact ⟨⟨-1, rfl, by show _ = _; rw [Hall.out, decide_eq_false_iff_not]; omega⟩, hbr⟩
set_option maxRecDepth 100000 in
theorem contains_ints {F : Nat} {caps : Array Value} {q : Nat → Bool} (l : List Nat) (o : Option Addr) (cap : Nat) (w : World) (h : IntsIn w o cap l) (hl : l.length ≤ 1048576)
    (he : ∀ args wz, (callFunc F args).run Tryz.prog wz = .ok (.enter F args) wz)
    (hf : ∀ x ∈ l, ∀ w1, Below w.heap.size w w1 → Calls Tryz.prog F (#[.int .i64 (x : Nat)] ++ caps) w1 fun e w2 => e = .returned (.bool (q x)) ∧ Below w1.heap.size w1 w2) :
    Calls Tryz.prog 61 #[.slice o l.length cap, .func (.func F) #[] caps] w fun e w' => e = .returned (.bool (l.any q)) ∧ Below w.heap.size w w' := by
  have hi := index_ints l o cap w h hl he hf
  clear h hl he hf
  go_enter Tryz.func61, Tryz.ntmps61
  go_wp2_with fail
  refine hi.mono ?_
  rintro e w3 ⟨⟨r, rfl, hr⟩, hb3⟩
  clear hi
  go_wp2_with fail
  go_ret
  exact ⟨ret_bool hr.out, hb3⟩
end Go.Proofs.YtnnbdlmilbcpjaaGreatDoor
