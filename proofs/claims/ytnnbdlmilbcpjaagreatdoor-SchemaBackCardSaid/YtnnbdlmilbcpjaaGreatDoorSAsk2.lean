/-
  Layer 9 (schema): what may be wrong with a schema: unnamed, and rows of attributes that do not rise: their walks. Conditions: what comes in is bounded.
-/
import Derived.Test.YtnnbdlmilbcpjaaGreatDoorSAsk1
import Derived.Deep.QuietTactic
import Derived.BigQuiet
namespace Go.Proofs.YtnnbdlmilbcpjaaGreatDoor
open Go.RowKit
set_option linter.unusedVariables false
set_option maxRecDepth 100000 in
theorem enter_no : ∀ args wz, (callFunc 87 args).run Tryz.prog wz = .ok (.enter 87 args) wz := fun _ _ => rfl
theorem no_bytes (a : Bytes) (w : World) (ha : a.length ≤ 1048576) : Calls Tryz.prog 87 #[.string ⟨a.toArray⟩] w fun e w' => e = .returned (.bool (!isName a)) ∧ Below w.heap.size w w' :=
  no_any ⟨a.toArray⟩ w (by rw [Lib.size_eq]; show a.length ≤ _; omega)
set_option maxHeartbeats 2000000 in
set_option maxRecDepth 100000 in
theorem unnamed_any (x : TyV) (w : World) (hW : WordsIn w x.ao x.ac x.t.attrs) (h1 : x.t.name.length ≤ 1048576) (h2 : x.t.label.length ≤ 1048576) (h3 : x.t.key.length ≤ 1048576) (h4 : x.t.attrs.length ≤ 1048576) (h5 : ∀ a ∈ x.t.attrs, a.length ≤ 1048576) :
    Calls Tryz.prog 49 #[typeVal x] w fun e w' => e = .returned (.bool (unnamedS x.t)) ∧ Below w.heap.size w w' := by
  obtain ⟨r, hr⟩ : ∃ r, r = unnamedS x.t := ⟨_, rfl⟩
  rw [← hr]
  unfold unnamedS at hr
  obtain ⟨⟨name, label, attrs, key, text, nodes⟩, ao, ac, no, nc⟩ := x
  unfold typeVal typeRow
  simp only at hr hW h1 h2 h3 h4 h5 ⊢
  have n1 := fun w => no_bytes name w h1
  have n2 := fun w => no_bytes label w h2
  have n3 := fun w => no_bytes key w h3
  have cc := fun w' (hb : Below w.heap.size w w') => contains_words (F := 87) (caps := #[]) (q := fun a => !isName a) attrs ao ac w' (hW.below hb) h4 enter_no (fun a ha w1 hb1 => no_bytes a w1 (h5 a ha))
  have he := enter_no
  have hb0 : Below w.heap.size w (w.alloc (.cells #[.string ⟨name.toArray⟩, .string ⟨label.toArray⟩, .slice ao attrs.length ac, .string ⟨key.toArray⟩, .bool text, .slice no nodes.length nc] 47)) := (Below.refl _ w).alloc (Nat.le_refl _) _
  have hbx := heap_alloc_new w (.cells #[.string ⟨name.toArray⟩, .string ⟨label.toArray⟩, .slice ao attrs.length ac, .string ⟨key.toArray⟩, .bool text, .slice no nodes.length nc] 47)
  have hz0 : w.heap.size < (w.alloc (.cells #[.string ⟨name.toArray⟩, .string ⟨label.toArray⟩, .slice ao attrs.length ac, .string ⟨key.toArray⟩, .bool text, .slice no nodes.length nc] 47)).heap.size := by simp
  have X := Lib.hid (And.intro hb0 (And.intro hbx hz0))
  clear hb0 hbx hz0
  have Hr := Lib.hid hr
  clear hr hW
  go_enter Tryz.func49, Tryz.ntmps49
  go_wp2_with fail
  refine (n1 _).mono ?_
  rintro e w1 ⟨rfl, hb1⟩
  have hbe1 := X.out.1.trans (hb1.mono X.out.1.size)
  have hx1 := (hb1.block w.heap.size X.out.2.2).trans X.out.2.1
  have hz1 := lt_of_block hx1
  have c1 := cell_of_row w1 w.heap.size 1 _ _ _ hx1
  have c2 := cell_of_row w1 w.heap.size 2 _ _ _ hx1
  have c3 := cell_of_row w1 w.heap.size 3 _ _ _ hx1
  clear n1 X hb1
  cases hn1 : isName name with
  | false =>
    have hR : r = true := by rw [Hr.out, hn1]; rfl
    have HR := Lib.hid hR
    clear hR hn1 hx1
    go_wp2_with fail
    go_ret
    exact ⟨ret_bool HR.out.symm, hbe1⟩
  | true =>
    have Hn1 := Lib.hid hn1
    have Hx1 := Lib.hid hx1
    clear hn1 hx1
    go_wp2_with fail
    refine (n2 _).mono ?_
    rintro e w2 ⟨rfl, hb2⟩
    have hbe2 := hbe1.trans (hb2.mono hbe1.size)
    have hx2 := (hb2.block w.heap.size hz1).trans Hx1.out
    have hz2 := lt_of_block hx2
    have d2 := cell_of_row w2 w.heap.size 2 _ _ _ hx2
    have d3 := cell_of_row w2 w.heap.size 3 _ _ _ hx2
    clear n2 hb2 c1 c2 c3 Hx1 hz1
    cases hn2 : isName label with
    | false =>
      have hR : r = true := by rw [Hr.out, hn2, Hn1.out]; rfl
      have HR := Lib.hid hR
      clear hR hn2 hx2
      go_wp2_with fail
      go_ret
      exact ⟨ret_bool HR.out.symm, hbe2⟩
    | true =>
      have Hn2 := Lib.hid hn2
      have Hx2 := Lib.hid hx2
      have cc2 := cc w2 hbe2
      clear hn2 hx2 cc
      go_wp2_with fail
      refine cc2.mono ?_
      rintro e w3 ⟨rfl, hb3⟩
      have hbe3 := hbe2.trans (hb3.mono hbe2.size)
      have hx3 := (hb3.block w.heap.size hz2).trans Hx2.out
      have hz3 := lt_of_block hx3
      have f3 := cell_of_row w3 w.heap.size 3 _ _ _ hx3
      clear cc2 hb3 d2 d3 Hx2 hz2
      cases hn3 : attrs.any (fun a => !isName a) with
      | true =>
        have hR : r = true := by rw [Hr.out, hn3, Hn2.out, Hn1.out]; rfl
        have HR := Lib.hid hR
        clear hR hn3 hx3
        go_wp2_with fail
        go_ret
        exact ⟨ret_bool HR.out.symm, hbe3⟩
      | false =>
        have hR : r = (!key.isEmpty && !isName key) := by rw [Hr.out, hn3, Hn2.out, Hn1.out]; rfl
        cases key with
        | nil =>
          have HR := Lib.hid hR
          clear hR hn3 hx3
          go_wp2_with fail
          go_ret
          exact ⟨ret_bool HR.out.symm, hbe3⟩
        | cons c t =>
          have HR := Lib.hid hR
          clear hR hn3 hx3
          go_wp2_with fail
          refine (n3 _).mono ?_
          rintro e w4 ⟨rfl, hb4⟩
          have hbe4 := hbe3.trans (hb4.mono hbe3.size)
          go_wp2_with fail
          go_ret
          exact ⟨ret_bool HR.out.symm, hbe4⟩
end Go.Proofs.YtnnbdlmilbcpjaaGreatDoor
