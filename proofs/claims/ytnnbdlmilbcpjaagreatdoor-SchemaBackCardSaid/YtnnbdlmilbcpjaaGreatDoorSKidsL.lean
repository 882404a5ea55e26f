/-
  Layer 9 (schema): each type that stands in a content is found by its label, and no other one: the plain law. Condition: nothing is wrong with the schema.
  Layer 9 (schema): the chapter's example, in plain Lean: what its text is, and what is found in it. No condition.
  Layer 9 (schema): the chapter's example: its walk: it holds, whatever is laid. No condition.
  Layers 7 and 9: Small: whether a content, or a schema, is small: the walks. Condition: the values are laid.
  Layer 9 (schema): SchemaKids: its walk. Condition: the schema is laid.
-/
import Derived.Test.YtnnbdlmilbcpjaaGreatDoorSPlaces
import Derived.Test.YtnnbdlmilbcpjaaGreatDoorSFind
import Derived.Test.YtnnbdlmilbcpjaaGreatDoorSPPlain
import Derived.Test.YtnnbdlmilbcpjaaGreatDoorSParse
import Derived.Deep.QuietTactic
import Derived.BigQuiet
namespace Go.Proofs.YtnnbdlmilbcpjaaGreatDoor
open Go.RowKit
set_option linter.unusedVariables false
theorem placeF_at : ∀ (ts : List SType) (i : Nat) (n : Bytes) (r : Option Nat) (c : Nat), placeF i ts n r = some c → r = some c ∨ ∃ j t, c = i + j ∧ ts[j]? = some t ∧ t.name = n := by
  intro ts
  induction ts with
  | nil => intro i n r c h; exact .inl h
  | cons t ts ih =>
    intro i n r c h
    unfold placeF at h
    rcases ih (i + 1) n _ c h with h1 | ⟨j, u, h1, h2, h3⟩
    · by_cases he : t.name = n
      · rw [if_pos he] at h1; injection h1 with h1
        exact .inr ⟨0, t, by omega, rfl, he⟩
      · rw [if_neg he] at h1; exact .inl h1
    · exact .inr ⟨j + 1, u, by omega, h2, h3⟩
theorem placeS_at {ts : List SType} {n : Bytes} {c : Nat} (h : placeS ts n = some c) : ∃ t, ts[c]? = some t ∧ t.name = n := by
  rcases placeF_at ts 0 n none c h with h | ⟨j, t, h1, h2, h3⟩
  · cases h
  · rw [Nat.zero_add] at h1; subst h1; exact ⟨t, h2, h3⟩
theorem twice_inj {l : List Bytes} (h : twiceB l = false) : ∀ (a b : Nat) (x : Bytes), l[a]? = some x → l[b]? = some x → a = b := by
  induction l with
  | nil => intro a b x h1 h2; simp at h1
  | cons y t ih =>
    unfold twiceB at h
    rw [Bool.or_eq_false_iff] at h
    intro a b x h1 h2
    cases a with
    | zero =>
      cases b with
      | zero => rfl
      | succ b =>
        simp only [List.getElem?_cons_zero, Option.some.injEq] at h1
        simp only [List.getElem?_cons_succ] at h2
        subst h1
        have := List.mem_of_getElem? h2
        have h3 := h.1
        rw [List.contains_iff_mem.2 this] at h3
        cases h3
    | succ a =>
      cases b with
      | zero =>
        simp only [List.getElem?_cons_zero, Option.some.injEq] at h2
        simp only [List.getElem?_cons_succ] at h1
        subst h2
        have := List.mem_of_getElem? h1
        have h3 := h.1
        rw [List.contains_iff_mem.2 this] at h3
        cases h3
      | succ b =>
        simp only [List.getElem?_cons_succ] at h1 h2
        rw [ih h.2 a b x h1 h2]
structure Whole (ts : List SType) : Prop where
  names : twiceB (ts.map SType.name) = false
  placed : ∀ t ∈ ts, ∀ n ∈ symsS t.nodes, (placeS ts n).isSome = true
  labels : ∀ t ∈ ts, twiceB ((kidsS ts t).map (labelAt ts)) = false
theorem whole_of {ts : List SType} (h : chkS ts = 0) : Whole ts := by
  unfold chkS at h
  split at h
  · cases h
  split at h
  · cases h
  split at h
  · cases h
  split at h
  · cases h
  rename_i h4
  split at h
  · cases h
  split at h
  · cases h
  split at h
  · rename_i h7; exact absurd h h7
  split at h
  · cases h
  rename_i h8
  split at h
  · cases h
  rename_i h9
  refine ⟨by simpa using h4, fun t ht n hn => ?_, fun t ht => ?_⟩
  · rw [Bool.not_eq_true, List.any_eq_false] at h8
    have := h8 t ht
    rw [Bool.not_eq_true, List.any_eq_false] at this
    have := this n hn
    cases e : placeS ts n with
    | none => rw [e] at this; exact absurd rfl this
    | some c => rfl
  · rw [Bool.not_eq_true, List.any_eq_false] at h9
    simpa using h9 t ht
theorem place_of {ts : List SType} {n : Bytes} (hW : Whole ts) {k : Nat} {t : SType} (ht : ts[k]? = some t) (hn : t.name = n) : placeS ts n = some k := by
  have h1 : (placeS ts n).isSome = true := by
    rw [placeS_some, List.contains_iff_mem]
    exact List.mem_map.2 ⟨t, List.mem_of_getElem? ht, hn⟩
  obtain ⟨c, hc⟩ := Option.isSome_iff_exists.1 h1
  obtain ⟨u, hu, hun⟩ := placeS_at hc
  have : k = c := twice_inj hW.names k c n (by rw [List.getElem?_map, ht]; simp [hn]) (by rw [List.getElem?_map, hu]; simp [hun])
  rw [hc, this]
theorem kids_find {ts : List SType} (h : chkS ts = 0) {k : Nat} {t : SType} (ht : ts[k]? = some t) : findS ts t.name = ((k : Int), 0) := by
  unfold findS
  rw [if_pos h, place_of (whole_of h) ht rfl]
theorem find_of {l : List Nat} {f : Nat → Bytes} (h : twiceB (l.map f) = false) {j : Nat} (hj : j ∈ l) : l.find? (fun i => f i == f j) = some j := by
  cases e : l.find? (fun i => f i == f j) with
  | none => rw [List.find?_eq_none] at e; exact absurd (by simp) (e j hj)
  | some i =>
    have h1 := List.find?_some e
    have h2 := List.mem_of_find?_eq_some e
    obtain ⟨a, ha⟩ := List.mem_iff_getElem?.1 h2
    obtain ⟨b, hb⟩ := List.mem_iff_getElem?.1 hj
    have hf : f i = f j := by simpa using h1
    have := twice_inj h a b (f j) (by rw [List.getElem?_map, ha]; simp [hf]) (by rw [List.getElem?_map, hb]; rfl)
    subst this
    rw [ha] at hb; exact hb
theorem child_eq {ts : List SType} (h : chkS ts = 0) {k : Nat} {t : SType} (ht : ts[k]? = some t) (label : Bytes) : childS ts t.name label = match (kidsS ts t).find? (fun j => labelAt ts j == label) with | some j => ((j : Int), 0) | none => (0, 16) := by
  unfold childS
  rw [if_pos h, place_of (whole_of h) ht rfl]
  simp only [ht]
  cases (kidsS ts t).find? (fun j => labelAt ts j == label) <;> rfl
theorem kids_sym {ts : List SType} (h : chkS ts = 0) {k : Nat} {t : SType} (ht : ts[k]? = some t) {j : Nat} {n : Bytes} (hn : (symsS t.nodes)[j]? = some n) :
    ∃ (c : Nat) (u : SType), ts[c]? = some u ∧ u.name = n ∧ findS ts n = ((c : Int), 0) ∧ childS ts t.name u.label = ((c : Int), 0) ∧ (kidsS ts t)[j]? = some c := by
  have hW := whole_of h
  have h1 := hW.placed t (List.mem_of_getElem? ht) n (List.mem_of_getElem? hn)
  obtain ⟨c, hc⟩ := Option.isSome_iff_exists.1 h1
  obtain ⟨u, hu, hun⟩ := placeS_at hc
  have hk : (kidsS ts t)[j]? = some c := by
    unfold kidsS
    rw [List.getElem?_map, hn]
    simp [hc]
  have hl : labelAt ts c = u.label := by unfold labelAt; rw [hu]
  refine ⟨c, u, hu, hun, by unfold findS; rw [if_pos h, hc], ?_, hk⟩
  rw [child_eq h ht, ← hl, find_of (hW.labels t (List.mem_of_getElem? ht)) (List.mem_of_getElem? hk)]
theorem kids_label {ts : List SType} (h : chkS ts = 0) {k : Nat} {t : SType} (ht : ts[k]? = some t) (label : Bytes) :
    (∃ (c : Nat) (u : SType), ts[c]? = some u ∧ u.label = label ∧ childS ts t.name label = ((c : Int), 0) ∧ (kidsS ts t).any (fun j => labelAt ts j == label) = true) ∨ (childS ts t.name label = (0, 16) ∧ (kidsS ts t).any (fun j => labelAt ts j == label) = false) := by
  rw [child_eq h ht]
  cases e : (kidsS ts t).find? (fun j => labelAt ts j == label) with
  | none =>
    rw [List.find?_eq_none] at e
    exact .inr ⟨rfl, List.any_eq_false.2 e⟩
  | some c =>
    have h1 := List.find?_some e
    have h2 := List.mem_of_find?_eq_some e
    have hlt := kidsS_lt (by have := (List.getElem?_eq_some_iff.1 ht).1; omega) h2
    have hl : labelAt ts c = label := by simpa using h1
    have hg : ts[c]? = some ts[c] := List.getElem?_eq_getElem hlt
    refine .inl ⟨c, ts[c], hg, ?_, rfl, List.any_eq_true.2 ⟨c, h2, h1⟩⟩
    rw [← hl]; unfold labelAt; rw [hg]
def awakeTxt : Bytes := [116, 121, 112, 101, 32, 98, 111, 111, 107, 32, 61, 32, 98, 111, 111, 107, 32, 64, 105, 100, 32, 123, 32, 116, 105, 116, 108, 101, 44, 32, 97, 117, 116, 104, 111, 114, 42, 32, 125, 10, 116, 121, 112, 101, 32, 116, 105, 116, 108, 101, 32, 61, 32, 116, 105, 116, 108, 101, 32, 116, 101, 120, 116, 10, 116, 121, 112, 101, 32, 97, 117, 116, 104, 111, 114, 32, 61, 32, 97, 117, 116, 104, 111, 114, 32, 116, 101, 120, 116, 10]
def bookW : Bytes := [98, 111, 111, 107]
def titleW : Bytes := [116, 105, 116, 108, 101]
def authorW : Bytes := [97, 117, 116, 104, 111, 114]
def idW : Bytes := [105, 100]
def bookNs : List SNode := [⟨2, titleW, 0, 0⟩, ⟨2, authorW, 0, 0⟩, ⟨5, [], 1, 0⟩, ⟨3, [], 0, 2⟩]
def awakeTs : List SType := [⟨bookW, bookW, [idW], [], false, bookNs⟩, ⟨titleW, titleW, [], [], true, []⟩, ⟨authorW, authorW, [], [], true, []⟩]
theorem types_awake : typesL 0 [] (linesL awakeTxt) = (awakeTs, 0) := by kernel_rfl
theorem sort_two : [titleW, authorW].mergeSort leS = [authorW, titleW] := by
  rw [List.mergeSort]
  simp only [List.MergeSort.Internal.splitInTwo_fst, List.MergeSort.Internal.splitInTwo_snd]
  simp [List.merge]
  decide
theorem syms_book : symsS bookNs = [authorW, titleW] := by
  unfold symsS
  rw [if_pos (by kernel_rfl), show symsOf bookNs = [titleW, authorW] from by kernel_rfl, sort_two]
  kernel_rfl
theorem syms_nil : symsS [] = [] := by kernel_rfl
theorem kids_book : kidsS awakeTs ⟨bookW, bookW, [idW], [], false, bookNs⟩ = [2, 1] := by
  unfold kidsS
  simp only
  rw [syms_book]
  kernel_rfl
theorem kids_word (w : Bytes) : kidsS awakeTs ⟨w, w, [], [], true, []⟩ = [] := by
  unfold kidsS
  simp only
  rw [syms_nil]
  rfl
theorem chk_awake : chkS awakeTs = 0 := by
  unfold chkS
  rw [if_neg (by decide), if_neg (by decide), if_neg (by decide), if_neg (by decide), if_neg (by decide), if_neg (by decide), if_neg (by decide), if_neg, if_neg, if_neg]
  · rw [Bool.not_eq_true, List.any_eq_false]
    intro t ht
    simp only [awakeTs, List.mem_cons, List.not_mem_nil, or_false] at ht
    rcases ht with rfl | rfl | rfl
    · decide
    · decide
    · decide
  · rw [Bool.not_eq_true, List.any_eq_false]
    intro t ht
    simp only [awakeTs, List.mem_cons, List.not_mem_nil, or_false] at ht
    rcases ht with rfl | rfl | rfl
    · rw [kids_book]; decide
    · rw [kids_word]; decide
    · rw [kids_word]; decide
  · rw [Bool.not_eq_true, List.any_eq_false]
    intro t ht
    simp only [awakeTs, List.mem_cons, List.not_mem_nil, or_false] at ht
    rcases ht with rfl | rfl | rfl
    · simp only; rw [syms_book]; decide
    · simp only; rw [syms_nil]; decide
    · simp only; rw [syms_nil]; decide
theorem parse_awake : parseL awakeTxt = (awakeTs, 0, 0) := by
  unfold parseL
  rw [if_neg (by decide), types_awake, if_neg (by decide), if_neg (by rw [chk_awake]; decide)]
theorem child_awake : childS awakeTs bookW authorW = (2, 0) := by
  unfold childS
  rw [if_pos chk_awake, show placeS awakeTs bookW = some 0 from by kernel_rfl]
  simp only [awakeTs, List.getElem?_cons_zero]
  rw [show kidsS [⟨bookW, bookW, [idW], [], false, bookNs⟩, ⟨titleW, titleW, [], [], true, []⟩, ⟨authorW, authorW, [], [], true, []⟩] ⟨bookW, bookW, [idW], [], false, bookNs⟩ = [2, 1] from kids_book]
  kernel_rfl
theorem awake_asc : ∀ d ∈ awakeTxt, d < 128 := by decide
open Go.RowKit Go.Shelf
set_option linter.unusedVariables false
attribute [local go_sem] Oper.semAt_some
theorem typesAt_lim {n : Nat} {s : Bytes} {ts : List SType} {q : Nat} (h : ∀ t ∈ ts, TLim n t) (hn : n ≤ 1048576) (hl : ts.length ≤ 1048576) {xs : List TyV} (hx : xs.map TyV.t = ts) : Lim xs := by
  have hq : ∀ x ∈ xs, TLim n x.t := fun x hx2 => h _ (by rw [← hx]; exact List.mem_map_of_mem hx2)
  have he : xs.length = ts.length := by rw [← hx, List.length_map]
  exact ⟨by omega, fun x hx => Nat.le_trans (hq x hx).name hn, fun x hx => Nat.le_trans (hq x hx).label hn, fun x hx => Nat.le_trans (hq x hx).key hn, fun x hx => Nat.le_trans (hq x hx).attrs hn, fun x hx a ha => Nat.le_trans ((hq x hx).attr a ha) hn, fun x hx a ha => Nat.le_trans ((hq x hx).sym a ha) hn⟩
theorem awake_lim : ∀ t ∈ awakeTs, TLim 100 t := by
  intro t ht
  simp only [awakeTs, List.mem_cons, List.not_mem_nil, or_false] at ht
  rcases ht with rfl | rfl | rfl
  · exact ⟨by decide, by decide, by decide, by decide, by decide, by decide⟩
  · exact ⟨by decide, by decide, by decide, by decide, by decide, by decide⟩
  · exact ⟨by decide, by decide, by decide, by decide, by decide, by decide⟩
set_option maxRecDepth 100000 in
theorem awake_any (w : World) : Calls Tryz.prog 7 #[] w fun e w' => e = .returned (.bool true) ∧ Below w.heap.size w w' := by
  have hp := parse_small awakeTxt w (by decide) (by intro c hc; exact awake_asc c hc)
  rw [parse_awake] at hp
  unfold awakeTxt at hp
  have hch := fun l o cap w1 h hL => child_any l o cap w1 h hL bookW authorW (by decide)
  unfold bookW authorW at hch
  go_enter Tryz.func7, Tryz.ntmps7
  go_wp2_with fail
  refine hp.mono ?_
  rintro e w1 ⟨xs, o, c, hx, rfl, hT, hb⟩
  have hL := typesAt_lim (s := []) (q := 0) awake_lim (by omega) (by decide) hx
  have hT1 := hT.below ((Below.refl _ w1).alloc (Nat.le_refl _) (.cells #[.slice o xs.length c] 24))
  have hb1 := hb.alloc hb.size (.cells #[.slice o xs.length c] 24)
  go_wp2_with fail
  refine (hch xs o c _ hT1 hL).mono ?_
  rintro e w2 ⟨he, hb2⟩
  rw [hx] at he
  have hca := child_awake
  unfold bookW authorW at hca
  rw [hca] at he
  subst he
  go_wp2_with fail
  go_ret
  exact ⟨rfl, bel_next hb1 hb2⟩
open Go.RowKit Go.Shelf
set_option linter.unusedVariables false
def smallN (l : List SNode) : Bool := l.all (fun n => decide (n.sym.length ≤ 80)) && decide (l.length ≤ 24)
theorem all_step {α : Type} {l : List α} {p : α → Bool} {k : Nat} {x : α} (hx : l[k]? = some x) (h : (l.take k).all p = true) (hp : p x = true) : (l.take (k + 1)).all p = true := by
  rw [List.take_add_one, hx, List.all_append, h]; simp [hp]
theorem all_no {α : Type} {l : List α} {p : α → Bool} {k : Nat} {x : α} (hx : l[k]? = some x) (hp : p x = false) : l.all p = false := by
  rw [List.all_eq_false]
  exact ⟨x, List.mem_of_getElem? hx, by simp [hp]⟩
set_option maxRecDepth 100000 in
theorem small07_any (l : List SNode) (o : Option Addr) (cap : Nat) (w : World) (h : NodesAt w o cap l) :
    Calls Tryz.prog 19 #[.agg #[.slice o l.length cap]] w fun e w' => e = .returned (.bool (smallN l)) ∧ Below w.heap.size w w' := by
  obtain ⟨R, hR⟩ : ∃ R, R = smallN l := ⟨_, rfl⟩
  rw [← hR]
  have HR := Lib.hid hR
  clear hR
  have hlm := h.2.1
  have hcm := h.2.2.1
  unfold maxLen at hcm
  have hb0 : Below w.heap.size w (w.alloc (.cells #[.slice o l.length cap] 45)) := (Below.refl _ w).alloc (Nat.le_refl _) _
  have h1 := h.below hb0
  go_enter Tryz.func19, Tryz.ntmps19
  go_wp2_with fail
  go_loopw [3] (fun v wr => ∃ k : Nat, v = .int .i64 k ∧ k ≤ l.length ∧ wr = w.alloc (.cells #[.slice o l.length cap] 45) ∧ Hid ((l.take k).all (fun n => decide (n.sym.length ≤ 80)) = true)) (fun v _ => l.length - (intOf v).toNat)
  case atStart => exact ⟨0, rfl, Nat.zero_le _, rfl, rfl⟩
  case round =>
    obtain ⟨k, rfl, hk, rfl, HA⟩ := hrel
    by_cases hlt : k < l.length
    · have hdk : decide ((k : Int) < (l.length : Int)) = true := by rw [decide_eq_true_eq]; omega
      have hki : (k : Int) < (l.length : Int) := by omega
      have hk0 : (0 : Int) ≤ (k : Int) := by omega
      obtain ⟨x, hx⟩ : ∃ n, l[k]? = some n := ⟨_, List.getElem?_eq_getElem hlt⟩
      obtain ⟨b, off, rfl, hbl, x0, x1, x2, x3⟩ := h1.at hx
      by_cases hs : x.sym.length ≤ 80
      · have hd8 : decide ((x.sym.length : Int) > 80) = false := by rw [decide_eq_false_iff_not]; omega
        have hst := all_step hx HA.out (p := fun n => decide (n.sym.length ≤ 80)) (by simp [hs])
        have Hst := Lib.hid hst
        clear hst hx
        go_wp2_with fail
        go_roundw
        case rel => exact ⟨k + 1, by go_num, by omega, trivial, Hst.out⟩
        case measure => simp [intOf]; omega
      · have hd8 : decide ((x.sym.length : Int) > 80) = true := by rw [decide_eq_true_eq]; omega
        have hst : smallN l = false := by unfold smallN; rw [all_no hx (p := fun n => decide (n.sym.length ≤ 80)) (by simp [hs]), Bool.false_and]
        have Hst := Lib.hid hst
        clear hst hx
        go_wp2_with fail
        go_ret
        exact ⟨by rw [HR.out, Hst.out]; rfl, hb0⟩
    · have hdk : decide ((k : Int) < (l.length : Int)) = false := by rw [decide_eq_false_iff_not]; omega
      have ha := HA.out
      rw [List.take_of_length_le (by omega)] at ha
      have hst : smallN l = decide ((l.length : Int) ≤ 24) := by
        unfold smallN; rw [ha, Bool.true_and]
        exact decide_eq_decide.2 (by omega)
      have Hst := Lib.hid hst
      clear hst ha
      go_wp2_with fail
      go_ret
      exact ⟨by rw [HR.out, Hst.out]; rfl, hb0⟩
def smallA (t : SType) : Bool := t.attrs.all (fun a => decide (a.length ≤ 80))
def smallT (t : SType) : Bool := decide (t.attrs.length ≤ 5) && smallN t.nodes && decide (t.name.length ≤ 80) && decide (t.label.length ≤ 80) && decide (t.key.length ≤ 80) && smallA t
def smallS (ts : List SType) : Bool := ts.all smallT && decide (ts.length ≤ 8)
theorem small_no {l : List TyV} {k : Nat} {x : TyV} (hx : l[k]? = some x) (h : smallT x.t = false) : smallS (l.map TyV.t) = false := by
  unfold smallS
  rw [all_no (k := k) (x := x.t) (by rw [List.getElem?_map, hx]; rfl) h, Bool.false_and]
set_option maxHeartbeats 4000000 in
set_option maxRecDepth 100000 in
theorem small09_any (l : List TyV) (o : Option Addr) (cap : Nat) (w : World) (h : TypesAt w o cap l) :
    Calls Tryz.prog 6 #[.agg #[.slice o l.length cap]] w fun e w' => e = .returned (.bool (smallS (l.map TyV.t))) ∧ Below w.heap.size w w' := by
  obtain ⟨R, hR⟩ : ∃ R, R = smallS (l.map TyV.t) := ⟨_, rfl⟩
  rw [← hR]
  have HR := Lib.hid hR
  clear hR
  have hlm := h.1.2.1
  have hcm := h.1.2.2.1
  unfold maxLen at hcm
  have hb0 : Below w.heap.size w (w.alloc (.cells #[.slice o l.length cap] 24)) := (Below.refl _ w).alloc (Nat.le_refl _) _
  have h1 := h.below hb0
  obtain ⟨w1, hw1⟩ : ∃ w1, w1 = w.alloc (.cells #[.slice o l.length cap] 24) := ⟨_, rfl⟩
  have hx0 := heap_alloc_new w (.cells #[.slice o l.length cap] 24)
  have hz0 : w.heap.size < (w.alloc (.cells #[.slice o l.length cap] 24)).heap.size := by simp
  go_enter Tryz.func6, Tryz.ntmps6
  go_wp2_with fail
  rw [← hw1] at hb0 h1 hx0 hz0 ⊢
  clear hw1
  go_loopw [3] (fun v wr => ∃ k : Nat, v = .int .i64 k ∧ k ≤ l.length ∧ Below w1.heap.size w1 wr ∧ Hid (((l.take k).map TyV.t).all smallT = true)) (fun v _ => l.length - (intOf v).toNat)
  case atStart => exact ⟨0, rfl, Nat.zero_le _, Below.refl _ _, rfl⟩
  case round =>
    obtain ⟨k, rfl, hk, hbr, HA⟩ := hrel
    have cs := cell_of_row _ _ 0 _ _ _ ((hbr.block w.heap.size hz0).trans hx0)
    have hbw := bel_next hb0 hbr
    by_cases hlt : k < l.length
    · have hdk : decide ((k : Int) < (l.length : Int)) = true := by rw [decide_eq_true_eq]; omega
      have hki : (k : Int) < (l.length : Int) := by omega
      have hk0 : (0 : Int) ≤ (k : Int) := by omega
      obtain ⟨x, hx⟩ : ∃ n, l[k]? = some n := ⟨_, List.getElem?_eq_getElem hlt⟩
      obtain ⟨hwa, hwn⟩ := (h1.below hbr).2 x (List.mem_of_getElem? hx)
      obtain ⟨b, off, rfl, hbl, x0, x1, x2, x3, x4, x5⟩ := (h1.below hbr).at hx
      have hno := fun hq => small_no hx hq
      have hyes : smallT x.t = true → ((l.take (k + 1)).map TyV.t).all smallT = true := fun hq => by
        have := all_step (l := l.map TyV.t) (k := k) (x := x.t) (p := smallT) (by rw [List.getElem?_map, hx]; rfl) (by rw [← List.map_take]; exact HA.out) hq
        rw [List.map_take]; exact this
      have Hyes := Lib.hid hyes
      have Hno := Lib.hid hno
      clear hx hyes hno HA h1
      obtain ⟨⟨name, label, attrs, key, text, nodes⟩, ao, ac, no, nc⟩ := x
      simp only at x0 x1 x2 x3 x4 x5 hwa hwn
      have hsm := fun w' hb => small07_any nodes no nc w' (hwn.below hb)
      have hb2 : Below wr.heap.size wr (wr.alloc (.cells #[.string ⟨name.toArray⟩, .string ⟨label.toArray⟩, .slice ao attrs.length ac, .string ⟨key.toArray⟩, .bool text, .slice no nodes.length nc] 47)) := (Below.refl _ wr).alloc (Nat.le_refl _) _
      have hbx := bel_next hbw hb2
      have hb2' := bel_next hbr hb2
      by_cases ha : attrs.length ≤ 5
      · have hda : decide ((attrs.length : Int) > 5) = false := by rw [decide_eq_false_iff_not]; omega
        go_wp2_with fail
        refine (hsm _ hb2).mono ?_
        rintro e w3 ⟨rfl, hb3⟩
        have hlt3 : wr.heap.size < (wr.alloc (.cells #[.string ⟨name.toArray⟩, .string ⟨label.toArray⟩, .slice ao attrs.length ac, .string ⟨key.toArray⟩, .bool text, .slice no nodes.length nc] 47)).heap.size := by simp
        have rc := row_cells_new wr [.string ⟨name.toArray⟩, .string ⟨label.toArray⟩, .slice ao attrs.length ac, .string ⟨key.toArray⟩, .bool text, .slice no nodes.length nc] 47 _ rfl
        have y0 : w3.cell? ⟨wr.heap.size, 0, none⟩ = some (.string ⟨name.toArray⟩) := (hb3.cell (p := ⟨wr.heap.size, 0, none⟩) hlt3).trans (rc 0 _ rfl)
        have y1 : w3.cell? ⟨wr.heap.size, 1, none⟩ = some (.string ⟨label.toArray⟩) := (hb3.cell (p := ⟨wr.heap.size, 1, none⟩) hlt3).trans (rc 1 _ rfl)
        have y2 : w3.cell? ⟨wr.heap.size, 2, none⟩ = some (.slice ao attrs.length ac) := (hb3.cell (p := ⟨wr.heap.size, 2, none⟩) hlt3).trans (rc 2 _ rfl)
        have y3 : w3.cell? ⟨wr.heap.size, 3, none⟩ = some (.string ⟨key.toArray⟩) := (hb3.cell (p := ⟨wr.heap.size, 3, none⟩) hlt3).trans (rc 3 _ rfl)
        have hw3 := (hwa.below hb2).below hb3
        have hbx3 := bel_next hbx hb3
        have hbr3 := bel_next hb2' hb3
        have hnx : (smallN nodes && decide (name.length ≤ 80) && decide (label.length ≤ 80) && decide (key.length ≤ 80)) = false → R = false := fun hq => by
          rw [HR.out]
          refine Hno.out ?_
          unfold smallT
          show (decide (attrs.length ≤ 5) && smallN nodes && decide (name.length ≤ 80) && decide (label.length ≤ 80) && decide (key.length ≤ 80) && _) = false
          cases h1 : decide (attrs.length ≤ 5) <;> cases h2 : smallN nodes <;> cases h3 : decide (name.length ≤ 80) <;> cases h4 : decide (label.length ≤ 80) <;> cases h5 : decide (key.length ≤ 80) <;> simp_all
        clear rc hsm hb2 hb3 hb2' hbx x0 x1 x2 x3 x4 x5 hwa hwn hbl cs
        have Hnx := Lib.hid hnx
        clear hnx
        cases hN : smallN nodes with
        | false =>
          go_wp2_with fail
          go_ret
          exact ⟨by rw [Hnx.out (by rw [hN]; rfl)]; rfl, hbx3⟩
        | true =>
          by_cases h1 : name.length ≤ 80
          · have hd1 : decide ((name.length : Int) > 80) = false := by rw [decide_eq_false_iff_not]; omega
            by_cases h2 : label.length ≤ 80
            · have hd2 : decide ((label.length : Int) > 80) = false := by rw [decide_eq_false_iff_not]; omega
              by_cases h3 : key.length ≤ 80
              · have hd3 : decide ((key.length : Int) > 80) = false := by rw [decide_eq_false_iff_not]; omega
                have Hya : Hid (smallA ⟨name, label, attrs, key, text, nodes⟩ = true → ((l.take (k + 1)).map TyV.t).all smallT = true) := fun hq => Hyes.out (by
                  unfold smallT
                  show (decide (attrs.length ≤ 5) && smallN nodes && decide (name.length ≤ 80) && decide (label.length ≤ 80) && decide (key.length ≤ 80) && _) = true
                  rw [hN, hq]; simp [ha, h1, h2, h3])
                have Hna : Hid (smallA ⟨name, label, attrs, key, text, nodes⟩ = false → R = false) := fun hq => by
                  rw [HR.out]
                  refine Hno.out ?_
                  unfold smallT
                  rw [hq, Bool.and_false]
                clear Hyes Hno Hnx hN
                go_wp2_with fail
                go_loopw [5] (fun v wq => ∃ j : Nat, v = .int .i64 j ∧ j ≤ attrs.length ∧ wq = w3 ∧ Hid ((attrs.take j).all (fun a => decide (a.length ≤ 80)) = true)) (fun v _ => attrs.length - (intOf v).toNat)
                case atStart => exact ⟨0, rfl, Nat.zero_le _, rfl, rfl⟩
                case round =>
                  obtain ⟨j, rfl, hj, rfl, HB⟩ := hrel
                  by_cases hjt : j < attrs.length
                  · have hdj : decide ((j : Int) < (attrs.length : Int)) = true := by rw [decide_eq_true_eq]; omega
                    have hji : (j : Int) < (attrs.length : Int) := by omega
                    have hj0 : (0 : Int) ≤ (j : Int) := by omega
                    obtain ⟨a, hat⟩ : ∃ n, attrs[j]? = some n := ⟨_, List.getElem?_eq_getElem hjt⟩
                    obtain ⟨g, off2, rfl, hgl, z0⟩ := hw3.at hat
                    by_cases hs : a.length ≤ 80
                    · have hd8 : decide ((a.length : Int) > 80) = false := by rw [decide_eq_false_iff_not]; omega
                      have hst := all_step hat HB.out (p := fun n => decide (n.length ≤ 80)) (by simp [hs])
                      have Hst := Lib.hid hst
                      clear hst hat
                      go_wp2_with fail
                      go_roundw
                      case rel => exact ⟨j + 1, by go_num, by omega, trivial, Hst.out⟩
                      case measure => simp [intOf]; omega
                    · have hd8 : decide ((a.length : Int) > 80) = true := by rw [decide_eq_true_eq]; omega
                      have hst : smallA ⟨name, label, attrs, key, text, nodes⟩ = false := by unfold smallA; exact all_no hat (p := fun a : Bytes => decide (a.length ≤ 80)) (by simp [hs])
                      have hR := Hna.out hst
                      clear hst hat
                      go_wp2_with fail
                      go_ret
                      exact ⟨by rw [hR]; rfl, hbx3⟩
                  · have hdj : decide ((j : Int) < (attrs.length : Int)) = false := by rw [decide_eq_false_iff_not]; omega
                    have hb := HB.out
                    rw [List.take_of_length_le (by omega)] at hb
                    have Hst := Lib.hid (Hya.out hb)
                    clear hb
                    go_wp2_with fail
                    go_roundw
                    case rel => exact ⟨k + 1, by go_num, by omega, hbr3, Hst.out⟩
                    case measure => simp [intOf]; omega
              · have hd3 : decide ((key.length : Int) > 80) = true := by rw [decide_eq_true_eq]; omega
                go_wp2_with fail
                go_ret
                exact ⟨by rw [Hnx.out (by simp [h3])]; rfl, hbx3⟩
            · have hd2 : decide ((label.length : Int) > 80) = true := by rw [decide_eq_true_eq]; omega
              go_wp2_with fail
              go_ret
              exact ⟨by rw [Hnx.out (by simp [h2])]; rfl, hbx3⟩
          · have hd1 : decide ((name.length : Int) > 80) = true := by rw [decide_eq_true_eq]; omega
            go_wp2_with fail
            go_ret
            exact ⟨by rw [Hnx.out (by simp [h1])]; rfl, hbx3⟩
      · have hda : decide ((attrs.length : Int) > 5) = true := by rw [decide_eq_true_eq]; omega
        go_wp2_with fail
        go_ret
        exact ⟨by rw [HR.out, Hno.out (by unfold smallT; simp [ha])]; rfl, hbx⟩
    · have hdk : decide ((k : Int) < (l.length : Int)) = false := by rw [decide_eq_false_iff_not]; omega
      have ha := HA.out
      rw [List.take_of_length_le (by omega)] at ha
      have hst : smallS (l.map TyV.t) = decide ((l.length : Int) ≤ 8) := by
        unfold smallS; rw [ha, Bool.true_and, List.length_map]
        exact decide_eq_decide.2 (by omega)
      have Hst := Lib.hid hst
      clear hst ha
      go_wp2_with fail
      go_ret
      exact ⟨by rw [HR.out, Hst.out]; rfl, hbw⟩
open Go.RowKit Go.Shelf
set_option linter.unusedVariables false
attribute [local go_sem] Oper.semAt_some
theorem lim_small {l : List TyV} (h : smallS (l.map TyV.t) = true) : Lim l := by
  unfold smallS at h
  rw [Bool.and_eq_true, List.all_eq_true] at h
  have hT : ∀ x ∈ l, smallT x.t = true := fun x hx => h.1 _ (List.mem_map_of_mem hx)
  have hn := of_decide_eq_true h.2
  rw [List.length_map] at hn
  have hq : ∀ x ∈ l, x.t.attrs.length ≤ 5 ∧ smallN x.t.nodes = true ∧ x.t.name.length ≤ 80 ∧ x.t.label.length ≤ 80 ∧ x.t.key.length ≤ 80 ∧ smallA x.t = true := fun x hx => by
    have := hT x hx
    unfold smallT at this
    simp only [Bool.and_eq_true, decide_eq_true_eq] at this
    obtain ⟨⟨⟨⟨⟨a, b⟩, c⟩, d⟩, e⟩, f⟩ := this
    exact ⟨a, b, c, d, e, f⟩
  refine ⟨by omega, fun x hx => ?_, fun x hx => ?_, fun x hx => ?_, fun x hx => ?_, fun x hx a ha => ?_, fun x hx n hn => ?_⟩
  · have := (hq x hx).2.2.1; omega
  · have := (hq x hx).2.2.2.1; omega
  · have := (hq x hx).2.2.2.2.1; omega
  · have := (hq x hx).1; omega
  · have h1 := (hq x hx).2.2.2.2.2
    unfold smallA at h1
    have := of_decide_eq_true (List.all_eq_true.1 h1 a ha); omega
  · have h1 := (hq x hx).2.1
    unfold smallN at h1
    rw [Bool.and_eq_true] at h1
    have := of_decide_eq_true (List.all_eq_true.1 h1.1 n hn); omega
set_option maxHeartbeats 8000000 in
set_option maxRecDepth 100000 in
theorem kidsLaw_any (l : List TyV) (o : Option Addr) (cap : Nat) (lb : Bytes) (w : World) (h : TypesAt w o cap l) :
    Calls Tryz.prog 4 #[.agg #[.slice o l.length cap], .string ⟨lb.toArray⟩] w fun e w' => e = .returned (.bool true) ∧ Below w.heap.size w w' := by
  have hlm := h.1.2.1
  have hcm := h.1.2.2.1
  unfold maxLen at hcm
  have hb0 : Below w.heap.size w (w.alloc (.cells #[.slice o l.length cap] 24)) := (Below.refl _ w).alloc (Nat.le_refl _) _
  have h1 := h.below hb0
  obtain ⟨w1, hw1⟩ : ∃ w1, w1 = w.alloc (.cells #[.slice o l.length cap] 24) := ⟨_, rfl⟩
  have hx0 := heap_alloc_new w (.cells #[.slice o l.length cap] 24)
  have hz0 : w.heap.size < (w.alloc (.cells #[.slice o l.length cap] 24)).heap.size := by simp
  have hsm := small09_any l o cap
  have haw := awake_any
  go_enter Tryz.func4, Tryz.ntmps4
  go_wp2_with fail
  rw [← hw1] at hb0 h1 hx0 hz0 ⊢
  clear hw1
  have hsm1 := hsm w1 h1
  clear hsm
  have hS : ∀ w', Below w1.heap.size w1 w' → w'.cell? ⟨w.heap.size, 0, none⟩ = some (.slice o l.length cap) := fun w' hb => cell_of_row _ _ 0 _ _ _ ((hb.block w.heap.size hz0).trans hx0)
  have HS := Lib.hid hS
  clear hx0 hz0 h hS
  refine hsm1.mono ?_
  rintro e w2 ⟨rfl, hb2⟩
  clear hsm1
  cases hsb : smallS (l.map TyV.t) with
  | false =>
    have hbw := bel_next hb0 hb2
    go_wp2_with fail
    refine (haw _).mono ?_
    rintro e w3 ⟨rfl, hb3⟩
    go_wp2_with fail
    go_ret
    exact ⟨rfl, bel_next hbw hb3⟩
  | true =>
  have hL := lim_small hsb
  clear hsb
  have hck := check_any l o cap w2 (h1.below hb2) hL
  have c2 := HS.out _ hb2
  go_wp2_with fail
  refine hck.mono ?_
  rintro e w3 ⟨rfl, hb3⟩
  have hb3 := bel_next hb2 hb3
  have hbw := bel_next hb0 hb3
  clear hck c2 hb2
  by_cases hch : chkS (l.map TyV.t) = 0
  · rw [hch]
    by_cases hll : lb.length ≤ 80
    · have hd : decide ((lb.length : Int) > 80) = false := by rw [decide_eq_false_iff_not]; omega
      have Hch := Lib.hid hch
      clear hch
      go_wp2_with fail
      have hfi := fun n w' (hb : Below w1.heap.size w1 w') (hn : n.length ≤ 1048576) => find_any l o cap w' (h1.below hb) hL n hn
      have hci := fun n w' (hb : Below w1.heap.size w1 w') (hn : n.length ≤ 1048576) => child_any l o cap w' (h1.below hb) hL n lb hn
      have hcj := fun n lab w' (hb : Below w1.heap.size w1 w') (hn : n.length ≤ 1048576) => child_any l o cap w' (h1.below hb) hL n lab hn
      have Hfi := Lib.hid hfi
      have Hci := Lib.hid hci
      have Hcj := Lib.hid hcj
      clear hfi hci hcj hbw
      go_loopw [5] (fun v wr => ∃ k : Nat, v = .int .i64 k ∧ k ≤ l.length ∧ Below w1.heap.size w1 wr) (fun v _ => l.length - (intOf v).toNat)
      case atStart => exact ⟨0, rfl, Nat.zero_le _, hb3⟩
      case round =>
        obtain ⟨k, rfl, hk, hbr⟩ := hrel
        obtain ⟨wo, hwo⟩ : ∃ wo, wo = wr := ⟨_, rfl⟩
        subst hwo
        have cs := HS.out _ hbr
        have hbw := bel_next hb0 hbr
        by_cases hlt : k < l.length
        · have hdk : decide ((k : Int) < (l.length : Int)) = true := by rw [decide_eq_true_eq]; omega
          have hki : (k : Int) < (l.length : Int) := by omega
          have hk0 : (0 : Int) ≤ (k : Int) := by omega
          obtain ⟨x, hx⟩ : ∃ n, l[k]? = some n := ⟨_, List.getElem?_eq_getElem hlt⟩
          have hxm := List.mem_of_getElem? hx
          have htx : (l.map TyV.t)[k]? = some x.t := by rw [List.getElem?_map, hx]; rfl
          obtain ⟨hwa, hwn⟩ := (h1.below hbr).2 x hxm
          obtain ⟨b, off, rfl, hbl, x0, x1, x2, x3, x4, x5⟩ := (h1.below hbr).at hx
          have hkf := kids_find Hch.out htx
          have hks := fun j n hn => kids_sym Hch.out htx (j := j) (n := n) hn
          have hkl := kids_label Hch.out htx lb
          have hkn : (kidsS (l.map TyV.t) x.t).length = (symsS x.t.nodes).length := by unfold kidsS; rw [List.length_map]
          have hxn := hL.name x hxm
          have hxs := hL.sym x hxm
          obtain ⟨⟨name, label, attrs, key, text, nodes⟩, ao, ac, no, nc⟩ := x
          simp only at x0 x1 x2 x3 x4 x5 hwa hwn hkf hks hkl hxn hxs hkn
          have hb2 : Below wo.heap.size wo (wo.alloc (.cells #[.string ⟨name.toArray⟩, .string ⟨label.toArray⟩, .slice ao attrs.length ac, .string ⟨key.toArray⟩, .bool text, .slice no nodes.length nc] 47)) := (Below.refl _ wo).alloc (Nat.le_refl _) _
          have hlt3 : wo.heap.size < (wo.alloc (.cells #[.string ⟨name.toArray⟩, .string ⟨label.toArray⟩, .slice ao attrs.length ac, .string ⟨key.toArray⟩, .bool text, .slice no nodes.length nc] 47)).heap.size := by simp
          have rc := row_cells_new wo [.string ⟨name.toArray⟩, .string ⟨label.toArray⟩, .slice ao attrs.length ac, .string ⟨key.toArray⟩, .bool text, .slice no nodes.length nc] 47 _ rfl
          obtain ⟨wb, hwb⟩ : ∃ wb, wb = wo.alloc (.cells #[.string ⟨name.toArray⟩, .string ⟨label.toArray⟩, .slice ao attrs.length ac, .string ⟨key.toArray⟩, .bool text, .slice no nodes.length nc] 47) := ⟨_, rfl⟩
          have hb2' := bel_next hbr hb2
          have cs2 := HS.out _ hb2'
          have hfw := Hfi.out name _ hb2' hxn
          rw [hkf] at hfw
          have hy0 : ∀ w', Below (wo.alloc (.cells #[.string ⟨name.toArray⟩, .string ⟨label.toArray⟩, .slice ao attrs.length ac, .string ⟨key.toArray⟩, .bool text, .slice no nodes.length nc] 47)).heap.size (wo.alloc (.cells #[.string ⟨name.toArray⟩, .string ⟨label.toArray⟩, .slice ao attrs.length ac, .string ⟨key.toArray⟩, .bool text, .slice no nodes.length nc] 47)) w' → w'.cell? ⟨wo.heap.size, 0, none⟩ = some (.string ⟨name.toArray⟩) := fun w' hb => (hb.cell (p := ⟨wo.heap.size, 0, none⟩) hlt3).trans (rc 0 _ rfl)
          have hy5 : ∀ w', Below (wo.alloc (.cells #[.string ⟨name.toArray⟩, .string ⟨label.toArray⟩, .slice ao attrs.length ac, .string ⟨key.toArray⟩, .bool text, .slice no nodes.length nc] 47)).heap.size (wo.alloc (.cells #[.string ⟨name.toArray⟩, .string ⟨label.toArray⟩, .slice ao attrs.length ac, .string ⟨key.toArray⟩, .bool text, .slice no nodes.length nc] 47)) w' → w'.cell? ⟨wo.heap.size, 5, none⟩ = some (.slice no nodes.length nc) := fun w' hb => (hb.cell (p := ⟨wo.heap.size, 5, none⟩) hlt3).trans (rc 5 _ rfl)
          have hwn2 := hwn.below hb2
          have Hks := Lib.hid hks
          have Hkl := Lib.hid hkl
          have hnn : ((k : Int) != (k : Int)) = false := by simp
          clear hks hkl rc hlt3 hkf hx hxm htx hwa hwn
          go_wp2_with fail
          rw [← hwb] at hb2 hb2' cs2 hfw hy0 hy5 hwn2 ⊢
          have Hy0 := Lib.hid hy0
          clear hwb hy0
          refine hfw.mono ?_
          rintro e w4 ⟨rfl, hb4⟩
          have hb4' := bel_next hb2' hb4
          have y5 := hy5 _ hb4
          have hsy := symbols_any nodes no nc w4 (hwn2.below hb4) hxs
          clear hy5 hfw x0 x1 x2 x3 x4 x5 cs cs2
          go_wp2_with fail
          refine hsy.mono ?_
          rintro e w5 ⟨⟨v, rfl, hown⟩, hb5⟩
          clear hsy
          have hb5' := bel_next hb4' hb5
          obtain ⟨so, sc, rfl⟩ := ownsRow_shape hown
          have hws : WordsIn w5 so sc (symsS nodes) := rowAt_of hown
          have Hb45 := Lib.hid (bel_next hb4 hb5)
          clear hown hwn2 y5 hb4 hb5 hb4' hnn hb2
          have hks := Hks.out
          have hkl := Hkl.out
          clear Hks Hkl
          generalize symsS nodes = syms at hws hks hkn ⊢
          generalize hgk : kidsS (l.map TyV.t) ⟨name, label, attrs, key, text, nodes⟩ = ks at hks hkl hkn
          clear hgk
          have Hks := Lib.hid hks
          have Hkl := Lib.hid hkl
          have Hkn := Lib.hid hkn
          have hsl := hws.2.1
          have hsc := hws.2.2.1
          unfold maxLen at hsc
          clear hks hkl hkn hxs
          go_wp2_with fail
          go_loopw [10, 11] (fun v10 v11 wq => ∃ j : Nat, v11 = .int .i64 j ∧ v10 = .bool ((ks.take j).any (fun i => labelAt (l.map TyV.t) i == lb)) ∧ j ≤ syms.length ∧ Below w5.heap.size w5 wq) (fun v10 v11 _ => syms.length - (intOf v11).toNat)
          case atStart => exact ⟨0, rfl, rfl, Nat.zero_le _, Below.refl _ _⟩
          case round =>
            obtain ⟨j, rfl, rfl, hj, hbq⟩ := hrel
            have hbq' := bel_next hb5' hbq
            have cs := HS.out _ hbq'
            by_cases hjt : j < syms.length
            · have hdj : decide ((j : Int) < (syms.length : Int)) = true := by rw [decide_eq_true_eq]; omega
              have hji : (j : Int) < (syms.length : Int) := by omega
              have hj0 : (0 : Int) ≤ (j : Int) := by omega
              obtain ⟨n, hn⟩ : ∃ n, syms[j]? = some n := ⟨_, List.getElem?_eq_getElem hjt⟩
              obtain ⟨g, off2, rfl, hgl, z0⟩ := hws.at hn
              obtain ⟨c, u, hu, hun, hfn, hcn, hkc⟩ := Hks.out j n hn
              obtain ⟨y, hy, hyu⟩ : ∃ y, l[c]? = some y ∧ y.t = u := by
                rw [List.getElem?_map] at hu
                cases e : l[c]? with
                | none => rw [e] at hu; cases hu
                | some y => rw [e] at hu; exact ⟨y, rfl, by simpa using hu⟩
              subst hyu
              subst hun
              have hyl := hL.name y (List.mem_of_getElem? hy)
              have hcl := (List.getElem?_eq_some_iff.1 hy).1
              have hF := fun w' (hb : Below w1.heap.size w1 w') => Hfi.out y.t.name w' hb hyl
              have hC := fun w' (hb : Below w1.heap.size w1 w') => Hcj.out name y.t.label w' hb hxn
              rw [hfn] at hF
              rw [hcn] at hC
              have hX : ∀ w', Below w5.heap.size w5 w' → w'.cell? ⟨w.heap.size, 0, none⟩ = some (.slice (some ⟨b, off, none⟩) l.length cap) ∧ w'.cell? ⟨g, off2 + j, none⟩ = some (.string ⟨y.t.name.toArray⟩) := fun w' hb => ⟨HS.out _ (bel_next hb5' hb), (hb.cell (p := ⟨g, off2 + j, none⟩) hgl).trans z0⟩
              have HX := Lib.hid hX
              have HF := Lib.hid hF
              have HC := Lib.hid hC
              have c0' := (HX.out _ hbq).2
              have hlabc : ∀ w', Below w1.heap.size w1 w' → w'.cell? ⟨b, off + c * 6 + 1, none⟩ = some (.string ⟨y.t.label.toArray⟩) := fun w' hb => by
                obtain ⟨b', off', e, _, _, x1, _⟩ := (h1.below hb).at hy
                injection e with e
                injection e with e1 e2
                subst e1; subst e2; exact x1
              have Hlab := Lib.hid hlabc
              have hany : (ks.take (j + 1)).any (fun i => labelAt (l.map TyV.t) i == lb) = ((ks.take j).any (fun i => labelAt (l.map TyV.t) i == lb) || (y.t.label == lb)) := by
                rw [List.take_add_one, hkc, List.any_append, Option.toList_some, List.any_cons, List.any_nil, Bool.or_false, labelAt_eq hu]
              have Hany := Lib.hid hany
              clear hlabc hany
              clear hX hF hC hfn hcn
              go_wp2_with fail
              have hbd := hbq.drew
              go_region_held3 (fun w' => Below w5.heap.size w5 w' ∧ w'.cell? ⟨w.heap.size, 0, none⟩ = some (.slice (some ⟨b, off, none⟩) l.length cap) ∧ w'.cell? ⟨g, off2 + j, none⟩ = some (.string ⟨y.t.name.toArray⟩)) (first | exact ⟨by assumption, HX.out _ (by assumption)⟩)
                (first
                  | (go_at_call 10; refine (HF.out _ (bel_next hb5' (by assumption))).mono ?_; rintro e w'' ⟨rfl, hbn⟩; have hbw := bel_next (w0 := w5) (by assumption) hbn))
              go_wp2_with fail
              have hb7' := bel_next hb5' hbw
              have cs7 := HS.out _ hb7'
              have z7 := (HX.out _ hbw).2
              obtain ⟨b', off', e, hbl', x0, x1, x2, x3, x4, x5⟩ := (h1.below hb7').at hy
              injection e with e
              injection e with e1 e2
              subst e1; subst e2
              have hci0 : (0 : Int) ≤ (c : Int) := by omega
              have hci1 : (c : Int) < (l.length : Int) := by omega
              have hlt0 : decide ((c : Int) < 0) = false := by rw [decide_eq_false_iff_not]; omega
              have hge : decide ((c : Int) ≥ (l.length : Int)) = false := by rw [decide_eq_false_iff_not]; omega
              clear x2 x3 x4 x5 HF hbd
              go_quiet (fail)
              go_wp2_with fail
              have hq1 : Below w5.heap.size w5 ((w''.drewN nq).drew) := (below_drewN hbw nq).drew
              have hq2 : Below w5.heap.size w5 (w''.drewN (nq + 1)) := below_drewN hbw _
              have hX2 : ∀ w', Below w5.heap.size w5 w' → w'.cell? ⟨w.heap.size, 0, none⟩ = some (.slice (some ⟨b, off, none⟩) l.length cap) ∧ w'.cell? ⟨wo.heap.size, 0, none⟩ = some (.string ⟨name.toArray⟩) ∧ w'.cell? ⟨b, off + c * 6 + 1, none⟩ = some (.string ⟨y.t.label.toArray⟩) := fun w' hb => ⟨HS.out _ (bel_next hb5' hb), Hy0.out _ (bel_next Hb45.out hb), Hlab.out _ (bel_next hb5' hb)⟩
              have HX2 := Lib.hid hX2
              clear hX2 x0 x1 cs7 z7 HX
              go_region_held3 (fun w' => Below w5.heap.size w5 w' ∧ w'.cell? ⟨w.heap.size, 0, none⟩ = some (.slice (some ⟨b, off, none⟩) l.length cap) ∧ w'.cell? ⟨wo.heap.size, 0, none⟩ = some (.string ⟨name.toArray⟩) ∧ w'.cell? ⟨b, off + c * 6 + 1, none⟩ = some (.string ⟨y.t.label.toArray⟩)) (first | exact ⟨by assumption, HX2.out _ (by assumption)⟩)
                (first
                  | (go_at_call 11; refine (HC.out _ (bel_next hb5' (by assumption))).mono ?_; rintro e wz ⟨rfl, hbn⟩; have hbz := bel_next (w0 := w5) (by assumption) hbn))
              have hbz' := bel_next hb5' hbz
              have csz := HS.out _ hbz'
              have lz := Hlab.out _ hbz'
              clear HX2 HC
              cases hisj : (ks.take j).any (fun i => labelAt (l.map TyV.t) i == lb) with
              | true =>
                have Hst : Hid ((ks.take (j + 1)).any (fun i => labelAt (l.map TyV.t) i == lb) = true) := by show _ = _; rw [Hany.out, hisj]; rfl
                clear hisj
                go_wp2_with fail
                go_roundw
                case rel => exact ⟨j + 1, by go_num, by rw [Hst.out], by omega, hbz⟩
                case measure => simp [intOf]; omega
              | false =>
                have Hst : Hid ((ks.take (j + 1)).any (fun i => labelAt (l.map TyV.t) i == lb) = (y.t.label == lb)) := by show _ = _; rw [Hany.out, hisj, Bool.false_or]
                clear hisj
                go_wp2_with fail
                go_roundw
                case rel => exact ⟨j + 1, by go_num, by rw [Hst.out], by omega, hbz⟩
                case measure => simp [intOf]; omega
            · have hdj : decide ((j : Int) < (syms.length : Int)) = false := by rw [decide_eq_false_iff_not]; omega
              have y0 := Hy0.out _ (bel_next Hb45.out hbq)
              rw [List.take_of_length_le (by have := Hkn.out; omega)]
              have hC := Hci.out name _ hbq' hxn
              rcases Hkl.out with ⟨c, u, hu, hul, hcn, hany⟩ | ⟨hcn, hany⟩
              · rw [hcn] at hC
                rw [hany]
                obtain ⟨y, hy, hyu⟩ : ∃ y, l[c]? = some y ∧ y.t = u := by
                  rw [List.getElem?_map] at hu
                  cases e : l[c]? with
                  | none => rw [e] at hu; cases hu
                  | some y => rw [e] at hu; exact ⟨y, rfl, by simpa using hu⟩
                subst hyu
                have hcl := (List.getElem?_eq_some_iff.1 hy).1
                have hci0 : (0 : Int) ≤ (c : Int) := by omega
                have hci1 : (c : Int) < (l.length : Int) := by omega
                go_wp2_with fail
                refine hC.mono ?_
                rintro e w6 ⟨rfl, hb6⟩
                have hb6' := bel_next hbq' hb6
                have cs6 := HS.out _ hb6'
                obtain ⟨b', off', e, hbl', x0, x1, x2, x3, x4, x5⟩ := (h1.below hb6').at hy
                injection e with e
                injection e with e1 e2
                subst e1; subst e2
                rw [hul] at x1
                clear x0 x2 x3 x4 x5 cs y0
                go_wp2_with fail
                go_roundw
                case rel => exact ⟨k + 1, by go_num, by omega, hb6'⟩
                case measure => simp [intOf]; omega
              · rw [hcn] at hC
                rw [hany]
                go_wp2_with fail
                refine hC.mono ?_
                rintro e w6 ⟨rfl, hb6⟩
                have hb6' := bel_next hbq' hb6
                go_wp2_with fail
                go_roundw
                case rel => exact ⟨k + 1, by go_num, by omega, hb6'⟩
                case measure => simp [intOf]; omega
        · have hdk : decide ((k : Int) < (l.length : Int)) = false := by rw [decide_eq_false_iff_not]; omega
          go_wp2_with fail
          refine (haw _).mono ?_
          rintro e w4 ⟨rfl, hb4⟩
          go_wp2_with fail
          go_ret
          exact ⟨rfl, bel_next hbw hb4⟩
    · have hd : decide ((lb.length : Int) > 80) = true := by rw [decide_eq_true_eq]; omega
      clear hch
      go_wp2_with fail
      refine (haw _).mono ?_
      rintro e w4 ⟨rfl, hb4⟩
      go_wp2_with fail
      go_ret
      exact ⟨rfl, bel_next hbw hb4⟩
  · go_wp2_with fail
    refine (haw _).mono ?_
    rintro e w4 ⟨rfl, hb4⟩
    go_wp2_with fail
    go_ret
    exact ⟨rfl, bel_next hbw hb4⟩
end Go.Proofs.YtnnbdlmilbcpjaaGreatDoor
