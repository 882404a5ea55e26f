/-
  The plain law of TokenReads: the document's answer (layer 3), on lists of bytes, and that it is the program's: of a text of characters. No program in sight.
-/
import Derived.Test.YtkehbepopegboaaGreatDoorPartsPlain
namespace Go.Proofs.YtkehbepopegboaaGreatDoor
set_option linter.unusedVariables false
/-! ### texts of characters, and where they may be cut -/
def okT (l : Bytes) : Prop := chk l = l.length
theorem dec_of_append {l y : Bytes} {r : Int} {k : Nat} (h : dec (l ++ y) = some (r, k)) (hk : k ≤ l.length) : dec l = some (r, k) := by
  cases l with
  | nil => have := dec_len h; simp at hk; omega
  | cons c t =>
    rw [List.cons_append] at h
    simp only [dec] at h ⊢
    have hb := begN_le (c.toNat : Nat)
    have hk' : k = (begN (c.toNat : Nat)).toNat := by
      split at h
      · cases h
      split at h
      · cases h
      split at h
      · simp only [Option.some.injEq, Prod.mk.injEq] at h; exact h.2.symm
      · cases h
    split at h
    · cases h
    rename_i hn
    simp only [List.length_cons] at hk
    have hkt : (begN (c.toNat : Nat)).toNat - 1 ≤ t.length := by omega
    simp only [take_app y hkt] at h
    have hlt : ¬ (begN (c.toNat : Nat) = 0 ∨ (t.length : Int) + 1 < begN (c.toNat : Nat)) := by omega
    rw [if_neg hlt]
    exact h
theorem dec_cont {l : Bytes} {r : Int} {k : Nat} (h : dec l = some (r, k)) {i : Nat} (h1 : 1 ≤ i) (h2 : i < k) : ∃ c, l[i]? = some c ∧ isCont c = true := by
  have hl := dec_len h
  cases l with
  | nil => simp at hl; omega
  | cons c t =>
    simp only [dec] at h
    have hb := begN_le (c.toNat : Nat)
    split at h
    · cases h
    split at h
    · cases h
    rename_i s hs
    split at h
    · simp only [Option.some.injEq, Prod.mk.injEq] at h
      have hca := contR_all hs
      obtain ⟨j, rfl⟩ : ∃ j, i = j + 1 := ⟨i - 1, by omega⟩
      have hj : j < t.length := by have := hl.2.2; simp at this; omega
      refine ⟨t[j], by simp [hj], hca _ ?_⟩
      refine List.mem_of_getElem? (i := j) ?_
      rw [List.getElem?_take_of_lt (by omega)]
      exact List.getElem?_eq_getElem hj
    · cases h
theorem cont_not {c : UInt8} (h : c.toNat < 128) : isCont c = false := by
  unfold isCont; simp; omega
theorem okT_nil : okT [] := rfl
theorem okT_dec {c : UInt8} {t : Bytes} (h : okT (c :: t)) : ∃ r k, dec (c :: t) = some (r, k) ∧ okT ((c :: t).drop k) := by
  cases hd : dec (c :: t) with
  | none => unfold okT at h; rw [chk_none hd] at h; simp at h
  | some z => obtain ⟨r, k⟩ := z; exact ⟨r, k, rfl, (valid_cons hd).1 h⟩
theorem okT_split (n : Nat) : ∀ {a y : Bytes} {c : UInt8}, a.length ≤ n → c.toNat < 128 → okT (a ++ c :: y) → okT a ∧ okT (c :: y) := by
  induction n with
  | zero => intro a y c ha hc h; obtain rfl : a = [] := List.length_eq_zero_iff.1 (by omega); exact ⟨okT_nil, h⟩
  | succ n ih =>
    intro a y c ha hc h
    cases a with
    | nil => exact ⟨okT_nil, h⟩
    | cons d t =>
      obtain ⟨r, k, hd, h2⟩ := okT_dec (c := d) (t := t ++ c :: y) h
      have hl := dec_len hd
      have hk : k ≤ (d :: t).length := by
        rcases Nat.lt_or_ge (d :: t).length k with h' | h'
        · exfalso
          obtain ⟨e, he, hcc⟩ := dec_cont hd (i := (d :: t).length) (by simp) h'
          rw [← List.cons_append, List.getElem?_append_right (Nat.le_refl _), Nat.sub_self] at he
          simp at he
          subst he
          rw [cont_not hc] at hcc
          cases hcc
        · exact h'
      have hda : dec (d :: t) = some (r, k) := dec_of_append (y := c :: y) hd hk
      rw [← List.cons_append, drop_app _ hk] at h2
      obtain ⟨i1, i2⟩ := ih (by rw [List.length_drop]; simp at ha ⊢; omega) hc h2
      exact ⟨(valid_cons hda).2 i1, i2⟩
theorem dec_one {c : UInt8} {t : Bytes} {r : Int} {k : Nat} (hc : c.toNat < 128) (h : dec (c :: t) = some (r, k)) : k = 1 := by
  have hb : begN (c.toNat : Nat) = 1 := by unfold begN; rw [if_pos (by omega)]
  simp only [dec] at h
  split at h
  · cases h
  split at h
  · cases h
  split at h
  · simp only [Option.some.injEq, Prod.mk.injEq] at h; omega
  · cases h
theorem okT_tail {c : UInt8} {t : Bytes} (hc : c.toNat < 128) (h : okT (c :: t)) : okT t := by
  obtain ⟨r, k, hd, h2⟩ := okT_dec h
  rw [dec_one hc hd] at h2
  exact h2
theorem split_at {l : Bytes} {i : Nat} {c : UInt8} (h : l[i]? = some c) : l = l.take i ++ c :: l.drop (i + 1) := by
  have hi := (List.getElem?_eq_some_iff.1 h).1
  conv => lhs; rw [← List.take_append_drop i l]
  congr 1
  rw [List.drop_eq_getElem_cons hi]
  congr 1
  exact (List.getElem?_eq_some_iff.1 h).2
theorem okT_cut {l : Bytes} {i : Nat} {c : UInt8} (hl : okT l) (h : l[i]? = some c) (hc : c.toNat < 128) : okT (l.take i) ∧ okT (l.drop i) ∧ okT (l.drop (i + 1)) := by
  have hs := split_at h
  have hi := (List.getElem?_eq_some_iff.1 h).1
  rw [hs] at hl
  obtain ⟨h1, h2⟩ := okT_split _ (Nat.le_refl _) hc hl
  refine ⟨h1, ?_, okT_tail hc h2⟩
  rw [List.drop_eq_getElem_cons hi, (List.getElem?_eq_some_iff.1 h).2]
  exact h2
theorem okT_while {p : UInt8 → Bool} (hp : ∀ c, p c = true → c.toNat < 128) (l : Bytes) (h : okT l) : okT (l.drop (l.takeWhile p).length) := by
  induction l with
  | nil => exact h
  | cons c t ih =>
    by_cases hc : p c = true
    · rw [List.takeWhile_cons_of_pos hc, List.length_cons, List.drop_succ_cons]
      exact ih (okT_tail (hp c hc) h)
    · rw [List.takeWhile_cons_of_neg hc]; exact h
theorem okT_blanks {l : Bytes} (h : okT l) : okT (l.drop (blanksN l)) :=
  okT_while (fun c hc => by unfold blankB at hc; simp at hc; omega) l h
theorem part_lt {c : UInt8} (h : partB (c.toNat : Nat) = true) : c.toNat < 128 := by
  unfold partB letterB decB at h; simp at h; omega
theorem okT_part {l : Bytes} (h : okT l) : okT (l.drop (partN l)) := okT_while (fun c hc => part_lt hc) l h
theorem lines_split : ∀ (m : Nat) (t : Bytes), (∀ x ∈ t.take m, x ≠ 13) → lines t = t.take m ++ lines (t.drop m)
  | 0, t, _ => by simp
  | m + 1, [], _ => by simp [lines]
  | m + 1, c :: t, hx => by
    have hc : c ≠ 13 := hx c (by simp)
    have := lines_split m t fun x hx' => hx x (by simp [hx'])
    rw [lines_cons _ hc]
    simp only [List.take_succ_cons, List.drop_succ_cons, List.cons_append]
    rw [← this]
theorem dec_10 (s : Bytes) : dec (10 :: s) = some (10, 1) := by simp [dec, begN, begR, contR, uSize, isCh, inSpan, los, his]; omega
theorem okT_lines (n : Nat) : ∀ l : Bytes, l.length ≤ n → okT l → okT (lines l) := by
  induction n with
  | zero => intro l hl _; obtain rfl : l = [] := List.length_eq_zero_iff.1 (by omega); exact okT_nil
  | succ n ih =>
    intro l hl h
    cases l with
    | nil => exact okT_nil
    | cons c t =>
      simp at hl
      by_cases hc : c = 13
      · subst hc
        have ht := ih t hl (okT_tail (by decide) h)
        cases t with
        | nil => exact (valid_cons (dec_10 [])).2 okT_nil
        | cons d r =>
          by_cases hd : d = 10
          · subst hd
            rw [lines_cr_lf, ← lines_cons r (by decide)]
            exact ht
          · rw [lines_cr _ (by simpa using hd)]
            exact (valid_cons (dec_10 _)).2 ht
      · obtain ⟨r, k, hd, h2⟩ := okT_dec h
        have hlen := dec_len hd
        obtain ⟨j, rfl⟩ : ∃ j, k = j + 1 := ⟨k - 1, by omega⟩
        have hne : ∀ x ∈ t.take j, x ≠ 13 := by
          intro x hx
          obtain ⟨i, hi⟩ := List.getElem?_of_mem hx
          have hi2 := (List.getElem?_eq_some_iff.1 hi).1
          rw [List.length_take] at hi2
          rw [List.getElem?_take_of_lt (by omega)] at hi
          obtain ⟨e, he, hcc⟩ := dec_cont hd (i := i + 1) (by omega) (by omega)
          rw [List.getElem?_cons_succ, hi] at he
          cases he
          exact (cont_ne hcc).2
        have hsp := lines_split j t hne
        have hl2 := hlen.2.2
        simp only [List.length_cons] at hl2
        have hdt : dec ((c :: t).take (j + 1)) = some (r, j + 1) := by
          refine dec_of_append (y := (c :: t).drop (j + 1)) ?_ (by rw [List.length_take]; simp only [List.length_cons]; omega)
          rw [List.take_append_drop]; exact hd
        rw [lines_cons _ hc, hsp]
        have hda := dec_append (lines (t.drop j)) hdt
        rw [List.take_succ_cons, List.cons_append] at hda
        refine (valid_cons hda).2 ?_
        rw [List.drop_succ_cons] at h2 ⊢
        rw [List.drop_append_of_le_length (by rw [List.length_take]; omega), List.drop_of_length_le (by rw [List.length_take]; omega), List.nil_append]
        exact ih _ (by rw [List.length_drop]; omega) h2
theorem contR_spaces (r : Int) (l : Bytes) : contR r (spaces l) = contR r l := by
  induction l generalizing r with
  | nil => rfl
  | cons c t ih =>
    have e : spaces (c :: t) = (if c = 9 ∨ c = 10 then 32 else c) :: spaces t := rfl
    rw [e]
    by_cases hc : c = 9 ∨ c = 10
    · rw [if_pos hc]
      have h1 : isCont 32 = false := by decide
      have h2 : isCont c = false := by rcases hc with rfl | rfl <;> decide
      simp [contR, h1, h2]
    · rw [if_neg hc]
      simp only [contR, ih]
theorem spaces_length (l : Bytes) : (spaces l).length = l.length := by unfold spaces; rw [List.length_map]
theorem spaces_take (l : Bytes) (n : Nat) : (spaces l).take n = spaces (l.take n) := by unfold spaces; rw [List.map_take]
theorem spaces_drop (l : Bytes) (n : Nat) : (spaces l).drop n = spaces (l.drop n) := by unfold spaces; rw [List.map_drop]
theorem dec_32 (s : Bytes) : dec (32 :: s) = some (32, 1) := by simp [dec, begN, begR, contR, uSize, isCh, inSpan, los, his]; omega
theorem okT_spaces (n : Nat) : ∀ l : Bytes, l.length ≤ n → okT l → okT (spaces l) := by
  induction n with
  | zero => intro l hl _; obtain rfl : l = [] := List.length_eq_zero_iff.1 (by omega); exact okT_nil
  | succ n ih =>
    intro l hl h
    cases l with
    | nil => exact okT_nil
    | cons c t =>
      simp at hl
      have e : spaces (c :: t) = (if c = 9 ∨ c = 10 then 32 else c) :: spaces t := rfl
      by_cases hc : c = 9 ∨ c = 10
      · have ht := ih t hl (okT_tail (by rcases hc with rfl | rfl <;> decide) h)
        rw [e, if_pos hc]
        exact (valid_cons (dec_32 _)).2 ht
      · obtain ⟨r, k, hd, h2⟩ := okT_dec h
        have hlen := dec_len hd
        have hd2 : dec (spaces (c :: t)) = some (r, k) := by
          rw [e, if_neg hc]
          simp only [dec] at hd ⊢
          rw [spaces_length, spaces_take, contR_spaces]
          exact hd
        refine (valid_cons hd2).2 ?_
        rw [spaces_drop]
        exact ih _ (by rw [List.length_drop]; simp; omega) h2
/-! ### what is unescaped -/
theorem unescape_ok {l : Bytes} (h : okT l) : unescape l = unescF l.length [] l := by
  unfold unescape
  unfold okT at h
  rw [if_neg (by omega)]
theorem named_lt {l : Bytes} {r : Int} (h : named l = some r) : (60 : UInt8) ∉ l := by
  unfold named at h
  have hnumb : ∀ {k : Int → Bool} {base : Int} {m : Bytes} {r : Int}, (k = decB ∨ k = hexB) → numb k base m = some r → (60 : UInt8) ∉ m := by
    intro k base m r hk hn hm
    unfold numb at hn
    split at hn
    · rename_i h1
      have h2 := h1.2.2
      unfold allB at h2
      rw [List.all_eq_true] at h2
      have := h2 _ hm
      rcases hk with rfl | rfl <;> (revert this; decide)
    · cases hn
  split at h
  · rename_i h1; subst h1; decide
  split at h
  · rename_i h1; subst h1; decide
  split at h
  · rename_i h1; subst h1; decide
  split at h
  · rename_i h1; subst h1; decide
  split at h
  · rename_i h1; subst h1; decide
  split at h
  · rename_i h1
    unfold Lib.hasPrefix at h1
    rw [List.isPrefixOf_iff_prefix] at h1
    obtain ⟨m, rfl⟩ := h1
    have := hnumb (.inr rfl) h
    simpa using this
  split at h
  · rename_i h1
    unfold Lib.hasPrefix at h1
    rw [List.isPrefixOf_iff_prefix] at h1
    obtain ⟨m, rfl⟩ := h1
    have := hnumb (.inl rfl) h
    simpa using this
  · cases h
theorem refr_lt {l : Bytes} {r : Int} {k : Nat} (h0 : l.head? = some 38) (h : refr l = some (r, k)) : (60 : UInt8) ∉ l.take k := by
  unfold refr at h
  split at h
  · cases h
  rename_i hi
  cases hn : named ((l.drop 1).take ((Lib.indexByte l 59).toNat - 1)) with
  | none => rw [hn] at h; cases h
  | some x =>
    rw [hn] at h
    simp only [Option.map_some, Option.some.injEq, Prod.mk.injEq] at h
    obtain ⟨rfl, rfl⟩ := h
    have h1 := named_lt hn
    have h2 := Lib.indexByte_some (l := l) (c := 59) (o := (Lib.indexByte l 59).toNat) (by omega)
    generalize (Lib.indexByte l 59).toNat = i at h1 h2
    cases l with
    | nil => cases h0
    | cons c t =>
      simp at h0
      subst h0
      have hi0 : i ≠ 0 := by
        rintro rfl
        have := h2.1
        simp at this
      obtain ⟨j, rfl⟩ : ∃ j, i = j + 1 := ⟨i - 1, by omega⟩
      simp only [List.drop_succ_cons, List.drop_zero, Nat.add_sub_cancel] at h1
      intro hm
      rw [List.take_succ_cons, List.mem_cons] at hm
      rcases hm with hm | hm
      · revert hm; decide
      · rw [List.take_add_one, List.mem_append] at hm
        rcases hm with hm | hm
        · exact h1 hm
        · have h3 := h2.1
          rw [List.getElem?_cons_succ] at h3
          rw [h3] at hm
          revert hm; decide
theorem unescF_lt (f : Nat) : ∀ {acc l : Bytes}, l.length ≤ f → (60 : UInt8) ∈ l → (unescF f acc l).1 ≠ 0 := by
  induction f with
  | zero => intro acc l hl hm; obtain rfl : l = [] := List.length_eq_zero_iff.1 (by omega); cases hm
  | succ f ih =>
    intro acc l hl hm
    cases l with
    | nil => cases hm
    | cons c t =>
      rw [unescF_cons]
      simp only [List.length_cons] at hl
      by_cases h1 : c = 60
      · rw [if_pos h1]; simp
      rw [if_neg h1]
      by_cases h2 : c = 38
      · rw [if_pos h2]
        cases hr : refr (c :: t) with
        | none => simp
        | some z =>
          obtain ⟨r, k⟩ := z
          simp only
          have hlt := refr_lt (by rw [h2]; rfl) hr
          have hrg := refr_range hr
          refine ih (by rw [List.length_drop]; simp; omega) ?_
          have hm2 := hm
          rw [← List.take_append_drop k (c :: t), List.mem_append] at hm2
          rcases hm2 with hm2 | hm2
          · exact absurd hm2 hlt
          · exact hm2
      · rw [if_neg h2]
        refine ih (by omega) ?_
        rw [List.mem_cons] at hm
        rcases hm with hm | hm
        · exact absurd hm.symm h1
        · exact hm
theorem indexByte_mem {l : Bytes} {c : UInt8} : 0 ≤ Lib.indexByte l c ↔ c ∈ l := by
  induction l with
  | nil => simp [Lib.indexByte]
  | cons d t ih =>
    unfold Lib.indexByte
    by_cases hd : (d == c) = true
    · rw [if_pos hd]; simp at hd; simp [hd]
    · rw [if_neg hd]
      have hge := Lib.indexByte_ge t c
      have hdc : ¬ c = d := fun e => hd (by simp [e])
      rw [List.mem_cons]
      simp only [hdc, false_or]
      rw [← ih]
      by_cases h0 : Lib.indexByte t c = -1
      · simp [h0]
      · simp [h0]; omega
theorem mem_spaces {l : Bytes} : (60 : UInt8) ∈ spaces l ↔ (60 : UInt8) ∈ l := by
  unfold spaces
  rw [List.mem_map]
  constructor
  · rintro ⟨x, hx, he⟩
    split at he
    · exact absurd he (by decide)
    · rw [← he]; exact hx
  · intro h
    exact ⟨60, h, by decide⟩
/-! ### the document's answer: attributes and pieces -/
def valueR (l : Bytes) : Option (Bytes × Nat) :=
  match l with
  | [] => none
  | m :: t => if m = 34 ∨ m = 39 then
      let i := Lib.index t [m]
      if i < 0 then none else
      let raw := t.take i.toNat
      if (unescF raw.length [] (spaces raw)).1 = 0 then some ((unescF raw.length [] (spaces raw)).2, 1 + i.toNat + 1) else none
    else none
def attrR (l : Bytes) : Option ((Bytes × Bytes) × Nat) :=
  let n := partN l
  if isName (l.take n) = false then none else
  let a := n + blanksN (l.drop n)
  if Lib.hasPrefix (l.drop a) [61] = false then none else
  let b := a + 1 + blanksN (l.drop (a + 1))
  match valueR (l.drop b) with
  | none => none
  | some (v, k) => some ((l.take n, v), b + k)
def attrsR : Nat → List (Bytes × Bytes) → Bytes → Option (List (Bytes × Bytes) × Bool × Nat)
  | 0, _, _ => none
  | f + 1, acc, l =>
    let g := blanksN l
    if Lib.hasPrefix (l.drop g) [62] then some (acc, false, g + 1)
    else if Lib.hasPrefix (l.drop g) [47, 62] then some (acc, true, g + 2)
    else if g = 0 then none else
    match attrR (l.drop g) with
    | none => none
    | some (x, k) => if acc.any (fun y => y.1 == x.1) then none else
      match attrsR f (acc ++ [x]) (l.drop (g + k)) with
      | none => none
      | some (r, e, q) => some (r, e, g + k + q)
def beginR (l : Bytes) : Option (Tok × Nat) :=
  let n := partN (l.drop 1)
  if isName ((l.drop 1).take n) = false then none else
  match attrsR (l.length + 1) [] (l.drop (1 + n)) with
  | none => none
  | some (r, e, q) => some ({ kind := 2, name := (l.drop 1).take n, attrs := r, empty := e }, 1 + n + q)
def wordsR (l : Bytes) : Option (Tok × Nat) :=
  let i := Lib.indexByte l 60
  let raw := if i < 0 then l else l.take i.toNat
  if (unescF raw.length [] raw).1 ≠ 0 ∨ Lib.contains raw [93, 93, 62] = true then none else some ({ kind := 4, text := (unescF raw.length [] raw).2 }, raw.length)
def pieceR (first : Bool) (l : Bytes) : Option (Tok × Nat) :=
  if first = true ∧ Lib.hasPrefix l [60, 63, 120, 109, 108] = true then declP true l
  else if Lib.hasPrefix l [60, 33, 45, 45] then commentP l
  else if Lib.hasPrefix l [60, 33, 91, 67, 68, 65, 84, 65, 91] then dataP l
  else if Lib.hasPrefix l [60, 47] then endP l
  else if Lib.hasPrefix l [60] then beginR l
  else wordsR l
def allR : Nat → Bool → Nat → List Tok → Bytes → Sum Nat (List Tok)
  | 0, _, _, acc, _ => .inr acc
  | f + 1, first, p, acc, l =>
    if l = [] then .inr acc else
    match pieceR first l with
    | none => .inl p
    | some (t, k) => allR f false (p + k) (acc ++ [t]) (l.drop k)
/-! ### it is the program's -/
theorem index_at {l m : Bytes} {i : Nat} (h : Lib.index l m = i) : Lib.hasPrefix (l.drop i) m = true := by
  rcases Lib.index_spec l m with ⟨e, _⟩ | ⟨j, e, _, ho, _⟩
  · omega
  · obtain rfl : j = i := by omega
    exact ho
theorem quote_value {l : Bytes} (h : okT l) : (match (if Lib.hasPrefix l [34] then some (34 : UInt8) else if Lib.hasPrefix l [39] then some 39 else none) with
  | none => (none : Option (Bytes × Nat))
  | some m =>
    let i := Lib.index (l.drop 1) [m]
    if i < 0 then none else
    let raw := (l.drop 1).take i.toNat
    if 0 ≤ Lib.indexByte raw 60 then none else
    if (unescape (spaces raw)).1 = 0 then some ((unescape (spaces raw)).2, 1 + i.toNat + 1) else none) = valueR l := by
  cases l with
  | nil => rfl
  | cons m t =>
    have hp : ∀ c : UInt8, Lib.hasPrefix (m :: t) [c] = decide (m = c) := by
      intro c; unfold Lib.hasPrefix; simp only [List.isPrefixOf, Bool.and_true]
      by_cases hc : c = m
      · subst hc; simp
      · rw [decide_eq_false (fun e => hc e.symm)]; simpa using hc
    rw [hp, hp]
    unfold valueR
    have main : m.toNat < 128 → (let i := Lib.index t [m]
        if i < 0 then none else
        let raw := t.take i.toNat
        if 0 ≤ Lib.indexByte raw 60 then none else
        if (unescape (spaces raw)).1 = 0 then some ((unescape (spaces raw)).2, 1 + i.toNat + 1) else none) = (let i := Lib.index t [m]
        if i < 0 then none else
        let raw := t.take i.toNat
        if (unescF raw.length [] (spaces raw)).1 = 0 then some ((unescF raw.length [] (spaces raw)).2, 1 + i.toNat + 1) else none) := by
      intro hm
      simp only
      by_cases hi : Lib.index t [m] < 0
      · rw [if_pos hi, if_pos hi]
      rw [if_neg hi, if_neg hi]
      have hat := index_at (l := t) (m := [m]) (i := (Lib.index t [m]).toNat) (by omega)
      have hg : t[(Lib.index t [m]).toNat]? = some m := by have := prefix_drop_get (i := 0) (c := m) hat rfl; simpa using this
      have hraw := (okT_cut (okT_tail hm h) hg hm).1
      generalize t.take (Lib.index t [m]).toNat = raw at hraw
      have hsp := okT_spaces _ raw (Nat.le_refl _) hraw
      by_cases hlt : 0 ≤ Lib.indexByte raw 60
      · have hne := unescF_lt raw.length (acc := []) (l := spaces raw) (by rw [spaces_length]; exact Nat.le_refl _) (mem_spaces.2 (indexByte_mem.1 hlt))
        rw [if_pos hlt, if_neg hne]
      · rw [if_neg hlt, unescape_ok hsp, spaces_length]
    by_cases h34 : m = 34
    · have := main (by rw [h34]; decide)
      simp only [List.drop_succ_cons, List.drop_zero]
      subst h34
      simpa using this
    by_cases h39 : m = 39
    · have := main (by rw [h39]; decide)
      simp only [List.drop_succ_cons, List.drop_zero]
      subst h39
      simpa using this
    · simp [h34, h39]
theorem attrR_eq {l : Bytes} (h : okT l) : attrR l = attrP l := by
  unfold attrR attrP
  simp only
  by_cases h1 : isName (l.take (partN l)) = false
  · rw [if_pos h1, if_pos h1]
  rw [if_neg h1, if_neg h1]
  have v1 := okT_blanks (okT_part h)
  rw [List.drop_drop] at v1
  generalize partN l + blanksN (l.drop (partN l)) = a at v1
  by_cases h2 : Lib.hasPrefix (l.drop a) [61] = false
  · rw [if_pos h2, if_pos h2]
  rw [if_neg h2, if_neg h2]
  have hg : l[a]? = some 61 := by have := prefix_drop_get (i := 0) (c := 61) (by simpa using h2) rfl; simpa using this
  have v2 := okT_blanks (okT_cut h hg (by decide)).2.2
  rw [List.drop_drop] at v2
  generalize a + 1 + blanksN (l.drop (a + 1)) = b at v2
  rw [← quote_value v2]
  cases hq : (if Lib.hasPrefix (l.drop b) [34] then some (34 : UInt8) else if Lib.hasPrefix (l.drop b) [39] then some 39 else none) with
  | none => rfl
  | some m =>
    simp only [List.drop_drop]
    by_cases h3 : Lib.index (l.drop (b + 1)) [m] < 0
    · rw [if_pos h3, if_pos h3]
    rw [if_neg h3, if_neg h3]
    generalize (l.drop (b + 1)).take (Lib.index (l.drop (b + 1)) [m]).toNat = raw
    by_cases h4 : 0 ≤ Lib.indexByte raw 60
    · rw [if_pos h4, if_pos h4]
    rw [if_neg h4, if_neg h4]
    by_cases h5 : (unescape (spaces raw)).1 = 0
    · rw [if_pos h5, if_pos h5]
      simp only [Option.some.injEq, Prod.mk.injEq, true_and]
      omega
    · rw [if_neg h5, if_neg h5]
theorem attrP_end {l : Bytes} {x : Bytes × Bytes} {k : Nat} (h : attrP l = some (x, k)) : ∃ j c, k = j + 1 ∧ l[j]? = some c ∧ c.toNat < 128 := by
  unfold attrP at h
  simp only at h
  split at h
  · cases h
  split at h
  · cases h
  split at h
  · cases h
  rename_i m hm
  split at h
  · cases h
  rename_i hi
  split at h
  · cases h
  split at h
  · simp only [Option.some.injEq, Prod.mk.injEq] at h
    generalize partN l + blanksN (l.drop (partN l)) + 1 + blanksN (l.drop (partN l + blanksN (l.drop (partN l)) + 1)) = b at *
    have hat := index_at (l := l.drop (b + 1)) (m := [m]) (i := (Lib.index (l.drop (b + 1)) [m]).toNat) (by omega)
    have hg := prefix_drop_get (i := 0) (c := m) hat rfl
    rw [List.getElem?_drop] at hg
    refine ⟨_, m, h.2.symm, ?_, ?_⟩
    · rw [← hg]; congr 1
    · split at hm
      · cases hm; decide
      split at hm
      · cases hm; decide
      · cases hm
  · cases h
theorem attrsR_eq (f : Nat) : ∀ {acc : List (Bytes × Bytes)} {l : Bytes}, okT l → attrsR f acc l = attrsF f acc l := by
  induction f with
  | zero => intro acc l _; rfl
  | succ f ih =>
    intro acc l h
    unfold attrsR attrsF
    simp only
    rw [attrR_eq (okT_blanks h)]
    cases ha : attrP (l.drop (blanksN l)) with
    | none => rfl
    | some z =>
      obtain ⟨x, k⟩ := z
      simp only
      obtain ⟨j, c, rfl, hj, hc⟩ := attrP_end ha
      have := (okT_cut (okT_blanks h) hj hc).2.2
      rw [List.drop_drop] at this
      rw [ih this]
      rfl
theorem beginR_eq {l : Bytes} (h : okT l) (h0 : Lib.hasPrefix l [60] = true) : beginR l = beginP l := by
  unfold beginR beginP
  simp only
  have hg : l[0]? = some 60 := prefix_get h0 rfl
  have v1 := okT_part (okT_cut h hg (by decide)).2.2
  rw [List.drop_drop, Nat.zero_add] at v1
  rw [attrsR_eq _ v1]
  rfl
theorem wordsR_eq {l : Bytes} (h : okT l) : wordsR l = wordsP l := by
  unfold wordsR wordsP
  simp only
  have hv : okT (if Lib.indexByte l 60 < 0 then l else l.take (Lib.indexByte l 60).toNat) := by
    by_cases hi : Lib.indexByte l 60 < 0
    · rw [if_pos hi]; exact h
    · rw [if_neg hi]
      exact (okT_cut h (Lib.indexByte_some (l := l) (c := 60) (o := (Lib.indexByte l 60).toNat) (by omega)).1 (by decide)).1
  generalize (if Lib.indexByte l 60 < 0 then l else l.take (Lib.indexByte l 60).toNat) = raw at hv
  rw [unescape_ok hv]
  by_cases h1 : Lib.contains raw [93, 93, 62] = true
  · rw [if_pos (.inr h1), if_pos h1]
  · rw [if_neg h1]
    by_cases h2 : (unescF raw.length [] raw).1 = 0
    · rw [if_pos h2, if_neg (by simp [h1, h2])]
    · rw [if_neg h2, if_pos (.inl h2)]
theorem pieceR_eq {first : Bool} {l : Bytes} (h : okT l) : pieceR first l = pieceP first l := by
  unfold pieceR pieceP
  by_cases h1 : Lib.hasPrefix l [60, 63, 120, 109, 108] = true
  · cases first with
    | true => rw [if_pos ⟨rfl, h1⟩, if_pos h1]
    | false =>
      rw [if_neg (by simp), if_pos h1]
      have a1 := pre_apart [] h1 (m' := [60, 33, 45, 45]) (by decide) (by decide)
      have a2 := pre_apart [] h1 (m' := [60, 33, 91, 67, 68, 65, 84, 65, 91]) (by decide) (by decide)
      have a3 := pre_apart [] h1 (m' := [60, 47]) (by decide) (by decide)
      rw [List.append_nil] at a1 a2 a3
      have a4 : Lib.hasPrefix l [60] = true := by
        have g0 := prefix_get (i := 0) h1 rfl
        cases l with
        | nil => cases g0
        | cons c t => simp at g0; subst g0; rfl
      rw [a1, a2, a3, a4]
      simp only [Bool.false_eq_true, if_false, if_true]
      have g1 := prefix_get (i := 1) h1 rfl
      have hn : isName ((l.drop 1).take (partN (l.drop 1))) = false := by
        cases hx : isName ((l.drop 1).take (partN (l.drop 1))) with
        | false => rfl
        | true =>
          obtain ⟨c, r, e, hc⟩ := name_head hx
          have e1 : l[1]? = some c := by have : (l.drop 1)[0]? = some c := by rw [e]; rfl
                                         rw [List.getElem?_drop] at this; exact this
          rw [g1] at e1
          cases e1
          revert hc; decide
      unfold beginR
      simp only
      rw [if_pos hn]
      simp [declP]
  · rw [if_neg (fun e => h1 e.2), if_neg h1]
    by_cases h2 : Lib.hasPrefix l [60, 33, 45, 45] = true
    · rw [if_pos h2, if_pos h2]
    rw [if_neg h2, if_neg h2]
    by_cases h3 : Lib.hasPrefix l [60, 33, 91, 67, 68, 65, 84, 65, 91] = true
    · rw [if_pos h3, if_pos h3]
    rw [if_neg h3, if_neg h3]
    by_cases h4 : Lib.hasPrefix l [60, 47] = true
    · rw [if_pos h4, if_pos h4]
    rw [if_neg h4, if_neg h4]
    by_cases h5 : Lib.hasPrefix l [60] = true
    · rw [if_pos h5, if_pos h5]; exact beginR_eq h h5
    · rw [if_neg h5, if_neg h5]; exact wordsR_eq h
theorem pieceP_okT {first : Bool} {l : Bytes} {t : Tok} {k : Nat} (h : okT l) (hp : pieceP first l = some (t, k)) : okT (l.drop k) := by
  have main : (∃ j c, k = j + 1 ∧ l[j]? = some c ∧ c.toNat < 128) ∨ k = l.length ∨ ∃ c, l[k]? = some c ∧ c.toNat < 128 := by
    by_cases h4 : t.kind = 4
    · unfold pieceP at hp
      split at hp
      · exfalso
        unfold declP at hp
        split at hp
        · cases hp
        split at hp
        · simp only [Option.some.injEq, Prod.mk.injEq] at hp; rw [← hp.1] at h4; cases h4
        split at hp
        · simp only [Option.some.injEq, Prod.mk.injEq] at hp; rw [← hp.1] at h4; cases h4
        · cases hp
      split at hp
      · exfalso
        unfold commentP at hp
        simp only at hp
        split at hp
        · cases hp
        split at hp
        · cases hp
        · simp only [Option.some.injEq, Prod.mk.injEq] at hp; rw [← hp.1] at h4; cases h4
      split at hp
      · unfold dataP at hp
        simp only at hp
        split at hp
        · cases hp
        · simp only [Option.some.injEq, Prod.mk.injEq] at hp
          rename_i hi
          have hat := index_at (l := l.drop 9) (m := [93, 93, 62]) (i := (Lib.index (l.drop 9) [93, 93, 62]).toNat) (by omega)
          have hg := prefix_drop_get (i := 2) (c := 62) hat rfl
          rw [List.getElem?_drop] at hg
          exact .inl ⟨9 + ((Lib.index (l.drop 9) [93, 93, 62]).toNat + 2), 62, by omega, hg, by decide⟩
      split at hp
      · exfalso
        unfold endP at hp
        simp only at hp
        split at hp
        · cases hp
        split at hp
        · cases hp
        · simp only [Option.some.injEq, Prod.mk.injEq] at hp; rw [← hp.1] at h4; cases h4
      split at hp
      · exfalso
        unfold beginP at hp
        simp only at hp
        split at hp
        · cases hp
        split at hp
        · cases hp
        · simp only [Option.some.injEq, Prod.mk.injEq] at hp; rw [← hp.1] at h4; cases h4
      · unfold wordsP at hp
        simp only at hp
        obtain ⟨raw, hraw⟩ : ∃ raw, raw = (if Lib.indexByte l 60 < 0 then l else l.take (Lib.indexByte l 60).toNat) := ⟨_, rfl⟩
        rw [← hraw] at hp
        split at hp
        · cases hp
        split at hp
        · simp only [Option.some.injEq, Prod.mk.injEq] at hp
          have h2 := hp.2
          rw [hraw] at h2
          by_cases hi : Lib.indexByte l 60 < 0
          · rw [if_pos hi] at h2
            exact .inr (.inl h2.symm)
          · rw [if_neg hi] at h2
            have hs := (Lib.indexByte_some (l := l) (c := 60) (o := (Lib.indexByte l 60).toNat) (by omega)).1
            have hlt := (List.getElem?_eq_some_iff.1 hs).1
            rw [List.length_take] at h2
            exact .inr (.inr ⟨60, by rw [← hs]; congr 1; omega, by decide⟩)
        · cases hp
    · obtain ⟨j, hj, hg⟩ := pieceP_end hp h4
      exact .inl ⟨j, 62, hj, hg, by decide⟩
  rcases main with ⟨j, c, rfl, hg, hc⟩ | rfl | ⟨c, hg, hc⟩
  · exact (okT_cut h hg hc).2.2
  · rw [List.drop_length]; exact okT_nil
  · exact (okT_cut h hg hc).2.1
theorem allR_eq (f : Nat) : ∀ {first : Bool} {p : Nat} {acc : List Tok} {l : Bytes}, okT l → allR f first p acc l = allF f first p acc l := by
  induction f with
  | zero => intro first p acc l _; rfl
  | succ f ih =>
    intro first p acc l h
    unfold allR allF
    by_cases h0 : l = []
    · rw [if_pos h0, if_pos h0]
    rw [if_neg h0, if_neg h0, pieceR_eq h]
    cases hp : pieceP first l with
    | none => rfl
    | some z =>
      obtain ⟨t, k⟩ := z
      simp only
      exact ih (pieceP_okT h hp)
/-- THE PLAIN LAW: what the program answers is the document's answer -/
theorem reads_law {b : Bytes} (hb : b.length ≤ 600) : (chk b < b.length → allP b = ([], chk b, 10)) ∧
    (¬ chk b < b.length → allP b = match allR ((lines b).length + 1) true 0 [] (lines b) with
      | .inl p => ([], p, 12)
      | .inr l => (l, 0, 0)) := by
  have hle := chk_le b
  refine ⟨fun h => allP_bad (by omega) h, fun h => ?_⟩
  have hv : chk b = b.length := by omega
  rw [allP_good (by omega) hv, allR_eq _ (okT_lines _ b (Nat.le_refl _) hv)]
  rfl
end Go.Proofs.YtkehbepopegboaaGreatDoor
