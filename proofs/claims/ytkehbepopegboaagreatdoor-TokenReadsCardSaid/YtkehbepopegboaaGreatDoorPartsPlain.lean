/-
  The plain law of TokenParts: a document behind a whole one has its pieces.
-/
import Derived.Test.YtkehbepopegboaaGreatDoorLinesPlain
namespace Go.Proofs.YtkehbepopegboaaGreatDoor
set_option linter.unusedVariables false
/-! ### what stands at the head stands there whatever follows -/
theorem pre_append {l m : Bytes} (y : Bytes) (h : Lib.hasPrefix l m = true) : Lib.hasPrefix (l ++ y) m = true := by
  unfold Lib.hasPrefix at *
  rw [List.isPrefixOf_iff_prefix] at *
  exact h.trans (List.prefix_append _ _)
theorem pre_append_no {l m : Bytes} (y : Bytes) (h : Lib.hasPrefix l m = false) (hm : m.length ≤ l.length) : Lib.hasPrefix (l ++ y) m = false := by
  cases hx : Lib.hasPrefix (l ++ y) m with
  | false => rfl
  | true =>
    unfold Lib.hasPrefix at h hx
    rw [List.isPrefixOf_iff_prefix] at hx
    have := List.prefix_of_prefix_length_le hx (List.prefix_append l y) hm
    rw [← List.isPrefixOf_iff_prefix] at this
    rw [this] at h
    cases h
theorem pre_apart {l m m' : Bytes} (y : Bytes) (h : Lib.hasPrefix l m = true) (h1 : m.isPrefixOf m' = false) (h2 : m'.isPrefixOf m = false) : Lib.hasPrefix (l ++ y) m' = false := by
  cases hx : Lib.hasPrefix (l ++ y) m' with
  | false => rfl
  | true =>
    have h' := pre_append y h
    unfold Lib.hasPrefix at h' hx
    rw [List.isPrefixOf_iff_prefix] at h' hx
    rcases List.prefix_or_prefix_of_prefix h' hx with e | e
    · rw [← List.isPrefixOf_iff_prefix] at e; rw [e] at h1; cases h1
    · rw [← List.isPrefixOf_iff_prefix] at e; rw [e] at h2; cases h2
theorem pre_one {l m : Bytes} {c d : UInt8} (y : Bytes) (h : Lib.hasPrefix l [c] = true) (hcd : c ≠ d) : Lib.hasPrefix (l ++ y) (d :: m) = false :=
  pre_apart y h (by simp [List.isPrefixOf, hcd]) (by simp [List.isPrefixOf, hcd.symm])
theorem pre_two {l m : Bytes} {b c d : UInt8} (y : Bytes) (h : Lib.hasPrefix l [b, c] = true) (hcd : c ≠ d) : Lib.hasPrefix (l ++ y) (b :: d :: m) = false :=
  pre_apart y h (by simp [List.isPrefixOf, hcd]) (by simp [List.isPrefixOf, hcd.symm])
theorem while_append {p : UInt8 → Bool} (y : Bytes) : ∀ {x : Bytes}, (x.takeWhile p).length < x.length → (x ++ y).takeWhile p = x.takeWhile p
  | [], h => by simp at h
  | c :: t, h => by
    rw [List.cons_append]
    by_cases hc : p c = true
    · rw [List.takeWhile_cons_of_pos hc] at h ⊢
      rw [List.takeWhile_cons_of_pos hc, while_append y (by simpa using h)]
    · rw [List.takeWhile_cons_of_neg hc, List.takeWhile_cons_of_neg hc]
theorem partN_append {x : Bytes} (y : Bytes) (h : partN x < x.length) : partN (x ++ y) = partN x := by
  unfold partN at *; rw [while_append y h]
theorem blanksN_append {x : Bytes} (y : Bytes) (h : blanksN x < x.length) : blanksN (x ++ y) = blanksN x := by
  unfold blanksN at *; rw [while_append y h]
theorem drop_app {l : Bytes} (y : Bytes) {a : Nat} (h : a ≤ l.length) : (l ++ y).drop a = l.drop a ++ y := List.drop_append_of_le_length h
theorem take_app {l : Bytes} (y : Bytes) {a : Nat} (h : a ≤ l.length) : (l ++ y).take a = l.take a := List.take_append_of_le_length h
theorem index_append {m : Bytes} (hm : m ≠ []) (y : Bytes) : ∀ {x : Bytes} {i : Nat}, Lib.index x m = i → Lib.index (x ++ y) m = i
  | [], i, h => by
    have := Lib.index_room [] m (by omega)
    have h1 : 0 < m.length := List.length_pos_iff.2 hm
    simp at this
    omega
  | c :: t, i, h => by
    rw [List.cons_append]
    cases hp : m.isPrefixOf (c :: t) with
    | true =>
      have h2 : m.isPrefixOf (c :: (t ++ y)) = true := pre_append (l := c :: t) y hp
      unfold Lib.index at h ⊢
      rw [if_pos hp] at h
      rw [if_pos h2]
      exact h
    | false =>
      rw [index_cons_no hp] at h
      by_cases h0 : Lib.index t m = -1
      · rw [if_pos h0] at h; omega
      · rw [if_neg h0] at h
        have hge := Lib.index_ge t m
        have ih := index_append hm y (x := t) (i := (Lib.index t m).toNat) (by omega)
        have hroom := Lib.index_room t m (by omega)
        have h2 : m.isPrefixOf (c :: (t ++ y)) = false := pre_append_no (l := c :: t) y hp (by simp; omega)
        rw [index_cons_no h2, ih, if_neg (by omega)]
        omega
theorem indexByte_append (c : UInt8) (y : Bytes) : ∀ {x : Bytes}, 0 ≤ Lib.indexByte x c → Lib.indexByte (x ++ y) c = Lib.indexByte x c
  | [], h => by simp [Lib.indexByte] at h
  | d :: t, h => by
    rw [List.cons_append]
    unfold Lib.indexByte at h ⊢
    by_cases hd : (d == c) = true
    · rw [if_pos hd, if_pos hd]
    · rw [if_neg hd] at h ⊢
      rw [if_neg hd]
      have hge := Lib.indexByte_ge t c
      by_cases h0 : Lib.indexByte t c = -1
      · simp [h0] at h
      · have ih := indexByte_append c y (x := t) (by omega)
        rw [ih]
/-! ### a piece that is there is there whatever follows -/
theorem name_head {l : Bytes} {n : Nat} (h : isName (l.take n) = true) : ∃ c r, l = c :: r ∧ letterB (c.toNat : Nat) = true := by
  unfold isName at h
  cases l with
  | nil => simp at h
  | cons c r =>
    refine ⟨c, r, rfl, ?_⟩
    cases n with
    | zero => simp at h
    | succ n => simp at h; exact h.1.2
theorem letter_ne {c : UInt8} (h : letterB (c.toNat : Nat) = true) : c ≠ 62 ∧ c ≠ 47 ∧ c ≠ 33 ∧ c ≠ 63 := by
  refine ⟨?_, ?_, ?_, ?_⟩ <;> (rintro rfl; revert h; decide)
theorem attrP_append {l : Bytes} (y : Bytes) {z : (Bytes × Bytes) × Nat} (h : attrP l = some z) : attrP (l ++ y) = some z := by
  unfold attrP at h ⊢
  simp only at h ⊢
  split at h
  · cases h
  rename_i h1
  split at h
  · cases h
  rename_i h2
  have h2 : Lib.hasPrefix (l.drop (partN l + blanksN (l.drop (partN l)))) [61] = true := by simpa using h2
  have r2 := hasPrefix_drop_room h2 (by simp)
  simp only [List.length_cons, List.length_nil] at r2
  have e1 : partN (l ++ y) = partN l := partN_append y (by omega)
  have e2 : (l ++ y).drop (partN l) = l.drop (partN l) ++ y := drop_app y (by omega)
  have e3 : blanksN (l.drop (partN l) ++ y) = blanksN (l.drop (partN l)) := blanksN_append y (by rw [List.length_drop]; omega)
  generalize ha : partN l + blanksN (l.drop (partN l)) = a at h h2 r2
  have e4 : (l ++ y).drop a = l.drop a ++ y := drop_app y (by omega)
  have e5 : (l ++ y).drop (a + 1) = l.drop (a + 1) ++ y := drop_app y (by omega)
  rw [e1, take_app y (by omega), if_neg h1, e2, e3, ha, e4, if_neg (by rw [pre_append y h2]; simp), e5]
  split at h
  · cases h
  rename_i m hm
  have hmk : Lib.hasPrefix (l.drop (a + 1 + blanksN (l.drop (a + 1)))) [m] = true ∧ (m = 34 ∨ (m = 39 ∧ ¬ Lib.hasPrefix (l.drop (a + 1 + blanksN (l.drop (a + 1)))) [34] = true)) := by
    split at hm
    · cases hm; exact ⟨by assumption, .inl rfl⟩
    · split at hm
      · cases hm; exact ⟨by assumption, .inr ⟨rfl, by assumption⟩⟩
      · cases hm
  have r3 := hasPrefix_drop_room hmk.1 (by simp)
  simp only [List.length_cons, List.length_nil] at r3
  have e6 : blanksN (l.drop (a + 1) ++ y) = blanksN (l.drop (a + 1)) := blanksN_append y (by rw [List.length_drop]; omega)
  rw [e6]
  generalize a + 1 + blanksN (l.drop (a + 1)) = b at h hm hmk r3 ⊢
  have e7 : (l ++ y).drop b = l.drop b ++ y := drop_app y (by omega)
  have e8 : (l ++ y).drop (b + 1) = l.drop (b + 1) ++ y := drop_app y (by omega)
  rw [e7, e8]
  have hsel : (if Lib.hasPrefix (l.drop b ++ y) [34] then some (34 : UInt8) else if Lib.hasPrefix (l.drop b ++ y) [39] then some 39 else none) = some m := by
    rcases hmk with ⟨h3, rfl | ⟨rfl, h4⟩⟩
    · rw [if_pos (pre_append y h3)]
    · rw [if_neg (by rw [pre_apart y h3 (by decide) (by decide)]; simp), if_pos (pre_append y h3)]
  rw [hsel]
  simp only
  split at h
  · cases h
  rename_i hi
  obtain ⟨i, hi'⟩ : ∃ i : Nat, Lib.index (l.drop (b + 1)) [m] = i := ⟨(Lib.index (l.drop (b + 1)) [m]).toNat, by omega⟩
  have r4 := Lib.index_room (l.drop (b + 1)) [m] (by omega)
  rw [List.length_drop, hi'] at r4
  simp only [List.length_cons, List.length_nil] at r4
  rw [hi'] at h
  rw [index_append (by simp) y hi', if_neg (by omega), Int.toNat_natCast, take_app y (by rw [List.length_drop]; omega)]
  rw [Int.toNat_natCast] at h
  exact h
theorem attrsF_append (f : Nat) : ∀ {f' : Nat} {acc : List (Bytes × Bytes)} {l : Bytes} (y : Bytes) {z : List (Bytes × Bytes) × Bool × Nat}, f ≤ f' → attrsF f acc l = some z → attrsF f' acc (l ++ y) = some z := by
  induction f with
  | zero => intro f' acc l y z _ h; simp [attrsF] at h
  | succ f ih =>
    intro f' acc l y z hf h
    obtain ⟨g', rfl⟩ : ∃ g', f' = g' + 1 := ⟨f' - 1, by omega⟩
    unfold attrsF at h ⊢
    simp only at h ⊢
    have key : ∀ {m : Bytes}, 1 ≤ m.length → Lib.hasPrefix (l.drop (blanksN l)) m = true → blanksN (l ++ y) = blanksN l ∧ (l ++ y).drop (blanksN l) = l.drop (blanksN l) ++ y := by
      intro m hm hp
      have := hasPrefix_drop_room hp hm
      exact ⟨blanksN_append y (by omega), drop_app y (by omega)⟩
    split at h
    · rename_i h1
      obtain ⟨e1, e2⟩ := key (by simp) h1
      rw [e1, e2, if_pos (pre_append y h1)]
      exact h
    rename_i h1
    split at h
    · rename_i h2
      obtain ⟨e1, e2⟩ := key (by simp) h2
      rw [e1, e2, if_neg (by rw [pre_apart y h2 (by decide) (by decide)]; simp), if_pos (pre_append y h2)]
      exact h
    rename_i h2
    split at h
    · cases h
    rename_i h3
    split at h
    · cases h
    rename_i x k hx
    obtain ⟨n, v⟩ := x
    have hr := attrP_room hx
    rw [List.length_drop] at hr
    obtain ⟨c, r, hcr, hlet⟩ : ∃ c r, l.drop (blanksN l) = c :: r ∧ letterB (c.toNat : Nat) = true := by
      have hx2 := hx
      unfold attrP at hx2
      simp only at hx2
      split at hx2
      · cases hx2
      · rename_i hn; exact name_head (by simpa using hn)
    have hne := letter_ne hlet
    have e1 : blanksN (l ++ y) = blanksN l := blanksN_append y (by omega)
    have e2 : (l ++ y).drop (blanksN l) = l.drop (blanksN l) ++ y := drop_app y (by omega)
    have hc : Lib.hasPrefix (l.drop (blanksN l)) [c] = true := by rw [hcr]; simp [Lib.hasPrefix]
    rw [e1, e2, if_neg (by rw [pre_one y hc hne.1]; simp), if_neg (by rw [pre_one y hc hne.2.1]; simp), if_neg h3, attrP_append y hx]
    simp only
    split at h
    · cases h
    rename_i h4
    rw [if_neg h4, drop_app y (by omega)]
    split at h
    · cases h
    rename_i r' e' q hq
    rw [ih y (by omega) hq]
    exact h
theorem pieceP_append {first : Bool} {l : Bytes} (y : Bytes) {t : Tok} {k : Nat} (hl : l ≠ []) (h : pieceP first l = some (t, k)) (hk : t.kind ≠ 4 ∨ k < l.length) : pieceP first (l ++ y) = some (t, k) := by
  unfold pieceP at h ⊢
  split at h
  · rename_i h0
    rw [if_pos (pre_append y h0)]
    unfold declP at h ⊢
    split at h
    · cases h
    rename_i hf
    rw [if_neg hf]
    split at h
    · rename_i h1
      rw [if_pos (pre_append y h1)]
      exact h
    · split at h
      · rename_i h1 h2
        rw [if_neg (by rw [pre_apart y h2 (by decide) (by decide)]; simp), if_pos (pre_append y h2)]
        exact h
      · cases h
  split at h
  · rename_i _ h1
    rw [if_neg (by rw [pre_apart y h1 (by decide) (by decide)]; simp), if_pos (pre_append y h1)]
    unfold commentP at h ⊢
    simp only at h ⊢
    split at h
    · cases h
    rename_i hi
    have hlen := hasPrefix_room h1
    simp only [List.length_cons, List.length_nil] at hlen
    obtain ⟨i, hi'⟩ : ∃ i : Nat, Lib.index (l.drop 4) [45, 45] = i := ⟨(Lib.index (l.drop 4) [45, 45]).toNat, by omega⟩
    have r4 := Lib.index_room (l.drop 4) [45, 45] (by omega)
    rw [List.length_drop, hi'] at r4
    simp only [List.length_cons, List.length_nil] at r4
    rw [hi'] at h
    rw [drop_app y (by omega), index_append (by simp) y hi', if_neg (by omega), take_app y (by rw [List.length_drop]; omega), drop_app y (by omega)]
    split at h
    · cases h
    · rename_i h2
      rw [if_neg (by rw [pre_append y (by simpa using h2)]; simp)]
      exact h
  split at h
  · rename_i _ _ h1
    rw [if_neg (by rw [pre_apart y h1 (by decide) (by decide)]; simp), if_neg (by rw [pre_apart y h1 (by decide) (by decide)]; simp), if_pos (pre_append y h1)]
    unfold dataP at h ⊢
    simp only at h ⊢
    split at h
    · cases h
    rename_i hi
    have hlen := hasPrefix_room h1
    simp only [List.length_cons, List.length_nil] at hlen
    obtain ⟨i, hi'⟩ : ∃ i : Nat, Lib.index (l.drop 9) [93, 93, 62] = i := ⟨(Lib.index (l.drop 9) [93, 93, 62]).toNat, by omega⟩
    have r4 := Lib.index_room (l.drop 9) [93, 93, 62] (by omega)
    rw [List.length_drop, hi'] at r4
    simp only [List.length_cons, List.length_nil] at r4
    rw [hi'] at h
    rw [drop_app y (by omega), index_append (by simp) y hi', if_neg (by omega), take_app y (by rw [List.length_drop]; omega)]
    exact h
  split at h
  · rename_i _ _ _ h1
    rw [if_neg (by rw [pre_apart y h1 (by decide) (by decide)]; simp), if_neg (by rw [pre_apart y h1 (by decide) (by decide)]; simp), if_neg (by rw [pre_apart y h1 (by decide) (by decide)]; simp), if_pos (pre_append y h1)]
    unfold endP at h ⊢
    simp only at h ⊢
    have hlen := hasPrefix_room h1
    simp only [List.length_cons, List.length_nil] at hlen
    split at h
    · cases h
    rename_i h2
    split at h
    · cases h
    rename_i h3
    have h3 : Lib.hasPrefix (l.drop (2 + partN (l.drop 2) + blanksN (l.drop (2 + partN (l.drop 2))))) [62] = true := by simpa using h3
    have r3 := hasPrefix_drop_room h3 (by simp)
    simp only [List.length_cons, List.length_nil] at r3
    have e1 : (l ++ y).drop 2 = l.drop 2 ++ y := drop_app y (by omega)
    have e2 : partN (l.drop 2 ++ y) = partN (l.drop 2) := partN_append y (by rw [List.length_drop]; omega)
    have e3 : (l ++ y).drop (2 + partN (l.drop 2)) = l.drop (2 + partN (l.drop 2)) ++ y := drop_app y (by omega)
    have e4 : blanksN (l.drop (2 + partN (l.drop 2)) ++ y) = blanksN (l.drop (2 + partN (l.drop 2))) := blanksN_append y (by rw [List.length_drop]; omega)
    have e5 : (l ++ y).drop (2 + partN (l.drop 2) + blanksN (l.drop (2 + partN (l.drop 2)))) = l.drop (2 + partN (l.drop 2) + blanksN (l.drop (2 + partN (l.drop 2)))) ++ y := drop_app y (by omega)
    rw [e1, e2, take_app y (by rw [List.length_drop]; omega), if_neg h2, e3, e4, e5, if_neg (by rw [pre_append y h3]; simp)]
    exact h
  split at h
  · rename_i _ _ _ _ h1
    unfold beginP at h ⊢
    simp only at h ⊢
    have hlen := hasPrefix_room h1
    simp only [List.length_cons, List.length_nil] at hlen
    split at h
    · cases h
    rename_i h2
    obtain ⟨c, r, hcr, hlet⟩ := name_head (by simpa using h2 : isName ((l.drop 1).take (partN (l.drop 1))) = true)
    have hne := letter_ne hlet
    have hc : Lib.hasPrefix l [60, c] = true := by
      cases l with
      | nil => exact absurd rfl hl
      | cons d s =>
        simp at hcr
        subst hcr
        simp [Lib.hasPrefix] at h1 ⊢
        exact h1
    rw [if_neg (by rw [pre_two y hc hne.2.2.2]; simp), if_neg (by rw [pre_two y hc hne.2.2.1]; simp), if_neg (by rw [pre_two y hc hne.2.2.1]; simp), if_neg (by rw [pre_two y hc hne.2.1]; simp), if_pos (pre_append y h1)]
    split at h
    · cases h
    rename_i r' e' q hq
    have hroom := attrsF_room _ hq
    have hpl := partN_le (l.drop 1)
    rw [List.length_drop] at hroom hpl
    have hpn : partN (l.drop 1) < (l.drop 1).length := by
      rw [List.length_drop]
      by_cases hh : partN (l.drop 1) < l.length - 1
      · exact hh
      · exfalso
        have hd : l.drop (1 + partN (l.drop 1)) = [] := List.drop_of_length_le (by omega)
        rw [hd] at hq
        simp [attrsF, blanksN, Lib.hasPrefix] at hq
    rw [List.length_drop] at hpn
    have e1 : (l ++ y).drop 1 = l.drop 1 ++ y := drop_app y (by omega)
    have e2 : partN (l.drop 1 ++ y) = partN (l.drop 1) := partN_append y (by rw [List.length_drop]; omega)
    have e3 : (l ++ y).drop (1 + partN (l.drop 1)) = l.drop (1 + partN (l.drop 1)) ++ y := drop_app y (by omega)
    rw [e1, e2, take_app y (by rw [List.length_drop]; omega), if_neg h2, e3, attrsF_append _ y (by simp) hq]
    exact h
  · rename_i _ _ _ _ h5
    obtain ⟨c, r, rfl⟩ : ∃ c r, l = c :: r := by cases l with | nil => exact absurd rfl hl | cons c r => exact ⟨c, r, rfl⟩
    have hc60 : c ≠ 60 := fun e => h5 (by subst e; simp [Lib.hasPrefix])
    have hc : Lib.hasPrefix (c :: r) [c] = true := by simp [Lib.hasPrefix]
    have hno : ∀ m : Bytes, Lib.hasPrefix (c :: r ++ y) (60 :: m) = false := fun m => pre_one y hc hc60
    rw [if_neg (by rw [hno]; simp), if_neg (by rw [hno]; simp), if_neg (by rw [hno]; simp), if_neg (by rw [hno]; simp), if_neg (by rw [hno]; simp)]
    unfold wordsP at h ⊢
    simp only at h ⊢
    have hi : 0 ≤ Lib.indexByte (c :: r) 60 := by
      by_cases hi : 0 ≤ Lib.indexByte (c :: r) 60
      · exact hi
      · exfalso
        rw [if_pos (show Lib.indexByte (c :: r) 60 < 0 by omega)] at h
        split at h
        · cases h
        · split at h
          · simp only [Option.some.injEq, Prod.mk.injEq] at h
            rcases hk with hk | hk
            · exact hk (by rw [← h.1])
            · omega
          · cases h
    have hib := indexByte_append 60 y hi
    have hlt : (Lib.indexByte (c :: r) 60).toNat ≤ (c :: r).length := by
      have : ∀ x : Bytes, Lib.indexByte x 60 ≤ x.length := by
        intro x
        induction x with
        | nil => simp [Lib.indexByte]
        | cons d t ih =>
          unfold Lib.indexByte
          split
          · simp; omega
          · split
            · simp; omega
            · simp; omega
      have := this (c :: r)
      omega
    have hn : ¬ Lib.indexByte (c :: r) 60 < 0 := by omega
    rw [if_neg hn] at h
    rw [hib, if_neg hn, take_app y hlt]
    exact h
/-! ### a piece that is no text ends with 62 -/
theorem prefix_get {l m : Bytes} {c : UInt8} {i : Nat} (h : Lib.hasPrefix l m = true) (hi : m[i]? = some c) : l[i]? = some c := by
  unfold Lib.hasPrefix at h
  rw [List.isPrefixOf_iff_prefix] at h
  obtain ⟨r, rfl⟩ := h
  have := (List.getElem?_eq_some_iff.1 hi).1
  rw [List.getElem?_append_left this]; exact hi
theorem prefix_drop_get {l m : Bytes} {c : UInt8} {i a : Nat} (h : Lib.hasPrefix (l.drop a) m = true) (hi : m[i]? = some c) : l[a + i]? = some c := by
  have := prefix_get h hi
  rwa [List.getElem?_drop] at this
theorem attrsF_end (f : Nat) : ∀ {acc : List (Bytes × Bytes)} {l : Bytes} {r : List (Bytes × Bytes)} {e : Bool} {k : Nat}, attrsF f acc l = some (r, e, k) → ∃ j, k = j + 1 ∧ l[j]? = some 62 := by
  induction f with
  | zero => intro acc l r e k h; simp [attrsF] at h
  | succ f ih =>
    intro acc l r e k h
    unfold attrsF at h
    simp only at h
    split at h
    · rename_i h1
      simp only [Option.some.injEq, Prod.mk.injEq] at h
      exact ⟨blanksN l, by omega, by have := prefix_drop_get (i := 0) (c := 62) h1 rfl; simpa using this⟩
    split at h
    · rename_i h1
      simp only [Option.some.injEq, Prod.mk.injEq] at h
      exact ⟨blanksN l + 1, by omega, prefix_drop_get (i := 1) (c := 62) h1 rfl⟩
    split at h
    · cases h
    split at h
    · cases h
    split at h
    · cases h
    split at h
    · cases h
    rename_i r' e' q hq
    obtain ⟨j, hj, hg⟩ := ih hq
    simp only [Option.some.injEq, Prod.mk.injEq] at h
    rw [List.getElem?_drop] at hg
    exact ⟨_, by omega, hg⟩
theorem pieceP_end {first : Bool} {l : Bytes} {t : Tok} {k : Nat} (h : pieceP first l = some (t, k)) (hk : t.kind ≠ 4) : ∃ j, k = j + 1 ∧ l[j]? = some 62 := by
  unfold pieceP at h
  split at h
  · unfold declP at h
    split at h
    · cases h
    split at h
    · rename_i h1
      simp only [Option.some.injEq, Prod.mk.injEq] at h
      exact ⟨20, by omega, prefix_get h1 rfl⟩
    split at h
    · rename_i h1
      simp only [Option.some.injEq, Prod.mk.injEq] at h
      exact ⟨37, by omega, prefix_get h1 rfl⟩
    · cases h
  split at h
  · unfold commentP at h
    simp only at h
    split at h
    · cases h
    split at h
    · cases h
    · rename_i h1
      have h1 : Lib.hasPrefix (l.drop (4 + (Lib.index (l.drop 4) [45, 45]).toNat + 2)) [62] = true := by simpa using h1
      simp only [Option.some.injEq, Prod.mk.injEq] at h
      exact ⟨_, h.2.symm, by have := prefix_drop_get (i := 0) (c := 62) h1 rfl; simpa using this⟩
  split at h
  · unfold dataP at h
    simp only at h
    split at h
    · cases h
    · simp only [Option.some.injEq, Prod.mk.injEq] at h
      exact absurd (by rw [← h.1]) hk
  split at h
  · unfold endP at h
    simp only at h
    split at h
    · cases h
    split at h
    · cases h
    · rename_i h1
      have h1 : Lib.hasPrefix (l.drop (2 + partN (l.drop 2) + blanksN (l.drop (2 + partN (l.drop 2))))) [62] = true := by simpa using h1
      simp only [Option.some.injEq, Prod.mk.injEq] at h
      exact ⟨_, h.2.symm, by have := prefix_drop_get (i := 0) (c := 62) h1 rfl; simpa using this⟩
  split at h
  · unfold beginP at h
    simp only at h
    split at h
    · cases h
    split at h
    · cases h
    · rename_i r e q hq
      obtain ⟨j, hj, hg⟩ := attrsF_end _ hq
      simp only [Option.some.injEq, Prod.mk.injEq] at h
      rw [List.getElem?_drop] at hg
      exact ⟨_, by omega, hg⟩
  · unfold wordsP at h
    simp only at h
    generalize (if Lib.indexByte l 60 < 0 then l else l.take (Lib.indexByte l 60).toNat) = raw at h
    split at h
    · cases h
    split at h
    · simp only [Option.some.injEq, Prod.mk.injEq] at h
      exact absurd (by rw [← h.1]) hk
    · cases h
/-! ### all pieces, with fuel enough -/
def full (first : Bool) (p : Nat) (acc : List Tok) (l : Bytes) : Sum Nat (List Tok) := allF (l.length + 1) first p acc l
theorem allF_fuel (n : Nat) : ∀ {f f' p : Nat} {first : Bool} {acc : List Tok} {l : Bytes}, l.length ≤ n → l.length < f → l.length < f' → allF f first p acc l = allF f' first p acc l := by
  induction n with
  | zero =>
    intro f f' p first acc l hn hf hf'
    obtain rfl : l = [] := List.length_eq_zero_iff.1 (by omega)
    obtain ⟨f, rfl⟩ : ∃ g, f = g + 1 := ⟨f - 1, by omega⟩
    obtain ⟨f', rfl⟩ : ∃ g, f' = g + 1 := ⟨f' - 1, by omega⟩
    simp [allF]
  | succ n ih =>
    intro f f' p first acc l hn hf hf'
    obtain ⟨f, rfl⟩ : ∃ g, f = g + 1 := ⟨f - 1, by omega⟩
    obtain ⟨f', rfl⟩ : ∃ g, f' = g + 1 := ⟨f' - 1, by omega⟩
    unfold allF
    by_cases h0 : l = []
    · rw [if_pos h0, if_pos h0]
    · rw [if_neg h0, if_neg h0]
      cases hp : pieceP first l with
      | none => rfl
      | some x =>
        obtain ⟨t, k⟩ := x
        have hr := pieceP_room h0 hp
        simp only
        exact ih (by rw [List.length_drop]; omega) (by rw [List.length_drop]; omega) (by rw [List.length_drop]; omega)
theorem full_nil (first : Bool) (p : Nat) (acc : List Tok) : full first p acc [] = .inr acc := by simp [full, allF]
theorem full_some {first : Bool} {p k : Nat} {acc : List Tok} {l : Bytes} {t : Tok} (h0 : l ≠ []) (h : pieceP first l = some (t, k)) : full first p acc l = full false (p + k) (acc ++ [t]) (l.drop k) := by
  have hr := pieceP_room h0 h
  unfold full
  conv => lhs; unfold allF
  rw [if_neg h0, h]
  exact allF_fuel l.length (by rw [List.length_drop]; omega) (by rw [List.length_drop]; omega) (by omega)
theorem full_none {first : Bool} {p : Nat} {acc : List Tok} {l : Bytes} (h0 : l ≠ []) (h : pieceP first l = none) : full first p acc l = .inl p := by
  unfold full
  conv => lhs; unfold allF
  rw [if_neg h0, h]
theorem full_more (n : Nat) : ∀ {first : Bool} {p : Nat} {acc x : List Tok} {l : Bytes}, l.length ≤ n → full first p acc l = .inr x → ∃ r, x = acc ++ r ∧ (l ≠ [] → r ≠ []) ∧ ∀ (p' : Nat) (acc' : List Tok), full first p' acc' l = .inr (acc' ++ r) := by
  induction n with
  | zero =>
    intro first p acc x l hn h
    obtain rfl : l = [] := List.length_eq_zero_iff.1 (by omega)
    rw [full_nil] at h
    cases h
    exact ⟨[], by simp, fun h => absurd rfl h, fun p' acc' => by rw [full_nil]; simp⟩
  | succ n ih =>
    intro first p acc x l hn h
    by_cases h0 : l = []
    · subst h0
      rw [full_nil] at h
      cases h
      exact ⟨[], by simp, fun h => absurd rfl h, fun p' acc' => by rw [full_nil]; simp⟩
    · cases hp : pieceP first l with
      | none => rw [full_none h0 hp] at h; cases h
      | some z =>
        obtain ⟨t, k⟩ := z
        have hr := pieceP_room h0 hp
        rw [full_some h0 hp] at h
        obtain ⟨r, hx, _, hall⟩ := ih (by rw [List.length_drop]; omega) h
        refine ⟨t :: r, by rw [hx]; simp, fun _ => by simp, fun p' acc' => ?_⟩
        rw [full_some h0 hp, hall]
        simp
theorem full_append (lb : Bytes) (n : Nat) : ∀ {first : Bool} {p : Nat} {acc r : List Tok} {la : Bytes}, la.length ≤ n → la ≠ [] → full first p acc la = .inr (acc ++ r) → (∀ t, r.getLast? = some t → t.kind ≠ 4) →
    full first p acc (la ++ lb) = full false (p + la.length) (acc ++ r) lb ∧ la[la.length - 1]? = some 62 := by
  induction n with
  | zero => intro first p acc r la hn h0; exact absurd (List.length_eq_zero_iff.1 (by omega)) h0
  | succ n ih =>
    intro first p acc r la hn h0 h hlast
    cases hp : pieceP first la with
    | none => rw [full_none h0 hp] at h; cases h
    | some z =>
      obtain ⟨t, k⟩ := z
      have hr := pieceP_room h0 hp
      rw [full_some h0 hp] at h
      have h0b : la ++ lb ≠ [] := by simp [h0]
      by_cases hk : k = la.length
      · subst hk
        rw [List.drop_length, full_nil] at h
        injection h with h
        have hr1 : r = [t] := by simpa using h.symm
        subst hr1
        have hk4 := hlast t rfl
        obtain ⟨j, hj, hg⟩ := pieceP_end hp hk4
        have hpa := pieceP_append lb h0 hp (.inl hk4)
        rw [full_some h0b hpa, List.drop_left]
        exact ⟨rfl, by rw [show la.length - 1 = j from by omega]; exact hg⟩
      · have hne : la.drop k ≠ [] := by
          intro e
          have := congrArg List.length e
          rw [List.length_drop] at this
          simp at this
          omega
        obtain ⟨r', hx, hr', _⟩ := full_more _ (Nat.le_refl _) h
        have hrr : r = t :: r' := by
          have : acc ++ r = acc ++ (t :: r') := by rw [hx]; simp
          exact List.append_cancel_left this
        subst hrr
        have hpa := pieceP_append lb h0 hp (.inr (by omega))
        have hgl : ∀ u, r'.getLast? = some u → u.kind ≠ 4 := fun u hu => hlast u (by
          have := hr' hne
          rw [List.getLast?_cons, hu]; rfl)
        rw [hx] at h
        obtain ⟨e1, e2⟩ := ih (by rw [List.length_drop]; omega) hne h hgl
        rw [full_some h0b hpa, drop_app lb (by omega), e1]
        refine ⟨?_, ?_⟩
        · rw [List.length_drop, show p + k + (la.length - k) = p + la.length from by omega]
          simp
        · rw [List.length_drop, List.getElem?_drop] at e2
          rw [show la.length - 1 = k + (la.length - k - 1) from by omega]
          exact e2
theorem full_behind {lb : Bytes} {m : List Tok} (h : full true 0 [] lb = .inr m) (hm : ∀ t, m.head? = some t → t.kind ≠ 1) (p : Nat) (acc : List Tok) : full false p acc lb = .inr (acc ++ m) := by
  by_cases h0 : lb = []
  · subst h0
    rw [full_nil] at h
    cases h
    rw [full_nil]; simp
  · cases hp : pieceP true lb with
    | none => rw [full_none h0 hp] at h; cases h
    | some z =>
      obtain ⟨t, k⟩ := z
      rw [full_some h0 hp] at h
      obtain ⟨r, hx, _, hall⟩ := full_more _ (Nat.le_refl _) h
      subst hx
      have ht := hm t (by simp)
      have hp2 : pieceP false lb = some (t, k) := by
        unfold pieceP at hp ⊢
        split at hp
        · exfalso
          unfold declP at hp
          rw [if_neg (by simp)] at hp
          split at hp
          · simp only [Option.some.injEq, Prod.mk.injEq] at hp; exact ht (by rw [← hp.1])
          split at hp
          · simp only [Option.some.injEq, Prod.mk.injEq] at hp; exact ht (by rw [← hp.1])
          · cases hp
        · rename_i h1
          rw [if_neg h1]
          exact hp
      rw [full_some h0 hp2, hall]
      simp
/-! ### lines, and characters -/
theorem lines_ne {a : Bytes} (h : a ≠ []) : lines a ≠ [] := by
  cases a with
  | nil => exact absurd rfl h
  | cons c t =>
    unfold lines
    split
    · cases t with
      | nil => simp
      | cons d r =>
        simp only
        split
        · rename_i hd
          subst hd
          rw [lines_cons _ (by decide)]
          simp
        · simp
    · simp
theorem lines_last : ∀ {a : Bytes}, a.getLast? = some 13 → (lines a).getLast? = some 10
  | [], h => by simp at h
  | [c], h => by
    simp at h
    subst h
    rfl
  | c :: d :: r, h => by
    have h' : (d :: r).getLast? = some 13 := by simpa [List.getLast?_cons] using h
    have ih := lines_last h'
    by_cases hc : c = 13
    · subst hc
      by_cases hd : d = 10
      · subst hd
        rw [lines_cr_lf, ← lines_cons r (by decide)]
        exact ih
      · rw [lines_cr _ (by simpa using hd), List.getLast?_cons, ih]; rfl
    · rw [lines_cons _ hc, List.getLast?_cons, ih]; rfl
theorem lines_append (b : Bytes) : ∀ {a : Bytes}, a.getLast? ≠ some 13 → lines (a ++ b) = lines a ++ lines b
  | [], _ => rfl
  | [c], h => by
    have hc : c ≠ 13 := fun e => h (by subst e; rfl)
    rw [List.singleton_append, lines_cons _ hc, lines_cons _ hc]
    rfl
  | c :: d :: r, h => by
    have h' : (d :: r).getLast? ≠ some 13 := fun e => h (by rw [List.getLast?_cons, e]; rfl)
    have ih := lines_append b h'
    by_cases hc : c = 13
    · subst hc
      by_cases hd : d = 10
      · subst hd
        rw [lines_cons _ (by decide), List.cons_append, lines_cons _ (by decide)] at ih
        rw [List.cons_append, List.cons_append, lines_cr_lf, lines_cr_lf]
        simpa using ih
      · rw [List.cons_append, lines_cr _ (by simpa using hd), lines_cr _ (by simpa using hd), ih]; rfl
    · rw [List.cons_append, lines_cons _ hc, lines_cons _ hc, ih]; rfl
theorem dec_append {l : Bytes} (y : Bytes) {r : Int} {k : Nat} (h : dec l = some (r, k)) : dec (l ++ y) = some (r, k) := by
  cases l with
  | nil => simp [dec] at h
  | cons c t =>
    rw [List.cons_append]
    simp only [dec] at h ⊢
    have hb := begN_le (c.toNat : Nat)
    split at h
    · cases h
    rename_i hn
    rw [if_neg (by rw [List.length_append]; omega), take_app y (by omega)]
    exact h
theorem valid_append (y : Bytes) (n : Nat) : ∀ {l : Bytes}, l.length ≤ n → chk l = l.length → chk (l ++ y) = l.length + chk y := by
  induction n with
  | zero => intro l hn _; obtain rfl : l = [] := List.length_eq_zero_iff.1 (by omega); simp
  | succ n ih =>
    intro l hn h
    cases l with
    | nil => simp
    | cons c t =>
      cases hd : dec (c :: t) with
      | none => rw [chk_none hd] at h; simp at h
      | some z =>
        obtain ⟨r, k⟩ := z
        have hlen := dec_len hd
        have h2 := (valid_cons hd).1 h
        rw [chk_some (dec_append y hd), drop_app y hlen.2.2, ih (by rw [List.length_drop]; simp at hn ⊢; omega) h2, List.length_drop]
        omega
/-- what it is that All tells no error -/
theorem allP_ok {l : Bytes} (h : (allP l).2.2 = 0) : l.length ≤ 65536 ∧ chk l = l.length ∧ full true 0 [] (lines l) = .inr (allP l).1 := by
  have hle := chk_le l
  by_cases h1 : 65536 < l.length
  · unfold allP at h; rw [if_pos h1] at h; cases h
  by_cases h2 : chk l < l.length
  · rw [allP_bad (by omega) h2] at h; cases h
  have h3 : chk l = l.length := by omega
  refine ⟨by omega, h3, ?_⟩
  rw [allP_good (by omega) h3] at h ⊢
  unfold full
  cases hx : allF ((lines l).length + 1) true 0 [] (lines l) with
  | inl p => rw [hx] at h; cases h
  | inr r => rfl
/-- THE PLAIN LAW: the pieces of both, one behind the other -/
theorem parts_law {a b : Bytes} (hab : (a ++ b).length ≤ 65536) (ha : (allP a).2.2 = 0) (hb : (allP b).2.2 = 0) (hl : (allP a).1 ≠ [])
    (hm : ∀ t, (allP b).1.head? = some t → t.kind ≠ 1) (hlast : ∀ t, (allP a).1.getLast? = some t → t.kind ≠ 4) : allP (a ++ b) = ((allP a).1 ++ (allP b).1, 0, 0) := by
  obtain ⟨a1, a2, a3⟩ := allP_ok ha
  obtain ⟨b1, b2, b3⟩ := allP_ok hb
  generalize (allP a).1 = r at a3 hl hlast ⊢
  generalize (allP b).1 = m at b3 hm ⊢
  have hla : lines a ≠ [] := by
    intro e
    rw [e, full_nil] at a3
    injection a3 with a3
    exact hl a3.symm
  obtain ⟨e1, e2⟩ := full_append (lines b) _ (Nat.le_refl _) hla (r := r) a3 hlast
  have hend : (lines a).getLast? = some 62 := by rw [List.getLast?_eq_getElem?]; exact e2
  have h13 : a.getLast? ≠ some 13 := fun e => by rw [lines_last e] at hend; cases hend
  rw [allP_good hab (by rw [valid_append b _ (Nat.le_refl _) a2, b2, List.length_append]), lines_append b h13]
  have e3 := full_behind b3 hm (0 + (lines a).length) ([] ++ r)
  rw [← e1] at e3
  unfold full at e3
  rw [e3]
  rfl
end Go.Proofs.YtkehbepopegboaaGreatDoor
