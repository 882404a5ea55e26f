/-
  Layer 7 (regex): what Parse makes of the text of a tree: its nodes, each behind its parts: plain. Conditions: the tree's words are names; it has at most 1024 nodes.
  Layer 7 (regex): what Parse makes of the text of a tree: its nodes, each behind its parts: plain. Conditions: the tree's words are names; it has at most 1024 nodes.
  Layer 7 (regex): Parse of the text of a tree, between blanks, is the tree's nodes: plain. Conditions: the tree's words are names; it has at most 1024 nodes.
  Layer 7 (regex): nodes that may be a regular expression are a tree of as many nodes, with the same words; a tree's own nodes are that tree again, and may be a regular expression: plain. No condition.
  Layer 7 (regex): a tree's own nodes may be a regular expression, and are that tree again: plain. No condition.
  Layer 9 (schema): the text of a schema, and what Parse makes of it: the same types, their nodes laid anew: plain. Condition: nothing is wrong with the schema; it is small.
  Layer 9 (schema): Parse of the text of a schema that may be has its types again, their nodes laid anew, and these may be, and have the same text: plain. Condition: the schema is small.
  Layer 7 (regex): Text: the walks of its closures. Conditions: the nodes and the texts of the parts are laid.
  Layer 7 (regex): Text: its walk. Condition: the nodes are laid.
  Layer 9 (schema): Text: its walk. Conditions: the schema is laid, and small.
  Layer 9 (schema): SchemaBack: its walk. Condition: the schema is laid.
-/
import Derived.Test.YtnnbdlmilbcpjaaGreatDoorSPartP
import Derived.Test.YtnnbdlmilbcpjaaGreatDoorSMemS
import Derived.Test.YtnnbdlmilbcpjaaGreatDoorSKidsL
import Derived.Deep.RegionHeld3
import Derived.Deep.AppendLies
namespace Go.Proofs.YtnnbdlmilbcpjaaGreatDoor
set_option linter.unusedVariables false
/-- a regular expression as a tree -/
inductive RT where
  | none
  | empty
  | sym (s : Bytes)
  | cat (a b : RT)
  | alt (a b : RT)
  | star (a : RT)
def RT.size : RT → Nat
  | .none => 1
  | .empty => 1
  | .sym _ => 1
  | .cat a b => a.size + b.size + 1
  | .alt a b => a.size + b.size + 1
  | .star a => a.size + 1
/-- its nodes, each behind its parts -/
def RT.lay : RT → List SNode
  | .none => [noneN]
  | .empty => [emptyN]
  | .sym s => [⟨2, s, 0, 0⟩]
  | .cat a b => stepF 3 1 a.lay b.lay
  | .alt a b => stepF 4 1 a.lay b.lay
  | .star a => manyS a.lay
def RT.isAlt : RT → Bool
  | .alt _ _ => true
  | _ => false
def RT.isCat : RT → Bool
  | .cat _ _ => true
  | _ => false
def paren (c : Bool) (x : Bytes) : Bytes := if c then 40 :: (x ++ [41]) else x
/-- its text -/
def RT.txt : RT → Bytes
  | .none => [33]
  | .empty => [40, 41]
  | .sym s => s
  | .cat a b => paren a.isAlt a.txt ++ 44 :: paren (b.isAlt || b.isCat) b.txt
  | .alt a b => a.txt ++ 124 :: paren b.isAlt b.txt
  | .star a => paren (a.isAlt || a.isCat) a.txt ++ [42]
/-- all its words are names -/
def RT.named : RT → Bool
  | .none => true
  | .empty => true
  | .sym s => isName s
  | .cat a b => a.named && b.named
  | .alt a b => a.named && b.named
  | .star a => a.named
theorem RT.lay_len : ∀ t : RT, t.lay.length = t.size
  | .none => rfl
  | .empty => rfl
  | .sym _ => rfl
  | .cat a b => by unfold RT.lay RT.size; rw [stepF_len, a.lay_len, b.lay_len]; rfl
  | .alt a b => by unfold RT.lay RT.size; rw [stepF_len, a.lay_len, b.lay_len]; rfl
  | .star a => by unfold RT.lay RT.size manyS; rw [List.length_append, a.lay_len]; rfl
theorem RT.size_pos (t : RT) : 1 ≤ t.size := by cases t <;> simp [RT.size]
def seqT (t : RT) : Bytes := paren t.isAlt t.txt
def itemT (t : RT) : Bytes := paren (t.isAlt || t.isCat) t.txt
def altParts : RT → List RT
  | .alt a b => altParts a ++ [b]
  | t => [t]
def catParts : RT → List RT
  | .cat a b => catParts a ++ [b]
  | t => [t]
/-- texts with a mark between each two -/
def joinT (c : UInt8) : List Bytes → Bytes
  | [] => []
  | [x] => x
  | x :: y :: t => x ++ c :: joinT c (y :: t)
theorem joinT_snoc (c : UInt8) (y : Bytes) : ∀ l : List Bytes, l ≠ [] → joinT c (l ++ [y]) = joinT c l ++ c :: y
  | [], h => absurd rfl h
  | [x], _ => rfl
  | x :: z :: t, _ => by
    have := joinT_snoc c y (z :: t) (by simp)
    simp only [List.cons_append, joinT] at this ⊢
    rw [this]
    simp
theorem altParts_ne (t : RT) : altParts t ≠ [] := by cases t <;> simp [altParts]
theorem catParts_ne (t : RT) : catParts t ≠ [] := by cases t <;> simp [catParts]
theorem altParts_txt : ∀ t : RT, t.txt = joinT 124 ((altParts t).map seqT)
  | .alt a b => by
    unfold altParts RT.txt
    rw [List.map_append, List.map_cons, List.map_nil, joinT_snoc _ _ _ (by simp [altParts_ne]), ← altParts_txt a]
    rfl
  | .none => rfl
  | .empty => rfl
  | .sym _ => rfl
  | .cat _ _ => rfl
  | .star _ => rfl
theorem catParts_txt : ∀ t : RT, seqT t = joinT 44 ((catParts t).map itemT)
  | .cat a b => by
    unfold catParts
    rw [List.map_append, List.map_cons, List.map_nil, joinT_snoc _ _ _ (by simp [catParts_ne]), ← catParts_txt a]
    rfl
  | .none => rfl
  | .empty => rfl
  | .sym _ => rfl
  | .alt _ _ => rfl
  | .star _ => rfl
theorem movedS_zero (n : SNode) : movedS 0 n = n := by
  unfold movedS
  split
  · simp
  · split <;> simp
theorem foldGo_one (op : Int) (p : List SNode) : foldGo op 0 [] [p] = p := by
  show [] ++ p.map (movedS 0) = p
  rw [List.nil_append]
  induction p with
  | nil => rfl
  | cons n t ih => rw [List.map_cons, ih, movedS_zero]
theorem stepF_pos (op : Int) (i : Nat) (hi : i ≠ 0) (a b : List SNode) : stepF op i a b = stepF op 1 a b := by unfold stepF; rw [if_neg hi, if_neg (by decide)]
theorem altParts_lay : ∀ t : RT, foldGo 4 0 [] ((altParts t).map RT.lay) = t.lay
  | .alt a b => by
    unfold altParts
    rw [List.map_append, List.map_cons, List.map_nil, foldGo_snoc, altParts_lay a, stepF_pos]
    · rfl
    · have := altParts_ne a
      rw [List.length_map]
      have : (altParts a).length ≠ 0 := by rw [ne_eq, List.length_eq_zero_iff]; exact this
      omega
  | .none => foldGo_one _ _
  | .empty => foldGo_one _ _
  | .sym _ => foldGo_one _ _
  | .cat _ _ => foldGo_one _ _
  | .star _ => foldGo_one _ _
theorem catParts_lay : ∀ t : RT, foldGo 3 0 [] ((catParts t).map RT.lay) = t.lay
  | .cat a b => by
    unfold catParts
    rw [List.map_append, List.map_cons, List.map_nil, foldGo_snoc, catParts_lay a, stepF_pos]
    · rfl
    · have := catParts_ne a
      rw [List.length_map]
      have : (catParts a).length ≠ 0 := by rw [ne_eq, List.length_eq_zero_iff]; exact this
      omega
  | .none => foldGo_one _ _
  | .empty => foldGo_one _ _
  | .sym _ => foldGo_one _ _
  | .alt _ _ => foldGo_one _ _
  | .star _ => foldGo_one _ _
/-! ### what is left of a text -/
theorem nextL_nil_or (r : Bytes) : nextL r = [] ∨ ∃ c t, nextL r = c :: t ∧ blankU c = false := by
  unfold nextL
  induction r with
  | nil => exact .inl rfl
  | cons a t ih =>
    by_cases h : blankU a = true
    · rw [List.dropWhile_cons_of_pos h]; exact ih
    · rw [List.dropWhile_cons_of_neg h]; exact .inr ⟨a, t, rfl, by simpa using h⟩
theorem nextB_idem (r : Bytes) : nextL (nextL r) = nextL r := by
  rcases nextL_nil_or r with h | ⟨c, t, h, hc⟩
  · rw [h]; rfl
  · rw [h]; unfold nextL; rw [List.dropWhile_cons_of_neg (by simp [hc])]
theorem nextB_cons {c : UInt8} {t : Bytes} (h : blankU c = false) : nextL (c :: t) = c :: t := by unfold nextL; rw [List.dropWhile_cons_of_neg (by simp [h])]
theorem drop_blanks (r : Bytes) : r.drop (blanksN r) = nextL r := by
  unfold blanksN nextL
  induction r with
  | nil => rfl
  | cons a t ih =>
    by_cases h : blankU a = true
    · rw [List.takeWhile_cons_of_pos h, List.dropWhile_cons_of_pos h]; simpa using ih
    · rw [List.takeWhile_cons_of_neg h, List.dropWhile_cons_of_neg h]; rfl
theorem dropB_at (l : Bytes) (p : Nat) : l.drop (blanksAt l p) = nextL (l.drop p) := by
  unfold blanksAt
  rw [← List.drop_drop, drop_blanks]
theorem markB_eq (l : Bytes) (c : UInt8) (p : Nat) : markB l c p = ((nextL (l.drop p)).head? == some c) := by
  unfold markB
  rw [← dropB_at, List.head?_drop]
theorem markP_yes {l : Bytes} {c : UInt8} {p : Nat} {t : Bytes} (h : nextL (l.drop p) = c :: t) : markB l c p = true ∧ l.drop (markP l c p) = t := by
  have hb : markB l c p = true := by rw [markB_eq, h]; simp
  refine ⟨hb, ?_⟩
  unfold markP
  rw [if_pos hb, ← List.drop_drop, dropB_at, h]
  rfl
theorem markP_no {l : Bytes} {c : UInt8} {p : Nat} (h : (nextL (l.drop p)).head? ≠ some c) : markB l c p = false ∧ l.drop (markP l c p) = nextL (l.drop p) ∧ nextL (l.drop (markP l c p)) = nextL (l.drop p) := by
  have hb : markB l c p = false := by rw [markB_eq]; simpa using h
  have h2 : l.drop (markP l c p) = nextL (l.drop p) := by unfold markP; rw [if_neg (by rw [hb]; simp), dropB_at]
  exact ⟨hb, h2, by rw [h2, nextB_idem]⟩
/-- what comes next is none of these -/
def NoHead (r : Bytes) (cs : List UInt8) : Prop := ∀ c ∈ cs, (nextL r).head? ≠ some c
/-- no byte of a name comes next -/
def NoPart (r : Bytes) : Prop := ∀ c, r.head? = some c → partU c = false
/-- a reader of a text: from any place at which the text stands, ahead of what may follow it, it goes behind it -/
def Reads (l : Bytes) (F : RSt → PartR) (x : Bytes) (cs : List UInt8) (ns : List SNode) : Prop :=
  ∀ (st : RSt) (post : Bytes), nextL (l.drop st.p) = x ++ post → st.big = false → NoPart post → NoHead post cs →
    ∃ st1, F st = some (ns, st1) ∧ nextL (l.drop st1.p) = nextL post ∧ st1.big = false ∧ st1.long = st.long
theorem NoHead.next {r r' : Bytes} {cs : List UInt8} (h : NoHead r cs) (e : nextL r' = nextL r) : NoHead r' cs := fun c hc => by rw [e]; exact h c hc
theorem keepS_fold {op none_ : Int} {ps : List (List SNode)} (h : ps ≠ []) (hl : sumS ps + ps.length ≤ 1025) (hl2 : (foldGo op 0 [] ps).length ≤ 1024) : keepS false (foldS op none_ ps) = (foldGo op 0 [] ps, false) := by
  have : ps.length ≠ 0 := by rw [ne_eq, List.length_eq_zero_iff]; exact h
  unfold foldS
  rw [if_neg h, if_neg (by omega)]
  unfold keepS
  simp only
  rw [if_neg (by simp; omega)]
/-- a row of parts is read part by part -/
theorem rowS_reads {l : Bytes} {c : UInt8} {op none_ : Int} {part : RSt → PartR} {cs : List UInt8} (hcb : blankU c = false) (hcp : partU c = false) (hcn : c ∉ cs) (T : RT → Bytes) :
    ∀ (qs : List RT) (f : Nat) (acc : List (List SNode)) (st : RSt) (post : Bytes), qs ≠ [] → qs.length ≤ f → (∀ q ∈ qs, Reads l part (T q) cs q.lay ∧ (T q ≠ [] ∧ ∀ x, (T q).head? = some x → blankU x = false)) →
      nextL (l.drop st.p) = joinT c (qs.map T) ++ post → st.big = false → NoPart post → NoHead post (c :: cs) →
      (acc = [] → qs.length = 1 → ∃ st1, rowS l c op none_ part f acc st = some ((qs.map RT.lay).headD [], st1) ∧ nextL (l.drop st1.p) = nextL post ∧ st1.big = false ∧ st1.long = st.long) ∧
      (acc.length + qs.length ≠ 1 → sumS (acc ++ qs.map RT.lay) + (acc ++ qs.map RT.lay).length ≤ 1025 → (foldGo op 0 [] (acc ++ qs.map RT.lay)).length ≤ 1024 → ∃ st1, rowS l c op none_ part f acc st = some (foldGo op 0 [] (acc ++ qs.map RT.lay), st1) ∧ nextL (l.drop st1.p) = nextL post ∧ st1.big = false ∧ st1.long = st.long) := by
  intro qs
  induction qs with
  | nil => intro f acc st post h; exact absurd rfl h
  | cons q qs ih =>
    intro f acc st post _ hf hr hx hb hp hn
    obtain ⟨f, rfl⟩ : ∃ g, f = g + 1 := ⟨f - 1, by simp at hf; omega⟩
    have hnc : NoHead post cs := fun d hd => hn d (List.mem_cons_of_mem _ hd)
    cases qs with
    | nil =>
      have hx2 : nextL (l.drop st.p) = T q ++ post := hx
      obtain ⟨st1, e1, e2, e3, e4⟩ := (hr q (List.mem_cons_self ..)).1 st post hx2 hb hp hnc
      have hno : (nextL (l.drop st1.p)).head? ≠ some c := by rw [e2]; exact hn c (List.mem_cons_self ..)
      obtain ⟨m1, m2, m3⟩ := markP_no hno
      refine ⟨fun ha _ => ?_, fun hne hs hl => ?_⟩
      · subst ha
        unfold rowS
        rw [e1]
        simp only
        rw [if_neg (by rw [m1]; simp), if_pos trivial]
        exact ⟨_, rfl, by simp only; rw [m3, e2], e3, e4⟩
      · unfold rowS
        rw [e1]
        simp only
        have hane : acc ≠ [] := by intro e; rw [e] at hne; simp at hne
        rw [if_neg (by rw [m1]; simp), if_neg hane, e3]
        have hk := keepS_fold (op := op) (none_ := none_) (ps := acc ++ [q.lay]) (by simp) hs hl
        rw [hk]
        exact ⟨_, rfl, by simp only; rw [m3, e2], rfl, e4⟩
    | cons q2 qs =>
      have hx2 : nextL (l.drop st.p) = T q ++ (c :: joinT c ((q2 :: qs).map T) ++ post) := by rw [hx]; simp [joinT]
      have hnx : nextL (c :: joinT c ((q2 :: qs).map T) ++ post) = c :: joinT c ((q2 :: qs).map T) ++ post := nextB_cons hcb
      obtain ⟨st1, e1, e2, e3, e4⟩ := (hr q (List.mem_cons_self ..)).1 st _ hx2 hb (fun d hd => by simp at hd; subst hd; exact hcp) (fun d hd => by rw [hnx]; simp; intro e; subst e; exact hcn hd)
      rw [hnx] at e2
      obtain ⟨m1, m2⟩ := markP_yes e2
      have hh : nextL (joinT c ((q2 :: qs).map T) ++ post) = joinT c ((q2 :: qs).map T) ++ post := by
        obtain ⟨h1, h2⟩ := (hr q2 (List.mem_cons_of_mem _ (List.mem_cons_self ..))).2
        cases e : T q2 with
        | nil => exact absurd e h1
        | cons a r =>
          rw [e] at h2
          have ha := h2 a rfl
          have : ∃ r', joinT c ((q2 :: qs).map T) = a :: r' := by
            cases qs with
            | nil => exact ⟨r, by simp [joinT, e]⟩
            | cons q3 qs => exact ⟨r ++ c :: joinT c ((q3 :: qs).map T), by simp [joinT, e]⟩
          obtain ⟨r', hr'⟩ := this
          rw [hr']
          exact nextB_cons ha
      have hih := ih f (acc ++ [q.lay]) { st1 with p := markP l c st1.p } post (by simp) (by simp at hf ⊢; omega) (fun x hxm => hr x (List.mem_cons_of_mem _ hxm)) (by simp only; rw [m2]; exact hh) e3 hp hn
      refine ⟨fun _ h1 => by simp at h1, fun hne hs hl => ?_⟩
      have hee : acc ++ List.map RT.lay (q :: q2 :: qs) = (acc ++ [q.lay]) ++ List.map RT.lay (q2 :: qs) := by simp
      rw [hee] at hs hl ⊢
      obtain ⟨st2, g1, g2, g3, g4⟩ := hih.2 (by simp; omega) hs hl
      refine ⟨st2, ?_, g2, g3, by rw [g4]; exact e4⟩
      unfold rowS
      rw [e1]
      simp only
      rw [if_pos m1]
      exact g1
/-! ### the text of a tree -/
theorem isName_head {s : Bytes} (h : isName s = true) : ∃ c t, s = c :: t ∧ letterB (c.toNat : Nat) = true ∧ s.all partU = true ∧ s.length ≤ 64 := by
  unfold isName at h
  simp only [Bool.and_eq_true, decide_eq_true_eq] at h
  obtain ⟨⟨⟨h1, h2⟩, h3⟩, h4⟩ := h
  cases s with
  | nil => simp at h1
  | cons c t => exact ⟨c, t, rfl, by simpa using h3, h4, h2⟩
theorem letter_facts {c : UInt8} (h : letterB (c.toNat : Nat) = true) : blankU c = false ∧ partU c = true ∧ c ≠ 33 ∧ c ≠ 40 ∧ c ≠ 41 ∧ c ≠ 42 ∧ c ≠ 43 ∧ c ≠ 63 ∧ c ≠ 44 ∧ c ≠ 124 := by
  refine ⟨?_, ?_, ?_, ?_, ?_, ?_, ?_, ?_, ?_, ?_⟩
  · unfold letterB at h
    unfold blankU blankB
    rw [decide_eq_true_eq] at h
    rw [decide_eq_false_iff_not]
    omega
  · unfold partU partB; rw [h]; rfl
  all_goals
    rintro rfl
    revert h
    decide
theorem txt_head : ∀ t : RT, t.named = true → ∃ c r, t.txt = c :: r ∧ blankU c = false
  | .none, _ => ⟨33, [], rfl, by decide⟩
  | .empty, _ => ⟨40, [41], rfl, by decide⟩
  | .sym s, h => by
    obtain ⟨c, r, e, hl, _, _⟩ := isName_head h
    exact ⟨c, r, e, (letter_facts hl).1⟩
  | .cat a b, h => by
    unfold RT.named at h
    rw [Bool.and_eq_true] at h
    obtain ⟨c, r, e, hc⟩ := txt_head a h.1
    unfold RT.txt paren
    split
    · exact ⟨40, _, rfl, by decide⟩
    · rw [e]; exact ⟨c, _, rfl, hc⟩
  | .alt a b, h => by
    unfold RT.named at h
    rw [Bool.and_eq_true] at h
    obtain ⟨c, r, e, hc⟩ := txt_head a h.1
    unfold RT.txt
    rw [e]; exact ⟨c, _, rfl, hc⟩
  | .star a, h => by
    obtain ⟨c, r, e, hc⟩ := txt_head a h
    unfold RT.txt paren
    split
    · exact ⟨40, _, rfl, by decide⟩
    · rw [e]; exact ⟨c, _, rfl, hc⟩
theorem no41 : ∀ t : RT, t.named = true → ∀ r, t.txt ≠ 41 :: r
  | .none, _, _ => by simp [RT.txt]
  | .empty, _, _ => by simp [RT.txt]
  | .sym s, h, r => by
    obtain ⟨c, q, e, hl, _, _⟩ := isName_head h
    show s ≠ _
    rw [e]
    have := (letter_facts hl).2.2.2.2.1
    simp [this]
  | .cat a b, h, r => by
    unfold RT.named at h
    rw [Bool.and_eq_true] at h
    unfold RT.txt paren
    split
    · simp
    · obtain ⟨c, q, e, hc⟩ := txt_head a h.1
      have := no41 a h.1 q
      rw [e] at this ⊢
      simp at this ⊢
      exact fun e => absurd e this
  | .alt a b, h, r => by
    unfold RT.named at h
    rw [Bool.and_eq_true] at h
    unfold RT.txt
    obtain ⟨c, q, e, hc⟩ := txt_head a h.1
    have := no41 a h.1 q
    rw [e] at this ⊢
    simp at this ⊢
    exact fun e => absurd e this
  | .star a, h, r => by
    unfold RT.txt paren
    split
    · simp
    · obtain ⟨c, q, e, hc⟩ := txt_head a h
      have := no41 a h q
      rw [e] at this ⊢
      simp at this ⊢
      exact fun e => absurd e this
theorem paren_head {x : Bytes} (q : Bool) (h : ∃ c r, x = c :: r ∧ blankU c = false) : ∃ c r, paren q x = c :: r ∧ blankU c = false := by
  unfold paren
  split
  · exact ⟨40, _, rfl, by decide⟩
  · exact h
theorem head_ok {x : Bytes} (h : ∃ c r, x = c :: r ∧ blankU c = false) : x ≠ [] ∧ ∀ y, x.head? = some y → blankU y = false := by
  obtain ⟨c, r, rfl, hc⟩ := h
  exact ⟨by simp, fun y hy => by simp at hy; subst hy; exact hc⟩
/-! ### an item: an atom, and stars behind it -/
def base : RT → RT
  | .star a => base a
  | t => t
def stars : RT → Nat
  | .star a => stars a + 1
  | _ => 0
theorem base_size : ∀ t : RT, (base t).size ≤ t.size
  | .star a => by have := base_size a; show (base a).size ≤ a.size + 1; omega
  | .none => Nat.le_refl _
  | .empty => Nat.le_refl _
  | .sym _ => Nat.le_refl _
  | .cat _ _ => Nat.le_refl _
  | .alt _ _ => Nat.le_refl _
theorem base_named : ∀ t : RT, t.named = true → (base t).named = true
  | .star a, h => base_named a h
  | .none, h => h
  | .empty, h => h
  | .sym _, h => h
  | .cat _ _, h => h
  | .alt _ _, h => h
theorem base_star : ∀ t : RT, ∀ a, base t ≠ .star a
  | .star b, a => base_star b a
  | .none, _ => by simp [base]
  | .empty, _ => by simp [base]
  | .sym _, _ => by simp [base]
  | .cat _ _, _ => by simp [base]
  | .alt _ _, _ => by simp [base]
theorem replicate_snoc (k : Nat) (c : UInt8) : List.replicate (k + 1) c = List.replicate k c ++ [c] := List.replicate_succ'
theorem item_txt : ∀ t : RT, itemT t = itemT (base t) ++ List.replicate (stars t) 42
  | .star a => by
    have := item_txt a
    unfold base stars
    rw [replicate_snoc, ← List.append_assoc, ← this]
    rfl
  | .none => by simp [base, stars]
  | .empty => by simp [base, stars]
  | .sym _ => by simp [base, stars]
  | .cat _ _ => by simp [base, stars]
  | .alt _ _ => by simp [base, stars]
def manyK : Nat → List SNode → List SNode
  | 0, l => l
  | k + 1, l => manyK k (manyS l)
theorem manyK_snoc : ∀ (k : Nat) (l : List SNode), manyK (k + 1) l = manyS (manyK k l)
  | 0, l => rfl
  | k + 1, l => by show manyK (k + 1) (manyS l) = _; rw [manyK_snoc k (manyS l)]; rfl
theorem manyK_lay : ∀ t : RT, t.lay = manyK (stars t) (base t).lay
  | .star a => by
    show manyS a.lay = manyK (stars a + 1) (base a).lay
    rw [manyK_snoc, ← manyK_lay a]
  | .none => rfl
  | .empty => rfl
  | .sym _ => rfl
  | .cat _ _ => rfl
  | .alt _ _ => rfl
theorem manyK_len : ∀ (k : Nat) (l : List SNode), (manyK k l).length = l.length + k
  | 0, l => rfl
  | k + 1, l => by show (manyK k (manyS l)).length = _; rw [manyK_len k (manyS l)]; simp [manyS]; omega
theorem marksS_reads {l : Bytes} : ∀ (k f : Nat) (ns : List SNode) (st : RSt) (post : Bytes), k < f → nextL (l.drop st.p) = nextL (List.replicate k 42 ++ post) → st.big = false → NoHead post [42, 43, 63] → (manyK k ns).length ≤ 1024 →
    (marksS l f ns st).1 = manyK k ns ∧ nextL (l.drop (marksS l f ns st).2.p) = nextL post ∧ (marksS l f ns st).2.big = false ∧ (marksS l f ns st).2.long = st.long := by
  intro k
  induction k with
  | zero =>
    intro f ns st post hf hx hb hn hl
    obtain ⟨f, rfl⟩ : ∃ g, f = g + 1 := ⟨f - 1, by omega⟩
    have hx : nextL (l.drop st.p) = nextL post := hx
    obtain ⟨a1, a2, a3⟩ := markP_no (l := l) (c := 42) (p := st.p) (by rw [hx]; exact hn 42 (by simp))
    obtain ⟨b1, b2, b3⟩ := markP_no (l := l) (c := 43) (p := markP l 42 st.p) (by rw [a3, hx]; exact hn 43 (by simp))
    obtain ⟨c1, c2, c3⟩ := markP_no (l := l) (c := 63) (p := markP l 43 (markP l 42 st.p)) (by rw [b3, a3, hx]; exact hn 63 (by simp))
    unfold marksS
    rw [if_neg (by rw [a1]; simp), if_neg (by rw [b1]; simp), if_neg (by rw [c1]; simp)]
    exact ⟨rfl, by simp only; rw [c3, b3, a3, hx], hb, rfl⟩
  | succ k ih =>
    intro f ns st post hf hx hb hn hl
    obtain ⟨f, rfl⟩ : ∃ g, f = g + 1 := ⟨f - 1, by omega⟩
    have hx2 : nextL (l.drop st.p) = 42 :: (List.replicate k 42 ++ post) := by rw [hx]; exact nextB_cons (by decide)
    obtain ⟨a1, a2⟩ := markP_yes hx2
    have hlen := manyK_len (k + 1) ns
    have hml : (manyS ns).length = ns.length + 1 := by simp [manyS]
    have hk : keepS false (some (manyS ns)) = (manyS ns, false) := by
      unfold keepS
      simp only
      rw [if_neg (by simp; omega)]
    unfold marksS
    rw [if_pos a1, hb, hk]
    have := ih f (manyS ns) { p := markP l 42 st.p, long := st.long, big := false } post (by omega) (by simp only; rw [a2]) rfl hn hl
    exact this
/-- an atom -/
theorem atomS_reads {l : Bytes} {E : RSt → PartR} {t : RT} (hs : ∀ a, t ≠ .star a) (hn : t.named = true) (hE : (t.isAlt || t.isCat) = true → Reads l E t.txt [44, 124, 42, 43, 63] t.lay) :
    ∀ (st : RSt) (post : Bytes), nextL (l.drop st.p) = itemT t ++ post → st.big = false → NoPart post → ∃ st1, atomS l E st = some (t.lay, st1) ∧ nextL (l.drop st1.p) = nextL post ∧ st1.big = false ∧ st1.long = st.long := by
  intro st post hx hb hp
  have par : ∀ u : RT, t = u → (u.isAlt || u.isCat) = true → ∃ st1, atomS l E st = some (t.lay, st1) ∧ nextL (l.drop st1.p) = nextL post ∧ st1.big = false ∧ st1.long = st.long := by
    rintro _ rfl hq
    have hx2 : nextL (l.drop st.p) = 40 :: (t.txt ++ 41 :: post) := by rw [hx]; unfold itemT paren; rw [if_pos hq]; simp
    obtain ⟨a1, a2, a3⟩ := markP_no (l := l) (c := 33) (p := st.p) (by rw [hx2]; simp)
    rw [hx2] at a3
    obtain ⟨b1, b2⟩ := markP_yes a3
    obtain ⟨c, r, ht, hc⟩ := txt_head t hn
    have hnx : nextL (t.txt ++ 41 :: post) = t.txt ++ 41 :: post := by rw [ht]; exact nextB_cons hc
    have hc41 : c ≠ 41 := by
      intro e
      subst e
      cases t with
      | none => simp [RT.txt] at ht
      | empty => simp [RT.txt] at ht
      | sym s => simp [RT.isAlt, RT.isCat] at hq
      | star a => exact hs a rfl
      | cat a b => exact no41 _ hn r ht
      | alt a b => exact no41 _ hn r ht
    obtain ⟨d1, d2, d3⟩ := markP_no (l := l) (c := 41) (p := markP l 40 (markP l 33 st.p)) (by rw [b2, hnx, ht]; simpa using hc41)
    obtain ⟨st1, e1, e2, e3, e4⟩ := hE hq { st with p := markP l 41 (markP l 40 (markP l 33 st.p)) } (41 :: post) (by simp only; rw [d3, b2, hnx]) hb (fun x hx => by simp at hx; subst hx; decide) (fun x hx => by rw [nextB_cons (by decide)]; simp at hx ⊢; rcases hx with rfl | rfl | rfl | rfl | rfl <;> decide)
    rw [nextB_cons (by decide)] at e2
    obtain ⟨f1, f2⟩ := markP_yes e2
    unfold atomS
    rw [if_neg (by rw [a1]; simp), if_pos b1, if_neg (by rw [d1]; simp), e1]
    simp only
    rw [if_pos f1]
    exact ⟨_, rfl, by simp only; rw [f2], e3, e4⟩
  cases t with
  | none =>
    have hx2 : nextL (l.drop st.p) = 33 :: post := hx
    obtain ⟨a1, a2⟩ := markP_yes hx2
    unfold atomS
    rw [if_pos a1]
    exact ⟨_, rfl, by simp only; rw [a2], hb, rfl⟩
  | empty =>
    have hx2 : nextL (l.drop st.p) = 40 :: 41 :: post := hx
    obtain ⟨a1, a2, a3⟩ := markP_no (l := l) (c := 33) (p := st.p) (by rw [hx2]; simp)
    rw [hx2] at a3
    obtain ⟨b1, b2⟩ := markP_yes a3
    have b3 : nextL (l.drop (markP l 40 (markP l 33 st.p))) = 41 :: post := by rw [b2]; exact nextB_cons (by decide)
    obtain ⟨c1, c2⟩ := markP_yes b3
    unfold atomS
    rw [if_neg (by rw [a1]; simp), if_pos b1, if_pos c1]
    exact ⟨_, rfl, by simp only; rw [c2], hb, rfl⟩
  | sym s =>
    obtain ⟨c, r, hsc, hlet, hall, h64⟩ := isName_head hn
    obtain ⟨q1, q2, q3, q4, _⟩ := letter_facts hlet
    have hx2 : nextL (l.drop st.p) = s ++ post := hx
    obtain ⟨a1, a2, a3⟩ := markP_no (l := l) (c := 33) (p := st.p) (by rw [hx2, hsc]; simpa using q3)
    obtain ⟨b1, b2, b3⟩ := markP_no (l := l) (c := 40) (p := markP l 33 st.p) (by rw [a3, hx2, hsc]; simpa using q4)
    rw [a3, hx2] at b2
    have hw : wordAt l (markP l 40 (markP l 33 st.p)) = s := by
      unfold wordAt
      have h0 : l[markP l 40 (markP l 33 st.p)]? = some c := by
        rw [← List.head?_drop, b2, hsc]; rfl
      rw [h0]
      simp only
      have hone : isName [c] = true := by
        unfold isName allB
        simp only [List.length_singleton, List.headD_cons, List.all_cons, List.all_nil, Bool.and_true, hlet]
        have := q2
        unfold partU at this
        simp [this]
      rw [if_pos hone, b2]
      rw [List.takeWhile_append_of_pos (by intro x hx; exact List.all_eq_true.1 hall x hx)]
      have : List.takeWhile partU post = [] := by
        cases post with
        | nil => rfl
        | cons x t => rw [List.takeWhile_cons_of_neg]; rw [hp x rfl]; simp
      rw [this, List.append_nil]
    unfold atomS
    rw [if_neg (by rw [a1]; simp), if_neg (by rw [b1]; simp), hw, if_neg (by rw [hsc]; simp)]
    refine ⟨_, rfl, ?_, hb, ?_⟩
    · simp only
      rw [← List.drop_drop, b2, List.drop_left]
    · simp only
      rw [show isName s = true from hn]
      simp
  | cat a b => exact par _ rfl rfl
  | alt a b => exact par _ rfl rfl
  | star a => exact absurd rfl (hs a)
theorem paren_len (c : Bool) (x : Bytes) : x.length ≤ (paren c x).length := by unfold paren; split <;> simp <;> omega
theorem joinT_mem (c : UInt8) {x : Bytes} : ∀ l : List Bytes, x ∈ l → x.length ≤ (joinT c l).length
  | [], h => by simp at h
  | [y], h => by simp at h; subst h; exact Nat.le_refl _
  | y :: z :: t, h => by
    simp only [joinT, List.length_append, List.length_cons]
    rcases List.mem_cons.1 h with rfl | h
    · omega
    · have := joinT_mem c (z :: t) h; omega
theorem itemS_reads {l : Bytes} {E : RSt → PartR} {t : RT} (hn : t.named = true) (hl : t.size ≤ 1024) (hlen : t.size ≤ l.length) (hE : ((base t).isAlt || (base t).isCat) = true → Reads l E (base t).txt [44, 124, 42, 43, 63] (base t).lay) :
    Reads l (itemS l E) (itemT t) [42, 43, 63] t.lay := by
  intro st post hx hb hp hno
  have hst : stars t + (base t).size = t.size := by
    have h1 := congrArg List.length (manyK_lay t)
    rw [manyK_len, RT.lay_len, RT.lay_len] at h1
    omega
  rw [item_txt, List.append_assoc] at hx
  have hp2 : NoPart (List.replicate (stars t) 42 ++ post) := by
    cases hk : stars t with
    | zero => simpa using hp
    | succ k => intro c hc; simp [List.replicate_succ] at hc; subst hc; decide
  obtain ⟨st1, e1, e2, e3, e4⟩ := atomS_reads (base_star t) (base_named t hn) hE st _ hx hb hp2
  obtain ⟨m1, m2, m3, m4⟩ := marksS_reads (l := l) (stars t) (l.length + 1) (base t).lay st1 post (by have := RT.size_pos (base t); omega) e2 e3 hno (by rw [manyK_len, RT.lay_len]; omega)
  unfold itemS
  rw [e1]
  simp only
  refine ⟨(marksS l (l.length + 1) (base t).lay st1).2, ?_, m2, m3, by rw [m4, e4]⟩
  rw [manyK_lay t, ← m1]
/-- how long a text is -/
theorem txt_len : ∀ t : RT, t.named = true → t.size ≤ t.txt.length
  | .none, _ => by simp [RT.size, RT.txt]
  | .empty, _ => by simp [RT.size, RT.txt]
  | .sym s, h => by
    obtain ⟨c, q, e, _⟩ := isName_head h
    simp [RT.size, RT.txt, e]
  | .cat a b, h => by
    unfold RT.named at h
    rw [Bool.and_eq_true] at h
    have h1 := txt_len a h.1
    have h2 := txt_len b h.2
    have p1 := paren_len a.isAlt a.txt
    have p2 := paren_len (b.isAlt || b.isCat) b.txt
    simp only [RT.size, RT.txt, List.length_append, List.length_cons]
    omega
  | .alt a b, h => by
    unfold RT.named at h
    rw [Bool.and_eq_true] at h
    have h1 := txt_len a h.1
    have h2 := txt_len b h.2
    have p2 := paren_len b.isAlt b.txt
    simp only [RT.size, RT.txt, List.length_append, List.length_cons]
    omega
  | .star a, h => by
    have h1 := txt_len a h
    have p1 := paren_len (a.isAlt || a.isCat) a.txt
    simp only [RT.size, RT.txt, List.length_append, List.length_cons, List.length_nil]
    omega
theorem joinT_len (c : UInt8) : ∀ l : List Bytes, (∀ x ∈ l, x ≠ []) → l.length ≤ (joinT c l).length
  | [], _ => by simp
  | [x], h => by
    have := h x (by simp)
    cases x with
    | nil => exact absurd rfl this
    | cons a t => simp [joinT]
  | x :: y :: t, h => by
    have := joinT_len c (y :: t) (fun z hz => h z (List.mem_cons_of_mem _ hz))
    simp only [joinT, List.length_append, List.length_cons] at this ⊢
    omega
theorem altParts_named : ∀ t : RT, t.named = true → ∀ q ∈ altParts t, q.named = true
  | .alt a b, h => by
    unfold RT.named at h
    rw [Bool.and_eq_true] at h
    intro q hq
    unfold altParts at hq
    rcases List.mem_append.1 hq with hq | hq
    · exact altParts_named a h.1 q hq
    · simp at hq; subst hq; exact h.2
  | .none, h => by intro q hq; simp [altParts] at hq; subst hq; exact h
  | .empty, h => by intro q hq; simp [altParts] at hq; subst hq; exact h
  | .sym _, h => by intro q hq; simp [altParts] at hq; subst hq; exact h
  | .cat _ _, h => by intro q hq; simp [altParts] at hq; subst hq; exact h
  | .star _, h => by intro q hq; simp [altParts] at hq; subst hq; exact h
theorem catParts_named : ∀ t : RT, t.named = true → ∀ q ∈ catParts t, q.named = true
  | .cat a b, h => by
    unfold RT.named at h
    rw [Bool.and_eq_true] at h
    intro q hq
    unfold catParts at hq
    rcases List.mem_append.1 hq with hq | hq
    · exact catParts_named a h.1 q hq
    · simp at hq; subst hq; exact h.2
  | .none, h => by intro q hq; simp [catParts] at hq; subst hq; exact h
  | .empty, h => by intro q hq; simp [catParts] at hq; subst hq; exact h
  | .sym _, h => by intro q hq; simp [catParts] at hq; subst hq; exact h
  | .alt _ _, h => by intro q hq; simp [catParts] at hq; subst hq; exact h
  | .star _, h => by intro q hq; simp [catParts] at hq; subst hq; exact h
/-- a part of an Alt is smaller, or the whole, which is no Alt -/
theorem altParts_size : ∀ t : RT, ∀ q ∈ altParts t, q.size < t.size ∨ (q = t ∧ t.isAlt = false)
  | .alt a b => by
    intro q hq
    unfold altParts at hq
    have := a.size_pos
    rcases List.mem_append.1 hq with hq | hq
    · rcases altParts_size a q hq with h | ⟨rfl, _⟩
      · left; simp only [RT.size]; omega
      · left; simp only [RT.size]; omega
    · simp at hq; subst hq; left; simp only [RT.size]; omega
  | .none => by intro q hq; simp [altParts] at hq; exact .inr ⟨hq, rfl⟩
  | .empty => by intro q hq; simp [altParts] at hq; exact .inr ⟨hq, rfl⟩
  | .sym _ => by intro q hq; simp [altParts] at hq; exact .inr ⟨hq, rfl⟩
  | .cat _ _ => by intro q hq; simp [altParts] at hq; exact .inr ⟨hq, rfl⟩
  | .star _ => by intro q hq; simp [altParts] at hq; exact .inr ⟨hq, rfl⟩
theorem catParts_size : ∀ t : RT, ∀ q ∈ catParts t, q.size < t.size ∨ (q = t ∧ t.isCat = false)
  | .cat a b => by
    intro q hq
    unfold catParts at hq
    have := a.size_pos
    rcases List.mem_append.1 hq with hq | hq
    · rcases catParts_size a q hq with h | ⟨rfl, _⟩
      · left; simp only [RT.size]; omega
      · left; simp only [RT.size]; omega
    · simp at hq; subst hq; left; simp only [RT.size]; omega
  | .none => by intro q hq; simp [catParts] at hq; exact .inr ⟨hq, rfl⟩
  | .empty => by intro q hq; simp [catParts] at hq; exact .inr ⟨hq, rfl⟩
  | .sym _ => by intro q hq; simp [catParts] at hq; exact .inr ⟨hq, rfl⟩
  | .alt _ _ => by intro q hq; simp [catParts] at hq; exact .inr ⟨hq, rfl⟩
  | .star _ => by intro q hq; simp [catParts] at hq; exact .inr ⟨hq, rfl⟩
theorem foldGo_sum (op : Int) {ps : List (List SNode)} (h : ps ≠ []) : sumS ps + ps.length = (foldGo op 0 [] ps).length + 1 := by
  have := foldGo_len op ps 0 []
  rw [if_pos ⟨rfl, h⟩] at this
  simp at this
  omega
theorem base_or : ∀ t : RT, base t = t ∨ (base t).size < t.size
  | .star a => by have := base_size a; right; show (base a).size < a.size + 1; omega
  | .none => .inl rfl
  | .empty => .inl rfl
  | .sym _ => .inl rfl
  | .cat _ _ => .inl rfl
  | .alt _ _ => .inl rfl
/-- a sequence -/
theorem seqS_reads {l : Bytes} {E : RSt → PartR} {t : RT} (hn : t.named = true) (hl : t.size ≤ 1024) (hlen : (seqT t).length ≤ l.length) (hE : ∀ u : RT, u.named = true → (u.size < t.size ∨ (u = t ∧ t.isCat = false)) → (u.isAlt || u.isCat) = true → Reads l E u.txt [44, 124, 42, 43, 63] u.lay) :
    Reads l (seqS l E) (seqT t) [44, 42, 43, 63] t.lay := by
  have hts : t.size ≤ l.length := by have h1 := txt_len t hn; have h2 := paren_len t.isAlt t.txt; unfold seqT at hlen; omega
  have hitem : ∀ q ∈ catParts t, Reads l (itemS l E) (itemT q) [42, 43, 63] q.lay := fun q hq => by
    have hqn := catParts_named t hn q hq
    have hqs := catParts_size t q hq
    have hq2 : q.size ≤ t.size := by rcases hqs with h | ⟨rfl, _⟩ <;> omega
    refine itemS_reads hqn (by omega) (by omega) fun hc => ?_
    refine hE (base q) (base_named q hqn) ?_ hc
    rcases base_or q with h3 | h3
    · rw [h3]
      rcases hqs with h | ⟨rfl, h2⟩
      · exact .inl h
      · exact .inr ⟨rfl, h2⟩
    · exact .inl (by omega)
  intro st post hx hb hp hno
  rw [catParts_txt] at hx
  have hlp : (catParts t).length ≤ l.length + 1 := by
    have h1 := joinT_len 44 ((catParts t).map itemT) (fun x hx => by
      obtain ⟨q, hq, rfl⟩ := List.mem_map.1 hx
      exact (head_ok (paren_head _ (txt_head q (catParts_named t hn q hq)))).1)
    rw [List.length_map, ← catParts_txt] at h1
    omega
  obtain ⟨r1, r2⟩ := rowS_reads (l := l) (c := 44) (op := 3) (none_ := 1) (part := itemS l E) (cs := [42, 43, 63]) (by decide) (by decide) (by decide) itemT (catParts t) (l.length + 1) [] st post (catParts_ne t) hlp
    (fun q hq => ⟨hitem q hq, head_ok (paren_head _ (txt_head q (catParts_named t hn q hq)))⟩) hx hb hp (fun c hc => hno c hc)
  have hlay := catParts_lay t
  unfold seqS
  by_cases h1 : (catParts t).length = 1
  · obtain ⟨st1, g1, g2, g3, g4⟩ := r1 rfl h1
    refine ⟨st1, ?_, g2, g3, g4⟩
    rw [g1]
    obtain ⟨q, hq⟩ := List.length_eq_one_iff.1 h1
    rw [hq] at hlay ⊢
    rw [List.map_cons, List.map_nil, foldGo_one] at hlay
    rw [← hlay]
    rfl
  · have hne : (catParts t).map RT.lay ≠ [] := by simp [catParts_ne]
    have hsum := foldGo_sum 3 hne
    rw [hlay, RT.lay_len] at hsum
    obtain ⟨st1, g1, g2, g3, g4⟩ := r2 (by simpa using h1) (by rw [List.nil_append]; omega) (by rw [List.nil_append, hlay, RT.lay_len]; exact hl)
    rw [List.nil_append, hlay] at g1
    exact ⟨st1, g1, g2, g3, g4⟩
/-- an expression -/
theorem exprS_reads {l : Bytes} : ∀ (n : Nat) (t : RT), t.size ≤ n → t.named = true → t.size ≤ 1024 → t.txt.length ≤ l.length → Reads l (exprS l n) t.txt [124, 44, 42, 43, 63] t.lay := by
  intro n
  induction n with
  | zero => intro t h; have := t.size_pos; omega
  | succ n ih =>
    intro t hsz hn hl hlen st post hx hb hp hno
    have hpl := altParts_txt t
    have hlens : ∀ q ∈ altParts t, (seqT q).length ≤ (joinT 124 ((altParts t).map seqT)).length := fun q hq => joinT_mem 124 _ (List.mem_map_of_mem hq)
    rw [← hpl] at hlens
    have hseq : ∀ q ∈ altParts t, Reads l (seqS l (exprS l n)) (seqT q) [44, 42, 43, 63] q.lay := fun q hq => by
      have hqn := altParts_named t hn q hq
      have hqs := altParts_size t q hq
      have hq2 : q.size ≤ t.size := by rcases hqs with h | ⟨rfl, _⟩ <;> omega
      refine seqS_reads hqn (by omega) (by have := hlens q hq; omega) fun u hun hus huc => ?_
      have hlt : u.size < t.size := by
        rcases hus with h | ⟨rfl, hcat⟩
        · omega
        · rcases hqs with h | ⟨rfl, h2⟩
          · exact h
          · rw [h2, hcat] at huc; cases huc
      intro st post hx hb hp hno
      have hul : u.txt.length ≤ l.length := by
        have h1 := congrArg List.length hx
        have h2 : (nextL (l.drop st.p)).length ≤ l.length := by
          unfold nextL
          refine Nat.le_trans (List.dropWhile_sublist _).length_le ?_
          rw [List.length_drop]; omega
        rw [List.length_append] at h1
        omega
      exact ih u (by omega) hun (by omega) hul st post hx hb hp (fun c hc => hno c (by simp at hc ⊢; rcases hc with h | h | h | h | h <;> simp [h]))
    rw [hpl] at hx
    have hlp : (altParts t).length ≤ l.length + 1 := by
      have h1 := joinT_len 124 ((altParts t).map seqT) (fun x hx => by
        obtain ⟨q, hq, rfl⟩ := List.mem_map.1 hx
        exact (head_ok (paren_head _ (txt_head q (altParts_named t hn q hq)))).1)
      rw [List.length_map, ← hpl] at h1
      omega
    obtain ⟨r1, r2⟩ := rowS_reads (l := l) (c := 124) (op := 4) (none_ := 0) (part := seqS l (exprS l n)) (cs := [44, 42, 43, 63]) (by decide) (by decide) (by decide) seqT (altParts t) (l.length + 1) [] st post (altParts_ne t) hlp
      (fun q hq => ⟨hseq q hq, head_ok (paren_head _ (txt_head q (altParts_named t hn q hq)))⟩) hx hb hp (fun c hc => hno c hc)
    have hlay := altParts_lay t
    unfold exprS
    by_cases h1 : (altParts t).length = 1
    · obtain ⟨st1, g1, g2, g3, g4⟩ := r1 rfl h1
      refine ⟨st1, ?_, g2, g3, g4⟩
      rw [g1]
      obtain ⟨q, hq⟩ := List.length_eq_one_iff.1 h1
      rw [hq] at hlay ⊢
      rw [List.map_cons, List.map_nil, foldGo_one] at hlay
      rw [← hlay]
      rfl
    · have hne : (altParts t).map RT.lay ≠ [] := by simp [altParts_ne]
      have hsum := foldGo_sum 4 hne
      rw [hlay, RT.lay_len] at hsum
      obtain ⟨st1, g1, g2, g3, g4⟩ := r2 (by simpa using h1) (by rw [List.nil_append]; omega) (by rw [List.nil_append, hlay, RT.lay_len]; exact hl)
      rw [List.nil_append, hlay] at g1
      exact ⟨st1, g1, g2, g3, g4⟩
/-- Parse of a tree's text between two blanks -/
theorem regexP_txt (t : RT) (hn : t.named = true) (hl : t.size ≤ 1024) (h2 : t.txt.length ≤ 60000) : regexP (32 :: (t.txt ++ [32])) = (t.lay, 0) := by
  obtain ⟨l, hlx⟩ : ∃ l, l = 32 :: (t.txt ++ [32]) := ⟨_, rfl⟩
  rw [← hlx]
  have hll : l.length = t.txt.length + 2 := by rw [hlx]; simp
  obtain ⟨c, r, e, hc⟩ := txt_head t hn
  have hx : nextL (l.drop 0) = t.txt ++ [32] := by
    rw [hlx, List.drop_zero]
    unfold nextL
    rw [List.dropWhile_cons_of_pos (by decide), e, List.cons_append, List.dropWhile_cons_of_neg (by simp [hc])]
  have hsz := txt_len t hn
  obtain ⟨st1, g1, g2, g3, g4⟩ := exprS_reads (l := l) (l.length + 1) t (by omega) hn hl (by omega) ⟨0, false, false⟩ [32] hx rfl (fun c hc => by simp at hc; subst hc; decide) (fun c _ => by rw [show nextL [32] = [] from by decide]; simp)
  unfold regexP
  rw [if_neg (by omega), g1]
  simp only
  have hnl : nextL [32] = ([] : Bytes) := by decide
  rw [hnl, ← dropB_at] at g2
  have h3 : ¬ blanksAt l st1.p < l.length := fun h => by
    have := congrArg List.length g2
    rw [List.length_drop, List.length_nil] at this
    omega
  rw [if_neg h3, g4, g3]
  simp
/-- a node as a tree, of the trees ahead of it -/
def mkT (acc : List RT) (n : SNode) : RT :=
  if n.op = 1 then .empty else if n.op = 2 then .sym n.sym else if n.op = 3 then .cat (acc.getD n.a.toNat .none) (acc.getD n.b.toNat .none)
  else if n.op = 4 then .alt (acc.getD n.a.toNat .none) (acc.getD n.b.toNat .none) else if n.op = 5 then .star (acc.getD n.a.toNat .none) else .none
def treesL : List RT → List SNode → List RT
  | acc, [] => acc
  | acc, n :: l => treesL (acc ++ [mkT acc n]) l
theorem treesL_append : ∀ (x y : List SNode) (acc : List RT), treesL acc (x ++ y) = treesL (treesL acc x) y
  | [], _, _ => rfl
  | n :: x, y, acc => by simp only [List.cons_append, treesL]; rw [treesL_append x y]
theorem treesL_len : ∀ (x : List SNode) (acc : List RT), (treesL acc x).length = acc.length + x.length
  | [], acc => rfl
  | n :: x, acc => by simp only [treesL]; rw [treesL_len x]; simp; omega
theorem treesL_take {l : List SNode} {k : Nat} {n : SNode} (h : l[k]? = some n) : treesL [] (l.take (k + 1)) = treesL [] (l.take k) ++ [mkT (treesL [] (l.take k)) n] := by
  rw [List.take_add_one, h, Option.toList_some, treesL_append]
  rfl
/-- the tree of nodes, and their text -/
def treeN (l : List SNode) : RT := (treesL [] l).getLastD .none
def textN (l : List SNode) : Bytes := (treeN l).txt
/-! ### weights -/
theorem sum_zero {α : Type} (l : List α) : (l.map fun _ => 0).sum = 0 := by induction l <;> simp_all
theorem sum_ones {α : Type} (l : List α) : (l.map fun _ => 1).sum = l.length := by
  induction l with
  | nil => rfl
  | cons a t ih => rw [List.map_cons, List.sum_cons, ih, List.length_cons]; omega
theorem sum_add {α : Type} (f g : α → Nat) (l : List α) : (l.map fun x => f x + g x).sum = (l.map f).sum + (l.map g).sum := by
  induction l with
  | nil => rfl
  | cons a t ih => simp only [List.map_cons, List.sum_cons, ih]; omega
theorem sum_congr {α : Type} {f g : α → Nat} {l : List α} (h : ∀ x ∈ l, f x = g x) : (l.map f).sum = (l.map g).sum := by
  induction l with
  | nil => rfl
  | cons a t ih => simp only [List.map_cons, List.sum_cons, h a (List.mem_cons_self ..), ih fun x hx => h x (List.mem_cons_of_mem _ hx)]
theorem sum_one (V : Nat → Nat) (p : Nat) : ∀ k, p < k → ((List.range k).map fun j => if p = j then V j else 0).sum = V p
  | 0, h => by omega
  | k + 1, h => by
    rw [List.range_succ, List.map_append, List.sum_append]
    by_cases e : p = k
    · subst e
      have : ((List.range p).map fun j => if p = j then V j else 0).sum = 0 := by
        rw [sum_congr (g := fun _ => 0) fun j hj => if_neg (by have := List.mem_range.1 hj; omega), sum_zero]
      rw [this]; simp
    · rw [sum_one V p k (by omega)]; simp [e]
theorem sum_refs (V : Nat → Nat) (k : Nat) : ∀ refs : List Nat, (∀ p ∈ refs, p < k) → (refs.map V).sum = ((List.range k).map fun j => refs.count j * V j).sum
  | [], _ => by simp [sum_zero]
  | p :: t, h => by
    rw [List.map_cons, List.sum_cons, sum_refs V k t fun q hq => h q (List.mem_cons_of_mem _ hq)]
    have e : ((List.range k).map fun j => (p :: t).count j * V j).sum = ((List.range k).map fun j => (if p = j then V j else 0) + t.count j * V j).sum := sum_congr fun j _ => by
      rw [List.count_cons, Nat.add_mul]
      by_cases e : p = j
      · simp [e, Nat.add_comm]
      · simp [e]
    rw [e, sum_add, sum_one V p k (h p (List.mem_cons_self ..))]
theorem partOk_lt3 {i : Nat} {x : Int} (h : partOk i x = true) : x.toNat < i := by
  unfold partOk at h; simp at h; omega
theorem refs_lt {i : Nat} {n : SNode} (h : nodeOk i n = true) : ∀ p ∈ refsN n, p < i := by
  intro p hp
  unfold refsN at hp
  unfold nodeOk at h
  split at hp
  · rename_i h34
    rw [if_neg (by omega), if_neg (by omega), if_pos h34] at h
    simp only [Bool.and_eq_true] at h
    have h1 := partOk_lt3 h.1.2
    have h2 := partOk_lt3 h.2
    simp at hp
    rcases hp with rfl | rfl <;> assumption
  · split at hp
    · rename_i h5
      rw [if_neg (by omega), if_neg (by omega), if_neg (by omega), if_pos h5] at h
      simp only [Bool.and_eq_true] at h
      have h1 := partOk_lt3 h.1.2
      simp at hp
      subst hp
      exact h1
    · simp at hp
theorem nodesOk_at : ∀ (l : List SNode) (i k : Nat) (n : SNode), nodesOk i l = true → l[k]? = some n → nodeOk (i + k) n = true
  | [], i, k, n, _, h => by simp at h
  | m :: l, i, 0, n, h, hk => by
    simp at hk; subst hk
    unfold nodesOk at h
    rw [Bool.and_eq_true] at h
    exact h.1
  | m :: l, i, k + 1, n, h, hk => by
    unfold nodesOk at h
    rw [Bool.and_eq_true] at h
    have := nodesOk_at l (i + 1) k n h.2 (by simpa using hk)
    rwa [show i + 1 + k = i + (k + 1) by omega] at this
structure Formed (l : List SNode) : Prop where
  ok : nodesOk 0 l = true
  ne : l ≠ []
  used : ∀ j, j < l.length - 1 → usedS l j = 1
theorem formed_of {l : List SNode} (h : formedS l = true) : Formed l := by
  unfold formedS at h
  simp only [Bool.and_eq_true, List.all_eq_true, List.mem_range] at h
  exact ⟨h.1.1, by cases l <;> simp_all, fun j hj => by simpa using h.1.2 j hj⟩
theorem used_high {l : List SNode} (h : nodesOk 0 l = true) : ∀ k j, k ≤ l.length → k ≤ j + 1 → usedS (l.take k) j = 0 := by
  intro k
  induction k with
  | zero => intro j _ _; simp [usedS]
  | succ k ih =>
    intro j hk hj
    obtain ⟨n, hn⟩ : ∃ n, l[k]? = some n := ⟨_, List.getElem?_eq_getElem (by omega)⟩
    rw [usedS_snoc hn, ih j (by omega) (by omega), Nat.zero_add]
    have := refs_lt (nodesOk_at l 0 k n h hn)
    rw [List.count_eq_zero]
    intro hm
    have := this j hm
    omega
theorem used_mono {l : List SNode} (j : Nat) : ∀ k, k ≤ l.length → usedS (l.take k) j ≤ usedS l j := by
  intro k hk
  conv => rhs; rw [← List.take_append_drop k l]
  unfold usedS
  rw [List.flatMap_append, List.count_append]
  omega
/-- the weights of the trees that are no part of another one sum up to the nodes' own -/
theorem tree_main (wt : RT → Nat) (f : SNode → Nat) {l : List SNode} (hF : Formed l)
    (hmk : ∀ (acc : List RT) (n : SNode), nodeOk acc.length n = true → wt (mkT acc n) = f n + ((refsN n).map fun p => wt (acc.getD p .none)).sum) :
    ∀ k, k ≤ l.length → ((List.range k).map fun j => if usedS (l.take k) j = 0 then wt ((treesL [] (l.take k)).getD j .none) else 0).sum = ((l.take k).map f).sum := by
  intro k
  induction k with
  | zero => intro _; rfl
  | succ k ih =>
    intro hk
    have ih := ih (by omega)
    obtain ⟨n, hn⟩ : ∃ n, l[k]? = some n := ⟨_, List.getElem?_eq_getElem (by omega)⟩
    have hTl : (treesL [] (l.take k)).length = k := by rw [treesL_len, List.length_take]; simp; omega
    have hok := nodesOk_at l 0 k n hF.ok hn
    rw [Nat.zero_add] at hok
    have hlt := refs_lt hok
    rw [treesL_take hn]
    obtain ⟨T, hT⟩ : ∃ T, T = treesL [] (l.take k) := ⟨_, rfl⟩
    rw [← hT] at ih hTl ⊢
    obtain ⟨V, hV⟩ : ∃ V : Nat → Nat, V = fun j => wt (T.getD j .none) := ⟨_, rfl⟩
    have hm : wt (mkT T n) = f n + ((refsN n).map V).sum := by rw [hV]; exact hmk T n (by rw [hTl]; exact hok)
    rw [List.range_succ, List.map_append, List.sum_append]
    have e1 : ((List.range k).map fun j => if usedS (l.take (k + 1)) j = 0 then wt ((T ++ [mkT T n]).getD j .none) else 0).sum + ((List.range k).map fun j => (refsN n).count j * V j).sum = ((List.range k).map fun j => if usedS (l.take k) j = 0 then V j else 0).sum := by
      rw [← sum_add]
      refine sum_congr fun j hj => ?_
      have hjk := List.mem_range.1 hj
      have hg : (T ++ [mkT T n]).getD j .none = T.getD j .none := by
        rw [List.getD_eq_getElem?_getD, List.getD_eq_getElem?_getD, List.getElem?_append_left (by omega)]
      rw [hg, usedS_snoc hn, hV]
      have hu := used_mono (l := l) j (k + 1) hk
      rw [usedS_snoc hn, hF.used j (by omega)] at hu
      have hu0 := hu
      rcases (by omega : (usedS (l.take k) j = 0 ∧ (refsN n).count j = 0) ∨ (usedS (l.take k) j = 0 ∧ (refsN n).count j = 1) ∨ (usedS (l.take k) j = 1 ∧ (refsN n).count j = 0)) with ⟨h1, h2⟩ | ⟨h1, h2⟩ | ⟨h1, h2⟩ <;> rw [h1, h2] <;> simp
    have e2 : ((List.range k).map fun j => if usedS (l.take k) j = 0 then V j else 0).sum = ((l.take k).map f).sum := by rw [hV]; exact ih
    have e3 := sum_refs V k (refsN n) hlt
    have e4 : (T ++ [mkT T n]).getD k .none = mkT T n := by
      rw [List.getD_eq_getElem?_getD, List.getElem?_append_right (by omega), hTl]; simp
    have e6 : ((l.take (k + 1)).map f).sum = ((l.take k).map f).sum + f n := by rw [List.take_add_one, hn, Option.toList_some, List.map_append, List.sum_append]; simp
    have e5 : usedS (l.take (k + 1)) k = 0 := used_high hF.ok (k + 1) k hk (Nat.le_refl _)
    rw [List.map_cons, List.map_nil, List.sum_cons, List.sum_nil, Nat.add_zero, if_pos e5, e4, hm, e6, e3]
    omega
theorem tree_le (wt : RT → Nat) (f : SNode → Nat) {l : List SNode} (hF : Formed l)
    (hmk : ∀ (acc : List RT) (n : SNode), nodeOk acc.length n = true → wt (mkT acc n) = f n + ((refsN n).map fun p => wt (acc.getD p .none)).sum) (j : Nat) (hj : j < l.length) :
    wt ((treesL [] (l.take (j + 1))).getD j .none) ≤ ((l.take (j + 1)).map f).sum := by
  have h := tree_main wt f hF hmk (j + 1) (by omega)
  rw [List.range_succ, List.map_append, List.sum_append, List.map_cons, List.map_nil, List.sum_cons, List.sum_nil, if_pos (used_high hF.ok (j + 1) j (by omega) (Nat.le_refl _))] at h
  omega
/-- the weight of the whole tree is the sum of the nodes' own -/
theorem tree_sum (wt : RT → Nat) (f : SNode → Nat) {l : List SNode} (hF : Formed l)
    (hmk : ∀ (acc : List RT) (n : SNode), nodeOk acc.length n = true → wt (mkT acc n) = f n + ((refsN n).map fun p => wt (acc.getD p .none)).sum) : wt (treeN l) = (l.map f).sum := by
  have main := tree_main wt f hF hmk
  have hlen : 1 ≤ l.length := by have := hF.ne; cases l <;> simp_all
  have h := main l.length (Nat.le_refl _)
  rw [List.take_of_length_le (Nat.le_refl _)] at h
  rw [← h]
  obtain ⟨m, hm⟩ : ∃ m, l.length = m + 1 := ⟨l.length - 1, by omega⟩
  rw [hm, List.range_succ, List.map_append, List.sum_append]
  have h1 : ((List.range m).map fun j => if usedS l j = 0 then wt ((treesL [] l).getD j .none) else 0).sum = 0 := by
    rw [sum_congr (g := fun _ => 0) fun j hj => if_neg (by rw [hF.used j (by have := List.mem_range.1 hj; omega)]; simp), sum_zero]
  have h2 : usedS l m = 0 := by have := used_high hF.ok l.length m (Nat.le_refl _) (by omega); rwa [List.take_of_length_le (Nat.le_refl _)] at this
  rw [h1, List.map_cons, List.map_nil, List.sum_cons, List.sum_nil, if_pos h2]
  unfold treeN
  have hTl : (treesL [] l).length = m + 1 := by rw [treesL_len, List.length_nil]; omega
  rw [List.getLastD_eq_getLast?, List.getLast?_eq_getElem?, hTl, List.getD_eq_getElem?_getD]
  simp
def RT.cnt (b : Bytes) : RT → Nat
  | .none => 0
  | .empty => 0
  | .sym s => if s = b then 1 else 0
  | .cat x y => x.cnt b + y.cnt b
  | .alt x y => x.cnt b + y.cnt b
  | .star x => x.cnt b
theorem op_cases {i : Nat} {n : SNode} (h : nodeOk i n = true) : n.op = 0 ∨ n.op = 1 ∨ n.op = 2 ∨ n.op = 3 ∨ n.op = 4 ∨ n.op = 5 := by
  unfold nodeOk at h
  split at h
  · omega
  split at h
  · omega
  split at h
  · omega
  split at h
  · omega
  · cases h
theorem size_mk (acc : List RT) (n : SNode) (h : nodeOk acc.length n = true) : (mkT acc n).size = 1 + ((refsN n).map fun p => (acc.getD p .none).size).sum := by
  unfold mkT refsN
  rcases op_cases h with e | e | e | e | e | e <;> simp [e, RT.size] <;> omega
theorem cnt_mk (b : Bytes) (acc : List RT) (n : SNode) (h : nodeOk acc.length n = true) : (mkT acc n).cnt b = (if n.op = 2 ∧ n.sym = b then 1 else 0) + ((refsN n).map fun p => (acc.getD p .none).cnt b).sum := by
  unfold mkT refsN
  rcases op_cases h with e | e | e | e | e | e <;> simp [e, RT.cnt]
theorem treeN_size {l : List SNode} (h : formedS l = true) : (treeN l).size = l.length := by
  rw [tree_sum RT.size (fun _ => 1) (formed_of h) size_mk, sum_ones]
theorem treeN_word {l : List SNode} (h : formedS l = true) (b : Bytes) : 0 < (treeN l).cnt b ↔ ∃ n ∈ l, n.op = 2 ∧ n.sym = b := by
  rw [tree_sum (RT.cnt b) (fun n => if n.op = 2 ∧ n.sym = b then 1 else 0) (formed_of h) (cnt_mk b)]
  clear h
  induction l with
  | nil => simp
  | cons a t ih =>
    rw [List.map_cons, List.sum_cons]
    by_cases e : a.op = 2 ∧ a.sym = b
    · rw [if_pos e]
      exact ⟨fun _ => ⟨a, List.mem_cons_self .., e⟩, fun _ => by omega⟩
    · rw [if_neg e, Nat.zero_add, ih]
      constructor
      · rintro ⟨n, hn, h⟩; exact ⟨n, List.mem_cons_of_mem _ hn, h⟩
      · rintro ⟨n, hn, h⟩
        rcases List.mem_cons.1 hn with rfl | hn
        · exact absurd h e
        · exact ⟨n, hn, h⟩
theorem named_cnt : ∀ t : RT, (∀ b, 0 < t.cnt b → isName b = true) → t.named = true
  | .none, _ => rfl
  | .empty, _ => rfl
  | .sym s, h => h s (by simp [RT.cnt])
  | .cat x y, h => by
    unfold RT.named
    rw [named_cnt x fun b hb => h b (by simp only [RT.cnt]; omega), named_cnt y fun b hb => h b (by simp only [RT.cnt]; omega)]
    rfl
  | .alt x y, h => by
    unfold RT.named
    rw [named_cnt x fun b hb => h b (by simp only [RT.cnt]; omega), named_cnt y fun b hb => h b (by simp only [RT.cnt]; omega)]
    rfl
  | .star x, h => named_cnt x h
theorem cnt_named : ∀ t : RT, t.named = true → ∀ b, 0 < t.cnt b → isName b = true
  | .none, _, b, h => by simp [RT.cnt] at h
  | .empty, _, b, h => by simp [RT.cnt] at h
  | .sym s, hn, b, h => by
    simp only [RT.cnt] at h
    split at h
    · rename_i e; subst e; exact hn
    · omega
  | .cat x y, hn, b, h => by
    unfold RT.named at hn
    rw [Bool.and_eq_true] at hn
    simp only [RT.cnt] at h
    rcases (by omega : 0 < x.cnt b ∨ 0 < y.cnt b) with h | h
    · exact cnt_named x hn.1 b h
    · exact cnt_named y hn.2 b h
  | .alt x y, hn, b, h => by
    unfold RT.named at hn
    rw [Bool.and_eq_true] at hn
    simp only [RT.cnt] at h
    rcases (by omega : 0 < x.cnt b ∨ 0 < y.cnt b) with h | h
    · exact cnt_named x hn.1 b h
    · exact cnt_named y hn.2 b h
  | .star x, hn, b, h => cnt_named x hn b h
theorem treeN_named {l : List SNode} (h : regexE l = 0) : (treeN l).named = true := by
  unfold regexE at h
  split at h
  · cases h
  split at h
  · cases h
  rename_i hf
  rw [Bool.not_eq_false] at hf
  split at h
  · cases h
  rename_i hn
  rw [Bool.not_eq_true, List.any_eq_false] at hn
  refine named_cnt _ fun b hb => ?_
  obtain ⟨n, hnl, h2, rfl⟩ := (treeN_word hf b).1 hb
  have := hn n hnl
  simpa [h2] using this
/-- all trees of nodes with names have names -/
theorem trees_named : ∀ (x : List SNode) (acc : List RT), (∀ t ∈ acc, t.named = true) → (∀ n ∈ x, n.op = 2 → isName n.sym = true) → ∀ t ∈ treesL acc x, t.named = true
  | [], acc, h, _ => h
  | n :: x, acc, h, hx => by
    have hg : ∀ p, (acc.getD p .none).named = true := fun p => by
      rw [List.getD_eq_getElem?_getD]
      cases e : acc[p]? with
      | none => rfl
      | some t => exact h t (List.mem_of_getElem? e)
    refine trees_named x (acc ++ [mkT acc n]) (fun t ht => ?_) fun m hm => hx m (List.mem_cons_of_mem _ hm)
    rcases List.mem_append.1 ht with ht | ht
    · exact h t ht
    · simp at ht
      subst ht
      unfold mkT
      split
      · rfl
      split
      · rename_i h2; exact hx n (List.mem_cons_self ..) h2
      split
      · unfold RT.named; rw [hg, hg]; rfl
      split
      · unfold RT.named; rw [hg, hg]; rfl
      split
      · exact hg _
      · rfl
theorem compactB_cons {a : Bytes} {l : List Bytes} (h : (a :: l).Pairwise (fun x y => leS x y = true)) : (compactB (a :: l)).Pairwise (fun x y => leS x y = true ∧ x ≠ y) ∧ ∀ x ∈ compactB (a :: l), leS a x = true := by
  induction l generalizing a with
  | nil =>
    refine ⟨by simp [compactB], fun x hx => ?_⟩
    simp [compactB] at hx
    subst hx
    unfold leS; simp
  | cons b t ih =>
    have hp := List.pairwise_cons.1 h
    obtain ⟨i1, i2⟩ := ih hp.2
    have hab := hp.1 b (List.mem_cons_self ..)
    unfold compactB
    by_cases e : a = b
    · subst e
      rw [if_pos rfl]
      exact ⟨i1, i2⟩
    · rw [if_neg e]
      have tr : ∀ x ∈ compactB (b :: t), leS a x = true := fun x hx => by
        have := i2 x hx
        unfold leS at *
        rw [decide_eq_true_eq] at *
        exact List.le_trans hab this
      refine ⟨List.pairwise_cons.2 ⟨fun x hx => ⟨tr x hx, fun e2 => ?_⟩, i1⟩, fun x hx => ?_⟩
      · subst e2
        have h2 := i2 a hx
        unfold leS at h2 hab
        rw [decide_eq_true_eq] at h2 hab
        exact e (List.le_antisymm hab h2)
      · rcases List.mem_cons.1 hx with rfl | hx
        · unfold leS; simp
        · exact tr x hx
theorem compactB_mem2 {b : Bytes} : ∀ {l : List Bytes}, b ∈ l → b ∈ compactB l
  | [], h => h
  | [a], h => h
  | a :: c :: t, h => by
    simp only [compactB]
    by_cases e : a = c
    · rw [if_pos e]
      rcases List.mem_cons.1 h with h | h
      · subst h; exact compactB_mem2 (e ▸ List.mem_cons_self ..)
      · exact compactB_mem2 h
    · rw [if_neg e]
      rcases List.mem_cons.1 h with h | h
      · subst h; exact List.mem_cons_self ..
      · exact List.mem_cons_of_mem _ (compactB_mem2 h)
theorem symsS_iff {l : List SNode} (h : regexE l = 0) {b : Bytes} : b ∈ symsS l ↔ ∃ n ∈ l, n.op = 2 ∧ n.sym = b := by
  unfold symsS
  rw [if_pos h]
  have hm : b ∈ (symsOf l).mergeSort leS ↔ b ∈ symsOf l := List.mem_mergeSort
  have hs : b ∈ symsOf l ↔ ∃ n ∈ l, n.op = 2 ∧ n.sym = b := by
    unfold symsOf
    rw [List.mem_filterMap]
    constructor
    · rintro ⟨n, hn, e⟩
      by_cases h2 : n.op = 2
      · rw [if_pos h2] at e; injection e with e; exact ⟨n, hn, h2, e⟩
      · rw [if_neg h2] at e; cases e
    · rintro ⟨n, hn, h2, e⟩
      exact ⟨n, hn, by rw [if_pos h2, e]⟩
  rw [← hs, ← hm]
  exact ⟨compactB_mem, compactB_mem2⟩
theorem formedS_all {l : List SNode} (h0 : l ≠ []) (h : nodesOk 0 l = true) (hu : ∀ j, j < l.length - 1 → usedS l j = 1) : formedS l = true := by
  unfold formedS
  rw [h, Bool.true_and, Bool.and_eq_true]
  refine ⟨?_, by cases l <;> simp_all⟩
  rw [List.all_eq_true]
  intro j hj
  rw [hu j (List.mem_range.1 hj)]
  rfl
theorem movedS_op (k : Nat) (n : SNode) : (movedS k n).op = n.op ∧ (movedS k n).sym = n.sym := by
  unfold movedS
  split
  · exact ⟨rfl, rfl⟩
  · split <;> exact ⟨rfl, rfl⟩
theorem movedS_add (j k : Nat) (n : SNode) : movedS k (movedS j n) = movedS (j + k) n := by
  obtain ⟨op, sym, a, b⟩ := n
  unfold movedS
  simp only
  by_cases h : op = 3 ∨ op = 4
  · simp only [h, if_true]
    simp [Int.add_assoc]
  · simp only [h, if_false]
    by_cases h5 : op = 5
    · simp [h5, Int.add_assoc]
    · simp [h, h5]
theorem nodeOk_moved {i k : Nat} {n : SNode} (h : nodeOk i n = true) : nodeOk (i + k) (movedS k n) = true := by
  obtain ⟨op, sym, a, b⟩ := n
  rcases op_cases h with e | e | e | e | e | e <;> simp only at e <;> subst e <;> simp [nodeOk, movedS, partOk] at h ⊢ <;> (try omega)
  · exact ⟨⟨h.1.1, by omega, by omega⟩, by omega, by omega⟩
  · exact ⟨⟨h.1.1, by omega, by omega⟩, by omega, by omega⟩
  · exact ⟨⟨h.1.1, by omega, by omega⟩, h.2⟩
theorem refs_moved {i k : Nat} {n : SNode} (h : nodeOk i n = true) : refsN (movedS k n) = (refsN n).map (· + k) := by
  obtain ⟨op, sym, a, b⟩ := n
  rcases op_cases h with e | e | e | e | e | e <;> simp only at e <;> subst e <;> simp [nodeOk, movedS, partOk, refsN] at h ⊢ <;> omega
theorem nodesOk_moved (k : Nat) : ∀ (l : List SNode) (i : Nat), nodesOk i l = true → nodesOk (i + k) (l.map (movedS k)) = true
  | [], _, _ => rfl
  | n :: l, i, h => by
    unfold nodesOk at h
    rw [Bool.and_eq_true] at h
    rw [List.map_cons]
    unfold nodesOk
    rw [nodeOk_moved h.1, Bool.true_and, show i + k + 1 = i + 1 + k by omega]
    exact nodesOk_moved k l (i + 1) h.2
theorem count_add (k j : Nat) : ∀ L : List Nat, (L.map (· + k)).count j = if k ≤ j then L.count (j - k) else 0
  | [] => by simp
  | p :: L => by
    rw [List.map_cons, List.count_cons, count_add k j L]
    by_cases h : k ≤ j
    · rw [if_pos h, if_pos h, List.count_cons]
      have e : (p + k == j) = (p == j - k) := by rw [Bool.eq_iff_iff, beq_iff_eq, beq_iff_eq]; omega
      rw [e]
    · rw [if_neg h, if_neg h]
      have : p + k ≠ j := by omega
      simp [this]
theorem used_moved (k j : Nat) : ∀ (l : List SNode) (i : Nat), nodesOk i l = true → usedS (l.map (movedS k)) j = if k ≤ j then usedS l (j - k) else 0 := by
  intro l i h
  have : (l.map (movedS k)).flatMap refsN = (l.flatMap refsN).map (· + k) := by
    induction l generalizing i with
    | nil => rfl
    | cons n l ih =>
      unfold nodesOk at h
      rw [Bool.and_eq_true] at h
      rw [List.map_cons, List.flatMap_cons, List.flatMap_cons, List.map_append, ih (i + 1) h.2, refs_moved h.1]
  unfold usedS
  rw [this, count_add]
theorem used_append (a b : List SNode) (j : Nat) : usedS (a ++ b) j = usedS a j + usedS b j := by unfold usedS; rw [List.flatMap_append, List.count_append]
structure FL (l : List SNode) : Prop where
  ok : nodesOk 0 l = true
  ne : 1 ≤ l.length
  used : ∀ j, usedS l j = if j + 1 < l.length then 1 else 0
theorem FL.one {n : SNode} (h : nodeOk 0 n = true) (hr : refsN n = []) : FL [n] := ⟨by simp [nodesOk, h], by simp, fun j => by simp [usedS, hr]⟩
theorem FL.step {op : Int} (hop : op = 3 ∨ op = 4) {a b : List SNode} (ha : FL a) (hb : FL b) : FL (stepF op 1 a b) := by
  have h1 := ha.ne
  have h2 := hb.ne
  unfold stepF
  rw [if_neg (by decide)]
  have hlen : (a ++ b.map (movedS a.length)).length = a.length + b.length := by simp
  refine ⟨?_, by simp; omega, fun j => ?_⟩
  · rw [nodesOk_append, nodesOk_append, ha.ok, Nat.zero_add, Bool.true_and, Bool.and_eq_true, hlen]
    refine ⟨by have := nodesOk_moved a.length b 0 hb.ok; rwa [Nat.zero_add] at this, ?_⟩
    rw [Nat.zero_add]
    simp only [nodesOk, Bool.and_true]
    unfold nodeOk
    simp only
    rw [if_neg (by omega), if_neg (by omega), if_pos hop]
    simp [partOk]
    omega
  · rw [used_append, used_append, ha.used, used_moved a.length j b 0 hb.ok, hb.used, hlen]
    have hr : usedS [⟨op, [], (a.length : Int) - 1, ((a.length + b.length : Nat) : Int) - 1⟩] j = (if j = a.length - 1 then 1 else 0) + (if j = a.length + b.length - 1 then 1 else 0) := by
      have e : refsN ⟨op, [], (a.length : Int) - 1, ((a.length + b.length : Nat) : Int) - 1⟩ = [a.length - 1, a.length + b.length - 1] := by
        unfold refsN
        rw [if_pos hop]
        simp only
        rw [show ((a.length : Int) - 1).toNat = a.length - 1 by omega, show (((a.length + b.length : Nat) : Int) - 1).toNat = a.length + b.length - 1 by omega]
      unfold usedS
      rw [List.flatMap_cons, List.flatMap_nil, List.append_nil, e, List.count_cons, List.count_cons, List.count_nil, Nat.zero_add, Nat.add_comm]
      congr 1
      · by_cases e : a.length - 1 = j
        · rw [if_pos (by simpa using e), if_pos e.symm]
        · rw [if_neg (by simpa using e), if_neg (Ne.symm e)]
      · by_cases e : a.length + b.length - 1 = j
        · rw [if_pos (by simpa using e), if_pos e.symm]
        · rw [if_neg (by simpa using e), if_neg (Ne.symm e)]
    rw [hr, List.length_append, hlen, List.length_singleton]
    rcases (by omega : j + 1 < a.length ∨ j + 1 = a.length ∨ (a.length ≤ j ∧ j - a.length + 1 < b.length) ∨ j + 1 = a.length + b.length ∨ a.length + b.length ≤ j) with h | h | h | h | h <;> (repeat (first | rw [if_pos (by omega)] | rw [if_neg (by omega)]))
theorem FL.many {a : List SNode} (ha : FL a) : FL (manyS a) := by
  have h1 := ha.ne
  unfold manyS
  refine ⟨?_, by simp, fun j => ?_⟩
  · rw [nodesOk_append, ha.ok, Bool.true_and, Nat.zero_add]
    simp only [nodesOk, Bool.and_true]
    unfold nodeOk
    simp [partOk]
    omega
  · rw [used_append, ha.used]
    have hr : usedS [⟨5, [], (a.length : Int) - 1, 0⟩] j = if j = a.length - 1 then 1 else 0 := by
      have e : refsN ⟨5, [], (a.length : Int) - 1, 0⟩ = [((a.length : Int) - 1).toNat] := rfl
      unfold usedS
      rw [List.flatMap_cons, List.flatMap_nil, List.append_nil, e, List.count_cons, List.count_nil, Nat.zero_add, show ((a.length : Int) - 1).toNat = a.length - 1 by omega]
      by_cases e : a.length - 1 = j
      · rw [if_pos (by simpa using e), if_pos e.symm]
      · rw [if_neg (by simpa using e), if_neg (Ne.symm e)]
    rw [hr, List.length_append, List.length_singleton]
    rcases (by omega : j + 1 < a.length ∨ j + 1 = a.length ∨ a.length ≤ j) with h | h | h <;> (repeat (first | rw [if_pos (by omega)] | rw [if_neg (by omega)]))
theorem lay_FL : ∀ t : RT, FL t.lay
  | .none => FL.one (by decide) (by decide)
  | .empty => FL.one (by decide) (by decide)
  | .sym s => FL.one (by simp [nodeOk]) (by simp [refsN])
  | .cat a b => FL.step (.inl rfl) (lay_FL a) (lay_FL b)
  | .alt a b => FL.step (.inr rfl) (lay_FL a) (lay_FL b)
  | .star a => FL.many (lay_FL a)
theorem FL.formed {l : List SNode} (h : FL l) : formedS l = true := by
  refine formedS_all (by have := h.ne; intro e; rw [e] at this; simp at this) h.ok fun j hj => ?_
  rw [h.used, if_pos (by omega)]
theorem paren_two (c : Bool) (x : Bytes) : (paren c x).length ≤ x.length + 2 := by unfold paren; split <;> simp
theorem step_word {op : Int} {a b : List SNode} {w : Bytes} (h : op ≠ 2) : (∃ n ∈ stepF op 1 a b, n.op = 2 ∧ n.sym = w) ↔ (∃ n ∈ a, n.op = 2 ∧ n.sym = w) ∨ (∃ n ∈ b, n.op = 2 ∧ n.sym = w) := by
  unfold stepF
  rw [if_neg (by decide)]
  constructor
  · rintro ⟨n, hn, h2, e⟩
    rcases List.mem_append.1 hn with hn | hn
    · rcases List.mem_append.1 hn with hn | hn
      · exact .inl ⟨n, hn, h2, e⟩
      · obtain ⟨m, hm, rfl⟩ := List.mem_map.1 hn
        obtain ⟨q1, q2⟩ := movedS_op a.length m
        exact .inr ⟨m, hm, by rw [← q1]; exact h2, by rw [← q2]; exact e⟩
    · simp at hn; subst hn; exact absurd h2 h
  · rintro (⟨n, hn, h2, e⟩ | ⟨n, hn, h2, e⟩)
    · exact ⟨n, List.mem_append_left _ (List.mem_append_left _ hn), h2, e⟩
    · obtain ⟨q1, q2⟩ := movedS_op a.length n
      exact ⟨movedS a.length n, List.mem_append_left _ (List.mem_append_right _ (List.mem_map_of_mem hn)), by rw [q1]; exact h2, by rw [q2]; exact e⟩
/-- the words of a tree's nodes -/
theorem lay_word (b : Bytes) : ∀ t : RT, (∃ n ∈ t.lay, n.op = 2 ∧ n.sym = b) ↔ 0 < t.cnt b
  | .none => by simp [RT.lay, noneN, RT.cnt]
  | .empty => by simp [RT.lay, emptyN, RT.cnt]
  | .sym s => by
    simp only [RT.lay, RT.cnt]
    by_cases e : s = b
    · simp [e]
    · simp [e]
  | .cat x y => by
    simp only [RT.lay, RT.cnt]
    rw [step_word, lay_word b x, lay_word b y]
    · omega
    · decide
  | .alt x y => by
    simp only [RT.lay, RT.cnt]
    rw [step_word, lay_word b x, lay_word b y]
    · omega
    · decide
  | .star x => by
    simp only [RT.lay, RT.cnt]
    rw [← lay_word b x]
    unfold manyS
    constructor
    · rintro ⟨n, hn, h2, e⟩
      rcases List.mem_append.1 hn with hn | hn
      · exact ⟨n, hn, h2, e⟩
      · simp at hn; subst hn; simp at h2
    · rintro ⟨n, hn, h⟩
      exact ⟨n, List.mem_append_left _ hn, h⟩
/-- the tree of a tree's nodes, behind other ones -/
theorem trees_lay : ∀ (t : RT) (acc : List RT), ∃ X, treesL acc (t.lay.map (movedS acc.length)) = acc ++ X ++ [t] ∧ X.length + 1 = t.size
  | .none, acc => ⟨[], by simp [RT.lay, treesL, mkT, movedS, noneN], rfl⟩
  | .empty, acc => ⟨[], by simp [RT.lay, treesL, mkT, movedS, emptyN], rfl⟩
  | .sym s, acc => ⟨[], by simp [RT.lay, treesL, mkT, movedS], rfl⟩
  | .cat a b, acc => by
    obtain ⟨X, hX, hXl⟩ := trees_lay a acc
    obtain ⟨Y, hY, hYl⟩ := trees_lay b (acc ++ X ++ [a])
    have h1 := RT.lay_len a
    have h2 := RT.lay_len b
    refine ⟨X ++ [a] ++ Y ++ [b], ?_, by simp [RT.size]; omega⟩
    unfold RT.lay stepF
    rw [if_neg (by decide), List.map_append, List.map_append, treesL_append, treesL_append, hX, List.map_map]
    have e : (movedS acc.length ∘ movedS a.lay.length) = movedS (acc ++ X ++ [a]).length := by
      funext n
      show movedS _ (movedS _ n) = _
      rw [movedS_add]
      congr 1
      simp; omega
    rw [e, hY, List.length_append, List.length_map, h1, h2]
    show (acc ++ X ++ [a] ++ Y ++ [b]) ++ [mkT _ _] = _
    have hm : mkT (acc ++ X ++ [a] ++ Y ++ [b]) (movedS acc.length ⟨3, [], (a.size : Int) - 1, ((a.size + b.size : Nat) : Int) - 1⟩) = .cat a b := by
      show RT.cat (List.getD _ ((a.size : Int) - 1 + (acc.length : Int)).toNat _) (List.getD _ (((a.size + b.size : Nat) : Int) - 1 + (acc.length : Int)).toNat _) = _
      have g1 : (acc ++ X ++ [a] ++ Y ++ [b]).getD ((a.size : Int) - 1 + (acc.length : Int)).toNat .none = a := by
        rw [show ((a.size : Int) - 1 + (acc.length : Int)).toNat = (acc ++ X).length by simp; omega, List.getD_eq_getElem?_getD]
        simp
      have g2 : (acc ++ X ++ [a] ++ Y ++ [b]).getD (((a.size + b.size : Nat) : Int) - 1 + (acc.length : Int)).toNat .none = b := by
        rw [show (((a.size + b.size : Nat) : Int) - 1 + (acc.length : Int)).toNat = (acc ++ X ++ [a] ++ Y).length by simp; omega, List.getD_eq_getElem?_getD]
        rw [List.getElem?_append_right (Nat.le_refl _)]
        simp
      rw [g1, g2]
    rw [hm]
    simp
  | .alt a b, acc => by
    obtain ⟨X, hX, hXl⟩ := trees_lay a acc
    obtain ⟨Y, hY, hYl⟩ := trees_lay b (acc ++ X ++ [a])
    have h1 := RT.lay_len a
    have h2 := RT.lay_len b
    refine ⟨X ++ [a] ++ Y ++ [b], ?_, by simp [RT.size]; omega⟩
    unfold RT.lay stepF
    rw [if_neg (by decide), List.map_append, List.map_append, treesL_append, treesL_append, hX, List.map_map]
    have e : (movedS acc.length ∘ movedS a.lay.length) = movedS (acc ++ X ++ [a]).length := by
      funext n
      show movedS _ (movedS _ n) = _
      rw [movedS_add]
      congr 1
      simp; omega
    rw [e, hY, List.length_append, List.length_map, h1, h2]
    show (acc ++ X ++ [a] ++ Y ++ [b]) ++ [mkT _ _] = _
    have hm : mkT (acc ++ X ++ [a] ++ Y ++ [b]) (movedS acc.length ⟨4, [], (a.size : Int) - 1, ((a.size + b.size : Nat) : Int) - 1⟩) = .alt a b := by
      show RT.alt (List.getD _ ((a.size : Int) - 1 + (acc.length : Int)).toNat _) (List.getD _ (((a.size + b.size : Nat) : Int) - 1 + (acc.length : Int)).toNat _) = _
      have g1 : (acc ++ X ++ [a] ++ Y ++ [b]).getD ((a.size : Int) - 1 + (acc.length : Int)).toNat .none = a := by
        rw [show ((a.size : Int) - 1 + (acc.length : Int)).toNat = (acc ++ X).length by simp; omega, List.getD_eq_getElem?_getD]
        simp
      have g2 : (acc ++ X ++ [a] ++ Y ++ [b]).getD (((a.size + b.size : Nat) : Int) - 1 + (acc.length : Int)).toNat .none = b := by
        rw [show (((a.size + b.size : Nat) : Int) - 1 + (acc.length : Int)).toNat = (acc ++ X ++ [a] ++ Y).length by simp; omega, List.getD_eq_getElem?_getD]
        rw [List.getElem?_append_right (Nat.le_refl _)]
        simp
      rw [g1, g2]
    rw [hm]
    simp
  | .star a, acc => by
    obtain ⟨X, hX, hXl⟩ := trees_lay a acc
    have h1 := RT.lay_len a
    refine ⟨X ++ [a], ?_, by simp [RT.size]; omega⟩
    unfold RT.lay manyS
    rw [List.map_append, treesL_append, hX, h1]
    show (acc ++ X ++ [a]) ++ [mkT _ _] = _
    have hm : mkT (acc ++ X ++ [a]) (movedS acc.length ⟨5, [], (a.size : Int) - 1, 0⟩) = .star a := by
      show RT.star (List.getD _ ((a.size : Int) - 1 + (acc.length : Int)).toNat _) = _
      have g1 : (acc ++ X ++ [a]).getD ((a.size : Int) - 1 + (acc.length : Int)).toNat .none = a := by
        rw [show ((a.size : Int) - 1 + (acc.length : Int)).toNat = (acc ++ X).length by simp; omega, List.getD_eq_getElem?_getD]
        simp
      rw [g1]
    rw [hm]
    simp
theorem map_moved_zero (l : List SNode) : l.map (movedS 0) = l := by
  induction l with
  | nil => rfl
  | cons n t ih => rw [List.map_cons, ih, movedS_zero]
theorem treeN_lay (t : RT) : treeN t.lay = t := by
  obtain ⟨X, hX, _⟩ := trees_lay t []
  rw [List.length_nil, map_moved_zero] at hX
  unfold treeN
  rw [hX]
  simp
theorem txt_bound : ∀ t : RT, t.named = true → t.txt.length ≤ 70 * t.size
  | .none, _ => by simp [RT.size, RT.txt]
  | .empty, _ => by simp [RT.size, RT.txt]
  | .sym s, h => by
    obtain ⟨c, q, e, _, _, h64⟩ := isName_head h
    simp only [RT.size, RT.txt]; omega
  | .cat a b, h => by
    unfold RT.named at h
    rw [Bool.and_eq_true] at h
    have h1 := txt_bound a h.1
    have h2 := txt_bound b h.2
    have p1 := paren_two a.isAlt a.txt
    have p2 := paren_two (b.isAlt || b.isCat) b.txt
    simp only [RT.size, RT.txt, List.length_append, List.length_cons]
    omega
  | .alt a b, h => by
    unfold RT.named at h
    rw [Bool.and_eq_true] at h
    have h1 := txt_bound a h.1
    have h2 := txt_bound b h.2
    have p2 := paren_two b.isAlt b.txt
    simp only [RT.size, RT.txt, List.length_append, List.length_cons]
    omega
  | .star a, h => by
    have h1 := txt_bound a h
    have p1 := paren_two (a.isAlt || a.isCat) a.txt
    simp only [RT.size, RT.txt, List.length_append, List.length_cons, List.length_nil]
    omega
/-- a row that rises is told by what stands in it -/
theorem rise_eq : ∀ {x y : List Bytes}, x.Pairwise (fun a b => leS a b = true ∧ a ≠ b) → y.Pairwise (fun a b => leS a b = true ∧ a ≠ b) → (∀ b, b ∈ x ↔ b ∈ y) → x = y
  | [], [], _, _, _ => rfl
  | [], b :: y, _, _, h => by have := (h b).2 (List.mem_cons_self ..); simp at this
  | a :: x, [], _, _, h => by have := (h a).1 (List.mem_cons_self ..); simp at this
  | a :: x, b :: y, hx, hy, h => by
    have hx2 := List.pairwise_cons.1 hx
    have hy2 := List.pairwise_cons.1 hy
    have hab : a = b := by
      rcases List.mem_cons.1 ((h a).1 (List.mem_cons_self ..)) with e | h1
      · exact e
      · rcases List.mem_cons.1 ((h b).2 (List.mem_cons_self ..)) with e | h2
        · exact e.symm
        · have q1 := (hy2.1 a h1).1
          have q2 := (hx2.1 b h2).1
          unfold leS at q1 q2
          rw [decide_eq_true_eq] at q1 q2
          exact List.le_antisymm q2 q1
    subst hab
    rw [rise_eq hx2.2 hy2.2 fun b => ?_]
    constructor
    · intro hb
      rcases List.mem_cons.1 ((h b).1 (List.mem_cons_of_mem _ hb)) with e | h1
      · exact absurd e.symm (hx2.1 b hb).2
      · exact h1
    · intro hb
      rcases List.mem_cons.1 ((h b).2 (List.mem_cons_of_mem _ hb)) with e | h1
      · exact absurd e.symm (hy2.1 b hb).2
      · exact h1
theorem symsS_rise (l : List SNode) : (symsS l).Pairwise (fun a b => leS a b = true ∧ a ≠ b) := by
  unfold symsS
  split
  · have hsort : ((symsOf l).mergeSort leS).Pairwise (fun x y => leS x y = true) := by
      refine List.pairwise_mergeSort ?_ ?_ _
      · intro a b c h1 h2
        unfold leS at *
        rw [decide_eq_true_eq] at *
        exact List.le_trans h1 h2
      · intro a b
        unfold leS
        rw [Bool.or_eq_true, decide_eq_true_eq, decide_eq_true_eq]
        exact List.le_total a b
    generalize (symsOf l).mergeSort leS = s at hsort
    cases s with
    | nil => simp [compactB]
    | cons a t => exact (compactB_cons hsort).1
  · simp
/-- what the tree of nodes has again -/
structure Again (l l' : List SNode) : Prop where
  parse : regexP (32 :: (textN l ++ [32])) = (l', 0)
  len : l'.length = l.length
  syms : symsS l' = symsS l
  text : textN l' = textN l
  ok : regexE l' = 0
theorem again_of {l : List SNode} (h : regexE l = 0) (hl : l.length ≤ 800) : Again l (treeN l).lay := by
  have hn := treeN_named h
  have hf : formedS l = true := by
    unfold regexE at h
    split at h
    · cases h
    split at h
    · cases h
    rename_i hf
    simpa using hf
  have hs := treeN_size hf
  have hb := txt_bound (treeN l) hn
  have hok : regexE (treeN l).lay = 0 := by
    unfold regexE
    rw [if_neg (by rw [RT.lay_len]; omega), if_neg (by rw [(lay_FL (treeN l)).formed]; simp), if_neg]
    rw [Bool.not_eq_true, List.any_eq_false]
    intro n hnl
    by_cases h2 : n.op = 2
    · have := cnt_named _ hn n.sym ((lay_word n.sym (treeN l)).1 ⟨n, hnl, h2, rfl⟩)
      simp [this]
    · simp [h2]
  refine ⟨regexP_txt (treeN l) hn (by omega) (by omega), by rw [RT.lay_len]; omega, ?_, by unfold textN; rw [treeN_lay], hok⟩
  refine rise_eq (symsS_rise _) (symsS_rise _) fun b => ?_
  rw [symsS_iff hok, symsS_iff h, lay_word, treeN_word hf]
def wordsT (t : SType) : List Bytes := [typeW, t.name, [61], t.label] ++ (t.attrs.map (fun a => 64 :: a) ++ ((if t.key = [] then [] else [keyW, 64 :: t.key]) ++ (if t.text then [textW] else [[123], textN t.nodes, [125]])))
def lineT (t : SType) : Bytes := joinT 32 (wordsT t)
def textS (ts : List SType) : Bytes := ts.flatMap fun t => lineT t ++ [10]
def againT (t : SType) : SType := if t.text then t else { t with nodes := (treeN t.nodes).lay }
/-- what is behind the first word -/
def tl (ws : List Bytes) : Bytes := ws.flatMap fun w => 32 :: w
theorem joinT_tl (w : Bytes) : ∀ ws : List Bytes, joinT 32 (w :: ws) = w ++ tl ws
  | [] => by simp [joinT, tl]
  | x :: ws => by
    have := joinT_tl x ws
    show w ++ 32 :: joinT 32 (x :: ws) = _
    rw [this]
    simp [tl]
theorem tl_cons (w : Bytes) (ws : List Bytes) : tl (w :: ws) = 32 :: (w ++ tl ws) := by simp [tl]
/-- a word: no blank, no brace -/
def Wd (w : Bytes) : Prop := w ≠ [] ∧ w.all inWord = true
theorem Wd.head {w : Bytes} (h : Wd w) : ∃ c r, w = c :: r ∧ blankU c = false := by
  obtain ⟨h1, h2⟩ := h
  cases w with
  | nil => exact absurd rfl h1
  | cons c r =>
    refine ⟨c, r, rfl, ?_⟩
    rw [List.all_cons, Bool.and_eq_true] at h2
    have := h2.1
    unfold inWord at this
    simp at this
    exact this.1
theorem tl_stop (ws : List Bytes) : tl ws = [] ∨ ∃ r, tl ws = 32 :: r := by
  cases ws with
  | nil => exact .inl rfl
  | cons w ws => exact .inr ⟨_, tl_cons w ws⟩
theorem takeW {w : Bytes} (h : w.all inWord = true) (ws : List Bytes) : (w ++ tl ws).takeWhile inWord = w ∧ (w ++ tl ws).dropWhile inWord = tl ws := by
  have h1 : (tl ws).takeWhile inWord = [] ∧ (tl ws).dropWhile inWord = tl ws := by
    rcases tl_stop ws with e | ⟨r, e⟩ <;> rw [e]
    · exact ⟨rfl, rfl⟩
    · exact ⟨List.takeWhile_cons_of_neg (by decide), List.dropWhile_cons_of_neg (by decide)⟩
  rw [List.takeWhile_append_of_pos (fun x hx => List.all_eq_true.1 h x hx), List.dropWhile_append_of_pos (fun x hx => List.all_eq_true.1 h x hx), h1.1, h1.2, List.append_nil]
  exact ⟨rfl, rfl⟩
theorem next_word {w : Bytes} (h : Wd w) (ws : List Bytes) : nextL (w ++ tl ws) = w ++ tl ws := by
  obtain ⟨c, r, e, hc⟩ := h.head
  rw [e]; exact nextB_cons hc
theorem next_tl {w : Bytes} (h : ∃ c r, w = c :: r ∧ blankU c = false) (ws : List Bytes) : nextL (tl (w :: ws)) = w ++ tl ws := by
  obtain ⟨c, r, e, hc⟩ := h
  rw [tl_cons]
  unfold nextL
  rw [List.dropWhile_cons_of_pos (by decide), e]
  exact List.dropWhile_cons_of_neg (by simp [hc])
theorem word_first {w : Bytes} (h : Wd w) (ws : List Bytes) : wordW (w ++ tl ws) = w ∧ wordR (w ++ tl ws) = tl ws := by
  unfold wordW wordR
  rw [next_word h]
  exact takeW h.2 ws
theorem word_tl {w : Bytes} (h : Wd w) (ws : List Bytes) : wordW (tl (w :: ws)) = w ∧ wordR (tl (w :: ws)) = tl ws := by
  unfold wordW wordR
  rw [next_tl h.head]
  exact takeW h.2 ws
theorem part_word {c : UInt8} (h : partU c = true) : inWord c = true ∧ c ≠ 10 ∧ c.toNat < 128 := by
  unfold partU at h
  have h2 : (45 : Int) ≤ (c.toNat : Nat) ∧ ((c.toNat : Nat) : Int) ≤ 122 := by
    unfold partB letterB decB at h
    simp only [Bool.or_eq_true, decide_eq_true_eq] at h
    omega
  refine ⟨?_, ?_, by omega⟩
  · unfold inWord blankU blankB
    simp only [Bool.not_eq_true', Bool.or_eq_false_iff, decide_eq_false_iff_not, beq_eq_false_iff_ne]
    refine ⟨by omega, ?_⟩
    rintro rfl
    revert h
    decide
  · rintro rfl
    revert h
    decide
theorem name_word {s : Bytes} (h : isName s = true) : Wd s ∧ (∀ c ∈ s, partU c = true) ∧ s.length ≤ 64 := by
  obtain ⟨c, r, e, _, hall, h64⟩ := isName_head h
  rw [List.all_eq_true] at hall
  exact ⟨⟨by rw [e]; simp, List.all_eq_true.2 fun c hc => (part_word (hall c hc)).1⟩, hall, h64⟩
theorem at_word {s : Bytes} (h : isName s = true) : Wd (64 :: s) := by
  refine ⟨by simp, ?_⟩
  rw [List.all_cons, (name_word h).1.2]
  decide
theorem attrsL_next (f : Nat) (acc : List Bytes) (r : Bytes) : attrsL f acc (nextL r) = attrsL f acc r := by
  cases f with
  | zero => unfold attrsL; rw [nextB_idem]
  | succ f => unfold attrsL; rw [nextB_idem]
/-- attributes are read one by one -/
theorem attrsL_reads {w : Bytes} {ws : List Bytes} (hw : ∃ c r, w = c :: r ∧ blankU c = false ∧ c ≠ 64) : ∀ (al : List Bytes) (f : Nat) (acc : List Bytes), al.length ≤ f → (∀ a ∈ al, isName a = true) →
    attrsL f acc (tl (al.map (fun a => 64 :: a) ++ w :: ws)) = some (acc ++ al, w ++ tl ws) := by
  intro al
  induction al with
  | nil =>
    intro f acc _ _
    obtain ⟨c, r, e, hc, hc2⟩ := hw
    have hn := next_tl (ws := ws) ⟨c, r, e, hc⟩
    rw [List.map_nil, List.nil_append, List.append_nil]
    cases f with
    | zero => unfold attrsL; rw [hn]
    | succ f =>
      unfold attrsL
      rw [hn, if_neg]
      rw [e]; simpa using hc2
  | cons a al ih =>
    intro f acc hf hn
    obtain ⟨f, rfl⟩ : ∃ g, f = g + 1 := ⟨f - 1, by simp at hf; omega⟩
    have ha := hn a (List.mem_cons_self ..)
    have hwd := at_word ha
    rw [List.map_cons, List.cons_append]
    have hnx := next_tl hwd.head (al.map (fun a => 64 :: a) ++ w :: ws)
    have hww := word_first hwd (al.map (fun a => 64 :: a) ++ w :: ws)
    unfold attrsL
    rw [hnx, if_pos (by simp)]
    have hb : attrB (64 :: a ++ tl (al.map (fun a => 64 :: a) ++ w :: ws)) = true := by unfold attrB; rw [hww.1]; simp [ha]
    have hv : attrW (64 :: a ++ tl (al.map (fun a => 64 :: a) ++ w :: ws)) = a := by unfold attrW; rw [hww.1]; simp
    rw [if_pos hb, hv, hww.2, ih f (acc ++ [a]) (by simp at hf; omega) fun x hx => hn x (List.mem_cons_of_mem _ hx)]
    simp
theorem contentL_next (r : Bytes) : contentL (nextL r) = contentL r := by
  unfold contentL wordW wordR
  rw [nextB_idem]
theorem content_text : contentL (tl [textW]) = some (true, []) := rfl
theorem content_nodes {l : List SNode} (h : regexE l = 0) (hl : l.length ≤ 800) : contentL (tl [[123], textN l, [125]]) = some (false, (treeN l).lay) := by
  have ha := again_of h hl
  have e : nextL (tl [[123], textN l, [125]]) = 123 :: (32 :: (textN l ++ [32, 125])) := by
    rw [next_tl ⟨123, [], rfl, by decide⟩, tl_cons, tl_cons]
    simp [tl]
  have ht : trimR (32 :: (textN l ++ [32, 125])) = 32 :: (textN l ++ [32, 125]) := by
    unfold trimR
    rw [show (32 :: (textN l ++ [32, 125])).reverse = 125 :: 32 :: ((textN l).reverse ++ [32]) by simp]
    rw [List.dropWhile_cons_of_neg (by decide)]
    simp
  have hc : closedB (123 :: (32 :: (textN l ++ [32, 125]))) = true := by
    unfold closedB
    rw [List.drop_one, List.tail_cons, ht]
    simp [List.getLast?_cons]
  have hi : insideL (123 :: (32 :: (textN l ++ [32, 125]))) = 32 :: (textN l ++ [32]) := by
    unfold insideL
    rw [if_pos hc, List.drop_one, List.tail_cons, ht]
    rw [show (32 :: (textN l ++ [32, 125])) = (32 :: (textN l ++ [32])) ++ [125] by simp, List.dropLast_concat]
  unfold contentL
  rw [e, if_pos (by simp), hc, hi, ha.parse]
  simp
/-- what a type of a schema that may be has -/
structure TOk (t : SType) : Prop where
  name : isName t.name = true
  label : isName t.label = true
  attrs : ∀ a ∈ t.attrs, isName a = true
  key : t.key = [] ∨ isName t.key = true
  text : t.text = true → t.nodes = []
  nodes : t.text = false → regexE t.nodes = 0
  small : t.nodes.length ≤ 24
  few : t.attrs.length ≤ 5
theorem readL_line {t : SType} (h : TOk t) : readL (lineT t) = some (againT t) := by
  have htw : Wd typeW := ⟨by decide, by decide⟩
  have heq : Wd [61] := ⟨by decide, by decide⟩
  have hnw := (name_word h.name).1
  have hlw := (name_word h.label).1
  obtain ⟨rest2, hr2⟩ : ∃ r, r = (if t.text then [textW] else [[123], textN t.nodes, [125]] : List Bytes) := ⟨_, rfl⟩
  obtain ⟨rest1, hr1⟩ : ∃ r, r = ((if t.key = [] then [] else [keyW, 64 :: t.key]) ++ rest2 : List Bytes) := ⟨_, rfl⟩
  have hrest2 : ∃ w ws, rest2 = w :: ws ∧ (∃ c r, w = c :: r ∧ blankU c = false ∧ c ≠ 64) ∧ wordW (w ++ tl ws) ≠ keyW := by
    rw [hr2]
    cases t.text with
    | true => exact ⟨textW, [], rfl, ⟨116, [101, 120, 116], rfl, by decide, by decide⟩, by decide⟩
    | false =>
      refine ⟨[123], [textN t.nodes, [125]], rfl, ⟨123, [], rfl, by decide, by decide⟩, ?_⟩
      unfold wordW
      rw [List.singleton_append, nextB_cons (by decide), List.takeWhile_cons_of_neg (by decide)]
      decide
  have hcont : contentL (tl rest2) = some (t.text, (againT t).nodes) := by
    rw [hr2]
    unfold againT
    cases e : t.text with
    | true => rw [if_pos rfl, if_pos rfl, content_text, h.text e]
    | false => rw [if_neg (by simp), if_neg (by simp), content_nodes (h.nodes e) (by have := h.small; omega)]
  obtain ⟨w2, ws2, e2, hc2, hk2⟩ := hrest2
  have hkwd : Wd keyW := ⟨by decide, by decide⟩
  obtain ⟨w1, ws1, e1, hc1⟩ : ∃ w ws, rest1 = w :: ws ∧ (∃ c r, w = c :: r ∧ blankU c = false ∧ c ≠ 64) := by
    rw [hr1]
    by_cases hk : t.key = []
    · rw [if_pos hk, List.nil_append]; exact ⟨w2, ws2, e2, hc2⟩
    · rw [if_neg hk]; exact ⟨keyW, _, rfl, 107, [101, 121], rfl, by decide, by decide⟩
  have hline : lineT t = typeW ++ tl (t.name :: [61] :: t.label :: (t.attrs.map (fun a => 64 :: a) ++ w1 :: ws1)) := by
    unfold lineT wordsT
    rw [← hr2, ← hr1, e1]
    simp only [List.cons_append, List.nil_append]
    rw [joinT_tl]
  have hkey : ∃ r5, keyL (w1 ++ tl ws1) = some (t.key, r5) ∧ contentL r5 = contentL (tl rest2) := by
    by_cases hk : t.key = []
    · rw [if_pos hk, List.nil_append, e2] at hr1
      rw [e1] at hr1
      injection hr1 with q1 q2
      subst q1; subst q2
      unfold keyL
      rw [if_neg hk2, hk]
      refine ⟨_, rfl, ?_⟩
      rw [e2]
      obtain ⟨c, r, e, hc, _⟩ := hc2
      rw [← next_tl ⟨c, r, e, hc⟩, contentL_next]
    · have hkn : isName t.key = true := h.key.resolve_left hk
      rw [if_neg hk] at hr1
      have hr1 : rest1 = keyW :: ((64 :: t.key) :: rest2) := hr1
      rw [e1] at hr1
      injection hr1 with q1 q2
      subst q1; subst q2
      have g1 := word_first hkwd ((64 :: t.key) :: rest2)
      have g2 := word_tl (at_word hkn) rest2
      unfold keyL
      rw [g1.1, if_pos rfl, g1.2]
      have hb : attrB (tl ((64 :: t.key) :: rest2)) = true := by unfold attrB; rw [g2.1]; simp [hkn]
      have hv : attrW (tl ((64 :: t.key) :: rest2)) = t.key := by unfold attrW; rw [g2.1]; simp
      rw [if_pos hb, hv]
      refine ⟨_, rfl, ?_⟩
      rw [g2.2]
  obtain ⟨r5, hk5, hc5⟩ := hkey
  rw [hline]
  have a0 := word_first htw (t.name :: [61] :: t.label :: (t.attrs.map (fun a => 64 :: a) ++ w1 :: ws1))
  have a1 := word_tl hnw ([61] :: t.label :: (t.attrs.map (fun a => 64 :: a) ++ w1 :: ws1))
  have a2 := word_tl heq (t.label :: (t.attrs.map (fun a => 64 :: a) ++ w1 :: ws1))
  have a3 := word_tl hlw (t.attrs.map (fun a => 64 :: a) ++ w1 :: ws1)
  have hfuel : t.attrs.length ≤ (tl (t.attrs.map (fun a => 64 :: a) ++ w1 :: ws1)).length := by
    have : ∀ ws : List Bytes, ws.length ≤ (tl ws).length := fun ws => by
      induction ws with
      | nil => simp
      | cons w ws ih => rw [tl_cons]; simp; omega
    have := this (t.attrs.map (fun a => 64 :: a) ++ w1 :: ws1)
    simp at this ⊢
    omega
  have ha := attrsL_reads hc1 t.attrs _ [] hfuel h.attrs (ws := ws1)
  unfold readL
  rw [a0.1, a0.2, if_neg (by simp)]
  simp only
  rw [a1.1, a1.2, if_neg (by rw [h.name]; simp), a2.1, a2.2, if_neg (by simp), a3.1, a3.2, if_neg (by rw [h.label]; simp), ha]
  simp only
  rw [hk5]
  simp only
  rw [hc5, hcont]
  simp only
  congr 1
  unfold againT
  cases e : t.text with
  | true => rw [if_pos rfl]; cases t; simp_all
  | false => rw [if_neg (by simp)]; simp_all
/-! ### which bytes a text has -/
def okB (c : UInt8) : Bool := partU c || [32, 61, 64, 123, 125, 33, 40, 41, 42, 44, 124].contains c
theorem okB_facts {c : UInt8} (h : okB c = true) : c ≠ 10 ∧ c.toNat < 128 := by
  unfold okB at h
  rw [Bool.or_eq_true] at h
  rcases h with h | h
  · exact (part_word h).2
  · rw [List.contains_iff_mem] at h
    simp only [List.mem_cons, List.not_mem_nil, or_false] at h
    rcases h with rfl | rfl | rfl | rfl | rfl | rfl | rfl | rfl | rfl | rfl | rfl <;> decide
theorem okB_part {s : Bytes} (h : isName s = true) : s.all okB = true := List.all_eq_true.2 fun c hc => by unfold okB; rw [(name_word h).2.1 c hc]; rfl
theorem paren_okB {x : Bytes} (q : Bool) (h : x.all okB = true) : (paren q x).all okB = true := by
  unfold paren
  split
  · rw [List.all_cons, List.all_append, h]; decide
  · exact h
theorem txt_okB : ∀ t : RT, t.named = true → t.txt.all okB = true
  | .none, _ => by decide
  | .empty, _ => by decide
  | .sym s, h => okB_part h
  | .cat a b, h => by
    unfold RT.named at h
    rw [Bool.and_eq_true] at h
    unfold RT.txt
    rw [List.all_append, List.all_cons, paren_okB _ (txt_okB a h.1), paren_okB _ (txt_okB b h.2)]
    decide
  | .alt a b, h => by
    unfold RT.named at h
    rw [Bool.and_eq_true] at h
    unfold RT.txt
    rw [List.all_append, List.all_cons, txt_okB a h.1, paren_okB _ (txt_okB b h.2)]
    decide
  | .star a, h => by
    unfold RT.txt
    rw [List.all_append, paren_okB _ (txt_okB a h)]
    decide
theorem joinT_okB : ∀ l : List Bytes, (∀ x ∈ l, x.all okB = true) → (joinT 32 l).all okB = true
  | [], _ => rfl
  | [x], h => h x (by simp)
  | x :: y :: t, h => by
    simp only [joinT]
    rw [List.all_append, List.all_cons, h x (by simp), joinT_okB (y :: t) fun z hz => h z (List.mem_cons_of_mem _ hz)]
    decide
theorem textN_named {l : List SNode} (h : regexE l = 0) (hl : l.length ≤ 24) : (textN l).all okB = true ∧ (textN l).length ≤ 1680 := by
  have hn := treeN_named h
  have hf : formedS l = true := by
    unfold regexE at h
    split at h
    · cases h
    split at h
    · cases h
    rename_i hf
    simpa using hf
  have hs := treeN_size hf
  have hb := txt_bound (treeN l) hn
  exact ⟨txt_okB _ hn, by unfold textN; omega⟩
theorem words_ok {t : SType} (h : TOk t) : ∀ w ∈ wordsT t, w.all okB = true := by
  intro w hw
  unfold wordsT at hw
  rcases List.mem_append.1 hw with hw | hw
  · simp only [List.mem_cons, List.not_mem_nil, or_false] at hw
    rcases hw with rfl | rfl | rfl | rfl
    · decide
    · exact okB_part h.name
    · decide
    · exact okB_part h.label
  · rcases List.mem_append.1 hw with hw | hw
    · obtain ⟨a, ha, rfl⟩ := List.mem_map.1 hw
      rw [List.all_cons, okB_part (h.attrs a ha)]; decide
    · rcases List.mem_append.1 hw with hw | hw
      · split at hw
        · simp at hw
        · rename_i hk
          simp only [List.mem_cons, List.not_mem_nil, or_false] at hw
          rcases hw with rfl | rfl
          · decide
          · rw [List.all_cons, okB_part (h.key.resolve_left hk)]; decide
      · split at hw
        · simp only [List.mem_cons, List.not_mem_nil, or_false] at hw
          subst hw; decide
        · rename_i ht
          simp only [List.mem_cons, List.not_mem_nil, or_false] at hw
          rcases hw with rfl | rfl | rfl
          · decide
          · exact (textN_named (h.nodes (by simpa using ht)) h.small).1
          · decide
theorem line_ok {t : SType} (h : TOk t) : (lineT t).all okB = true := joinT_okB _ (words_ok h)
theorem tl_append (a b : List Bytes) : tl (a ++ b) = tl a ++ tl b := by unfold tl; rw [List.flatMap_append]
theorem tl_len_le (m : Nat) : ∀ ws : List Bytes, (∀ w ∈ ws, w.length ≤ m) → (tl ws).length ≤ ws.length * (m + 1)
  | [], _ => by simp [tl]
  | w :: ws, h => by
    have h1 := h w (List.mem_cons_self ..)
    have h2 := tl_len_le m ws fun x hx => h x (List.mem_cons_of_mem _ hx)
    rw [tl_cons, List.length_cons, List.length_append, List.length_cons, Nat.add_mul]
    omega
theorem line_len {t : SType} (h : TOk t) : (lineT t).length ≤ 3000 := by
  have e : (lineT t).length + 1 = (tl (wordsT t)).length := by
    unfold lineT
    cases hw : wordsT t with
    | nil => unfold wordsT at hw; simp at hw
    | cons w ws => rw [joinT_tl, tl_cons]; simp
  have h1 : (tl [typeW, t.name, [61], t.label]).length ≤ 4 * 65 := tl_len_le 64 _ fun w hw => by
    simp only [List.mem_cons, List.not_mem_nil, or_false] at hw
    rcases hw with rfl | rfl | rfl | rfl
    · decide
    · exact (name_word h.name).2.2
    · decide
    · exact (name_word h.label).2.2
  have h2 : (tl (t.attrs.map (fun a => 64 :: a))).length ≤ 5 * 66 := by
    refine Nat.le_trans (tl_len_le 65 _ fun w hw => ?_) ?_
    · obtain ⟨a, ha, rfl⟩ := List.mem_map.1 hw
      have := (name_word (h.attrs a ha)).2.2
      rw [List.length_cons]; omega
    · rw [List.length_map]; have := h.few; omega
  have h3 : (tl (if t.key = [] then [] else [keyW, 64 :: t.key] : List Bytes)).length ≤ 2 * 66 := by
    split
    · simp [tl]
    · rename_i hk
      refine tl_len_le 65 _ fun w hw => ?_
      simp only [List.mem_cons, List.not_mem_nil, or_false] at hw
      rcases hw with rfl | rfl
      · decide
      · have := (name_word (h.key.resolve_left hk)).2.2
        rw [List.length_cons]; omega
  have h4 : (tl (if t.text then [textW] else [[123], textN t.nodes, [125]] : List Bytes)).length ≤ 1700 := by
    split
    · decide
    · rename_i ht
      have := (textN_named (h.nodes (by simpa using ht)) h.small).2
      rw [tl_cons, tl_cons, tl_cons, show tl [] = [] from rfl]
      simp only [List.length_cons, List.length_append, List.length_nil]
      omega
  unfold wordsT at e
  rw [tl_append, tl_append, tl_append, List.length_append, List.length_append, List.length_append] at e
  omega
/-! ### lines -/
theorem linesL_ne : ∀ r : Bytes, linesL r ≠ []
  | [] => by simp [linesL]
  | c :: t => by
    unfold linesL
    split
    · simp
    · split <;> simp
theorem linesL_line : ∀ (x r : Bytes), (∀ c ∈ x, c ≠ 10) → linesL (x ++ 10 :: r) = x :: linesL r
  | [], r, _ => by simp [linesL]
  | c :: x, r, h => by
    have hc := h c (List.mem_cons_self ..)
    have ih := linesL_line x r fun d hd => h d (List.mem_cons_of_mem _ hd)
    rw [List.cons_append]
    conv => lhs; unfold linesL
    rw [if_neg hc, ih]
theorem lines_text : ∀ ts : List SType, (∀ t ∈ ts, TOk t) → linesL (textS ts) = ts.map lineT ++ [[]]
  | [], _ => rfl
  | t :: ts, h => by
    have ht := h t (List.mem_cons_self ..)
    have e : textS (t :: ts) = lineT t ++ 10 :: textS ts := by unfold textS; rw [List.flatMap_cons]; simp
    rw [e, linesL_line _ _ fun c hc => (okB_facts (List.all_eq_true.1 (line_ok ht) c hc)).1, lines_text ts fun x hx => h x (List.mem_cons_of_mem _ hx)]
    rfl
theorem line_counts (t : SType) : countsL (lineT t) = true := by
  have : ∃ r, lineT t = 116 :: r := by
    unfold lineT wordsT
    simp only [List.cons_append, List.nil_append]
    rw [joinT_tl]
    exact ⟨_, rfl⟩
  obtain ⟨r, e⟩ := this
  unfold countsL
  rw [e, nextB_cons (by decide), List.all_cons]
  simp [show blankU 116 = false by decide]
theorem types_text : ∀ (ts : List SType) (n : Nat) (acc : List SType), (∀ t ∈ ts, TOk t) → typesL n acc (ts.map lineT ++ [[]]) = (acc ++ ts.map againT, 0)
  | [], n, acc, _ => by
    show typesL n acc [[]] = _
    unfold typesL
    rw [if_neg (by decide)]
    unfold typesL
    simp
  | t :: ts, n, acc, h => by
    have ht := h t (List.mem_cons_self ..)
    rw [List.map_cons, List.cons_append]
    unfold typesL
    rw [if_pos (line_counts t), readL_line ht]
    simp only
    rw [types_text ts (n + 1) (acc ++ [againT t]) fun x hx => h x (List.mem_cons_of_mem _ hx)]
    simp
/-! ### the types again -/
theorem again_fields (t : SType) : (againT t).name = t.name ∧ (againT t).label = t.label ∧ (againT t).attrs = t.attrs ∧ (againT t).key = t.key ∧ (againT t).text = t.text := by
  unfold againT
  split
  · exact ⟨rfl, rfl, rfl, rfl, rfl⟩
  · exact ⟨rfl, rfl, rfl, rfl, rfl⟩
theorem again_nodes {t : SType} (h : TOk t) : symsS (againT t).nodes = symsS t.nodes ∧ (againT t).nodes.length = t.nodes.length ∧ (t.text = false → regexE (againT t).nodes = 0 ∧ textN (againT t).nodes = textN t.nodes) ∧ (againT t).nodes.isEmpty = t.nodes.isEmpty := by
  unfold againT
  cases e : t.text with
  | true => rw [if_pos rfl]; exact ⟨rfl, rfl, fun h => absurd h (by simp), rfl⟩
  | false =>
    rw [if_neg (by simp)]
    have ha := again_of (h.nodes e) (by have := h.small; omega)
    refine ⟨ha.syms, ha.len, fun _ => ⟨ha.ok, ha.text⟩, ?_⟩
    simp only
    have := ha.len
    cases h1 : (treeN t.nodes).lay <;> cases h2 : t.nodes <;> rw [h1, h2] at this <;> simp_all
theorem place_again (ts : List SType) (n : Bytes) : placeS (ts.map againT) n = placeS ts n := by
  unfold placeS
  have : ∀ (ts : List SType) (i : Nat) (r : Option Nat), placeF i (ts.map againT) n r = placeF i ts n r := by
    intro ts
    induction ts with
    | nil => intro i r; rfl
    | cons t ts ih =>
      intro i r
      rw [List.map_cons]
      unfold placeF
      rw [ih, (again_fields t).1]
  exact this ts 0 none
theorem label_again (ts : List SType) (k : Nat) : labelAt (ts.map againT) k = labelAt ts k := by
  unfold labelAt
  rw [List.getElem?_map]
  cases ts[k]? with
  | none => rfl
  | some t => exact (again_fields t).2.1
theorem attrs_again (ts : List SType) (k : Nat) : attrsAt (ts.map againT) k = attrsAt ts k := by
  unfold attrsAt
  rw [List.getElem?_map]
  cases ts[k]? with
  | none => rfl
  | some t => exact (again_fields t).2.2.1
theorem kids_again (ts : List SType) {t : SType} (h : TOk t) : kidsS (ts.map againT) (againT t) = kidsS ts t := by
  unfold kidsS
  rw [(again_nodes h).1]
  congr 1
  funext n
  rw [place_again]
theorem any_again {ts : List SType} {p q : SType → Bool} (h : ∀ t ∈ ts, p (againT t) = q t) : (ts.map againT).any p = ts.any q := by
  rw [List.any_map]
  induction ts with
  | nil => rfl
  | cons t ts ih =>
    rw [List.any_cons, List.any_cons, ih fun x hx => h x (List.mem_cons_of_mem _ hx)]
    congr 1
    exact h t (List.mem_cons_self ..)
theorem content_again : ∀ ts : List SType, (∀ t ∈ ts, TOk t) → contentE (ts.map againT) = 0
  | [], _ => rfl
  | t :: ts, h => by
    rw [List.map_cons]
    unfold contentE
    have ht := h t (List.mem_cons_self ..)
    rw [if_neg, content_again ts fun x hx => h x (List.mem_cons_of_mem _ hx)]
    rintro ⟨h1, h2⟩
    rw [(again_fields t).2.2.2.2] at h1
    exact h2 ((again_nodes ht).2.2.1 h1).1
theorem chk_again {ts : List SType} (h : chkS ts = 0) (hT : ∀ t ∈ ts, TOk t) : chkS (ts.map againT) = 0 := by
  have e3 : (ts.map againT).any unnamedS = ts.any unnamedS := any_again fun t ht => by
    obtain ⟨f1, f2, f3, f4, f5⟩ := again_fields t
    unfold unnamedS
    rw [f1, f2, f3, f4]
  have e4 : ((ts.map againT).map SType.name) = ts.map SType.name := by
    rw [List.map_map]
    exact List.map_congr_left fun t _ => (again_fields t).1
  have e5 : (ts.map againT).any (fun t => fallsS t.attrs) = ts.any (fun t => fallsS t.attrs) := any_again fun t ht => by rw [(again_fields t).2.2.1]
  have e6 : (ts.map againT).any (fun t => t.text && (!t.nodes.isEmpty || !t.key.isEmpty)) = ts.any (fun t => t.text && (!t.nodes.isEmpty || !t.key.isEmpty)) := any_again fun t ht => by
    obtain ⟨f1, f2, f3, f4, f5⟩ := again_fields t
    rw [f4, f5, (again_nodes (hT t ht)).2.2.2]
  have e7 : (ts.map againT).any (fun t => (symsS t.nodes).any fun n => (placeS (ts.map againT) n).isNone) = ts.any (fun t => (symsS t.nodes).any fun n => (placeS ts n).isNone) := any_again fun t ht => by
    rw [(again_nodes (hT t ht)).1]
    congr 1
    funext n
    rw [place_again]
  have e8 : (ts.map againT).any (fun t => twiceB ((kidsS (ts.map againT) t).map (labelAt (ts.map againT)))) = ts.any (fun t => twiceB ((kidsS ts t).map (labelAt ts))) := any_again fun t ht => by
    rw [kids_again ts (hT t ht)]
    congr 2
    funext k
    exact label_again ts k
  have e9 : (ts.map againT).any (fun t => !t.key.isEmpty && !(kidsS (ts.map againT) t).any fun k => (attrsAt (ts.map againT) k).contains t.key) = ts.any (fun t => !t.key.isEmpty && !(kidsS ts t).any fun k => (attrsAt ts k).contains t.key) := any_again fun t ht => by
    rw [kids_again ts (hT t ht), (again_fields t).2.2.2.1]
    congr 2
    congr 1
    funext k
    rw [attrs_again]
  unfold chkS at h ⊢
  rw [e3, e4, e5, e6, e7, e8, e9, content_again ts hT, List.length_map]
  split at h
  · cases h
  rename_i h0
  rw [if_neg h0]
  split at h
  · cases h
  rename_i h1
  rw [if_neg h1]
  split at h
  · cases h
  rename_i h2
  rw [if_neg h2]
  split at h
  · cases h
  rename_i h3
  rw [if_neg h3]
  split at h
  · cases h
  rename_i h4
  rw [if_neg h4]
  split at h
  · cases h
  rename_i h5
  rw [if_neg h5, if_neg (by simp)]
  split at h
  · rename_i h6; exact absurd h h6
  split at h
  · cases h
  rename_i h7
  rw [if_neg h7]
  split at h
  · cases h
  rename_i h8
  rw [if_neg h8]
  split at h
  · cases h
  rename_i h9
  rw [if_neg h9]
theorem contentE_zero : ∀ {ts : List SType}, contentE ts = 0 → ∀ t ∈ ts, t.text = false → regexE t.nodes = 0
  | [], _, t, ht => by simp at ht
  | u :: ts, h, t, ht => by
    unfold contentE at h
    intro htx
    by_cases hc : u.text = false ∧ regexE u.nodes ≠ 0
    · rw [if_pos hc] at h; exact absurd h hc.2
    · rw [if_neg hc] at h
      rcases List.mem_cons.1 ht with rfl | ht
      · exact Classical.byContradiction fun e => hc ⟨htx, e⟩
      · exact contentE_zero h t ht htx
theorem tok_of {ts : List SType} (h : chkS ts = 0) (hs : ∀ t ∈ ts, t.nodes.length ≤ 24 ∧ t.attrs.length ≤ 5) : ∀ t ∈ ts, TOk t := by
  intro t ht
  unfold chkS at h
  split at h
  · cases h
  split at h
  · cases h
  split at h
  · cases h
  rename_i h2
  split at h
  · cases h
  split at h
  · cases h
  split at h
  · cases h
  rename_i h5
  split at h
  · rename_i h6; exact absurd h h6
  rename_i h6
  rw [Bool.not_eq_true, List.any_eq_false] at h2 h5
  have hu := h2 t ht
  have hf := h5 t ht
  unfold unnamedS at hu
  simp only [Bool.not_eq_true, Bool.or_eq_false_iff, Bool.not_eq_false', Bool.and_eq_false_iff] at hu hf
  obtain ⟨⟨⟨n1, n2⟩, n3⟩, n4⟩ := hu
  rw [List.any_eq_false] at n3
  refine ⟨n1, n2, fun a ha => by simpa using n3 a ha, ?_, fun e => ?_, fun e => contentE_zero (Classical.byContradiction h6) t ht e, (hs t ht).1, (hs t ht).2⟩
  · rcases n4 with n4 | n4
    · exact .inl (by simpa using n4)
    · exact .inr n4
  · rcases hf with hf | hf
    · rw [e] at hf; cases hf
    · simpa using hf.1
theorem line_again {t : SType} (h : TOk t) : lineT (againT t) = lineT t := by
  obtain ⟨f1, f2, f3, f4, f5⟩ := again_fields t
  unfold lineT wordsT
  rw [f1, f2, f3, f4, f5]
  cases e : t.text with
  | true => rfl
  | false => rw [if_neg (show ¬ (false = true) by simp), if_neg (show ¬ (false = true) by simp), ((again_nodes h).2.2.1 e).2]
/-- what the law asks: Parse of Text -/
structure BackP (ts : List SType) : Prop where
  parse : parseL (textS ts) = (ts.map againT, 0, 0)
  chk : chkS (ts.map againT) = 0
  text : textS (ts.map againT) = textS ts
  len : (textS ts).length ≤ 65536
  asc : ∀ c ∈ textS ts, c.toNat < 128
  types : ∀ t ∈ ts, (againT t).name = t.name ∧ (againT t).label = t.label ∧ (againT t).attrs = t.attrs ∧ (againT t).key = t.key ∧ (againT t).text = t.text ∧ symsS (againT t).nodes = symsS t.nodes ∧ (againT t).nodes.length = t.nodes.length
theorem backP {ts : List SType} (h : chkS ts = 0) (hs : ∀ t ∈ ts, t.nodes.length ≤ 24 ∧ t.attrs.length ≤ 5) (hl : ts.length ≤ 8) : BackP ts := by
  have hT := tok_of h hs
  have hlen : ∀ ts : List SType, (∀ t ∈ ts, TOk t) → (textS ts).length ≤ ts.length * 3001 := by
    intro ts
    induction ts with
    | nil => intro _; simp [textS]
    | cons t ts ih =>
      intro h
      have h1 := line_len (h t (List.mem_cons_self ..))
      have h2 := ih fun x hx => h x (List.mem_cons_of_mem _ hx)
      unfold textS at h2 ⊢
      rw [List.flatMap_cons, List.length_append, List.length_append, List.length_singleton, List.length_cons, Nat.add_mul]
      omega
  have h1 := hlen ts hT
  have hc := chk_again h hT
  refine ⟨?_, hc, ?_, by omega, ?_, fun t ht => ?_⟩
  · unfold parseL
    rw [if_neg (by omega), lines_text ts hT, types_text ts 0 [] hT, List.nil_append]
    simp only
    rw [if_neg (by simp), hc, if_neg (by simp)]
  · unfold textS
    rw [List.flatMap_map]
    have : ∀ l : List SType, (∀ t ∈ l, TOk t) → (l.flatMap fun t => lineT (againT t) ++ [10]) = l.flatMap fun t => lineT t ++ [10] := by
      intro l
      induction l with
      | nil => intro _; rfl
      | cons t l ih =>
        intro h
        rw [List.flatMap_cons, List.flatMap_cons, line_again (h t (List.mem_cons_self ..)), ih fun x hx => h x (List.mem_cons_of_mem _ hx)]
    exact this ts hT
  · intro c hc
    unfold textS at hc
    obtain ⟨t, ht, hc⟩ := List.mem_flatMap.1 hc
    rcases List.mem_append.1 hc with hc | hc
    · exact (okB_facts (List.all_eq_true.1 (line_ok (hT t ht)) c hc)).2
    · simp at hc; subst hc; decide
  · obtain ⟨f1, f2, f3, f4, f5⟩ := again_fields t
    have hn := again_nodes (hT t ht)
    exact ⟨f1, f2, f3, f4, f5, hn.1, hn.2.1⟩
open Go.RowKit
/-- what the closures know: the expression in block R, the row of texts in block X, laid in block T -/
structure TxSt (R X T : Nat) (no : Option Addr) (nc : Nat) (l : List SNode) (ss : List Bytes) (w : World) : Prop where
  r : w.heap[R]? = some (.cells #[.slice no l.length nc] 45 (0, 0))
  x : w.heap[X]? = some (.cells #[.slice (some ⟨T, 0, none⟩) l.length l.length] 37 (0, 0))
  t : w.heap[T]? = some (.cells (ss.map encStr).toArray 9 (0, 0))
  nodes : NodesAt w no nc l
  len : ss.length = l.length
theorem TxSt.below {R X T : Nat} {no : Option Addr} {nc : Nat} {l : List SNode} {ss : List Bytes} {w w' : World} (h : TxSt R X T no nc l ss w) (hb : Below w.heap.size w w') : TxSt R X T no nc l ss w' :=
  ⟨(hb.block _ (lt_of_block h.r)).trans h.r, (hb.block _ (lt_of_block h.x)).trans h.x, (hb.block _ (lt_of_block h.t)).trans h.t, h.nodes.below hb, h.len⟩
/-- a list of ops, as it comes in -/
def OpsAt (w : World) (ov : Value) (zs : List Int) : Prop := (zs = [] ∧ ov = .slice none 0 0) ∨ (∃ g, ov = .slice (some ⟨g, 0, none⟩) zs.length zs.length ∧ ∀ j, j < zs.length → w.cell? ⟨g, 0 + j, none⟩ = some (.int .i64 (zs.getD j 0)))
theorem ret_str {a b : ByteArray} (h : a = b) : Ending.returned (.string a) = .returned (.string b) := by rw [h]
theorem ba_app (a b : Array UInt8) : ((⟨a⟩ : ByteArray) ++ (⟨b⟩ : ByteArray)) = ⟨a ++ b⟩ := by
  apply ByteArray.ext
  simp
theorem run_cat (x y : ByteArray) (h : x.size + y.size ≤ 9223372036854775807) (w : World) : (binOp .add 9 (.string x) (.string y)).run Tryz.prog w = .ok (.string (x ++ y)) w := by
  unfold binOp
  simp only [go_sem]
  rw [if_neg (by omega)]
theorem run_cat2 (x y : Bytes) (h : x.length + y.length ≤ 1048576000) (w : World) : (binOp .add 9 (.string ⟨x.toArray⟩) (.string ⟨y.toArray⟩)).run Tryz.prog w = .ok (.string (⟨x.toArray⟩ ++ ⟨y.toArray⟩)) w :=
  run_cat _ _ (by rw [Lib.size_eq, Lib.size_eq]; show x.length + y.length ≤ _; omega) w
theorem run_cat3 (x z y : Bytes) (h : x.length + z.length + y.length ≤ 1048576000) (w : World) : (binOp .add 9 (.string (⟨x.toArray⟩ ++ ⟨z.toArray⟩)) (.string ⟨y.toArray⟩)).run Tryz.prog w = .ok (.string (⟨x.toArray⟩ ++ ⟨z.toArray⟩ ++ ⟨y.toArray⟩)) w :=
  run_cat _ _ (by rw [ba_app, Lib.size_eq, Lib.size_eq]; simp; omega) w
theorem paren_true (x : Bytes) : paren true x = 40 :: (x ++ [41]) := rfl
theorem paren_false (x : Bytes) : paren false x = x := rfl
set_option maxHeartbeats 1000000 in
set_option maxRecDepth 100000 in
theorem tpart_any {R X T : Nat} {no : Option Addr} {nc : Nat} {l : List SNode} {ss : List Bytes} {w : World} (h : TxSt R X T no nc l ss w) (hl : l.length ≤ 1024) (k : Nat) (n : SNode) (hn : l[k]? = some n) (x : Bytes) (hx : ss[k]? = some x) (hxl : x.length ≤ 1048576)
    (zs : List Int) (hzl : zs.length ≤ 4) (ov : Value) (hov : OpsAt w ov zs) :
    Calls Tryz.prog 66 #[.int .i64 k, ov, .pointer (some ⟨R, 0, none⟩), .pointer (some ⟨X, 0, none⟩)] w fun e w' => e = .returned (.string ⟨(paren (zs.contains n.op) x).toArray⟩) ∧ w = w' := by
  have hk := (List.getElem?_eq_some_iff.1 hn).1
  have r0 := cell_of_row w R 0 _ _ _ h.r
  have x0 := cell_of_row w X 0 _ _ _ h.x
  have t0 : w.cell? ⟨T, k, none⟩ = some (.string ⟨x.toArray⟩) := by
    rw [cell_of_row w T k _ _ _ h.t]
    simp [hx, encStr]
  have hki : (k : Int) < (l.length : Int) := by omega
  have hk0 : (0 : Int) ≤ (k : Int) := by omega
  have hcm := h.nodes.2.2.1
  unfold maxLen at hcm
  obtain ⟨b, off, rfl, hbl, n0, n1, n2, n3⟩ := h.nodes.at hn
  have hct : Calls Tryz.prog 67 #[ov, .int .i64 n.op] w fun e w' => e = .returned (.bool (zs.contains n.op)) ∧ w' = w := by
    rcases hov with ⟨rfl, rfl⟩ | ⟨g, rfl, hc⟩
    · exact Tryz.slices_Contains_int_empty none 0 n.op w
    · have := Tryz.slices_Contains_int g 0 zs.length zs.length zs n.op w (Nat.le_refl _) (by omega) hc
      rwa [List.take_of_length_le (Nat.le_refl _)] at this
  generalize zs.contains n.op = q at hct ⊢
  generalize n.op = op at n0 hct
  have Hx := Lib.hid hx
  clear h hn n1 n2 n3 hov hx
  cases q with
  | true =>
    rw [paren_true]
    go_enter Tryz.func66, Tryz.ntmps66
    go_wp2_with fail
    refine hct.mono ?_
    rintro e w' ⟨rfl, rfl⟩
    clear hct
    go_wp2_with fail
    go_ret
    exact ⟨ret_str (by rw [ba_app, ba_app]; simp), rfl⟩
  | false =>
    rw [paren_false]
    go_enter Tryz.func66, Tryz.ntmps66
    go_wp2_with fail
    refine hct.mono ?_
    rintro e w' ⟨rfl, rfl⟩
    clear hct
    go_wp2_with fail
    go_ret
    exact ⟨rfl, rfl⟩
theorem bel_alloc {wb w1 : World} (h : Below wb.heap.size wb w1) (o : Obj) : Below wb.heap.size wb (w1.alloc o) := h.alloc h.size o
theorem bel_drew {wb w1 : World} (h : Below wb.heap.size wb w1) : Below wb.heap.size wb w1.drew := h.drew
theorem opsAt_new (w : World) (zs : List Int) (H : Nat) (hH : H = w.heap.size) : OpsAt (w.alloc (.cells (zs.map (Value.int .i64)).toArray 3)) (.slice (some ⟨H, 0, none⟩) zs.length zs.length) zs := by
  subst hH
  refine .inr ⟨w.heap.size, rfl, fun j hj => ?_⟩
  rw [Nat.zero_add, cell_of_row _ w.heap.size j _ _ _ (heap_alloc_new w _)]
  simp [List.getD_eq_getElem?_getD, List.getElem?_eq_getElem hj]
theorem opsAt_nil (w : World) : OpsAt w (.slice none 0 0) [] := .inl ⟨rfl, rfl⟩
theorem OpsAt.below {w w' : World} {g n c : Nat} {zs : List Int} (h : OpsAt w (.slice (some ⟨g, 0, none⟩) n c) zs) (hg : g < w.heap.size) (hb : Below w.heap.size w w') : OpsAt w' (.slice (some ⟨g, 0, none⟩) n c) zs := by
  rcases h with ⟨_, h⟩ | ⟨g', e, hc⟩
  · cases h
  · injection e with e e2 e3
    injection e with e
    injection e with e
    subst e; subst e2; subst e3
    exact .inr ⟨g, rfl, fun j hj => (hb.cell (p := ⟨g, 0 + j, none⟩) hg).trans (hc j hj)⟩
/-- the trees of the nodes ahead, and their texts -/
structure AccOk (l : List SNode) (ss : List Bytes) (acc : List RT) (M : Nat) : Prop where
  at' : ∀ (j : Nat) (t : RT), acc[j]? = some t → ss[j]? = some t.txt ∧ t.txt.length ≤ M ∧ ∃ m, l[j]? = some m ∧ t.isAlt = (m.op == 4) ∧ t.isCat = (m.op == 3)
theorem AccOk.get {l : List SNode} {ss : List Bytes} {acc : List RT} {M : Nat} (h : AccOk l ss acc M) {z : Int} (hz : partOk acc.length z = true) : ∃ (k : Nat) (t : RT) (m : SNode), z = (k : Int) ∧ acc.getD z.toNat .none = t ∧ ss[k]? = some t.txt ∧ t.txt.length ≤ M ∧ l[k]? = some m ∧ t.isAlt = (m.op == 4) ∧ t.isCat = (m.op == 3) := by
  have hlt := partOk_lt3 hz
  unfold partOk at hz
  simp at hz
  obtain ⟨t, ht⟩ : ∃ t, acc[z.toNat]? = some t := ⟨_, List.getElem?_eq_getElem hlt⟩
  obtain ⟨h1, h2, m, h3, h4, h5⟩ := h.at' _ t ht
  exact ⟨z.toNat, t, m, by omega, by rw [List.getD_eq_getElem?_getD, ht]; rfl, h1, h2, h3, h4, h5⟩
set_option maxHeartbeats 4000000 in
set_option maxRecDepth 100000 in
theorem ttell_any {R X T P : Nat} {no : Option Addr} {nc : Nat} {l : List SNode} {ss : List Bytes} {w : World} (h : TxSt R X T no nc l ss w) (hl : l.length ≤ 1024)
    (hP : w.heap[P]? = some (.cells #[.func (.func 66) #[] #[.pointer (some ⟨R, 0, none⟩), .pointer (some ⟨X, 0, none⟩)]] 104 (0, 0)))
    (acc : List RT) (hacc : AccOk l ss acc 1048576) (n : SNode) (hok : nodeOk acc.length n = true) :
    Calls Tryz.prog 68 #[.agg #[.int .i64 n.op, .string ⟨n.sym.toArray⟩, .int .i64 n.a, .int .i64 n.b], .pointer (some ⟨P, 0, none⟩)] w fun e w' => e = .returned (.string ⟨(mkT acc n).txt.toArray⟩) ∧ Below w.heap.size w w' := by
  have hpart := fun w1 (hb : Below w.heap.size w w1) k m hm x hx hxl zs hzl ov hov => tpart_any (h.below hb) hl k m hm x hx hxl zs hzl ov hov
  have hPl := lt_of_block hP
  obtain ⟨op, sym, a, b⟩ := n
  have hb0 : Below w.heap.size w (w.alloc (.cells #[.int .i64 op, .string ⟨sym.toArray⟩, .int .i64 a, .int .i64 b] 70)) := (Below.refl _ w).alloc (Nat.le_refl _) _
  have Hpart := Lib.hid hpart
  clear h hpart
  rcases op_cases hok with e | e | e | e | e | e
  all_goals simp only at e; subst e
  · go_enter Tryz.func68, Tryz.ntmps68
    go_wp2_with fail
    go_ret
    exact ⟨rfl, hb0⟩
  · go_enter Tryz.func68, Tryz.ntmps68
    go_wp2_with fail
    go_ret
    exact ⟨rfl, hb0⟩
  · go_enter Tryz.func68, Tryz.ntmps68
    go_wp2_with fail
    go_ret
    exact ⟨rfl, hb0⟩
  · obtain ⟨hp1, hp2⟩ : partOk acc.length a = true ∧ partOk acc.length b = true := by
      unfold nodeOk at hok
      rw [if_neg (by simp), if_neg (by simp), if_pos (.inl rfl)] at hok
      simp only [Bool.and_eq_true] at hok
      exact ⟨hok.1.2, hok.2⟩
    obtain ⟨k, t, m, rfl, hg, hs, hsl, hm, ha, hc⟩ := hacc.get hp1
    obtain ⟨k2, t2, m2, rfl, hg2, hs2, hsl2, hm2, ha2, hc2⟩ := hacc.get hp2
    have hmk : mkT acc ⟨3, sym, (k : Int), (k2 : Int)⟩ = .cat t t2 := by show RT.cat (acc.getD _ _) (acc.getD _ _) = _; rw [hg, hg2]
    rw [hmk]
    obtain ⟨wb, hwb⟩ : ∃ wb, wb = w.alloc (.cells #[.int .i64 3, .string ⟨sym.toArray⟩, .int .i64 (k : Int), .int .i64 (k2 : Int)] 70) := ⟨_, rfl⟩
    have hX : ∀ w', Below wb.heap.size wb w' → w'.cell? ⟨P, 0, none⟩ = some (.func (.func 66) #[] #[.pointer (some ⟨R, 0, none⟩), .pointer (some ⟨X, 0, none⟩)]) ∧ w'.cell? ⟨w.heap.size, 2, none⟩ = some (.int .i64 (k : Int)) ∧ w'.cell? ⟨w.heap.size, 3, none⟩ = some (.int .i64 (k2 : Int)) := by
      rw [hwb]
      intro w' hb
      have hx0 := heap_alloc_new w (.cells #[.int .i64 3, .string ⟨sym.toArray⟩, .int .i64 (k : Int), .int .i64 (k2 : Int)] 70)
      have hx := (hb.block w.heap.size (by simp)).trans hx0
      refine ⟨cell_of_row w' P 0 _ _ _ (((bel_next hb0 hb).block _ hPl).trans hP), cell_of_row w' w.heap.size 2 _ _ _ hx, cell_of_row w' w.heap.size 3 _ _ _ hx⟩
    obtain ⟨Y, hY⟩ : ∃ Y : List Int → Nat → Bytes, Y = fun zs kk => paren (zs.contains (if kk = k then m.op else m2.op)) (if kk = k then t.txt else t2.txt) := ⟨_, rfl⟩
    have hC : ∀ (kk : Nat) (zs : List Int) (w' : World) (ov : Value), (kk = k ∨ kk = k2) → zs.length ≤ 4 → Below wb.heap.size wb w' → OpsAt w' ov zs → Calls Tryz.prog 66 #[.int .i64 (kk : Int), ov, .pointer (some ⟨R, 0, none⟩), .pointer (some ⟨X, 0, none⟩)] w' fun e w'' => e = .returned (.string ⟨(Y zs kk).toArray⟩) ∧ w' = w'' := by
      intro kk zs w' ov hkk hzl hb hov
      rw [hY]
      simp only
      by_cases hq : kk = k
      · rw [if_pos hq, if_pos hq]
        subst hq
        exact Hpart.out w' (by rw [hwb] at hb; exact bel_next hb0 hb) kk m hm t.txt hs hsl zs hzl ov hov
      · rw [if_neg hq, if_neg hq]
        have hq2 := hkk.resolve_left hq
        subst hq2
        exact Hpart.out w' (by rw [hwb] at hb; exact bel_next hb0 hb) kk m2 hm2 t2.txt hs2 hsl2 zs hzl ov hov
    have hyb : ∀ zs kk, (Y zs kk).length ≤ 1048578 := by
      intro zs kk
      rw [hY]
      refine Nat.le_trans (paren_two _ _) ?_
      split <;> omega
    have hyk : Y [4] k = paren t.isAlt t.txt := by rw [hY]; simp only [if_pos]; rw [ha]; congr 1; rw [Bool.eq_iff_iff]; simp
    have htx : k ≠ k2 ∨ k = k2 := by omega
    have hyk2 : Y [4, 3] k2 = paren (t2.isAlt || t2.isCat) t2.txt := by
      rw [hY]
      simp only
      by_cases hq : k2 = k
      · subst hq
        rw [hm] at hm2
        injection hm2 with e
        subst e
        rw [hs] at hs2
        injection hs2 with e2
        rw [if_pos rfl, if_pos rfl, e2]
        rw [ha2, hc2]; congr 1; rw [Bool.eq_iff_iff]; simp
      · rw [if_neg hq, if_neg hq]
        rw [ha2, hc2]; congr 1; rw [Bool.eq_iff_iff]; simp
    have hfin : ∀ w', Below wb.heap.size wb w' → Ending.returned (.string (⟨(Y [4] k).toArray⟩ ++ ⟨#[44]⟩ ++ ⟨(Y [4, 3] k2).toArray⟩)) = .returned (.string ⟨(RT.cat t t2).txt.toArray⟩) ∧ Below w.heap.size w w' := fun w' hb => by
      rw [hwb] at hb
      refine ⟨?_, bel_next hb0 hb⟩
      rw [hyk, hyk2]
      refine ret_str ?_
      rw [ba_app, ba_app]
      show _ = (⟨(paren t.isAlt t.txt ++ 44 :: paren (t2.isAlt || t2.isCat) t2.txt).toArray⟩ : ByteArray)
      simp
    have hq1 : ¬ (9223372036854775807 < (Y [4] k).length + 1) := by have := hyb [4] k; omega
    have hq2 : ¬ (9223372036854775807 < (Y [4] k).length + 1 + (Y [4, 3] k2).length) := by have := hyb [4] k; have := hyb [4, 3] k2; omega
    generalize (RT.cat t t2).txt = res at hfin
    have HX := Lib.hid hX
    have HC := Lib.hid hC
    have Hfin := Lib.hid hfin
    clear hacc hok hp1 hp2 hg hg2 hs hs2 hsl hsl2 hm hm2 ha ha2 hc hc2 hmk hX hC hfin hP hPl hb0 Hpart hY hyb hyk hyk2 htx
    go_enter Tryz.func68, Tryz.ntmps68
    go_wp2_with fail
    rw [← hwb]
    clear hwb
    go_region_held3 (fun w' => w'.cell? ⟨P, 0, none⟩ = some (.func (.func 66) #[] #[.pointer (some ⟨R, 0, none⟩), .pointer (some ⟨X, 0, none⟩)]) ∧ w'.cell? ⟨w.heap.size, 2, none⟩ = some (.int .i64 (k : Int)) ∧ w'.cell? ⟨w.heap.size, 3, none⟩ = some (.int .i64 (k2 : Int)))
      (first | (apply HX.out; repeat (first | assumption | exact Below.refl _ _ | apply bel_alloc | apply bel_drew)))
      (first
        | (go_at_call 66; refine Calls.mono (HC.out _ [4] _ _ ?_ (by decide) ?_ ?_) ?_; (focus (first | exact .inl rfl | exact .inr rfl)); (focus (repeat (first | assumption | exact Below.refl _ _ | apply bel_alloc | apply bel_drew))); (focus (first | exact opsAt_new _ [4] _ (by first | rfl | simp) | exact (opsAt_new _ [4] _ (by first | rfl | simp)).below (by simp) (bel_drew (Below.refl _ _)) | exact (opsAt_new _ [4] _ (by first | rfl | simp)).below (by simp) (bel_drew (bel_alloc (Below.refl _ _) _)) | exact (opsAt_new _ [4] _ (by first | rfl | simp)).below (by simp) (bel_alloc (Below.refl _ _) _) | exact (opsAt_new _ [4] _ (by first | rfl | simp)).below (by simp) (bel_alloc (bel_drew (Below.refl _ _)) _))); rintro e w'' ⟨rfl, rfl⟩)
        | (go_at_call 66; refine Calls.mono (HC.out _ [4, 3] _ _ ?_ (by decide) ?_ ?_) ?_; (focus (first | exact .inl rfl | exact .inr rfl)); (focus (repeat (first | assumption | exact Below.refl _ _ | apply bel_alloc | apply bel_drew))); (focus (first | exact opsAt_new _ [4, 3] _ (by first | rfl | simp) | exact (opsAt_new _ [4, 3] _ (by first | rfl | simp)).below (by simp) (bel_drew (Below.refl _ _)) | exact (opsAt_new _ [4, 3] _ (by first | rfl | simp)).below (by simp) (bel_drew (bel_alloc (Below.refl _ _) _)) | exact (opsAt_new _ [4, 3] _ (by first | rfl | simp)).below (by simp) (bel_alloc (Below.refl _ _) _) | exact (opsAt_new _ [4, 3] _ (by first | rfl | simp)).below (by simp) (bel_alloc (bel_drew (Below.refl _ _)) _))); rintro e w'' ⟨rfl, rfl⟩))
    all_goals
      clear HX HC
      go_wp2_with fail
      go_ret
      exact Hfin.out _ (by repeat (first | assumption | exact Below.refl _ _ | apply bel_alloc | apply bel_drew))
  · obtain ⟨hp1, hp2⟩ : partOk acc.length a = true ∧ partOk acc.length b = true := by
      unfold nodeOk at hok
      rw [if_neg (by simp), if_neg (by simp), if_pos (.inr rfl)] at hok
      simp only [Bool.and_eq_true] at hok
      exact ⟨hok.1.2, hok.2⟩
    obtain ⟨k, t, m, rfl, hg, hs, hsl, hm, ha, hc⟩ := hacc.get hp1
    obtain ⟨k2, t2, m2, rfl, hg2, hs2, hsl2, hm2, ha2, hc2⟩ := hacc.get hp2
    have hmk : mkT acc ⟨4, sym, (k : Int), (k2 : Int)⟩ = .alt t t2 := by show RT.alt (acc.getD _ _) (acc.getD _ _) = _; rw [hg, hg2]
    rw [hmk]
    obtain ⟨wb, hwb⟩ : ∃ wb, wb = w.alloc (.cells #[.int .i64 4, .string ⟨sym.toArray⟩, .int .i64 (k : Int), .int .i64 (k2 : Int)] 70) := ⟨_, rfl⟩
    have hX : ∀ w', Below wb.heap.size wb w' → w'.cell? ⟨P, 0, none⟩ = some (.func (.func 66) #[] #[.pointer (some ⟨R, 0, none⟩), .pointer (some ⟨X, 0, none⟩)]) ∧ w'.cell? ⟨w.heap.size, 2, none⟩ = some (.int .i64 (k : Int)) ∧ w'.cell? ⟨w.heap.size, 3, none⟩ = some (.int .i64 (k2 : Int)) := by
      rw [hwb]
      intro w' hb
      have hx0 := heap_alloc_new w (.cells #[.int .i64 4, .string ⟨sym.toArray⟩, .int .i64 (k : Int), .int .i64 (k2 : Int)] 70)
      have hx := (hb.block w.heap.size (by simp)).trans hx0
      refine ⟨cell_of_row w' P 0 _ _ _ (((bel_next hb0 hb).block _ hPl).trans hP), cell_of_row w' w.heap.size 2 _ _ _ hx, cell_of_row w' w.heap.size 3 _ _ _ hx⟩
    obtain ⟨Y, hY⟩ : ∃ Y : List Int → Nat → Bytes, Y = fun zs kk => paren (zs.contains (if kk = k then m.op else m2.op)) (if kk = k then t.txt else t2.txt) := ⟨_, rfl⟩
    have hC : ∀ (kk : Nat) (zs : List Int) (w' : World) (ov : Value), (kk = k ∨ kk = k2) → zs.length ≤ 4 → Below wb.heap.size wb w' → OpsAt w' ov zs → Calls Tryz.prog 66 #[.int .i64 (kk : Int), ov, .pointer (some ⟨R, 0, none⟩), .pointer (some ⟨X, 0, none⟩)] w' fun e w'' => e = .returned (.string ⟨(Y zs kk).toArray⟩) ∧ w' = w'' := by
      intro kk zs w' ov hkk hzl hb hov
      rw [hY]
      simp only
      by_cases hq : kk = k
      · rw [if_pos hq, if_pos hq]
        subst hq
        exact Hpart.out w' (by rw [hwb] at hb; exact bel_next hb0 hb) kk m hm t.txt hs hsl zs hzl ov hov
      · rw [if_neg hq, if_neg hq]
        have hq2 := hkk.resolve_left hq
        subst hq2
        exact Hpart.out w' (by rw [hwb] at hb; exact bel_next hb0 hb) kk m2 hm2 t2.txt hs2 hsl2 zs hzl ov hov
    have hyb : ∀ zs kk, (Y zs kk).length ≤ 1048578 := by
      intro zs kk
      rw [hY]
      refine Nat.le_trans (paren_two _ _) ?_
      split <;> omega
    have hyk : Y [] k = paren false t.txt := by rw [hY]; simp only [if_pos]; rfl
    have htx : k ≠ k2 ∨ k = k2 := by omega
    have hyk2 : Y [4] k2 = paren t2.isAlt t2.txt := by
      rw [hY]
      simp only
      by_cases hq : k2 = k
      · subst hq
        rw [hm] at hm2
        injection hm2 with e
        subst e
        rw [hs] at hs2
        injection hs2 with e2
        rw [if_pos rfl, if_pos rfl, e2]
        rw [ha2]; congr 1; rw [Bool.eq_iff_iff]; simp
      · rw [if_neg hq, if_neg hq]
        rw [ha2]; congr 1; rw [Bool.eq_iff_iff]; simp
    have hfin : ∀ w', Below wb.heap.size wb w' → Ending.returned (.string (⟨(Y [] k).toArray⟩ ++ ⟨#[124]⟩ ++ ⟨(Y [4] k2).toArray⟩)) = .returned (.string ⟨(RT.alt t t2).txt.toArray⟩) ∧ Below w.heap.size w w' := fun w' hb => by
      rw [hwb] at hb
      refine ⟨?_, bel_next hb0 hb⟩
      rw [hyk, hyk2]
      refine ret_str ?_
      rw [ba_app, ba_app]
      show _ = (⟨(paren false t.txt ++ 124 :: paren t2.isAlt t2.txt).toArray⟩ : ByteArray)
      simp
    have hq1 : ¬ (9223372036854775807 < (Y [] k).length + 1) := by have := hyb [] k; omega
    have hq2 : ¬ (9223372036854775807 < (Y [] k).length + 1 + (Y [4] k2).length) := by have := hyb [] k; have := hyb [4] k2; omega
    generalize (RT.alt t t2).txt = res at hfin
    have HX := Lib.hid hX
    have HC := Lib.hid hC
    have Hfin := Lib.hid hfin
    clear hacc hok hp1 hp2 hg hg2 hs hs2 hsl hsl2 hm hm2 ha ha2 hc hc2 hmk hX hC hfin hP hPl hb0 Hpart hY hyb hyk hyk2 htx
    go_enter Tryz.func68, Tryz.ntmps68
    go_wp2_with fail
    rw [← hwb]
    clear hwb
    go_region_held3 (fun w' => w'.cell? ⟨P, 0, none⟩ = some (.func (.func 66) #[] #[.pointer (some ⟨R, 0, none⟩), .pointer (some ⟨X, 0, none⟩)]) ∧ w'.cell? ⟨w.heap.size, 2, none⟩ = some (.int .i64 (k : Int)) ∧ w'.cell? ⟨w.heap.size, 3, none⟩ = some (.int .i64 (k2 : Int)))
      (first | (apply HX.out; repeat (first | assumption | exact Below.refl _ _ | apply bel_alloc | apply bel_drew)))
      (first
        | (go_at_call 66; refine Calls.mono (HC.out _ [] _ _ ?_ (by decide) ?_ ?_) ?_; (focus (first | exact .inl rfl | exact .inr rfl)); (focus (repeat (first | assumption | exact Below.refl _ _ | apply bel_alloc | apply bel_drew))); (focus (exact opsAt_nil _)); rintro e w'' ⟨rfl, rfl⟩)
        | (go_at_call 66; refine Calls.mono (HC.out _ [4] _ _ ?_ (by decide) ?_ ?_) ?_; (focus (first | exact .inl rfl | exact .inr rfl)); (focus (repeat (first | assumption | exact Below.refl _ _ | apply bel_alloc | apply bel_drew))); (focus (first | exact opsAt_new _ [4] _ (by first | rfl | simp) | exact (opsAt_new _ [4] _ (by first | rfl | simp)).below (by simp) (bel_drew (Below.refl _ _)) | exact (opsAt_new _ [4] _ (by first | rfl | simp)).below (by simp) (bel_drew (bel_alloc (Below.refl _ _) _)) | exact (opsAt_new _ [4] _ (by first | rfl | simp)).below (by simp) (bel_alloc (Below.refl _ _) _) | exact (opsAt_new _ [4] _ (by first | rfl | simp)).below (by simp) (bel_alloc (bel_drew (Below.refl _ _)) _))); rintro e w'' ⟨rfl, rfl⟩))
    all_goals
      clear HX HC
      go_wp2_with fail
      go_ret
      exact Hfin.out _ (by repeat (first | assumption | exact Below.refl _ _ | apply bel_alloc | apply bel_drew))
  · have hp1 : partOk acc.length a = true := by
      unfold nodeOk at hok
      rw [if_neg (by simp), if_neg (by simp), if_neg (by simp), if_pos rfl] at hok
      simp only [Bool.and_eq_true] at hok
      exact hok.1.2
    obtain ⟨k, t, m, rfl, hg, hs, hsl, hm, ha, hc⟩ := hacc.get hp1
    have hmk : mkT acc ⟨5, sym, (k : Int), b⟩ = .star t := by show RT.star (acc.getD _ _) = _; rw [hg]
    rw [hmk]
    have hP2 := fun w' (hb : Below w.heap.size w w') => cell_of_row w' P 0 _ _ _ ((hb.block _ hPl).trans hP)
    have c := hP2 _ (bel_alloc hb0 (.cells #[.int .i64 3, .int .i64 4] 3))
    have c' := hP2 _ hb0
    have hcall := Hpart.out _ (bel_alloc hb0 (.cells #[.int .i64 3, .int .i64 4] 3)) k m hm t.txt hs hsl [3, 4] (by decide) _ (opsAt_new _ [3, 4] (w.heap.size + 1) (by simp))
    have hpar : paren ([3, 4].contains m.op) t.txt = paren (t.isAlt || t.isCat) t.txt := by
      congr 1
      rw [ha, hc, Bool.eq_iff_iff]
      simp
      omega
    rw [hpar] at hcall
    have htx : (RT.star t).txt = paren (t.isAlt || t.isCat) t.txt ++ [42] := rfl
    rw [htx]
    have hyl : (paren (t.isAlt || t.isCat) t.txt).length ≤ 1048578 := Nat.le_trans (paren_two _ _) (by omega)
    generalize paren (t.isAlt || t.isCat) t.txt = y at hcall hyl
    have Hb := Lib.hid (bel_alloc hb0 (.cells #[.int .i64 3, .int .i64 4] 3))
    clear hacc hok hp1 hg hs hsl hm ha hc hmk hpar htx hP2
    go_enter Tryz.func68, Tryz.ntmps68
    go_wp2_with fail
    refine hcall.mono ?_
    rintro e w' ⟨rfl, rfl⟩
    clear hcall
    go_wp2_with fail
    go_ret
    exact ⟨ret_str (by rw [ba_app]; simp), Hb.out⟩
theorem made_strs (n : Nat) : madeCells #[Value.string ⟨#[]⟩] n = ((List.replicate n ([] : Bytes)).map encStr).toArray := by
  unfold madeCells
  apply Array.ext
  · simp
  · intro i h1 h2
    simp [Nat.mod_one, encStr]
/-- what Text owes -/
def TextPost (r : Bytes × Int) (w : World) (e : Ending) (w' : World) : Prop := e = .returned (.tuple #[.string ⟨r.1.toArray⟩, .int .i64 r.2]) ∧ Below w.heap.size w w'
theorem TextPost.of {r : Bytes × Int} {a : Bytes} {b : Int} {w w' : World} {e : Ending} (h : r = (a, b)) (he : e = .returned (.tuple #[.string ⟨a.toArray⟩, .int .i64 b])) (hb : Below w.heap.size w w') : TextPost r w e w' := by
  subst h; exact ⟨he, hb⟩
def regexT (l : List SNode) : Bytes × Int := if regexE l = 0 then (textN l, 0) else ([], regexE l)
/-- the trees of the first nodes, as the closures want them -/
theorem acc_ok {l : List SNode} (h : regexE l = 0) {ss : List Bytes} {k : Nat} (hk : k ≤ l.length) (hs : ss.take k = (treesL [] (l.take k)).map RT.txt) : AccOk l ss (treesL [] (l.take k)) 1048576 := by
  have hf : formedS l = true := by
    unfold regexE at h
    split at h
    · cases h
    split at h
    · cases h
    rename_i hf
    simpa using hf
  have hF := formed_of hf
  have hl : l.length ≤ 1024 := by
    unfold regexE at h
    split at h
    · cases h
    omega
  have hnames : ∀ n ∈ l, n.op = 2 → isName n.sym = true := by
    unfold regexE at h
    split at h
    · cases h
    split at h
    · cases h
    split at h
    · cases h
    rename_i hn
    rw [Bool.not_eq_true, List.any_eq_false] at hn
    intro n hnl h2
    have := hn n hnl
    simpa [h2] using this
  refine ⟨fun j t hj => ?_⟩
  have hjl : j < k := by
    have := (List.getElem?_eq_some_iff.1 hj).1
    rw [treesL_len, List.length_take] at this
    simp at this; omega
  obtain ⟨m, hm⟩ : ∃ m, l[j]? = some m := ⟨_, List.getElem?_eq_getElem (by omega)⟩
  have hpre : (treesL [] (l.take (j + 1))).getD j .none = t := by
    have e : l.take k = l.take (j + 1) ++ (l.take k).drop (j + 1) := by
      conv => lhs; rw [← List.take_append_drop (j + 1) (l.take k), List.take_take, Nat.min_eq_left (by omega)]
    rw [e, treesL_append] at hj
    have hp : ∀ (x : List SNode) (acc : List RT) (i : Nat), i < acc.length → (treesL acc x)[i]? = acc[i]? := by
      intro x
      induction x with
      | nil => intro acc i _; rfl
      | cons n x ih =>
        intro acc i hi
        rw [treesL, ih _ _ (by simp; omega), List.getElem?_append_left hi]
    rw [hp _ _ _ (by rw [treesL_len, List.length_take]; simp; omega)] at hj
    rw [List.getD_eq_getElem?_getD, hj]; rfl
  have hmk : t = mkT (treesL [] (l.take j)) m := by
    rw [← hpre, treesL_take hm, List.getD_eq_getElem?_getD]
    have : (treesL [] (l.take j)).length = j := by rw [treesL_len, List.length_take]; simp; omega
    rw [List.getElem?_append_right (by omega), this]
    simp
  have hnm : t.named = true := trees_named (l.take k) [] (fun t ht => by simp at ht) (fun n hn => hnames n (List.mem_of_mem_take hn)) t (List.mem_of_getElem? hj)
  have hsz : t.size ≤ 1024 := by
    have := tree_le RT.size (fun _ => 1) hF size_mk j (by omega)
    rw [hpre, sum_ones, List.length_take] at this
    omega
  have hb := txt_bound t hnm
  refine ⟨?_, by omega, m, hm, ?_, ?_⟩
  · have : (ss.take k)[j]? = some t.txt := by rw [hs, List.getElem?_map, hj]; rfl
    rwa [List.getElem?_take_of_lt hjl] at this
  · have hok := nodesOk_at l 0 j m hF.ok hm
    rw [hmk]
    unfold mkT
    rcases op_cases hok with e | e | e | e | e | e <;> rw [e] <;> rfl
  · have hok := nodesOk_at l 0 j m hF.ok hm
    rw [hmk]
    unfold mkT
    rcases op_cases hok with e | e | e | e | e | e <;> rw [e] <;> rfl
theorem TxSt.set {R X T : Nat} {no : Option Addr} {nc : Nat} {l : List SNode} {ss : List Bytes} {w0 w : World} (h : TxSt R X T no nc l ss w) (hR : R ≠ T) (hX : X ≠ T) (hT : w0.heap.size ≤ T) (hb : Below w0.heap.size w0 w) (hN : NodesAt w0 no nc l) (k : Nat) (hk : k < ss.length) (x : Bytes) :
    TxSt R X T no nc l (ss.set k x) (w.setCell ⟨T, k, none⟩ (.string ⟨x.toArray⟩)) := by
  refine ⟨(heap_set_ne w T k R _ hR).trans h.r, (heap_set_ne w T k X _ hX).trans h.x, ?_, hN.below (hb.setCell hT _), by rw [List.length_set]; exact h.len⟩
  rw [heap_set w T k _ h.t]
  congr 2
  rw [List.setIfInBounds_toArray, List.map_set]
theorem cell_set_ne (w : World) (U x : Nat) (v : Value) (b o : Nat) (h : b ≠ U) : (w.setCell ⟨U, x, none⟩ v).cell? ⟨b, o, none⟩ = w.cell? ⟨b, o, none⟩ := by
  show World.cell? _ _ = World.cell? _ _
  unfold World.cell?
  simp only
  rw [heap_set_ne w U x b v h]
set_option maxHeartbeats 8000000 in
set_option maxRecDepth 100000 in
theorem regexText_any (l : List SNode) (o : Option Addr) (cap : Nat) (w : World) (h : NodesAt w o cap l) (hs : ∀ n ∈ l, n.sym.length ≤ 1048576) :
    Calls Tryz.prog 32 #[.agg #[.slice o l.length cap]] w (TextPost (regexT l) w) := by
  have hlm := h.2.1
  have hcm := h.2.2.1
  unfold maxLen at hcm
  have hb0 : Below w.heap.size w (w.alloc (.cells #[.slice o l.length cap] 45)) := (Below.refl _ w).alloc (Nat.le_refl _) _
  have hx0 := heap_alloc_new w (.cells #[.slice o l.length cap] 45)
  have hlt0 : w.heap.size < (w.alloc (.cells #[.slice o l.length cap] 45)).heap.size := by simp
  have hck := regexCheck_any l o cap _ (h.below hb0) hs
  obtain ⟨r, hr⟩ : ∃ r, r = regexT l := ⟨_, rfl⟩
  rw [← hr]
  unfold regexT at hr
  by_cases hE : regexE l = 0
  rotate_left
  · rw [if_neg hE] at hr
    have Hr := Lib.hid hr
    clear hr
    generalize regexE l = E at hck hE Hr
    have hne : (E != 0) = true := by rw [bne_iff_ne]; exact hE
    clear hE
    go_enter Tryz.func32, Tryz.ntmps32
    go_wp2_with fail
    refine hck.mono ?_
    rintro e w2 ⟨rfl, hb2⟩
    clear hck
    go_wp2_with fail
    go_ret2
    exact TextPost.of Hr.out rfl (bel_next hb0 hb2)
  have HE := Lib.hid hE
  rw [if_pos hE] at hr
  rw [hE] at hck
  have Hr := Lib.hid hr
  have hl : l.length ≤ 1024 := by
    unfold regexE at hE
    split at hE
    · cases hE
    omega
  have hl1 : 1 ≤ l.length := by
    have : formedS l = true := by
      unfold regexE at hE
      split at hE
      · cases hE
      split at hE
      · cases hE
      rename_i hf
      simpa using hf
    have := (formed_of this).ne
    cases l <;> simp_all
  obtain ⟨i0, hi, hz0, hz1, hz2⟩ := info_parts info_str
  have Hmade := Lib.hid (made_strs l.length)
  clear hr hE hs
  go_enter Tryz.func32, Tryz.ntmps32
  go_wp2_with fail
  refine hck.mono ?_
  rintro e w2 ⟨rfl, hb2⟩
  clear hck
  have hb02 := bel_next hb0 hb2
  have hx2 := (hb2.block w.heap.size hlt0).trans hx0
  have c0 := cell_of_row w2 w.heap.size 0 _ _ _ hx2
  have hlt2 := lt_of_block hx2
  clear hb2 hx0 hlt0 hb0
  obtain ⟨W3, hW3⟩ : ∃ W3, W3 = ((w2.alloc (.cells (madeCells #[Value.string ⟨#[]⟩] l.length) 9)).alloc (.cells #[.slice (some ⟨w2.heap.size, 0, none⟩) l.length l.length] 37)).alloc (.cells #[.func (.func 66) #[] #[.pointer (some ⟨w.heap.size, 0, none⟩), .pointer (some ⟨w2.heap.size + 1, 0, none⟩)]] 104) := ⟨_, rfl⟩
  have hb23 : Below w2.heap.size w2 W3 := by rw [hW3]; exact bel_alloc (bel_alloc (bel_alloc (Below.refl _ _) _) _) _
  have cR := cell_of_row W3 w.heap.size 0 _ _ _ ((hb23.block _ hlt2).trans hx2)
  have hb03 := bel_next hb02 hb23
  have hT : TxSt w.heap.size (w2.heap.size + 1) w2.heap.size o cap l (List.replicate l.length []) W3 := by
    have hr3 := (hb23.block _ hlt2).trans hx2
    refine ⟨hr3, ?_, ?_, h.below hb03, List.length_replicate⟩
    · rw [hW3]
      have h1 := heap_alloc_new (w2.alloc (.cells (madeCells #[Value.string ⟨#[]⟩] l.length) 9)) (.cells #[.slice (some ⟨w2.heap.size, 0, none⟩) l.length l.length] 37)
      rw [World.size_alloc] at h1
      exact (((Below.refl _ _).alloc (Nat.le_refl _) _).block _ (by simp)).trans h1
    · rw [hW3, Hmade.out]
      have h1 := heap_alloc_new w2 (.cells ((List.replicate l.length ([] : Bytes)).map encStr).toArray 9)
      exact ((((Below.refl _ _).alloc (Nat.le_refl _) _).alloc (by simp) _).block _ (by simp)).trans h1
  have hP : W3.heap[w2.heap.size + 1 + 1]? = some (.cells #[.func (.func 66) #[] #[.pointer (some ⟨w.heap.size, 0, none⟩), .pointer (some ⟨w2.heap.size + 1, 0, none⟩)]] 104 (0, 0)) := by
    rw [hW3]
    have h1 := heap_alloc_new ((w2.alloc (.cells (madeCells #[Value.string ⟨#[]⟩] l.length) 9)).alloc (.cells #[.slice (some ⟨w2.heap.size, 0, none⟩) l.length l.length] 37)) (.cells #[.func (.func 66) #[] #[.pointer (some ⟨w.heap.size, 0, none⟩), .pointer (some ⟨w2.heap.size + 1, 0, none⟩)]] 104)
    rw [World.size_alloc, World.size_alloc] at h1
    exact h1
  rw [hW3] at cR
  go_wp2_with (first
    | (at_make; go_must (refine wpList_make_row _ rfl _ _ _ rfl 9 i0 (.string ⟨#[]⟩) Tryz.underlying37 hi hz0 hz1 rfl _ _ l.length rfl rfl (by rw [hz2]; omega) (by omega) ?_)))
  rw [← hW3]
  have hSz : w.heap.size < w2.heap.size := hlt2
  clear cR hW3 hx2 c0 hb23 Hmade hb02
  go_loopw [23] (fun v wr => ∃ (k : Nat) (ss : List Bytes), v = .int .i64 k ∧ k ≤ l.length ∧ TxSt w.heap.size (w2.heap.size + 1) w2.heap.size o cap l ss wr ∧ wr.heap[w2.heap.size + 1 + 1]? = some (.cells #[.func (.func 66) #[] #[.pointer (some ⟨w.heap.size, 0, none⟩), .pointer (some ⟨w2.heap.size + 1, 0, none⟩)]] 104 (0, 0)) ∧ Below w.heap.size w wr ∧ Hid (ss.take k = (treesL [] (l.take k)).map RT.txt)) (fun v _ => l.length - (intOf v).toNat)
  case atStart => exact ⟨0, _, rfl, Nat.zero_le _, hT, hP, hb03, rfl⟩
  case round =>
    obtain ⟨k, ss, rfl, hk, hT, hP, hbr, HK⟩ := hrel
    clear hb03
    by_cases hlt : k < l.length
    · have hdk : decide ((k : Int) < (l.length : Int)) = true := by rw [decide_eq_true_eq]; omega
      have hki : (k : Int) < (l.length : Int) := by omega
      have hk0 : (0 : Int) ≤ (k : Int) := by omega
      obtain ⟨n, hx⟩ : ∃ n, l[k]? = some n := ⟨_, List.getElem?_eq_getElem hlt⟩
      have hacc := acc_ok HE.out hk HK.out
      have hTl : (treesL [] (l.take k)).length = k := by rw [treesL_len, List.length_take]; simp; omega
      have hok : nodeOk (treesL [] (l.take k)).length n = true := by
        rw [hTl]
        have hf : formedS l = true := by
          have hE := HE.out
          unfold regexE at hE
          split at hE
          · cases hE
          split at hE
          · cases hE
          rename_i hf
          simpa using hf
        have := nodesOk_at l 0 k n (formed_of hf).ok hx
        rwa [Nat.zero_add] at this
      have hPl := lt_of_block hP
      have hcall := fun w' (hb : Below wr.heap.size wr w') => ttell_any (hT.below hb) hl ((hb.block _ hPl).trans hP) _ hacc n hok
      have htk := treesL_take hx
      obtain ⟨b, off, rfl, hbl, y0, y1, y2, y3⟩ := h.at hx
      have x0 := (hbr.cell (p := ⟨b, off + k * 4, none⟩) hbl).trans y0
      have x1 := (hbr.cell (p := ⟨b, off + k * 4 + 1, none⟩) hbl).trans y1
      have x2 := (hbr.cell (p := ⟨b, off + k * 4 + 2, none⟩) hbl).trans y2
      have x3 := (hbr.cell (p := ⟨b, off + k * 4 + 3, none⟩) hbl).trans y3
      have hss : k < ss.length := by rw [hT.len]; exact hlt
      have hnext : (ss.set k (mkT (treesL [] (l.take k)) n).txt).take (k + 1) = (treesL [] (l.take (k + 1))).map RT.txt := by
        rw [htk, List.map_append, ← HK.out, List.take_add_one, List.getElem?_set]
        rw [if_pos rfl, if_pos hss, List.take_set_of_le (Nat.le_refl _)]
        rfl
      generalize (mkT (treesL [] (l.take k)) n).txt = tx at hcall hnext
      obtain ⟨op, sym, a, b2⟩ := n
      simp only at x0 x1 x2 x3 hcall
      have hrl := lt_of_block hT.r
      have hxl := lt_of_block hT.x
      have htl := lt_of_block hT.t
      have hbw : b < wr.heap.size := by omega
      have hX : ∀ w', Below wr.heap.size wr w' → w'.cell? ⟨w.heap.size, 0, none⟩ = some (.slice (some ⟨b, off, none⟩) l.length cap) ∧ w'.cell? ⟨w2.heap.size + 1, 0, none⟩ = some (.slice (some ⟨w2.heap.size, 0, none⟩) l.length l.length) ∧ w'.cell? ⟨b, off + k * 4, none⟩ = some (.int .i64 op) ∧ w'.cell? ⟨b, off + k * 4 + 1, none⟩ = some (.string ⟨sym.toArray⟩) ∧ w'.cell? ⟨b, off + k * 4 + 2, none⟩ = some (.int .i64 a) ∧ w'.cell? ⟨b, off + k * 4 + 3, none⟩ = some (.int .i64 b2) := fun w' hb =>
        ⟨cell_of_row w' _ 0 _ _ _ ((hb.block _ hrl).trans hT.r), cell_of_row w' _ 0 _ _ _ ((hb.block _ hxl).trans hT.x), (hb.cell (p := ⟨b, off + k * 4, none⟩) hbw).trans x0, (hb.cell (p := ⟨b, off + k * 4 + 1, none⟩) hbw).trans x1, (hb.cell (p := ⟨b, off + k * 4 + 2, none⟩) hbw).trans x2, (hb.cell (p := ⟨b, off + k * 4 + 3, none⟩) hbw).trans x3⟩
      have hXs : ∀ w' v, Below wr.heap.size wr w' → (w'.setCell ⟨w2.heap.size, k, none⟩ v).cell? ⟨w.heap.size, 0, none⟩ = some (.slice (some ⟨b, off, none⟩) l.length cap) ∧ (w'.setCell ⟨w2.heap.size, k, none⟩ v).cell? ⟨w2.heap.size + 1, 0, none⟩ = some (.slice (some ⟨w2.heap.size, 0, none⟩) l.length l.length) ∧ (w'.setCell ⟨w2.heap.size, k, none⟩ v).cell? ⟨b, off + k * 4, none⟩ = some (.int .i64 op) ∧ (w'.setCell ⟨w2.heap.size, k, none⟩ v).cell? ⟨b, off + k * 4 + 1, none⟩ = some (.string ⟨sym.toArray⟩) ∧ (w'.setCell ⟨w2.heap.size, k, none⟩ v).cell? ⟨b, off + k * 4 + 2, none⟩ = some (.int .i64 a) ∧ (w'.setCell ⟨w2.heap.size, k, none⟩ v).cell? ⟨b, off + k * 4 + 3, none⟩ = some (.int .i64 b2) := fun w' v hb => by
        rw [cell_set_ne _ _ _ _ _ _ (by omega), cell_set_ne _ _ _ _ _ _ (by omega), cell_set_ne _ _ _ _ _ _ (by omega), cell_set_ne _ _ _ _ _ _ (by omega), cell_set_ne _ _ _ _ _ _ (by omega), cell_set_ne _ _ _ _ _ _ (by omega)]
        exact hX w' hb
      have hTc : ∀ w', Below wr.heap.size wr w' → w'.cell? ⟨w2.heap.size, k, none⟩ = some (.string ⟨(ss.getD k []).toArray⟩) ∧ w'.frozen? ⟨w2.heap.size, k, none⟩ = false := fun w' hb => by
        have hh := (hb.block _ htl).trans hT.t
        refine ⟨?_, by simp [World.frozen?, hh]⟩
        rw [cell_of_row w' _ k _ _ _ hh]
        simp [encStr, List.getD_eq_getElem?_getD, List.getElem?_eq_getElem hss]
      have hset : ∀ w', Below wr.heap.size wr w' → TxSt w.heap.size (w2.heap.size + 1) w2.heap.size (some ⟨b, off, none⟩) cap l (ss.set k tx) (w'.setCell ⟨w2.heap.size, k, none⟩ (.string ⟨tx.toArray⟩)) ∧ (w'.setCell ⟨w2.heap.size, k, none⟩ (.string ⟨tx.toArray⟩)).heap[w2.heap.size + 1 + 1]? = some (.cells #[.func (.func 66) #[] #[.pointer (some ⟨w.heap.size, 0, none⟩), .pointer (some ⟨w2.heap.size + 1, 0, none⟩)]] 104 (0, 0)) ∧ Below w.heap.size w (w'.setCell ⟨w2.heap.size, k, none⟩ (.string ⟨tx.toArray⟩)) := fun w' hb => by
        have hbw' := bel_next hbr hb
        exact ⟨(hT.below hb).set (by omega) (by omega) (by omega) hbw' h k hss tx, (heap_set_ne _ _ _ _ _ (by omega)).trans ((hb.block _ hPl).trans hP), hbw'.setCell (by show w.heap.size ≤ w2.heap.size; omega) _⟩
      have HX := Lib.hid hX
      have HXs := Lib.hid hXs
      have HTc := Lib.hid hTc
      have Hset := Lib.hid hset
      have Hcall := Lib.hid hcall
      have Hnext := Lib.hid hnext
      have cR := (hX wr (Below.refl _ _)).1
      clear hX hXs hTc hset hcall hnext hacc hok htk x0 x1 x2 x3 y0 y1 y2 y3 hx HK hT hP hss hPl hrl hxl htl hTl
      go_wp2_with fail
      go_region_held3 (fun w' => w'.cell? ⟨w.heap.size, 0, none⟩ = some (.slice (some ⟨b, off, none⟩) l.length cap) ∧ w'.cell? ⟨w2.heap.size + 1, 0, none⟩ = some (.slice (some ⟨w2.heap.size, 0, none⟩) l.length l.length) ∧ w'.cell? ⟨b, off + k * 4, none⟩ = some (.int .i64 op) ∧ w'.cell? ⟨b, off + k * 4 + 1, none⟩ = some (.string ⟨sym.toArray⟩) ∧ w'.cell? ⟨b, off + k * 4 + 2, none⟩ = some (.int .i64 a) ∧ w'.cell? ⟨b, off + k * 4 + 3, none⟩ = some (.int .i64 b2))
        (first | (apply HX.out; (repeat (first | assumption | exact Below.refl _ _ | apply bel_alloc | apply bel_drew)); done) | (apply HXs.out; (repeat (first | assumption | exact Below.refl _ _ | apply bel_alloc | apply bel_drew)); done))
        (first
          | (go_at_call 68; refine Calls.mono (Hcall.out _ ?_) ?_; (focus (repeat (first | assumption | exact Below.refl _ _ | apply bel_alloc | apply bel_drew))); rintro e w'' ⟨rfl, hbn⟩; have hbw2 := bel_next (w0 := wr) (by repeat (first | assumption | exact Below.refl _ _ | apply bel_alloc | apply bel_drew)) hbn; obtain ⟨hT0, hTf⟩ := HTc.out _ hbw2))
      obtain ⟨s1, s2, s3⟩ := Hset.out _ hbw2
      clear HX HXs HTc Hset Hcall hT0 hTf hbn
      go_wp2_with fail
      go_roundw
      case rel => exact ⟨k + 1, ss.set k tx, by go_num, by omega, s1, s2, s3, Hnext.out⟩
      case measure => simp [intOf]; omega
    · have hdk : decide ((k : Int) < (l.length : Int)) = false := by rw [decide_eq_false_iff_not]; omega
      have hxl := cell_of_row wr _ 0 _ _ _ hT.x
      have hlen := hT.len
      have hst := HK.out
      rw [List.take_of_length_le (by omega), List.take_of_length_le (by omega)] at hst
      have hlast : wr.cell? ⟨w2.heap.size, l.length - 1, none⟩ = some (.string ⟨(textN l).toArray⟩) := by
        rw [cell_of_row wr _ (l.length - 1) _ _ _ hT.t, hst]
        have hTl : (treesL [] l).length = l.length := by rw [treesL_len, List.length_nil, Nat.zero_add]
        unfold textN treeN
        rw [List.getLastD_eq_getLast?, List.getLast?_eq_getElem?, hTl]
        obtain ⟨t, ht⟩ : ∃ t, (treesL [] l)[l.length - 1]? = some t := ⟨_, List.getElem?_eq_getElem (by omega)⟩
        simp [ht, encStr]
      have b1 : (0 : Int) ≤ (l.length : Int) - 1 := by omega
      have b2 : (l.length : Int) - 1 < (l.length : Int) := by omega
      have t1 : ((l.length : Int) - 1).toNat = l.length - 1 := by omega
      clear hT hP HK hst hlen
      go_wp2_with fail
      go_ret2
      exact TextPost.of Hr.out rfl hbr
theorem builder_below {T e : TypeId} {B b : Nat} {bs : List Value} {w w' : World} (h : Lib.IsBuilderF T e B b bs w) (hb : Below w.heap.size w w') : Lib.IsBuilderF T e B b bs w' := by
  have H : ∀ p, Lib.BuilderAtF T e B b p bs w → Lib.BuilderAtF T e B b p bs w' := by
    rintro p ⟨hB, v, hbk, hown, hne⟩
    refine ⟨hB, v, (hb.block b (Array.getElem?_eq_some_iff.1 hbk).1).trans hbk, ⟨hown.1, ?_⟩, hne⟩
    rcases hown.2 with hn | ⟨g, cap, cur, fz, hv, hbg, hg, rest⟩
    · exact .inl hn
    · exact .inr ⟨g, cap, cur, fz, hv, hbg, (hb.block g (Array.getElem?_eq_some_iff.1 hg).1).trans hg, rest⟩
  exact h.elim (fun x => .inl (H _ x)) (fun x => .inr (H _ x))
theorem join_eq (c : UInt8) : ∀ ws : List Bytes, Lib.join ws [c] = joinT c ws
  | [] => rfl
  | [x] => by rw [Lib.join_one]; rfl
  | x :: y :: t => by
    have h := join_eq c (y :: t)
    rw [Lib.join_cons] at h ⊢
    unfold Lib.joinTail at h ⊢
    rw [List.map_cons, List.flatten_cons, List.append_assoc, h]
    rfl
theorem join_len (ws : List Bytes) (h : ∀ x ∈ ws, x.length ≤ 1048576) : (joinT 32 ws).length ≤ ws.length * 1048577 := by
  cases ws with
  | nil => simp [joinT]
  | cons w ws =>
    have h1 := tl_len_le 1048576 (w :: ws) h
    rw [tl_cons] at h1
    rw [joinT_tl]
    simp only [List.length_cons] at h1 ⊢
    omega
/-- strings.Join of an own row of words -/
theorem join_call {w : World} {B : Nat} (g c : Nat) (ws : List Bytes) (h : WordsOwn w B (.slice (some ⟨g, 0, none⟩) ws.length c) ws) (hl : ∀ x ∈ ws, x.length ≤ 1048576) (hn : ws.length ≤ 1000) :
    Calls Tryz.prog 34 #[.slice (some ⟨g, 0, none⟩) ws.length c, .string ⟨#[32]⟩] w fun e w' => e = .returned (.string ⟨(joinT 32 ws).toArray⟩) ∧ Below w.heap.size w w' := by
  have hin : WordsIn w (some ⟨g, 0, none⟩) c ws := rowAt_of h
  rcases (by cases ws with | nil => exact .inl rfl | cons x t => exact .inr ⟨x, t, rfl⟩ : ws = [] ∨ ∃ x t, ws = x :: t) with h0 | ⟨x0, t0, h0⟩
  · subst h0
    refine (Tryz.strings_Join_none (some ⟨g, 0, none⟩) c ⟨#[32]⟩ w).mono ?_
    rintro e w' ⟨rfl, rfl⟩
    exact ⟨rfl, Below.refl _ _⟩
  obtain ⟨g', off, e, hgl, _⟩ := hin.at (k := 0) (b := x0) (by rw [h0]; rfl)
  injection e with e
  injection e with e1 e2
  have hj := join_len ws hl
  have hm : ((ws.map fun b => (⟨b.toArray⟩ : ByteArray)).map (·.data.toList)) = ws := by
    rw [List.map_map]
    have : ∀ l : List Bytes, l.map ((·.data.toList) ∘ fun b => (⟨b.toArray⟩ : ByteArray)) = l := fun l => by induction l <;> simp_all
    exact this ws
  have hc := Tryz.strings_Join g 0 c (ws.map fun b => (⟨b.toArray⟩ : ByteArray)) ⟨#[32]⟩ w (fun j x hx => by
    rw [List.getElem?_map] at hx
    obtain ⟨b, hb, rfl⟩ := Option.map_eq_some_iff.1 hx
    obtain ⟨g2, off2, e3, _, hcell⟩ := hin.at hb
    injection e3 with e3
    injection e3 with e4 e5
    subst e4; subst e5
    exact hcell) (by rw [e1]; exact hgl) (by rw [List.length_map]; omega) (by rw [List.length_map]; exact hin.2.1) (by rw [hm, show ((⟨#[32]⟩ : ByteArray).data.toList) = [32] from rfl, join_eq]; omega)
  rw [hm, show ((⟨#[32]⟩ : ByteArray).data.toList) = [32] from rfl, join_eq, List.length_map] at hc
  exact hc
theorem wordsOwn_new (w : World) (ss : List Bytes) (B n H : Nat) (hB : B ≤ w.heap.size) (hn : n = ss.length) (hl : ss.length ≤ 1000) (hH : H = w.heap.size) : WordsOwn (w.alloc (.cells (ss.map encStr).toArray 9)) B (.slice (some ⟨H, 0, none⟩) n n) ss := by
  subst hn; subst hH
  exact ⟨by simp, .inr ⟨w.heap.size, ss.length, _, rfl, hB, heap_alloc_new w _, Nat.le_refl _, by unfold maxLen; omega, by simp, by rw [List.take_of_length_le (by simp)]⟩⟩
theorem cat64 (a : Bytes) : ((⟨#[64]⟩ : ByteArray) ++ (⟨a.toArray⟩ : ByteArray)) = ⟨(64 :: a).toArray⟩ := by rw [ba_app]; simp
def schemaT (ts : List SType) : Bytes × Int := if chkS ts = 0 then (textS ts, 0) else ([], chkS ts)
theorem textS_take {ts : List SType} {k : Nat} {t : SType} (h : ts[k]? = some t) : textS (ts.take (k + 1)) = textS (ts.take k) ++ (lineT t ++ [10]) := by
  unfold textS
  rw [List.take_add_one, h, Option.toList_some, List.flatMap_append]
  simp
set_option maxHeartbeats 1600000 in
set_option maxRecDepth 100000 in
theorem schemaText_any (l : List TyV) (o : Option Addr) (cap : Nat) (w : World) (h : TypesAt w o cap l) (hL : Lim l) (hs : ∀ t ∈ l.map TyV.t, t.nodes.length ≤ 24 ∧ t.attrs.length ≤ 5) (hl8 : l.length ≤ 8) :
    Calls Tryz.prog 16 #[.agg #[.slice o l.length cap]] w (TextPost (schemaT (l.map TyV.t)) w) := by
  have hlm := h.1.2.1
  have hcm := h.1.2.2.1
  unfold maxLen at hcm
  have hb0 : Below w.heap.size w (w.alloc (.cells #[.slice o l.length cap] 24)) := (Below.refl _ w).alloc (Nat.le_refl _) _
  have hx0 := heap_alloc_new w (.cells #[.slice o l.length cap] 24)
  have hlt0 : w.heap.size < (w.alloc (.cells #[.slice o l.length cap] 24)).heap.size := by simp
  have hck := check_any l o cap _ (h.below hb0) hL
  obtain ⟨r, hr⟩ : ∃ r, r = schemaT (l.map TyV.t) := ⟨_, rfl⟩
  rw [← hr]
  unfold schemaT at hr
  by_cases hE : chkS (l.map TyV.t) = 0
  rotate_left
  · rw [if_neg hE] at hr
    have Hr := Lib.hid hr
    clear hr
    generalize chkS (l.map TyV.t) = E at hck hE Hr
    have hne : (E != 0) = true := by rw [bne_iff_ne]; exact hE
    clear hE
    go_enter Tryz.func16, Tryz.ntmps16
    go_wp2_with fail
    refine hck.mono ?_
    rintro e w2 ⟨rfl, hb2⟩
    clear hck
    go_wp2_with fail
    go_ret2
    exact TextPost.of Hr.out rfl (bel_next hb0 hb2)
  rw [if_pos hE] at hr
  rw [hE] at hck
  have Hr := Lib.hid hr
  have Htok := Lib.hid (tok_of hE hs)
  have Hsym := Lib.hid hL.sym
  obtain ⟨i0, hi, hz1, hz2, hz3⟩ := info_parts info_str
  clear hr hE hs hL
  go_enter Tryz.func16, Tryz.ntmps16
  go_wp2_with fail
  refine hck.mono ?_
  rintro e w2 ⟨rfl, hb2⟩
  clear hck
  have hb02 := bel_next hb0 hb2
  have hx2 := (hb2.block w.heap.size hlt0).trans hx0
  have hlt2 := lt_of_block hx2
  have cR := cell_of_row _ w.heap.size 0 _ _ _ (((Below.refl w2.heap.size w2).alloc (Nat.le_refl _) (.cells #[.pointer none, .slice none 0 0] 76)).block w.heap.size hlt2 |>.trans hx2)
  have hfresh := (Lib.IsBuilderF.of (Lib.fresh_isBuilder 76 5 w2))
  clear hb2 hx0 hlt0 hb0 hx2
  go_wp2_with fail
  go_loopw [21] (fun v wr => ∃ (k : Nat) (acc : Bytes), v = .int .i64 k ∧ k ≤ l.length ∧ Lib.IsBuilderF 76 5 w2.heap.size w2.heap.size (Lib.byteCells acc) wr ∧ Below w2.heap.size w2 wr ∧ w2.heap.size < wr.heap.size ∧ Hid (acc = textS ((l.map TyV.t).take k)) ∧ acc.length ≤ k * 3001) (fun v _ => l.length - (intOf v).toNat)
  case atStart => exact ⟨0, [], rfl, Nat.zero_le _, hfresh, (Below.refl _ _).alloc (Nat.le_refl _) _, by simp, rfl, Nat.le_refl _⟩
  case round =>
    obtain ⟨k, acc, rfl, hk, hI, hbr, hszr, HA, hal⟩ := hrel
    obtain ⟨wo, hwo⟩ : ∃ wo, wo = wr := ⟨_, rfl⟩
    subst hwo
    clear hfresh cR
    by_cases hlt : k < l.length
    · have hdk : decide ((k : Int) < (l.length : Int)) = true := by rw [decide_eq_true_eq]; omega
      have hki : (k : Int) < (l.length : Int) := by omega
      have hk0 : (0 : Int) ≤ (k : Int) := by omega
      obtain ⟨x, hx⟩ : ∃ n, l[k]? = some n := ⟨_, List.getElem?_eq_getElem hlt⟩
      have hxt : (l.map TyV.t)[k]? = some x.t := by rw [List.getElem?_map, hx]; rfl
      have hT := Htok.out x.t (List.mem_of_getElem? hxt)
      have hb0w : Below w.heap.size w wo := hb02.trans (hbr.mono hb02.size)
      have hacc : acc ++ (lineT x.t ++ [10]) = textS ((l.map TyV.t).take (k + 1)) := by rw [textS_take hxt, HA.out]
      obtain ⟨hwa, hwn⟩ := (h.below hb0w).2 x (List.mem_of_getElem? hx)
      have hxs := Hsym.out x (List.mem_of_getElem? hx)
      have hline := line_len hT
      obtain ⟨b, off, rfl, hbl, x0, x1, x2, x3, x4, x5⟩ := (h.below hb0w).at hx
      have hsmall := hT.few
      have hnameb := (name_word hT.name).2.2
      have hlabelb := (name_word hT.label).2.2
      have hattrb : ∀ a ∈ x.t.attrs, a.length ≤ 64 := fun a ha => (name_word (hT.attrs a ha)).2.2
      have hkeyb : x.t.key.length ≤ 64 := by
        rcases hT.key with e | e
        · rw [e]; simp
        · exact (name_word e).2.2
      have htn : x.t.text = false → regexT x.t.nodes = (textN x.t.nodes, 0) := fun e => by unfold regexT; rw [if_pos (hT.nodes e)]
      have htl : x.t.text = false → (textN x.t.nodes).length ≤ 1048576 := fun e => Nat.le_trans (textN_named (hT.nodes e) hT.small).2 (by omega)
      have hnodes : x.t.text = false → ∀ w', Below wo.heap.size wo w' → Calls Tryz.prog 32 #[.agg #[.slice x.no x.t.nodes.length x.nc]] w' (TextPost (regexT x.t.nodes) w') := fun _ w' hb => regexText_any x.t.nodes x.no x.nc w' (hwn.below hb) hxs
      have hwt : wordsT x.t = [typeW, x.t.name, [61], x.t.label] ++ (x.t.attrs.map (fun a => 64 :: a) ++ ((if x.t.key = [] then [] else [keyW, 64 :: x.t.key]) ++ (if x.t.text then [textW] else [[123], textN x.t.nodes, [125]]))) := rfl
      have hlj : lineT x.t = joinT 32 (wordsT x.t) := rfl
      rw [hwt] at hlj
      obtain ⟨⟨name, label, attrs, key, text, nodes⟩, ao, ac, no, nc⟩ := x
      simp only at x0 x1 x2 x3 x4 x5 hwa hwn hnameb hlabelb hattrb hkeyb htn htl hnodes hlj hsmall hacc hline
      obtain ⟨t0, ht0⟩ : ∃ t0, t0 = (⟨name, label, attrs, key, text, nodes⟩ : SType) := ⟨_, rfl⟩
      rw [← ht0] at hacc hlj hline
      have Hlj := Lib.hid hlj
      have Hacc := Lib.hid hacc
      have Hnodes := Lib.hid hnodes
      have Htn := Lib.hid htn
      have Htl := Lib.hid htl
      have Hattrb := Lib.hid hattrb
      have hac := hwa.2.2.1
      have hal2 := hwa.2.1
      unfold maxLen at hac
      obtain ⟨wc, hwc⟩ : ∃ wc, wc = wo.alloc (.cells #[.string ⟨name.toArray⟩, .string ⟨label.toArray⟩, .slice ao attrs.length ac, .string ⟨key.toArray⟩, .bool text, .slice no nodes.length nc] 47) := ⟨_, rfl⟩
      have hbc : Below wo.heap.size wo wc := by rw [hwc]; exact (Below.refl _ wo).alloc (Nat.le_refl _) _
      have hzc : wc.heap.size = wo.heap.size + 1 := by rw [hwc]; simp
      have hcp : wc.heap[wo.heap.size]? = some (.cells #[.string ⟨name.toArray⟩, .string ⟨label.toArray⟩, .slice ao attrs.length ac, .string ⟨key.toArray⟩, .bool text, .slice no nodes.length nc] 47 (0, 0)) := by rw [hwc]; exact heap_alloc_new wo _
      have c2 : ((wo.alloc (.cells #[.string ⟨name.toArray⟩, .string ⟨label.toArray⟩, .slice ao attrs.length ac, .string ⟨key.toArray⟩, .bool text, .slice no nodes.length nc] 47)).alloc (.cells #[.string ⟨#[116, 121, 112, 101]⟩, .string ⟨name.toArray⟩, .string ⟨#[61]⟩, .string ⟨label.toArray⟩] 9)).cell? ⟨wo.heap.size, 2, none⟩ = some (.slice ao attrs.length ac) := by
        rw [← hwc]
        exact cell_of_row _ _ 2 _ _ _ ((((Below.refl _ wc).alloc (Nat.le_refl _) _).block _ (by omega)).trans hcp)
      have hown4 : WordsOwn (wc.alloc (.cells #[.string ⟨#[116, 121, 112, 101]⟩, .string ⟨name.toArray⟩, .string ⟨#[61]⟩, .string ⟨label.toArray⟩] 9)) (wo.heap.size + 1) (.slice (some ⟨wo.heap.size + 1, 0, none⟩) 4 4) [typeW, name, [61], label] := wordsOwn_new wc [typeW, name, [61], label] _ 4 _ (by omega) rfl (by simp) hzc.symm
      have hb4 : Below wo.heap.size wo (wc.alloc (.cells #[.string ⟨#[116, 121, 112, 101]⟩, .string ⟨name.toArray⟩, .string ⟨#[61]⟩, .string ⟨label.toArray⟩] 9)) := hbc.alloc hbc.size _
      have hcp4 : (wc.alloc (.cells #[.string ⟨#[116, 121, 112, 101]⟩, .string ⟨name.toArray⟩, .string ⟨#[61]⟩, .string ⟨label.toArray⟩] 9)).heap[wo.heap.size]? = some (.cells #[.string ⟨name.toArray⟩, .string ⟨label.toArray⟩, .slice ao attrs.length ac, .string ⟨key.toArray⟩, .bool text, .slice no nodes.length nc] 47 (0, 0)) := (((Below.refl _ wc).alloc (Nat.le_refl _) _).block _ (by omega)).trans hcp
      clear hlj hacc hnodes htn htl hattrb hwt hT hxs HA hxt hx ht0
      have hT1 : (lineT t0).length ≤ 3000 ∧ True := ⟨hline, trivial⟩
      go_wp2_with fail
      rw [← hwc]
      clear c2 hwc x0 x1 x2 x3 x4 x5 hcp
      go_loopw [8, 33] (fun v i wq => ∃ j : Nat, i = .int .i64 j ∧ j ≤ attrs.length ∧ WordsOwn wq (wo.heap.size + 1) v ([typeW, name, [61], label] ++ (attrs.take j).map (fun a => 64 :: a)) ∧ wq.heap[wo.heap.size]? = some (.cells #[.string ⟨name.toArray⟩, .string ⟨label.toArray⟩, .slice ao attrs.length ac, .string ⟨key.toArray⟩, .bool text, .slice no nodes.length nc] 47 (0, 0)) ∧ wo.heap.size + 1 ≤ wq.heap.size ∧ Below wo.heap.size wo wq) (fun _ i _ => attrs.length - (intOf i).toNat)
      case atStart => exact ⟨0, rfl, Nat.zero_le _, by simpa using hown4, hcp4, by simp; omega, hb4⟩
      case round =>
        obtain ⟨j, rfl, hj, hrow, hcp, hszq, hbq⟩ := hrel
        clear hown4 hcp4 hb4
        by_cases hjt : j < attrs.length
        · have hdj : decide ((j : Int) < (attrs.length : Int)) = true := by rw [decide_eq_true_eq]; omega
          have hji : (j : Int) < (attrs.length : Int) := by omega
          have hj0 : (0 : Int) ≤ (j : Int) := by omega
          obtain ⟨a, ha⟩ : ∃ n, attrs[j]? = some n := ⟨_, List.getElem?_eq_getElem hjt⟩
          have hab := Hattrb.out a (List.mem_of_getElem? ha)
          obtain ⟨g, goff, rfl, hgl, z0⟩ := (hwa.below hbq).at ha
          have hsn : [typeW, name, [61], label] ++ (attrs.take (j + 1)).map (fun a => 64 :: a) = ([typeW, name, [61], label] ++ (attrs.take j).map (fun a => 64 :: a)) ++ [64 :: a] := by rw [List.take_add_one, ha]; simp
          have hrl : ([typeW, name, [61], label] ++ (attrs.take j).map (fun a => 64 :: a)).length = 4 + j := by rw [List.length_append, List.length_map, List.length_take]; simp; omega
          have Hsn := Lib.hid hsn
          generalize [typeW, name, [61], label] ++ (attrs.take j).map (fun a => 64 :: a) = row at hrow hrl Hsn
          unfold WordsOwn at hrow
          obtain ⟨vo, vc, rfl⟩ := ownRow_shape hrow
          have hba : Below wr.heap.size wr (wr.alloc (.cells #[.string ((⟨#[64]⟩ : ByteArray) ++ (⟨a.toArray⟩ : ByteArray))] 9)) := (Below.refl _ wr).alloc (Nat.le_refl _) _
          have hnr : ∀ j, j < wo.heap.size + 1 → some j ≠ (Value.slice vo row.length vc).ownBlock := fun j hj e => by have := (World.ownsRow.lt hrow j e.symm).1; omega
          clear ha hsn
          go_wp2_with (first | (at_builtin; go_must (refine wpList_append_own _ rfl _ _ 37 rfl (wo.heap.size + 1) 9 i0 (.string ⟨#[]⟩) 1 16 Tryz.underlying37 hi hz1 hz2 hz3 rfl (by decide) _ _ _ rfl (World.ownsRow.alloc hrow _) ⟨wr.heap.size, 0, none⟩ 1 1 [.string ((⟨#[64]⟩ : ByteArray) ++ (⟨a.toArray⟩ : ByteArray))] rfl rfl (row_cells_new _ [.string ((⟨#[64]⟩ : ByteArray) ++ (⟨a.toArray⟩ : ByteArray))] _ _ (by first | rfl | simp)) (fun z hz => by simp at hz; subst hz; rfl) (by unfold maxLen; omega) (by omega) (by have := hbq.size; simp; omega) ?_); intro v1 w6 hown6 hg6 hnil6) | fail)
          go_roundw
          case rel =>
            refine ⟨j + 1, by go_num, by omega, ?_, ?_, ?_, ?_⟩
            · rw [Hsn.out]
              unfold WordsOwn
              rw [List.length_append, List.map_append]
              rw [cat64] at hown6
              exact hown6
            · rw [hg6.block wo.heap.size (by simp; omega) (hnr _ (by omega)), hba.block wo.heap.size (by omega)]
              exact hcp
            · have := hg6.size; simp at this; omega
            · exact (hbq.alloc hbq.size _).grown hg6 (by have := hbq.size; simp; omega) (fun q e => by have := (World.ownsRow.lt hrow q e).1; omega)
          case measure => simp [intOf]; omega
        · have hdj : decide ((j : Int) < (attrs.length : Int)) = false := by rw [decide_eq_false_iff_not]; omega
          rw [List.take_of_length_le (by omega)] at hrow
          have hwl0 : ∀ y ∈ [typeW, name, [61], label] ++ attrs.map (fun a => 64 :: a), y.length ≤ 1048576 := fun y hy => by
            rcases List.mem_append.1 hy with hy | hy
            · simp only [List.mem_cons, List.not_mem_nil, or_false] at hy
              rcases hy with rfl | rfl | rfl | rfl
              · decide
              · omega
              · decide
              · omega
            · obtain ⟨a, ha, rfl⟩ := List.mem_map.1 hy
              have := Hattrb.out a ha
              rw [List.length_cons]; omega
          have c3 := cell_of_row wr wo.heap.size 3 _ _ _ hcp
          have c4 := cell_of_row wr wo.heap.size 4 _ _ _ hcp
          have c5 := cell_of_row wr wo.heap.size 5 _ _ _ hcp
          have hrl : ([typeW, name, [61], label] ++ attrs.map (fun a => 64 :: a)).length ≤ 9 := by rw [List.length_append, List.length_map]; simp; omega
          rcases Classical.em (key = []) with hke | hke
          · subst hke
            have hws : (text = true → joinT 32 (([typeW, name, [61], label] ++ attrs.map (fun a => 64 :: a)) ++ [textW]) = lineT t0) ∧ (text = false → joinT 32 (([typeW, name, [61], label] ++ attrs.map (fun a => 64 :: a)) ++ [[123], textN nodes, [125]]) = lineT t0) := by
              rw [Hlj.out]
              refine ⟨fun e => ?_, fun e => ?_⟩ <;> rw [e] <;> simp
            have Hws := Lib.hid hws
            have Hwl := Lib.hid hwl0
            clear hws hwl0
            obtain ⟨ws5, hws5⟩ : ∃ ws5, ws5 = [typeW, name, [61], label] ++ attrs.map (fun a => 64 :: a) := ⟨_, rfl⟩
            rw [← hws5] at hrow hrl Hws Hwl
            unfold WordsOwn at hrow
            obtain ⟨vo5, vc5, rfl⟩ := ownRow_shape hrow
            have hown5 := hrow
            have hb5 := hbq
            obtain ⟨w5, hw5⟩ : ∃ w5, w5 = wr := ⟨_, rfl⟩
            subst hw5
            clear hws5 hrow Hlj
            cases htx : text with
            | true =>
              subst htx
              go_wp2_with (first | (at_builtin; go_must (refine wpList_append_own _ rfl _ _ 37 rfl (wo.heap.size + 1) 9 i0 (.string ⟨#[]⟩) 1 16 Tryz.underlying37 hi hz1 hz2 hz3 rfl (by decide) _ _ _ rfl (World.ownsRow.alloc hown5 _) ⟨w5.heap.size, 0, none⟩ 1 1 [.string ⟨#[116, 101, 120, 116]⟩] rfl rfl (row_cells_new _ [.string ⟨#[116, 101, 120, 116]⟩] _ _ (by first | rfl | simp)) (fun z hz => by simp at hz; subst hz; rfl) (by unfold maxLen; omega) (by omega) (by have := hb5.size; simp; omega) ?_); intro v1 w6 hown6 hg6 hnil6) | fail)
              have hown7 : WordsOwn w6 (wo.heap.size + 1) v1 (ws5 ++ [textW]) := by unfold WordsOwn; rw [List.length_append, List.map_append]; exact hown6
              have hJ7 : (lineT t0).length ≤ 3000 ∧ joinT 32 (ws5 ++ [textW]) = lineT t0 := ⟨hT1.1, Hws.out.1 (by simp)⟩
              have hb7 : Below wo.heap.size wo w6 := (hb5.alloc hb5.size _).grown hg6 (by have := hb5.size; simp; omega) (fun q e => by have := (World.ownsRow.lt hown5 q e).1; omega)
              have hws7l : ∀ x ∈ ws5 ++ [textW], x.length ≤ 1048576 := fun x hx => by
                rcases List.mem_append.1 hx with hx | hx
                · exact Hwl.out x hx
                · simp at hx; subst hx; decide
              obtain ⟨w7, hw7⟩ : ∃ w7, w7 = w6 := ⟨_, rfl⟩
              subst hw7
              obtain ⟨ws7, hws7⟩ : ∃ ws7, ws7 = ws5 ++ [textW] := ⟨_, rfl⟩
              have hl7 : ws7.length = ws5.length + 1 := by rw [hws7]; simp
              rw [← hws7] at hown7 hJ7 hws7l
              have hn7 : 1 ≤ ws7.length ∧ ws7.length ≤ 20 := by omega
              clear hl7 hws7 hown5
              obtain ⟨g, jc, rfl, hbg, hgl, hnc, hjm⟩ := ownRow_nonnil hown7 hn7.1
              obtain ⟨hn71, hn72⟩ := hn7
              have hJ := join_call (w := w7) g jc ws7 hown7 hws7l (by omega)
              have hjl := hJ7.1
              have hwr := fun (w8 : World) (hb8 : Below w7.heap.size w7 w8) (s : ByteArray) (hsz : s.size ≤ 4000) => Tryz.Builder_WriteString_k w2.heap.size w2.heap.size (Lib.byteCells acc) s w8 (builder_below hI (hb7.trans (hb8.mono hb7.size))) (by rw [Lib.byteCells_length]; omega) (by have := hbr.size; have := hb7.size; have := hb8.size; omega)
              rw [hJ7.2] at hJ
              have hll := hT1.1
              have hJ8 := hJ7.1
              have HJ7 := Lib.hid hJ7
              have Hwr := Lib.hid hwr
              have Hb7 := Lib.hid hb7
              clear hown7 hJ7 hwr
              generalize lineT t0 = ln at hJ hll HJ7 Hacc
              go_wp2_with fail
              refine hJ.mono ?_
              rintro e w8 ⟨rfl, hb8⟩
              clear hJ
              have hsz : ((⟨ln.toArray⟩ : ByteArray) ++ (⟨#[10]⟩ : ByteArray)).size ≤ 4000 := by rw [ba_app, Lib.size_eq]; simp; omega
              have hw8 := Hwr.out w8 hb8 _ hsz
              go_wp2_with fail
              refine hw8.mono ?_
              rintro e w9 ⟨rfl, hI9, hb9, _⟩
              clear hw8
              have hb79 : Below wo.heap.size wo w8 := Hb7.out.trans (hb8.mono Hb7.out.size)
              have hb09 : Below w2.heap.size w2 w8 := hbr.trans (hb79.mono hbr.size)
              go_wp2_with fail
              go_roundw
              case rel => exact ⟨k + 1, acc ++ (ln ++ [10]), by go_num, by omega, by rw [show Lib.byteCells (acc ++ (ln ++ [10])) = Lib.byteCells acc ++ Lib.strCells ((⟨ln.toArray⟩ : ByteArray) ++ (⟨#[10]⟩ : ByteArray)) by rw [ba_app, Lib.byteCells_append, Lib.strCells_eq]; simp]; exact .inr hI9, hb09.trans hb9, by have := hb9.size; have := hb8.size; have := Hb7.out.size; omega, Hacc.out, by rw [List.length_append, List.length_append]; simp; omega⟩
              case measure => simp [intOf]; omega
            | false =>
              subst htx
              have hnodes := Hnodes.out (by simp) w5 hb5
              go_wp2_with fail
              refine hnodes.mono ?_
              rintro e w5b ⟨rfl, hb5b⟩
              rw [Htn.out (by simp)]
              clear hnodes
              have hb5c : Below wo.heap.size wo w5b := hb5.trans (hb5b.mono hb5.size)
              have hown5b : w5b.ownsRow (wo.heap.size + 1) 9 1 (.slice vo5 ws5.length vc5) ws5.length (ws5.map encStr) := World.ownsRow.kept (row := none) hown5 (grown_below hb5b) (by cases e : (Value.slice vo5 ws5.length vc5).ownBlock with | none => exact .inl rfl | some g => exact .inr (fun e2 => by cases e2))
              go_wp2_with (first | (at_builtin; go_must (refine wpList_append_own _ rfl _ _ 37 rfl (wo.heap.size + 1) 9 i0 (.string ⟨#[]⟩) 1 16 Tryz.underlying37 hi hz1 hz2 hz3 rfl (by decide) _ _ _ rfl (World.ownsRow.alloc hown5b _) ⟨w5b.heap.size, 0, none⟩ 3 3 [.string ⟨#[123]⟩, .string ⟨(textN nodes).toArray⟩, .string ⟨#[125]⟩] rfl rfl (row_cells_new _ [.string ⟨#[123]⟩, .string ⟨(textN nodes).toArray⟩, .string ⟨#[125]⟩] _ _ (by first | rfl | simp)) (fun z hz => by simp at hz; rcases hz with rfl | rfl | rfl <;> rfl) (by unfold maxLen; omega) (by omega) (by have := hb5c.size; simp; omega) ?_); intro v1 w6 hown6 hg6 hnil6) | fail)
              have hown7 : WordsOwn w6 (wo.heap.size + 1) v1 (ws5 ++ [[123], textN nodes, [125]]) := by unfold WordsOwn; rw [List.length_append, List.map_append]; exact hown6
              have hJ7 : (lineT t0).length ≤ 3000 ∧ joinT 32 (ws5 ++ [[123], textN nodes, [125]]) = lineT t0 := ⟨hT1.1, Hws.out.2 (by simp)⟩
              have hb7 : Below wo.heap.size wo w6 := (hb5c.alloc hb5c.size _).grown hg6 (by have := hb5c.size; simp; omega) (fun q e => by have := (World.ownsRow.lt hown5b q e).1; omega)
              have hws7l : ∀ x ∈ ws5 ++ [[123], textN nodes, [125]], x.length ≤ 1048576 := fun x hx => by
                rcases List.mem_append.1 hx with hx | hx
                · exact Hwl.out x hx
                · simp at hx
                  rcases hx with rfl | rfl | rfl
                  · decide
                  · exact Htl.out (by simp)
                  · decide
              obtain ⟨w7, hw7⟩ : ∃ w7, w7 = w6 := ⟨_, rfl⟩
              subst hw7
              obtain ⟨ws7, hws7⟩ : ∃ ws7, ws7 = ws5 ++ [[123], textN nodes, [125]] := ⟨_, rfl⟩
              have hl7 : ws7.length = ws5.length + 3 := by rw [hws7]; simp
              rw [← hws7] at hown7 hJ7 hws7l
              have hn7 : 1 ≤ ws7.length ∧ ws7.length ≤ 20 := by omega
              clear hl7 hws7 hown5
              obtain ⟨g, jc, rfl, hbg, hgl, hnc, hjm⟩ := ownRow_nonnil hown7 hn7.1
              obtain ⟨hn71, hn72⟩ := hn7
              have hJ := join_call (w := w7) g jc ws7 hown7 hws7l (by omega)
              have hjl := hJ7.1
              have hwr := fun (w8 : World) (hb8 : Below w7.heap.size w7 w8) (s : ByteArray) (hsz : s.size ≤ 4000) => Tryz.Builder_WriteString_k w2.heap.size w2.heap.size (Lib.byteCells acc) s w8 (builder_below hI (hb7.trans (hb8.mono hb7.size))) (by rw [Lib.byteCells_length]; omega) (by have := hbr.size; have := hb7.size; have := hb8.size; omega)
              rw [hJ7.2] at hJ
              have hll := hT1.1
              have hJ8 := hJ7.1
              have HJ7 := Lib.hid hJ7
              have Hwr := Lib.hid hwr
              have Hb7 := Lib.hid hb7
              clear hown7 hJ7 hwr
              generalize lineT t0 = ln at hJ hll HJ7 Hacc
              go_wp2_with fail
              refine hJ.mono ?_
              rintro e w8 ⟨rfl, hb8⟩
              clear hJ
              have hsz : ((⟨ln.toArray⟩ : ByteArray) ++ (⟨#[10]⟩ : ByteArray)).size ≤ 4000 := by rw [ba_app, Lib.size_eq]; simp; omega
              have hw8 := Hwr.out w8 hb8 _ hsz
              go_wp2_with fail
              refine hw8.mono ?_
              rintro e w9 ⟨rfl, hI9, hb9, _⟩
              clear hw8
              have hb79 : Below wo.heap.size wo w8 := Hb7.out.trans (hb8.mono Hb7.out.size)
              have hb09 : Below w2.heap.size w2 w8 := hbr.trans (hb79.mono hbr.size)
              go_wp2_with fail
              go_roundw
              case rel => exact ⟨k + 1, acc ++ (ln ++ [10]), by go_num, by omega, by rw [show Lib.byteCells (acc ++ (ln ++ [10])) = Lib.byteCells acc ++ Lib.strCells ((⟨ln.toArray⟩ : ByteArray) ++ (⟨#[10]⟩ : ByteArray)) by rw [ba_app, Lib.byteCells_append, Lib.strCells_eq]; simp]; exact .inr hI9, hb09.trans hb9, by have := hb9.size; have := hb8.size; have := Hb7.out.size; omega, Hacc.out, by rw [List.length_append, List.length_append]; simp; omega⟩
              case measure => simp [intOf]; omega
          · have hke2 : key.isEmpty = false := by cases key <;> simp_all
            have hws : (text = true → joinT 32 ((([typeW, name, [61], label] ++ attrs.map (fun a => 64 :: a)) ++ [keyW, 64 :: key]) ++ [textW]) = lineT t0) ∧ (text = false → joinT 32 ((([typeW, name, [61], label] ++ attrs.map (fun a => 64 :: a)) ++ [keyW, 64 :: key]) ++ [[123], textN nodes, [125]]) = lineT t0) := by
              rw [Hlj.out, if_neg hke]
              refine ⟨fun e => ?_, fun e => ?_⟩ <;> rw [e] <;> simp
            have hwl5 : ∀ y ∈ ([typeW, name, [61], label] ++ attrs.map (fun a => 64 :: a)) ++ [keyW, 64 :: key], y.length ≤ 1048576 := fun y hy => by
              rcases List.mem_append.1 hy with hy | hy
              · exact hwl0 y hy
              · simp only [List.mem_cons, List.not_mem_nil, or_false] at hy
                rcases hy with rfl | rfl
                · decide
                · rw [List.length_cons]; omega
            have Hws := Lib.hid hws
            have Hwl := Lib.hid hwl5
            clear hws hwl0 hwl5
            obtain ⟨ws4, hws4⟩ : ∃ ws4, ws4 = [typeW, name, [61], label] ++ attrs.map (fun a => 64 :: a) := ⟨_, rfl⟩
            rw [← hws4] at hrow hrl Hws Hwl
            unfold WordsOwn at hrow
            obtain ⟨vo4, vc4, rfl⟩ := ownRow_shape hrow
            obtain ⟨w4, hw4⟩ : ∃ w4, w4 = wr := ⟨_, rfl⟩
            subst hw4
            have hba : Below w4.heap.size w4 (w4.alloc (.cells #[.string ⟨#[107, 101, 121]⟩, .string ((⟨#[64]⟩ : ByteArray) ++ (⟨key.toArray⟩ : ByteArray))] 9)) := (Below.refl _ w4).alloc (Nat.le_refl _) _
            have hnr : ∀ j, j < wo.heap.size + 1 → some j ≠ (Value.slice vo4 ws4.length vc4).ownBlock := fun j hj e => by have := (World.ownsRow.lt hrow j e.symm).1; omega
            have hg5b : ∀ w5, (w4.alloc (.cells #[.string ⟨#[107, 101, 121]⟩, .string ((⟨#[64]⟩ : ByteArray) ++ (⟨key.toArray⟩ : ByteArray))] 9)).grownBy w5 (Value.slice vo4 ws4.length vc4).ownBlock → Below wo.heap.size wo w5 := fun w5 hg => (hbq.alloc hbq.size _).grown hg (by have := hbq.size; simp; omega) (fun q e => by have := (World.ownsRow.lt hrow q e).1; omega)
            have hc4 : ∀ w5, (w4.alloc (.cells #[.string ⟨#[107, 101, 121]⟩, .string ((⟨#[64]⟩ : ByteArray) ++ (⟨key.toArray⟩ : ByteArray))] 9)).grownBy w5 (Value.slice vo4 ws4.length vc4).ownBlock → w5.cell? ⟨wo.heap.size, 4, none⟩ = some (.bool text) := fun w5 hg => (hg.cell_far ⟨wo.heap.size, 4, none⟩ (by show wo.heap.size < _; rw [World.size_alloc]; omega) (hnr wo.heap.size (by omega))).trans ((hba.cell (p := ⟨wo.heap.size, 4, none⟩) (by show wo.heap.size < w4.heap.size; omega)).trans c4)
            have hc5 : ∀ w5, (w4.alloc (.cells #[.string ⟨#[107, 101, 121]⟩, .string ((⟨#[64]⟩ : ByteArray) ++ (⟨key.toArray⟩ : ByteArray))] 9)).grownBy w5 (Value.slice vo4 ws4.length vc4).ownBlock → w5.cell? ⟨wo.heap.size, 5, none⟩ = some (.slice no nodes.length nc) := fun w5 hg => (hg.cell_far ⟨wo.heap.size, 5, none⟩ (by show wo.heap.size < _; rw [World.size_alloc]; omega) (hnr wo.heap.size (by omega))).trans ((hba.cell (p := ⟨wo.heap.size, 5, none⟩) (by show wo.heap.size < w4.heap.size; omega)).trans c5)
            have Hg5 := Lib.hid hg5b
            have Hc4 := Lib.hid hc4
            have Hc5 := Lib.hid hc5
            clear hws4 Hlj hg5b hc4 hc5 hnr hba
            cases htx : text with
            | true =>
              subst htx
              go_wp2_with (first | (at_builtin; refine wpList_append_own _ rfl _ _ 37 rfl (wo.heap.size + 1) 9 i0 (.string ⟨#[]⟩) 1 16 Tryz.underlying37 hi hz1 hz2 hz3 rfl (by decide) _ _ _ rfl (World.ownsRow.alloc hrow _) ⟨w4.heap.size, 0, none⟩ 2 2 [.string ⟨#[107, 101, 121]⟩, .string ((⟨#[64]⟩ : ByteArray) ++ (⟨key.toArray⟩ : ByteArray))] rfl rfl (row_cells_new _ [.string ⟨#[107, 101, 121]⟩, .string ((⟨#[64]⟩ : ByteArray) ++ (⟨key.toArray⟩ : ByteArray))] _ _ (by first | rfl | simp)) (fun z hz => by simp at hz; rcases hz with rfl | rfl <;> rfl) (by unfold maxLen; omega) (by omega) (by have := hbq.size; simp; omega) ?_; intro v5 w5 hown5x hg5 hnil5; obtain ⟨vo5, vc5, rfl⟩ := ownRow_shape hown5x; have hb5 := Hg5.out w5 hg5; have c4b := Hc4.out w5 hg5; have c5b := Hc5.out w5 hg5) | (at_builtin; go_must (refine wpList_append_own _ rfl _ _ 37 rfl (wo.heap.size + 1) 9 i0 (.string ⟨#[]⟩) 1 16 Tryz.underlying37 hi hz1 hz2 hz3 rfl (by decide) _ _ _ rfl (World.ownsRow.alloc hown5x _) ⟨w5.heap.size, 0, none⟩ 1 1 [.string ⟨#[116, 101, 120, 116]⟩] rfl rfl (row_cells_new _ [.string ⟨#[116, 101, 120, 116]⟩] _ _ (by first | rfl | simp)) (fun z hz => by simp at hz; subst hz; rfl) (by unfold maxLen; omega) (by omega) (by have := hb5.size; simp; omega) ?_); intro v1 w6 hown6 hg6 hnil6) | fail)
              have hown7 : WordsOwn w6 (wo.heap.size + 1) v1 ((ws4 ++ [keyW, 64 :: key]) ++ [textW]) := by
                unfold WordsOwn
                rw [List.length_append, List.length_append, List.map_append, List.map_append]
                rw [cat64] at hown6
                exact hown6
              have hJ7 : (lineT t0).length ≤ 3000 ∧ joinT 32 ((ws4 ++ [keyW, 64 :: key]) ++ [textW]) = lineT t0 := ⟨hT1.1, Hws.out.1 (by simp)⟩
              have hb7 : Below wo.heap.size wo w6 := (hb5.alloc hb5.size _).grown hg6 (by have := hb5.size; simp; omega) (fun q e => by have := (World.ownsRow.lt hown5x q e).1; omega)
              have hws7l : ∀ x ∈ (ws4 ++ [keyW, 64 :: key]) ++ [textW], x.length ≤ 1048576 := fun x hx => by
                rcases List.mem_append.1 hx with hx | hx
                · exact Hwl.out x hx
                · simp at hx; subst hx; decide
              obtain ⟨w7, hw7⟩ : ∃ w7, w7 = w6 := ⟨_, rfl⟩
              subst hw7
              obtain ⟨ws7, hws7⟩ : ∃ ws7, ws7 = (ws4 ++ [keyW, 64 :: key]) ++ [textW] := ⟨_, rfl⟩
              have hl7 : ws7.length = ws4.length + 3 := by rw [hws7]; simp
              rw [← hws7] at hown7 hJ7 hws7l
              have hn7 : 1 ≤ ws7.length ∧ ws7.length ≤ 20 := by omega
              clear hl7 hws7 hown5x hrow
              obtain ⟨g, jc, rfl, hbg, hgl, hnc, hjm⟩ := ownRow_nonnil hown7 hn7.1
              obtain ⟨hn71, hn72⟩ := hn7
              have hJ := join_call (w := w7) g jc ws7 hown7 hws7l (by omega)
              have hjl := hJ7.1
              have hwr := fun (w8 : World) (hb8 : Below w7.heap.size w7 w8) (s : ByteArray) (hsz : s.size ≤ 4000) => Tryz.Builder_WriteString_k w2.heap.size w2.heap.size (Lib.byteCells acc) s w8 (builder_below hI (hb7.trans (hb8.mono hb7.size))) (by rw [Lib.byteCells_length]; omega) (by have := hbr.size; have := hb7.size; have := hb8.size; omega)
              rw [hJ7.2] at hJ
              have hll := hT1.1
              have hJ8 := hJ7.1
              have HJ7 := Lib.hid hJ7
              have Hwr := Lib.hid hwr
              have Hb7 := Lib.hid hb7
              clear hown7 hJ7 hwr
              generalize lineT t0 = ln at hJ hll HJ7 Hacc
              go_wp2_with fail
              refine hJ.mono ?_
              rintro e w8 ⟨rfl, hb8⟩
              clear hJ
              have hsz : ((⟨ln.toArray⟩ : ByteArray) ++ (⟨#[10]⟩ : ByteArray)).size ≤ 4000 := by rw [ba_app, Lib.size_eq]; simp; omega
              have hw8 := Hwr.out w8 hb8 _ hsz
              go_wp2_with fail
              refine hw8.mono ?_
              rintro e w9 ⟨rfl, hI9, hb9, _⟩
              clear hw8
              have hb79 : Below wo.heap.size wo w8 := Hb7.out.trans (hb8.mono Hb7.out.size)
              have hb09 : Below w2.heap.size w2 w8 := hbr.trans (hb79.mono hbr.size)
              go_wp2_with fail
              go_roundw
              case rel => exact ⟨k + 1, acc ++ (ln ++ [10]), by go_num, by omega, by rw [show Lib.byteCells (acc ++ (ln ++ [10])) = Lib.byteCells acc ++ Lib.strCells ((⟨ln.toArray⟩ : ByteArray) ++ (⟨#[10]⟩ : ByteArray)) by rw [ba_app, Lib.byteCells_append, Lib.strCells_eq]; simp]; exact .inr hI9, hb09.trans hb9, by have := hb9.size; have := hb8.size; have := Hb7.out.size; omega, Hacc.out, by rw [List.length_append, List.length_append]; simp; omega⟩
              case measure => simp [intOf]; omega
            | false =>
              subst htx
              go_wp2_with (first | (at_builtin; refine wpList_append_own _ rfl _ _ 37 rfl (wo.heap.size + 1) 9 i0 (.string ⟨#[]⟩) 1 16 Tryz.underlying37 hi hz1 hz2 hz3 rfl (by decide) _ _ _ rfl (World.ownsRow.alloc hrow _) ⟨w4.heap.size, 0, none⟩ 2 2 [.string ⟨#[107, 101, 121]⟩, .string ((⟨#[64]⟩ : ByteArray) ++ (⟨key.toArray⟩ : ByteArray))] rfl rfl (row_cells_new _ [.string ⟨#[107, 101, 121]⟩, .string ((⟨#[64]⟩ : ByteArray) ++ (⟨key.toArray⟩ : ByteArray))] _ _ (by first | rfl | simp)) (fun z hz => by simp at hz; rcases hz with rfl | rfl <;> rfl) (by unfold maxLen; omega) (by omega) (by have := hbq.size; simp; omega) ?_; intro v5 w5 hown5x hg5 hnil5; obtain ⟨vo5, vc5, rfl⟩ := ownRow_shape hown5x; have hb5 := Hg5.out w5 hg5; have c4b := Hc4.out w5 hg5; have c5b := Hc5.out w5 hg5) | fail)
              have hnodes := Hnodes.out (by simp) w5 hb5
              refine hnodes.mono ?_
              rintro e w5b ⟨rfl, hb5b⟩
              rw [Htn.out (by simp)]
              clear hnodes
              have hb5c : Below wo.heap.size wo w5b := hb5.trans (hb5b.mono hb5.size)
              have hown5b := World.ownsRow.kept (row := none) hown5x (grown_below hb5b) (by cases e : (Value.slice vo5 (ws4.length + 2) vc5).ownBlock with | none => exact .inl rfl | some g => exact .inr (fun e2 => by cases e2))
              go_wp2_with (first | (at_builtin; go_must (refine wpList_append_own _ rfl _ _ 37 rfl (wo.heap.size + 1) 9 i0 (.string ⟨#[]⟩) 1 16 Tryz.underlying37 hi hz1 hz2 hz3 rfl (by decide) _ _ _ rfl (World.ownsRow.alloc hown5b _) ⟨w5b.heap.size, 0, none⟩ 3 3 [.string ⟨#[123]⟩, .string ⟨(textN nodes).toArray⟩, .string ⟨#[125]⟩] rfl rfl (row_cells_new _ [.string ⟨#[123]⟩, .string ⟨(textN nodes).toArray⟩, .string ⟨#[125]⟩] _ _ (by first | rfl | simp)) (fun z hz => by simp at hz; rcases hz with rfl | rfl | rfl <;> rfl) (by unfold maxLen; omega) (by omega) (by have := hb5c.size; simp; omega) ?_); intro v1 w6 hown6 hg6 hnil6) | fail)
              have hown7 : WordsOwn w6 (wo.heap.size + 1) v1 ((ws4 ++ [keyW, 64 :: key]) ++ [[123], textN nodes, [125]]) := by
                unfold WordsOwn
                rw [List.length_append, List.length_append, List.map_append, List.map_append]
                rw [cat64] at hown6
                exact hown6
              have hJ7 : (lineT t0).length ≤ 3000 ∧ joinT 32 ((ws4 ++ [keyW, 64 :: key]) ++ [[123], textN nodes, [125]]) = lineT t0 := ⟨hT1.1, Hws.out.2 (by simp)⟩
              have hb7 : Below wo.heap.size wo w6 := (hb5c.alloc hb5c.size _).grown hg6 (by have := hb5c.size; simp; omega) (fun q e => by have := (World.ownsRow.lt hown5b q e).1; omega)
              have hws7l : ∀ x ∈ (ws4 ++ [keyW, 64 :: key]) ++ [[123], textN nodes, [125]], x.length ≤ 1048576 := fun x hx => by
                rcases List.mem_append.1 hx with hx | hx
                · exact Hwl.out x hx
                · simp at hx
                  rcases hx with rfl | rfl | rfl
                  · decide
                  · exact Htl.out (by simp)
                  · decide
              obtain ⟨w7, hw7⟩ : ∃ w7, w7 = w6 := ⟨_, rfl⟩
              subst hw7
              obtain ⟨ws7, hws7⟩ : ∃ ws7, ws7 = (ws4 ++ [keyW, 64 :: key]) ++ [[123], textN nodes, [125]] := ⟨_, rfl⟩
              have hl7 : ws7.length = ws4.length + 5 := by rw [hws7]; simp
              rw [← hws7] at hown7 hJ7 hws7l
              have hn7 : 1 ≤ ws7.length ∧ ws7.length ≤ 20 := by omega
              clear hl7 hws7 hown5x hrow hown5b
              obtain ⟨g, jc, rfl, hbg, hgl, hnc, hjm⟩ := ownRow_nonnil hown7 hn7.1
              obtain ⟨hn71, hn72⟩ := hn7
              have hJ := join_call (w := w7) g jc ws7 hown7 hws7l (by omega)
              have hjl := hJ7.1
              have hwr := fun (w8 : World) (hb8 : Below w7.heap.size w7 w8) (s : ByteArray) (hsz : s.size ≤ 4000) => Tryz.Builder_WriteString_k w2.heap.size w2.heap.size (Lib.byteCells acc) s w8 (builder_below hI (hb7.trans (hb8.mono hb7.size))) (by rw [Lib.byteCells_length]; omega) (by have := hbr.size; have := hb7.size; have := hb8.size; omega)
              rw [hJ7.2] at hJ
              have hll := hT1.1
              have hJ8 := hJ7.1
              have HJ7 := Lib.hid hJ7
              have Hwr := Lib.hid hwr
              have Hb7 := Lib.hid hb7
              clear hown7 hJ7 hwr
              generalize lineT t0 = ln at hJ hll HJ7 Hacc
              go_wp2_with fail
              refine hJ.mono ?_
              rintro e w8 ⟨rfl, hb8⟩
              clear hJ
              have hsz : ((⟨ln.toArray⟩ : ByteArray) ++ (⟨#[10]⟩ : ByteArray)).size ≤ 4000 := by rw [ba_app, Lib.size_eq]; simp; omega
              have hw8 := Hwr.out w8 hb8 _ hsz
              go_wp2_with fail
              refine hw8.mono ?_
              rintro e w9 ⟨rfl, hI9, hb9, _⟩
              clear hw8
              have hb79 : Below wo.heap.size wo w8 := Hb7.out.trans (hb8.mono Hb7.out.size)
              have hb09 : Below w2.heap.size w2 w8 := hbr.trans (hb79.mono hbr.size)
              go_wp2_with fail
              go_roundw
              case rel => exact ⟨k + 1, acc ++ (ln ++ [10]), by go_num, by omega, by rw [show Lib.byteCells (acc ++ (ln ++ [10])) = Lib.byteCells acc ++ Lib.strCells ((⟨ln.toArray⟩ : ByteArray) ++ (⟨#[10]⟩ : ByteArray)) by rw [ba_app, Lib.byteCells_append, Lib.strCells_eq]; simp]; exact .inr hI9, hb09.trans hb9, by have := hb9.size; have := hb8.size; have := Hb7.out.size; omega, Hacc.out, by rw [List.length_append, List.length_append]; simp; omega⟩
              case measure => simp [intOf]; omega
    · have hdk : decide ((k : Int) < (l.length : Int)) = false := by rw [decide_eq_false_iff_not]; omega
      have hacc : acc = textS (l.map TyV.t) := by
        have := HA.out
        rwa [List.take_of_length_le (by rw [List.length_map]; omega)] at this
      have Hacc := Lib.hid hacc
      have hst := Tryz.Builder_String_any_k w2.heap.size w2.heap.size acc wo hI (by omega)
      have hb0w : Below w.heap.size w wo := hb02.trans (hbr.mono hb02.size)
      clear hacc HA hI
      go_wp2_with fail
      refine hst.mono ?_
      rintro e w9 ⟨rfl, _, hb9, _⟩
      clear hst
      have hb09 : Below w2.heap.size w2 w9 := hbr.trans hb9
      go_wp2_with fail
      go_ret2
      exact TextPost.of (by rw [Hr.out, Hacc.out]) rfl (hb02.trans (hb09.mono hb02.size))
set_option maxHeartbeats 1000000 in
set_option maxRecDepth 100000 in
theorem texts_same (ws : List Bytes) (o o' : Option Addr) (c c' : Nat) (w : World) (h : WordsIn w o c ws) (h' : WordsIn w o' c' ws) (hl : ws.length ≤ 1048576) :
    Calls Tryz.prog 18 #[.slice o ws.length c, .slice o' ws.length c'] w fun e w' => e = .returned (.bool true) ∧ Below w.heap.size w w' := by
  have hc1 := h.2.2.1
  have hc2 := h'.2.2.1
  unfold maxLen at hc1 hc2
  go_enter Tryz.func18, Tryz.ntmps18
  go_wp2_with fail
  go_loopw [5] (fun v wr => ∃ k : Nat, v = .int .i64 k ∧ k ≤ ws.length ∧ Below w.heap.size w wr) (fun v _ => ws.length - (intOf v).toNat)
  case atStart => exact ⟨0, rfl, Nat.zero_le _, Below.refl _ _⟩
  case round =>
    obtain ⟨k, rfl, hk, hbr⟩ := hrel
    by_cases hlt : k < ws.length
    · have hdk : decide ((k : Int) < (ws.length : Int)) = true := by rw [decide_eq_true_eq]; omega
      have hki : (k : Int) < (ws.length : Int) := by omega
      have hk0 : (0 : Int) ≤ (k : Int) := by omega
      obtain ⟨x, hx⟩ : ∃ n, ws[k]? = some n := ⟨_, List.getElem?_eq_getElem hlt⟩
      obtain ⟨g, off, rfl, hgl, x0⟩ := (h.below hbr).at hx
      obtain ⟨g', off', rfl, hgl', x1⟩ := (h'.below hbr).at hx
      clear hx
      go_wp2_with fail
      go_quiet (fail)
      go_wp2_with fail
      go_roundw
      case rel => exact ⟨k + 1, by go_num, by omega, below_drewN hbr _⟩
      case measure => simp [intOf]; omega
    · have hdk : decide ((k : Int) < (ws.length : Int)) = false := by rw [decide_eq_false_iff_not]; omega
      go_wp2_with fail
      go_ret
      exact ⟨rfl, hbr⟩
theorem small_facts {l : List TyV} (h : smallS (l.map TyV.t) = true) : (∀ t ∈ l.map TyV.t, t.nodes.length ≤ 24 ∧ t.attrs.length ≤ 5) ∧ l.length ≤ 8 := by
  unfold smallS at h
  rw [Bool.and_eq_true, List.all_eq_true] at h
  have h2 := of_decide_eq_true h.2
  rw [List.length_map] at h2
  refine ⟨fun t ht => ?_, h2⟩
  have h3 := h.1 t ht
  unfold smallT at h3
  simp only [Bool.and_eq_true, decide_eq_true_eq] at h3
  have h4 : smallN t.nodes = true := by simp_all
  unfold smallN at h4
  rw [Bool.and_eq_true] at h4
  have := of_decide_eq_true h4.2
  refine ⟨this, ?_⟩
  simp_all
theorem lay_syms : ∀ (t : RT) (m : SNode), m ∈ t.lay → m.sym = [] ∨ ∃ b, m.sym = b ∧ 0 < t.cnt b
  | .none, m, h => by simp [RT.lay, noneN] at h; subst h; exact .inl rfl
  | .empty, m, h => by simp [RT.lay, emptyN] at h; subst h; exact .inl rfl
  | .sym s, m, h => by simp [RT.lay] at h; subst h; exact .inr ⟨s, rfl, by simp [RT.cnt]⟩
  | .cat a b, m, h => by
    unfold RT.lay stepF at h
    rw [if_neg (by decide)] at h
    rcases List.mem_append.1 h with h | h
    · rcases List.mem_append.1 h with h | h
      · exact (lay_syms a m h).imp id fun ⟨w, e, hc⟩ => ⟨w, e, by simp only [RT.cnt]; omega⟩
      · obtain ⟨q, hq, rfl⟩ := List.mem_map.1 h
        rw [(movedS_op _ q).2]
        exact (lay_syms b q hq).imp id fun ⟨w, e, hc⟩ => ⟨w, e, by simp only [RT.cnt]; omega⟩
    · simp at h; subst h; exact .inl rfl
  | .alt a b, m, h => by
    unfold RT.lay stepF at h
    rw [if_neg (by decide)] at h
    rcases List.mem_append.1 h with h | h
    · rcases List.mem_append.1 h with h | h
      · exact (lay_syms a m h).imp id fun ⟨w, e, hc⟩ => ⟨w, e, by simp only [RT.cnt]; omega⟩
      · obtain ⟨q, hq, rfl⟩ := List.mem_map.1 h
        rw [(movedS_op _ q).2]
        exact (lay_syms b q hq).imp id fun ⟨w, e, hc⟩ => ⟨w, e, by simp only [RT.cnt]; omega⟩
    · simp at h; subst h; exact .inl rfl
  | .star a, m, h => by
    unfold RT.lay manyS at h
    rcases List.mem_append.1 h with h | h
    · exact (lay_syms a m h).imp id fun ⟨w, e, hc⟩ => ⟨w, e, hc⟩
    · simp at h; subst h; exact .inl rfl
theorem sym_len {t : SType} (h : TOk t) (ht : t.text = false) (n : SNode) (hn : n ∈ (treeN t.nodes).lay) : n.sym.length ≤ 64 := by
  rcases lay_syms _ n hn with e | ⟨b, e, hc⟩
  · rw [e]; simp
  · rw [e]
    exact (name_word (cnt_named _ (treeN_named (h.nodes ht)) b hc)).2.2
theorem lim_again {l xs : List TyV} (hx : xs.map TyV.t = (l.map TyV.t).map againT) (hT : ∀ t ∈ l.map TyV.t, TOk t) (hl : l.length ≤ 8) : Lim xs ∧ (∀ t ∈ xs.map TyV.t, t.nodes.length ≤ 24 ∧ t.attrs.length ≤ 5) ∧ xs.length = l.length := by
  have hlen : xs.length = l.length := by have := congrArg List.length hx; simpa using this
  have hm : ∀ x ∈ xs, ∃ t ∈ l.map TyV.t, x.t = againT t := fun x hxm => by
    have : x.t ∈ xs.map TyV.t := List.mem_map_of_mem hxm
    rw [hx] at this
    obtain ⟨t, ht, e⟩ := List.mem_map.1 this
    exact ⟨t, ht, e.symm⟩
  have hnm : ∀ {s : Bytes}, isName s = true → s.length ≤ 1048576 := fun h => by have := (name_word h).2.2; omega
  refine ⟨⟨by omega, fun x hxm => ?_, fun x hxm => ?_, fun x hxm => ?_, fun x hxm => ?_, fun x hxm => ?_, fun x hxm => ?_⟩, fun t ht => ?_, hlen⟩
  · obtain ⟨t, ht, e⟩ := hm x hxm
    rw [e, (again_fields t).1]; exact hnm (hT t ht).name
  · obtain ⟨t, ht, e⟩ := hm x hxm
    rw [e, (again_fields t).2.1]; exact hnm (hT t ht).label
  · obtain ⟨t, ht, e⟩ := hm x hxm
    rw [e, (again_fields t).2.2.2.1]
    rcases (hT t ht).key with h | h
    · rw [h]; simp
    · exact hnm h
  · obtain ⟨t, ht, e⟩ := hm x hxm
    rw [e, (again_fields t).2.2.1]; have := (hT t ht).few; omega
  · obtain ⟨t, ht, e⟩ := hm x hxm
    rw [e, (again_fields t).2.2.1]
    exact fun a ha => hnm ((hT t ht).attrs a ha)
  · obtain ⟨t, ht, e⟩ := hm x hxm
    rw [e]
    intro n hn
    unfold againT at hn
    cases ht2 : t.text with
    | true => rw [ht2, if_pos rfl, (hT t ht).text ht2] at hn; simp at hn
    | false =>
      rw [ht2, if_neg (by simp)] at hn
      have hsy := sym_len (hT t ht) ht2 n hn
      omega
  · rw [hx] at ht
    obtain ⟨u, hu, rfl⟩ := List.mem_map.1 ht
    rw [(again_nodes (hT u hu)).2.1, (again_fields u).2.2.1]
    exact ⟨(hT u hu).small, (hT u hu).few⟩
set_option maxHeartbeats 1600000 in
set_option maxRecDepth 100000 in
theorem backLaw_any (l : List TyV) (o : Option Addr) (cap : Nat) (w : World) (h : TypesAt w o cap l) :
    Calls Tryz.prog 5 #[.agg #[.slice o l.length cap]] w fun e w' => e = .returned (.bool true) ∧ Below w.heap.size w w' := by
  have hlm := h.1.2.1
  have hcm := h.1.2.2.1
  unfold maxLen at hcm
  have hb0 : Below w.heap.size w (w.alloc (.cells #[.slice o l.length cap] 24)) := (Below.refl _ w).alloc (Nat.le_refl _) _
  have h1 := h.below hb0
  obtain ⟨w1, hw1⟩ : ∃ w1, w1 = w.alloc (.cells #[.slice o l.length cap] 24) := ⟨_, rfl⟩
  have hx0 := heap_alloc_new w (.cells #[.slice o l.length cap] 24)
  have hz0 : w.heap.size < (w.alloc (.cells #[.slice o l.length cap] 24)).heap.size := by simp
  have hsm := small09_any l o cap
  have haw := awake_any
  go_enter Tryz.func5, Tryz.ntmps5
  go_wp2_with fail
  rw [← hw1] at hb0 h1 hx0 hz0 ⊢
  clear hw1
  have hsm1 := hsm w1 h1
  clear hsm
  have hS : ∀ w', Below w1.heap.size w1 w' → w'.cell? ⟨w.heap.size, 0, none⟩ = some (.slice o l.length cap) := fun w' hb => cell_of_row _ _ 0 _ _ _ ((hb.block w.heap.size hz0).trans hx0)
  have HS := Lib.hid hS
  clear hx0 hz0 h hS
  refine hsm1.mono ?_
  rintro e w2 ⟨rfl, hb2⟩
  clear hsm1
  have hbw := bel_next hb0 hb2
  cases hsb : smallS (l.map TyV.t) with
  | false =>
    go_wp2_with fail
    refine (haw _).mono ?_
    rintro e w3 ⟨rfl, hb3⟩
    go_wp2_with fail
    go_ret
    exact ⟨rfl, bel_next hbw hb3⟩
  | true =>
  have hL := lim_small hsb
  obtain ⟨hs, hl8⟩ := small_facts hsb
  clear hsb
  have c2 := HS.out _ hb2
  have htxt := schemaText_any l o cap w2 (h1.below hb2) hL hs hl8
  unfold schemaT TextPost at htxt
  by_cases hE : chkS (l.map TyV.t) = 0
  rotate_left
  · rw [if_neg hE] at htxt
    simp only at htxt
    clear hs hL
    generalize chkS (l.map TyV.t) = E at htxt hE
    have hne : (E != 0) = true := by rw [bne_iff_ne]; exact hE
    clear hE
    go_wp2_with fail
    refine htxt.mono ?_
    rintro e w3 ⟨rfl, hb3⟩
    clear htxt
    go_wp2_with fail
    refine (haw _).mono ?_
    rintro e w4 ⟨rfl, hb4⟩
    go_wp2_with fail
    go_ret
    exact ⟨rfl, bel_next (bel_next hbw hb3) hb4⟩
  rw [if_pos hE] at htxt
  simp only at htxt
  have hB := backP hE hs (by rw [List.length_map]; exact hl8)
  have hTok := tok_of hE hs
  have hpar := fun w' => parse_small (textS (l.map TyV.t)) w' hB.len hB.asc
  rw [hB.parse] at hpar
  unfold ParsePost at hpar
  simp only at hpar
  have Htypes := Lib.hid hB.types
  have HtextA := Lib.hid hB.text
  have Hchk := Lib.hid hB.chk
  have HTok := Lib.hid hTok
  have Hpar := Lib.hid hpar
  have Hsym := Lib.hid hL.sym
  clear hB hTok hpar hE hs hL
  go_wp2_with fail
  refine htxt.mono ?_
  rintro e w3 ⟨rfl, hb3⟩
  clear htxt c2
  have hb13 := bel_next hb2 hb3
  have hp := Hpar.out w3
  generalize htxe : textS (l.map TyV.t) = tx at hp HtextA
  clear hb3 hb2 hbw
  go_wp2_with fail
  refine hp.mono ?_
  rintro e w4 ⟨xs, o2, cap2, hxs, rfl, hT4, hb4⟩
  clear hp
  obtain ⟨hLx, hsx, hxl⟩ := lim_again hxs HTok.out hl8
  have hb14 := bel_next hb13 hb4
  obtain ⟨w5, hw5⟩ : ∃ w5, w5 = w4.alloc (.cells #[.slice o2 xs.length cap2] 24) := ⟨_, rfl⟩
  have hb45 : Below w4.heap.size w4 w5 := by rw [hw5]; exact (Below.refl _ w4).alloc (Nat.le_refl _) _
  have hx5 : w5.heap[w4.heap.size]? = some (.cells #[.slice o2 xs.length cap2] 24 (0, 0)) := by rw [hw5]; exact heap_alloc_new w4 _
  have hlt5 := lt_of_block hx5
  have hS2 : ∀ w', Below w5.heap.size w5 w' → w'.cell? ⟨w4.heap.size, 0, none⟩ = some (.slice o2 xs.length cap2) := fun w' hb => cell_of_row _ _ 0 _ _ _ ((hb.block w4.heap.size hlt5).trans hx5)
  have HS2 := Lib.hid hS2
  have hb15 := bel_next hb14 hb45
  have hT5 := hT4.below hb45
  have htxt2 := schemaText_any xs o2 cap2 w5 hT5 hLx hsx (by omega)
  unfold schemaT TextPost at htxt2
  rw [hxs, if_pos Hchk.out, HtextA.out] at htxt2
  simp only at htxt2
  have hgetx : ∀ (k : Nat) (x : TyV), l[k]? = some x → ∃ y, xs[k]? = some y ∧ y.t = againT x.t := fun k x hx => by
    have : (xs.map TyV.t)[k]? = some (againT x.t) := by rw [hxs, List.getElem?_map, List.getElem?_map, hx]; rfl
    rw [List.getElem?_map] at this
    exact Option.map_eq_some_iff.1 this
  have Hgetx := Lib.hid hgetx
  have Hxl := Lib.hid hxl
  have HLx := Lib.hid hLx.sym
  have hne : ((xs.length : Int) != (l.length : Int)) = false := by rw [hxl]; simp
  have hxcm := hT5.1.2.2.1
  unfold maxLen at hxcm
  have hxlm := hT5.1.2.1
  clear hxs hLx hsx hgetx hxl hS2 hb13 hb4 hb14 htxe hb45 hx5 hlt5 hT4
  go_wp2_with fail
  rw [← hw5]
  clear hw5
  refine htxt2.mono ?_
  rintro e w6 ⟨rfl, hb6⟩
  clear htxt2
  have c6 := HS2.out _ hb6
  have hb16 := bel_next hb15 hb6
  have d6 := HS.out _ hb16
  go_wp2_with fail
  go_loopw [10] (fun v wr => ∃ k : Nat, v = .int .i64 k ∧ k ≤ l.length ∧ Below w5.heap.size w5 wr) (fun v _ => l.length - (intOf v).toNat)
  case atStart => exact ⟨0, rfl, Nat.zero_le _, hb6⟩
  case round =>
    obtain ⟨k, rfl, hk, hbr⟩ := hrel
    obtain ⟨wo, hwo⟩ : ∃ wo, wo = wr := ⟨_, rfl⟩
    subst hwo
    have hb1r := bel_next hb15 hbr
    have cs := HS.out _ hb1r
    have cs2 := HS2.out _ hbr
    clear c6 d6 hb6 hb16
    by_cases hlt : k < l.length
    · have hdk : decide ((k : Int) < (l.length : Int)) = true := by rw [decide_eq_true_eq]; omega
      have hki : (k : Int) < (l.length : Int) := by omega
      have hkx : (k : Int) < (xs.length : Int) := by have := Hxl.out; omega
      have hk0 : (0 : Int) ≤ (k : Int) := by omega
      obtain ⟨x, hx⟩ : ∃ n, l[k]? = some n := ⟨_, List.getElem?_eq_getElem hlt⟩
      obtain ⟨y, hy, hyt⟩ := Hgetx.out k x hx
      have hxt : x.t ∈ l.map TyV.t := List.mem_map_of_mem (List.mem_of_getElem? hx)
      obtain ⟨f1, f2, f3, f4, f5, f6, f7⟩ := Htypes.out x.t hxt
      rw [← hyt] at f1 f2 f3 f4 f5 f6 f7
      obtain ⟨hwa, hwn⟩ := (h1.below hb1r).2 x (List.mem_of_getElem? hx)
      obtain ⟨hwa2, hwn2⟩ := (hT5.below hbr).2 y (List.mem_of_getElem? hy)
      have hsx := Hsym.out x (List.mem_of_getElem? hx)
      have hsy := HLx.out y (List.mem_of_getElem? hy)
      have hfew := (HTok.out x.t hxt).few
      obtain ⟨b, off, ho, hbl, x0, x1, x2, x3, x4, x5⟩ := (h1.below hb1r).at hx
      obtain ⟨b2, off2, ho2, hbl2, y0, y1, y2, y3, y4, y5⟩ := (hT5.below hbr).at hy
      rw [f1] at y0
      rw [f2] at y1
      rw [f3] at y2 hwa2
      rw [f4] at y3
      rw [f5] at y4
      subst ho
      subst ho2
      obtain ⟨⟨name, label, attrs, key, text, nodes⟩, ao, ac, no, nc⟩ := x
      obtain ⟨⟨name2, label2, attrs2, key2, text2, nodes2⟩, ao2, ac2, no2, nc2⟩ := y
      simp only at x0 x1 x2 x3 x4 x5 y0 y1 y2 y3 y4 y5 hwa hwn hwa2 hwn2 hsx hsy f6 f7 hfew
      have hbA : Below wo.heap.size wo (wo.alloc (.cells #[.string ⟨name.toArray⟩, .string ⟨label.toArray⟩, .slice ao attrs.length ac, .string ⟨key.toArray⟩, .bool text, .slice no nodes.length nc] 47)) := bel_alloc (Below.refl _ _) _
      have cs2' := HS2.out _ (bel_next hbr hbA)
      have y0' := (hbA.cell (p := ⟨b2, off2 + k * 6, none⟩) hbl2).trans y0
      have y1' := (hbA.cell (p := ⟨b2, off2 + k * 6 + 1, none⟩) hbl2).trans y1
      have y2' := (hbA.cell (p := ⟨b2, off2 + k * 6 + 2, none⟩) hbl2).trans y2
      have y3' := (hbA.cell (p := ⟨b2, off2 + k * 6 + 3, none⟩) hbl2).trans y3
      have y4' := (hbA.cell (p := ⟨b2, off2 + k * 6 + 4, none⟩) hbl2).trans y4
      have y5' := (hbA.cell (p := ⟨b2, off2 + k * 6 + 5, none⟩) hbl2).trans y5
      have hnl : ((nodes.length : Int) != (nodes2.length : Int)) = false := by rw [f7]; simp
      have hsl := symsS_len nodes
      obtain ⟨sy, hsyms⟩ : ∃ sy, sy = symsS nodes := ⟨_, rfl⟩
      have hs2 : symsS nodes2 = sy := by rw [f6, hsyms]
      have hs1 : symsS nodes = sy := hsyms.symm
      rw [hs1] at hsl
      obtain ⟨wb, hwb⟩ : ∃ wb, wb = (wo.alloc (.cells #[.string ⟨name.toArray⟩, .string ⟨label.toArray⟩, .slice ao attrs.length ac, .string ⟨key.toArray⟩, .bool text, .slice no nodes.length nc] 47)).alloc (.cells #[.string ⟨name.toArray⟩, .string ⟨label.toArray⟩, .slice ao2 attrs.length ac2, .string ⟨key.toArray⟩, .bool text, .slice no2 nodes2.length nc2] 47) := ⟨_, rfl⟩
      have hbb : Below wo.heap.size wo wb := by rw [hwb]; exact bel_alloc (bel_alloc (Below.refl _ _) _) _
      have hzA : wo.heap.size < wb.heap.size := by rw [hwb]; simp; omega
      have hzB : wo.heap.size + 1 < wb.heap.size := by rw [hwb]; simp
      have hAb : wb.heap[wo.heap.size]? = some (.cells #[.string ⟨name.toArray⟩, .string ⟨label.toArray⟩, .slice ao attrs.length ac, .string ⟨key.toArray⟩, .bool text, .slice no nodes.length nc] 47 (0, 0)) := by
        rw [hwb]
        exact (((Below.refl _ _).alloc (Nat.le_refl _) _).block _ (by simp)).trans (heap_alloc_new wo _)
      have hBb : wb.heap[wo.heap.size + 1]? = some (.cells #[.string ⟨name.toArray⟩, .string ⟨label.toArray⟩, .slice ao2 attrs.length ac2, .string ⟨key.toArray⟩, .bool text, .slice no2 nodes2.length nc2] 47 (0, 0)) := by
        rw [hwb]
        have := heap_alloc_new (wo.alloc (.cells #[.string ⟨name.toArray⟩, .string ⟨label.toArray⟩, .slice ao attrs.length ac, .string ⟨key.toArray⟩, .bool text, .slice no nodes.length nc] 47)) (.cells #[.string ⟨name.toArray⟩, .string ⟨label.toArray⟩, .slice ao2 attrs.length ac2, .string ⟨key.toArray⟩, .bool text, .slice no2 nodes2.length nc2] 47)
        rwa [World.size_alloc] at this
      have hX : ∀ w', Below wb.heap.size wb w' → (w'.cell? ⟨wo.heap.size, 0, none⟩ = some (.string ⟨name.toArray⟩) ∧ w'.cell? ⟨wo.heap.size, 1, none⟩ = some (.string ⟨label.toArray⟩) ∧ w'.cell? ⟨wo.heap.size, 2, none⟩ = some (.slice ao attrs.length ac) ∧ w'.cell? ⟨wo.heap.size, 3, none⟩ = some (.string ⟨key.toArray⟩) ∧ w'.cell? ⟨wo.heap.size, 4, none⟩ = some (.bool text) ∧ w'.cell? ⟨wo.heap.size, 5, none⟩ = some (.slice no nodes.length nc)) ∧ (w'.cell? ⟨wo.heap.size + 1, 0, none⟩ = some (.string ⟨name.toArray⟩) ∧ w'.cell? ⟨wo.heap.size + 1, 1, none⟩ = some (.string ⟨label.toArray⟩) ∧ w'.cell? ⟨wo.heap.size + 1, 2, none⟩ = some (.slice ao2 attrs.length ac2) ∧ w'.cell? ⟨wo.heap.size + 1, 3, none⟩ = some (.string ⟨key.toArray⟩) ∧ w'.cell? ⟨wo.heap.size + 1, 4, none⟩ = some (.bool text) ∧ w'.cell? ⟨wo.heap.size + 1, 5, none⟩ = some (.slice no2 nodes2.length nc2)) := fun w' hb => by
        have q1 := (hb.block _ hzA).trans hAb
        have q2 := (hb.block _ hzB).trans hBb
        exact ⟨⟨cell_of_row w' _ 0 _ _ _ q1, cell_of_row w' _ 1 _ _ _ q1, cell_of_row w' _ 2 _ _ _ q1, cell_of_row w' _ 3 _ _ _ q1, cell_of_row w' _ 4 _ _ _ q1, cell_of_row w' _ 5 _ _ _ q1⟩, cell_of_row w' _ 0 _ _ _ q2, cell_of_row w' _ 1 _ _ _ q2, cell_of_row w' _ 2 _ _ _ q2, cell_of_row w' _ 3 _ _ _ q2, cell_of_row w' _ 4 _ _ _ q2, cell_of_row w' _ 5 _ _ _ q2⟩
      have hTx : ∀ (ws : List Bytes) (p p' : Option Addr) (q q' : Nat) (w' : World), ws.length ≤ 1024 → WordsIn w' p q ws → WordsIn w' p' q' ws → Calls Tryz.prog 18 #[.slice p ws.length q, .slice p' ws.length q'] w' fun e w'' => e = .returned (.bool true) ∧ Below w'.heap.size w' w'' := fun ws p p' q q' w' hl h h' => texts_same ws p p' q q' w' h h' (by omega)
      have hSy : ∀ (nn : List SNode) (p : Option Addr) (q : Nat) (w' : World), (nn = nodes ∨ nn = nodes2) → NodesAt w' p q nn → Calls Tryz.prog 15 #[.agg #[.slice p nn.length q]] w' fun e w'' => ∃ so sc, e = .returned (.slice so sy.length sc) ∧ WordsIn w'' so sc sy ∧ Below w'.heap.size w' w'' := by
        intro nn p q w' hnn hN
        have hss : symsS nn = sy := by rcases hnn with rfl | rfl; exact hs1; exact hs2
        have hsb : ∀ n ∈ nn, n.sym.length ≤ 1048576 := by rcases hnn with rfl | rfl; exact hsx; exact hsy
        refine (symbols_any nn p q w' hN hsb).mono ?_
        rintro e w'' ⟨⟨v, rfl, hown⟩, hb⟩
        rw [hss] at hown
        obtain ⟨so, sc, rfl⟩ := ownsRow_shape hown
        exact ⟨so, sc, rfl, rowAt_of hown, hb⟩
      have hWa : ∀ w', Below wb.heap.size wb w' → WordsIn w' ao ac attrs ∧ WordsIn w' ao2 ac2 attrs ∧ NodesAt w' no nc nodes ∧ NodesAt w' no2 nc2 nodes2 := fun w' hb => by
        have := bel_next hbb hb
        exact ⟨hwa.below this, hwa2.below this, hwn.below this, hwn2.below this⟩
      have hfin : ∀ w', Below wb.heap.size wb w' → Below w5.heap.size w5 w' := fun w' hb => bel_next hbr (bel_next hbb hb)
      have HX := Lib.hid hX
      have HTx := Lib.hid hTx
      have HSy := Lib.hid hSy
      have HWa := Lib.hid hWa
      have Hfin := Lib.hid hfin
      clear hx hy hyt hxt f1 f2 f3 f4 f5 f6 f7 hX hTx hSy hWa hfin hAb hBb hwa hwn hwa2 hwn2 hsx hsy hsyms hs1 hs2
      go_wp2_with fail
      rw [← hwb]
      clear hwb x0 x1 x2 x3 x4 x5 y0 y1 y2 y3 y4 y5 y0' y1' y2' y3' y4' y5' cs2' hbA
      go_region_held3 (fun w' => (w'.cell? ⟨wo.heap.size, 0, none⟩ = some (.string ⟨name.toArray⟩) ∧ w'.cell? ⟨wo.heap.size, 1, none⟩ = some (.string ⟨label.toArray⟩) ∧ w'.cell? ⟨wo.heap.size, 2, none⟩ = some (.slice ao attrs.length ac) ∧ w'.cell? ⟨wo.heap.size, 3, none⟩ = some (.string ⟨key.toArray⟩) ∧ w'.cell? ⟨wo.heap.size, 4, none⟩ = some (.bool text) ∧ w'.cell? ⟨wo.heap.size, 5, none⟩ = some (.slice no nodes.length nc)) ∧ (w'.cell? ⟨wo.heap.size + 1, 0, none⟩ = some (.string ⟨name.toArray⟩) ∧ w'.cell? ⟨wo.heap.size + 1, 1, none⟩ = some (.string ⟨label.toArray⟩) ∧ w'.cell? ⟨wo.heap.size + 1, 2, none⟩ = some (.slice ao2 attrs.length ac2) ∧ w'.cell? ⟨wo.heap.size + 1, 3, none⟩ = some (.string ⟨key.toArray⟩) ∧ w'.cell? ⟨wo.heap.size + 1, 4, none⟩ = some (.bool text) ∧ w'.cell? ⟨wo.heap.size + 1, 5, none⟩ = some (.slice no2 nodes2.length nc2)))
        (first | (apply HX.out; (repeat (first | assumption | exact Below.refl _ _ | apply bel_alloc | apply bel_drew)); done))
        (first
          | (go_at_call 18; refine Calls.mono (HTx.out _ _ _ _ _ _ (by omega) ?_ ?_) ?_; (focus (first | exact (HWa.out _ (by first | assumption | exact bel_drew (Below.refl _ _))).1 | assumption | exact WordsIn.below (by assumption) (by assumption))); (focus (first | exact (HWa.out _ (by first | assumption | exact bel_drew (Below.refl _ _))).2.1 | assumption | exact WordsIn.below (by assumption) (by assumption))); rintro e w'' ⟨rfl, hbn⟩; have hbz := bel_next (w0 := wb) (by first | assumption | exact bel_drew (Below.refl _ _)) hbn)
          | (go_at_call 15; refine Calls.mono (HSy.out _ _ _ _ ?_ ?_) ?_; (focus (first | exact .inl rfl | exact .inr rfl)); (focus (first | exact (HWa.out _ (by first | assumption | exact bel_drew (Below.refl _ _))).2.2.1 | exact (HWa.out _ (by first | assumption | exact bel_drew (Below.refl _ _))).2.2.2)); rintro e w'' ⟨so, sc, rfl, hwi, hbn⟩; have hbz := bel_next (w0 := wb) (by first | assumption | exact bel_drew (Below.refl _ _)) hbn))
      have hend := Hfin.out _ hbz
      clear HX HTx HSy HWa Hfin hbz
      go_wp2_with fail
      go_roundw
      case rel => exact ⟨k + 1, by go_num, by omega, hend⟩
      case measure => simp [intOf]; omega
    · have hdk : decide ((k : Int) < (l.length : Int)) = false := by rw [decide_eq_false_iff_not]; omega
      go_wp2_with fail
      refine (haw _).mono ?_
      rintro e w8 ⟨rfl, hb8⟩
      go_wp2_with fail
      go_ret
      exact ⟨rfl, bel_next (bel_next hb0 hb1r) hb8⟩
end Go.Proofs.YtnnbdlmilbcpjaaGreatDoor
