/-
  What is read of a line is no longer than the line: plain facts. No condition.
  strings.SplitSeq at one byte 10: what its iterator does, round by round, and the lines that it hands out: its walk. Conditions: the text has at most 65536 bytes.
  A range over strings.SplitSeq at byte 10: one law for the statement: what holds between two lines, what a round leaves. Conditions: the text has at most 65536 bytes.
  Layer 9 (schema): Parse: which schema a text is, or what is wrong with it: its walk. Conditions: the text is of ASCII.
-/
import Derived.Test.YtnnbdlmilbcpjaaGreatDoorSPartP
import Derived.Test.YtnnbdlmilbcpjaaGreatDoorSLine6
import Derived.Test.YtnnbdlmilbcpjaaGreatDoorSRead
import Derived.RangeFuncNested
import Derived.RangeFuncBound
import Derived.RangeFuncCalls
import Derived.RangeFuncLeaves
import Derived.Shelf.Abstract
import Derived.Shelf.RegionOpen
import Derived.OwnWalkIn
import Derived.TacticsInMore
import Derived.LoopNIn
import Derived.LoopIn
namespace Go.Proofs.YtnnbdlmilbcpjaaGreatDoor
set_option linter.unusedVariables false
/-- words of nodes are short -/
def SymB (n : Nat) (ns : List SNode) : Prop := ∀ m ∈ ns, m.sym.length ≤ n
theorem SymB.one (n : Nat) (m : SNode) (h : m.sym.length ≤ n) : SymB n [m] := by intro x hx; simp at hx; subst hx; exact h
theorem SymB.append {n : Nat} {a b : List SNode} (ha : SymB n a) (hb : SymB n b) : SymB n (a ++ b) := by
  intro m hm
  rcases List.mem_append.1 hm with h | h
  · exact ha m h
  · exact hb m h
theorem SymB.moved {n k : Nat} {a : List SNode} (ha : SymB n a) : SymB n (a.map (movedS k)) := by
  intro m hm
  obtain ⟨x, hx, rfl⟩ := List.mem_map.1 hm
  have := ha x hx
  unfold movedS
  split
  · exact this
  · split <;> exact this
theorem stepF_sym {n : Nat} {op : Int} {i : Nat} {out p : List SNode} (ho : SymB n out) (hp : SymB n p) : SymB n (stepF op i out p) := by
  unfold stepF
  split
  · exact ho.append hp.moved
  · exact (ho.append hp.moved).append (SymB.one _ _ (Nat.zero_le _))
theorem foldGo_sym {n : Nat} (op : Int) : ∀ (ps : List (List SNode)) (i : Nat) (out : List SNode), SymB n out → (∀ p ∈ ps, SymB n p) → SymB n (foldGo op i out ps) := by
  intro ps
  induction ps with
  | nil => intro i out ho _; exact ho
  | cons q t ih => intro i out ho hp; exact ih (i + 1) (stepF op i out q) (stepF_sym ho (hp q (List.mem_cons_self ..))) (fun p h => hp p (List.mem_cons_of_mem _ h))
theorem foldS_sym {n : Nat} {op none_ : Int} {ps : List (List SNode)} {l : List SNode} (hp : ∀ p ∈ ps, SymB n p) (h : foldS op none_ ps = some l) : SymB n l := by
  unfold foldS at h
  split at h
  · injection h with h; subst h; exact SymB.one _ _ (Nat.zero_le _)
  · split at h
    · cases h
    · injection h with h; subst h; exact foldGo_sym op ps 0 [] (fun m hm => by simp at hm) hp
theorem keepS_sym {n : Nat} {big : Bool} {r : Option (List SNode)} (h : ∀ l, r = some l → SymB n l) : SymB n (keepS big r).1 := by
  unfold keepS
  split
  · exact SymB.one _ _ (Nat.zero_le _)
  · split
    · exact SymB.one _ _ (Nat.zero_le _)
    · exact h _ rfl
theorem manyS_sym {n : Nat} {l : List SNode} (h : SymB n l) : SymB n (manyS l) := h.append (SymB.one _ _ (Nat.zero_le _))
def SymOk (l : Bytes) (f : RSt → PartR) : Prop := ∀ st ns st1, f st = some (ns, st1) → SymB l.length ns
theorem atomS_sym {l : Bytes} {E : RSt → PartR} (hE : SymOk l E) : SymOk l (atomS l E) := by
  intro st ns st1 h
  unfold atomS at h
  split at h
  · injection h with h; injection h with h1 h2; subst h1; exact SymB.one _ _ (Nat.zero_le _)
  · split at h
    · split at h
      · injection h with h; injection h with h1 h2; subst h1; exact SymB.one _ _ (Nat.zero_le _)
      · split at h
        · cases h
        · rename_i ns' st' he
          split at h
          · injection h with h; injection h with h1 h2; subst h1; exact hE _ _ _ he
          · cases h
    · split at h
      · cases h
      · injection h with h; injection h with h1 h2; subst h1
        refine SymB.one _ _ ?_
        simp only
        unfold wordAt
        split
        · simp
        · split
          · refine Nat.le_trans (List.takeWhile_sublist _).length_le ?_
            rw [List.length_drop]; omega
          · simp
theorem marksS_sym (l : Bytes) {n : Nat} : ∀ (f : Nat) (ns : List SNode) (st : RSt), SymB n ns → SymB n (marksS l f ns st).1 := by
  intro f
  induction f with
  | zero => intro ns st h; exact h
  | succ f ih =>
    intro ns st h
    unfold marksS
    split
    · exact ih _ _ (keepS_sym (fun x e => by injection e with e; subst e; exact manyS_sym h))
    · split
      · exact ih _ _ (keepS_sym (fun x e => foldS_sym (fun p hp => by simp at hp; rcases hp with rfl | rfl; exact h; exact manyS_sym h) e))
      · split
        · exact ih _ _ (keepS_sym (fun x e => foldS_sym (fun p hp => by simp at hp; rcases hp with rfl | rfl; exact h; exact SymB.one _ _ (Nat.zero_le _)) e))
        · exact h
theorem itemS_sym {l : Bytes} {E : RSt → PartR} (hE : SymOk l E) : SymOk l (itemS l E) := by
  intro st ns st1 h
  unfold itemS at h
  split at h
  · cases h
  · rename_i ns' st' he
    have h2 := marksS_sym l (l.length + 1) ns' st' (atomS_sym hE _ _ _ he)
    injection h with h
    rw [h] at h2
    exact h2
theorem rowS_sym {l : Bytes} {part : RSt → PartR} (c : UInt8) (op none_ : Int) (hp : SymOk l part) : ∀ (f : Nat) (parts : List (List SNode)) (st : RSt) ns st1, (∀ p ∈ parts, SymB l.length p) → rowS l c op none_ part f parts st = some (ns, st1) → SymB l.length ns := by
  intro f
  induction f with
  | zero => intro parts st ns st1 hg h; simp [rowS] at h
  | succ f ih =>
    intro parts st ns st1 hg h
    unfold rowS at h
    split at h
    · cases h
    · rename_i ns' st' he
      have h1 := hp _ _ _ he
      have hg2 : ∀ p ∈ parts ++ [ns'], SymB l.length p := fun p hq => by
        rcases List.mem_append.1 hq with hq | hq
        · exact hg p hq
        · simp at hq; subst hq; exact h1
      split at h
      · exact ih _ _ _ _ hg2 h
      · split at h
        · injection h with h; injection h with e1 e2; subst e1; exact h1
        · injection h with h; injection h with e1 e2; subst e1; exact keepS_sym (fun x hx => foldS_sym hg2 hx)
theorem exprS_sym (l : Bytes) : ∀ n, SymOk l (exprS l n) := by
  intro n
  induction n with
  | zero => intro st ns st1 h; simp [exprS] at h
  | succ n ih =>
    intro st ns st1 h
    exact rowS_sym 124 4 0 (fun st ns st1 h => rowS_sym 44 3 1 (itemS_sym ih) _ _ _ _ _ (fun p hp => by simp at hp) h) _ _ _ _ _ (fun p hp => by simp at hp) h
theorem regexP_sym (l : Bytes) : SymB l.length (regexP l).1 := by
  unfold regexP
  split
  · intro m hm; simp at hm
  · split
    · intro m hm; simp at hm
    · rename_i ns st h
      have := exprS_sym l _ _ _ _ h
      split
      · intro m hm; simp at hm
      · split
        · intro m hm; simp at hm
        · split
          · intro m hm; simp at hm
          · exact this
/-- a type whose words are short -/
structure TLim (n : Nat) (t : SType) : Prop where
  name : t.name.length ≤ n
  label : t.label.length ≤ n
  key : t.key.length ≤ n
  attrs : t.attrs.length ≤ n
  attr : ∀ a ∈ t.attrs, a.length ≤ n
  sym : ∀ m ∈ t.nodes, m.sym.length ≤ n
theorem attrW_le (r : Bytes) : (attrW r).length ≤ r.length := by
  have h1 := wordW_le r
  unfold attrW
  split
  · simp
  · rename_i c t e
    rw [e] at h1
    simp at h1
    split <;> simp <;> omega
theorem attrsL_lim (n : Nat) : ∀ (f : Nat) (acc : List Bytes) (r : Bytes) (l : List Bytes) (q : Bytes), r.length ≤ n → (∀ a ∈ acc, a.length ≤ n) → acc.length + r.length ≤ n → attrsL f acc r = some (l, q) → (∀ a ∈ l, a.length ≤ n) ∧ l.length ≤ n ∧ q.length ≤ n := by
  intro f
  induction f with
  | zero =>
    intro acc r l q hr ha hl h
    simp [attrsL] at h
    rw [← h.1, ← h.2]
    exact ⟨ha, by omega, Nat.le_trans (next_le r) hr⟩
  | succ f ih =>
    intro acc r l q hr ha hl h
    by_cases h1 : (nextL r).head? = some 64
    · cases hb : attrB (nextL r) with
      | true =>
        rw [attrsL_yes h1 hb] at h
        have h2 := wordR_lt h1
        have h3 := attrW_le (nextL r)
        have h4 := next_le r
        refine ih _ _ _ _ (by omega) (fun a hx => ?_) (by simp; omega) h
        rcases List.mem_append.1 hx with hx | hx
        · exact ha a hx
        · simp at hx; subst hx; omega
      | false => rw [attrsL_no h1 hb] at h; cases h
    · rw [attrsL_end h1] at h
      injection h with h
      injection h with e1 e2
      subst e1; subst e2
      exact ⟨ha, by omega, Nat.le_trans (next_le r) hr⟩
theorem readL_lim {s : Bytes} {t : SType} (h : readL s = some t) : TLim s.length t := by
  unfold readL at h
  simp only at h
  have w1 := wordR_le s
  have w2 := wordR_le (wordR s)
  have w3 := wordR_le (wordR (wordR s))
  have w4 := wordR_le (wordR (wordR (wordR s)))
  have n1 := wordW_le (wordR s)
  have n2 := wordW_le (wordR (wordR (wordR s)))
  split at h
  · cases h
  · split at h
    · cases h
    · split at h
      · cases h
      · split at h
        · cases h
        · split at h
          · cases h
          · rename_i l r4 ha
            have hal := attrsL_lim s.length _ _ _ _ _ (by omega) (fun a h => by simp at h) (by simp; omega) ha
            split at h
            · cases h
            · rename_i k r5 hk
              have hkl : k.length ≤ s.length ∧ r5.length ≤ s.length := by
                unfold keyL at hk
                split at hk
                · split at hk
                  · injection hk with hk
                    injection hk with e1 e2
                    subst e1; subst e2
                    have a1 := wordR_le r4
                    have a2 := attrW_le (wordR r4)
                    have a3 := wordR_le (wordR r4)
                    omega
                  · cases hk
                · injection hk with hk
                  injection hk with e1 e2
                  subst e1; subst e2
                  exact ⟨Nat.zero_le _, hal.2.2⟩
              split at h
              · cases h
              · rename_i tx ns hc
                injection h with h
                subst h
                refine ⟨by simp only; omega, by simp only; omega, hkl.1, hal.2.1, hal.1, ?_⟩
                unfold contentL at hc
                split at hc
                · split at hc
                  · injection hc with hc
                    injection hc with e1 e2
                    subst e2
                    intro m hm
                    have b1 := regexP_sym (insideL (nextL r5)) m hm
                    have b2 := insideL_le (nextL r5)
                    have b3 := next_le r5
                    omega
                  · cases hc
                · split at hc
                  · injection hc with hc
                    injection hc with e1 e2
                    subst e2
                    intro m hm; simp at hm
                  · cases hc
theorem linesL_len (s : Bytes) : (linesL s).length ≤ s.length + 1 ∧ ∀ x ∈ linesL s, x.length ≤ s.length ∧ ∀ c ∈ x, c ∈ s := by
  induction s with
  | nil => simp [linesL]
  | cons c t ih =>
    simp only [linesL]
    split
    · refine ⟨by simp; exact ih.1, fun x hx => ?_⟩
      rcases List.mem_cons.1 hx with rfl | hx
      · simp
      · have := ih.2 x hx
        exact ⟨by simp; omega, fun d hd => List.mem_cons_of_mem _ (this.2 d hd)⟩
    · split
      · exact ⟨by simp, fun x hx => by simp at hx; subst hx; simp⟩
      · rename_i h r e
        rw [e] at ih
        refine ⟨by have := ih.1; simp at this ⊢; omega, fun x hx => ?_⟩
        rcases List.mem_cons.1 hx with rfl | hx
        · have := ih.2 h (List.mem_cons_self ..)
          refine ⟨by simp; exact this.1, fun d hd => ?_⟩
          rcases List.mem_cons.1 hd with rfl | hd
          · exact List.mem_cons_self ..
          · exact List.mem_cons_of_mem _ (this.2 d hd)
        · have := ih.2 x (List.mem_cons_of_mem _ hx)
          exact ⟨by simp; omega, fun d hd => List.mem_cons_of_mem _ (this.2 d hd)⟩
open Go.RowKit Go.Shelf
set_option linter.unusedVariables false
attribute [local go_sem] Oper.semAt_some
theorem lines_none : ∀ l : Bytes, Lib.index l [10] = -1 → linesL l = [l]
  | [], _ => rfl
  | c :: t, h => by
    rw [Lib.index] at h
    by_cases hc : c = 10
    · subst hc; simp [List.isPrefixOf] at h
    · have h2 : ((10 : UInt8) == c) = false := by simpa using fun e : (10 : UInt8) = c => hc e.symm
      have h3 : ([10] : Bytes).isPrefixOf (c :: t) = false := by show ((10 : UInt8) == c && _) = false; rw [h2]; rfl
      rw [h3] at h
      simp only [Bool.false_eq_true, if_false] at h
      have hge := Lib.index_ge t [10]
      have ht : Lib.index t [10] = -1 := by
        apply Classical.byContradiction
        intro hn
        rw [if_neg (by simpa using hn)] at h
        omega
      have := lines_none t ht
      simp only [linesL]
      rw [if_neg hc, this]
theorem lines_some : ∀ (l : Bytes) (i : Nat), Lib.index l [10] = i → i < l.length ∧ linesL l = l.take i :: linesL (l.drop (i + 1))
  | [], i, h => by
    rw [Lib.index] at h
    simp at h
  | c :: t, i, h => by
    rw [Lib.index] at h
    by_cases hc : c = 10
    · subst hc
      simp [List.isPrefixOf] at h
      have : i = 0 := by omega
      subst this
      simp [linesL]
    · have h2 : ((10 : UInt8) == c) = false := by simpa using fun e : (10 : UInt8) = c => hc e.symm
      have h3 : ([10] : Bytes).isPrefixOf (c :: t) = false := by show ((10 : UInt8) == c && _) = false; rw [h2]; rfl
      rw [h3] at h
      simp only [Bool.false_eq_true, if_false] at h
      have hge := Lib.index_ge t [10]
      by_cases hn : Lib.index t [10] = -1
      · rw [if_pos (by simpa using hn)] at h; omega
      · rw [if_neg (by simpa using hn)] at h
        obtain ⟨j, rfl⟩ : ∃ j, i = j + 1 := ⟨i - 1, by omega⟩
        have := lines_some t j (by omega)
        refine ⟨by simp; omega, ?_⟩
        simp only [linesL]
        rw [if_neg hc, this.2]
        simp
theorem index_split (l : Bytes) : Lib.index l [10] = -1 ∨ ∃ i : Nat, Lib.index l [10] = i := by
  have := Lib.index_ge l [10]
  by_cases h : Lib.index l [10] = -1
  · exact .inl h
  · exact .inr ⟨(Lib.index l [10]).toNat, by omega⟩
/-- how much is left of the text -/
def leftS (b : Nat) (w : World) : Nat := match w.cell? ⟨b, 0, none⟩ with | some (.string s) => s.size | _ => 0
theorem leftS_eq {b : Nat} {w : World} {l : Bytes} (h : w.heap[b]? = some (.cells #[.string ⟨l.toArray⟩] 9 (0, 0))) : leftS b w = l.length := by
  unfold leftS
  rw [cell_of_row w b 0 _ _ _ h]
  exact bytes_size l
/-- the iterator's three boxes -/
structure SepAt (w : World) (Bp Bs Bv : Nat) (l : Bytes) : Prop where
  p : w.heap[Bp]? = some (.cells #[.string ⟨#[10]⟩] 9 (0, 0))
  s : w.heap[Bs]? = some (.cells #[.string ⟨l.toArray⟩] 9 (0, 0))
  v : w.heap[Bv]? = some (.cells #[.int .i64 0] 3 (0, 0))
def Boxes (Bp Bs Bv : Nat) (w w' : World) : Prop := w'.heap[Bp]? = w.heap[Bp]? ∧ w'.heap[Bs]? = w.heap[Bs]? ∧ w'.heap[Bv]? = w.heap[Bv]?
theorem SepAt.kept {w w' : World} {Bp Bs Bv : Nat} {l : Bytes} (h : SepAt w Bp Bs Bv l) (k : Boxes Bp Bs Bv w w') : SepAt w' Bp Bs Bv l := ⟨k.1.trans h.p, k.2.1.trans h.s, k.2.2.trans h.v⟩
theorem SepAt.set {w : World} {Bp Bs Bv : Nat} {l : Bytes} (h : SepAt w Bp Bs Bv l) (h1 : Bp ≠ Bs) (h2 : Bv ≠ Bs) (r : Bytes) : SepAt (w.setCell ⟨Bs, 0, none⟩ (.string ⟨r.toArray⟩)) Bp Bs Bv r := by
  refine ⟨(Below.heap_setCell _ _ _ _ h1).trans h.p, ?_, (Below.heap_setCell _ _ _ _ h2).trans h.v⟩
  have hlt := lt_of_block h.s
  have h' : w.heap[Bs] = .cells #[.string ⟨l.toArray⟩] 9 (0, 0) := by have := h.s; simpa [Array.getElem?_eq_getElem hlt] using this
  show (w.heap.modify Bs _)[Bs]? = _
  rw [Array.getElem?_eq_getElem (by simpa using hlt), Array.getElem_modify_self, h']
  rfl
theorem index10 (l : Bytes) (w : World) : Calls Tryz.prog 110 #[.string ⟨l.toArray⟩, .string ⟨#[10]⟩] w fun e w' => e = .returned (.int .i64 (Lib.index l [10])) ∧ w' = w := by
  refine (Tryz.strings_Index_one ⟨l.toArray⟩ 10 w).mono ?_
  rintro e w' ⟨rfl, rfl⟩
  exact ⟨by rw [Lib.index_one], rfl⟩
set_option maxHeartbeats 2000000 in
set_option maxRecDepth 100000 in
theorem split_in (m l Bp Bs Bv : Nat) (s : Bytes) (hs : s.length ≤ 65536) (J Jx : Nat → World → Prop) (hJs : ∀ k W v, J k W → J k (W.setCell ⟨Bs, 0, none⟩ v))
    (hY : ∀ k x W, (linesL s)[k]? = some x → J k W → YieldAt Fence.wide (m - 1) Tryz.prog l #[.string ⟨x.toArray⟩] W fun e W' => (e = .returned (.bool true) ∧ J (k + 1) W' ∧ Boxes Bp Bs Bv W W') ∨ (e = .returned (.bool false) ∧ Jx (k + 1) W'))
    (W : World) (hB : SepAt W Bp Bs Bv s) (hps : Bp ≠ Bs) (hvs : Bv ≠ Bs) (h0 : J 0 W) :
    CallsIn Fence.wide m Tryz.prog 108 #[.func (.yield l) #[] #[], .pointer (some ⟨Bp, 0, none⟩), .pointer (some ⟨Bs, 0, none⟩), .pointer (some ⟨Bv, 0, none⟩)] W fun e W' => (∃ v, e = .returned v) ∧ (J (linesL s).length W' ∨ ∃ k, Jx k W') := by
  have hm : 1 ≤ m ∨ True := .inr trivial
  have c1 := cell_of_row W Bp 0 _ _ _ hB.p
  have z1 : (⟨#[10]⟩ : ByteArray).size = 1 := rfl
  refine callsIn_of_wp Tryz.func108 rfl trivial ?_ rfl
  simp only [Tryz.ntmps108, List.size_toArray, List.length_cons, List.length_nil, Nat.reduceAdd, Nat.reduceSub, Array.replicate_succ, Array.replicate_zero, List.push_toArray, List.append_toArray, List.nil_append, List.cons_append]
  gi_wp2
  clear c1
  gi_loopw [] (fun wr => ∃ (k : Nat) (r : Bytes), r.length ≤ s.length ∧ SepAt wr Bp Bs Bv r ∧ J k wr ∧ Hid ((linesL s).drop k = linesL r)) (fun wr => leftS Bs wr)
  case atStart => exact ⟨0, s, Nat.le_refl _, hB, h0, rfl⟩
  case round =>
    obtain ⟨k, r, hr, hS, hJ, HK⟩ := hrel
    have d1 := cell_of_row wr Bp 0 _ _ _ hS.p
    have d2 := cell_of_row wr Bs 0 _ _ _ hS.s
    have d3 := cell_of_row wr Bv 0 _ _ _ hS.v
    have hix := fun w1 => index10 r w1
    rcases index_split r with hi | ⟨i, hi⟩
    · have hl1 := lines_none r hi
      have hget : (linesL s)[k]? = some r ∧ k + 1 = (linesL s).length := by
        have := HK.out
        rw [hl1] at this
        have h1 : ((linesL s).drop k)[0]? = some r := by rw [this]; rfl
        rw [List.getElem?_drop, Nat.add_zero] at h1
        have h2 := congrArg List.length this
        rw [List.length_drop] at h2
        simp at h2
        exact ⟨h1, by omega⟩
      obtain ⟨fn, tmps, assign, body, hy, hR⟩ := hY k r wr hget.1 hJ
      have hlen := hget.2
      rw [hi] at hix
      have Hlen := Lib.hid hlen
      clear hi hl1 hget hlen HK
      gi_wp2
      refine ⟨trivial, (fun h => (by cases h)), ?_⟩
      refine (callsIn_wide.2 (hix _)).mono ?_
      rintro e w' ⟨rfl, rfl⟩
      gi_wp2
      refine ⟨(fun h => (by cases h)), ?_⟩
      refine hR.mono ?_
      rintro e W3 (⟨rfl, hJ3, hk3⟩ | ⟨rfl, hJx3⟩)
      · gi_wp2
        go_end0
        exact ⟨⟨_, rfl⟩, .inl (by rw [← Hlen.out]; exact hJ3)⟩
      · gi_wp2
        go_end0
        exact ⟨⟨_, rfl⟩, .inr ⟨_, hJx3⟩⟩
    · obtain ⟨hil, hl1⟩ := lines_some r i hi
      have hget : (linesL s)[k]? = some (r.take i) ∧ (linesL s).drop (k + 1) = linesL (r.drop (i + 1)) := by
        have := HK.out
        rw [hl1] at this
        have h1 : ((linesL s).drop k)[0]? = some (r.take i) := by rw [this]; rfl
        rw [List.getElem?_drop, Nat.add_zero] at h1
        exact ⟨h1, by rw [← List.drop_drop, this]; rfl⟩
      obtain ⟨fn, tmps, assign, body, hy, hR⟩ := hY k (r.take i) wr hget.1 hJ
      have hst := fun w1 => slice_take r i (by omega) w1
      have hsd : ∀ w1, (Instr.slice 9 (.string ⟨r.toArray⟩) (some (.int .i64 ((i : Int) + 1))) none none).run Tryz.prog w1 = .ok (.string ⟨(r.drop (i + 1)).toArray⟩) w1 := fun w1 => slice_drop r (i + 1) (by omega) w1
      rw [hi] at hix
      have hi0 : decide ((i : Int) < 0) = false := by rw [decide_eq_false_iff_not]; omega
      have hdl : (r.drop (i + 1)).length < r.length := by rw [List.length_drop]; omega
      have HK2 := Lib.hid hget.2
      have hleft := leftS_eq hS.s
      generalize r.take i = fr at hy hst
      generalize r.drop (i + 1) = r2 at hsd hdl HK2
      have Hleft := Lib.hid hleft
      clear hi hl1 hget HK hleft
      gi_wp2
      refine ⟨trivial, (fun h => (by cases h)), ?_⟩
      refine (callsIn_wide.2 (hix _)).mono ?_
      rintro e w' ⟨rfl, rfl⟩
      gi_wp2
      refine ⟨(fun h => (by cases h)), ?_⟩
      refine hR.mono ?_
      rintro e W3 (⟨rfl, hJ3, hk3⟩ | ⟨rfl, hJx3⟩)
      · have hS3 := hS.kept hk3
        have d1 := cell_of_row W3 Bp 0 _ _ _ hS3.p
        have d2 := cell_of_row W3 Bs 0 _ _ _ hS3.s
        have hf : W3.frozen? ⟨Bs, 0, none⟩ = false := by have := hS3.s; simp [World.frozen?, this]
        gi_wp2
        go_roundw
        case rel => exact ⟨k + 1, r2, by omega, hS3.set hps hvs r2, hJs _ _ _ hJ3, HK2.out⟩
        case measure => rw [Hleft.out, leftS_eq (hS3.set hps hvs r2).s]; exact hdl
      · gi_wp2
        refine bodyPost_ret (results_none rfl _ _ _) rfl ?_
        exact ⟨⟨_, rfl⟩, .inr ⟨_, hJx3⟩⟩
open Go.RowKit Go.Shelf
set_option linter.unusedVariables false
/-- what a round keeps of the loop's own blocks -/
structure Keep (Bp Bs Bv D : Nat) (W W' : World) : Prop where
  size : W.heap.size ≤ W'.heap.size
  boxes : Boxes Bp Bs Bv W W'
  d0 : W'.heap[D]? = W.heap[D]?
  d1 : W'.heap[D + 1]? = W.heap[D + 1]?
/-- the ways in which a line's round is left -/
def RPost (Bp Bs Bv D : Nat) (I : Nat → World → Prop) (Ix : Code → Nat → World → Prop) (k : Nat) (W : World) : Exit → Act → World → Prop
  | .normal, _, W3 => Keep Bp Bs Bv D W W3 ∧ I (k + 1) W3
  | .exit id, _, W3 => Keep Bp Bs Bv D W W3 ∧ Ix (.exit id) (k + 1) W3
  | _, _, _ => False
theorem boxes_put {W : World} {Bp Bs Bv l : Nat} {o : Obj} (h1 : Bp ≠ l) (h2 : Bs ≠ l) (h3 : Bv ≠ l) : Boxes Bp Bs Bv W (W.putObj l o) := ⟨World.putObj_heap_other h1, World.putObj_heap_other h2, World.putObj_heap_other h3⟩
theorem Boxes.trans {Bp Bs Bv : Nat} {a b c : World} (h : Boxes Bp Bs Bv a b) (k : Boxes Bp Bs Bv b c) : Boxes Bp Bs Bv a c := ⟨k.1.trans h.1, k.2.1.trans h.2.1, k.2.2.trans h.2.2⟩
set_option maxHeartbeats 2000000 in
set_option maxRecDepth 100000 in
theorem wpIn_range_split {g : Operand} {pt : Tmp} {assign body : Code} {Q : Exit → Act → World → Prop} {a : Act} {w : World} (n : Nat) (Bp Bs Bv : Nat) (s : Bytes) (hs : s.length ≤ 65536)
    (hg : a.eval g = .func (.func 108) #[] #[.pointer (some ⟨Bp, 0, none⟩), .pointer (some ⟨Bs, 0, none⟩), .pointer (some ⟨Bv, 0, none⟩)])
    (hB : SepAt w Bp Bs Bv s) (hps : Bp ≠ Bs) (hvs : Bv ≠ Bs)
    (I : Nat → World → Prop) (Ix : Code → Nat → World → Prop)
    (hIa : ∀ k W o, I k W → I k (W.alloc o))
    (hIp : ∀ k W l o, w.heap.size ≤ l → l < w.heap.size + 2 → I k W → I k (W.putObj l o))
    (hIxp : ∀ c k W l o, w.heap.size ≤ l → l < w.heap.size + 2 → Ix c k W → Ix c k (W.putObj l o))
    (hIs : ∀ k W v, I k W → I k (W.setCell ⟨Bs, 0, none⟩ v)) (h0 : I 0 w) (a₁ : Bytes → Act)
    (hassign : ∀ (l : Nat) (x : Bytes) (W : World) (K : Act → World → Prop), K (a₁ x) W → assign.wpIn (Fence.wide.inRound l) (n - 1 - 1) Tryz.prog (Exit.then K (fun _ _ _ => False)) { tmps := ((#[pt] : Array Tmp).zip #[Value.string ⟨x.toArray⟩]).foldl (fun t (p, v) => t.setIfInBounds p v) a.tmps, defers := [] } W)
    (hbody : ∀ (l k : Nat) (x : Bytes) (W : World), (linesL s)[k]? = some x → I k W → w.heap.size + 2 ≤ W.heap.size → body.wpIn (Fence.wide.inRound l) (n - 1 - 1) Tryz.prog (RPost Bp Bs Bv w.heap.size I Ix k W) (a₁ x) W)
    (hdone : ∀ W, I (linesL s).length W → W.heap[w.heap.size]? = some (.deferred (some [])) → Q .normal { a with defers := { target := .collected w.heap.size, args := #[] } :: a.defers } W)
    (hstop : ∀ c k W, Ix c k W → W.heap[w.heap.size]? = some (.deferred (some [])) → c.wpIn Fence.wide n Tryz.prog Q { a with defers := { target := .collected w.heap.size, args := #[] } :: a.defers } W) :
    (Code.rangeFunc g #[pt] assign body).wpIn Fence.wide n Tryz.prog Q a w := by
  refine wpIn_rangeFunc ?_
  intro fn hfn
  obtain ⟨rec, hrec⟩ : ∃ rec : LoopState → Option Code → Loop, rec = fun st pe => { state := st, pending := pe, fn := fn, tmps := a.tmps, params := #[pt], assign := assign, body := body, defers := w.heap.size } := ⟨_, rfl⟩
  obtain ⟨W1, hW1⟩ : ∃ W1, (w.alloc (.deferred (some []))).alloc (.loop (rec .ready none)) = W1 := ⟨_, rfl⟩
  have hbp := lt_of_block hB.p
  have hbs := lt_of_block hB.s
  have hbv := lt_of_block hB.v
  have hb1 : Below w.heap.size w W1 := by rw [← hW1]; exact ((Below.refl _ w).alloc (Nat.le_refl _) _).alloc (by simp) _
  have hL1 : W1.heap[w.heap.size + 1]? = some (.loop (rec .ready none)) := by
    rw [← hW1]; have := World.alloc_heap_new (w.alloc (.deferred (some []))) (.loop (rec .ready none)); rwa [World.size_alloc] at this
  have hK1 : W1.heap[w.heap.size]? = some (.deferred (some [])) := by
    rw [← hW1]; exact (Below.heap_alloc _ _ _ (by simp)).trans (World.alloc_heap_new w _)
  have hI1 : I 0 W1 := by rw [← hW1]; exact hIa _ _ _ (hIa _ _ _ h0)
  have hB1 : SepAt W1 Bp Bs Bv s := hB.kept ⟨hb1.block _ hbp, hb1.block _ hbs, hb1.block _ hbv⟩
  refine ⟨w.heap.size + 1, [{ target := .collected w.heap.size, args := #[] }], W1, { target := .fn (.func 108) #[.pointer (some ⟨Bp, 0, none⟩), .pointer (some ⟨Bs, 0, none⟩), .pointer (some ⟨Bv, 0, none⟩)], args := #[.func (.yield (w.heap.size + 1)) #[] #[]] }, W1, 108,
    #[.func (.yield (w.heap.size + 1)) #[] #[]] ++ #[.pointer (some ⟨Bp, 0, none⟩), .pointer (some ⟨Bs, 0, none⟩), .pointer (some ⟨Bv, 0, none⟩)], W1, ?_, ?_, ?_, ?_, (fun h => (by cases h)), ?_⟩
  · rw [← hW1, hrec]; exact run_enterLoop_outer _ _ _ _ _
  · simp only [resolve, hg]
    simp [go_sem]
  · intro f' _; trivial
  · exact (show (invoke (Target.fn (.func 108) #[.pointer (some ⟨Bp, 0, none⟩), .pointer (some ⟨Bs, 0, none⟩), .pointer (some ⟨Bv, 0, none⟩)]) #[.func (.yield (w.heap.size + 1)) #[] #[]]).run Tryz.prog W1 = _ from by simp [invoke, go_sem])
  · refine (split_in (n - 1) (w.heap.size + 1) Bp Bs Bv s hs
      (fun k W => I k W ∧ W.heap[w.heap.size + 1]? = some (.loop (rec .ready none)) ∧ W.heap[w.heap.size]? = some (.deferred (some [])))
      (fun k W => ∃ c, Ix c k W ∧ W.heap[w.heap.size + 1]? = some (.loop (rec .done (some c))) ∧ W.heap[w.heap.size]? = some (.deferred (some [])))
      (fun k W v h => ⟨hIs k W v h.1, (Below.heap_setCell _ _ _ _ (by show w.heap.size + 1 ≠ Bs; omega)).trans h.2.1, (Below.heap_setCell _ _ _ _ (by show w.heap.size ≠ Bs; omega)).trans h.2.2⟩)
      ?_ W1 hB1 hps hvs ⟨hI1, hL1, hK1⟩).mono ?_
    · rintro k x W hx ⟨hi, hl, hk⟩
      have hlt : w.heap.size + 1 < W.heap.size := (Array.getElem?_eq_some_iff.1 hl).1
      have hy := run_yield (P := Tryz.prog) (args := #[.string ⟨x.toArray⟩]) hl (by rw [hrec]; rfl)
      rw [hrec] at hy
      refine ⟨fn, _, assign, body, hy, roundIn_of_wpIn hfn ?_⟩
      clear hy
      refine hassign _ x W _ ?_
      refine ⟨_, run_beginRound hl (by rw [hrec]), ?_⟩
      have hl2 : (W.putObj (w.heap.size + 1) (.loop { rec .ready none with state := .busy })).heap[w.heap.size + 1]? = some (.loop { rec .ready none with state := .busy }) := World.putObj_heap_same hlt
      have hk2 : (W.putObj (w.heap.size + 1) (.loop { rec .ready none with state := .busy })).heap[w.heap.size]? = some (.deferred (some [])) := (World.putObj_heap_other (by omega)).trans hk
      have hbx2 : Boxes Bp Bs Bv W (W.putObj (w.heap.size + 1) (.loop { rec .ready none with state := .busy })) := boxes_put (by omega) (by omega) (by omega)
      refine wpIn_mono (hbody (w.heap.size + 1) k x _ hx (hIp _ _ _ _ (by omega) (by omega) hi) (by simp; omega)) ?_
      rintro e a3 W3 hp
      have fin : ∀ (jump : Option Code), Keep Bp Bs Bv w.heap.size (W.putObj (w.heap.size + 1) (.loop { rec .ready none with state := .busy })) W3 →
          (Instr.endRound (w.heap.size + 1) jump).run Tryz.prog W3 = .ok (.bool jump.isNone) (W3.putObj (w.heap.size + 1) (.loop (rec (if jump.isNone then .ready else .done) jump))) ∧
          (W3.putObj (w.heap.size + 1) (.loop (rec (if jump.isNone then .ready else .done) jump))).heap[w.heap.size + 1]? = some (.loop (rec (if jump.isNone then .ready else .done) jump)) ∧
          (W3.putObj (w.heap.size + 1) (.loop (rec (if jump.isNone then .ready else .done) jump))).heap[w.heap.size]? = some (.deferred (some [])) ∧ Boxes Bp Bs Bv W (W3.putObj (w.heap.size + 1) (.loop (rec (if jump.isNone then .ready else .done) jump))) := fun jump hkp => by
        have hl3 := hkp.d1.trans hl2
        have := run_endRound (P := Tryz.prog) jump hl3
        rw [hrec] at this ⊢
        exact ⟨this, World.putObj_heap_same (Array.getElem?_eq_some_iff.1 hl3).1, (World.putObj_heap_other (by omega)).trans (hkp.d0.trans hk2), (hbx2.trans hkp.boxes).trans (boxes_put (by omega) (by omega) (by omega))⟩
      cases e with
      | normal =>
        obtain ⟨hkp, hi3⟩ := hp
        obtain ⟨hr, hl4, hk4, hbx⟩ := fin none hkp
        exact ⟨_, _, hr, .inl ⟨rfl, ⟨hIp _ _ _ _ (by omega) (by omega) hi3, hl4, hk4⟩, hbx⟩⟩
      | exit id =>
        obtain ⟨hkp, hi3⟩ := hp
        obtain ⟨hr, hl4, hk4, hbx⟩ := fin (some (.exit id)) hkp
        exact ⟨_, _, hr, .inr ⟨rfl, .exit id, hIxp _ _ _ _ _ (by omega) (by omega) hi3, hl4, hk4⟩⟩
      | ret => exact hp.elim
      | goto t => exact hp.elim
      | panic ch => exact hp.elim
      | outgrown => exact hp.elim
    · rintro e W2 ⟨⟨v, rfl⟩, (⟨hi, hl, hk⟩ | ⟨k, c, hi, hl, hk⟩)⟩
      · exact ⟨none, _, by have := run_endLoop (P := Tryz.prog) hl (by rw [hrec]; simp); rw [hrec] at this; exact this, hdone _ (hIp _ _ _ _ (by omega) (by omega) hi) ((World.putObj_heap_other (by omega)).trans hk)⟩
      · exact ⟨some c, _, by have := run_endLoop (P := Tryz.prog) hl (by rw [hrec]; simp); rw [hrec] at this; exact this, hstop c k _ (hIxp _ _ _ _ _ (by omega) (by omega) hi) ((World.putObj_heap_other (by omega)).trans hk)⟩
open Go.RowKit Go.Shelf
set_option linter.unusedVariables false
attribute [local go_sem] Oper.semAt_some
/-- an own row of types, each with its own rows -/
structure TypesOwn (w : World) (B : Nat) (v : Value) (xs : List TyV) : Prop where
  row : w.ownsRow B 47 6 v xs.length (xs.flatMap typeRow)
  each : ∀ x ∈ xs, TypeNew w B x
/-- what Parse owes -/
def ParsePost (r : List SType × Nat × Int) (w : World) (e : Ending) (w' : World) : Prop :=
  ∃ (xs : List TyV) (o : Option Addr) (c : Nat), xs.map TyV.t = r.1 ∧ e = .returned (.tuple #[.agg #[.slice o xs.length c], .int .i64 (r.2.1 : Nat), .int .i64 r.2.2]) ∧ TypesAt w' o c xs ∧ Below w.heap.size w w'
set_option maxRecDepth 100000 in
theorem splitSeq1 (s : Bytes) (w : World) : Calls Tryz.prog 71 #[.string ⟨s.toArray⟩, .string ⟨#[10]⟩, .int .i64 0] w fun e w' => e = .returned (.func (.func 108) #[] #[.pointer (some ⟨w.heap.size + 1, 0, none⟩), .pointer (some ⟨w.heap.size, 0, none⟩), .pointer (some ⟨w.heap.size + 2, 0, none⟩)]) ∧ w' = allocs w [.cells #[.string ⟨s.toArray⟩] 9, .cells #[.string ⟨#[10]⟩] 9, .cells #[.int .i64 0] 3] := by
  go_enter Tryz.func71, Tryz.ntmps71
  go_wp2_with fail
  go_ret
  exact ⟨rfl, rfl⟩
set_option maxRecDepth 100000 in
theorem splitSeq_any (s : Bytes) (w : World) : Calls Tryz.prog 36 #[.string ⟨s.toArray⟩, .string ⟨#[10]⟩] w fun e w' => e = .returned (.func (.func 108) #[] #[.pointer (some ⟨w.heap.size + 1, 0, none⟩), .pointer (some ⟨w.heap.size, 0, none⟩), .pointer (some ⟨w.heap.size + 2, 0, none⟩)]) ∧ w' = allocs w [.cells #[.string ⟨s.toArray⟩] 9, .cells #[.string ⟨#[10]⟩] 9, .cells #[.int .i64 0] 3] := by
  have h := splitSeq1 s w
  go_enter Tryz.func36, Tryz.ntmps36
  go_wp2_with fail
  refine h.mono ?_
  rintro e w' ⟨rfl, rfl⟩
  go_wp2_with fail
  go_ret
  exact ⟨rfl, rfl⟩
/-- what holds between two lines: the schema in block H+1, the number in H+2, what is wrong in H+3 -/
structure PSt (H : Nat) (w0 W : World) (k q : Nat) (v : Value) (xs : List TyV) : Prop where
  res : W.heap[H]? = some (.cells #[.slice none 0 0] 24 (0, 0))
  sch : W.heap[H + 1]? = some (.cells #[v] 24 (0, 0))
  num : W.heap[H + 1 + 1]? = some (.cells #[.int .i64 (k : Nat)] 3 (0, 0))
  wr : W.heap[H + 1 + 1 + 1]? = some (.cells #[.int .i64 (q : Nat)] 3 (0, 0))
  own : TypesOwn W (H + 9) v xs
  below : Below H w0 W
  size : H + 7 ≤ W.heap.size
  lims : ∀ x ∈ xs, TLim 65536 x.t
  few : xs.length ≤ k
/-- what a round keeps -/
structure Rd (H : Nat) (W W' : World) : Prop where
  size : W.heap.size ≤ W'.heap.size
  block : ∀ j, H + 4 ≤ j → j < H + 9 → W'.heap[j]? = W.heap[j]?
theorem Rd.refl (H : Nat) (W : World) : Rd H W W := ⟨Nat.le_refl _, fun _ _ _ => rfl⟩
theorem Rd.trans {H : Nat} {a b c : World} (h : Rd H a b) (k : Rd H b c) : Rd H a c := ⟨Nat.le_trans h.size k.size, fun j h1 h2 => (k.block j h1 h2).trans (h.block j h1 h2)⟩
theorem Rd.of {H : Nat} {W W' : World} (h : Below W.heap.size W W') (hs : H + 9 ≤ W.heap.size) : Rd H W W' := ⟨h.size, fun j _ h2 => h.block j (by omega)⟩
theorem TypesOwn.kept {w w' : World} {B : Nat} {v : Value} {xs : List TyV} {row : Option Nat} (h : TypesOwn w B v xs) (hg : w.grownBy w' row) (hr : ∀ k, row = some k → k < B) : TypesOwn w' B v xs :=
  ⟨World.ownsRow.kept h.row hg (by cases e : v.ownBlock with | none => exact .inl rfl | some g => exact .inr (fun e2 => by have := (World.ownsRow.lt h.row g e).1; have := hr g e2.symm; omega)),
   fun x hx => ⟨World.ownsRow.kept (h.each x hx).1 hg (by cases e : (Value.slice x.ao x.t.attrs.length x.ac).ownBlock with | none => exact .inl rfl | some g => exact .inr (fun e2 => by have := (World.ownsRow.lt (h.each x hx).1 g e).1; have := hr g e2.symm; omega)),
     World.ownsRow.kept (h.each x hx).2 hg (by cases e : (Value.slice x.no x.t.nodes.length x.nc).ownBlock with | none => exact .inl rfl | some g => exact .inr (fun e2 => by have := (World.ownsRow.lt (h.each x hx).2 g e).1; have := hr g e2.symm; omega))⟩⟩
theorem grown_below {w w' : World} (h : Below w.heap.size w w') : w.grownBy w' none := ⟨h.os, h.tape, h.output, h.size, fun k hk _ => h.block k hk⟩
theorem PSt.grow {H : Nat} {w0 W W' : World} {k q : Nat} {v : Value} {xs : List TyV} (h : PSt H w0 W k q v xs) (hb : Below W.heap.size W W') : PSt H w0 W' k q v xs :=
  ⟨(hb.block _ (lt_of_block h.res)).trans h.res, (hb.block _ (lt_of_block h.sch)).trans h.sch, (hb.block _ (lt_of_block h.num)).trans h.num, (hb.block _ (lt_of_block h.wr)).trans h.wr, h.own.kept (grown_below hb) (fun k e => by cases e), h.below.trans (hb.mono (by have := h.size; omega)), Nat.le_trans h.size hb.size, h.lims, h.few⟩
theorem grown_set (W : World) (b : Nat) (v : Value) : W.grownBy (W.setCell ⟨b, 0, none⟩ v) (some b) := ⟨rfl, rfl, rfl, by simp [World.setCell], fun k hk hb => Below.heap_setCell _ _ _ _ (fun e => hb (by rw [e]))⟩
theorem box_set {W : World} {b t : Nat} {v : Value} (u : Value) (h : W.heap[b]? = some (.cells #[v] t (0, 0))) : (W.setCell ⟨b, 0, none⟩ u).heap[b]? = some (.cells #[u] t (0, 0)) := by
  have hlt := lt_of_block h
  have h' : W.heap[b] = .cells #[v] t (0, 0) := by simpa [Array.getElem?_eq_getElem hlt] using h
  show (W.heap.modify b _)[b]? = _
  rw [Array.getElem?_eq_getElem (by simpa using hlt), Array.getElem_modify_self, h']
  rfl
theorem Rd.set (H : Nat) (W : World) (b : Nat) (v : Value) (hb : b < H + 4) : Rd H W (W.setCell ⟨b, 0, none⟩ v) := ⟨by simp [World.setCell], fun j h1 h2 => Below.heap_setCell _ _ _ _ (by show j ≠ b; omega)⟩
theorem PSt.setNum {H : Nat} {w0 W : World} {k q : Nat} {v : Value} {xs : List TyV} (h : PSt H w0 W k q v xs) (n : Nat) (hn : k ≤ n) (u : Value) (hu : u = .int .i64 (n : Nat)) : PSt H w0 (W.setCell ⟨H + 1 + 1, 0, none⟩ u) n q v xs := by
  subst hu
  have hne : ∀ j, j ≠ H + 1 + 1 → (W.setCell ⟨H + 1 + 1, 0, none⟩ (.int .i64 (n : Nat))).heap[j]? = W.heap[j]? := fun j hj => Below.heap_setCell _ _ _ _ hj
  exact ⟨(hne _ (by omega)).trans h.res, (hne _ (by omega)).trans h.sch, box_set _ h.num, (hne _ (by omega)).trans h.wr, h.own.kept (grown_set W _ _) (fun k e => by cases e; omega), h.below.setCell (by show H ≤ H + 1 + 1; omega) _, by simpa [World.setCell] using h.size, h.lims, Nat.le_trans h.few hn⟩
theorem PSt.setWr {H : Nat} {w0 W : World} {k q : Nat} {v : Value} {xs : List TyV} (h : PSt H w0 W k q v xs) (n : Nat) : PSt H w0 (W.setCell ⟨H + 1 + 1 + 1, 0, none⟩ (.int .i64 (n : Nat))) k n v xs := by
  have hne : ∀ j, j ≠ H + 1 + 1 + 1 → (W.setCell ⟨H + 1 + 1 + 1, 0, none⟩ (.int .i64 (n : Nat))).heap[j]? = W.heap[j]? := fun j hj => Below.heap_setCell _ _ _ _ hj
  exact ⟨(hne _ (by omega)).trans h.res, (hne _ (by omega)).trans h.sch, (hne _ (by omega)).trans h.num, box_set _ h.wr, h.own.kept (grown_set W _ _) (fun k e => by cases e; omega), h.below.setCell (by show H ≤ H + 1 + 1 + 1; omega) _, by simpa [World.setCell] using h.size, h.lims, h.few⟩
theorem PSt.box {H : Nat} {w0 W : World} {k q : Nat} {v : Value} {xs : List TyV} (h : PSt H w0 W k q v xs) (b : Nat) (h1 : H + 4 ≤ b) (h2 : b < H + 9) (u : Value) : PSt H w0 (W.setCell ⟨b, 0, none⟩ u) k q v xs := by
  have hne : ∀ j, j ≠ b → (W.setCell ⟨b, 0, none⟩ u).heap[j]? = W.heap[j]? := fun j hj => Below.heap_setCell _ _ _ _ hj
  exact ⟨(hne _ (by omega)).trans h.res, (hne _ (by omega)).trans h.sch, (hne _ (by omega)).trans h.num, (hne _ (by omega)).trans h.wr, h.own.kept (grown_set W _ _) (fun k e => by cases e; omega), h.below.setCell (by show H ≤ b; omega) _, by simpa [World.setCell] using h.size, h.lims, h.few⟩
theorem PSt.put {H : Nat} {w0 W : World} {k q : Nat} {v : Value} {xs : List TyV} (h : PSt H w0 W k q v xs) (b : Nat) (h1 : H + 4 ≤ b) (h2 : b < H + 9) (o : Obj) : PSt H w0 (W.putObj b o) k q v xs := by
  have hne : ∀ j, j ≠ b → (W.putObj b o).heap[j]? = W.heap[j]? := fun j hj => World.putObj_heap_other hj
  exact ⟨(hne _ (by omega)).trans h.res, (hne _ (by omega)).trans h.sch, (hne _ (by omega)).trans h.num, (hne _ (by omega)).trans h.wr, h.own.kept (row := some b) ⟨rfl, rfl, rfl, by simp, fun k hk hb => hne k (fun e => hb (by rw [e]))⟩ (fun k e => by cases e; omega), ⟨h.below.os, h.below.tape, h.below.output, by simpa using h.below.size, fun j hj => (hne j (by omega)).trans (h.below.block j hj)⟩, by simpa using h.size, h.lims, h.few⟩
theorem free_of_row {W : World} {b t : Nat} {v : Value} (h : W.heap[b]? = some (.cells #[v] t (0, 0))) : W.frozen? ⟨b, 0, none⟩ = false := by simp [World.frozen?, h]
theorem ownsRow_lower {w : World} {B B' : Nat} {e : TypeId} {size n : Nat} {v : Value} {xs : List Value} (h : w.ownsRow B e size v n xs) (hb : B' ≤ B) : w.ownsRow B' e size v n xs := by
  refine ⟨h.1, ?_⟩
  rcases h.2 with h2 | ⟨g, cap, cur, h1, h2, h3⟩
  · exact .inl h2
  · exact .inr ⟨g, cap, cur, h1, Nat.le_trans hb h2, h3⟩
theorem TypeNew.lower {w : World} {B B' : Nat} {y : TyV} (h : TypeNew w B y) (hb : B' ≤ B) : TypeNew w B' y := ⟨ownsRow_lower h.1 hb, ownsRow_lower h.2 hb⟩
theorem TypeNew.grow {w w' : World} {B : Nat} {y : TyV} (h : TypeNew w B y) (hb : Below w.heap.size w w') : TypeNew w' B y := ⟨World.ownsRow.kept h.1 (grown_below hb) (by cases e : (Value.slice y.ao y.t.attrs.length y.ac).ownBlock with | none => exact .inl rfl | some g => exact .inr (fun e2 => by cases e2)), World.ownsRow.kept h.2 (grown_below hb) (by cases e : (Value.slice y.no y.t.nodes.length y.nc).ownBlock with | none => exact .inl rfl | some g => exact .inr (fun e2 => by cases e2))⟩
theorem TypesOwn.add {w w' : World} {B : Nat} {v v3 : Value} {xs : List TyV} {y : TyV} (h : TypesOwn w B v xs) (hn : TypeNew w B y) (hg : w.grownBy w' v.ownBlock) (h3 : w'.ownsRow B 47 6 v3 (xs.length + 1) (xs.flatMap typeRow ++ typeRow y)) : TypesOwn w' B v3 (xs ++ [y]) := by
  refine ⟨by rw [List.length_append, List.flatMap_append]; simpa using h3, fun x hx => ?_⟩
  have hx' : TypeNew w B x := by
    rcases List.mem_append.1 hx with hx | hx
    · exact h.each x hx
    · simp at hx; subst hx; exact hn
  exact ⟨World.ownsRow.kept hx'.1 hg (ownsRow_apart hx'.1 h.row (by decide)), World.ownsRow.kept hx'.2 hg (ownsRow_apart hx'.2 h.row (by decide))⟩
theorem PSt.far {H : Nat} {w0 W W' : World} {k q : Nat} {v : Value} {xs : List TyV} (h : PSt H w0 W k q v xs) (hg : W.grownBy W' v.ownBlock) (j : Nat) (hj : j < H + 9) (hj2 : j < W.heap.size) : W'.heap[j]? = W.heap[j]? :=
  hg.block j hj2 (fun e => by have := (World.ownsRow.lt h.own.row j e.symm).1; omega)
theorem PSt.add {H : Nat} {w0 W W' : World} {k q : Nat} {v v3 : Value} {xs : List TyV} {y : TyV} (h : PSt H w0 W k q v xs) (hn : TypeNew W (H + 9) y) (hg : W.grownBy W' v.ownBlock) (h3 : W'.ownsRow (H + 9) 47 6 v3 (xs.length + 1) (xs.flatMap typeRow ++ typeRow y)) (hl : TLim 65536 y.t) (hf : xs.length + 1 ≤ k) (hz : H + 9 ≤ W.heap.size) :
    PSt H w0 (W'.setCell ⟨H + 1, 0, none⟩ v3) k q v3 (xs ++ [y]) ∧ Rd H W (W'.setCell ⟨H + 1, 0, none⟩ v3) := by
  have hne : ∀ j, j ≠ H + 1 → (W'.setCell ⟨H + 1, 0, none⟩ v3).heap[j]? = W'.heap[j]? := fun j hj => Below.heap_setCell _ _ _ _ hj
  have hfar := fun j (hj : j < H + 9) => h.far hg j hj (by omega)
  have ho := h.own.add hn hg h3
  have hb : Below H w0 W' := ⟨hg.os.trans h.below.os, hg.tape.trans h.below.tape, hg.output.trans h.below.output, Nat.le_trans h.below.size hg.size, fun j hj => (hfar j (by omega)).trans (h.below.block j hj)⟩
  exact ⟨⟨(hne _ (by omega)).trans ((hfar _ (by omega)).trans h.res), box_set _ ((hfar _ (by omega)).trans h.sch), (hne _ (by omega)).trans ((hfar _ (by omega)).trans h.num), (hne _ (by omega)).trans ((hfar _ (by omega)).trans h.wr), ho.kept (grown_set W' _ _) (fun k e => by cases e; omega), hb.setCell (by show H ≤ H + 1; omega) _, by have := hg.size; simp [World.setCell]; omega, fun x hx => by
      rcases List.mem_append.1 hx with hx | hx
      · exact h.lims x hx
      · simp at hx; subst hx; exact hl, by rw [List.length_append]; exact hf⟩,
    ⟨by have := hg.size; simp [World.setCell]; omega, fun j h1 h2 => (hne j (by omega)).trans (hfar j h2)⟩⟩
theorem TLim.mono {n m : Nat} {t : SType} (h : TLim n t) (hm : n ≤ m) : TLim m t := ⟨Nat.le_trans h.name hm, Nat.le_trans h.label hm, Nat.le_trans h.key hm, Nat.le_trans h.attrs hm, fun a ha => Nat.le_trans (h.attr a ha) hm, fun a ha => Nat.le_trans (h.sym a ha) hm⟩
/-- what holds between two lines, and what is still to come -/
def PI (H : Nat) (w0 : World) (L : List Bytes) (k : Nat) (W : World) : Prop := ∃ o c xs, PSt H w0 W k 0 (.slice o xs.length c) xs ∧ Hid (typesL 0 [] L = typesL k (xs.map TyV.t) (L.drop k))
/-- a line was wrong -/
def PX (H : Nat) (w0 : World) (L : List Bytes) (c : Code) (k : Nat) (W : World) : Prop := c = .exit 0 ∧ 1 ≤ k ∧ k ≤ L.length ∧ ∃ v xs, PSt H w0 W k k v xs ∧ (typesL 0 [] L).2 = k
theorem PI.box {H : Nat} {w0 W : World} {L : List Bytes} {k : Nat} (h : PI H w0 L k W) (b : Nat) (h1 : H + 4 ≤ b) (h2 : b < H + 9) (u : Value) : PI H w0 L k (W.setCell ⟨b, 0, none⟩ u) := by
  obtain ⟨o, c, xs, hp, hk⟩ := h; exact ⟨o, c, xs, hp.box b h1 h2 u, hk⟩
theorem PI.put {H : Nat} {w0 W : World} {L : List Bytes} {k : Nat} (h : PI H w0 L k W) (b : Nat) (h1 : H + 4 ≤ b) (h2 : b < H + 9) (u : Obj) : PI H w0 L k (W.putObj b u) := by
  obtain ⟨o, c, xs, hp, hk⟩ := h; exact ⟨o, c, xs, hp.put b h1 h2 u, hk⟩
theorem PI.grow {H : Nat} {w0 W W' : World} {L : List Bytes} {k : Nat} (h : PI H w0 L k W) (hb : Below W.heap.size W W') : PI H w0 L k W' := by
  obtain ⟨o, c, xs, hp, hk⟩ := h; exact ⟨o, c, xs, hp.grow hb, hk⟩
theorem PX.put {H : Nat} {w0 W : World} {L : List Bytes} {c : Code} {k : Nat} (h : PX H w0 L c k W) (b : Nat) (h1 : H + 4 ≤ b) (h2 : b < H + 9) (u : Obj) : PX H w0 L c k (W.putObj b u) := by
  obtain ⟨e, e1, e2, v, xs, hp, hk⟩ := h; exact ⟨e, e1, e2, v, xs, hp.put b h1 h2 u, hk⟩
theorem typesL_no {k : Nat} {acc : List SType} {x : Bytes} {r : List Bytes} (h : countsL x = false) : typesL k acc (x :: r) = typesL (k + 1) acc r := by
  conv => lhs; unfold typesL
  rw [if_neg (by simp [h])]
theorem typesL_yes {k : Nat} {acc : List SType} {x : Bytes} {r : List Bytes} {t : SType} (h : countsL x = true) (ht : readL x = some t) : typesL k acc (x :: r) = typesL (k + 1) (acc ++ [t]) r := by
  conv => lhs; unfold typesL
  rw [if_pos h, ht]
theorem typesL_bad {k : Nat} {acc : List SType} {x : Bytes} {r : List Bytes} (h : countsL x = true) (ht : readL x = none) : typesL k acc (x :: r) = (acc, k + 1) := by
  unfold typesL
  rw [if_pos h, ht]
theorem drop_at' {L : List Bytes} {k : Nat} {x : Bytes} (h : L[k]? = some x) : L.drop k = x :: L.drop (k + 1) := by
  obtain ⟨hk, e⟩ := List.getElem?_eq_some_iff.1 h
  rw [List.drop_eq_getElem_cons hk, e]
theorem info_type : (Tryz.prog.info? 47).map (fun i => (i.zero, i.size, i.bytes)) = some (some zeroType, 6, 104) := by kernel_rfl
/-- the frame of a round, out of what is kept -/
theorem keep_of {H : Nat} {W W' : World} (h : Rd H W W') : Keep (H + 1 + 1 + 1 + 1 + 1) (H + 1 + 1 + 1 + 1) (H + 1 + 1 + 1 + 1 + 2) (H + 7) W W' :=
  ⟨h.size, ⟨h.block _ (by omega) (by omega), h.block _ (by omega) (by omega), h.block _ (by omega) (by omega)⟩, h.block _ (by omega) (by omega), h.block _ (by omega) (by omega)⟩
theorem parse_start {w W0 : World} {s : Bytes} (hW0 : W0 = allocs ((((w.alloc (Obj.cells #[Value.slice none 0 0] 24)).alloc (Obj.cells #[Value.slice none 0 0] 24)).alloc (Obj.cells #[Value.int IntKind.i64 0] 3)).alloc (Obj.cells #[Value.int IntKind.i64 0] 3)) [.cells #[.string ⟨s.toArray⟩] 9, .cells #[.string ⟨#[10]⟩] 9, .cells #[.int .i64 0] 3]) :
    W0.heap.size = w.heap.size + 7 ∧ PSt w.heap.size w W0 0 0 (.slice none 0 0) [] ∧ SepAt W0 (w.heap.size + 1 + 1 + 1 + 1 + 1) (w.heap.size + 1 + 1 + 1 + 1) (w.heap.size + 1 + 1 + 1 + 1 + 2) s := by
  obtain ⟨os, hos⟩ : ∃ os : List Obj, os = [.cells #[.slice none 0 0] 24, .cells #[.slice none 0 0] 24, .cells #[.int .i64 0] 3, .cells #[.int .i64 0] 3, .cells #[.string ⟨s.toArray⟩] 9, .cells #[.string ⟨#[10]⟩] 9, .cells #[.int .i64 0] 3] := ⟨_, rfl⟩
  have hW : W0 = allocs w os := by rw [hW0, hos]; rfl
  have hat : ∀ i, i < 7 → W0.heap[w.heap.size + i]? = os[i]? := fun i hi => by rw [hW]; exact allocs_at w os i (by rw [hos]; exact hi)
  have hz : W0.heap.size = w.heap.size + 7 := by rw [hW, allocs_size, hos]; rfl
  have hb : Below w.heap.size w W0 := by rw [hW]; exact allocs_below _ _
  refine ⟨hz, ⟨(hat 0 (by omega)).trans (by rw [hos]; rfl), (hat 1 (by omega)).trans (by rw [hos]; rfl), (hat 2 (by omega)).trans (by rw [hos]; rfl), (hat 3 (by omega)).trans (by rw [hos]; rfl), ⟨World.ownsRow_nil _ _ _ _, fun x hx => by simp at hx⟩, hb, by omega, fun x hx => by simp at hx, Nat.le_refl _⟩, ⟨(hat 5 (by omega)).trans (by rw [hos]; rfl), (hat 4 (by omega)).trans (by rw [hos]; rfl), (hat 6 (by omega)).trans (by rw [hos]; rfl)⟩⟩
theorem next_cons {x : Bytes} (h : x.all blankU = false) : ∃ c t, nextL x = c :: t := by
  cases e : nextL x with
  | cons c t => exact ⟨c, t, rfl⟩
  | nil =>
    have h2 : x.all blankU = true := by
      unfold nextL at e
      clear h
      induction x with
      | nil => rfl
      | cons a r ih =>
        rw [List.dropWhile_cons] at e
        by_cases hb : blankU a = true
        · rw [if_pos hb] at e
          rw [List.all_cons, hb, ih e]; rfl
        · rw [if_neg hb] at e; cases e
    rw [h] at h2; cases h2
theorem counts_eq {x t : Bytes} {c : UInt8} (h : x.all blankU = false) (e : nextL x = c :: t) : countsL x = !(c == 35) := by
  unfold countsL
  rw [h, e]
  simp [bne]
theorem u8_eq_true {c : UInt8} (h : (c == 35) = true) : (((c.toNat : Nat) : Int) == 35) = true := by
  have := eq_of_beq h; subst this; rfl
theorem u8_eq_false {c : UInt8} (h : (c == 35) = false) : (((c.toNat : Nat) : Int) == 35) = false := by
  have h1 : c ≠ 35 := fun e => by rw [e] at h; exact absurd h (by decide)
  simp only [beq_eq_false_iff_ne, ne_eq]
  intro h2
  exact h1 (UInt8.toNat_inj.1 (by show c.toNat = 35; omega))
theorem end_row {W : World} {H t : Nat} {v : Value} (h : W.heap[H]? = some (.cells #[v] t (0, 0))) (u : Value) (o : Obj) : ((W.setCell ⟨H, 0, none⟩ u).putObj (H + 7) o).heap[H]? = some (.cells #[u] t (0, 0)) :=
  (World.putObj_heap_other (by omega)).trans (box_set u h)
theorem end_own {W : World} {H : Nat} {v : Value} {xs : List TyV} (h : TypesOwn W (H + 9) v xs) (u : Value) (o : Obj) : TypesOwn ((W.setCell ⟨H, 0, none⟩ u).putObj (H + 7) o) (H + 9) v xs :=
  (h.kept (grown_set W H u) (fun k e => by cases e; omega)).kept (row := some (H + 7)) ⟨rfl, rfl, rfl, by simp, fun k hk hb => World.putObj_heap_other (fun e => hb (by rw [e]))⟩ (fun k e => by cases e; omega)
theorem end_below {w W : World} {H : Nat} (h : Below H w W) (u : Value) (o : Obj) : Below H w ((W.setCell ⟨H, 0, none⟩ u).putObj (H + 7) o) := by
  have h1 := h.setCell (p := ⟨H, 0, none⟩) (Nat.le_refl _) u
  exact ⟨h1.os, h1.tape, h1.output, by simpa using h1.size, fun j hj => (World.putObj_heap_other (by omega)).trans (h1.block j hj)⟩
theorem end_below_drew {w W : World} {H : Nat} (h : Below H w W) (u : Value) (o : Obj) : Below H w (((W.setCell ⟨H, 0, none⟩ u).drew).putObj (H + 7) o) := by
  have h1 := (h.setCell (p := ⟨H, 0, none⟩) (Nat.le_refl _) u).drew
  exact ⟨h1.os, h1.tape, h1.output, by simpa using h1.size, fun j hj => (World.putObj_heap_other (by omega)).trans (h1.block j hj)⟩
theorem rowAt_of {w : World} {B : Nat} {e : TypeId} {size n : Nat} {o : Option Addr} {c : Nat} {xs : List Value} (h : w.ownsRow B e size (.slice o n c) n xs) : RowAt w o n c size xs := by
  refine ⟨h.1, ?_⟩
  rcases h.2 with ⟨e1, e2⟩ | ⟨g, cap, cur, e1, _, hg, h4, h5, h6, h7⟩
  · injection e1 with e1 e3 e4
    subst e2; subst e4
    exact ⟨Nat.le_refl _, by unfold maxLen; omega, fun h => by omega⟩
  · injection e1 with e1 e3 e4
    subst e4; subst e1
    refine ⟨h4, h5, fun _ => ⟨g, 0, rfl, lt_of_block hg, fun j u hj => ?_⟩⟩
    rw [← h7] at hj
    have hj2 : cur.toList[j]? = some u := by
      obtain ⟨hlt, he⟩ := List.getElem?_eq_some_iff.1 hj
      rw [List.getElem_take] at he
      exact List.getElem?_eq_some_iff.2 ⟨by rw [List.length_take] at hlt; omega, he⟩
    rw [Nat.zero_add]
    have hj3 : cur[j]? = some u := by rw [← Array.getElem?_toList]; exact hj2
    simp [World.cell?, hg, hj3]
theorem typesAt_of {w : World} {B : Nat} {o : Option Addr} {c : Nat} {xs : List TyV} (h : TypesOwn w B (.slice o xs.length c) xs) : TypesAt w o c xs :=
  ⟨rowAt_of h.row, fun x hx => ⟨rowAt_of (by have := (h.each x hx).1; unfold WordsOwn at this; exact this), rowAt_of (by have := (h.each x hx).2; unfold NodesOwn at this; exact this)⟩⟩
theorem lim_of {xs : List TyV} (h : ∀ x ∈ xs, TLim 65536 x.t) (hl : xs.length ≤ 1048576) : Lim xs :=
  ⟨hl, fun x hx => Nat.le_trans (h x hx).name (by omega), fun x hx => Nat.le_trans (h x hx).label (by omega), fun x hx => Nat.le_trans (h x hx).key (by omega), fun x hx => Nat.le_trans (h x hx).attrs (by omega), fun x hx a ha => Nat.le_trans ((h x hx).attr a ha) (by omega), fun x hx a ha => Nat.le_trans ((h x hx).sym a ha) (by omega)⟩
theorem parse_nil {w w' : World} {r : List SType × Nat × Int} (h : r.1 = []) (hb : Below w.heap.size w w') : ParsePost r w (.returned (.tuple #[.agg #[.slice none 0 0], .int .i64 (r.2.1 : Nat), .int .i64 r.2.2])) w' :=
  ⟨[], none, 0, h.symm, rfl, ⟨⟨rfl, Nat.le_refl _, by unfold maxLen; simp, fun h => by simp at h⟩, fun x hx => by simp at hx⟩, hb⟩
theorem parse_yes {s : Bytes} {w w' : World} {R : List SType × Nat × Int} {L : List Bytes} {xs : List TyV} {o : Option Addr} {c H n : Nat} (hR : R = parseL s) (hl : s.length ≤ 65536) (hL : L = linesL s) (hS : typesL 0 [] L = typesL n (xs.map TyV.t) []) (hC : chkS (xs.map TyV.t) = 0) (ho : TypesOwn w' H (.slice o xs.length c) xs) (hb : Below w.heap.size w w') :
    ParsePost R w (.returned (.tuple #[.agg #[.slice o xs.length c], .int .i64 0, .int .i64 0])) w' := by
  have hS' : typesL 0 [] (linesL s) = (xs.map TyV.t, 0) := by rw [← hL, hS]; unfold typesL; rfl
  have e : R = (xs.map TyV.t, 0, 0) := by
    rw [hR]; unfold parseL
    rw [if_neg (by omega), hS', if_neg (by simp), if_neg (by simp [hC])]
  exact ⟨xs, o, c, by rw [e], by rw [e]; rfl, typesAt_of ho, hb⟩
theorem parse_chk {s : Bytes} {w w' : World} {R : List SType × Nat × Int} {L : List Bytes} {xs : List TyV} {n : Nat} (hR : R = parseL s) (hl : s.length ≤ 65536) (hL : L = linesL s) (hS : typesL 0 [] L = typesL n (xs.map TyV.t) []) (hC : ¬ chkS (xs.map TyV.t) = 0) (hb : Below w.heap.size w w') :
    ParsePost R w (.returned (.tuple #[.agg #[.slice none 0 0], .int .i64 0, .int .i64 (chkS (xs.map TyV.t))])) w' := by
  have hS' : typesL 0 [] (linesL s) = (xs.map TyV.t, 0) := by rw [← hL, hS]; unfold typesL; rfl
  have e : R = ([], 0, chkS (xs.map TyV.t)) := by
    rw [hR]; unfold parseL
    rw [if_neg (by omega), hS', if_neg (by simp), if_pos hC]
  rw [e]
  exact parse_nil rfl hb
theorem parse_bad {s : Bytes} {w w' : World} {R : List SType × Nat × Int} {L : List Bytes} {k : Nat} (hR : R = parseL s) (hl : s.length ≤ 65536) (hL : L = linesL s) (hS : (typesL 0 [] L).2 = k) (hk : 1 ≤ k) (hb : Below w.heap.size w w') :
    ParsePost R w (.returned (.tuple #[.agg #[.slice none 0 0], .int .i64 (k : Nat), .int .i64 12])) w' := by
  have e : R = ([], k, 12) := by
    rw [hR]; unfold parseL
    rw [if_neg (by omega), ← hL, hS, if_pos (by omega)]
  rw [e]
  exact parse_nil rfl hb
set_option maxHeartbeats 4000000 in
set_option maxRecDepth 100000 in
theorem parse_small (s : Bytes) (w : World) (hl : s.length ≤ 65536) (ha : Asc s) :
    Calls Tryz.prog 17 #[.string ⟨s.toArray⟩] w (ParsePost (parseL s) w) := by
  obtain ⟨R, hR⟩ : ∃ R, R = parseL s := ⟨_, rfl⟩
  rw [← hR]
  have hd : decide ((s.length : Int) > 65536) = false := by rw [decide_eq_false_iff_not]; omega
  have hsq := splitSeq_any s
  refine (callsIn_wide (n := 9)).1 (callsIn_of_wp_marks Tryz.func17 rfl trivial ?_ rfl)
  refine wpIn_wide.2 ?_
  simp only [Tryz.ntmps17, List.size_toArray, List.length_cons, List.length_nil, Nat.reduceAdd, Nat.reduceSub, Array.replicate_succ, Array.replicate_zero, List.push_toArray, List.append_toArray, List.nil_append, List.cons_append]
  go_wp2_with fail
  go_step3
  go_wp2_with fail
  go_step3
  go_wp2_with fail
  refine (hsq _).mono ?_
  rintro e w1 ⟨rfl, rfl⟩
  clear hsq
  go_wp2_with fail
  obtain ⟨W0, hW0⟩ : ∃ W0, W0 = allocs ((((w.alloc (Obj.cells #[Value.slice none 0 0] 24)).alloc (Obj.cells #[Value.slice none 0 0] 24)).alloc (Obj.cells #[Value.int IntKind.i64 0] 3)).alloc (Obj.cells #[Value.int IntKind.i64 0] 3)) [.cells #[.string ⟨s.toArray⟩] 9, .cells #[.string ⟨#[10]⟩] 9, .cells #[.int .i64 0] 3] := ⟨_, rfl⟩
  obtain ⟨hz0, hP0, hB0⟩ := parse_start hW0
  rw [← hW0]
  have hlen := linesL_len s
  obtain ⟨L, hL⟩ : ∃ L, L = linesL s := ⟨_, rfl⟩
  refine (wpIn_wide (n := 9)).1 (wpIn_range_split 9 (w.heap.size + 1 + 1 + 1 + 1 + 1) (w.heap.size + 1 + 1 + 1 + 1) (w.heap.size + 1 + 1 + 1 + 1 + 2) s hl rfl hB0 (by omega) (by omega) (PI w.heap.size w L) (PX w.heap.size w L)
    (fun k W o h => h.grow ((Below.refl _ W).alloc (Nat.le_refl _) _)) (fun k W l o h1 h2 h => h.put l (by omega) (by omega) o) (fun c k W l o h1 h2 h => h.put l (by omega) (by omega) o) (fun k W v h => h.box _ (by omega) (by omega) v) ⟨none, 0, [], hP0, rfl⟩ ?a1 ?assign ?body ?done ?stop)
  case assign =>
    intro l x W K hK
    gi_wp2
    exact hK
  case body =>
    intro l k x W hx hI hsz
    rw [← hL] at hx hlen
    obtain ⟨o, c, xs, hp, hk⟩ := hI
    have hxm := hlen.2 x (List.mem_of_getElem? hx)
    have hkl := (List.getElem?_eq_some_iff.1 hx).1
    have hlL := hlen.1
    have hxl : x.length ≤ 65536 := by omega
    have hxa : Asc x := fun d hd => ha d (hxm.2 d hd)
    have c6 := cell_of_row _ _ 0 _ _ _ hp.num
    have f6 : W.frozen? ⟨w.heap.size + 1 + 1, 0, none⟩ = false := by have := hp.num; simp [World.frozen?, this]
    have hbk := fun w1 => names_Blank ⟨x.toArray⟩ w1 (by rw [bytes_size]; omega)
    rw [show allB blankB (⟨x.toArray⟩ : ByteArray).data.toList = x.all blankU from rfl] at hbk
    have hdrop := drop_at' hx
    have Hk : Hid (typesL 0 [] L = typesL k (xs.map TyV.t) (x :: L.drop (k + 1))) := by show _ = _; rw [← hdrop]; exact hk.out
    have e1 : IntKind.i64.wrap ((k : Int) + 1) = (k : Int) + 1 := IntWalk.i64_in _ (by omega)
    have hp1 := hp.setNum (k + 1) (by omega) (.int .i64 ((k : Int) + 1)) (by go_num)
    have hR1 := Rd.set w.heap.size W (w.heap.size + 1 + 1) (.int .i64 ((k : Int) + 1)) (by omega)
    have hsz1 : w.heap.size + 9 ≤ (W.setCell ⟨w.heap.size + 1 + 1, 0, none⟩ (.int .i64 ((k : Int) + 1))).heap.size := by simp only [World.setCell, Array.size_modify]; omega
    have HL := Lib.hid hL
    have Hlen := Lib.hid hlen
    have X := Lib.hid (And.intro hp1 (And.intro hR1 hsz1))
    clear hp1 hR1 hsz1 hk hdrop hL hlen hx hxm hW0 hB0 hP0
    gi_wp2
    refine ⟨trivial, ?_⟩
    refine (CallsIn.inRound l (callsIn_wide.2 (hbk _))).mono ?_
    rintro e w2 ⟨rfl, hb2⟩
    have hp2 := X.out.1.grow hb2
    have hR2 := X.out.2.1.trans (Rd.of hb2 X.out.2.2)
    have hsz2 : w.heap.size + 9 ≤ w2.heap.size := Nat.le_trans X.out.2.2 hb2.size
    clear hbk c6 f6 X e1
    cases hbl : x.all blankU with
    | true =>
      have hcn : countsL x = false := by unfold countsL; rw [hbl]; rfl
      have hst := Hk.out
      rw [typesL_no hcn] at hst
      have Hst := Lib.hid hst
      clear hst Hk hbl hcn
      gi_wp2
      refine ⟨trivial, ?_⟩
      gi_wp2
      rw [hz0]
      exact ⟨keep_of hR2, o, c, xs, hp2, Hst.out⟩
    | false =>
      have hrd := fun w1 => read_any x w1 hxl hxa
      obtain ⟨c1, t1, hnx⟩ := next_cons hbl
      have hcn := counts_eq hbl hnx
      have htl := trimL_any x
      rw [hnx] at htl
      cases hc : (c1 == 35) with
      | true =>
        rw [hc] at hcn
        have hst := Hk.out
        rw [typesL_no hcn] at hst
        have Hst := Lib.hid hst
        have hlt : 0 < (⟨(c1 :: t1).toArray⟩ : ByteArray).size := by rw [bytes_size]; simp
        have hci : ((((⟨(c1 :: t1).toArray⟩ : ByteArray)[0]'hlt).toNat : Int) == 35) = true := u8_eq_true hc
        clear hst Hk hbl hcn hnx hc hrd
        gi_wp2
        refine ⟨trivial, ?_⟩
        refine (CallsIn.inRound l (callsIn_wide.2 (htl _))).mono ?_
        rintro e w3 ⟨rfl, hb3⟩
        have hp3 := hp2.grow hb3
        have hR3 := hR2.trans (Rd.of hb3 hsz2)
        clear htl
        gi_wp2
        rw [hz0]
        exact ⟨keep_of hR3, o, c, xs, hp3, Hst.out⟩
      | false =>
        rw [hc] at hcn
        have hlt : 0 < (⟨(c1 :: t1).toArray⟩ : ByteArray).size := by rw [bytes_size]; simp
        have hci : ((((⟨(c1 :: t1).toArray⟩ : ByteArray)[0]'hlt).toNat : Int) == 35) = false := u8_eq_false hc
        have Hcn := Lib.hid hcn
        clear hbl hcn hnx hc
        gi_wp2
        refine ⟨trivial, ?_⟩
        refine (CallsIn.inRound l (callsIn_wide.2 (htl _))).mono ?_
        rintro e w3 ⟨rfl, hb3⟩
        have hp3 := hp2.grow hb3
        have hR3 := hR2.trans (Rd.of hb3 hsz2)
        have hsz3 : w.heap.size + 9 ≤ w3.heap.size := Nat.le_trans hsz2 hb3.size
        clear htl hp2 hR2 hsz2 hb2 hb3
        gi_wp2
        refine ⟨trivial, ?_⟩
        refine (CallsIn.inRound l (callsIn_wide.2 (hrd _))).mono ?_
        rintro e w4 hpost
        clear hrd
        cases hrl : readL x with
        | none =>
          rw [hrl] at hpost
          obtain ⟨he, hb4⟩ := hpost
          unfold zeroType at he
          subst he
          have hst := Hk.out
          rw [typesL_bad Hcn.out hrl] at hst
          have hp4 := hp3.grow hb4
          have hR4 := hR3.trans (Rd.of hb4 hsz3)
          have Hst := Lib.hid hst
          clear hst hrl Hk hp3 hR3
          have hp5 := hp4.grow ((Below.refl _ w4).alloc (Nat.le_refl _) (.cells #[.string ⟨#[]⟩, .string ⟨#[]⟩, .slice none 0 0, .string ⟨#[]⟩, .bool false, .slice none 0 0] 47))
          have hR5 := hR4.trans (Rd.of ((Below.refl _ w4).alloc (Nat.le_refl _) (.cells #[.string ⟨#[]⟩, .string ⟨#[]⟩, .slice none 0 0, .string ⟨#[]⟩, .bool false, .slice none 0 0] 47)) (Nat.le_trans hsz3 hb4.size))
          have c6 := cell_of_row _ _ 0 _ _ _ hp5.num
          have c7 := cell_of_row _ _ 0 _ _ _ hp5.wr
          have f7 := free_of_row hp5.wr
          gi_wp2
          rw [hz0]
          have hp6 := hp5.setWr (k + 1)
          refine ⟨keep_of (hR5.trans (Rd.set _ _ _ _ (by omega))), rfl, by omega, by omega, _, xs, hp6, ?_⟩
          have := Hst.out
          rw [this]
        | some t =>
          rw [hrl] at hpost
          obtain ⟨⟨y, hyt, he, hn⟩, hb4⟩ := hpost
          unfold typeVal typeRow at he
          subst he
          have hst := Hk.out
          rw [typesL_yes Hcn.out hrl, ← hyt] at hst
          have htl := readL_lim hrl
          rw [← hyt] at htl
          have htl := htl.mono hxl
          have hp4 := hp3.grow hb4
          have hR4 := hR3.trans (Rd.of hb4 hsz3)
          have Hst := Lib.hid hst
          clear hst hrl Hk hyt hp3 hR3
          obtain ⟨i0, hi, hz0i, hz1, hz2⟩ := info_parts info_type
          have hf := hp.few
          have hn9 : TypeNew w4 (w.heap.size + 9) y := hn.lower hsz3
          have hsz4 : w.heap.size + 9 ≤ w4.heap.size := Nat.le_trans hsz3 hb4.size
          clear hn hb4 hsz3 hp
          have hp5 := hp4.grow ((Below.refl _ w4).alloc (Nat.le_refl _) (.cells #[.string ⟨y.t.name.toArray⟩, .string ⟨y.t.label.toArray⟩, .slice y.ao y.t.attrs.length y.ac, .string ⟨y.t.key.toArray⟩, .bool y.t.text, .slice y.no y.t.nodes.length y.nc] 47))
          have c5 := cell_of_row _ _ 0 _ _ _ hp5.sch
          have hb6 : Below w4.heap.size w4 ((w4.alloc (.cells #[.string ⟨y.t.name.toArray⟩, .string ⟨y.t.label.toArray⟩, .slice y.ao y.t.attrs.length y.ac, .string ⟨y.t.key.toArray⟩, .bool y.t.text, .slice y.no y.t.nodes.length y.nc] 47)).alloc (.cells #[.string ⟨y.t.name.toArray⟩, .string ⟨y.t.label.toArray⟩, .slice y.ao y.t.attrs.length y.ac, .string ⟨y.t.key.toArray⟩, .bool y.t.text, .slice y.no y.t.nodes.length y.nc] 47)) := ((Below.refl _ w4).alloc (Nat.le_refl _) _).alloc (by simp) _
          have hp6 := hp4.grow hb6
          have hR6 := hR4.trans (Rd.of hb6 hsz4)
          have hn6 := hn9.grow hb6
          have hz6 : ((w4.alloc (.cells #[.string ⟨y.t.name.toArray⟩, .string ⟨y.t.label.toArray⟩, .slice y.ao y.t.attrs.length y.ac, .string ⟨y.t.key.toArray⟩, .bool y.t.text, .slice y.no y.t.nodes.length y.nc] 47)).alloc (.cells #[.string ⟨y.t.name.toArray⟩, .string ⟨y.t.label.toArray⟩, .slice y.ao y.t.attrs.length y.ac, .string ⟨y.t.key.toArray⟩, .bool y.t.text, .slice y.no y.t.nodes.length y.nc] 47)).heap.size = w4.heap.size + 2 := by simp
          have hro := hp6.own.row
          clear hp4 hR4 hn9 hp5 hb6
          gi_wp2_with (first
            | (gi_at_builtin; go_must (refine wpListIn_append_own _ rfl _ _ 22 rfl (w.heap.size + 9) 47 i0 zeroType 6 104 Tryz.underlying22 hi hz0i hz1 hz2 rfl (by decide) _ _ _ rfl hro ⟨w4.heap.size + 1, 0, none⟩ 1 1 (typeRow y) rfl rfl (row_cells_new _ (typeRow y) _ _ (by simp)) (fun z hz => by simp [typeRow] at hz; rcases hz with rfl | rfl | rfl | rfl | rfl | rfl <;> rfl) (by unfold maxLen; omega) (by omega) (by rw [hz6]; omega) ?_); intro v3 w3 hown3 hg3 hnil3; obtain ⟨o3, c3', rfl⟩ := ownRow_shape hown3; have e5 := (hp6.far hg3 _ (by omega) (by rw [hz6]; omega)).trans hp6.sch; have f5 := free_of_row e5; have c5 := cell_of_row _ _ 0 _ _ _ e5; clear e5)
            | fail)
          rw [hz0]
          obtain ⟨hpZ, hRZ⟩ := hp6.add hn6 hg3 hown3 htl (by omega) (by rw [hz6]; omega)
          refine ⟨keep_of (hR6.trans hRZ), o3, c3', xs ++ [y], ?_, ?_⟩
          · rw [List.length_append]; exact hpZ
          · have := Hst.out
            rw [List.map_append]
            exact this
  case done =>
    intro W hI hK
    rw [← hL] at hI hlen
    obtain ⟨o, c, xs, hp, hk⟩ := hI
    have hst := hk.out
    rw [List.drop_length] at hst
    have c7 := cell_of_row _ _ 0 _ _ _ hp.wr
    have c5 := cell_of_row _ _ 0 _ _ _ hp.sch
    have HR := Lib.hid hR
    have HS := Lib.hid hst
    have HL := Lib.hid hL
    clear hR hst hk hL hW0 hB0 hP0
    have hT := typesAt_of hp.own
    have hLm : Lim xs := lim_of hp.lims (by have := hp.few; have := hlen.1; omega)
    have c1 := cell_of_row _ _ 0 _ _ _ hp.res
    go_wp2_with fail
    refine (check_any xs o c W hT hLm).mono ?_
    rintro e w2 ⟨rfl, hb2⟩
    have hp2 := hp.grow hb2
    have hT2 := hT.below hb2
    have hK2 := (hb2.block _ (lt_of_block hK)).trans hK
    have d5 := cell_of_row _ _ 0 _ _ _ hp2.sch
    have d1 := cell_of_row _ _ 0 _ _ _ hp2.res
    have f1 := free_of_row hp2.res
    clear c7 c5 c1 hT hLm hp hK hb2
    by_cases hch : chkS (xs.map TyV.t) = 0
    · have HC := Lib.hid hch
      rw [hch]
      clear hch
      go_wp2_with fail
      refine ⟨by simp, .inl ⟨_, _, rfl, run_takeDeferred (by rw [← hz0]; exact (Below.heap_setCell _ _ _ _ (by show W0.heap.size ≠ w.heap.size; omega)).trans hK2), ?_⟩⟩
      have e1 := cell_of_row _ _ 0 _ _ _ (end_row hp2.res (.slice o xs.length c) (.deferred none))
      refine ⟨.tuple #[.agg #[.slice o xs.length c], .int .i64 0, .int .i64 0], by simp [results, Tryz.results17, go_sem, e1, Result.andThen], ?_⟩
      exact parse_yes HR.out hl HL.out HS.out HC.out (end_own hp2.own _ _) (end_below hp2.below _ _)
    · have HC := Lib.hid hch
      go_wp2_with fail
      refine ⟨by simp, .inl ⟨_, _, rfl, run_takeDeferred (by rw [← hz0]; exact (Below.heap_setCell _ _ _ _ (by show W0.heap.size ≠ w.heap.size; omega)).trans hK2), ?_⟩⟩
      have e1 := cell_of_row _ _ 0 _ _ _ (end_row hp2.res (.slice none 0 0) (.deferred none))
      refine ⟨.tuple #[.agg #[.slice none 0 0], .int .i64 0, .int .i64 (chkS (xs.map TyV.t))], by simp [results, Tryz.results17, go_sem, e1, Result.andThen], ?_⟩
      exact parse_chk HR.out hl HL.out HS.out HC.out (end_below hp2.below _ _)
  case stop =>
    intro c k W hX hK
    obtain ⟨rfl, h1, h2, v, xs, hp, hk⟩ := hX
    have c7 := cell_of_row _ _ 0 _ _ _ hp.wr
    have HR := Lib.hid hR
    have HS := Lib.hid hk
    have HL := Lib.hid hL
    clear hR hk hL hW0 hB0 hP0 hlen
    refine wpIn_wide.2 ?_
    go_wp2_with fail
    have d1 := cell_of_row _ _ 0 _ _ _ hp.res
    have f1 := free_of_row hp.res
    go_region
    go_wp2_with fail
    refine ⟨by simp, .inl ⟨_, _, rfl, run_takeDeferred (by rw [hz0]; exact (Below.heap_setCell _ _ _ _ (by show w.heap.size + 7 ≠ w.heap.size; omega)).trans (by rw [← hz0]; exact hK)), ?_⟩⟩
    rw [hz0]
    have e1 : (((W.setCell ⟨w.heap.size, 0, none⟩ (.slice none 0 0)).drew).putObj (w.heap.size + 7) (.deferred none)).cell? ⟨w.heap.size, 0, none⟩ = #[Value.slice none 0 0][0]? := cell_of_row _ _ 0 _ _ _ (end_row hp.res (.slice none 0 0) (.deferred none))
    refine ⟨.tuple #[.agg #[.slice none 0 0], .int .i64 (k : Nat), .int .i64 12], by simp [results, Tryz.results17, go_sem, e1, Result.andThen], ?_⟩
    exact parse_bad HR.out hl HL.out HS.out h1 (end_below_drew hp.below _ _)
end Go.Proofs.YtnnbdlmilbcpjaaGreatDoor
