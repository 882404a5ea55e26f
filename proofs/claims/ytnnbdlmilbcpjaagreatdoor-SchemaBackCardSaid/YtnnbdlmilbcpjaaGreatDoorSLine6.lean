/-
  Layer 9 (schema): a line read part by part: plain facts, and what each part leaves. Conditions as before.
-/
import Derived.Test.YtnnbdlmilbcpjaaGreatDoorSLine5
namespace Go.Proofs.YtnnbdlmilbcpjaaGreatDoor
open Go.RowKit
set_option linter.unusedVariables false
/-- a line, as far as it is read -/
structure PL where
  rest : Bytes
  name : Bytes
  label : Bytes
  attrs : List Bytes
  key : Bytes
  text : Bool
  nodes : List SNode
def cont7 (p : PL) : Option SType := some ⟨p.name, p.label, p.attrs, p.key, p.text, p.nodes⟩
def cont6 (p : PL) : Option SType := match contentL p.rest with | none => none | some (t, ns) => cont7 { p with text := t, nodes := ns }
def cont5 (p : PL) : Option SType := match keyL p.rest with | none => none | some (k, r) => cont6 { p with key := k, rest := r }
def cont4 (p : PL) : Option SType := match attrsL p.rest.length [] p.rest with | none => none | some (l, r) => cont5 { p with attrs := l, rest := r }
def cont3 (p : PL) : Option SType := if isName (wordW p.rest) = false then none else cont4 { p with label := wordW p.rest, rest := wordR p.rest }
def cont2 (p : PL) : Option SType := if wordW p.rest ≠ [61] then none else cont3 { p with rest := wordR p.rest }
def cont1 (p : PL) : Option SType := if isName (wordW p.rest) = false then none else cont2 { p with name := wordW p.rest, rest := wordR p.rest }
def cont0 (p : PL) : Option SType := if wordW p.rest ≠ typeW then none else cont1 { p with rest := wordR p.rest }
def contP : Nat → PL → Option SType
  | 0 => cont0
  | 1 => cont1
  | 2 => cont2
  | 3 => cont3
  | 4 => cont4
  | 5 => cont5
  | 6 => cont6
  | _ => cont7
theorem readL_cont (s : Bytes) : readL s = contP 0 ⟨s, [], [], [], [], false, []⟩ := rfl
def partF : Nat → Nat
  | 0 => 78
  | 1 => 79
  | 2 => 80
  | 3 => 81
  | 4 => 82
  | 5 => 83
  | _ => 84
set_option maxRecDepth 100000 in
theorem enter_part (k : Nat) (hk : k < 7) : ∀ args wz, (callFunc (partF k) args).run Tryz.prog wz = .ok (.enter (partF k) args) wz := by
  obtain rfl | rfl | rfl | rfl | rfl | rfl | rfl : k = 0 ∨ k = 1 ∨ k = 2 ∨ k = 3 ∨ k = 4 ∨ k = 5 ∨ k = 6 := by omega
  all_goals exact fun _ _ => rfl
/-- what holds behind so many parts -/
structure LSt (b B : Nat) (w0 : World) (k : Nat) (p : PL) (w : World) : Prop where
  ex : ∃ y : LineV, LnAt w b y ∧ y.name = p.name ∧ y.label = p.label ∧ y.key = p.key ∧ y.text = p.text ∧ WordsOwn w B y.av p.attrs ∧ NodesOwn w B y.nv p.nodes ∧ (k ≤ 6 → y.rest = p.rest ∧ y.text = false ∧ y.nv = .slice none 0 0)
  asc : k ≤ 6 → Asc p.rest ∧ p.rest.length ≤ 65536
  none4 : k ≤ 4 → p.attrs = []
  none5 : k ≤ 5 → p.key = []
  none6 : k ≤ 6 → p.nodes = [] ∧ p.text = false
  far : Far b B w0 w
  bB : b < B
  size : B ≤ w.heap.size
/-- what a part owes -/
def StepPost (b B : Nat) (w0 : World) (k : Nat) (p : PL) (e : Ending) (w' : World) : Prop :=
  ∃ ok, e = .returned (.bool ok) ∧ (ok = false → contP k p = none ∧ Far b B w0 w') ∧ (ok = true → ∃ p', contP k p = contP (k + 1) p' ∧ LSt b B w0 (k + 1) p' w')
theorem words_sole {b B : Nat} {w w' : World} {v : Value} {l : List Bytes} (h : WordsOwn w B v l) (hs : Sole b w w') (hb : b < B) : WordsOwn w' B v l := World.ownsRow.kept h hs.grownBy (.inr (fun e => by have := (World.ownsRow.lt h b e).1; omega))
theorem nodes_sole {b B : Nat} {w w' : World} {v : Value} {l : List SNode} (h : NodesOwn w B v l) (hs : Sole b w w') (hb : b < B) : NodesOwn w' B v l := World.ownsRow.kept h hs.grownBy (.inr (fun e => by have := (World.ownsRow.lt h b e).1; omega))
theorem Asc.attrs {l r : Bytes} {f : Nat} {acc q : List Bytes} (ha : Asc l) (h : attrsL f acc l = some (q, r)) : Asc r ∧ r.length ≤ l.length := by
  induction f generalizing acc l with
  | zero => simp [attrsL] at h; rw [← h.2]; exact ⟨ha.next, next_le l⟩
  | succ f ih =>
    by_cases h1 : (nextL l).head? = some 64
    · cases hb : attrB (nextL l) with
      | true =>
        rw [attrsL_yes h1 hb] at h
        have := ih ha.next.rest h
        exact ⟨this.1, by have h2 := wordR_lt h1; omega⟩
      | false => rw [attrsL_no h1 hb] at h; cases h
    · rw [attrsL_end h1] at h
      injection h with h
      injection h with _ h2
      rw [← h2]
      exact ⟨ha.next, next_le l⟩
theorem Asc.key {l r k : Bytes} (ha : Asc l) (h : keyL l = some (k, r)) : Asc r ∧ r.length ≤ l.length := by
  unfold keyL at h
  split at h
  · split at h
    · injection h with h
      injection h with _ h2
      rw [← h2]
      exact ⟨ha.rest.rest, Nat.le_trans (wordR_le _) (wordR_le _)⟩
    · cases h
  · injection h with h
    injection h with _ h2
    rw [← h2]
    exact ⟨ha, Nat.le_refl _⟩
theorem lpart_any (b B : Nat) (w0 : World) (k : Nat) (hk : k < 7) (p : PL) (w : World) (h : LSt b B w0 k p w) :
    Calls Tryz.prog (partF k) #[.pointer (some ⟨b, 0, none⟩)] w (StepPost b B w0 k p) := by
  obtain ⟨y, hL, hn, hlb, hkey, ht, hw, hns, hlow⟩ := h.ex
  obtain ⟨hrest, htx, hnv⟩ := hlow (by omega)
  obtain ⟨hasc, hlen⟩ := h.asc (by omega)
  have hbB := h.bB
  have hsz := h.size
  have asc1 : Asc y.rest := by rw [hrest]; exact hasc
  have len1 : y.rest.length ≤ 65536 := by rw [hrest]; exact hlen
  obtain ⟨hno, htno⟩ := h.none6 (by omega)
  obtain rfl | rfl | rfl | rfl | rfl | rfl | rfl : k = 0 ∨ k = 1 ∨ k = 2 ∨ k = 3 ∨ k = 4 ∨ k = 5 ∨ k = 6 := by omega
  · refine (begin_any b y w hL len1 asc1).mono ?_
    rintro e w' ⟨rfl, hL', hS⟩
    refine ⟨_, rfl, fun hf => ⟨?_, h.far.trans (hS.far hsz)⟩, fun hf => ⟨{ p with rest := wordR p.rest }, ?_, ?_⟩⟩
    · show cont0 p = none
      unfold cont0
      rw [if_pos (by rw [hrest] at hf; simpa using hf)]
    · show cont0 p = cont1 _
      unfold cont0
      rw [if_neg (by rw [hrest] at hf; simpa using hf)]
    · exact ⟨⟨_, hL', hn, hlb, hkey, ht, words_sole hw hS hbB, nodes_sole hns hS hbB, fun _ => ⟨by show wordR y.rest = _; rw [hrest], htx, hnv⟩⟩, fun _ => ⟨hasc.rest, Nat.le_trans (wordR_le _) hlen⟩, fun _ => h.none4 (by omega), fun _ => h.none5 (by omega), fun _ => h.none6 (by omega), h.far.trans (hS.far hsz), hbB, Nat.le_trans hsz hS.size⟩
  · refine (lname_any b y w hL len1 asc1).mono ?_
    rintro e w' ⟨rfl, hL', hS⟩
    refine ⟨_, rfl, fun hf => ⟨?_, h.far.trans (hS.far hsz)⟩, fun hf => ⟨{ p with name := wordW p.rest, rest := wordR p.rest }, ?_, ?_⟩⟩
    · show cont1 p = none
      unfold cont1
      rw [if_pos (by rw [hrest] at hf; exact hf)]
    · show cont1 p = cont2 _
      unfold cont1
      rw [if_neg (by rw [hrest] at hf; rw [hf]; simp)]
    · exact ⟨⟨_, hL', by show wordW y.rest = _; rw [hrest], hlb, hkey, ht, words_sole hw hS hbB, nodes_sole hns hS hbB, fun _ => ⟨by show wordR y.rest = _; rw [hrest], htx, hnv⟩⟩, fun _ => ⟨hasc.rest, Nat.le_trans (wordR_le _) hlen⟩, fun _ => h.none4 (by omega), fun _ => h.none5 (by omega), fun _ => h.none6 (by omega), h.far.trans (hS.far hsz), hbB, Nat.le_trans hsz hS.size⟩
  · refine (equals_any b y w hL len1 asc1).mono ?_
    rintro e w' ⟨rfl, hL', hS⟩
    refine ⟨_, rfl, fun hf => ⟨?_, h.far.trans (hS.far hsz)⟩, fun hf => ⟨{ p with rest := wordR p.rest }, ?_, ?_⟩⟩
    · show cont2 p = none
      unfold cont2
      rw [if_pos (by rw [hrest] at hf; simpa using hf)]
    · show cont2 p = cont3 _
      unfold cont2
      rw [if_neg (by rw [hrest] at hf; simpa using hf)]
    · exact ⟨⟨_, hL', hn, hlb, hkey, ht, words_sole hw hS hbB, nodes_sole hns hS hbB, fun _ => ⟨by show wordR y.rest = _; rw [hrest], htx, hnv⟩⟩, fun _ => ⟨hasc.rest, Nat.le_trans (wordR_le _) hlen⟩, fun _ => h.none4 (by omega), fun _ => h.none5 (by omega), fun _ => h.none6 (by omega), h.far.trans (hS.far hsz), hbB, Nat.le_trans hsz hS.size⟩
  · refine (llabel_any b y w hL len1 asc1).mono ?_
    rintro e w' ⟨rfl, hL', hS⟩
    refine ⟨_, rfl, fun hf => ⟨?_, h.far.trans (hS.far hsz)⟩, fun hf => ⟨{ p with label := wordW p.rest, rest := wordR p.rest }, ?_, ?_⟩⟩
    · show cont3 p = none
      unfold cont3
      rw [if_pos (by rw [hrest] at hf; exact hf)]
    · show cont3 p = cont4 _
      unfold cont3
      rw [if_neg (by rw [hrest] at hf; rw [hf]; simp)]
    · exact ⟨⟨_, hL', hn, by show wordW y.rest = _; rw [hrest], hkey, ht, words_sole hw hS hbB, nodes_sole hns hS hbB, fun _ => ⟨by show wordR y.rest = _; rw [hrest], htx, hnv⟩⟩, fun _ => ⟨hasc.rest, Nat.le_trans (wordR_le _) hlen⟩, fun _ => h.none4 (by omega), fun _ => h.none5 (by omega), fun _ => h.none6 (by omega), h.far.trans (hS.far hsz), hbB, Nat.le_trans hsz hS.size⟩
  · have hno4 := h.none4 (by omega)
    rw [hno4] at hw
    refine (attributes_any b B y w hL len1 asc1 hsz hbB hw).mono ?_
    rintro e w' ⟨rfl, ⟨z, hz, hall⟩, hF⟩
    rw [hrest] at hall ⊢
    cases hr : attrsL p.rest.length [] p.rest with
    | none =>
      refine ⟨_, rfl, fun _ => ⟨?_, h.far.trans hF⟩, fun hf => by simp at hf⟩
      show cont4 p = none
      unfold cont4; rw [hr]
    | some q =>
      obtain ⟨l, r⟩ := q
      refine ⟨_, rfl, fun hf => by simp at hf, fun _ => ⟨{ p with attrs := l, rest := r }, ?_, ?_⟩⟩
      · show cont4 p = cont5 _
        unfold cont4; rw [hr]
      · obtain ⟨v, rfl, hv⟩ := hall l r hr
        have ha2 := hasc.attrs hr
        refine ⟨⟨_, hz, hn, hlb, hkey, ht, hv, ?_, fun _ => ⟨rfl, htx, hnv⟩⟩, fun _ => ⟨ha2.1, by show r.length ≤ _; omega⟩, fun hx => by omega, fun _ => h.none5 (by omega), fun _ => h.none6 (by omega), h.far.trans hF, hbB, Nat.le_trans hsz hF.size⟩
        show NodesOwn w' B y.nv p.nodes
        rw [hnv, hno]
        exact World.ownsRow_nil _ _ _ _
  · refine (key_any b y w hL len1 asc1).mono ?_
    rintro e w' ⟨rfl, ⟨z, hz, hall⟩, hS⟩
    rw [hrest] at hall ⊢
    cases hr : keyL p.rest with
    | none =>
      refine ⟨_, rfl, fun _ => ⟨?_, h.far.trans (hS.far hsz)⟩, fun hf => by simp at hf⟩
      show cont5 p = none
      unfold cont5; rw [hr]
    | some q =>
      obtain ⟨kk, r⟩ := q
      refine ⟨_, rfl, fun hf => by simp at hf, fun _ => ⟨{ p with key := kk, rest := r }, ?_, ?_⟩⟩
      · show cont5 p = cont6 _
        unfold cont5; rw [hr]
      · have := hall kk r hr (by rw [hkey]; exact h.none5 (by omega))
        subst this
        have ha2 := hasc.key hr
        exact ⟨⟨_, hz, hn, hlb, rfl, ht, words_sole hw hS hbB, nodes_sole hns hS hbB, fun _ => ⟨rfl, htx, hnv⟩⟩, fun _ => ⟨ha2.1, by show r.length ≤ _; omega⟩, fun hx => by omega, fun hx => by omega, fun _ => h.none6 (by omega), h.far.trans (hS.far hsz), hbB, Nat.le_trans hsz hS.size⟩
  · refine (content_any b B y w hL len1 asc1 hsz hbB).mono ?_
    rintro e w' ⟨rfl, ⟨z, hz, hall⟩, hS⟩
    rw [hrest] at hall ⊢
    cases hr : contentL p.rest with
    | none =>
      refine ⟨_, rfl, fun _ => ⟨?_, h.far.trans (hS.far hsz)⟩, fun hf => by simp at hf⟩
      show cont6 p = none
      unfold cont6; rw [hr]
    | some q =>
      obtain ⟨t, l⟩ := q
      refine ⟨_, rfl, fun hf => by simp at hf, fun _ => ⟨{ p with text := t, nodes := l }, ?_, ?_⟩⟩
      · show cont6 p = cont7 _
        unfold cont6; rw [hr]
      · obtain ⟨q, o, c, rfl, ho⟩ := hall t l hr htx hnv
        exact ⟨⟨_, hz, hn, hlb, hkey, rfl, words_sole hw hS hbB, ho, fun hx => by omega⟩, fun hx => by omega, fun hx => by omega, fun hx => by omega, fun hx => by omega, h.far.trans (hS.far hsz), hbB, Nat.le_trans hsz hS.size⟩
end Go.Proofs.YtnnbdlmilbcpjaaGreatDoor
