/-
  The document's answer, layer 3: what holds in memory while an Open is read.
  The document's answer, layer 3: an Open: its walk, for every text of at most 65536 bytes.
-/
import Derived.Test.YtkehbepopegboaaGreatDoorRHas
import Derived.Test.YtkehbepopegboaaGreatDoorBegin
import Derived.Deep.DeepMust
namespace Go.Proofs.YtkehbepopegboaaGreatDoor
open Go.RowKit
set_option linter.unusedVariables false
def rtokO (k : Int) (n t : ByteArray) (av : Value) (m : Bool) : Obj := .cells #[.int .i64 k, .string n, .string t, av, .bool m] 38
/-- a variable of the answer's type Token -/
def RTok (w : World) (r : Nat) (k : Int) (n t : ByteArray) (av : Value) (m : Bool) : Prop := w.heap[r]? = some (.cells #[.int .i64 k, .string n, .string t, av, .bool m] 38 (0, 0))
theorem RTok.lt {w : World} {T : Nat} {k : Int} {n t : ByteArray} {av : Value} {m : Bool} (h : RTok w T k n t av m) : T < w.heap.size := lt_of_block h
theorem RTok.cell {w : World} {r : Nat} {k : Int} {n t : ByteArray} {av : Value} {m : Bool} (h : RTok w r k n t av m) : w.cell? ⟨r, 0, none⟩ = some (.int .i64 k) ∧ w.cell? ⟨r, 1, none⟩ = some (.string n) ∧ w.cell? ⟨r, 2, none⟩ = some (.string t) ∧ w.cell? ⟨r, 3, none⟩ = some av ∧ w.cell? ⟨r, 4, none⟩ = some (.bool m) ∧ (∀ o, w.frozen? ⟨r, o, none⟩ = false) := by
  unfold RTok at h
  refine ⟨cell_of_row w r 0 _ _ _ h, cell_of_row w r 1 _ _ _ h, cell_of_row w r 2 _ _ _ h, cell_of_row w r 3 _ _ _ h, cell_of_row w r 4 _ _ _ h, ?_⟩
  intro o; simp [World.frozen?, h]
theorem RTok.below {w w' : World} {B T : Nat} {k : Int} {n t : ByteArray} {av : Value} {m : Bool} (h : RTok w T k n t av m) (hT : T < B) (hb : Below B w w') : RTok w' T k n t av m := (hb.block T hT).trans h
theorem RTok.set3 {w : World} {r : Nat} {k : Int} {n t : ByteArray} {av : Value} {m : Bool} (h : RTok w r k n t av m) (v : Value) : RTok (w.setCell ⟨r, 3, none⟩ v) r k n t v m := by
  have hlt := h.lt
  have h' : w.heap[r] = .cells #[.int .i64 k, .string n, .string t, av, .bool m] 38 (0, 0) := by unfold RTok at h; simpa [Array.getElem?_eq_getElem hlt] using h
  show (w.heap.modify r _)[r]? = _
  rw [Array.getElem?_eq_getElem (by simpa using hlt), Array.getElem_modify_self, h']
  rfl
/-- what a reading function of the answer owes -/
def RPiece (res : Option (Tok × Nat)) (p : Nat) (w : World) (e : Ending) (w' : World) : Prop :=
  match res with
  | none => (∃ (k : Int) (x y : ByteArray) (m : Bool), e = .returned (.tuple #[.agg #[.int .i64 k, .string x, .string y, .slice none 0 0, .bool m], .int .i64 (-1)])) ∧ Below w.heap.size w w'
  | some (t, k) => (∃ av, e = .returned (.tuple #[tokV t av, .int .i64 ((p + k : Nat) : Int)]) ∧ AttrsAt w' w.heap.size av t.attrs) ∧ Below w.heap.size w w'
theorem RPiece.no {res : Option (Tok × Nat)} {p : Nat} {w w' : World} {e : Ending} (h : res = none) (k : Int) (x y : ByteArray) (m : Bool) (he : e = .returned (.tuple #[.agg #[.int .i64 k, .string x, .string y, .slice none 0 0, .bool m], .int .i64 (-1)])) (hs : Below w.heap.size w w') : RPiece res p w e w' := by
  subst h; exact ⟨⟨k, x, y, m, he⟩, hs⟩
theorem RPiece.yes {res : Option (Tok × Nat)} {p : Nat} {w w' : World} {e : Ending} {t : Tok} {k : Nat} {av : Value} (h : res = some (t, k)) (he : e = .returned (.tuple #[tokV t av, .int .i64 ((p + k : Nat) : Int)])) (ha : AttrsAt w' w.heap.size av t.attrs) (hs : Below w.heap.size w w') : RPiece res p w e w' := by
  subst h; exact ⟨⟨_, he, ha⟩, hs⟩
theorem below_set5 {w w' : World} {r : Nat} (h : Below w.heap.size w w') (hr : w.heap.size ≤ r) (v0 v1 v2 v3 v4 : Value) :
    Below w.heap.size w (((((w'.setCell ⟨r, 0, none⟩ v0).setCell ⟨r, 1, none⟩ v1).setCell ⟨r, 2, none⟩ v2).setCell ⟨r, 3, none⟩ v3).setCell ⟨r, 4, none⟩ v4) :=
  ((((h.setCell hr v0).setCell hr v1).setCell hr v2).setCell hr v3).setCell hr v4
theorem AttrsAt.bel {w w' : World} {B : Nat} {v : Value} {l : List (Bytes × Bytes)} (h : AttrsAt w B v l) (hb : Below w.heap.size w w') : AttrsAt w' B v l := by
  refine ⟨h.1, ?_⟩
  rcases h.2 with hn | ⟨g, cap, cur, hv, hB, hg, rest⟩
  · exact .inl hn
  · exact .inr ⟨g, cap, cur, hv, hB, (hb.block g (lt_of_block hg)).trans hg, rest⟩
/-- what holds while attributes are read -/
structure Ost (T : Nat) (nm : ByteArray) (acc : List (Bytes × Bytes)) (av : Value) (w0 w : World) : Prop where
  fresh : RTok w w0.heap.size 0 ⟨#[]⟩ ⟨#[]⟩ (.slice none 0 0) false
  tok : RTok w T 2 nm ⟨#[]⟩ av false
  row : AttrsAt w (T + 1) av acc
  below : Below w0.heap.size w0 w
  RT : w0.heap.size < T
section
variable {T : Nat} {nm : ByteArray} {acc : List (Bytes × Bytes)} {av : Value} {w0 w w' : World}
theorem Ost.next (h : Ost T nm acc av w0 w) (hb : Below w.heap.size w w') : Ost T nm acc av w0 w' :=
  ⟨h.fresh.below h.fresh.lt hb, h.tok.below h.tok.lt hb, h.row.bel hb, h.below.trans (hb.mono h.below.size), h.RT⟩
theorem Ost.alloc (h : Ost T nm acc av w0 w) (o : Obj) : Ost T nm acc av w0 (w.alloc o) := h.next ((Below.refl _ w).alloc (Nat.le_refl _) o)
theorem Ost.tokGrown (h : Ost T nm acc av w0 w) (hg : w.grownBy w' av.ownBlock) : RTok w' T 2 nm ⟨#[]⟩ av false :=
  (hg.block T h.tok.lt (fun e => by have := h.row.lt _ e.symm; omega)).trans h.tok
theorem Ost.app (h : Ost T nm acc av w0 w) {x y : Bytes} {v' : Value} (hg : w.grownBy w' av.ownBlock) (hr : w'.ownsRow (T + 1) 43 2 v' (acc.length + 1) (attrCells acc ++ [.string ⟨x.toArray⟩, .string ⟨y.toArray⟩])) :
    Ost T nm (acc ++ [(x, y)]) v' w0 (w'.setCell ⟨T, 3, none⟩ v') := by
  have hRT := h.RT
  have hav := h.row.lt
  have hT : RTok w' T 2 nm ⟨#[]⟩ av false := h.tokGrown hg
  have hg2 : w'.grownBy (w'.setCell ⟨T, 3, none⟩ v') (some T) := ⟨rfl, rfl, rfl, by simp [World.setCell], fun k hk hb => Below.heap_setCell _ _ _ _ (fun e => hb (by rw [e]))⟩
  have hb2 : ∀ k, k < w'.heap.size → k ≠ T → (w'.setCell ⟨T, 3, none⟩ v').heap[k]? = w'.heap[k]? := fun k hk hb => hg2.block k hk (fun e => hb (by cases e; rfl))
  have hr' : w'.ownsRow (T + 1) 43 2 v' (acc ++ [(x, y)]).length (attrCells (acc ++ [(x, y)])) := by
    have e1 : attrCells (acc ++ [(x, y)]) = attrCells acc ++ [.string ⟨x.toArray⟩, .string ⟨y.toArray⟩] := by simp [attrCells]
    rw [e1, List.length_append]; exact hr
  have hsz := hg.size
  have hfl := h.fresh.lt
  refine ⟨(hb2 _ (by omega) (by omega)).trans ((hg.block _ hfl (fun e => by have := hav _ e.symm; omega)).trans h.fresh), hT.set3 v', hr'.kept hg2 ?_, (h.below.grown hg h.below.size (fun k e => by have := hav k e; omega)).setCell (by show w0.heap.size ≤ T; omega) _, h.RT⟩
  cases e : v'.ownBlock with
  | none => exact .inl rfl
  | some g => exact .inr (by have := hr'.lt g e; intro e2; cases e2; omega)
end
theorem attrR_room {l n v : Bytes} {k : Nat} (h : attrR l = some ((n, v), k)) : 1 ≤ k ∧ k ≤ l.length := by
  unfold attrR at h
  simp only at h
  split at h
  · cases h
  split at h
  · cases h
  rename_i h2
  have h2 : Lib.hasPrefix (l.drop (partN l + blanksN (l.drop (partN l)))) [61] = true := by simpa using h2
  have hr := hasPrefix_drop_room h2 (by simp)
  simp only [List.length_cons, List.length_nil] at hr
  generalize partN l + blanksN (l.drop (partN l)) = a at h hr
  have hb := blanksN_le (l.drop (a + 1))
  rw [List.length_drop] at hb
  generalize blanksN (l.drop (a + 1)) = g at h hb
  cases hv : valueR (l.drop (a + 1 + g)) with
  | none => rw [hv] at h; cases h
  | some z =>
    obtain ⟨v', j⟩ := z
    rw [hv] at h
    simp only [Option.some.injEq, Prod.mk.injEq] at h
    have : 1 ≤ j ∧ j ≤ (l.drop (a + 1 + g)).length := by
      cases hl : l.drop (a + 1 + g) with
      | nil => rw [hl] at hv; cases hv
      | cons m t =>
        rw [hl] at hv
        unfold valueR at hv
        simp only at hv
        by_cases hm : m = 34 ∨ m = 39
        · rw [if_pos hm] at hv
          by_cases hi : Lib.index t [m] < 0
          · rw [if_pos hi] at hv; cases hv
          · rw [if_neg hi] at hv
            have hroom := Lib.index_room t [m] (by omega)
            simp only [List.length_cons, List.length_nil] at hroom
            split at hv
            · injection hv with hv
              injection hv with _ hj
              simp only [List.length_cons]
              omega
            · cases hv
        · rw [if_neg hm] at hv; cases hv
    rw [List.length_drop] at this
    omega
set_option maxHeartbeats 8000000 in
set_option maxRecDepth 100000 in
theorem rOpen_any (s : ByteArray) (p : Nat) (w : World) (hs : s.size ≤ 65536) (hp : p + 1 ≤ s.size) :
    Calls Tryz.prog 33 #[.string s, .int .i64 p] w (RPiece (beginR (s.data.toList.drop p)) p w) := by
  have hlen : s.data.toList.length = s.size := (Lib.size_eq s).symm
  have Hlen := Lib.hid hlen
  clear hlen
  have hA := (rfl : beginR (s.data.toList.drop p) = beginR (s.data.toList.drop p))
  conv at hA => rhs; unfold beginR; simp only [List.drop_drop]
  generalize beginR (s.data.toList.drop p) = res at hA
  have hfu : (s.data.toList.drop p).length + 1 = s.size - p + 1 := by rw [List.length_drop, Hlen.out]
  rw [hfu] at hA
  have hN0 : RTok (w.alloc (rtokO 0 ⟨#[]⟩ ⟨#[]⟩ (.slice none 0 0) false)) w.heap.size 0 ⟨#[]⟩ ⟨#[]⟩ (.slice none 0 0) false := heap_alloc_new w _
  have hB0 : Below w.heap.size w (w.alloc (rtokO 0 ⟨#[]⟩ ⟨#[]⟩ (.slice none 0 0) false)) := (Below.refl _ w).alloc (Nat.le_refl _) _
  have hz0 : (w.alloc (rtokO 0 ⟨#[]⟩ ⟨#[]⟩ (.slice none 0 0) false)).heap.size = w.heap.size + 1 := World.size_alloc w _
  unfold rtokO at hN0 hB0 hz0
  have hnm : ∀ w, Calls Tryz.prog 31 #[.string s, .int .i64 ((p : Int) + 1)] w fun e w' => e = .returned (.int .i64 (if isName ((s.data.toList.drop (p + 1)).take (partN (s.data.toList.drop (p + 1)))) = true then ((p + 1 + partN (s.data.toList.drop (p + 1)) : Nat) : Int) else -1)) ∧ w = w' := fun w => rName_any s (p + 1) w (by omega) hp
  have hpn := partN_le (s.data.toList.drop (p + 1))
  rw [List.length_drop, Hlen.out] at hpn
  have hcut : ∀ (n : Nat), p + 1 + n ≤ s.size → ∀ wx, (Instr.slice 9 (.string s) (some (.int .i64 ((p : Int) + 1))) (some (.int .i64 ((p + 1 + n : Nat) : Int))) none).run Tryz.prog wx = .ok (.string (s.extract (p + 1) (p + 1 + n))) wx := fun n hn wx => slice_mid s (p + 1) (p + 1 + n) (by omega) hn wx
  generalize partN (s.data.toList.drop (p + 1)) = n at hA hnm hpn
  have hcut := hcut n (by omega)
  have hex : s.extract (p + 1) (p + 1 + n) = ⟨((s.data.toList.drop (p + 1)).take n).toArray⟩ := by rw [Lib.extract_eq, Nat.add_sub_cancel_left]
  rw [hex] at hcut
  clear hex hfu
  generalize (s.data.toList.drop (p + 1)).take n = tw at hA hnm hcut
  cases hin : isName tw with
  | false =>
    rw [if_pos hin] at hA
    rw [hin] at hnm
    have HA := Lib.hid hA
    obtain ⟨c0, c1, c2, c3, c4, ff⟩ := hN0.cell
    clear ff hA hin hcut
    go_enter Tryz.func33, Tryz.ntmps33
    go_wp2_with fail
    refine (hnm _).mono ?_
    rintro e w' ⟨rfl, rfl⟩
    clear hnm
    go_wp2_with fail
    exact bodyPost_ret (v := .tuple #[.agg #[.int .i64 0, .string ⟨#[]⟩, .string ⟨#[]⟩, .slice none 0 0, .bool false], .int .i64 (-1)]) (by simp [results, Tryz.results33, go_sem, c0, c1, c2, c3, c4]) rfl (RPiece.no HA.out _ _ _ _ rfl hB0)
  | true =>
    rw [if_neg (by rw [hin]; simp)] at hA
    rw [hin] at hnm
    simp only [if_true] at hnm
    obtain ⟨E, hE⟩ : ∃ E, E = p + 1 + n := ⟨_, rfl⟩
    have hL0 : Hid (Link res tw p E (attrsR (s.size - p + 1) [] (s.data.toList.drop E))) := by
      rw [show p + (1 + n) = E from by omega] at hA
      show Link res tw p E (attrsR (s.size - p + 1) [] (s.data.toList.drop E))
      refine ⟨fun h => by rw [hA, h], fun r e k h => ?_⟩
      rw [hA, h]
      show some _ = some _
      rw [show 1 + n + k = E - p + k from by omega]
    rw [← hE] at hnm hcut
    have hEs : E ≤ s.size := by omega
    have hE1 := Nat.le_of_eq hE
    have hE2 := Nat.le_of_eq hE.symm
    have hE0 : decide ((E : Int) < 0) = false := by rw [decide_eq_false_iff_not]; omega
    clear hE hA hin
    go_enter Tryz.func33, Tryz.ntmps33
    go_wp2_with fail
    refine (hnm _).mono ?_
    rintro e w' ⟨rfl, rfl⟩
    clear hnm
    go_wp2_with fail
    have hO0 : Ost (w.heap.size + 1) ⟨tw.toArray⟩ [] (.slice none 0 0) w ((w.alloc (.cells #[.int .i64 0, .string ⟨#[]⟩, .string ⟨#[]⟩, .slice none 0 0, .bool false] 38)).alloc (.cells #[.int .i64 2, .string ⟨tw.toArray⟩, .string ⟨#[]⟩, .slice none 0 0, .bool false] 38)) := by
      have hb1 : Below (w.heap.size + 1) (w.alloc (.cells #[.int .i64 0, .string ⟨#[]⟩, .string ⟨#[]⟩, .slice none 0 0, .bool false] 38)) ((w.alloc (.cells #[.int .i64 0, .string ⟨#[]⟩, .string ⟨#[]⟩, .slice none 0 0, .bool false] 38)).alloc (.cells #[.int .i64 2, .string ⟨tw.toArray⟩, .string ⟨#[]⟩, .slice none 0 0, .bool false] 38)) := (Below.refl _ _).alloc (by omega) _
      refine ⟨hN0.below (by omega) hb1, ?_, AttrsAt.none _ _, hB0.trans (hb1.mono (by omega)), by omega⟩
      have := heap_alloc_new (w.alloc (.cells #[.int .i64 0, .string ⟨#[]⟩, .string ⟨#[]⟩, .slice none 0 0, .bool false] 38)) (.cells #[.int .i64 2, .string ⟨tw.toArray⟩, .string ⟨#[]⟩, .slice none 0 0, .bool false] 38)
      rw [hz0] at this
      exact this
    clear hN0 hB0 hz0 hcut
    go_loopg [6] (s.size - E) (fun k v wr => ∃ (q : Nat) (acc : List (Bytes × Bytes)) (av : Value) (f : Nat), v = .int .i64 q ∧ E ≤ q ∧ q ≤ s.size ∧ k = s.size - q ∧ k < f ∧ acc.length ≤ q ∧ Ost (w.heap.size + 1) ⟨tw.toArray⟩ acc av w wr ∧ Hid (Link res tw p q (attrsR f acc (s.data.toList.drop q))))
    case atStart => exact ⟨E, [], .slice none 0 0, s.size - p + 1, rfl, Nat.le_refl _, hEs, rfl, by omega, by simp, hO0, hL0⟩
    case round =>
      obtain ⟨q, acc, av, f, rfl, hEq, hqs, rfl, hf, hac, hO, hL⟩ := hrel
      clear hO0 hL0
      obtain ⟨ao, ak, rfl⟩ := hO.row.shape
      obtain ⟨f', rfl⟩ : ∃ f', f = f' + 1 := ⟨f - 1, by omega⟩
      have hAl := (rfl : attrsR (f' + 1) acc (s.data.toList.drop q) = attrsR (f' + 1) acc (s.data.toList.drop q))
      conv at hAl => rhs; unfold attrsR; simp only [List.drop_drop]
      have hL2 := hL.out
      generalize attrsR (f' + 1) acc (s.data.toList.drop q) = res2 at hAl hL2
      have hbl := fun w => rBlanks_any s q w (by omega) hqs
      have hgl := blanksN_le (s.data.toList.drop q)
      rw [List.length_drop, Hlen.out] at hgl
      generalize blanksN (s.data.toList.drop q) = g at hAl hbl hgl
      clear hL
      obtain ⟨Q, hQ⟩ : ∃ Q, Q = q + g := ⟨_, rfl⟩
      rw [← hQ] at hAl hbl
      have hQs : Q ≤ s.size := by omega
      have hQ1 := Nat.le_of_eq hQ
      have hQ2 := Nat.le_of_eq hQ.symm
      have HQ := Lib.hid hQ
      have HL := Lib.hid hL2
      have HA := Lib.hid hAl
      have hb1 := fun w => rBegins_any s ⟨#[62]⟩ Q w (by omega) hQs (by show 1 ≤ 1048576; omega)
      have hb2 := fun w => rBegins_any s ⟨#[47, 62]⟩ Q w (by omega) hQs (by show 2 ≤ 1048576; omega)
      rw [show (⟨#[62]⟩ : ByteArray).data.toList = [62] from rfl] at hb1
      rw [show (⟨#[47, 62]⟩ : ByteArray).data.toList = [47, 62] from rfl] at hb2
      clear hL2 hAl hQ
      obtain ⟨t0, t1, t2, t3, t4, tf⟩ := hO.tok.cell
      cases h1 : Lib.hasPrefix (s.data.toList.drop Q) [62] with
      | true =>
        have hA := HA.out
        rw [if_pos h1] at hA
        have HA2 := Lib.hid (HL.out.2 _ _ _ hA)
        rw [h1] at hb1
        obtain ⟨c0, c1, c2, c3, c4, ff⟩ := hO.fresh.cell
        have f0 := ff 0
        have f1 := ff 1
        have f2 := ff 2
        have f3 := ff 3
        have f4 := ff 4
        clear ff tf hA h1 HA HL
        go_wp2_with fail
        refine (hbl _).mono ?_
        rintro e w' ⟨rfl, rfl⟩
        clear hbl
        go_wp2_with fail
        refine (hb1 _).mono ?_
        rintro e w' ⟨rfl, rfl⟩
        clear hb1
        go_wp2_with fail
        refine bodyPost_ret (v := .tuple #[.agg #[.int .i64 2, .string ⟨tw.toArray⟩, .string ⟨#[]⟩, .slice ao acc.length ak, .bool false], .int .i64 ((Q : Int) + 1)]) (by simp [results, Tryz.results33, go_sem, c0, c1, c2, c3, c4]) rfl (RPiece.yes (av := .slice ao acc.length ak) HA2.out ?_ ((hO.row.set5 (show w.heap.size < w.heap.size + 1 + 1 by omega) _ _ _ _ _).mono (by omega)) (below_set5 hO.below (Nat.le_refl _) _ _ _ _ _))
        unfold tokV
        rw [show ((p + (q - p + (g + 1)) : Nat) : Int) = (Q : Int) + 1 from by omega]
        rfl
      | false =>
        have hA := HA.out
        rw [if_neg (by rw [h1]; simp)] at hA
        rw [h1] at hb1
        clear HA h1
        cases h2 : Lib.hasPrefix (s.data.toList.drop Q) [47, 62] with
        | true =>
          rw [if_pos h2] at hA
          have HA2 := Lib.hid (HL.out.2 _ _ _ hA)
          rw [h2] at hb2
          obtain ⟨c0, c1, c2, c3, c4, ff⟩ := hO.fresh.cell
          have f0 := ff 0
          have f1 := ff 1
          have f2 := ff 2
          have f3 := ff 3
          have f4 := ff 4
          have tf4 := tf 4
          have hne : w.heap.size ≠ w.heap.size + 1 := by omega
          have hne2 : w.heap.size + 1 ≠ w.heap.size := by omega
          clear ff tf hA h2 HL
          go_wp2_with fail
          refine (hbl _).mono ?_
          rintro e w' ⟨rfl, rfl⟩
          clear hbl
          go_wp2_with fail
          refine (hb1 _).mono ?_
          rintro e w' ⟨rfl, rfl⟩
          clear hb1
          go_wp2_with fail
          refine (hb2 _).mono ?_
          rintro e w' ⟨rfl, rfl⟩
          clear hb2
          go_wp2_with fail
          refine bodyPost_ret (v := .tuple #[.agg #[.int .i64 2, .string ⟨tw.toArray⟩, .string ⟨#[]⟩, .slice ao acc.length ak, .bool true], .int .i64 ((Q : Int) + 2)]) (by simp [results, Tryz.results33, go_sem, c0, c1, c2, c3, c4]) rfl (RPiece.yes (av := .slice ao acc.length ak) HA2.out ?_ (((hO.row.setCell (show w.heap.size + 1 < w.heap.size + 1 + 1 by omega) _).set5 (show w.heap.size < w.heap.size + 1 + 1 by omega) _ _ _ _ _).mono (by omega)) (below_set5 (hO.below.setCell (by show w.heap.size ≤ w.heap.size + 1; omega) _) (Nat.le_refl _) _ _ _ _ _))
          unfold tokV
          rw [show ((p + (q - p + (g + 2)) : Nat) : Int) = (Q : Int) + 2 from by omega]
          rfl
        | false =>
          rw [if_neg (by rw [h2]; simp)] at hA
          rw [h2] at hb2
          clear h2
          by_cases hg0 : g = 0
          · rw [if_pos hg0] at hA
            have HA2 := Lib.hid (HL.out.1 hA)
            have hqe : ((Q : Int) == (q : Int)) = true := by rw [beq_iff_eq]; omega
            obtain ⟨c0, c1, c2, c3, c4, ff⟩ := hO.fresh.cell
            have f0 := ff 0
            have f1 := ff 1
            have f2 := ff 2
            have f3 := ff 3
            have f4 := ff 4
            clear ff tf hA HL hg0
            go_wp2_with fail
            refine (hbl _).mono ?_
            rintro e w' ⟨rfl, rfl⟩
            clear hbl
            go_wp2_with fail
            refine (hb1 _).mono ?_
            rintro e w' ⟨rfl, rfl⟩
            clear hb1
            go_wp2_with fail
            refine (hb2 _).mono ?_
            rintro e w' ⟨rfl, rfl⟩
            clear hb2
            go_wp2_with fail
            exact bodyPost_ret (v := .tuple #[.agg #[.int .i64 0, .string ⟨#[]⟩, .string ⟨#[]⟩, .slice none 0 0, .bool false], .int .i64 (-1)]) (by simp [results, Tryz.results33, go_sem, c0, c1, c2, c3, c4]) rfl (RPiece.no HA2.out _ _ _ _ rfl (below_set5 hO.below (Nat.le_refl _) _ _ _ _ _))
          · rw [if_neg hg0] at hA
            have hqe : ((Q : Int) == (q : Int)) = false := by rw [beq_eq_false_iff_ne]; omega
            have hat := fun w => rAttr_any s Q w hs hQs
            have HA := Lib.hid hA
            clear hA hg0
            go_wp2_with fail
            refine (hbl _).mono ?_
            rintro e w' ⟨rfl, rfl⟩
            clear hbl
            go_wp2_with fail
            refine (hb1 _).mono ?_
            rintro e w' ⟨rfl, rfl⟩
            clear hb1
            go_wp2_with fail
            refine (hb2 _).mono ?_
            rintro e w' ⟨rfl, rfl⟩
            clear hb2
            go_wp2_with fail
            refine (hat _).mono ?_
            clear hat t0 t1 t2 t3 t4 tf
            intro e w7 hpost
            unfold RAttr at hpost
            have hA := HA.out
            clear HA
            cases hx : attrR (s.data.toList.drop Q) with
            | none =>
              rw [hx] at hA hpost
              obtain ⟨⟨x, y, rfl⟩, hb7⟩ := hpost
              have HA2 := Lib.hid (HL.out.1 hA)
              have hO7 := (hO.next hb7).alloc (.cells #[.string x, .string y] 43)
              clear hA HL hx
              obtain ⟨c0, c1, c2, c3, c4, ff⟩ := hO7.fresh.cell
              have f0 := ff 0
              have f1 := ff 1
              have f2 := ff 2
              have f3 := ff 3
              have f4 := ff 4
              clear ff
              go_wp2_with fail
              first
                | exact bodyPost_ret (v := .tuple #[.agg #[.int .i64 0, .string ⟨#[]⟩, .string ⟨#[]⟩, .slice none 0 0, .bool false], .int .i64 (-1)]) (by simp [results, Tryz.results33, go_sem, c0, c1, c2, c3, c4]) rfl (RPiece.no HA2.out _ _ _ _ rfl (below_set5 hO7.below (Nat.le_refl _) _ _ _ _ _))
                | skip
            | some z =>
              obtain ⟨⟨an, ax⟩, k⟩ := z
              rw [hx] at hA hpost
              obtain ⟨rfl, hb7⟩ := hpost
              have hrm := attrR_room hx
              rw [List.length_drop, Hlen.out] at hrm
              have hO7 := (hO.next hb7).alloc (.cells #[.string ⟨an.toArray⟩, .string ⟨ax.toArray⟩] 43)
              have hx7 := heap_alloc_new w7 (.cells #[.string ⟨an.toArray⟩, .string ⟨ax.toArray⟩] 43)
              have x0 := cell_of_row _ w7.heap.size 0 _ _ _ hx7
              have x1 := cell_of_row _ w7.heap.size 1 _ _ _ hx7
              clear hx
              simp only at hA
              have hhas := rHas_any acc an (w.heap.size + 1 + 1) ak ao _ (by omega) hO7.row
              have hkd : decide (((Q + k : Nat) : Int) < 0) = false := by rw [decide_eq_false_iff_not]; omega
              have hkd2 : decide ((Q : Int) + (k : Int) < 0) = false := by rw [decide_eq_false_iff_not]; omega
              obtain ⟨t0, t1, t2, t3, t4, tf⟩ := hO7.tok.cell
              have tf3 := tf 3
              cases hany : acc.any (fun y => y.1 == an) with
              | true =>
                rw [hany] at hhas hA
                rw [if_pos rfl] at hA
                have HA2 := Lib.hid (HL.out.1 hA)
                clear hA HL hany tf
                obtain ⟨c0, c1, c2, c3, c4, ff⟩ := hO7.fresh.cell
                have f0 := ff 0
                have f1 := ff 1
                have f2 := ff 2
                have f3 := ff 3
                have f4 := ff 4
                clear ff
                go_wp2_with fail
                refine hhas.mono ?_
                rintro e w' ⟨rfl, rfl⟩
                clear hhas
                go_wp2_with fail
                exact bodyPost_ret (v := .tuple #[.agg #[.int .i64 0, .string ⟨#[]⟩, .string ⟨#[]⟩, .slice none 0 0, .bool false], .int .i64 (-1)]) (by simp [results, Tryz.results33, go_sem, c0, c1, c2, c3, c4]) rfl (RPiece.no HA2.out _ _ _ _ rfl (below_set5 hO7.below (Nat.le_refl _) _ _ _ _ _))
              | false =>
                rw [hany] at hhas hA
                rw [if_neg (by simp)] at hA
                have hL3 : Hid (Link res tw p (q + (g + k)) (attrsR f' (acc ++ [(an, ax)]) (s.data.toList.drop (q + (g + k))))) := by
                  refine Lib.hid (HL.out.next (by omega) ?_)
                  rw [hA]
                  cases attrsR f' (acc ++ [(an, ax)]) (s.data.toList.drop (q + (g + k))) with
                  | none => rfl
                  | some z => rfl
                clear hA HL hany tf
                obtain ⟨i0, hi, hz0, hz1, hz2⟩ := info_parts info_attr
                go_wp2_with fail
                refine hhas.mono ?_
                rintro e w' ⟨rfl, rfl⟩
                clear hhas
                go_wp2_with (first
                  | (at_builtin; go_must (refine wpList_append_own _ rfl _ _ 36 rfl (w.heap.size + 1 + 1) 43 i0 (.agg #[.string ⟨#[]⟩, .string ⟨#[]⟩]) 2 32 Tryz.underlying36 hi hz0 hz1 hz2 rfl (by decide) _ _ _ rfl (hO7.row.alloc _) ⟨w7.heap.size + 1, 0, none⟩ 1 1 [.string ⟨an.toArray⟩, .string ⟨ax.toArray⟩] rfl rfl (cells_new _ [.string ⟨an.toArray⟩, .string ⟨ax.toArray⟩] _ _ (by simp)) (fun x hx => by simp at hx; rcases hx with rfl | rfl <;> rfl) (by unfold maxLen; omega) (by omega) (by have := hO7.tok.lt; have e1 : ((w7.alloc (Obj.cells #[Value.string ⟨an.toArray⟩, Value.string ⟨ax.toArray⟩] 43)).alloc (Obj.cells #[Value.string ⟨an.toArray⟩, Value.string ⟨ax.toArray⟩] 43)).heap.size = (w7.alloc (Obj.cells #[Value.string ⟨an.toArray⟩, Value.string ⟨ax.toArray⟩] 43)).heap.size + 1 := World.size_alloc _ _; omega) ?_); intro v' w9 hown9 hg9 hnil9; obtain ⟨vo, vk, rfl⟩ := ownsRow_shape hown9; have hO9 := (hO7.alloc _).app hg9 hown9; have hT9 := (hO7.alloc _).tokGrown hg9; have t9 := hT9.cell.2.2.2.1; have tf9 := hT9.cell.2.2.2.2.2 3))
                go_roundg (s.size - (q + (g + k)))
                case rel =>
                  refine ⟨q + (g + k), acc ++ [(an, ax)], .slice vo (acc.length + 1) vk, f', by rw [show (Q : Int) + (k : Int) = ((q + (g + k) : Nat) : Int) from by omega], by omega, by omega, rfl, by omega, by simp; omega, ?_, hL3⟩
                  exact hO9
                case measure => omega
end Go.Proofs.YtkehbepopegboaaGreatDoor
