/-
  Layer 9 (schema): labels that stand twice among a content's types; a Key that none of them has: the walks of these closures. Conditions: what comes in is bounded.
-/
import Derived.Test.YtnnbdlmilbcpjaaGreatDoorSAsk4
namespace Go.Proofs.YtnnbdlmilbcpjaaGreatDoor
open Go.RowKit
set_option linter.unusedVariables false
theorem placeF_lt : ∀ (ts : List SType) (i : Nat) (n : Bytes) (r : Option Nat) (k : Nat), (∀ j, r = some j → j < i + ts.length) → placeF i ts n r = some k → k < i + ts.length := by
  intro ts
  induction ts with
  | nil => intro i n r k hr h; exact hr k h
  | cons t ts ih =>
    intro i n r k hr h
    have := ih (i + 1) n (if t.name = n then some i else r) k (fun j hj => by
      split at hj
      · injection hj with hj; omega
      · have := hr j hj; simp at this; omega) h
    simp; omega
theorem placeS_lt {ts : List SType} {n : Bytes} {k : Nat} (h : placeS ts n = some k) : k < ts.length := by
  have := placeF_lt ts 0 n none k (fun j hj => by cases hj) h
  omega
theorem kidsS_lt {ts : List SType} {t : SType} (hne : 1 ≤ ts.length) {k : Nat} (h : k ∈ kidsS ts t) : k < ts.length := by
  unfold kidsS at h
  obtain ⟨n, _, rfl⟩ := List.mem_map.1 h
  cases hp : placeS ts n with
  | none => simp; omega
  | some j => have := placeS_lt hp; simpa using this
theorem labelAt_eq {ts : List SType} {k : Nat} {t : SType} (h : ts[k]? = some t) : labelAt ts k = t.label := by unfold labelAt; rw [h]
theorem attrsAt_eq {ts : List SType} {k : Nat} {t : SType} (h : ts[k]? = some t) : attrsAt ts k = t.attrs := by unfold attrsAt; rw [h]
/-- a map whose keys are these words -/
structure Keys (D : DataW Unit) (ls : List Bytes) : Prop where
  tidy : Maps.Tidy D
  has : ∀ n : Bytes, Maps.has D (.string n) = ls.contains n
  size : Maps.size D = dcount ls
theorem Keys.nil : Keys (.map []) [] := ⟨Maps.tidy_empty, fun n => rfl, rfl⟩
theorem Keys.snoc {D : DataW Unit} {ls : List Bytes} (h : Keys D ls) (a : Bytes) (d : DataW Unit) : Keys (D.put (.string a) d) (ls ++ [a]) := by
  refine ⟨h.tidy.put (by trivial) _, fun n => ?_, ?_⟩
  · by_cases e : a = n
    · subst e
      rw [Maps.has_put_same h.tidy.isMap (by trivial)]
      simp
    · rw [Maps.has_put_other (by simpa using fun e2 : n = a => e e2.symm), h.has n]
      rw [Bool.eq_iff_iff]
      simp
      exact fun e2 => absurd e2.symm e
  · rw [Maps.size_put h.tidy, h.has a, dcount_snoc, h.size]
theorem typeVal_box (x : TyV) (w : World) : Below w.heap.size w (w.alloc (.cells (typeRow x).toArray 47)) := (Below.refl _ w).alloc (Nat.le_refl _) _
theorem ints_kept {w w' : World} {B : Nat} {v : Value} {l : List Nat} {row : Option Nat} (h : IntsOwn w B v l) (hg : w.grownBy w' row) (hne : v.ownBlock = none ∨ v.ownBlock ≠ row) : IntsOwn w' B v l := World.ownsRow.kept h hg hne
set_option maxHeartbeats 4000000 in
set_option maxRecDepth 100000 in
theorem ask10_any {w : World} {S P T M : Nat} {o : Option Addr} {cap : Nat} {l : List TyV} (h : Env w S P T M o cap l) (hL : Lim l) (x : TyV) (hx : x ∈ l) :
    Calls Tryz.prog 57 #[typeVal x, .pointer (some ⟨S, 0, none⟩), .pointer (some ⟨P, 0, none⟩)] w fun e w' => e = .returned (.bool (twiceB ((kidsS (l.map TyV.t) x.t).map (labelAt (l.map TyV.t))))) ∧ Below w.heap.size w w' := by
  have hne : 1 ≤ l.length := by cases l with | nil => simp at hx | cons a t => simp
  have hll := hL.len
  have hcm := h.types.1.2.2.1
  unfold maxLen at hcm
  have hlt : ∀ k ∈ kidsS (l.map TyV.t) x.t, k < l.length := fun k hk => by
    have := kidsS_lt (by rw [List.length_map]; exact hne) hk
    rwa [List.length_map] at this
  have hkl : (kidsS (l.map TyV.t) x.t).length ≤ 1024 := by unfold kidsS; rw [List.length_map]; exact symsS_len _
  have hki := fun w' (hb : Below w.heap.size w w') => kids_any (l.map TyV.t) x (.agg #[.slice o l.length cap]) M w' ⟨_, _, _, rfl⟩ ((h.types.2 x hx).2.below hb) (h.places.below hb) (by have := hb.size; have := h.mlt; omega) (by have := symsS_len x.t.nodes; omega) (hL.sym x hx)
  obtain ⟨ks, hks⟩ : ∃ ks, ks = kidsS (l.map TyV.t) x.t := ⟨_, rfl⟩
  rw [← hks] at hlt hkl hki ⊢
  have hb0 := typeVal_box x w
  have hSx := lt_of_block h.s
  have hPx := lt_of_block h.p
  have hmm := @run_makeMap Tryz.prog
  have hb1 : Below w.heap.size w ((w.alloc (.cells (typeRow x).toArray 47)).alloc (.map #[] 0)) := hb0.alloc (by simp) _
  have hm0 : ((w.alloc (.cells (typeRow x).toArray 47)).alloc (.map #[] 0)).ownsMap Tryz.prog 9 (plainElem (H := Unit) Tryz.prog 3) (w.heap.size + 1) 0 (.map []) := by
    have := World.ownsMap_made (H := Unit) (w.alloc (.cells (typeRow x).toArray 47)) Tryz.prog 9 (plainElem Tryz.prog 3)
    rwa [World.size_alloc] at this
  have hE1 := h.below hb1
  have cs := cell_of_row _ S 0 _ _ _ hE1.s
  have cp := cell_of_row _ P 0 _ _ _ hE1.p
  have hxb : ((w.alloc (.cells (typeRow x).toArray 47)).alloc (.map #[] 0)).heap[w.heap.size]? = some (.cells (typeRow x).toArray 47 (0, 0)) :=
    (((Below.refl (w.heap.size + 1) _).alloc (by simp) (.map #[] 0)).block w.heap.size (by omega)).trans (heap_alloc_new w _)
  have hk2 := hki _ hb1
  have hz1 : ((w.alloc (.cells (typeRow x).toArray 47)).alloc (.map #[] 0)).heap.size = w.heap.size + 2 := by simp
  have hlabs : ∀ k t, l[k]? = some t → labelAt (l.map TyV.t) k = t.t.label := fun k t hk => labelAt_eq (by rw [List.getElem?_map, hk]; rfl)
  have hnl : ∀ t ∈ l, t.t.label.length ≤ 1048576 := hL.label
  obtain ⟨⟨name, label, attrs, key, text, nodes⟩, ao, ac, no, nc⟩ := x
  unfold typeVal typeRow at *
  simp only at *
  have Hki := Lib.hid hki
  have Hlabs := Lib.hid hlabs
  have Hnl := Lib.hid hnl
  have Hlt := Lib.hid hlt
  have Hks := Lib.hid hks
  clear hki hlabs hnl hlt hks hxb hz1
  obtain ⟨lbs, hlbs⟩ : ∃ lbs, lbs = ks.map (labelAt (l.map TyV.t)) := ⟨_, rfl⟩
  rw [← hlbs]
  have htw := dcount_twice lbs
  have hlbl : lbs.length = ks.length := by rw [hlbs, List.length_map]
  rw [← htw, hlbl]
  have Hlbs := Lib.hid hlbs
  clear htw hlbl hlbs
  go_enter Tryz.func57, Tryz.ntmps57
  go_wp2_with fail
  refine hk2.mono ?_
  rintro e w3 ⟨⟨v, rfl, hown⟩, hb3⟩
  have hbe := hb1.trans (hb3.mono hb1.size)
  obtain ⟨vo, vc, rfl, hin⟩ := intsIn_of_own hown
  have hm3 := World.ownsMap.kept (row := none) hm0 ⟨hb3.os, hb3.tape, hb3.output, hb3.size, fun k hk _ => hb3.block k hk⟩ (by simp)
  rw [show (((w.alloc (.cells #[.string ⟨name.toArray⟩, .string ⟨label.toArray⟩, .slice ao attrs.length ac, .string ⟨key.toArray⟩, .bool text, .slice no nodes.length nc] 47)).alloc (.map #[] 0)).heap.size) = w.heap.size + 2 from by simp] at hown
  clear hk2 hb3 hm0 hE1 cs cp hb0 hb1 hin
  go_wp2_with fail
  go_loopw [16] (fun i wr => ∃ k n D, i = .int .i64 (k : Nat) ∧ k ≤ ks.length ∧ n ≤ k ∧ Hid (Keys D (lbs.take k)) ∧ wr.ownsMap Tryz.prog 9 (plainElem (H := Unit) Tryz.prog 3) (w.heap.size + 1) n D ∧ IntsOwn wr (w.heap.size + 2) (.slice vo ks.length vc) ks ∧ Below w.heap.size w wr) (fun i _ => ks.length - (intOf i).toNat)
  case atStart => exact ⟨0, 0, _, rfl, Nat.zero_le _, Nat.le_refl _, Keys.nil, hm3, hown, hbe⟩
  case round =>
    obtain ⟨k, n, D, rfl, hk, hn, HK, hmap, hints, hbr⟩ := hrel
    have hE := h.below hbr
    have cs := cell_of_row _ S 0 _ _ _ hE.s
    by_cases hlt : k < ks.length
    · have hdk : decide ((k : Int) < (ks.length : Int)) = true := by rw [decide_eq_true_eq]; omega
      have hki : (k : Int) < (ks.length : Int) := by omega
      obtain ⟨j, hj⟩ : ∃ n, ks[k]? = some n := ⟨_, List.getElem?_eq_getElem hlt⟩
      have hjl := Hlt.out j (List.mem_of_getElem? hj)
      have b1 : (0 : Int) ≤ (j : Int) := by omega
      have b2 : (j : Int) < (l.length : Int) := by omega
      obtain ⟨x, hx⟩ : ∃ n, l[j]? = some n := ⟨_, List.getElem?_eq_getElem hjl⟩
      obtain ⟨vo', vc', e, hin⟩ := intsIn_of_own hints
      injection e with e1 e2 e3
      subst e1; subst e3
      obtain ⟨g, off, rfl, hgl, y0⟩ := hin.at hj
      obtain ⟨b, off2, rfl, hbl, x0, x1, x2, x3, x4, x5⟩ := hE.types.at hx
      have hkey := str_key x.t.label (Hnl.out x (List.mem_of_getElem? hx))
      have hlk : lbs.take (k + 1) = lbs.take k ++ [x.t.label] := by
        rw [List.take_add_one, Hlbs.out, List.getElem?_map, hj]
        simp [Hlabs.out j x hx]
      have Hlk := Lib.hid hlk
      have hz := zero_int
      clear hlk hx hj x0 x2 x3 x4 x5 hin
      go_wp2_with (first
        | (at_mapUpdate; go_must (refine wpList_mapUpdate_own _ rfl _ _ _ 61 rfl 9 3 (Maps.string_keyed Tryz.underlying9) Tryz.underlying61 _ (w.heap.size + 1) _ D rfl hmap (by unfold maxLen; omega) _ _ _ rfl rfl hkey _ [] (plainElem_int Tryz.underlying3 (wf_nat (by omega))) ?_); intro w8 hown8 hg8)
        | fail)
      go_roundw
      case rel => exact ⟨k + 1, n + 1, _, by go_num, by omega, by omega, by show Keys _ _; rw [Hlk.out]; exact HK.out.snoc _ _, hown8, ints_kept hints hg8 (.inr (by have := World.ownsRow.lt hints g rfl; intro e2; injection e2 with e2; simp only at e2; omega)), hbr.grown hg8 hbr.size (fun j e => by cases e; omega)⟩
      case measure => simp [intOf]; omega
    · have hdk : decide ((k : Int) < (ks.length : Int)) = false := by rw [decide_eq_false_iff_not]; omega
      have hll2 : lbs.length = ks.length := by rw [Hlbs.out, List.length_map]
      have hsz := HK.out.size
      rw [List.take_of_length_le (by omega)] at hsz
      have Hsz := Lib.hid hsz
      clear hsz hll2
      go_wp2_with (first
        | (at_len; refine wpList_len_own _ rfl _ 61 rfl 9 3 Tryz.underlying61 _ (w.heap.size + 1) _ D rfl hmap ?_)
        | fail)
      go_ret
      exact ⟨ret_bool (by first | rw [← Hsz.out] | (rw [← Hsz.out, Bool.eq_iff_iff]; simp)), hbr⟩
theorem bytes_inj {a b : Bytes} (h : (⟨a.toArray⟩ : ByteArray) = ⟨b.toArray⟩) : a = b := by
  have h1 : a.toArray = b.toArray := by injection h
  have := congrArg Array.toList h1
  simpa using this
theorem words_contains (l : List Bytes) (o : Option Addr) (cap : Nat) (w : World) (h : WordsIn w o cap l) (hl : l.length ≤ 1048576) (k : Bytes) :
    Calls Tryz.prog 60 #[.slice o l.length cap, .string ⟨k.toArray⟩] w fun e w' => e = .returned (.bool (l.contains k)) ∧ w' = w := by
  by_cases hz : l.length = 0
  · obtain rfl := List.eq_nil_of_length_eq_zero hz
    exact (Tryz.slices_Contains_string_empty o cap ⟨k.toArray⟩ w).mono fun e w' ⟨h1, h2⟩ => ⟨by rw [h1]; rfl, h2⟩
  · obtain ⟨b, off, rfl, hlt, hc⟩ := h.2.2.2 (by omega)
    refine (Tryz.slices_Contains_string b off l.length cap (l.map fun b => ⟨b.toArray⟩) ⟨k.toArray⟩ w (by rw [List.length_map]; exact Nat.le_refl _) (by omega) (fun j hj => ?_)).mono fun e w' ⟨h1, h2⟩ => ⟨?_, h2⟩
    · rw [List.length_map] at hj
      refine hc j _ ?_
      rw [List.getElem?_map, List.getElem?_eq_getElem hj]
      simp [hj, encStr]
    · rw [h1]
      refine ret_bool ?_
      rw [List.take_of_length_le (by rw [List.length_map]; exact Nat.le_refl _), Bool.eq_iff_iff, Lib.containsS_iff]
      constructor
      · intro hm
        obtain ⟨a, ha, e⟩ := List.mem_map.1 hm
        rw [bytes_inj e] at ha
        simpa using ha
      · intro hm
        exact List.mem_map.2 ⟨k, by simpa using hm, rfl⟩
set_option maxHeartbeats 1000000 in
set_option maxRecDepth 100000 in
theorem ask11in_any {w : World} {S X : Nat} {o : Option Addr} {cap : Nat} {l : List TyV} (hs : w.heap[S]? = some (.cells #[.slice o l.length cap] 24 (0, 0))) (ht : TypesAt w o cap l) (hL : Lim l) (x : TyV)
    (hX : w.heap[X]? = some (.cells (typeRow x).toArray 47 (0, 0))) (j : Nat) (hj : j < l.length) :
    Calls Tryz.prog 59 #[.int .i64 (j : Nat), .pointer (some ⟨S, 0, none⟩), .pointer (some ⟨X, 0, none⟩)] w fun e w' => e = .returned (.bool ((attrsAt (l.map TyV.t) j).contains x.t.key)) ∧ Below w.heap.size w w' := by
  obtain ⟨y, hy⟩ : ∃ n, l[j]? = some n := ⟨_, List.getElem?_eq_getElem hj⟩
  have hmem := List.mem_of_getElem? hy
  have hat : attrsAt (l.map TyV.t) j = y.t.attrs := attrsAt_eq (by rw [List.getElem?_map, hy]; rfl)
  rw [hat]
  have hll := hL.len
  have hcm := ht.1.2.2.1
  unfold maxLen at hcm
  obtain ⟨b, off, rfl, hbl, x0, x1, x2, x3, x4, x5⟩ := ht.at hy
  have hwc := fun n => words_contains y.t.attrs y.ao y.ac (w.drewN n) ((ht.2 y hmem).1.below (below_drewN (Below.refl _ w) n)) (hL.attrs y hmem) x.t.key
  have cs := cell_of_row w S 0 _ _ _ hs
  obtain ⟨⟨name, label, attrs, key, text, nodes⟩, ao, ac, no, nc⟩ := x
  unfold typeRow at hX
  simp only at hX hwc ⊢
  have c3 := cell_of_row w X 3 _ _ _ hX
  have b1 : (0 : Int) ≤ (j : Int) := by omega
  have b2 : (j : Int) < (l.length : Int) := by omega
  clear hX hs ht hat hy x0 x1 x3 x4 x5
  go_enter Tryz.func59, Tryz.ntmps59
  go_wp2_with fail
  go_quiet ((go_at_call 60; exact Calls.quiet_of_same (hwc _)))
  go_wp2_with fail
  go_ret
  exact ⟨rfl, below_drewN (Below.refl _ w) _⟩
end Go.Proofs.YtnnbdlmilbcpjaaGreatDoor
