/-
  Layer 9 (schema): a Key that no type of the content has; the closures that ask of each type: their walks. Conditions: what comes in is bounded.
-/
import Derived.Test.YtnnbdlmilbcpjaaGreatDoorSAsk5
import Derived.Deep.RegionHeld3
namespace Go.Proofs.YtnnbdlmilbcpjaaGreatDoor
open Go.RowKit
set_option linter.unusedVariables false
set_option maxRecDepth 100000 in
theorem enter_in11 : ∀ args wz, (callFunc 59 args).run Tryz.prog wz = .ok (.enter 59 args) wz := fun _ _ => rfl
set_option maxHeartbeats 2000000 in
set_option maxRecDepth 100000 in
theorem ask11_any {w : World} {S P T M : Nat} {o : Option Addr} {cap : Nat} {l : List TyV} (h : Env w S P T M o cap l) (hL : Lim l) (x : TyV) (hx : x ∈ l) :
    Calls Tryz.prog 58 #[typeVal x, .pointer (some ⟨S, 0, none⟩), .pointer (some ⟨P, 0, none⟩)] w fun e w' => e = .returned (.bool (!x.t.key.isEmpty && !(kidsS (l.map TyV.t) x.t).any fun k => (attrsAt (l.map TyV.t) k).contains x.t.key)) ∧ Below w.heap.size w w' := by
  have hne : 1 ≤ l.length := by cases l with | nil => simp at hx | cons a t => simp
  have hlt : ∀ k ∈ kidsS (l.map TyV.t) x.t, k < l.length := fun k hk => by
    have := kidsS_lt (by rw [List.length_map]; exact hne) hk
    rwa [List.length_map] at this
  have hkl : (kidsS (l.map TyV.t) x.t).length ≤ 1024 := by unfold kidsS; rw [List.length_map]; exact symsS_len _
  have hki := fun w' (hb : Below w.heap.size w w') => kids_any (l.map TyV.t) x (.agg #[.slice o l.length cap]) M w' ⟨_, _, _, rfl⟩ ((h.types.2 x hx).2.below hb) (h.places.below hb) (by have := hb.size; have := h.mlt; omega) (by have := symsS_len x.t.nodes; omega) (hL.sym x hx)
  obtain ⟨ks, hks⟩ : ∃ ks, ks = kidsS (l.map TyV.t) x.t := ⟨_, rfl⟩
  rw [← hks] at hlt hkl hki ⊢
  have hb0 := typeVal_box x w
  have hE0 := h.below hb0
  have hX := heap_alloc_new w (.cells (typeRow x).toArray 47)
  have hin := fun w' (hb : Below (w.alloc (.cells (typeRow x).toArray 47)).heap.size (w.alloc (.cells (typeRow x).toArray 47)) w') j hj =>
    ask11in_any (w := w') (S := S) (X := w.heap.size) (hE0.below hb).s (hE0.below hb).types hL x ((hb.block w.heap.size (by simp)).trans hX) j hj
  obtain ⟨q, hq⟩ : ∃ q : Nat → Bool, ∀ k, q k = (attrsAt (l.map TyV.t) k).contains x.t.key := ⟨_, fun _ => rfl⟩
  rw [show (fun k => (attrsAt (l.map TyV.t) k).contains x.t.key) = q from funext fun k => (hq k).symm]
  have hcf := fun w' (hb : Below (w.alloc (.cells (typeRow x).toArray 47)).heap.size (w.alloc (.cells (typeRow x).toArray 47)) w') ko kc (hI : IntsIn w' ko kc ks) =>
    contains_ints (F := 59) (caps := #[.pointer (some ⟨S, 0, none⟩), .pointer (some ⟨w.heap.size, 0, none⟩)]) (q := q) ks ko kc w' hI (by omega) enter_in11
      (fun k hk w1 hb1 => by rw [hq]; exact hin w1 (hb.trans (hb1.mono hb.size)) k (hlt k hk))
  have hk2 := hki _ hb0
  have cs := cell_of_row _ S 0 _ _ _ hE0.s
  have cp := cell_of_row _ P 0 _ _ _ hE0.p
  have Hcf := Lib.hid hcf
  obtain ⟨⟨name, label, attrs, key, text, nodes⟩, ao, ac, no, nc⟩ := x
  unfold typeVal typeRow at *
  simp only at *
  obtain ⟨r, hr⟩ : ∃ r, r = (!key.isEmpty && !ks.any q) := ⟨_, rfl⟩
  rw [← hr]
  have Hr := Lib.hid hr
  clear hr hcf hin hki hlt hks hX hE0 hx hq
  cases key with
  | nil =>
    have hR : r = false := by rw [Hr.out]; rfl
    have HR := Lib.hid hR
    clear hR hk2
    go_enter Tryz.func58, Tryz.ntmps58
    go_wp2_with fail
    go_ret
    exact ⟨ret_bool HR.out.symm, hb0⟩
  | cons c t =>
    have hR : r = !ks.any q := by rw [Hr.out]; rfl
    have HR := Lib.hid hR
    clear hR
    go_enter Tryz.func58, Tryz.ntmps58
    go_wp2_with fail
    refine hk2.mono ?_
    rintro e w3 ⟨⟨v, rfl, hown⟩, hb3⟩
    have hbe := hb0.trans (hb3.mono hb0.size)
    obtain ⟨vo, vc, rfl, hin⟩ := intsIn_of_own hown
    have hc3 := Hcf.out w3 hb3 vo vc hin
    clear hk2 hin hown hb3 Hcf hb0
    go_wp2_with fail
    refine hc3.mono ?_
    rintro e w4 ⟨rfl, hb4⟩
    clear hc3
    go_wp2_with fail
    go_ret
    exact ⟨ret_bool HR.out.symm, hbe.trans (hb4.mono hbe.size)⟩
theorem bel_next {w0 w1 w2 : World} (h : Below w0.heap.size w0 w1) (k : Below w1.heap.size w1 w2) : Below w0.heap.size w0 w2 := h.trans (k.mono h.size)
set_option maxHeartbeats 2000000 in
set_option maxRecDepth 100000 in
theorem one_any {w : World} {S P T M E W F : Nat} {caps : Array Value} {o : Option Addr} {cap : Nat} {l : List TyV} {q : TyV → Bool} (en : Int) (h : Env w S P T M o cap l) (hL : Lim l)
    (hE : w.heap[E]? = some (.cells #[.int .i64 en] 29 (0, 0))) (hW : w.heap[W]? = some (.cells #[.func (.func F) #[] caps] 93 (0, 0)))
    (he : ∀ args wz, (callFunc F args).run Tryz.prog wz = .ok (.enter F args) wz)
    (hf : ∀ x ∈ l, ∀ w1, Below w.heap.size w w1 → Calls Tryz.prog F (#[typeVal x] ++ caps) w1 fun e w2 => e = .returned (.bool (q x)) ∧ Below w1.heap.size w1 w2) :
    Calls Tryz.prog 45 #[.pointer (some ⟨T, 0, none⟩), .pointer (some ⟨E, 0, none⟩), .pointer (some ⟨S, 0, none⟩), .pointer (some ⟨W, 0, none⟩)] w fun e w' => e = .returned (.int .i64 (if l.any q = true then en else 0)) ∧ Below w.heap.size w w' := by
  have hcf := fun w' (hb : Below w.heap.size w w') => contains_types (F := F) (caps := caps) (q := q) l o cap w' (h.types.below hb) hL.len he (fun x hx w1 hb1 => hf x hx w1 (hb.trans (hb1.mono hb.size)))
  have c0 := cell_of_row _ T 0 _ _ _ h.t
  have c1 := cell_of_row _ E 0 _ _ _ hE
  have c2 := cell_of_row _ S 0 _ _ _ h.s
  have c3 := cell_of_row _ W 0 _ _ _ hW
  have htl := enter_told
  have hx : ∀ w', Below w.heap.size w w' → w'.cell? ⟨T, 0, none⟩ = some (.func (.func 43) #[] #[]) ∧ w'.cell? ⟨E, 0, none⟩ = some (.int .i64 en) ∧ w'.cell? ⟨S, 0, none⟩ = some (.slice o l.length cap) ∧ w'.cell? ⟨W, 0, none⟩ = some (.func (.func F) #[] caps) := fun w' hb =>
    ⟨(hb.cell (p := ⟨T, 0, none⟩) (lt_of_block h.t)).trans c0, (hb.cell (p := ⟨E, 0, none⟩) (lt_of_block hE)).trans c1, (hb.cell (p := ⟨S, 0, none⟩) (lt_of_block h.s)).trans c2, (hb.cell (p := ⟨W, 0, none⟩) (lt_of_block hW)).trans c3⟩
  have hb0 := (Below.refl w.heap.size w).drew
  have hX := hx
  clear hx
  clear h hE hW hf he
  obtain ⟨v, hv⟩ : ∃ v, v = l.any q := ⟨_, rfl⟩
  rw [← hv] at hcf ⊢
  clear hv
  cases v with
  | true =>
    rw [if_pos rfl]
    go_enter Tryz.func45, Tryz.ntmps45
    go_wp2_with fail
    go_region_held3 (fun w' => Below w.heap.size w w' ∧ w'.cell? ⟨T, 0, none⟩ = some (.func (.func 43) #[] #[]) ∧ w'.cell? ⟨E, 0, none⟩ = some (.int .i64 en) ∧ w'.cell? ⟨S, 0, none⟩ = some (.slice o l.length cap) ∧ w'.cell? ⟨W, 0, none⟩ = some (.func (.func F) #[] caps)) (first | exact ⟨by assumption, hX _ (by assumption)⟩)
      (first
        | (go_at_call 46; refine (hcf _ (by assumption)).mono ?_; rintro e w'' ⟨rfl, hbn⟩; have hbw := bel_next (w0 := w) (by assumption) hbn)
        | (go_at_call 43; refine (told_yes _ _).mono ?_; rintro e w'' ⟨rfl, rfl⟩))
    go_wp2_with fail
    go_ret
    exact ⟨rfl, by assumption⟩
  | false =>
    rw [if_neg (by simp)]
    go_enter Tryz.func45, Tryz.ntmps45
    go_wp2_with fail
    go_region_held3 (fun w' => Below w.heap.size w w' ∧ w'.cell? ⟨T, 0, none⟩ = some (.func (.func 43) #[] #[]) ∧ w'.cell? ⟨E, 0, none⟩ = some (.int .i64 en) ∧ w'.cell? ⟨S, 0, none⟩ = some (.slice o l.length cap) ∧ w'.cell? ⟨W, 0, none⟩ = some (.func (.func F) #[] caps)) (first | exact ⟨by assumption, hX _ (by assumption)⟩)
      (first
        | (go_at_call 46; refine (hcf _ (by assumption)).mono ?_; rintro e w'' ⟨rfl, hbn⟩; have hbw := bel_next (w0 := w) (by assumption) hbn)
        | (go_at_call 43; refine (told_no _ _).mono ?_; rintro e w'' ⟨rfl, rfl⟩))
    go_wp2_with fail
    go_ret
    exact ⟨rfl, by assumption⟩
end Go.Proofs.YtnnbdlmilbcpjaaGreatDoor
