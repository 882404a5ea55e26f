/-
  Layer 9 (schema): asks: its walk: the row of the ten closures. Conditions: what comes in is bounded.
-/
import Derived.Test.YtnnbdlmilbcpjaaGreatDoorSAsk6
import Derived.Laws.EntriesVeiled
namespace Go.Proofs.YtnnbdlmilbcpjaaGreatDoor
open Go.RowKit
set_option linter.unusedVariables false
def allocs (w : World) (os : List Obj) : World := os.foldl World.alloc w
theorem allocs_heap (os : List Obj) : ∀ w : World, (allocs w os).heap = w.heap ++ os.toArray := by
  induction os with
  | nil => intro w; simp [allocs]
  | cons o t ih =>
    intro w
    show (allocs (w.alloc o) t).heap = _
    rw [ih]
    show w.heap.push o ++ t.toArray = _
    simp
theorem allocs_at (w : World) (os : List Obj) (i : Nat) (h : i < os.length) : (allocs w os).heap[w.heap.size + i]? = os[i]? := by
  rw [allocs_heap, Array.getElem?_append_right (by omega)]
  simp
theorem allocs_below (w : World) (os : List Obj) : Below w.heap.size w (allocs w os) := by
  induction os generalizing w with
  | nil => exact Below.refl _ _
  | cons o t ih =>
    show Below w.heap.size w (allocs (w.alloc o) t)
    exact ((Below.refl _ w).alloc (Nat.le_refl _) o).trans ((ih (w.alloc o)).mono (by simp))
theorem allocs_size (w : World) (os : List Obj) : (allocs w os).heap.size = w.heap.size + os.length := by
  rw [allocs_heap]; simp
/-- what each closure answers -/
def askE (l : List SType) : Nat → Int
  | 0 => if 64 < l.length then 17 else 0
  | 1 => if l.length = 0 then 18 else 0
  | 2 => if l.any unnamedS = true then 11 else 0
  | 3 => if twiceB (l.map SType.name) = true then 15 else 0
  | 4 => if l.any (fun t => fallsS t.attrs) = true then 14 else 0
  | 5 => if l.any formB = true then 12 else 0
  | 6 => contentE l
  | 7 => if l.any (fun t => (symsS t.nodes).any fun n => (placeS l n).isNone) = true then 16 else 0
  | 8 => if l.any (fun t => twiceB ((kidsS l t).map (labelAt l))) = true then 24 else 0
  | _ => if l.any (fun t => !t.key.isEmpty && !(kidsS l t).any fun k => (attrsAt l k).contains t.key) = true then 23 else 0
/-- the closures, and what they know: by their numbers, the blocks that they lean on -/
def askF : Nat → Nat
  | 0 => 47
  | 1 => 48
  | 3 => 50
  | 6 => 53
  | _ => 45
def ptr0 (b : Nat) : Value := .pointer (some ⟨b, 0, none⟩)
def askC (S Q : Nat) : Nat → Array Value
  | 0 => #[ptr0 (Q + 1), ptr0 S]
  | 1 => #[ptr0 (Q + 1), ptr0 S]
  | 2 => #[ptr0 (Q + 1), ptr0 (Q + 2), ptr0 S, ptr0 (Q + 3)]
  | 3 => #[ptr0 (Q + 1), ptr0 Q, ptr0 S]
  | 4 => #[ptr0 (Q + 1), ptr0 (Q + 4), ptr0 S, ptr0 (Q + 5)]
  | 5 => #[ptr0 (Q + 1), ptr0 (Q + 6), ptr0 S, ptr0 (Q + 7)]
  | 6 => #[ptr0 S]
  | 7 => #[ptr0 (Q + 1), ptr0 (Q + 8), ptr0 S, ptr0 (Q + 9)]
  | 8 => #[ptr0 (Q + 1), ptr0 (Q + 10), ptr0 S, ptr0 (Q + 11)]
  | _ => #[ptr0 (Q + 1), ptr0 (Q + 12), ptr0 S, ptr0 (Q + 13)]
/-- what asks leaves -/
structure AsksLeft (l : List SType) (w : World) (e : Ending) (w' : World) : Prop where
  fns : ∃ G S Q, e = .returned (.slice (some ⟨G, 0, none⟩) 10 10) ∧ G < w'.heap.size ∧ ∀ k, k < 10 → w'.cell? ⟨G, k, none⟩ = some (.func (.func (askF k)) #[] (askC S Q k)) ∧
    ∀ w1, Below w'.heap.size w' w1 → Calls Tryz.prog (askF k) (askC S Q k) w1 fun e w2 => e = .returned (.int .i64 (askE l k)) ∧ Below w1.heap.size w1 w2
  below : Below w.heap.size w w'
def askObjs (S M Q : Nat) : List Obj :=
  [.cells #[.map (some M)] 61, .cells #[.func (.func 43) #[] #[]] 92,
   .cells #[.int .i64 11] 29, .cells #[.func (.func 49) #[] #[]] 93,
   .cells #[.int .i64 14] 29, .cells #[.func (.func 51) #[] #[]] 93,
   .cells #[.int .i64 12] 29, .cells #[.func (.func 52) #[] #[]] 93,
   .cells #[.int .i64 16] 29, .cells #[.func (.func 54) #[] #[ptr0 Q]] 93,
   .cells #[.int .i64 24] 29, .cells #[.func (.func 57) #[] #[ptr0 S, ptr0 Q]] 93,
   .cells #[.int .i64 23] 29, .cells #[.func (.func 58) #[] #[ptr0 S, ptr0 Q]] 93,
   .cells ((List.range 10).map fun k => Value.func (.func (askF k)) #[] (askC S Q k)).toArray 68]
set_option maxRecDepth 100000 in
theorem enter_ask (k : Nat) (h : k = 49 ∨ k = 51 ∨ k = 52 ∨ k = 54 ∨ k = 57 ∨ k = 58) : ∀ args wz, (callFunc k args).run Tryz.prog wz = .ok (.enter k args) wz := by
  rcases h with rfl | rfl | rfl | rfl | rfl | rfl <;> exact fun _ _ => rfl
theorem any_map {l : List TyV} (p : SType → Bool) : (l.map TyV.t).any p = l.any fun x => p x.t := by rw [List.any_map]; rfl
set_option maxRecDepth 100000 in
theorem asks_left {l : List TyV} {o : Option Addr} {cap : Nat} {w w2 : World} (h : TypesAt w o cap l) (hL : Lim l) (hP : PlacesAt w2 (w.heap.size + 2) (l.map TyV.t)) (hM : w.heap.size + 2 < w2.heap.size)
    (hb2 : Below (w.alloc (.cells #[.slice o l.length cap] 24)).heap.size (w.alloc (.cells #[.slice o l.length cap] 24)) w2) :
    AsksLeft (l.map TyV.t) w (.returned (.slice (some ⟨w2.heap.size + 14, 0, none⟩) 10 10)) (allocs w2 (askObjs w.heap.size (w.heap.size + 2) w2.heap.size)) := by
  have hb0 : Below w.heap.size w (w.alloc (.cells #[.slice o l.length cap] 24)) := (Below.refl _ w).alloc (Nat.le_refl _) _
  have hbw := bel_next hb0 hb2
  obtain ⟨Q, hQ⟩ : ∃ Q, Q = w2.heap.size := ⟨_, rfl⟩
  obtain ⟨S, hS⟩ : ∃ S, S = w.heap.size := ⟨_, rfl⟩
  rw [← hQ]
  have hs2 : w2.heap[S]? = some (.cells #[.slice o l.length cap] 24 (0, 0)) := by
    rw [hS]; exact (hb2.block w.heap.size (by simp)).trans (heap_alloc_new w _)
  have hSQ : S < Q := by rw [hQ]; exact lt_of_block hs2
  rw [← hS]
  rw [← hS] at hP hM
  obtain ⟨W, hW⟩ : ∃ W, W = allocs w2 (askObjs S (S + 2) Q) := ⟨_, rfl⟩
  have hbW : Below w2.heap.size w2 W := by rw [hW]; exact allocs_below _ _
  have hz : W.heap.size = Q + 15 := by rw [hW, allocs_size, ← hQ]; rfl
  have hat : ∀ i, i < 15 → W.heap[Q + i]? = (askObjs S (S + 2) Q)[i]? := fun i hi => by
    rw [hW, hQ]; exact allocs_at _ _ _ (by rw [← hQ]; exact hi)
  rw [← hW]
  have hEnv : Env W S Q (Q + 1) (S + 2) o cap l :=
    ⟨(hbW.block S (by omega)).trans hs2, hat 0 (by omega), hat 1 (by omega), (h.below hbw).below hbW, hP.below hbW, by rw [hz]; omega⟩
  have hE := fun w1 (hb : Below W.heap.size W w1) => hEnv.below hb
  have hbk := fun w1 (hb : Below W.heap.size W w1) i (hi : i < 15) o (ho : (askObjs S (S + 2) Q)[i]? = some o) => (hb.block (Q + i) (by rw [hz]; omega)).trans ((hat i hi).trans ho)
  refine ⟨⟨Q + 14, S, Q, rfl, by rw [hz]; omega, fun k hk => ⟨?_, fun w1 hb => ?_⟩⟩, bel_next hbw hbW⟩
  · rw [cell_of_row W (Q + 14) k _ _ _ (hat 14 (by omega))]
    simp [hk]
  · have h15 := hbk w1 hb
    have hEw := hE w1 hb
    have hone := fun (q : TyV → Bool) E Wb F caps en => one_any (w := w1) (S := S) (P := Q) (T := Q + 1) (M := S + 2) (E := E) (W := Wb) (F := F) (caps := caps) (o := o) (cap := cap) (l := l) (q := q) en hEw hL
    obtain rfl | rfl | rfl | rfl | rfl | rfl | rfl | rfl | rfl | rfl : k = 0 ∨ k = 1 ∨ k = 2 ∨ k = 3 ∨ k = 4 ∨ k = 5 ∨ k = 6 ∨ k = 7 ∨ k = 8 ∨ k = 9 := by omega
    · refine (ask3_any hEw hL.len).mono ?_
      rintro e w' ⟨rfl, rfl⟩
      exact ⟨by show _ = Ending.returned (.int .i64 (if 64 < (l.map TyV.t).length then 17 else 0)); rw [List.length_map], Below.refl _ _⟩
    · refine (ask4_any hEw hL.len).mono ?_
      rintro e w' ⟨rfl, rfl⟩
      exact ⟨by show _ = Ending.returned (.int .i64 (if (l.map TyV.t).length = 0 then 18 else 0)); rw [List.length_map], Below.refl _ _⟩
    · refine (hone (fun x => unnamedS x.t) (Q + 2) (Q + 3) 49 #[] 11 (h15 2 (by omega) _ rfl) (h15 3 (by omega) _ rfl) (enter_ask _ (by simp)) (fun x hx w2 hb2 => unnamed_any x w2 (((hEw.types).below hb2).2 x hx).1 (hL.name x hx) (hL.label x hx) (hL.key x hx) (hL.attrs x hx) (hL.attr x hx))).mono ?_
      rintro e w' ⟨rfl, hb⟩
      exact ⟨by rw [← any_map]; rfl, hb⟩
    · refine (ask5_any hEw hL.len).mono ?_
      rintro e w' ⟨rfl, rfl⟩
      exact ⟨rfl, Below.refl _ _⟩
    · refine (hone (fun x => fallsS x.t.attrs) (Q + 4) (Q + 5) 51 #[] 14 (h15 4 (by omega) _ rfl) (h15 5 (by omega) _ rfl) (enter_ask _ (by simp)) (fun x hx w2 hb2 => ask6_any x w2 (((hEw.types).below hb2).2 x hx).1 (hL.attrs x hx))).mono ?_
      rintro e w' ⟨rfl, hb⟩
      exact ⟨by rw [← any_map (fun t => fallsS t.attrs)]; rfl, hb⟩
    · refine (hone (fun x => formB x.t) (Q + 6) (Q + 7) 52 #[] 12 (h15 6 (by omega) _ rfl) (h15 7 (by omega) _ rfl) (enter_ask _ (by simp)) (fun x hx w2 hb2 => ask7_any x w2)).mono ?_
      rintro e w' ⟨rfl, hb⟩
      exact ⟨by rw [← any_map]; rfl, hb⟩
    · exact ask8_any hEw hL
    · refine (hone (fun x => (symsS x.t.nodes).any fun n => (placeS (l.map TyV.t) n).isNone) (Q + 8) (Q + 9) 54 #[ptr0 Q] 16 (h15 8 (by omega) _ rfl) (h15 9 (by omega) _ rfl) (enter_ask _ (by simp)) (fun x hx w2 hb2 => ask9_any (hEw.below hb2).p (hEw.below hb2).places x (((hEw.types).below hb2).2 x hx).2 (hL.sym x hx))).mono ?_
      rintro e w' ⟨rfl, hb⟩
      exact ⟨by rw [← any_map (fun t => (symsS t.nodes).any fun n => (placeS (l.map TyV.t) n).isNone)]; rfl, hb⟩
    · refine (hone (fun x => twiceB ((kidsS (l.map TyV.t) x.t).map (labelAt (l.map TyV.t)))) (Q + 10) (Q + 11) 57 #[ptr0 S, ptr0 Q] 24 (h15 10 (by omega) _ rfl) (h15 11 (by omega) _ rfl) (enter_ask _ (by simp)) (fun x hx w2 hb2 => ask10_any (hEw.below hb2) hL x hx)).mono ?_
      rintro e w' ⟨rfl, hb⟩
      exact ⟨by rw [← any_map (fun t => twiceB ((kidsS (l.map TyV.t) t).map (labelAt (l.map TyV.t))))]; rfl, hb⟩
    · refine (hone (fun x => !x.t.key.isEmpty && !(kidsS (l.map TyV.t) x.t).any fun k => (attrsAt (l.map TyV.t) k).contains x.t.key) (Q + 12) (Q + 13) 58 #[ptr0 S, ptr0 Q] 23 (h15 12 (by omega) _ rfl) (h15 13 (by omega) _ rfl) (enter_ask _ (by simp)) (fun x hx w2 hb2 => ask11_any (hEw.below hb2) hL x hx)).mono ?_
      rintro e w' ⟨rfl, hb⟩
      exact ⟨by rw [← any_map (fun t => !t.key.isEmpty && !(kidsS (l.map TyV.t) t).any fun k => (attrsAt (l.map TyV.t) k).contains t.key)]; rfl, hb⟩
set_option maxHeartbeats 8000000 in
set_option maxRecDepth 100000 in
theorem asks_any (l : List TyV) (o : Option Addr) (cap : Nat) (w : World) (h : TypesAt w o cap l) (hL : Lim l) :
    Calls Tryz.prog 28 #[.agg #[.slice o l.length cap]] w (AsksLeft (l.map TyV.t) w) := by
  have hpl := fun w' (hb : Below w.heap.size w w') => places_any l o cap w' (h.below hb) hL.len hL.name
  have hb0 : Below w.heap.size w (w.alloc (.cells #[.slice o l.length cap] 24)) := (Below.refl _ w).alloc (Nat.le_refl _) _
  have hp2 := hpl _ hb0
  have e2 : (w.alloc (.cells #[.slice o l.length cap] 24)).heap.size + 1 = w.heap.size + 2 := by simp
  rw [e2] at hp2
  clear hpl e2 hb0
  go_enter Tryz.func28, Tryz.ntmps28
  go_wp2_with fail
  refine hp2.mono ?_
  rintro e w2 ⟨rfl, hP, hb2⟩
  have hM : w.heap.size + 2 < w2.heap.size := by
    obtain ⟨D, n, _, _, hm⟩ := hP
    exact hm.lt
  have X := Lib.hid (And.intro hP (And.intro hM hb2))
  clear hp2 hP hM hb2
  go_wp2_with go_in
  go_ret
  exact asks_left h hL X.out.1 X.out.2.1 X.out.2.2
end Go.Proofs.YtnnbdlmilbcpjaaGreatDoor
