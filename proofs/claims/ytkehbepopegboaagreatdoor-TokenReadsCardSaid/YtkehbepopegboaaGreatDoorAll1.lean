/-
  Layer 3: what holds while a document is read: plain facts on memory, and what a byte slice holds.
-/
import Derived.Test.YtkehbepopegboaaGreatDoorMarks
namespace Go.Proofs.YtkehbepopegboaaGreatDoor
open Go.RowKit
set_option linter.unusedVariables false
/-- a slice value holds these bytes (an empty one none, wherever it leads) -/
def BytesV (w : World) (o : Option Addr) (cap : Nat) (l : Bytes) : Prop :=
  (l = [] ∧ cap ≤ maxLen ∧ (o = none → cap = 0)) ∨ ∃ b off, o = some ⟨b, off, none⟩ ∧ l.length ≤ cap ∧ cap ≤ maxLen ∧ BytesAt w b off l ∧ b < w.heap.size
theorem BytesV.below {w w' : World} {o : Option Addr} {cap : Nat} {l : Bytes} (h : BytesV w o cap l) (hb : Below w.heap.size w w') : BytesV w' o cap l := by
  rcases h with h | ⟨b, off, h1, h2, h3, h4, h5⟩
  · exact .inl h
  · exact .inr ⟨b, off, h1, h2, h3, h4.below h5 hb, by have := hb.size; omega⟩
set_option maxRecDepth 100000 in
theorem check_nil (o : Option Addr) (cap : Nat) (w : World) : Calls Tryz.prog 11 #[.slice o 0 cap] w fun e w' => e = .returned (.tuple #[.int .i64 0, .int .i64 0]) ∧ Below w.heap.size w w' := by
  go_enter Tryz.func11, Tryz.ntmps11
  go_wp2_with fail
  go_step3
  go_wp2_with fail
  go_step3
  go_wp2_with fail
  go_loopw [4] (fun i wr => i = .int .i64 0 ∧ Below w.heap.size w wr) (fun i _ => 0)
  case atStart => exact ⟨rfl, Below.refl _ _⟩
  case round =>
    obtain ⟨rfl, hb⟩ := hrel
    go_wp2_with fail
    rw [Exit.noGoto_ret]
    go_ret2
    exact ⟨rfl, hb⟩
theorem chk_of_nil : chk [] = 0 := by
  have := chk_nil
  simpa using this
theorem check_v {w : World} {o : Option Addr} {cap : Nat} {l : Bytes} (h : BytesV w o cap l) (hg : Gl w) : Calls Tryz.prog 11 #[.slice o l.length cap] w fun e w' => e = .returned (.tuple #[.int .i64 (chk l : Nat), .int .i64 (chkE l)]) ∧ Below w.heap.size w w' := by
  rcases h with ⟨rfl, _⟩ | ⟨b, off, rfl, h2, h3, h4, h5⟩
  · refine (check_nil o cap w).mono ?_
    rintro e w' ⟨rfl, hb⟩
    refine ⟨?_, hb⟩
    unfold chkE
    rw [chk_of_nil]
    rfl
  · exact check_any b off cap l w h2 (by unfold maxLen at h3; omega) h4 h5 (by have := hg.size; show _ < _; omega) hg.spans
theorem convert_v {w : World} {o : Option Addr} {cap : Nat} {l : Bytes} (h : BytesV w o cap l) : (convert 22 9 (.slice o l.length cap)).run Tryz.prog w = .ok (.string ⟨l.toArray⟩) w := by
  rcases h with ⟨rfl, _⟩ | ⟨b, off, rfl, h2, h3, h4, h5⟩
  · cases o with
    | none => exact run_convert_bytes_nil w 22 5 Tryz.underlying22 Tryz.underlying5 0 cap 9 Tryz.underlying9
    | some a => exact run_convert_bytes_back w 22 9 5 a cap [] Tryz.underlying22 Tryz.underlying5 Tryz.underlying9 fun j hj => absurd hj (by simp)
  · refine run_convert_bytes_back w 22 9 5 ⟨b, off, none⟩ cap l Tryz.underlying22 Tryz.underlying5 Tryz.underlying9 fun j hj => ?_
    have := h4 j hj
    rw [List.getD_eq_getElem?_getD, List.getElem?_eq_getElem hj] at this
    have e1 : (⟨b, off, none⟩ : Addr).add j = ⟨b, off + j, none⟩ := by
      by_cases h0 : j = 0
      · subst h0; simp [Addr.add]
      · simp [Addr.add, h0]
    rw [e1]
    exact this
theorem replace2_any (l : Bytes) (w : World) (hl : l.length ≤ 1048576) (hg : Gl w) :
    Calls Tryz.prog 12 #[.string ⟨l.toArray⟩, .string ⟨#[13, 10]⟩, .string ⟨#[10]⟩] w fun e w' => e = .returned (.string ⟨(Lib.replaceAll l [13, 10] [10]).toArray⟩) ∧ Below w.heap.size w w' := by
  obtain ⟨m, hm⟩ := hg.maxlen
  have hs : (⟨l.toArray⟩ : ByteArray).size = l.length := by rw [Lib.size_eq]
  have hc := Lib.countB_le (⟨#[13, 10]⟩ : ByteArray) (by show 1 ≤ 2; omega) (⟨l.toArray⟩ : ByteArray).size ⟨l.toArray⟩ (Nat.le_refl _)
  refine (Tryz.strings_ReplaceAll ⟨l.toArray⟩ ⟨#[13, 10]⟩ ⟨#[10]⟩ m w (by rw [hs]; omega) hm (by show 1 ≤ 2; omega) ?_).mono ?_
  · rw [show (⟨#[10]⟩ : ByteArray).size = 1 from rfl]; omega
  · rintro e w' ⟨rfl, hb⟩
    exact ⟨by simp, hb⟩
theorem lines_len (n : Nat) : ∀ l : Bytes, l.length ≤ n → (lines l).length ≤ l.length := by
  induction n with
  | zero => intro l hl; cases l with | nil => simp [lines] | cons c t => simp at hl
  | succ n ih =>
    intro l hl
    cases l with
    | nil => simp [lines]
    | cons c t =>
      have h1 := ih t (by simp at hl; omega)
      unfold lines
      split
      · cases t with
        | nil => simp
        | cons d r =>
          simp only
          split
          · simp; simp at h1; omega
          · simp; simp at h1; omega
      · simp; omega
/-- what holds while pieces are read: the scanner in block B, the pieces' marks in block M -/
structure AllSt (B M : Nat) (doc : ByteArray) (p : Nat) (acc : List Tok) (v : Value) (w0 w : World) : Prop where
  place : PlaceAt w B doc p
  marks : MarksAt w M
  toks : ToksAt w (M + 1) v acc
  gl : Gl w
  below : Below w0.heap.size w0 w
  wB : w0.heap.size ≤ B
  BM : B < M
  b9 : 9 ≤ B
section
variable {B M p : Nat} {doc : ByteArray} {acc : List Tok} {v : Value} {w0 w w' : World}
theorem AllSt.mw (h : AllSt B M doc p acc v w0 w) : M < w.heap.size := lt_of_block h.marks
theorem AllSt.sole (h : AllSt B M doc p acc v w0 w) (hs : Sole B w w') {p' : Nat} (hP : PlaceAt w' B doc p') : AllSt B M doc p' acc v w0 w' := by
  have h1 := h.mw
  have h2 := h.BM
  have h3 := h.b9
  have h4 := h.wB
  have h5 := h.below.size
  exact ⟨hP, (hs.block M h1 (by omega)).trans h.marks, h.toks.kept hs.grownBy (fun k e => by cases e; omega), h.gl.sole h3 hs, h.below.trans (hs.below h4 (by omega)), h4, h2, h3⟩
theorem AllSt.alloc (h : AllSt B M doc p acc v w0 w) (o : Obj) : AllSt B M doc p acc v w0 (w.alloc o) :=
  h.sole ((Sole.refl B w).alloc o) ((h.place).below ((Below.refl _ w).alloc (Nat.le_refl _) o))
theorem AllSt.drewN (h : AllSt B M doc p acc v w0 w) (k : Nat) : AllSt B M doc p acc v w0 (w.drewN k) := h.sole (Sole.drewN k) h.place
theorem AllSt.app (h : AllSt B M doc p acc v w0 w) {v' : Value} {acc' : List Tok} (hg : w.grownBy w' v.ownBlock) (hv : ∀ k, v.ownBlock = some k → M < k) (ht : ToksAt w' (M + 1) v' acc') : AllSt B M doc p acc' v' w0 w' := by
  have h1 := h.mw
  have h2 := h.BM
  have h3 := h.b9
  have h4 := h.wB
  have h5 := h.below.size
  refine ⟨(hg.block B h.place.lt (fun e => by have := hv B e.symm; omega)).trans h.place, (hg.block M h1 (fun e => by have := hv M e.symm; omega)).trans h.marks, ht, h.gl.grown hg (fun k e => by have := hv k e; omega), h.below.trans ⟨hg.os, hg.tape, hg.output, hg.size, fun k hk => hg.block k (by omega) (fun e => by have := hv k e.symm; omega)⟩, h4, h2, h3⟩
end
theorem ToksAt.shape {w : World} {B : Nat} {v : Value} {l : List Tok} (h : ToksAt w B v l) : ∃ o c, v = .slice o l.length c := by
  obtain ⟨ps, h1, h2, h3⟩ := h
  exact ownsRow_shape h2
theorem ToksAt.lt {w : World} {B : Nat} {v : Value} {l : List Tok} (h : ToksAt w B v l) : ∀ k, v.ownBlock = some k → B ≤ k ∧ k < w.heap.size := by
  obtain ⟨ps, h1, h2, h3⟩ := h
  exact h2.lt
theorem ToksAt.mono {w : World} {B B' : Nat} {v : Value} {l : List Tok} (h : ToksAt w B v l) (hB : B' ≤ B) : ToksAt w B' v l := by
  obtain ⟨ps, h1, h2, h3⟩ := h
  refine ⟨ps, h1, ⟨h2.1, ?_⟩, fun x hx => (h3 x hx).mono hB⟩
  rcases h2.2 with hn | ⟨g, cap, cur, hv, hb, rest⟩
  · exact .inl hn
  · exact .inr ⟨g, cap, cur, hv, by omega, rest⟩
theorem cells_new (w : World) (xs : List Value) (t n : Nat) (hn : n = w.heap.size) : ∀ j u, xs[j]? = some u → (w.alloc (.cells xs.toArray t)).cell? ((⟨n, 0, none⟩ : Addr).add j) = some u := by
  intro j u hj
  subst hn
  have h := cell_of_row (w.alloc (.cells xs.toArray t)) w.heap.size j _ _ _ (heap_alloc_new w _)
  have e1 : (⟨w.heap.size, 0, none⟩ : Addr).add j = ⟨w.heap.size, j, none⟩ := by
    by_cases h0 : j = 0
    · subst h0; simp [Addr.add]
    · simp [Addr.add, h0]
  rw [e1, h]
  simpa using hj
/-- what All owes -/
def AllR (res : List Tok × Nat × Int) (w : World) (e : Ending) (w' : World) : Prop :=
  ∃ v, e = .returned (.tuple #[v, .int .i64 (res.2.1 : Nat), .int .i64 res.2.2]) ∧ ToksAt w' w.heap.size v res.1 ∧ Below w.heap.size w w'
theorem AllR.of {res : List Tok × Nat × Int} {w w' : World} {e : Ending} {ts : List Tok} {at_ : Nat} {n : Int} {v : Value} (h : res = (ts, at_, n)) (he : e = .returned (.tuple #[v, .int .i64 (at_ : Nat), .int .i64 n])) (ht : ToksAt w' w.heap.size v ts) (hb : Below w.heap.size w w') : AllR res w e w' := by
  subst h; exact ⟨v, he, ht, hb⟩
end Go.Proofs.YtkehbepopegboaaGreatDoor
