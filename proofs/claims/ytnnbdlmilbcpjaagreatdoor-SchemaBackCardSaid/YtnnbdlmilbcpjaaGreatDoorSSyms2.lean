/-
  Layer 7 (regex): the words that stand in a content, rising, each once: the walk of Symbols.
-/
import Derived.Test.YtnnbdlmilbcpjaaGreatDoorSSyms
namespace Go.Proofs.YtnnbdlmilbcpjaaGreatDoor
open Go.RowKit
set_option linter.unusedVariables false
theorem ownsRow_shape {w : World} {base size n : Nat} {e : TypeId} {v : Value} {xs : List Value} (h : w.ownsRow base e size v n xs) : ∃ o c, v = .slice o n c := by
  rcases h.2 with ⟨e, hn⟩ | ⟨g, cap, cur, hv, _⟩
  · exact ⟨_, 0, by rw [hn]; exact e⟩
  · exact ⟨_, _, hv⟩
theorem cells_new (w : World) (xs : List Value) (t n : Nat) (hn : n = w.heap.size) : ∀ j u, xs[j]? = some u → (w.alloc (.cells xs.toArray t)).cell? ((⟨n, 0, none⟩ : Addr).add j) = some u := by
  intro j u hj
  subst hn
  have h := cell_of_row (w.alloc (.cells xs.toArray t)) w.heap.size j _ _ _ (heap_alloc_new w _)
  have e1 : (⟨w.heap.size, 0, none⟩ : Addr).add j = ⟨w.heap.size, j, none⟩ := by
    by_cases h0 : j = 0
    · subst h0; simp [Addr.add]
    · simp [Addr.add, h0]
  rw [e1, h]
  simpa using hj
theorem info_str : (Tryz.prog.info? 9).map (fun i => (i.zero, i.size, i.bytes)) = some (some (.string ⟨#[]⟩), 1, 16) := by kernel_rfl
theorem symsOf_snoc {l : List SNode} {k : Nat} {n : SNode} (h : l[k]? = some n) : symsOf (l.take (k + 1)) = symsOf (l.take k) ++ (if n.op = 2 then [n.sym] else []) := by
  unfold symsOf
  rw [List.take_add_one, h, Option.toList_some, List.filterMap_append]
  by_cases ho : n.op = 2 <;> simp [ho]
theorem symsOf_len (l : List SNode) : (symsOf l).length ≤ l.length := List.length_filterMap_le _ _
/-- an own row of words -/
def WordsOwn (w : World) (B : Nat) (v : Value) (ss : List Bytes) : Prop := w.ownsRow B 9 1 v ss.length (ss.map encStr)
theorem leS_eq : leS = fun x y => decide (x ≤ y) := rfl
/-- what Symbols leaves -/
def SymsLeft (l : List SNode) (w : World) (e : Ending) (w' : World) : Prop := (∃ v, e = .returned v ∧ WordsOwn w' w.heap.size v (symsS l)) ∧ Below w.heap.size w w'
/-- the end, outside the walk -/
theorem symsLeft_of {w w1 : World} {l : List SNode} {g cap nn q : Nat} {os : Array Obj} {ss ts : List Bytes} (hown : WordsOwn w1 w.heap.size (.slice (some ⟨g, 0, none⟩) ss.length cap) ss) (hbel : Below w.heap.size w w1) (hbg : w.heap.size ≤ g)
    (ht : ts = ss.mergeSort leS) (hR : symsS l = Lib.compact ts) :
    SymsLeft l w (.returned (.slice (some ⟨g, 0, none⟩) (Lib.compact ts).length cap))
      (Sort.putRow encStr (Sort.ahead (Sort.grow (Sort.putRow encStr (Sort.ahead w1 nn) g 0 ts.toArray) os) q) g 0 (Lib.compact ts ++ List.replicate (ts.length - (Lib.compact ts).length) []).toArray) := by
  have hl2 : ts.length = ss.length := by rw [ht]; exact List.length_mergeSort ss
  have hle := Lib.compact_length_le ts
  rcases hown.2 with ⟨h0, _⟩ | ⟨g', cap', cur, hv, hbase, hb, h1, h2, h3, h4⟩
  · cases h0
  cases hv
  have hs := ownsRow_sorted (n := nn) (os := os) (ts := ts) hl2 hbase hb h1 h2 h3
  have hc := Lib.ownsRow_putRow (q := q) (k := (Lib.compact ts).length) (ys := Lib.compact ts ++ List.replicate (ts.length - (Lib.compact ts).length) []) hs (by simp; omega) (by omega)
  rw [List.take_left] at hc
  exact ⟨⟨_, rfl, by unfold WordsOwn; rw [hR]; exact hc⟩, Lib.below_putRow (hbel.grown (grownBy_sorted _) hbel.size (fun j hj => by cases hj; exact hbase)) hbg⟩
end Go.Proofs.YtnnbdlmilbcpjaaGreatDoor
