/-
  The reading of a schema that came in: rows of structs that hold rows. No program's walk. No condition.
  SchemaBack, in the given form: WHATEVER COMES IN, the statement's function returns true, and what came in reads behind the call as it read before. The listed package-level variables are tied to the program's text by the given ties. No further condition.
-/
import Derived.Test.YtnnbdlmilbcpjaaGreatDoorSTypes
import Derived.Deep.Slices
import Derived.ChangeArms
import Derived.OpenShut
import Derived.Test.YtnnbdlmilbcpjaaGreatDoorSBackL
import Derived.Test.YtnnbdlmilbcpjaaGreatDoorRows
import Derived.Test.YtnnbdlmilbcpjaaGreatDoorTie
import Derived.Test.YtnnbdlmilbcpjaaGreatDoorCards
import Derived.SevenTiedAt
import Derived.Lay
import Derived.LaidMore
import Derived.Stop.Joined
import Derived.MakeChecks
import Derived.Shelf.Vars
import Derived.WalkKit
import Derived.ProofKit
import Derived.ShutString
import Derived.ChangeOld
import Derived.Below
namespace Go.Proofs.YtnnbdlmilbcpjaaGreatDoor
open Go.RowKit Go.ChangeShapes Go.WideShapes Go.Deep
set_option linter.unusedVariables false
theorem list_of {α : Type} {Q : Nat → α → Prop} : ∀ n, (∀ i, i < n → ∃ a, Q i a) → ∃ xs : List α, xs.length = n ∧ ∀ i x, xs[i]? = some x → Q i x := by
  intro n
  induction n with
  | zero => intro _; exact ⟨[], rfl, fun i x h => by simp at h⟩
  | succ n ih =>
    intro h
    obtain ⟨xs, hl, hx⟩ := ih (fun i hi => h i (by omega))
    obtain ⟨a, ha⟩ := h n (by omega)
    refine ⟨xs ++ [a], by simp [hl], fun i x hi => ?_⟩
    by_cases hn : i < n
    · rw [List.getElem?_append_left (by omega)] at hi; exact hx i x hi
    · have : i = n := by have := (List.getElem?_eq_some_iff.1 hi).1; simp at this; omega
      subst this
      rw [List.getElem?_append_right (by omega)] at hi
      simp [hl] at hi
      subst hi; exact ha
theorem add_none (b off i : Nat) : (⟨b, off, none⟩ : Addr).add i = ⟨b, off + i, none⟩ := by
  by_cases h0 : i = 0
  · subst h0; simp [Addr.add]
  · simp [Addr.add, h0]
theorem flat_len {α : Type} {f : α → List Value} {z : Nat} (hf : ∀ x, (f x).length = z) (l : List α) : (l.flatMap f).length = l.length * z := by
  induction l with
  | nil => simp
  | cons a t ih => rw [List.flatMap_cons, List.length_append, hf, ih, List.length_cons, Nat.add_mul]; omega
theorem sliceAt {α : Type} {H : Type} {enc : TypeId × Value → H} {W : World} {t e : TypeId} {z fuel : Nat} {row : α → List Value} {Pr : α → Prop} {cs : List Value} {x : DataW H × List MemPlace}
    (ht : Tryz.prog.underlying t = some (.slice e)) (hz : Tryz.prog.cellsOf e = z) (hz0 : 0 < z) (hrow : ∀ a, (row a).length = z)
    (hel : ∀ n cs' y, DataW.trod enc Tryz.prog W 0 (fun _ => true) true n e cs' = some y → ∃ a, Pr a ∧ cs' = row a)
    (h : DataW.trod enc Tryz.prog W 0 (fun _ => true) true fuel t cs = some x) :
    ∃ (xs : List α) (o : Option Addr) (cap : Nat), cs = [.slice o xs.length cap] ∧ RowAt W o xs.length cap z (xs.flatMap row) ∧ ∀ a ∈ xs, Pr a := by
  rcases open_slice ht h with ⟨hcs, _⟩ | ⟨a, len, cap, m, n, D, Pl, hcs, _, hl, hm, hmm, _, hall⟩
  · exact ⟨[], none, 0, hcs, ⟨by simp, Nat.le_refl _, by unfold maxLen; omega, fun h => by simp at h⟩, fun a ha => by simp at ha⟩
  · rw [if_pos rfl] at hmm
    subst hmm
    rw [hz] at hall
    obtain ⟨xs, hxl, hxs⟩ := list_of (Q := fun i x => Pr x ∧ W.cells? 0 (a.add (i * z)) z = some (row x)) len (fun i hi => by
      obtain ⟨cs', h1, h2⟩ := hall i (by omega)
      obtain ⟨y, hy, rfl⟩ := hel _ _ _ h2
      exact ⟨y, hy, h1⟩)
    subst hxl
    refine ⟨xs, some a, m, hcs, ⟨flat_len hrow xs, hl, hm, fun h0 => ?_⟩, fun y hy => ?_⟩
    · have hcell : ∀ i y, xs[i]? = some y → ∀ j, j < z → W.cell? ((a.add (i * z)).add j) = (row y)[j]? := fun i y hi j hj => (World.cells?_some (hxs i y hi).2).2.2 j hj
      obtain ⟨y0, hy0⟩ : ∃ y, xs[0]? = some y := ⟨_, List.getElem?_eq_getElem h0⟩
      have c0 := hcell 0 y0 hy0 0 hz0
      obtain ⟨u0, hu0⟩ : ∃ u, (row y0)[0]? = some u := ⟨_, List.getElem?_eq_getElem (by rw [hrow]; exact hz0)⟩
      rw [hu0, Nat.zero_mul] at c0
      have hc0 : W.cell? a = some u0 := by simpa [Addr.add] using c0
      have hsp := World.cell?_spot hc0
      obtain ⟨b, off, sp⟩ := a
      simp only at hsp
      subst hsp
      refine ⟨b, off, rfl, ?_, fun j u hj => ?_⟩
      · rcases Nat.lt_or_ge b W.heap.size with h' | h'
        · exact h'
        · simp [World.cell?, Array.getElem?_eq_none h'] at hc0
      · have hjl := (List.getElem?_eq_some_iff.1 hj).1
        rw [flat_len hrow] at hjl
        have hq : j / z < xs.length := (Nat.div_lt_iff_lt_mul hz0).2 hjl
        have hr : j % z < z := Nat.mod_lt _ hz0
        have hd : j = j / z * z + j % z := by have := Nat.div_add_mod j z; rw [Nat.mul_comm] at this; omega
        obtain ⟨y, hy⟩ : ∃ y, xs[j / z]? = some y := ⟨_, List.getElem?_eq_getElem hq⟩
        have h1 := row4_at z hrow hy (j % z) hr
        rw [← hd, hj] at h1
        have h2 := hcell _ y hy (j % z) hr
        rw [← h1, add_none, add_none, Nat.add_assoc, ← hd] at h2
        exact h2
    · obtain ⟨i, hi⟩ := List.mem_iff_getElem?.1 hy
      exact (hxs i y hi).1
section
variable {H : Type} {enc : TypeId × Value → H} {W : World}
theorem cells_int : Tryz.prog.cellsOf 3 = 1 := by kernel_rfl
theorem cells_str : Tryz.prog.cellsOf 9 = 1 := by kernel_rfl
theorem cells_bool : Tryz.prog.cellsOf 4 = 1 := by kernel_rfl
theorem cells_node : Tryz.prog.cellsOf 70 = 4 := by kernel_rfl
theorem cells_type : Tryz.prog.cellsOf 47 = 6 := by kernel_rfl
theorem cells_regex : Tryz.prog.cellsOf 45 = 1 := by kernel_rfl
theorem cells_schema : Tryz.prog.cellsOf 24 = 1 := by kernel_rfl
theorem cells_strs : Tryz.prog.cellsOf 37 = 1 := by kernel_rfl
theorem cells_nodes : Tryz.prog.cellsOf 43 = 1 := by kernel_rfl
theorem cells_types : Tryz.prog.cellsOf 22 = 1 := by kernel_rfl
theorem fld {fs : Array Field} {i off m : Nat} {t : TypeId} {cs : List Value} {c : Value} {xs : List (DataW H × List MemPlace)} {y : DataW H × List MemPlace}
    (hf : ∀ (i : Nat) (f : Field), fs[i]? = some f → DataW.trod enc Tryz.prog W 0 (fun _ => true) true m f.type ((cs.drop f.offset).take (Tryz.prog.cellsOf f.type)) = xs[i]?)
    (hi : (fs[i]?).map (fun f => (f.type, f.offset)) = some (t, off)) (hz : Tryz.prog.cellsOf t = 1) (hc : (cs.drop off).take 1 = [c]) (hy : xs[i]? = some y) : DataW.trod enc Tryz.prog W 0 (fun _ => true) true m t [c] = some y := by
  cases e : fs[i]? with
  | none => rw [e] at hi; cases hi
  | some f =>
    rw [e] at hi
    simp only [Option.map_some, Option.some.injEq, Prod.mk.injEq] at hi
    obtain ⟨h1, h2⟩ := hi
    have h := hf i f e
    rw [h1, h2, hz, hc, hy] at h
    exact h
theorem some_at {α : Type} {xs : List α} {n i : Nat} (h : xs.length = n) (hi : i < n) : ∃ y, xs[i]? = some y := ⟨_, List.getElem?_eq_getElem (by omega)⟩
set_option maxRecDepth 100000 in
theorem node_of (n : Nat) (cs : List Value) (y : DataW H × List MemPlace) (h : DataW.trod enc Tryz.prog W 0 (fun _ => true) true n 70 cs = some y) : ∃ a : SNode, True ∧ cs = nodeRow a := by
  obtain ⟨xs, m, _, _, hl, hn, hf⟩ := DataW.trod_struct Tryz.underlying70 h
  rw [cells_node] at hl
  match cs, hl with
  | [c0, c1, c2, c3], _ =>
    obtain ⟨y0, e0⟩ := some_at hn (i := 0) (by decide)
    obtain ⟨y1, e1⟩ := some_at hn (i := 1) (by decide)
    obtain ⟨y2, e2⟩ := some_at hn (i := 2) (by decide)
    obtain ⟨y3, e3⟩ := some_at hn (i := 3) (by decide)
    obtain ⟨k0, g0, _, _⟩ := DataW.trod_int Tryz.underlying3 (fld hf (i := 0) rfl cells_int rfl e0)
    obtain ⟨k1, g1, _, _⟩ := DataW.trod_string Tryz.underlying9 (fld hf (i := 1) rfl cells_str rfl e1)
    obtain ⟨k2, g2, _, _⟩ := DataW.trod_int Tryz.underlying3 (fld hf (i := 2) rfl cells_int rfl e2)
    obtain ⟨k3, g3, _, _⟩ := DataW.trod_int Tryz.underlying3 (fld hf (i := 3) rfl cells_int rfl e3)
    refine ⟨⟨k0, k1.data.toList, k2, k3⟩, trivial, ?_⟩
    simp only [List.cons.injEq, and_true] at g0 g1 g2 g3
    subst g0; subst g1; subst g2; subst g3
    rfl
theorem word_of (n : Nat) (cs : List Value) (y : DataW H × List MemPlace) (h : DataW.trod enc Tryz.prog W 0 (fun _ => true) true n 9 cs = some y) : ∃ a : Bytes, True ∧ cs = [encStr a] := by
  obtain ⟨s, rfl, _, _⟩ := DataW.trod_string Tryz.underlying9 h
  exact ⟨s.data.toList, trivial, rfl⟩
theorem words_of {n : Nat} {cs : List Value} {y : DataW H × List MemPlace} (h : DataW.trod enc Tryz.prog W 0 (fun _ => true) true n 37 cs = some y) : ∃ (l : List Bytes) (o : Option Addr) (cap : Nat), cs = [.slice o l.length cap] ∧ WordsIn W o cap l := by
  obtain ⟨l, o, cap, h1, h2, _⟩ := sliceAt Tryz.underlying37 cells_str (by decide) (row := fun b => [encStr b]) (fun _ => rfl) word_of h
  exact ⟨l, o, cap, h1, by unfold WordsIn; rw [List.map_eq_flatMap]; exact h2⟩
theorem nodes_of {n : Nat} {cs : List Value} {y : DataW H × List MemPlace} (h : DataW.trod enc Tryz.prog W 0 (fun _ => true) true n 43 cs = some y) : ∃ (l : List SNode) (o : Option Addr) (cap : Nat), cs = [.slice o l.length cap] ∧ NodesAt W o cap l := by
  obtain ⟨l, o, cap, h1, h2, _⟩ := sliceAt Tryz.underlying43 cells_node (by decide) (row := nodeRow) (fun _ => rfl) node_of h
  exact ⟨l, o, cap, h1, h2⟩
set_option maxRecDepth 100000 in
theorem type_of (n : Nat) (cs : List Value) (y : DataW H × List MemPlace) (h : DataW.trod enc Tryz.prog W 0 (fun _ => true) true n 47 cs = some y) : ∃ a : TyV, (WordsIn W a.ao a.ac a.t.attrs ∧ NodesAt W a.no a.nc a.t.nodes) ∧ cs = typeRow a := by
  obtain ⟨xs, m, _, _, hl, hn, hf⟩ := DataW.trod_struct Tryz.underlying47 h
  rw [cells_type] at hl
  match cs, hl with
  | [c0, c1, c2, c3, c4, c5], _ =>
    obtain ⟨y0, e0⟩ := some_at hn (i := 0) (by decide)
    obtain ⟨y1, e1⟩ := some_at hn (i := 1) (by decide)
    obtain ⟨y2, e2⟩ := some_at hn (i := 2) (by decide)
    obtain ⟨y3, e3⟩ := some_at hn (i := 3) (by decide)
    obtain ⟨y4, e4⟩ := some_at hn (i := 4) (by decide)
    obtain ⟨y5, e5⟩ := some_at hn (i := 5) (by decide)
    obtain ⟨k0, g0, _, _⟩ := DataW.trod_string Tryz.underlying9 (fld hf (i := 0) rfl cells_str rfl e0)
    obtain ⟨k1, g1, _, _⟩ := DataW.trod_string Tryz.underlying9 (fld hf (i := 1) rfl cells_str rfl e1)
    obtain ⟨l2, o2, p2, g2, hw⟩ := words_of (fld hf (i := 2) rfl cells_strs rfl e2)
    obtain ⟨k3, g3, _, _⟩ := DataW.trod_string Tryz.underlying9 (fld hf (i := 3) rfl cells_str rfl e3)
    obtain ⟨k4, g4, _⟩ := DataW.trod_bool Tryz.underlying4 (fld hf (i := 4) rfl cells_bool rfl e4)
    obtain ⟨zs, m5, _, _, _, hn5, hf5⟩ := DataW.trod_struct Tryz.underlying45 (fld hf (i := 5) rfl cells_regex rfl e5)
    obtain ⟨y6, e6⟩ := some_at hn5 (i := 0) (by decide)
    obtain ⟨l5, o5, p5, g5, hns⟩ := nodes_of (fld hf5 (i := 0) rfl cells_nodes rfl e6)
    refine ⟨⟨⟨k0.data.toList, k1.data.toList, l2, k3.data.toList, k4, l5⟩, o2, p2, o5, p5⟩, ⟨hw, hns⟩, ?_⟩
    simp only [List.cons.injEq, and_true] at g0 g1 g2 g3 g4 g5
    subst g0; subst g1; subst g2; subst g3; subst g4; subst g5
    rfl
set_option maxRecDepth 100000 in
/-- a schema that came in is laid -/
theorem schema_of {n : Nat} {cs : List Value} {y : DataW H × List MemPlace} (h : DataW.trod enc Tryz.prog W 0 (fun _ => true) true n 24 cs = some y) : ∃ (l : List TyV) (o : Option Addr) (cap : Nat), cs = [.slice o l.length cap] ∧ TypesAt W o cap l := by
  obtain ⟨zs, m, _, _, hl, hn, hf⟩ := DataW.trod_struct Tryz.underlying24 h
  rw [cells_schema] at hl
  match cs, hl with
  | [c], _ =>
    obtain ⟨y0, e0⟩ := some_at hn (i := 0) (by decide)
    obtain ⟨l, o, cap, h1, h2, h3⟩ := sliceAt Tryz.underlying22 cells_type (by decide) (row := typeRow) (fun _ => rfl) type_of (fld hf (i := 0) rfl cells_types rfl e0)
    exact ⟨l, o, cap, h1, h2, h3⟩
end
open Go.ChangeShapes Go.WideShapes Go.ChangeAt Go.RowKit
open Go.ChangeMaps (open_string shut_string)
set_option linter.unusedVariables false
theorem own : ownKnob Tryz.prog.godebug = none := by kernel_rfl
theorem laidOut : laidOutB Tryz.prog = true := by kernel_rfl
theorem back_door (os : Os) (args : Array Value) : laidMetH Tryz.prog Rows.schemaBackRow.laid ((World.laidAll Tryz.prog os Rows.schemaBackRow.laid).forCall (fun _ _ => 0) ⟨#[], args, []⟩).memory := by
  rw [MakeChecks.laidMetH_plain _ _ _ (by kernel_rfl)]; exact laidMet_laidAll _ (by kernel_rfl) (by kernel_rfl)
set_option maxRecDepth 100000 in
theorem back_lifted (os : Os) (started : os.Started) (H : Type) (enc : TypeId × Value → H) :
    ReturnsInHanded {} Tryz.checked os 5 .any (fun w args => (Rows.schemaBackSpec.pre enc Tryz.prog Tryz.f5 Rows.schemaBackRow.domain false w args ∧ laidMetH Tryz.prog Rows.schemaBackRow.laid w) ∧ sizedMet enc Tryz.prog Tryz.f5 (OpenSpec.ofChange Rows.schemaBackSpec) false w args)
      (Rows.schemaBackSpec.post enc Tryz.prog Tryz.f5 false true false false) := by
  refine returnsInHanded_of_calls own started (by kernel_rfl)
    (ChangeSpec.witness_shaped (enc := enc) (C := Tryz.checked) (os := os) (X := fun w _ => laidMetH Tryz.prog Rows.schemaBackRow.laid w) false (World.laidAll Tryz.prog os Rows.schemaBackRow.laid) #[.agg #[.slice none 0 0]] 8 (World.laidAll_os _ _ _) (World.shaped_of_ZipB (by kernel_rfl) (by kernel_rfl)) (by kernel_rfl) (by kernel_rfl) (by kernel_rfl) (back_door os _)) ?_
  intro w tape i _ hsh _ hok hpre _
  obtain ⟨_, _, _, fn', hfn', _, _, _, _, hval0⟩ := hok
  have e : fn' = Tryz.f5 := Option.some.inj (hfn'.symm.trans Tryz.func5)
  subst e
  obtain ⟨⟨⟨ds, gs, before, hw, hc⟩, hx⟩, hz⟩ := hpre
  have hW := DataW.Whole.of_heap (w' := w.forCall tape i) (by rfl) hw
  have hL : laidMetH Tryz.prog Rows.schemaBackRow.laid (w.forCall tape i) := laidMetH.of_heap (by rfl) hx
  suffices hmain : Calls Tryz.prog 5 i.args (w.forCall tape i) fun e W' => ∃ v, e = .returned v ∧ Rows.schemaBackSpec.post enc Tryz.prog Tryz.f5 false true false false (w.forCall tape i) i.args v W' by
    refine hmain.mono fun e W' ⟨v, he, hp⟩ => ?_
    subst he
    exact ChangeSpec.post_blind hp
  generalize i.args = args at hval0 hW ⊢
  generalize w.heap.size = base at hval0
  generalize w.forCall tape i = W at hval0 hW ⊢
  clear hL hx hw hc hz hsh hfn'
  have hval : ∀ (j : Nat) t v, Tryz.f5.params[j]? = some t → args[j]? = some v → Value.okWide Tryz.prog W .any base t v := hval0
  have hW' := hW
  obtain ⟨p, q, hA0, hV, rfl, hfz, hnd⟩ := hW
  have hA : DataW.TrodAll enc Tryz.prog W 0 (fun _ => true) true Tryz.f5.params.toList args.toList ds p := hA0
  rw [Tryz.params5] at hA hval
  obtain ⟨v0, vs0, d0, ds0, p0, q0, hargs, rfl, rfl, h0, r0⟩ := trodAll_cons hA
  obtain ⟨rfl, rfl, rfl⟩ := trodAll_nil r0
  obtain rfl : args = #[v0] := by cases args; simp_all
  obtain ⟨rfl, rfl⟩ := trodVars_none hV
  obtain ⟨cs0, rfl, _⟩ := okWide_struct Tryz.underlying24 (hval 0 24 v0 rfl rfl)
  have k0 := h0
  have lt0 : ∀ x ∈ p0, x.block < W.heap.size := by obtain ⟨m, hm⟩ := k0; exact DataW.trod_lt m _ _ _ hm
  obtain ⟨l0, o0, cap0, hcs0, w0⟩ : ∃ (l : List TyV) (o : Option Addr) (cap : Nat), cs0.toList = [.slice o l.length cap] ∧ TypesAt W o cap l := by
    obtain ⟨fuel, hf⟩ := h0
    exact schema_of hf
  obtain rfl : cs0 = #[.slice o0 l0.length cap0] := by cases cs0; simpa using hcs0
  clear hA0 hval0
  refine (backLaw_any l0 o0 cap0 W w0).mono fun e W' ⟨he, bel⟩ => ?_
  subst he
  exact ⟨_, rfl, _, _, _, [], _, [], hW', trodAll_mk1 (shut_bool Tryz.underlying4 _), (trodAll_cons_mk (Below.trod laidOut (by kernel_rfl) (of_decide_eq_true (by kernel_rfl)) k0 bel lt0) trodAll_mk0), rfl, bel.frame _, fun h => by cases h⟩
theorem back_row : Rows.SchemaBackSaid :=
  OpenClaim.holds_of_wide 5 Tryz.f5 rfl rfl rfl rfl rfl rfl rfl ⟨rfl, rfl, rfl, rfl, rfl⟩ rfl rfl rfl rfl rfl (by kernel_rfl) Tryz.func5 (by kernel_rfl)
    (of_decide_eq_true (by kernel_rfl)) (by unfold Func.isWrapper; first | (rw [if_pos (by decide +kernel)]; kernel_rfl) | (rw [if_neg (by decide +kernel)]; exact ⟨rfl, rfl⟩))
    (fun os started H enc _ => back_lifted os started H enc)
theorem back_card : Rows.SchemaBackCardSaid :=
  Claim7.holds_tied_plain_at .later [] [.data, .pinned] true Rows.schemaBackCard.stood.harness false
    back_row (fun _ h => by cases h) (by kernel_rfl) (fun _ h => by cases h) schemaBack_row_tie rfl ⟨rfl, rfl⟩ (by kernel_rfl) rfl
    (fun f fn hf hfn => by
      obtain rfl : f = 5 := Option.some.inj ((show Tryz.prog.funcNamed "spyglass/spyglasslaw09.SchemaBack" = some 5 by kernel_rfl).symm.trans hf) |>.symm
      obtain rfl : fn = Tryz.f5 := (Option.some.inj (Tryz.func5.symm.trans hfn)).symm
      exact ⟨by kernel_rfl, fun j t ht => by
        rw [Tryz.params5] at ht
        have h3 : t = 24 := by
          rcases j with _ | j
          · simpa using ht.symm
          · simp at ht
        subst h3
        exact (show Tryz.prog.wantsStandIn 24 = false by kernel_rfl)⟩)
    (by kernel_rfl)
#print axioms back_card
end Go.Proofs.YtnnbdlmilbcpjaaGreatDoor
