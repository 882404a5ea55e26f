/-
  Layer 7 (regex): the reader's method atom. Conditions as before.
-/
import Derived.Test.YtnnbdlmilbcpjaaGreatDoorSKeep
import Derived.Test.YtnnbdlmilbcpjaaGreatDoorSPartP
namespace Go.Proofs.YtnnbdlmilbcpjaaGreatDoor
open Go.RowKit
set_option linter.unusedVariables false
/-- what reading of a part owes -/
def PartPost (r : PartR) (b : Nat) (doc : ByteArray) (w : World) (e : Ending) (w' : World) : Prop :=
  (match r with
   | none => (∃ o n c, e = .returned (.tuple #[.slice o n c, .bool false])) ∧ ∃ p lo bi, p ≤ doc.size ∧ RdAt w' b doc p lo bi
   | some (l, st) => (∃ v, e = .returned (.tuple #[v, .bool true]) ∧ NodesOwn w' w.heap.size v l) ∧ RdAt w' b doc st.p st.long st.big) ∧ Sole b w w'
theorem PartPost.no {r : PartR} {b : Nat} {doc : ByteArray} {w w' : World} {e : Ending} {o : Option Addr} {n c p : Nat} {lo bi : Bool} (h : r = none) (he : e = .returned (.tuple #[.slice o n c, .bool false])) (hp : p ≤ doc.size) (hP : RdAt w' b doc p lo bi) (hS : Sole b w w') : PartPost r b doc w e w' := by
  subst h; exact ⟨⟨⟨o, n, c, he⟩, p, lo, bi, hp, hP⟩, hS⟩
theorem PartPost.yes {r : PartR} {b : Nat} {doc : ByteArray} {w w' : World} {e : Ending} {v : Value} {l : List SNode} {st : RSt} (h : r = some (l, st)) (he : e = .returned (.tuple #[v, .bool true])) (ho : NodesOwn w' w.heap.size v l) (hP : RdAt w' b doc st.p st.long st.big) (hS : Sole b w w') : PartPost r b doc w e w' := by
  subst h; exact ⟨⟨⟨v, he, ho⟩, hP⟩, hS⟩
/-- a part read at places from which so many bytes are left at most -/
def PartC (k : FuncId) (b : Nat) (doc : ByteArray) (F : RSt → PartR) (n : Nat) : Prop :=
  ∀ (st : RSt) (w : World), RdAt w b doc st.p st.long st.big → st.p ≤ doc.size → doc.size - st.p < n → Calls Tryz.prog k #[.pointer (some ⟨b, 0, none⟩)] w (PartPost (F st) b doc w)
theorem one_new {w : World} {B H : Nat} {n : SNode} (hH : w.heap.size = H) (hB : B ≤ H) {cs : Array Value} (hc : (nodeRow n).toArray = cs) : NodesOwn (w.alloc (.cells cs 70)) B (.slice (some ⟨H, 0, none⟩) 1 1) [n] := by
  subst hH; subst hc; exact nodesOwn_new w n B hB
set_option maxHeartbeats 4000000 in
set_option maxRecDepth 100000 in
theorem atom_any {b n : Nat} {doc : ByteArray} {E : RSt → PartR} (hd : doc.size ≤ 65536) (hE : PartC 136 b doc E n) (hEk : PartOk doc.data.toList E) : PartC 160 b doc (atomS doc.data.toList E) (n + 1) := by
  intro st w hP hp hn
  obtain ⟨p, lo, bi⟩ := st
  simp only at hP hp hn
  obtain ⟨R, hR⟩ : ∃ R, R = atomS doc.data.toList E ⟨p, lo, bi⟩ := ⟨_, rfl⟩
  rw [← hR]
  unfold atomS at hR
  simp only at hR
  have m1 := rmark_any 33 33 rfl b p doc lo bi w hP hp hd
  have q1 := markP_le doc 33 p hp
  obtain ⟨P1, hP1⟩ : ∃ P1, P1 = markP doc.data.toList 33 p := ⟨_, rfl⟩
  rw [← hP1] at m1 q1 hR
  cases b1 : markB doc.data.toList 33 p with
  | true =>
    rw [b1] at m1 hR
    rw [if_pos rfl] at hR
    have HR := Lib.hid hR
    clear hR b1 hP1
    go_enter Tryz.func160, Tryz.ntmps160
    go_wp2_with fail
    refine m1.mono ?_
    rintro e w1 ⟨rfl, hP1, hS1⟩
    clear m1
    go_wp2_with fail
    go_ret2
    exact PartPost.yes HR.out rfl (one_new rfl hS1.size noneN_row) (hP1.below ((Below.refl _ w1).alloc (Nat.le_refl _) _)) (hS1.alloc _)
  | false =>
    rw [b1] at m1 hR
    rw [if_neg (by simp)] at hR
    have m2 := fun w1 hP1 => rmark_any 40 40 rfl b P1 doc lo bi w1 hP1 q1.1 hd
    have q2 := markP_le doc 40 P1 q1.1
    obtain ⟨P2, hP2⟩ : ∃ P2, P2 = markP doc.data.toList 40 P1 := ⟨_, rfl⟩
    rw [← hP2] at m2 q2 hR
    clear b1 hP1
    cases b2 : markB doc.data.toList 40 P1 with
    | true =>
      rw [b2] at m2 hR q2
      rw [if_pos rfl] at hR
      have m3 := fun w1 hP1 => rmark_any 41 41 rfl b P2 doc lo bi w1 hP1 q2.1 hd
      have q3 := markP_le doc 41 P2 q2.1
      obtain ⟨P3, hP3⟩ : ∃ P3, P3 = markP doc.data.toList 41 P2 := ⟨_, rfl⟩
      rw [← hP3] at m3 q3 hR
      have hp2 := q2.2.2 rfl
      have hp1 := q1.2.1
      have hp3 := q3.2.1
      have hp3' := q3.1
      clear b2 hP2 q1 q2 q3
      cases b3 : markB doc.data.toList 41 P2 with
      | true =>
        rw [b3] at m3 hR
        rw [if_pos rfl] at hR
        have HR := Lib.hid hR
        clear hR b3 hP3
        go_enter Tryz.func160, Tryz.ntmps160
        go_wp2_with fail
        refine m1.mono ?_
        rintro e w1 ⟨rfl, hP1, hS1⟩
        clear m1
        have m2' := m2 _ hP1
        clear m2
        go_wp2_with fail
        refine m2'.mono ?_
        rintro e w2 ⟨rfl, hP2, hS2⟩
        clear m2'
        have m3' := m3 _ hP2
        clear m3
        go_wp2_with fail
        refine m3'.mono ?_
        rintro e w3 ⟨rfl, hP3, hS3⟩
        clear m3'
        have hS := (hS1.trans hS2).trans hS3
        go_wp2_with fail
        go_ret2
        exact PartPost.yes HR.out rfl (one_new rfl hS.size emptyN_row) (hP3.below ((Below.refl _ w3).alloc (Nat.le_refl _) _)) (hS.alloc _)
      | false =>
        rw [b3] at m3 hR
        rw [if_neg (by simp)] at hR
        have mE := fun w1 hP1 => hE ⟨P3, lo, bi⟩ w1 hP1 hp3' (by show doc.size - P3 < n; omega)
        have hok := fun ns st1 h => hEk ⟨P3, lo, bi⟩ ns st1 (by rw [← Lib.size_eq]; exact hp3') h
        clear b3 hP3
        cases hx : E ⟨P3, lo, bi⟩ with
        | none =>
          rw [hx] at hR mE
          simp only at hR
          have HR := Lib.hid hR
          unfold PartPost at mE
          simp only at mE
          clear hR hx hok
          go_enter Tryz.func160, Tryz.ntmps160
          go_wp2_with fail
          refine m1.mono ?_
          rintro e w1 ⟨rfl, hP1, hS1⟩
          clear m1
          have m2' := m2 _ hP1
          clear m2
          go_wp2_with fail
          refine m2'.mono ?_
          rintro e w2 ⟨rfl, hP2, hS2⟩
          clear m2'
          have m3' := m3 _ hP2
          clear m3
          go_wp2_with fail
          refine m3'.mono ?_
          rintro e w3 ⟨rfl, hP3, hS3⟩
          clear m3'
          have hS := (hS1.trans hS2).trans hS3
          have mE' := mE _ hP3
          clear mE
          go_wp2_with fail
          refine mE'.mono ?_
          rintro e w4 ⟨⟨⟨o, k, c, rfl⟩, p4, lo4, bi4, hp4, hP4⟩, hS4⟩
          clear mE'
          go_wp2_with fail
          go_ret2
          exact PartPost.no HR.out rfl hp4 hP4 (hS.trans hS4)
        | some z =>
          obtain ⟨ns, st1⟩ := z
          obtain ⟨p4, lo4, bi4⟩ := st1
          have hk := hok _ _ hx
          rw [hx] at hR mE
          simp only at hR hk
          have hp4 : p4 ≤ doc.size := by rw [Lib.size_eq]; exact hk.2.1
          have m4 := fun w1 hP1 => rmark_any 41 41 rfl b p4 doc lo4 bi4 w1 hP1 hp4 hd
          have q4 := markP_le doc 41 p4 hp4
          unfold PartPost at mE
          simp only at mE
          obtain ⟨P4, hP4e⟩ : ∃ P4, P4 = markP doc.data.toList 41 p4 := ⟨_, rfl⟩
          rw [← hP4e] at m4 q4 hR
          have hq4 := q4.1
          clear hx hok hk hP4e q4
          cases b4 : markB doc.data.toList 41 p4 with
          | true =>
            rw [b4] at m4 hR
            rw [if_pos rfl] at hR
            have HR := Lib.hid hR
            clear hR b4
            go_enter Tryz.func160, Tryz.ntmps160
            go_wp2_with fail
            refine m1.mono ?_
            rintro e w1 ⟨rfl, hP1, hS1⟩
            clear m1
            have m2' := m2 _ hP1
            clear m2
            go_wp2_with fail
            refine m2'.mono ?_
            rintro e w2 ⟨rfl, hP2, hS2⟩
            clear m2'
            have m3' := m3 _ hP2
            clear m3
            go_wp2_with fail
            refine m3'.mono ?_
            rintro e w3 ⟨rfl, hP3, hS3⟩
            clear m3'
            have hS := (hS1.trans hS2).trans hS3
            have mE' := mE _ hP3
            clear mE
            go_wp2_with fail
            refine mE'.mono ?_
            rintro e w4 ⟨⟨⟨v, rfl, hown⟩, hP4⟩, hS4⟩
            clear mE'
            have m4' := m4 _ hP4
            clear m4
            obtain ⟨vo, vc, rfl⟩ := ownRow_shape hown
            have Hown := Lib.hid hown
            clear hown
            go_wp2_with fail
            refine m4'.mono ?_
            rintro e w5 ⟨rfl, hP5, hS5⟩
            clear m4'
            go_wp2_with fail
            go_ret2
            exact PartPost.yes HR.out rfl (ownRow_down (World.ownsRow.kept Hown.out hS5.grownBy (.inr (by have := World.ownsRow.lt Hown.out; intro e2; have := (this b e2).1; have := hP3.lt; omega))) hS.size) hP5 ((hS.trans hS4).trans hS5)
          | false =>
            rw [b4] at m4 hR
            rw [if_neg (by simp)] at hR
            have HR := Lib.hid hR
            clear hR b4
            go_enter Tryz.func160, Tryz.ntmps160
            go_wp2_with fail
            refine m1.mono ?_
            rintro e w1 ⟨rfl, hP1, hS1⟩
            clear m1
            have m2' := m2 _ hP1
            clear m2
            go_wp2_with fail
            refine m2'.mono ?_
            rintro e w2 ⟨rfl, hP2, hS2⟩
            clear m2'
            have m3' := m3 _ hP2
            clear m3
            go_wp2_with fail
            refine m3'.mono ?_
            rintro e w3 ⟨rfl, hP3, hS3⟩
            clear m3'
            have hS := (hS1.trans hS2).trans hS3
            have mE' := mE _ hP3
            clear mE
            go_wp2_with fail
            refine mE'.mono ?_
            rintro e w4 ⟨⟨⟨v, rfl, hown⟩, hP4⟩, hS4⟩
            clear mE'
            have m4' := m4 _ hP4
            clear m4
            obtain ⟨vo, vc, rfl⟩ := ownRow_shape hown
            clear hown
            go_wp2_with fail
            refine m4'.mono ?_
            rintro e w5 ⟨rfl, hP5, hS5⟩
            clear m4'
            go_wp2_with fail
            go_ret2
            exact PartPost.no HR.out rfl hq4 hP5 ((hS.trans hS4).trans hS5)
    | false =>
      rw [b2] at m2 hR
      rw [if_neg (by simp)] at hR
      have mw := fun w1 hP1 => rword_any b P2 doc lo bi w1 hP1 q2.1 hd
      have hwl := wordAt_le doc P2
      have hwb : P2 ≤ doc.size := q2.1
      obtain ⟨W, hW⟩ : ∃ W, W = wordAt doc.data.toList P2 := ⟨_, rfl⟩
      rw [← hW] at mw hwl hR
      clear b2 hP2 hW q1 q2
      cases W with
      | nil =>
        rw [if_pos rfl] at hR
        have HR := Lib.hid hR
        clear hR
        go_enter Tryz.func160, Tryz.ntmps160
        go_wp2_with fail
        refine m1.mono ?_
        rintro e w1 ⟨rfl, hP1, hS1⟩
        clear m1
        have m2' := m2 _ hP1
        clear m2
        go_wp2_with fail
        refine m2'.mono ?_
        rintro e w2 ⟨rfl, hP2, hS2⟩
        clear m2'
        have mw' := mw _ hP2
        clear mw
        go_wp2_with fail
        refine mw'.mono ?_
        rintro e w3 ⟨rfl, hP3, hS3⟩
        clear mw'
        go_wp2_with fail
        go_ret2
        exact PartPost.no HR.out rfl hwb hP3 ((hS1.trans hS2).trans hS3)
      | cons c t =>
        rw [if_neg (by simp)] at hR
        have hnm := fun w => names_Is ⟨(c :: t).toArray⟩ w (by rw [Lib.size_eq]; show (c :: t).length ≤ _; omega)
        simp only at hnm
        have Hwl := Lib.hid hwl
        clear hwl
        generalize hwd : c :: t = W at *
        have hwne : W.toArray.isEmpty = false := by rw [← hwd]; rfl
        have hwne2 : W.isEmpty = false := by rw [← hwd]; rfl
        clear hwd
        cases hnv : isName W with
        | true =>
          rw [hnv] at hnm hR
          have HR := Lib.hid hR
          clear hR hnv
          go_enter Tryz.func160, Tryz.ntmps160
          go_wp2_with fail
          refine m1.mono ?_
          rintro e w1 ⟨rfl, hP1, hS1⟩
          clear m1
          have m2' := m2 _ hP1
          clear m2
          go_wp2_with fail
          refine m2'.mono ?_
          rintro e w2 ⟨rfl, hP2, hS2⟩
          clear m2'
          have mw' := mw _ hP2
          clear mw
          go_wp2_with fail
          refine mw'.mono ?_
          rintro e w3 ⟨rfl, hP3, hS3⟩
          clear mw'
          go_wp2_with fail
          refine (hnm _).mono ?_
          rintro e w4 ⟨rfl, hb4⟩
          clear hnm
          have hS := ((hS1.trans hS2).trans hS3).trans (Sole.of hb4)
          have hP4 := hP3.below hb4
          go_wp2_with fail
          go_ret2
          exact PartPost.yes HR.out rfl (one_new rfl hS.size rfl) (by simpa using hP4.below ((Below.refl _ w4).alloc (Nat.le_refl _) _)) (hS.alloc _)
        | false =>
          rw [hnv] at hnm hR
          have HR := Lib.hid hR
          clear hR hnv
          go_enter Tryz.func160, Tryz.ntmps160
          go_wp2_with fail
          refine m1.mono ?_
          rintro e w1 ⟨rfl, hP1, hS1⟩
          clear m1
          have m2' := m2 _ hP1
          clear m2
          go_wp2_with fail
          refine m2'.mono ?_
          rintro e w2 ⟨rfl, hP2, hS2⟩
          clear m2'
          have mw' := mw _ hP2
          clear mw
          go_wp2_with fail
          refine mw'.mono ?_
          rintro e w3 ⟨rfl, hP3, hS3⟩
          clear mw'
          go_wp2_with fail
          refine (hnm _).mono ?_
          rintro e w4 ⟨rfl, hb4⟩
          clear hnm
          have hS := ((hS1.trans hS2).trans hS3).trans (Sole.of hb4)
          have hP4 := hP3.below hb4
          have hf := hP4.free 2
          have c2 := hP4.cLo
          go_wp2_with fail
          go_ret2
          exact PartPost.yes HR.out rfl (one_new (by simp [World.setCell]) hS.size rfl) (by simpa using (hP4.setLo true).below ((Below.refl _ _).alloc (Nat.le_refl _) _)) ((hS.setCell 2 _).alloc _)
end Go.Proofs.YtnnbdlmilbcpjaaGreatDoor
