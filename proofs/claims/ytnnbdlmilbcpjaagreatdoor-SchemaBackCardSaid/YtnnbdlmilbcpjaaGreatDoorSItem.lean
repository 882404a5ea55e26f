/-
  Layer 7 (regex): the reader's method item. Conditions as before.
-/
import Derived.Test.YtnnbdlmilbcpjaaGreatDoorSAtom
namespace Go.Proofs.YtnnbdlmilbcpjaaGreatDoor
open Go.RowKit
set_option linter.unusedVariables false
theorem sole_grown {b : Nat} {w0 w w' : World} {row : Option Nat} (h : Sole b w0 w) (hg : w.grownBy w' row) (hr : ∀ k, row = some k → w0.heap.size ≤ k) : Sole b w0 w' :=
  ⟨hg.os.trans h.os, hg.tape.trans h.tape, hg.output.trans h.output, Nat.le_trans h.size hg.size, fun k hk hb => (hg.block k (Nat.lt_of_lt_of_le hk h.size) (fun e => by have := hr k e.symm; omega)).trans (h.block k hk hb)⟩
theorem rd_grown {w w' : World} {b p : Nat} {doc : ByteArray} {lo bi : Bool} {row : Option Nat} (h : RdAt w b doc p lo bi) (hg : w.grownBy w' row) (hr : row ≠ some b) : RdAt w' b doc p lo bi :=
  (hg.block b h.lt (fun e => hr e.symm)).trans h
theorem fold_made {r : Option (List SNode)} {w w' : World} {e : Ending} (h : FoldPost r w e w') : ∃ o n c ok, e = .returned (.tuple #[.slice o n c, .bool ok]) ∧ MadeIs w' w.heap.size (.slice o n c) ok r ∧ Below w.heap.size w w' := by
  cases r with
  | none => exact ⟨none, 0, 0, false, h.1, ⟨rfl, rfl⟩, h.2⟩
  | some l =>
    obtain ⟨⟨v, he, ho⟩, hb⟩ := h
    obtain ⟨o, c, rfl⟩ := ownRow_shape ho
    exact ⟨o, l.length, c, true, he, ⟨ho, rfl⟩, hb⟩
theorem MadeIs.down {w : World} {B B' : Nat} {v : Value} {ok : Bool} {r : Option (List SNode)} (h : MadeIs w B v ok r) (hB : B' ≤ B) : MadeIs w B' v ok r := by
  cases r with
  | none => exact h
  | some l => exact ⟨ownRow_down h.1 hB, h.2⟩
theorem two_parts {w : World} {B : Nat} {o1 o2 : Option Addr} {c1 c2 : Nat} {a b : List SNode} (h1 : NodesOwn w B (.slice o1 a.length c1) a) (h2 : NodesOwn w B (.slice o2 b.length c2) b) :
    PartsAt (w.alloc (.cells #[.slice o1 a.length c1, .slice o2 b.length c2] 43)) (some ⟨w.heap.size, 0, none⟩) 2 [⟨a, o1, c1⟩, ⟨b, o2, c2⟩] := by
  have hx := heap_alloc_new w (.cells #[.slice o1 a.length c1, .slice o2 b.length c2] 43)
  have hb := (Below.refl w.heap.size w).alloc (Nat.le_refl _) (.cells #[.slice o1 a.length c1, .slice o2 b.length c2] 43)
  refine ⟨⟨rfl, Nat.le_refl _, by unfold maxLen; omega, fun _ => ⟨w.heap.size, 0, rfl, by simp, fun j u hj => ?_⟩⟩, fun p hp => ?_⟩
  · rw [Nat.zero_add, cell_of_row _ w.heap.size j _ _ _ hx]
    simpa [pvVal] using hj
  · obtain ⟨o, c, e, hn1⟩ := nodesAt_of_own h1
    injection e with e1 _ e3
    obtain ⟨o', c', e', hn2⟩ := nodesAt_of_own h2
    injection e' with e1' _ e3'
    subst e1; subst e3; subst e1'; subst e3'
    simp at hp
    rcases hp with rfl | rfl
    · exact hn1.below hb
    · exact hn2.below hb
theorem Good.pos {l : List SNode} (h : Good l) : 1 ≤ l.length := by have := h.ne; cases l with | nil => exact absurd rfl this | cons a t => simp
/-- what holds while marks are read: the nodes, the reader -/
structure MkSt (b : Nat) (doc : ByteArray) (ns : List SNode) (st : RSt) (v : Value) (w0 w : World) : Prop where
  own : NodesOwn w w0.heap.size v ns
  rd : RdAt w b doc st.p st.long st.big
  sole : Sole b w0 w
  good : Good ns
  bw : b < w0.heap.size
theorem MkSt.sole' {b : Nat} {doc : ByteArray} {ns : List SNode} {st : RSt} {v : Value} {w0 w w' : World} {p : Nat} (h : MkSt b doc ns st v w0 w) (hs : Sole b w w') (hP : RdAt w' b doc p st.long st.big) : MkSt b doc ns ⟨p, st.long, st.big⟩ v w0 w' :=
  ⟨World.ownsRow.kept h.own hs.grownBy (.inr (fun e => by have := (World.ownsRow.lt h.own b e).1; have := h.bw; omega)), hP, h.sole.trans hs, h.good, h.bw⟩
theorem keptSt {b p : Nat} {doc : ByteArray} {lo : Bool} {r : List SNode × Bool} {w0 w w' : World} {e : Ending} (hS : Sole b w0 w) (hk : KeepPost r b p w0.heap.size doc lo w e w') (hg : Good r.1) (hbw : b < w0.heap.size) : ∃ o c, e = .returned (.slice o r.1.length c) ∧ MkSt b doc r.1 ⟨p, lo, r.2⟩ (.slice o r.1.length c) w0 w' := by
  obtain ⟨v, rfl, ho, hP, hs⟩ := hk
  obtain ⟨o, c, rfl⟩ := ownRow_shape ho
  exact ⟨o, c, rfl, ⟨ho, hP, hS.trans hs, hg, hbw⟩⟩
set_option maxHeartbeats 8000000 in
set_option maxRecDepth 100000 in
theorem item_any {b n : Nat} {doc : ByteArray} {E : RSt → PartR} (hd : doc.size ≤ 65536) (hA : PartC 160 b doc (atomS doc.data.toList E) n) (hEk : PartOk doc.data.toList E) : PartC 158 b doc (itemS doc.data.toList E) n := by
  intro st w hP hp hn
  obtain ⟨R, hR⟩ : ∃ R, R = itemS doc.data.toList E st := ⟨_, rfl⟩
  rw [← hR]
  unfold itemS at hR
  have m1 := hA st w hP hp hn
  have hok := fun ns st1 h => atomS_ok hEk st ns st1 (by rw [← Lib.size_eq]; exact hp) h
  have hbw := hP.lt
  unfold PartPost at m1
  cases hx : atomS doc.data.toList E st with
  | none =>
    rw [hx] at hR m1
    simp only at hR m1
    have HR := Lib.hid hR
    clear hR hx hok hA hEk
    go_enter Tryz.func158, Tryz.ntmps158
    go_wp2_with fail
    go_step3
    go_wp2_with fail
    refine m1.mono ?_
    rintro e w4 ⟨⟨⟨o, k, c, rfl⟩, p4, lo4, bi4, hp4, hP4⟩, hS4⟩
    clear m1
    go_wp2_with fail
    rw [Exit.noGoto_ret]
    go_ret2
    exact PartPost.no HR.out rfl hp4 hP4 hS4
  | some z =>
    obtain ⟨ns, st1⟩ := z
    have hk := hok _ _ hx
    rw [hx] at hR m1
    simp only at hR m1
    have HR := Lib.hid hR
    clear hR hx hok hA hEk
    go_enter Tryz.func158, Tryz.ntmps158
    go_wp2_with fail
    go_step3
    go_wp2_with fail
    refine m1.mono ?_
    rintro e w4 ⟨⟨⟨v, rfl, hown⟩, hP4⟩, hS4⟩
    clear m1
    have hM0 : MkSt b doc ns st1 v w w4 := ⟨hown, hP4, hS4, hk.2.2, hbw⟩
    have hp1 : st1.p ≤ doc.size := by rw [Lib.size_eq]; exact hk.2.1
    clear hown hP4 hS4 hk hP hp hn
    go_wp2_with fail
    go_step3
    go_wp2_with fail
    go_loopg [4] (doc.size - st1.p) (fun k v wr => ∃ (ns : List SNode) (st : RSt) (f : Nat), st.p ≤ doc.size ∧ k = doc.size - st.p ∧ k < f ∧ MkSt b doc ns st v w wr ∧ Hid (R = some (marksS doc.data.toList f ns st)))
    case atStart => exact ⟨ns, st1, doc.data.toList.length + 1, hp1, rfl, by rw [← Lib.size_eq]; omega, hM0, HR.out⟩
    case round =>
      obtain ⟨ns, ⟨p, lo, bi⟩, f, hp, rfl, hf, hM, HK⟩ := hrel
      clear HR hM0 hp1
      simp only at hp hf
      obtain ⟨f, rfl⟩ : ∃ f', f = f' + 1 := ⟨f - 1, by omega⟩
      have hst := HK.out
      unfold marksS at hst
      simp only at hst
      obtain ⟨vo, vc, rfl⟩ := ownRow_shape hM.own
      have m1 := rmark_any 42 42 rfl b p doc lo bi wr hM.rd hp hd
      have q1 := markP_le doc 42 p hp
      obtain ⟨P1, hP1⟩ : ∃ P1, P1 = markP doc.data.toList 42 p := ⟨_, rfl⟩
      rw [← hP1] at m1 q1 hst
      have hgl := hM.good.pos
      have hgl2 := hM.good.len
      cases b1 : markB doc.data.toList 42 p with
      | true =>
        rw [b1] at m1 hst q1
        rw [if_pos rfl] at hst
        have q2 := q1.2.2 rfl
        have q3 := q1.1
        have Hst := Lib.hid hst
        clear hst b1 hP1 q1 HK
        go_wp2_with fail
        refine m1.mono ?_
        rintro e w5 ⟨rfl, hP5, hS5⟩
        clear m1
        have hM5 := hM.sole' hS5 hP5
        have hsz := hM5.sole.size
        have hmy := many_any w.heap.size ns _ w5 hM5.own hsz (by omega) hgl
        clear hM hP5 hS5
        go_wp2_with fail
        refine hmy.mono ?_
        rintro e w6 ⟨v6, rfl, ho6, hg6⟩
        clear hmy
        have hnb : ∀ k, (Value.slice vo ns.length vc).ownBlock = some k → w.heap.size ≤ k := fun k e => (World.ownsRow.lt hM5.own k e).1
        have hP6 := rd_grown hM5.rd hg6 (fun e => by have := hnb b e; have := hM5.bw; omega)
        have hS6 := sole_grown hM5.sole hg6 hnb
        have hkp := rkeep_any b P1 w.heap.size doc lo bi (some (manyS ns)) v6 true w6 hP6 ⟨ho6, rfl⟩ hS6.size hbw (by intro l e; injection e with e; subst e; have := hM5.good.many.2.2; omega)
        obtain ⟨o6, c6, rfl⟩ := ownRow_shape ho6
        clear hP6 ho6 hg6 hnb
        go_wp2_with fail
        refine hkp.mono ?_
        intro e w7 hkpost
        obtain ⟨o7, c7, rfl, hM7⟩ := keptSt hS6 hkpost (Good.keep (manyS_ok hM5.good)) hbw
        clear hkp hkpost
        go_wp2_with fail
        go_roundg (doc.size - P1)
        case rel => exact ⟨_, _, f, q3, rfl, by omega, hM7, Hst.out⟩
        case measure => omega
      | false =>
        rw [b1] at m1 hst
        rw [if_neg (by simp)] at hst
        have m2 := fun w1 hP1 => rmark_any 43 43 rfl b P1 doc lo bi w1 hP1 q1.1 hd
        have q2 := markP_le doc 43 P1 q1.1
        obtain ⟨P2, hP2⟩ : ∃ P2, P2 = markP doc.data.toList 43 P1 := ⟨_, rfl⟩
        rw [← hP2] at m2 q2 hst
        have r1 := q1.2.1
        clear b1 hP1 q1 HK
        cases b2 : markB doc.data.toList 43 P1 with
        | true =>
          rw [b2] at m2 hst q2
          rw [if_pos rfl] at hst
          have q4 := q2.2.2 rfl
          have q3 := q2.1
          have Hst := Lib.hid hst
          clear hst b2 hP2 q2
          go_wp2_with fail
          refine m1.mono ?_
          rintro e w5 ⟨rfl, hP5, hS5⟩
          clear m1
          have hM5 := hM.sole' hS5 hP5
          have m2' := m2 _ hM5.rd
          clear m2 hM hP5 hS5
          go_wp2_with fail
          refine m2'.mono ?_
          rintro e w6 ⟨rfl, hP6, hS6⟩
          clear m2'
          have hM6 := hM5.sole' hS6 hP6
          clear hM5 hP6 hS6
          have hsz := hM6.sole.size
          have hcl := clone_any ns w.heap.size _ w6 hM6.own (by omega) hgl
          go_wp2_with fail
          refine hcl.mono ?_
          rintro e w7 ⟨v7, rfl, ho7, hb7⟩
          clear hcl
          have hM7 := hM6.sole' (Sole.of hb7) (hM6.rd.below hb7)
          have hM6o := Lib.hid hM6.own
          clear hM6
          obtain ⟨o7, c7, rfl⟩ := ownRow_shape ho7
          have hsz7 := hM7.sole.size
          have hmy := many_any w.heap.size ns _ w7 (ownRow_down ho7 hsz) hsz7 (by omega) hgl
          have hnb : ∀ k, (Value.slice o7 ns.length c7).ownBlock = some k → w6.heap.size ≤ k := fun k e => (World.ownsRow.lt ho7 k e).1
          have hvb : ∀ k, (Value.slice vo ns.length vc).ownBlock = some k → k < w6.heap.size := fun k e => by
            have h1 := (World.ownsRow.lt hM6o.out k e).2
            exact h1
          clear ho7 hb7
          go_wp2_with fail
          refine hmy.mono ?_
          rintro e w8 ⟨v8, rfl, ho8, hg8⟩
          clear hmy
          have hM8 : MkSt b doc ns ⟨P2, lo, bi⟩ (.slice vo ns.length vc) w w8 :=
            ⟨World.ownsRow.kept hM7.own hg8 (by
              cases e : (Value.slice vo ns.length vc).ownBlock with
              | none => exact .inl rfl
              | some k => exact .inr (fun e2 => by have h1 := hvb k e; have h2 := hnb k e2.symm; omega)),
             rd_grown hM7.rd hg8 (fun e => by have := hnb b e; have := hbw; omega), sole_grown hM7.sole hg8 (fun k e => by have := hnb k e; omega), hM7.good, hbw⟩
          clear hM7 hg8 hnb hvb
          obtain ⟨o8, c8, rfl⟩ := ownRow_shape ho8
          have hpa := two_parts hM8.own ho8
          have hb9 := (Below.refl w8.heap.size w8).alloc (Nat.le_refl _) (.cells #[.slice vo ns.length vc, .slice o8 (manyS ns).length c8] 43)
          have hM9 := hM8.sole' (Sole.of hb9) (hM8.rd.below hb9)
          have hmg := hM8.good.many
          have hfo := fold_any 3 1 [⟨ns, vo, vc⟩, ⟨manyS ns, o8, c8⟩] _ 2 _ hpa (by simp) (by intro p hp; simp at hp; rcases hp with rfl | rfl; exact ⟨hM8.good.ahead, by simp only; omega⟩; exact ⟨hmg.1, by simp only; omega⟩) (by simp)
          simp only [List.map_cons, List.map_nil, List.length_cons, List.length_nil, Nat.zero_add, Nat.reduceAdd] at hfo
          obtain ⟨r, hr⟩ : ∃ r, r = foldS 3 1 [ns, manyS ns] := ⟨_, rfl⟩
          rw [← hr] at hfo
          have hgr : ∀ x, r = some x → Ahead x ∧ x ≠ [] := fun x hx => fold2_ok hM8.good ⟨hmg.1, hmg.2.1⟩ x (hr.symm.trans hx)
          have hgl3 : ∀ x, r = some x → x.length ≤ 1048576 := fun x hx => by
            rw [hr] at hx
            unfold foldS at hx
            rw [if_neg (by simp)] at hx
            split at hx
            · cases hx
            · rename_i hnb
              injection hx with hx
              subst hx
              have := foldGo_len 3 [ns, manyS ns] 0 []
              simp at this hnb
              omega
          rw [← hr] at Hst
          clear hr hmg hpa hM8 ho8
          go_wp2_with fail
          refine hfo.mono ?_
          intro e w10 hfp
          obtain ⟨o10, n10, c10, ok, rfl, hmd, hb10⟩ := fold_made hfp
          clear hfo hfp
          have hM10 := hM9.sole' (Sole.of hb10) (hM9.rd.below hb10)
          have hkp := rkeep_any b P2 w.heap.size doc lo bi r _ ok w10 hM10.rd (hmd.down hM9.sole.size) hM10.sole.size hbw hgl3
          clear hmd hM9 hb9 hb10
          go_wp2_with fail
          refine hkp.mono ?_
          intro e w11 hkpost
          obtain ⟨o11, c11, rfl, hM11⟩ := keptSt hM10.sole hkpost (Good.keep hgr) hbw
          clear hkp hkpost
          go_wp2_with fail
          go_roundg (doc.size - P2)
          case rel => exact ⟨_, _, f, q3, rfl, by omega, hM11, Hst.out⟩
          case measure => omega
        | false =>
          rw [b2] at m2 hst
          rw [if_neg (by simp)] at hst
          have m3 := fun w1 hP1 => rmark_any 63 63 rfl b P2 doc lo bi w1 hP1 q2.1 hd
          have q5 := markP_le doc 63 P2 q2.1
          obtain ⟨P3, hP3⟩ : ∃ P3, P3 = markP doc.data.toList 63 P2 := ⟨_, rfl⟩
          rw [← hP3] at m3 q5 hst
          have r2 := q2.2.1
          clear b2 hP2 q2
          cases b3 : markB doc.data.toList 63 P2 with
          | true =>
            rw [b3] at m3 hst q5
            rw [if_pos rfl] at hst
            have q4 := q5.2.2 rfl
            have q3 := q5.1
            have Hst := Lib.hid hst
            clear hst b3 hP3 q5
            go_wp2_with fail
            refine m1.mono ?_
            rintro e w5 ⟨rfl, hP5, hS5⟩
            clear m1
            have hM5 := hM.sole' hS5 hP5
            have m2' := m2 _ hM5.rd
            clear m2 hM hP5 hS5
            go_wp2_with fail
            refine m2'.mono ?_
            rintro e w6 ⟨rfl, hP6, hS6⟩
            clear m2'
            have hM6 := hM5.sole' hS6 hP6
            clear hM5 hP6 hS6
            have m3' := m3 _ hM6.rd
            clear m3
            go_wp2_with fail
            refine m3'.mono ?_
            rintro e w7 ⟨rfl, hP7, hS7⟩
            clear m3'
            have hM7 := hM6.sole' hS7 hP7
            clear hM6 hP7 hS7
            have hb8 := (Below.refl w7.heap.size w7).alloc (Nat.le_refl _) (.cells (nodeRow emptyN).toArray 70)
            have hM8 := hM7.sole' (Sole.of hb8) (hM7.rd.below hb8)
            have ho8 : NodesOwn (w7.alloc (.cells (nodeRow emptyN).toArray 70)) w.heap.size (.slice (some ⟨w7.heap.size, 0, none⟩) 1 1) [emptyN] := nodesOwn_new w7 emptyN w.heap.size hM7.sole.size
            have hpa := two_parts (b := [emptyN]) hM8.own ho8
            rw [emptyN_row] at hpa hM8
            have hb9 := (Below.refl _ (w7.alloc (.cells #[.int .i64 1, .string ⟨#[]⟩, .int .i64 0, .int .i64 0] 70))).alloc (Nat.le_refl _) (.cells #[.slice vo ns.length vc, .slice (some ⟨w7.heap.size, 0, none⟩) [emptyN].length 1] 43)
            have hM9 := hM8.sole' (Sole.of hb9) (hM8.rd.below hb9)
            have hfo := fold_any 4 0 [⟨ns, vo, vc⟩, ⟨[emptyN], some ⟨w7.heap.size, 0, none⟩, 1⟩] _ 2 _ hpa (by simp) (by intro p hp; simp at hp; rcases hp with rfl | rfl; exact ⟨hM8.good.ahead, by simp only; omega⟩; exact ⟨Ahead.one _ rfl rfl, by simp⟩) (by simp)
            simp only [List.map_cons, List.map_nil, List.length_cons, List.length_nil, Nat.zero_add, Nat.reduceAdd, World.size_alloc] at hfo hM9
            obtain ⟨r, hr⟩ : ∃ r, r = foldS 4 0 [ns, [emptyN]] := ⟨_, rfl⟩
            rw [← hr] at hfo
            have hgr : ∀ x, r = some x → Ahead x ∧ x ≠ [] := fun x hx => fold2_ok hM8.good ⟨Ahead.one _ rfl rfl, by simp⟩ x (hr.symm.trans hx)
            have hgl3 : ∀ x, r = some x → x.length ≤ 1048576 := fun x hx => by
              rw [hr] at hx
              unfold foldS at hx
              rw [if_neg (by simp)] at hx
              split at hx
              · cases hx
              · rename_i hnb
                injection hx with hx
                subst hx
                have := foldGo_len 4 [ns, [emptyN]] 0 []
                simp at this hnb
                omega
            rw [← hr] at Hst
            clear hr hpa hM8 ho8 hM7 hb8
            go_wp2_with fail
            refine hfo.mono ?_
            intro e w10 hfp
            obtain ⟨o10, n10, c10, ok, rfl, hmd, hb10⟩ := fold_made hfp
            clear hfo hfp
            have hM10 := hM9.sole' (Sole.of hb10) (hM9.rd.below hb10)
            have hkp := rkeep_any b P3 w.heap.size doc lo bi r _ ok w10 hM10.rd (hmd.down hM9.sole.size) hM10.sole.size hbw hgl3
            clear hmd hM9 hb9 hb10
            go_wp2_with fail
            refine hkp.mono ?_
            intro e w11 hkpost
            obtain ⟨o11, c11, rfl, hM11⟩ := keptSt hM10.sole hkpost (Good.keep hgr) hbw
            clear hkp hkpost
            go_wp2_with fail
            go_roundg (doc.size - P3)
            case rel => exact ⟨_, _, f, q3, rfl, by omega, hM11, Hst.out⟩
            case measure => omega
          | false =>
            rw [b3] at m3 hst
            rw [if_neg (by simp)] at hst
            have q3 := q5.1
            have Hst := Lib.hid hst
            clear hst b3 hP3 q5
            go_wp2_with fail
            refine m1.mono ?_
            rintro e w5 ⟨rfl, hP5, hS5⟩
            clear m1
            have hM5 := hM.sole' hS5 hP5
            have m2' := m2 _ hM5.rd
            clear m2 hM hP5 hS5
            go_wp2_with fail
            refine m2'.mono ?_
            rintro e w6 ⟨rfl, hP6, hS6⟩
            clear m2'
            have hM6 := hM5.sole' hS6 hP6
            clear hM5 hP6 hS6
            have m3' := m3 _ hM6.rd
            clear m3
            go_wp2_with fail
            refine m3'.mono ?_
            rintro e w7 ⟨rfl, hP7, hS7⟩
            clear m3'
            have hM7 := hM6.sole' hS7 hP7
            clear hM6 hP7 hS7
            go_wp2_with fail
            rw [Exit.noGoto_ret]
            go_ret2
            exact PartPost.yes Hst.out rfl hM7.own hM7.rd hM7.sole
end Go.Proofs.YtnnbdlmilbcpjaaGreatDoor
