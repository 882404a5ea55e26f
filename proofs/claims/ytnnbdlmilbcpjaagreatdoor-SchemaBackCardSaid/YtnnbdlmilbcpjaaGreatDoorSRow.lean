/-
  Layer 7 (regex): the reader's method row. Conditions as before.
-/
import Derived.Test.YtnnbdlmilbcpjaaGreatDoorSItem
namespace Go.Proofs.YtnnbdlmilbcpjaaGreatDoor
open Go.RowKit
set_option linter.unusedVariables false
theorem ownsRow_apart {w : World} {B e e' size size' n n' : Nat} {v v' : Value} {xs xs' : List Value} (h : w.ownsRow B e size v n xs) (h' : w.ownsRow B e' size' v' n' xs') (hne : e ≠ e') : v.ownBlock = none ∨ v.ownBlock ≠ v'.ownBlock := by
  rcases h.2 with ⟨rfl, _⟩ | ⟨g, cap, cur, rfl, _, hg, _⟩
  · exact .inl rfl
  · refine .inr ?_
    rcases h'.2 with ⟨rfl, _⟩ | ⟨g', cap', cur', rfl, _, hg', _⟩
    · simp [Value.ownBlock]
    · simp only [Value.ownBlock]
      intro e1
      injection e1 with e1
      subst e1
      rw [hg] at hg'
      injection hg' with hg'
      injection hg' with _ e2 _
      exact hne e2
theorem info_nodes : (Tryz.prog.info? 43).map (fun i => (i.zero, i.size, i.bytes)) = some (some (.slice none 0 0), 1, 24) := by kernel_rfl
/-- what holds while parts are read -/
structure RwSt (b : Nat) (doc : ByteArray) (ps : List PV) (st : RSt) (v : Value) (w0 w : World) : Prop where
  row : w.ownsRow w0.heap.size 43 1 v ps.length (ps.map pvVal)
  own : ∀ p ∈ ps, NodesOwn w w0.heap.size (pvVal p) p.l
  rd : RdAt w b doc st.p st.long st.big
  sole : Sole b w0 w
  good : ∀ p ∈ ps, Good p.l
  bw : b < w0.heap.size
theorem RwSt.sole' {b : Nat} {doc : ByteArray} {ps : List PV} {st st' : RSt} {v : Value} {w0 w w' : World} (h : RwSt b doc ps st v w0 w) (hs : Sole b w w') (hP : RdAt w' b doc st'.p st'.long st'.big) : RwSt b doc ps st' v w0 w' :=
  ⟨World.ownsRow.kept h.row hs.grownBy (.inr (fun e => by have := (World.ownsRow.lt h.row b e).1; have := h.bw; omega)), fun p hp => World.ownsRow.kept (h.own p hp) hs.grownBy (.inr (fun e => by have := (World.ownsRow.lt (h.own p hp) b e).1; have := h.bw; omega)), hP, h.sole.trans hs, h.good, h.bw⟩
theorem RwSt.push {b : Nat} {doc : ByteArray} {ps : List PV} {st : RSt} {v v' : Value} {w0 w w' : World} (h : RwSt b doc ps st v w0 w) {x : PV} (hx : NodesOwn w w0.heap.size (pvVal x) x.l) (hg : Good x.l) (hgr : w.grownBy w' v.ownBlock)
    (hrow : w'.ownsRow w0.heap.size 43 1 v' (ps.length + 1) (ps.map pvVal ++ [pvVal x])) : RwSt b doc (ps ++ [x]) st v' w0 w' := by
  have hnb : ∀ k, v.ownBlock = some k → w0.heap.size ≤ k := fun k e => (World.ownsRow.lt h.row k e).1
  refine ⟨by rw [List.length_append, List.map_append]; simpa using hrow, fun p hp => ?_, rd_grown h.rd hgr (fun e => by have := hnb b e; have := h.bw; omega), sole_grown h.sole hgr hnb, fun p hp => ?_, h.bw⟩
  · rcases List.mem_append.1 hp with hp | hp
    · exact World.ownsRow.kept (h.own p hp) hgr (ownsRow_apart (h.own p hp) h.row (by decide))
    · simp at hp; subst hp; exact World.ownsRow.kept hx hgr (ownsRow_apart hx h.row (by decide))
  · rcases List.mem_append.1 hp with hp | hp
    · exact h.good p hp
    · simp at hp; subst hp; exact hg
theorem RwSt.parts {b : Nat} {doc : ByteArray} {ps : List PV} {st : RSt} {o : Option Addr} {c : Nat} {w0 w : World} (h : RwSt b doc ps st (.slice o ps.length c) w0 w) (h1 : 1 ≤ ps.length) : PartsAt w o c ps := by
  obtain ⟨g, c', hv, hbg, hgl, hlc, hcm⟩ := ownRow_nonnil h.row h1
  injection hv with e1 e2 e3
  subst e1; subst e3
  refine ⟨⟨by simp, hlc, hcm, fun _ => ⟨g, 0, rfl, hgl, fun j u hj => ?_⟩⟩, fun p hp => ?_⟩
  · rw [Nat.zero_add]
    have hj2 : j < ps.length * 1 := by have := (List.getElem?_eq_some_iff.1 hj).1; simpa using this
    exact (World.ownsRow.cellAt h.row j hj2).trans hj
  · obtain ⟨o, c, e, hn⟩ := nodesAt_of_own (h.own p hp)
    unfold pvVal at e
    injection e with e1 _ e3
    rw [e1, e3]
    exact hn
set_option maxHeartbeats 8000000 in
set_option maxRecDepth 100000 in
theorem row_any {b n K : Nat} {doc : ByteArray} {F : RSt → PartR} (hd : doc.size ≤ 65536) (c : UInt8) (ci : Int) (hci : ci = (c.toNat : Nat)) (op none_ : Int) (hF : PartC K b doc F n) (hFk : PartOk doc.data.toList F)
    (he : ∀ args wz, (callFunc K args).run Tryz.prog wz = .ok (.enter K args) wz) (st : RSt) (w : World) (hP : RdAt w b doc st.p st.long st.big) (hp : st.p ≤ doc.size) (hn : doc.size - st.p < n) :
    Calls Tryz.prog 149 #[.pointer (some ⟨b, 0, none⟩), .int .u8 ci, .int .i64 op, .int .i64 none_, .func (.func K) #[.pointer (some ⟨b, 0, none⟩)] #[]] w (PartPost (rowS doc.data.toList c op none_ F (doc.data.toList.length + 1) [] st) b doc w) := by
  subst hci
  obtain ⟨R, hR⟩ : ∃ R, R = rowS doc.data.toList c op none_ F (doc.data.toList.length + 1) [] st := ⟨_, rfl⟩
  rw [← hR]
  have HR := Lib.hid hR
  have hbw := hP.lt
  have hM0 : RwSt b doc [] st (.slice none 0 0) w w := ⟨World.ownsRow_nil _ _ _ _, fun p hp => by simp at hp, hP, Sole.refl b w, fun p hp => by simp at hp, hbw⟩
  obtain ⟨i0, hi, hz0, hz1, hz2⟩ := info_parts info_nodes
  clear hR
  go_enter Tryz.func149, Tryz.ntmps149
  go_wp2_with fail
  go_loopg [12] (doc.size - st.p) (fun k v wr => ∃ (ps : List PV) (st' : RSt) (f : Nat), st'.p ≤ doc.size ∧ st.p ≤ st'.p ∧ ps.length ≤ st'.p ∧ k = doc.size - st'.p ∧ k < f ∧ RwSt b doc ps st' v w wr ∧ Hid (R = rowS doc.data.toList c op none_ F f (ps.map PV.l) st'))
  case atStart => exact ⟨[], st, doc.data.toList.length + 1, hp, Nat.le_refl _, Nat.zero_le _, rfl, by rw [← Lib.size_eq]; omega, hM0, HR.out⟩
  case round =>
    obtain ⟨ps, st', f, hp', hle, hps, rfl, hf, hM, HK⟩ := hrel
    clear HR hM0 hP
    obtain ⟨f, rfl⟩ : ∃ f', f = f' + 1 := ⟨f - 1, by omega⟩
    have hst := HK.out
    unfold rowS at hst
    obtain ⟨vo, vc, rfl⟩ := ownRow_shape hM.row
    have m1 := hF st' wr hM.rd hp' (by omega)
    unfold PartPost at m1
    have hok := fun ns st1 h => hFk st' ns st1 (by rw [← Lib.size_eq]; exact hp') h
    cases hx : F st' with
    | none =>
      rw [hx] at hst m1
      simp only at hst m1
      have Hst := Lib.hid hst
      clear hst hx hok HK
      go_wp2_with fail
      refine m1.mono ?_
      rintro e w4 ⟨⟨⟨o, k, c', rfl⟩, p4, lo4, bi4, hp4, hP4⟩, hS4⟩
      clear m1
      go_wp2_with fail
      go_ret2
      exact PartPost.no Hst.out rfl hp4 hP4 (hM.sole.trans hS4)
    | some z =>
      obtain ⟨ns, st1⟩ := z
      have hk := hok _ _ hx
      rw [hx] at hst m1
      simp only at hst m1
      have hp1 : st1.p ≤ doc.size := by rw [Lib.size_eq]; exact hk.2.1
      have hk1 := hk.1
      have hg1 := hk.2.2
      have mm := fun w1 hP1 => rmark_any c _ rfl b st1.p doc st1.long st1.big w1 hP1 hp1 hd
      have q1 := markP_le doc c st1.p hp1
      obtain ⟨P1, hP1⟩ : ∃ P1, P1 = markP doc.data.toList c st1.p := ⟨_, rfl⟩
      rw [← hP1] at mm q1 hst
      clear hx hok HK hk hP1
      cases b1 : markB doc.data.toList c st1.p with
      | true =>
        rw [b1] at mm hst q1
        rw [if_pos rfl] at hst
        have q2 := q1.2.2 rfl
        have q3 := q1.1
        have Hst := Lib.hid hst
        clear hst b1 q1
        go_wp2_with fail
        refine m1.mono ?_
        rintro e w4 ⟨⟨⟨v, rfl, hown⟩, hP4⟩, hS4⟩
        clear m1
        obtain ⟨o4, c4, rfl⟩ := ownRow_shape hown
        have hM4 := hM.sole' hS4 (st' := st1) hP4
        have hown' : NodesOwn w4 w.heap.size (pvVal ⟨ns, o4, c4⟩) ns := ownRow_down hown hM.sole.size
        have hsz := hM4.sole.size
        have hM5 : RwSt b doc ps st1 (.slice vo ps.length vc) w (w4.alloc (.cells #[.slice o4 ns.length c4] 43)) := hM4.sole' ((Sole.refl b w4).alloc _) (hM4.rd.below ((Below.refl _ w4).alloc (Nat.le_refl _) _))
        have hown5 : NodesOwn (w4.alloc (.cells #[.slice o4 ns.length c4] 43)) w.heap.size (pvVal ⟨ns, o4, c4⟩) ns := World.ownsRow.alloc hown' _
        clear hM hM4 hown hown' hP4 hS4
        go_wp2_with (first
          | (at_builtin; go_must (refine wpList_append_own _ rfl _ _ 180 rfl w.heap.size 43 i0 (.slice none 0 0) 1 24 Tryz.underlying180 hi hz0 hz1 hz2 rfl (by decide) _ _ _ rfl hM5.row ⟨w4.heap.size, 0, none⟩ 1 1 [.slice o4 ns.length c4] rfl rfl (row_cells_new _ [.slice o4 ns.length c4] _ _ rfl) (fun z hz => by simp at hz; subst hz; rfl) (by unfold maxLen; omega) (by omega) (by simp; omega) ?_); intro v6 w6 hown6 hg6 hnil6)
          | fail)
        have hM6 := hM5.push (x := ⟨ns, o4, c4⟩) hown5 hg1 hg6 hown6
        have mm' := mm _ hM6.rd
        clear mm hM5 hown5 hg6 hown6 hnil6
        go_wp2_with fail
        refine mm'.mono ?_
        rintro e w7 ⟨rfl, hP7, hS7⟩
        clear mm'
        have hM7 := hM6.sole' hS7 (st' := ⟨P1, st1.long, st1.big⟩) hP7
        go_wp2_with fail
        go_roundg (doc.size - P1)
        case rel => exact ⟨ps ++ [⟨ns, o4, c4⟩], ⟨P1, st1.long, st1.big⟩, f, q3, by (try simp only); omega, by simp only [List.length_append, List.length_cons, List.length_nil]; omega, rfl, by (try simp only); omega, hM7, by have := Hst.out; show _ = _; rw [List.map_append]; exact this⟩
        case measure => omega
      | false =>
        rw [b1] at mm hst
        rw [if_neg (by simp)] at hst
        have q3 := q1.1
        clear b1 q1
        cases ps with
        | nil =>
          rw [List.map_nil, if_pos rfl] at hst
          have Hst := Lib.hid hst
          clear hst
          simp only [List.length_nil] at hM
          go_wp2_with fail
          refine m1.mono ?_
          rintro e w4 ⟨⟨⟨v, rfl, hown⟩, hP4⟩, hS4⟩
          clear m1
          obtain ⟨o4, c4, rfl⟩ := ownRow_shape hown
          have hM4 := hM.sole' hS4 (st' := st1) hP4
          have hown' : NodesOwn w4 w.heap.size (pvVal ⟨ns, o4, c4⟩) ns := ownRow_down hown hM.sole.size
          have hsz := hM4.sole.size
          have hM5 : RwSt b doc [] st1 (.slice vo 0 vc) w (w4.alloc (.cells #[.slice o4 ns.length c4] 43)) := hM4.sole' ((Sole.refl b w4).alloc _) (hM4.rd.below ((Below.refl _ w4).alloc (Nat.le_refl _) _))
          have hown5 : NodesOwn (w4.alloc (.cells #[.slice o4 ns.length c4] 43)) w.heap.size (pvVal ⟨ns, o4, c4⟩) ns := World.ownsRow.alloc hown' _
          clear hM hM4 hown hown' hP4 hS4
          have hrow5 := hM5.row
          simp only [List.length_nil] at hrow5
          go_wp2_with (first
            | (at_builtin; go_must (refine wpList_append_own _ rfl _ _ 180 rfl w.heap.size 43 i0 (.slice none 0 0) 1 24 Tryz.underlying180 hi hz0 hz1 hz2 rfl (by decide) _ _ _ rfl hrow5 ⟨w4.heap.size, 0, none⟩ 1 1 [.slice o4 ns.length c4] rfl rfl (row_cells_new _ [.slice o4 ns.length c4] _ _ rfl) (fun z hz => by simp at hz; subst hz; rfl) (by unfold maxLen; omega) (by omega) (by simp; omega) ?_); intro v6 w6 hown6 hg6 hnil6)
            | fail)
          have hM6 := hM5.push (x := ⟨ns, o4, c4⟩) hown5 hg1 hg6 hown6
          have mm' := mm _ hM6.rd
          clear mm hM5 hown5 hg6 hown6 hnil6 hrow5
          have hrow6 := hM6.row
          simp only [List.nil_append, List.length_cons, List.length_nil] at hrow6
          obtain ⟨o6, c6, rfl⟩ := ownRow_shape hrow6
          clear hrow6
          go_wp2_with fail
          refine mm'.mono ?_
          rintro e w7 ⟨rfl, hP7, hS7⟩
          clear mm'
          have hM7 := hM6.sole' hS7 (st' := ⟨P1, st1.long, st1.big⟩) hP7
          go_wp2_with fail
          go_ret2
          exact PartPost.yes Hst.out rfl (hM7.own ⟨ns, o4, c4⟩ (by simp)) hM7.rd hM7.sole
        | cons p0 pt =>
          rw [if_neg (by simp)] at hst
          generalize hps2 : p0 :: pt = ps at *
          have hl1 : 1 ≤ ps.length := by rw [← hps2]; simp
          have h10 : ((ps.length : Int) + 1 == 1) = false := by rw [beq_eq_false_iff_ne]; omega
          have h11 : (((ps.length + 1 : Nat) : Int) == 1) = false := by rw [beq_eq_false_iff_ne]; omega
          have Hst := Lib.hid hst
          clear hst hps2
          go_wp2_with fail
          refine m1.mono ?_
          rintro e w4 ⟨⟨⟨v, rfl, hown⟩, hP4⟩, hS4⟩
          clear m1
          obtain ⟨o4, c4, rfl⟩ := ownRow_shape hown
          have hM4 := hM.sole' hS4 (st' := st1) hP4
          have hown' : NodesOwn w4 w.heap.size (pvVal ⟨ns, o4, c4⟩) ns := ownRow_down hown hM.sole.size
          have hsz := hM4.sole.size
          have hM5 : RwSt b doc ps st1 (.slice vo ps.length vc) w (w4.alloc (.cells #[.slice o4 ns.length c4] 43)) := hM4.sole' ((Sole.refl b w4).alloc _) (hM4.rd.below ((Below.refl _ w4).alloc (Nat.le_refl _) _))
          have hown5 : NodesOwn (w4.alloc (.cells #[.slice o4 ns.length c4] 43)) w.heap.size (pvVal ⟨ns, o4, c4⟩) ns := World.ownsRow.alloc hown' _
          clear hM hM4 hown hown' hP4 hS4
          go_wp2_with (first
            | (at_builtin; go_must (refine wpList_append_own _ rfl _ _ 180 rfl w.heap.size 43 i0 (.slice none 0 0) 1 24 Tryz.underlying180 hi hz0 hz1 hz2 rfl (by decide) _ _ _ rfl hM5.row ⟨w4.heap.size, 0, none⟩ 1 1 [.slice o4 ns.length c4] rfl rfl (row_cells_new _ [.slice o4 ns.length c4] _ _ rfl) (fun z hz => by simp at hz; subst hz; rfl) (by unfold maxLen; omega) (by omega) (by simp; omega) ?_); intro v6 w6 hown6 hg6 hnil6)
            | fail)
          have hM6 := hM5.push (x := ⟨ns, o4, c4⟩) hown5 hg1 hg6 hown6
          have mm' := mm _ hM6.rd
          clear mm hM5 hown5 hg6 hown6 hnil6
          obtain ⟨o6, c6, hv6⟩ := ownRow_shape hM6.row
          have hl6 : (ps ++ [(⟨ns, o4, c4⟩ : PV)]).length = ps.length + 1 := by simp
          rw [hl6] at hv6
          subst hv6
          go_wp2_with fail
          refine mm'.mono ?_
          rintro e w7 ⟨rfl, hP7, hS7⟩
          clear mm'
          have hM7 := hM6.sole' hS7 (st' := ⟨P1, st1.long, st1.big⟩) hP7
          clear hM6 hP7 hS7
          rw [← hl6] at hM7
          have hfo := fold_any op none_ (ps ++ [(⟨ns, o4, c4⟩ : PV)]) o6 c6 w7 (hM7.parts (by omega)) (by omega) (fun p hp => ⟨(hM7.good p hp).ahead, by have := (hM7.good p hp).len; omega⟩) (by omega)
          rw [hl6] at hfo hM7
          have hmp : (ps ++ [(⟨ns, o4, c4⟩ : PV)]).map PV.l = ps.map PV.l ++ [ns] := by simp
          rw [hmp] at hfo
          obtain ⟨r, hr⟩ : ∃ r, r = foldS op none_ (ps.map PV.l ++ [ns]) := ⟨_, rfl⟩
          rw [← hr] at hfo Hst
          have hgr : ∀ x, r = some x → Good x := fun x hx => Good.fold (ps := ps.map PV.l ++ [ns]) (fun p hp => by
            rw [← hmp] at hp
            obtain ⟨y, hy, rfl⟩ := List.mem_map.1 hp
            exact hM7.good y hy) (hr.symm.trans hx)
          clear hr hmp hl6
          go_wp2_with fail
          refine hfo.mono ?_
          intro e w10 hfp
          obtain ⟨o10, n10, c10, ok, rfl, hmd, hb10⟩ := fold_made hfp
          clear hfo hfp
          have hM10 := hM7.sole' (Sole.of hb10) (st' := ⟨P1, st1.long, st1.big⟩) (hM7.rd.below hb10)
          have hkp := rkeep_any b P1 w.heap.size doc st1.long st1.big r _ ok w10 hM10.rd (hmd.down hM7.sole.size) hM10.sole.size hbw (fun l h => by have := (hgr l h).len; omega)
          have hsl := hM10.sole
          clear hmd hM7 hb10 hM10
          go_wp2_with fail
          refine hkp.mono ?_
          intro e w11 hkpost
          obtain ⟨o11, c11, rfl, hM11⟩ := keptSt hsl hkpost (Good.keep (fun l h => ⟨(hgr l h).ahead, (hgr l h).ne⟩)) hbw
          clear hkp hkpost
          go_wp2_with fail
          go_ret2
          exact PartPost.yes Hst.out rfl hM11.own hM11.rd hM11.sole
end Go.Proofs.YtnnbdlmilbcpjaaGreatDoor
