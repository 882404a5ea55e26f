/-
  Layer 9 (schema): read: the type of a line: its walk. Conditions as before.
-/
import Derived.Test.YtnnbdlmilbcpjaaGreatDoorSLine6
import Derived.Test.YtnnbdlmilbcpjaaGreatDoorSFind
namespace Go.Proofs.YtnnbdlmilbcpjaaGreatDoor
open Go.RowKit
set_option linter.unusedVariables false
def partsRow (b : Nat) : Array Value := ((List.range 7).map fun k => Value.func (.func (partF k)) #[.pointer (some ⟨b, 0, none⟩)] #[]).toArray
theorem partsRow_at (b k : Nat) (hk : k < 7) : (partsRow b)[k]? = some (.func (.func (partF k)) #[.pointer (some ⟨b, 0, none⟩)] #[]) := by simp [partsRow, hk]
def zeroType : Value := .agg #[.string ⟨#[]⟩, .string ⟨#[]⟩, .slice none 0 0, .string ⟨#[]⟩, .bool false, .slice none 0 0]
/-- a type just made: its rows are the call's own -/
def TypeNew (w : World) (B : Nat) (x : TyV) : Prop := WordsOwn w B (.slice x.ao x.t.attrs.length x.ac) x.t.attrs ∧ NodesOwn w B (.slice x.no x.t.nodes.length x.nc) x.t.nodes
/-- what read owes -/
def ReadPost (r : Option SType) (w : World) (e : Ending) (w' : World) : Prop :=
  (match r with
   | none => e = .returned (.tuple #[zeroType, .bool false])
   | some t => ∃ x : TyV, x.t = t ∧ e = .returned (.tuple #[typeVal x, .bool true]) ∧ TypeNew w' w.heap.size x) ∧ Below w.heap.size w w'
theorem ReadPost.no {r : Option SType} {w w' : World} {e : Ending} (h : r = none) (he : e = .returned (.tuple #[zeroType, .bool false])) (hb : Below w.heap.size w w') : ReadPost r w e w' := by
  subst h; exact ⟨he, hb⟩
theorem ReadPost.yes {r : Option SType} {t : SType} {w w' : World} {e : Ending} (h : r = some t) (x : TyV) (hx : x.t = t) (he : e = .returned (.tuple #[typeVal x, .bool true])) (hn : TypeNew w' w.heap.size x) (hb : Below w.heap.size w w') : ReadPost r w e w' := by
  subst h; exact ⟨⟨x, hx, he, hn⟩, hb⟩
set_option maxHeartbeats 4000000 in
set_option maxRecDepth 100000 in
theorem read_any (s : Bytes) (w : World) (hl : s.length ≤ 65536) (ha : Asc s) :
    Calls Tryz.prog 39 #[.string ⟨s.toArray⟩] w (ReadPost (readL s) w) := by
  obtain ⟨R, hR⟩ : ∃ R, R = readL s := ⟨_, rfl⟩
  rw [← hR]
  rw [readL_cont] at hR
  have HR := Lib.hid hR
  clear hR
  go_enter Tryz.func39, Tryz.ntmps39
  go_wp2_with fail
  obtain ⟨os, hos⟩ : ∃ os : List Obj, os = [.cells #[.string ⟨#[]⟩, .string ⟨#[]⟩, .slice none 0 0, .string ⟨#[]⟩, .bool false, .slice none 0 0] 47, .cells (lineRow ⟨s, [], [], .slice none 0 0, [], false, .slice none 0 0⟩) 121, .cells (partsRow (w.heap.size + 1)) 26] := ⟨_, rfl⟩
  obtain ⟨W0, hW0⟩ : ∃ W0, W0 = allocs w os := ⟨_, rfl⟩
  have hz0 : W0.heap.size = w.heap.size + 3 := by rw [hW0, allocs_size, hos]; rfl
  have hat : ∀ i, i < 3 → W0.heap[w.heap.size + i]? = os[i]? := fun i hi => by rw [hW0]; exact allocs_at w os i (by rw [hos]; exact hi)
  have hxH : W0.heap[w.heap.size]? = some (.cells #[.string ⟨#[]⟩, .string ⟨#[]⟩, .slice none 0 0, .string ⟨#[]⟩, .bool false, .slice none 0 0] 47 (0, 0)) := (hat 0 (by omega)).trans (by rw [hos]; rfl)
  have hxL : LnAt W0 (w.heap.size + 1) ⟨s, [], [], .slice none 0 0, [], false, .slice none 0 0⟩ := (hat 1 (by omega)).trans (by rw [hos]; rfl)
  have hxG : W0.heap[w.heap.size + 2]? = some (.cells (partsRow (w.heap.size + 1)) 26 (0, 0)) := (hat 2 (by omega)).trans (by rw [hos]; rfl)
  have hb0 : Below w.heap.size w W0 := by rw [hW0]; exact allocs_below _ _
  rw [hos] at hW0
  clear hat hos
  have hS0 : LSt (w.heap.size + 1) (w.heap.size + 3) W0 0 ⟨s, [], [], [], [], false, []⟩ W0 :=
    ⟨⟨_, hxL, rfl, rfl, rfl, rfl, World.ownsRow_nil _ _ _ _, World.ownsRow_nil _ _ _ _, fun _ => ⟨rfl, rfl, rfl⟩⟩, fun _ => ⟨ha, hl⟩, fun _ => rfl, fun _ => rfl, fun _ => ⟨rfl, rfl⟩, Far.refl _ _ _, by omega, by omega⟩
  go_loopw [26] (fun v wr => ∃ (k : Nat) (p : PL), v = .int .i64 k ∧ k ≤ 7 ∧ LSt (w.heap.size + 1) (w.heap.size + 3) W0 k p wr ∧ Hid (R = contP k p)) (fun v _ => 7 - (intOf v).toNat)
  case atStart => exact ⟨0, _, rfl, by omega, by rw [hW0] at hS0; rw [hW0]; exact hS0, HR.out⟩
  case round =>
    obtain ⟨k, p, rfl, hk, hS, HK⟩ := hrel
    clear HR hS0
    have hfar := hS.far
    have hxHr := (hfar.block w.heap.size (by omega) (by omega)).trans hxH
    have hxGr := (hfar.block (w.heap.size + 2) (by omega) (by omega)).trans hxG
    have hbe := hb0.trans (hfar.below (C := w.heap.size) (by omega) (by omega) (by omega))
    by_cases hlt : k < 7
    · have hdk : decide ((k : Int) < 7) = true := by rw [decide_eq_true_eq]; omega
      have b1 : (0 : Int) ≤ (k : Int) := by omega
      have b2 : (k : Int) < 7 := by omega
      have hc := cell_of_row wr (w.heap.size + 2) k _ _ _ hxGr
      rw [partsRow_at _ k hlt] at hc
      have hcl := lpart_any (w.heap.size + 1) (w.heap.size + 3) W0 k hlt p wr hS
      have hen := enter_part k hlt
      have hst := HK.out
      unfold StepPost at hcl
      generalize partF k = F at hc hcl hen
      have Hst := Lib.hid hst
      have X := Lib.hid (And.intro hxH (And.intro hxG hb0))
      clear hst HK hxH hxG hb0 hxL hxHr hxGr hW0 hS hfar
      go_wp2_with fail
      refine hcl.mono ?_
      rintro e w3 ⟨ok, rfl, hno, hyes⟩
      clear hcl hc
      cases ok with
      | false =>
        obtain ⟨hn1, hF3⟩ := hno rfl
        have hRe : R = none := by rw [Hst.out]; exact hn1
        have HRe := Lib.hid hRe
        have hxH3 := (hF3.block w.heap.size (by omega) (by omega)).trans X.out.1
        have z0 := cell_of_row w3 w.heap.size 0 _ _ _ hxH3
        have z1 := cell_of_row w3 w.heap.size 1 _ _ _ hxH3
        have z2 := cell_of_row w3 w.heap.size 2 _ _ _ hxH3
        have z3 := cell_of_row w3 w.heap.size 3 _ _ _ hxH3
        have z4 := cell_of_row w3 w.heap.size 4 _ _ _ hxH3
        have z5 := cell_of_row w3 w.heap.size 5 _ _ _ hxH3
        have fz : ∀ o, w3.frozen? ⟨w.heap.size, o, none⟩ = false := fun o => by simp [World.frozen?, hxH3]
        have hbe3 := X.out.2.2.trans (hF3.below (C := w.heap.size) (by omega) (by omega) (by omega))
        clear hno hyes hn1 hRe X hF3 hxH3
        go_wp2_with fail
        refine bodyPost_ret (v := .tuple #[zeroType, .bool false]) (by simp [results, Tryz.results39, go_sem, z0, z1, z2, z3, z4, z5, zeroType]) rfl (ReadPost.no HRe.out rfl ?_)
        exact (((((hbe3.setCell (Nat.le_refl _) _).setCell (Nat.le_refl _) _).setCell (Nat.le_refl _) _).setCell (Nat.le_refl _) _).setCell (Nat.le_refl _) _).setCell (Nat.le_refl _) _
      | true =>
        obtain ⟨p', hp', hS'⟩ := hyes rfl
        have hRe : R = contP (k + 1) p' := by rw [Hst.out]; exact hp'
        have HRe := Lib.hid hRe
        have hxH := X.out.1
        clear hno hyes hp' hRe
        go_wp2_with fail
        go_roundw
        case rel => exact ⟨k + 1, p', by go_num, by omega, hS', HRe.out⟩
        case measure => simp [intOf]; omega
    · have hdk : decide ((k : Int) < 7) = false := by rw [decide_eq_false_iff_not]; omega
      obtain rfl : k = 7 := by omega
      obtain ⟨y, hL, hn, hlb, hkey, ht, hw, hns, _⟩ := hS.ex
      obtain ⟨ao, ac, hav⟩ := ownRow_shape hw
      obtain ⟨no, nc, hnv⟩ := ownRow_shape hns
      obtain ⟨rest, name, label, av, key, text, nv⟩ := y
      obtain ⟨prest, pname, plabel, pattrs, pkey, ptext, pnodes⟩ := p
      simp only at hn hlb hkey ht hav hnv hw hns
      subst hn; subst hlb; subst hkey; subst ht; subst hav; subst hnv
      have hst : R = some ⟨name, label, pattrs, key, text, pnodes⟩ := HK.out
      have Hst := Lib.hid hst
      have Hown := Lib.hid (And.intro hw hns)
      have c1 := hL.c1
      have c2 := hL.c2
      have c3 := hL.c3
      have c4 := hL.c4
      have c5 := hL.c5
      have c6 := hL.c6
      simp only at c1 c2 c3 c4 c5 c6
      have z0 := cell_of_row wr w.heap.size 0 _ _ _ hxHr
      have z1 := cell_of_row wr w.heap.size 1 _ _ _ hxHr
      have z2 := cell_of_row wr w.heap.size 2 _ _ _ hxHr
      have z3 := cell_of_row wr w.heap.size 3 _ _ _ hxHr
      have z4 := cell_of_row wr w.heap.size 4 _ _ _ hxHr
      have z5 := cell_of_row wr w.heap.size 5 _ _ _ hxHr
      have fz : ∀ o, wr.frozen? ⟨w.heap.size, o, none⟩ = false := fun o => by simp [World.frozen?, hxHr]
      clear hS hfar hxHr hxGr hL hw hns HK hst hxH hxL hxG hb0 hW0
      go_wp2_with fail
      refine bodyPost_ret (v := .tuple #[.agg #[.string ⟨name.toArray⟩, .string ⟨label.toArray⟩, .slice ao pattrs.length ac, .string ⟨key.toArray⟩, .bool text, .slice no pnodes.length nc], .bool true]) (by simp [results, Tryz.results39, go_sem, z0, z1, z2, z3, z4, z5]) rfl (ReadPost.yes Hst.out ⟨⟨name, label, pattrs, key, text, pnodes⟩, ao, ac, no, nc⟩ rfl rfl ?_ (((((((hbe.setCell (Nat.le_refl _) _).setCell (Nat.le_refl _) _).setCell (Nat.le_refl _) _).setCell (Nat.le_refl _) _).setCell (Nat.le_refl _) _).setCell (Nat.le_refl _) _)))
      have hset : ∀ (wz : World) (o : Nat) (u : Value), wz.grownBy (wz.setCell ⟨w.heap.size, o, none⟩ u) (some w.heap.size) := fun wz o u => ⟨rfl, rfl, rfl, by simp [World.setCell], fun k hk hb => Below.heap_setCell _ _ _ _ (fun e => hb (by rw [e]))⟩
      have hk1 : ∀ (wz : World) (o : Nat) (u : Value), WordsOwn wz (w.heap.size + 3) (.slice ao pattrs.length ac) pattrs ∧ NodesOwn wz (w.heap.size + 3) (.slice no pnodes.length nc) pnodes → WordsOwn (wz.setCell ⟨w.heap.size, o, none⟩ u) (w.heap.size + 3) (.slice ao pattrs.length ac) pattrs ∧ NodesOwn (wz.setCell ⟨w.heap.size, o, none⟩ u) (w.heap.size + 3) (.slice no pnodes.length nc) pnodes := fun wz o u hh =>
        ⟨World.ownsRow.kept hh.1 (hset wz o u) (.inr (fun e => by have := (World.ownsRow.lt hh.1 _ e).1; omega)), World.ownsRow.kept hh.2 (hset wz o u) (.inr (fun e => by have := (World.ownsRow.lt hh.2 _ e).1; omega))⟩
      have hfin := hk1 _ 5 (.slice no pnodes.length nc) (hk1 _ 4 (.bool text) (hk1 _ 3 (.string ⟨key.toArray⟩) (hk1 _ 2 (.slice ao pattrs.length ac) (hk1 _ 1 (.string ⟨label.toArray⟩) (hk1 wr 0 (.string ⟨name.toArray⟩) Hown.out)))))
      exact ⟨ownRow_down hfin.1 (by omega), ownRow_down hfin.2 (by omega)⟩
end Go.Proofs.YtnnbdlmilbcpjaaGreatDoor
