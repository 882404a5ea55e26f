/-
  utf.Check answers the first place where no character stands: its walk, for every row of bytes. Condition: the table of spans lies in memory.
-/
import Derived.Test.YtkehbepopegboaaGreatDoorUtf
namespace Go.Proofs.YtkehbepopegboaaGreatDoor
open Go.RowKit
theorem Spans.below {B : Nat} {w w' : World} (h : Spans w) (h0 : 0 < B) (hb : Below B w w') : Spans w' := fun i hi => by
  rw [hb.cell (p := ⟨0, i, none⟩) h0]; exact h i hi
theorem BytesAt.below {B : Nat} {w w' : World} {b off : Nat} {l : Bytes} (h : BytesAt w b off l) (hB : b < B) (hb : Below B w w') : BytesAt w' b off l := fun i hi => by
  rw [hb.cell (p := ⟨b, off + i, none⟩) hB]; exact h i hi
/-- what Check answers: the place, and the error's number -/
def chkE (l : Bytes) : Int := if chk l < l.length then 10 else 0
theorem tuple_ii {n r n' r' : Int} (h1 : n = n') (h2 : r = r') : (Value.tuple #[.int .i64 n, .int .i64 r]) = .tuple #[.int .i64 n', .int .i64 r'] := by rw [h1, h2]
theorem decV_some (r : Int) (n : Nat) : decV (some (r, n)) = .tuple #[.int .i32 r, .int .i64 n, .int .i64 0] := rfl
theorem decV_none : decV none = .tuple #[.int .i32 0, .int .i64 0, .int .i64 10] := rfl
set_option maxRecDepth 100000 in
theorem check_any (b off cap : Nat) (l : Bytes) (w : World) (hcap : l.length ≤ cap) (hm : cap ≤ 9223372036854775807) (hc : BytesAt w b off l) (hb : b < w.heap.size)
    (h0 : 0 < w.heap.size) (hs : Spans w) :
    Calls Tryz.prog 11 #[.slice (some ⟨b, off, none⟩) l.length cap] w fun e w' => e = .returned (.tuple #[.int .i64 (chk l : Nat), .int .i64 (chkE l)]) ∧ Below w.heap.size w w' := by
  go_enter Tryz.func11, Tryz.ntmps11
  go_wp2_with fail
  go_step3
  go_wp2_with fail
  go_step3
  go_wp2_with fail
  go_loopw [4] (fun i wr => ∃ k : Nat, i = .int .i64 k ∧ k ≤ l.length ∧ Hid (k + chk (l.drop k) = chk l) ∧ Below w.heap.size w wr) (fun i _ => l.length - (intOf i).toNat)
  case atStart => exact ⟨0, rfl, Nat.zero_le _, by show 0 + chk (l.drop 0) = chk l; simp, Below.refl _ _⟩
  case round =>
    obtain ⟨k, rfl, hk, Hk, hbel⟩ := hrel
    by_cases hlt : k < l.length
    · go_wp2_with fail
      refine (decode_any b off k cap l _ hcap hm (hc.below hb hbel) hlt (by have := hbel.size; omega) (hs.below h0 hbel)).mono ?_
      rintro e w' ⟨rfl, hb2⟩
      have hb3 := hbel.trans (hb2.mono hbel.size)
      have Hk2 := Hk.out
      cases hd : dec (l.drop k) with
      | none =>
        rw [chk_none hd] at Hk2
        rw [decV_none]
        have Hd := Lib.hid hd
        have Hk3 := Lib.hid Hk2
        clear hd Hk2 Hk
        go_wp2_with fail
        rw [Exit.noGoto_ret]
        go_ret2
        have := Hk3.out
        refine ⟨congrArg Ending.returned (tuple_ii (by omega) ?_), hb3⟩
        unfold chkE
        rw [if_pos (by omega)]
      | some x =>
        obtain ⟨r, n⟩ := x
        rw [decV_some]
        rw [chk_some hd] at Hk2
        have hnl := dec_len hd
        have hn2 := hnl.2.2
        rw [List.length_drop] at hn2
        rw [List.drop_drop] at Hk2
        have Hd := Lib.hid hd
        have Hk3 := Lib.hid Hk2
        clear hd Hk2 Hk
        have hnl2 := hnl.1
        clear hnl
        go_wp2_with fail
        go_roundw
        case rel => exact ⟨k + n, by go_num, by omega, by have := Hk3.out; show k + n + chk (l.drop (k + n)) = chk l; omega, hb3⟩
        case measure => simp [intOf]; omega
    · go_wp2_with fail
      rw [Exit.noGoto_ret]
      go_ret2
      have := Hk.out
      rw [List.drop_of_length_le (by omega), chk_nil] at this
      refine ⟨congrArg Ending.returned (tuple_ii (by omega) ?_), hbel⟩
      unfold chkE
      rw [if_neg (by omega)]
end Go.Proofs.YtkehbepopegboaaGreatDoor
