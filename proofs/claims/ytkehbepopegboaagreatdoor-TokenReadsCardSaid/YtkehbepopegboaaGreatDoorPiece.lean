/-
  The scanner of layer 3: how a declaration, a comment, data, an end and words are read: their walks. Conditions as before.
-/
import Derived.Test.YtkehbepopegboaaGreatDoorAttr
namespace Go.Proofs.YtkehbepopegboaaGreatDoor
open Go.RowKit
set_option linter.unusedVariables false
/-- a token's value -/
def tokV (t : Tok) (av : Value) : Value := .agg #[.int .i64 t.kind, .string ⟨t.name.toArray⟩, .string ⟨t.text.toArray⟩, av, .bool t.empty]
def attrCells (l : List (Bytes × Bytes)) : List Value := l.flatMap fun x => [.string ⟨x.1.toArray⟩, .string ⟨x.2.toArray⟩]
/-- a slice value leads to these attributes, in blocks from B on -/
def AttrsAt (w : World) (B : Nat) (v : Value) (l : List (Bytes × Bytes)) : Prop := w.ownsRow B 43 2 v l.length (attrCells l)
theorem AttrsAt.none (w : World) (B : Nat) : AttrsAt w B (.slice none 0 0) [] := World.ownsRow_nil w B _ 2
/-- a new variable of type token.Token, as it is laid -/
def FreshTok (w : World) (r : Nat) : Prop := w.heap[r]? = some (.cells #[.int .i64 0, .string ⟨#[]⟩, .string ⟨#[]⟩, .slice none 0 0, .bool false] 40 (0, 0))
theorem FreshTok.new (w : World) : FreshTok (w.alloc (.cells #[.int .i64 0, .string ⟨#[]⟩, .string ⟨#[]⟩, .slice none 0 0, .bool false] 40)) w.heap.size := heap_alloc_new w _
theorem FreshTok.sole {b r : Nat} {w w' : World} (h : FreshTok w r) (hs : Sole b w w') (hb : r ≠ b) : FreshTok w' r := (hs.block r (lt_of_block h) hb).trans h
theorem FreshTok.cell {w : World} {r : Nat} (h : FreshTok w r) : w.cell? ⟨r, 0, none⟩ = some (.int .i64 0) ∧ w.cell? ⟨r, 1, none⟩ = some (.string ⟨#[]⟩) ∧ w.cell? ⟨r, 2, none⟩ = some (.string ⟨#[]⟩) ∧ w.cell? ⟨r, 3, none⟩ = some (.slice none 0 0) ∧ w.cell? ⟨r, 4, none⟩ = some (.bool false) ∧ (∀ o, w.frozen? ⟨r, o, none⟩ = false) := by
  unfold FreshTok at h
  refine ⟨cell_of_row w r 0 _ _ _ h, cell_of_row w r 1 _ _ _ h, cell_of_row w r 2 _ _ _ h, cell_of_row w r 3 _ _ _ h, cell_of_row w r 4 _ _ _ h, ?_⟩
  intro o; simp [World.frozen?, h]
/-- what a reading function of the scanner owes -/
def PiecePost (res : Option (Tok × Nat)) (b p : Nat) (doc : ByteArray) (w : World) (e : Ending) (w' : World) : Prop :=
  match res with
  | none => (∃ (k : Int) (x y : ByteArray) (m : Bool), e = .returned (.tuple #[.agg #[.int .i64 k, .string x, .string y, .slice none 0 0, .bool m], .bool false])) ∧ Sole b w w'
  | some (t, k) => (∃ av, e = .returned (.tuple #[tokV t av, .bool true]) ∧ AttrsAt w' w.heap.size av t.attrs) ∧ PlaceAt w' b doc (p + k) ∧ Sole b w w'
theorem PiecePost.no {res : Option (Tok × Nat)} {b p : Nat} {doc : ByteArray} {w w' : World} {e : Ending} (h : res = none) (k : Int) (x y : ByteArray) (m : Bool) (he : e = .returned (.tuple #[.agg #[.int .i64 k, .string x, .string y, .slice none 0 0, .bool m], .bool false])) (hs : Sole b w w') : PiecePost res b p doc w e w' := by
  subst h; exact ⟨⟨k, x, y, m, he⟩, hs⟩
theorem PiecePost.yes {res : Option (Tok × Nat)} {b p : Nat} {doc : ByteArray} {w w' : World} {e : Ending} {t : Tok} {k : Nat} (h : res = some (t, k)) (ha : t.attrs = []) (he : e = .returned (.tuple #[tokV t (.slice none 0 0), .bool true])) (hP : PlaceAt w' b doc (p + k)) (hs : Sole b w w') : PiecePost res b p doc w e w' := by
  subst h; exact ⟨⟨_, he, by rw [ha]; exact AttrsAt.none _ _⟩, hP, hs⟩
def freshTokO : Obj := .cells #[.int .i64 0, .string ⟨#[]⟩, .string ⟨#[]⟩, .slice none 0 0, .bool false] 40
theorem Sole.set5 {b : Nat} {a w : World} (h : Sole b a w) {r : Nat} (hr : a.heap.size ≤ r) (v0 v1 v2 v3 v4 : Value) :
    Sole b a (((((w.setCell ⟨r, 0, none⟩ v0).setCell ⟨r, 1, none⟩ v1).setCell ⟨r, 2, none⟩ v2).setCell ⟨r, 3, none⟩ v3).setCell ⟨r, 4, none⟩ v4) :=
  ((((h.setNew hr v0).setNew hr v1).setNew hr v2).setNew hr v3).setNew hr v4
theorem PlaceAt.set5 {w : World} {b p : Nat} {doc : ByteArray} (h : PlaceAt w b doc p) {r : Nat} (hr : r ≠ b) (v0 v1 v2 v3 v4 : Value) :
    PlaceAt (((((w.setCell ⟨r, 0, none⟩ v0).setCell ⟨r, 1, none⟩ v1).setCell ⟨r, 2, none⟩ v2).setCell ⟨r, 3, none⟩ v3).setCell ⟨r, 4, none⟩ v4) b doc p :=
  ((((h.setNew v0 hr).setNew v1 hr).setNew v2 hr).setNew v3 hr).setNew v4 hr
set_option maxHeartbeats 8000000 in
set_option maxRecDepth 100000 in
theorem comment_any (b p : Nat) (doc : ByteArray) (w : World) (hP : PlaceAt w b doc p) (hp : p ≤ doc.size) (hd : doc.size ≤ 65536) (hg : Gl w) (hb9 : 9 ≤ b) (hm : Lib.hasPrefix (doc.data.toList.drop p) [60, 33, 45, 45] = true) :
    Calls Tryz.prog 21 #[.pointer (some ⟨b, 0, none⟩)] w (PiecePost (commentP (doc.data.toList.drop p)) b p doc w) := by
  have hb := hP.lt
  have hP1 := hP.below ((Below.refl _ w).alloc (Nat.le_refl _) freshTokO)
  have hF1 := FreshTok.new w
  have hg1 := hg.below (Nat.le_refl 9) ((Below.refl _ w).alloc hg.size freshTokO)
  have hS1 := (Sole.refl b w).alloc freshTokO
  unfold freshTokO at hP1 hg1 hS1
  have hA := (rfl : commentP (doc.data.toList.drop p) = commentP (doc.data.toList.drop p))
  conv at hA => rhs; unfold commentP; simp only [List.drop_drop]
  generalize commentP (doc.data.toList.drop p) = res at hA
  have hroom := prefix_room hm (by simp)
  simp only [List.length_cons, List.length_nil] at hroom
  have hsk := skipM_yes b p doc [60, 33, 45, 45] 4 rfl _ hP1 hp hd hm
  clear hm
  have HA := Lib.hid hA
  clear hA
  go_enter Tryz.func21, Tryz.ntmps21
  go_wp2_with fail
  refine hsk.mono ?_
  rintro e w1 ⟨rfl, hP2, hS2⟩
  have hg2 := hg1.sole hb9 hS2
  have hF2 := hF1.sole hS2 (by omega)
  have hS2' := hS1.trans hS2
  clear hsk
  rcases index_cases (doc.data.toList.drop (p + 4)) [45, 45] with hix | ⟨i, hix⟩
  · have hA := HA.out
    rw [hix, if_pos (by omega)] at hA
    have HA2 := Lib.hid hA
    have hun := untilM_no b (p + 4) doc [45, 45] _ hP2 (by omega) hd hg2 hix
    clear hA hix HA
    go_wp2_with fail
    refine hun.mono ?_
    rintro e w3 ⟨rfl, hP3, hS3⟩
    have hF3 := hF2.sole hS3 (by omega)
    have hS3' := hS2'.trans hS3
    obtain ⟨c0, c1, c2, c3, c4, ff⟩ := hF3.cell
    have f0 := ff 0
    have f1 := ff 1
    have f2 := ff 2
    have f3 := ff 3
    have f4 := ff 4
    clear ff
    clear hun
    go_wp2_with fail
    refine bodyPost_ret (v := .tuple #[.agg #[.int .i64 0, .string ⟨#[]⟩, .string ⟨#[]⟩, .slice none 0 0, .bool false], .bool false]) (by simp [results, Tryz.results21, go_sem, c0, c1, c2, c3, c4]) rfl (PiecePost.no HA2.out _ _ _ _ rfl (hS3'.set5 (Nat.le_refl _) _ _ _ _ _))
  · have hA := HA.out
    have hroom2 := index_room_doc hix (by omega)
    simp only [List.length_cons, List.length_nil] at hroom2
    rw [hix, if_neg (by omega), Int.toNat_natCast] at hA
    have hun := untilM_yes b (p + 4) i doc [45, 45] 2 rfl _ hP2 (by omega) hd hg2 hix
    have htx : doc.extract (p + 4) (p + 4 + i) = ⟨((doc.data.toList.drop (p + 4)).take i).toArray⟩ := by
      rw [Lib.extract_eq, Nat.add_sub_cancel_left]
    rw [htx] at hun
    generalize (doc.data.toList.drop (p + 4)).take i = tx at hA hun
    clear hix htx HA
    have HA := Lib.hid hA
    clear hA
    go_wp2_with fail
    refine hun.mono ?_
    rintro e w3 ⟨rfl, hP3, hS3⟩
    have hF3 := hF2.sole hS3 (by omega)
    have hS3' := hS2'.trans hS3
    have hP3' : PlaceAt w3 b doc (p + (4 + i + 2)) := by rw [show p + (4 + i + 2) = p + 4 + (i + 2) from by omega]; exact hP3
    have hA := HA.out
    clear hun
    cases hgt : Lib.hasPrefix (doc.data.toList.drop (p + (4 + i + 2))) [62] with
    | false =>
      rw [if_pos hgt] at hA
      have HA2 := Lib.hid hA
      have hsk := skipM_no b (p + (4 + i + 2)) doc [62] _ hP3' (by omega) hgt
      clear hA hgt HA
      go_wp2_with fail
      refine hsk.mono ?_
      rintro e w4 ⟨rfl, hP4, hS4⟩
      have hF4 := hF3.sole hS4 (by omega)
      have hS4' := hS3'.trans hS4
      obtain ⟨c0, c1, c2, c3, c4, ff⟩ := hF4.cell
      have f0 := ff 0
      have f1 := ff 1
      have f2 := ff 2
      have f3 := ff 3
      have f4 := ff 4
      clear ff
      clear hsk
      go_wp2_with fail
      refine bodyPost_ret (v := .tuple #[.agg #[.int .i64 0, .string ⟨#[]⟩, .string ⟨#[]⟩, .slice none 0 0, .bool false], .bool false]) (by simp [results, Tryz.results21, go_sem, c0, c1, c2, c3, c4]) rfl (PiecePost.no HA2.out _ _ _ _ rfl (hS4'.set5 (Nat.le_refl _) _ _ _ _ _))
    | true =>
      rw [if_neg (by simp [hgt])] at hA
      have HA2 := Lib.hid hA
      have hsk := skipM_yes b (p + (4 + i + 2)) doc [62] 1 rfl _ hP3' (by omega) hd hgt
      clear hA hgt HA
      go_wp2_with fail
      refine hsk.mono ?_
      rintro e w4 ⟨rfl, hP4, hS4⟩
      have hF4 := hF3.sole hS4 (by omega)
      have hS4' := hS3'.trans hS4
      obtain ⟨c0, c1, c2, c3, c4, ff⟩ := hF4.cell
      have f0 := ff 0
      have f1 := ff 1
      have f2 := ff 2
      have f3 := ff 3
      have f4 := ff 4
      clear ff
      clear hsk
      go_wp2_with fail
      refine bodyPost_ret (v := .tuple #[.agg #[.int .i64 5, .string ⟨#[]⟩, .string ⟨tx.toArray⟩, .slice none 0 0, .bool false], .bool true]) (by simp [results, Tryz.results21, go_sem, c0, c1, c2, c3, c4]) rfl (PiecePost.yes HA2.out rfl ?_ ?_ (hS4'.set5 (Nat.le_refl _) _ _ _ _ _))
      · unfold tokV; rfl
      · rw [show p + (4 + i + 2 + 1) = p + (4 + i + 2) + 1 from by omega]; exact hP4.set5 (by omega) _ _ _ _ _
set_option maxHeartbeats 8000000 in
set_option maxRecDepth 100000 in
theorem data_any (b p : Nat) (doc : ByteArray) (w : World) (hP : PlaceAt w b doc p) (hp : p ≤ doc.size) (hd : doc.size ≤ 65536) (hg : Gl w) (hb9 : 9 ≤ b) (hm : Lib.hasPrefix (doc.data.toList.drop p) [60, 33, 91, 67, 68, 65, 84, 65, 91] = true) :
    Calls Tryz.prog 22 #[.pointer (some ⟨b, 0, none⟩)] w (PiecePost (dataP (doc.data.toList.drop p)) b p doc w) := by
  have hb := hP.lt
  have hP1 := hP.below ((Below.refl _ w).alloc (Nat.le_refl _) freshTokO)
  have hF1 := FreshTok.new w
  have hg1 := hg.below (Nat.le_refl 9) ((Below.refl _ w).alloc hg.size freshTokO)
  have hS1 := (Sole.refl b w).alloc freshTokO
  unfold freshTokO at hP1 hg1 hS1
  have hA := (rfl : dataP (doc.data.toList.drop p) = dataP (doc.data.toList.drop p))
  conv at hA => rhs; unfold dataP; simp only [List.drop_drop]
  generalize dataP (doc.data.toList.drop p) = res at hA
  have hroom := prefix_room hm (by simp)
  simp only [List.length_cons, List.length_nil] at hroom
  have hsk := skipM_yes b p doc [60, 33, 91, 67, 68, 65, 84, 65, 91] 9 rfl _ hP1 hp hd hm
  clear hm
  have HA := Lib.hid hA
  clear hA
  go_enter Tryz.func22, Tryz.ntmps22
  go_wp2_with fail
  refine hsk.mono ?_
  rintro e w1 ⟨rfl, hP2, hS2⟩
  have hg2 := hg1.sole hb9 hS2
  have hF2 := hF1.sole hS2 (by omega)
  have hS2' := hS1.trans hS2
  clear hsk
  rcases index_cases (doc.data.toList.drop (p + 9)) [93, 93, 62] with hix | ⟨i, hix⟩
  · have hA := HA.out
    rw [hix, if_pos (by omega)] at hA
    have HA2 := Lib.hid hA
    have hun := untilM_no b (p + 9) doc [93, 93, 62] _ hP2 (by omega) hd hg2 hix
    clear hA hix HA
    go_wp2_with fail
    refine hun.mono ?_
    rintro e w3 ⟨rfl, hP3, hS3⟩
    have hF3 := hF2.sole hS3 (by omega)
    have hS3' := hS2'.trans hS3
    obtain ⟨c0, c1, c2, c3, c4, ff⟩ := hF3.cell
    have f0 := ff 0
    have f1 := ff 1
    have f2 := ff 2
    have f3 := ff 3
    have f4 := ff 4
    clear ff
    clear hun
    go_wp2_with fail
    refine bodyPost_ret (v := .tuple #[.agg #[.int .i64 4, .string ⟨#[]⟩, .string ⟨#[]⟩, .slice none 0 0, .bool false], .bool false]) (by simp [results, Tryz.results22, go_sem, c0, c1, c2, c3, c4]) rfl (PiecePost.no HA2.out _ _ _ _ rfl (hS3'.set5 (Nat.le_refl _) _ _ _ _ _))
  · have hA := HA.out
    have hroom2 := index_room_doc hix (by omega)
    simp only [List.length_cons, List.length_nil] at hroom2
    rw [hix, if_neg (by omega), Int.toNat_natCast] at hA
    have hun := untilM_yes b (p + 9) i doc [93, 93, 62] 3 rfl _ hP2 (by omega) hd hg2 hix
    have htx : doc.extract (p + 9) (p + 9 + i) = ⟨((doc.data.toList.drop (p + 9)).take i).toArray⟩ := by
      rw [Lib.extract_eq, Nat.add_sub_cancel_left]
    rw [htx] at hun
    generalize (doc.data.toList.drop (p + 9)).take i = tx at hA hun
    clear hix htx HA
    have HA2 := Lib.hid hA
    clear hA
    go_wp2_with fail
    refine hun.mono ?_
    rintro e w3 ⟨rfl, hP3, hS3⟩
    have hF3 := hF2.sole hS3 (by omega)
    have hS3' := hS2'.trans hS3
    obtain ⟨c0, c1, c2, c3, c4, ff⟩ := hF3.cell
    have f0 := ff 0
    have f1 := ff 1
    have f2 := ff 2
    have f3 := ff 3
    have f4 := ff 4
    clear ff
    clear hun
    go_wp2_with fail
    refine bodyPost_ret (v := .tuple #[.agg #[.int .i64 4, .string ⟨#[]⟩, .string ⟨tx.toArray⟩, .slice none 0 0, .bool false], .bool true]) (by simp [results, Tryz.results22, go_sem, c0, c1, c2, c3, c4]) rfl (PiecePost.yes HA2.out rfl ?_ ?_ (hS3'.set5 (Nat.le_refl _) _ _ _ _ _))
    · unfold tokV; rfl
    · rw [show p + (9 + i + 3) = p + 9 + (i + 3) from by omega]; exact hP3.set5 (by omega) _ _ _ _ _
set_option maxHeartbeats 8000000 in
set_option maxRecDepth 100000 in
theorem end_any (b p : Nat) (doc : ByteArray) (w : World) (hP : PlaceAt w b doc p) (hp : p ≤ doc.size) (hd : doc.size ≤ 65536) (hg : Gl w) (hb9 : 9 ≤ b) (hm : Lib.hasPrefix (doc.data.toList.drop p) [60, 47] = true) :
    Calls Tryz.prog 23 #[.pointer (some ⟨b, 0, none⟩)] w (PiecePost (endP (doc.data.toList.drop p)) b p doc w) := by
  have hb := hP.lt
  have hP1 := hP.below ((Below.refl _ w).alloc (Nat.le_refl _) freshTokO)
  have hF1 := FreshTok.new w
  have hg1 := hg.below (Nat.le_refl 9) ((Below.refl _ w).alloc hg.size freshTokO)
  have hS1 := (Sole.refl b w).alloc freshTokO
  unfold freshTokO at hP1 hg1 hS1
  have hA := (rfl : endP (doc.data.toList.drop p) = endP (doc.data.toList.drop p))
  conv at hA => rhs; unfold endP; simp only [List.drop_drop, take_partN]
  generalize endP (doc.data.toList.drop p) = res at hA
  have hroom := prefix_room hm (by simp)
  simp only [List.length_cons, List.length_nil] at hroom
  have hle := partN_le (doc.data.toList.drop (p + 2))
  rw [List.length_drop, ← Lib.size_eq] at hle
  have hex : (doc.extract (p + 2) (p + 2 + partN (doc.data.toList.drop (p + 2)))) = ⟨((doc.data.toList.drop (p + 2)).takeWhile fun c => partB (c.toNat : Nat)).toArray⟩ := by
    rw [Lib.extract_eq, Nat.add_sub_cancel_left, take_partN]
  have hna := fun w h => name_any b (p + 2) doc w h (by omega) hd
  rw [hex] at hna
  generalize partN (doc.data.toList.drop (p + 2)) = n at hA hle hna
  generalize ((doc.data.toList.drop (p + 2)).takeWhile fun c => partB (c.toNat : Nat)) = tw at hA hna
  have Hna := Lib.hid hna
  clear hex hna
  have hsk := skipM_yes b p doc [60, 47] 2 rfl _ hP1 hp hd hm
  clear hm
  have HA := Lib.hid hA
  clear hA
  go_enter Tryz.func23, Tryz.ntmps23
  go_wp2_with fail
  refine hsk.mono ?_
  rintro e w1 ⟨rfl, hP2, hS2⟩
  have hg2 := hg1.sole hb9 hS2
  have hF2 := hF1.sole hS2 (by omega)
  have hS2' := hS1.trans hS2
  clear hsk
  have hna := Hna.out _ hP2
  clear Hna
  go_wp2_with fail
  refine hna.mono ?_
  rintro e w3 ⟨rfl, hP3, hS3⟩
  have hF3 := hF2.sole hS3 (by omega)
  have hS3' := hS2'.trans hS3
  have hg3 := hg2.sole hb9 hS3
  clear hna
  have hA := HA.out
  cases hin : isName tw with
  | false =>
    rw [if_pos hin] at hA
    have HA2 := Lib.hid hA
    clear hA hin HA
    obtain ⟨c0, c1, c2, c3, c4, ff⟩ := hF3.cell
    have f0 := ff 0
    have f1 := ff 1
    have f2 := ff 2
    have f3 := ff 3
    have f4 := ff 4
    clear ff
    go_wp2_with fail
    refine bodyPost_ret (v := .tuple #[.agg #[.int .i64 0, .string ⟨#[]⟩, .string ⟨#[]⟩, .slice none 0 0, .bool false], .bool false]) (by simp [results, Tryz.results23, go_sem, c0, c1, c2, c3, c4]) rfl (PiecePost.no HA2.out _ _ _ _ rfl (hS3'.set5 (Nat.le_refl _) _ _ _ _ _))
  | true =>
    rw [if_neg (by simp [hin])] at hA
    have hbl := blanks_any b (p + 2 + n) doc _ hP3 (by omega) hd
    have hgl := blanksN_le (doc.data.toList.drop (p + 2 + n))
    rw [List.length_drop, ← Lib.size_eq] at hgl
    rw [show p + (2 + n) = p + 2 + n from by omega] at hA
    generalize blanksN (doc.data.toList.drop (p + 2 + n)) = g1 at hA hbl hgl
    clear HA hin
    have HA := Lib.hid hA
    clear hA
    go_wp2_with fail
    refine hbl.mono ?_
    rintro e w4 ⟨rfl, hP4, hS4⟩
    have hF4 := hF3.sole hS4 (by omega)
    have hS4' := hS3'.trans hS4
    have hP4' : PlaceAt w4 b doc (p + (2 + n + g1)) := by rw [show p + (2 + n + g1) = p + 2 + n + g1 from by omega]; exact hP4
    have hA := HA.out
    clear hbl
    cases hgt : Lib.hasPrefix (doc.data.toList.drop (p + (2 + n + g1))) [62] with
    | false =>
      rw [if_pos hgt] at hA
      have HA2 := Lib.hid hA
      have hsk := skipM_no b (p + (2 + n + g1)) doc [62] _ hP4' (by omega) hgt
      clear hA hgt HA
      go_wp2_with fail
      refine hsk.mono ?_
      rintro e w5 ⟨rfl, hP5, hS5⟩
      have hF5 := hF4.sole hS5 (by omega)
      have hS5' := hS4'.trans hS5
      obtain ⟨c0, c1, c2, c3, c4, ff⟩ := hF5.cell
      have f0 := ff 0
      have f1 := ff 1
      have f2 := ff 2
      have f3 := ff 3
      have f4 := ff 4
      clear ff
      clear hsk
      go_wp2_with fail
      refine bodyPost_ret (v := .tuple #[.agg #[.int .i64 3, .string ⟨tw.toArray⟩, .string ⟨#[]⟩, .slice none 0 0, .bool false], .bool false]) (by simp [results, Tryz.results23, go_sem, c0, c1, c2, c3, c4]) rfl (PiecePost.no HA2.out _ _ _ _ rfl (hS5'.set5 (Nat.le_refl _) _ _ _ _ _))
    | true =>
      rw [if_neg (by simp [hgt])] at hA
      have HA2 := Lib.hid hA
      have hsk := skipM_yes b (p + (2 + n + g1)) doc [62] 1 rfl _ hP4' (by omega) hd hgt
      clear hA hgt HA
      go_wp2_with fail
      refine hsk.mono ?_
      rintro e w5 ⟨rfl, hP5, hS5⟩
      have hF5 := hF4.sole hS5 (by omega)
      have hS5' := hS4'.trans hS5
      obtain ⟨c0, c1, c2, c3, c4, ff⟩ := hF5.cell
      have f0 := ff 0
      have f1 := ff 1
      have f2 := ff 2
      have f3 := ff 3
      have f4 := ff 4
      clear ff
      clear hsk
      go_wp2_with fail
      refine bodyPost_ret (v := .tuple #[.agg #[.int .i64 3, .string ⟨tw.toArray⟩, .string ⟨#[]⟩, .slice none 0 0, .bool false], .bool true]) (by simp [results, Tryz.results23, go_sem, c0, c1, c2, c3, c4]) rfl (PiecePost.yes HA2.out rfl ?_ ?_ (hS5'.set5 (Nat.le_refl _) _ _ _ _ _))
      · unfold tokV; rfl
      · rw [show p + (2 + n + g1 + 1) = p + (2 + n + g1) + 1 from by omega]; exact hP5.set5 (by omega) _ _ _ _ _
end Go.Proofs.YtkehbepopegboaaGreatDoor
