/-
  The chapter's example: what its document reads as.
-/
import Derived.Test.YtkehbepopegboaaGreatDoorTokPlain
import Derived.KernelRfl
namespace Go.Proofs.YtkehbepopegboaaGreatDoor
def awakeB : Bytes := [60, 97, 32, 98, 61, 39, 49, 39, 62, 120, 38, 97, 109, 112, 59, 121, 60, 47, 97, 62]
def awakeT : List Tok := [{ kind := 2, name := [97], attrs := [([98], [49])] }, { kind := 4, text := [120, 38, 121] }, { kind := 3, name := [97] }]
set_option maxRecDepth 100000 in
theorem awake_reads : allP awakeB = (awakeT, 0, 0) := by kernel_rfl
end Go.Proofs.YtkehbepopegboaaGreatDoor
