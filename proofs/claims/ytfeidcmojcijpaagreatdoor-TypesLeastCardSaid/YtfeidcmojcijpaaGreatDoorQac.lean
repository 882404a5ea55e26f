import Derived.Test.YtfeidcmojcijpaaGreatDoorQaa
set_option linter.all false
set_option maxRecDepth 100000
set_option maxHeartbeats 0
namespace Go.Proofs.YtfeidcmojcijpaaGreatDoor
open Go.RowKit Tryz
def bJ{a b:Bool}(c:a=b):Ending.returned (.bool a)=.returned (.bool b):=by rw[c]
def da{k:IntKind}{a b:Int}(c:a=b):Ending.returned (.int k a)=.returned (.int k b):=by rw[c]
def K9(t:ByteArray)(a:Nat)(b:a<=t.size)(w:World):(Instr.slice 9 (.string t) (some (.int .i64 a)) none none).run prog w=.ok (.string (t.extract a t.size)) w:=by rw[run_slice_string_from_if w _ t .i64 a iI,au ad];rfl
def xj(t:ByteArray)(a b:Nat)(c:a<=b)(d:b<=t.size)(w:World):(Instr.slice 9 (.string t) (some (.int .i64 a)) (some (.int .i64 b)) none).run prog w=.ok (.string (t.extract a b)) w:=by rw[run_slice_string w _ t .i64 .i64 a b iI ad ad ad];rfl
end Go.Proofs.YtfeidcmojcijpaaGreatDoor
