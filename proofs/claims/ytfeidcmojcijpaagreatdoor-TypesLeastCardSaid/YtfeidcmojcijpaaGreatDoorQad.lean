import Derived.Test.YtfeidcmojcijpaaGreatDoorQaa
set_option linter.all false
set_option maxRecDepth 100000
set_option maxHeartbeats 0
namespace Go.Proofs.YtfeidcmojcijpaaGreatDoor
open Go.RowKit Tryz
abbrev Bytes:=List UInt8
def oB:List Int:=[10,13,55295,65533,1114111]
def lk(c:Int):Bool:=decide ((97<=c/\c<=122)∨(65<=c/\c<=90)∨c=95)
def px(c:Int):Bool:=decide (48<=c/\c<=57)
def jN(c:Int):Bool:=lk c||px c||decide (c=45∨c=46)
def ll(c:Int):Bool:=decide (c=9∨c=10∨c=13∨c=32)
def iZ(k:Int->Bool)(l:Bytes):Bool:=l.all fun c=>k (c.toNat:Nat)
def bp(l:Bytes):Bool:=decide (1<=l.length/\l.length<=64)&&lk ((l.headD 0).toNat:Nat)&&iZ jN l
end Go.Proofs.YtfeidcmojcijpaaGreatDoor
