import Derived.Test.YtbacloblanpghaaGreatDoorQab
import Derived.Test.YtbacloblanpghaaGreatDoorQad
set_option linter.unusedVariables false
set_option linter.unusedSimpArgs false
set_option maxRecDepth 100000
set_option maxHeartbeats 0
namespace Go.Proofs.YtbacloblanpghaaGreatDoor
open Go.RowKit Tryz
theorem Ak(c:Int)(w:World):Calls prog 163 #[.int .u8 c] w fun d w'=>d=.returned (.bool (jH c))/\w=w':=by
 rcases(ad:c<65∨(65<=c/\c<=90)∨(90<c/\c<95)∨c=95∨c=96∨(97<=c/\c<=122)∨122<c)with a|⟨a,b⟩|⟨a,b⟩|rfl|rfl|⟨a,b⟩|a
 all_goals
  go_enter func163,ntmps163
  go_wp2
  go_ret;exact⟨bC (by unfold jH;rw[eS];simp<;>omega),rfl⟩
theorem F7(c:Int)(w:World):Calls prog 221 #[.int .u8 c] w fun b w'=>b=.returned (.bool (nf c))/\w=w':=by
 rcases(ad:c<48∨(48<=c/\c<=57)∨57<c)with a|⟨a,d⟩|a
 all_goals
  go_enter func221,ntmps221
  go_wp2
  go_ret;exact⟨bC (by unfold nf;rw[eS];simp<;>omega),rfl⟩
theorem F8(c:Int)(w:World):Calls prog 82 #[.int .u8 c] w fun a w'=>a=.returned (.bool (jI c))/\w=w':=by
 rcases(ad:c=9∨c=10∨c=13∨c=32∨(c≠9/\c≠10/\c≠13/\c≠32))with rfl|rfl|rfl|rfl|⟨b,d,e,f⟩
 all_goals
  go_enter func82,ntmps82
  go_wp2
  go_ret;exact⟨bC (by unfold jI;rw[eS];simp<;>omega),rfl⟩
theorem F9(c:Int)(w:World):Calls prog 164 #[.int .u8 c] w fun b w'=>b=.returned (.bool (ip c))/\w=w':=by
 have d:ip c=(jH c||nf c||decide (c=45∨c=46)):=rfl;generalize ip c=g at d;have a:=ah d;clear d;go_enter func164,ntmps164
 go_wp2_with fail
 refine(Ak c _).mono ?_;rintro b w' ⟨rfl,rfl⟩;generalize jH c=q at a;cases q with
 |true=>
  go_wp2
  go_ret;exact⟨bC (by rw[a.o];rfl),rfl⟩
 |false=>
  go_wp2_with fail
  refine(F7 c _).mono ?_;rintro b w' ⟨rfl,rfl⟩;generalize nf c=q at a;cases q with
  |true=>
   go_wp2
   go_ret;exact⟨bC (by rw[a.o];rfl),rfl⟩
  |false=>
   rcases(ad:c=45∨c=46∨(c≠45/\c≠46))with rfl|rfl|⟨e,f⟩
   all_goals
    go_wp2
    go_ret;exact⟨bC (by rw[a.o];rw[eS];simp<;>omega),rfl⟩
def vT(f:Nat)(k:Int->Bool):Prop:=(∀(c:Int) (w:World),Calls prog f #[.int .u8 c] w fun a w'=>a=.returned (.bool (k c))/\w=w')/\(∀c:Int,128<=c->k c=false)/\∀(args:Array Value) (w:World),(callFunc f args).run prog w=.ok (.enter f args) w
theorem Al(f:Nat)(k:Int->Bool)(j:vT f k)(s:ByteArray)(w:World)(D:s.size<=9223372036854775807):
 Calls prog 81 #[.string s,.func (.func f) #[] #[]] w fun l w'=>l=.returned (.bool (gJ k s.data.toList))/\Below w.heap.size w w':=by
 have B:=j.2.2;go_enter func81,ntmps81
 go_wp2
 go_loopw [] (fun wr=>∃a:Nat,a<=s.size/\wr.heap[w.heap.size]?=some (.stringIter s a)/\Below w.heap.size w wr/\Hid (gJ k (s.data.toList.take a)=true)) (fun wr=>s.size-wr.iterPos w.heap.size)
 case atStart=>
  refine⟨0,aK _,?_,az,rfl⟩;have:=World.iter_heap w s 0;simpa using this
 case round=>
  obtain⟨a,C,c,m,g⟩:=hrel;have E:w.heap.size<wr.heap.size:=(gW.1 c).1;by_cases e:a<s.size
  ·have t:s.data.toList.length=s.size:=(dy s).symm
   have i:s.data.toList[a]'ad=s[a]:=by simp;rfl
   have p:s.data.toList.take (a+1)=s.data.toList.take a++[s[a]]:=by rw[QM ad,i]
   have h:=g.out;by_cases b:k (s[a].toNat:Nat)=true
   ·have A:(s[a]'e).toNat<128:=by
     rcases ow (s[a]'e).toNat 128 with d|d
     ·exact d
     ·have:=j.2.1 (s[a].toNat:Nat) ad
      rw[this]at b;simp at b
    have u:∀ty,(Instr.next (.pointer (some ⟨w.heap.size,0,none⟩)) true ty).run prog wr=_:=fun ty=>Lib.run_next_ascii_at wr w.heap.size s a ty c e A;have r:=Lib.iterAt_heap wr w.heap.size s a (a+1) c;have n:=Lib.below_iterAt m (k:=w.heap.size) (aB _) s (a+1);have z:Hid (gJ k (s.data.toList.take (a+1))=true):=by
     show gJ k (s.data.toList.take (a+1))=true
     rw[p];unfold gJ at h⊢;rw[List.all_append,h];simp[b]
    have x:=ah b;clear b p h g i t;go_wp2_with fail
    refine(j.1 (s[a].toNat:Nat) _).mono ?_;rintro l w' ⟨rfl,rfl⟩;rw[x.o]
    go_wp2
    go_roundw
    case rel=>exact⟨a+1,ad,r,n,z⟩
    case measure=>
     simp only[World.iterPos,c,r];omega
   ·have o:k (s[a].toNat:Nat)=false:=by simpa using b
    have u:∀ty,(Instr.next (.pointer (some ⟨w.heap.size,0,none⟩)) true ty).run prog wr=_:=fun ty=>Lib.run_next_any_at wr w.heap.size s a ty c e;have n:=Lib.below_iterAt m (k:=w.heap.size) (aB _) s (a+(Utf8.decode s a).2);have q:gJ k s.data.toList=false:=by unfold gJ;rw[zb];exact⟨s[a],by rw[<-i];exact List.getElem_mem _,by simpa using o⟩
    obtain⟨y,v⟩:=aE o q;clear b p h g o q i t;go_wp2_with fail
    refine(j.1 (s[a].toNat:Nat) _).mono ?_;rintro l w' ⟨rfl,rfl⟩;rw[y.o]
    go_wp2
    go_ret;exact⟨bC v.o.symm,n⟩
  ·have u:∀ty,(Instr.next (.pointer (some ⟨w.heap.size,0,none⟩)) true ty).run prog wr=_:=fun ty=>Lib.run_next_end_at wr w.heap.size s a ty c e
   go_wp2
   go_ret;have d:=g.out;rw[bx (by rw[<-dy s];omega)]at d;exact⟨bC d.symm,m⟩
theorem Ga:vT 164 ip:=⟨F9,fun c a=>by unfold ip jH nf;simp;omega,fun _ _=>ay⟩
theorem Gb:vT 82 jI:=⟨F8,fun c a=>by unfold jI;simp;omega,fun _ _=>ay⟩
theorem vU(s:ByteArray)(w:World)(c:s.size<=9223372036854775807):
 Calls prog 54 #[.string s] w fun a w'=>a=.returned (.bool (gJ jI s.data.toList))/\Below w.heap.size w w':=by
 go_enter func54,ntmps54
 go_wp2_with fail
 refine(Al _ _ Gb s _ c).mono ?_;rintro a w' ⟨rfl,b⟩
 go_wp2
 go_ret;exact⟨rfl,b⟩
theorem mi(s:ByteArray)(w:World)(m:s.size<=9223372036854775807):
 Calls prog 99 #[.string s] w fun e w'=>e=.returned (.bool (a8 s.data.toList))/\Below w.heap.size w w':=by
 have f:s.data.toList.length=s.size:=(dy s).symm;have b:a8 s.data.toList=(decide (1<=s.size/\s.size<=64)&&jH ((s.data.toList.headD 0).toNat:Nat)&&gJ ip s.data.toList):=by unfold a8;rw[f]
 generalize a8 s.data.toList=n at b;have a:=ah b;by_cases h:1<=s.size
 ·have i:s.data.toList.headD 0=s[0]:=by
   rw[Fc,Fd,Lib.data_getElem? s 0 h];rfl
  have g:=ah i;clear b f i;by_cases j:s.size<=64
  ·go_enter func99,ntmps99
   go_wp2_with fail
   refine(Ak _ _).mono ?_;rintro e w' ⟨rfl,rfl⟩;cases c:jH ↑s[0].toNat with
   |true=>
    have d:=ah c;clear c;go_wp2_with fail
    refine(Al _ _ Ga s _ m).mono ?_;rintro e w' ⟨rfl,l⟩
    go_wp2
    go_ret;exact⟨bC (by rw[a.o,g.o,d.o];simp[h,j]),l⟩
   |false=>
    have d:=ah c;clear c
    go_wp2
    go_ret;exact⟨bC (by rw[a.o,g.o,d.o];simp),aA _ _⟩
  ·go_enter func99,ntmps99
   go_wp2
   go_ret;exact⟨bC (by rw[a.o];simp;omega),aA _ _⟩
 ·clear b f
  go_enter func99,ntmps99
  go_wp2
  go_ret;exact⟨bC (by rw[a.o];simp;omega),aA _ _⟩
end Go.Proofs.YtbacloblanpghaaGreatDoor
