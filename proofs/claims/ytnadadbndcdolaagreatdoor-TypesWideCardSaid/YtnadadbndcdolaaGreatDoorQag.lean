import Derived.Test.YtnadadbndcdolaaGreatDoorQab
import Derived.Test.YtnadadbndcdolaaGreatDoorQac
set_option linter.unusedVariables false
set_option linter.unusedSimpArgs false
set_option maxRecDepth 100000
set_option maxHeartbeats 0
namespace Go.Proofs.YtnadadbndcdolaaGreatDoor
open Go.RowKit Tryz
theorem Cm(c:Int)(w:World):Calls prog 162 #[.int .u8 c] w fun d w'=>d=.returned (.bool (mb c))/\w=w':=by
 rcases(ad:c<65∨(65<=c/\c<=90)∨(90<c/\c<95)∨c=95∨c=96∨(97<=c/\c<=122)∨122<c)with a|⟨a,b⟩|⟨a,b⟩|rfl|rfl|⟨a,b⟩|a
 all_goals
  go_enter func162,ntmps162
  go_wp2
  go_ret;exact⟨ck (by unfold mb;rw[iF];simp<;>omega),rfl⟩
theorem Jg(c:Int)(w:World):Calls prog 210 #[.int .u8 c] w fun b w'=>b=.returned (.bool (pp c))/\w=w':=by
 rcases(ad:c<48∨(48<=c/\c<=57)∨57<c)with a|⟨a,d⟩|a
 all_goals
  go_enter func210,ntmps210
  go_wp2
  go_ret;exact⟨ck (by unfold pp;rw[iF];simp<;>omega),rfl⟩
theorem Jh(c:Int)(w:World):Calls prog 114 #[.int .u8 c] w fun a w'=>a=.returned (.bool (kf c))/\w=w':=by
 rcases(ad:c=9∨c=10∨c=13∨c=32∨(c≠9/\c≠10/\c≠13/\c≠32))with rfl|rfl|rfl|rfl|⟨b,d,e,f⟩
 all_goals
  go_enter func114,ntmps114
  go_wp2
  go_ret;exact⟨ck (by unfold kf;rw[iF];simp<;>omega),rfl⟩
theorem Ji(c:Int)(w:World):Calls prog 163 #[.int .u8 c] w fun b w'=>b=.returned (.bool (kJ c))/\w=w':=by
 have d:kJ c=(mb c||pp c||decide (c=45∨c=46)):=rfl;generalize kJ c=g at d;have a:=ah d;clear d;go_enter func163,ntmps163
 go_wp2_with fail
 refine(Cm c _).mono ?_;rintro b w' ⟨rfl,rfl⟩;generalize mb c=q at a;cases q with
 |true=>
  go_wp2
  go_ret;exact⟨ck (by rw[a.o];rfl),rfl⟩
 |false=>
  go_wp2_with fail
  refine(Jg c _).mono ?_;rintro b w' ⟨rfl,rfl⟩;generalize pp c=q at a;cases q with
  |true=>
   go_wp2
   go_ret;exact⟨ck (by rw[a.o];rfl),rfl⟩
  |false=>
   rcases(ad:c=45∨c=46∨(c≠45/\c≠46))with rfl|rfl|⟨e,f⟩
   all_goals
    go_wp2
    go_ret;exact⟨ck (by rw[a.o];rw[iF];simp<;>omega),rfl⟩
def yf(f:Nat)(k:Int->Bool):Prop:=(∀(c:Int) (w:World),Calls prog f #[.int .u8 c] w fun a w'=>a=.returned (.bool (k c))/\w=w')/\(∀c:Int,128<=c->k c=false)/\∀(args:Array Value) (w:World),(callFunc f args).run prog w=.ok (.enter f args) w
theorem Cn(f:Nat)(k:Int->Bool)(j:yf f k)(s:ByteArray)(w:World)(D:s.size<=9223372036854775807):
 Calls prog 113 #[.string s,.func (.func f) #[] #[]] w fun l w'=>l=.returned (.bool (iJ k s.data.toList))/\Below w.heap.size w w':=by
 have B:=j.2.2;go_enter func113,ntmps113
 go_wp2
 go_loopw [] (fun wr=>∃a:Nat,a<=s.size/\wr.heap[w.heap.size]?=some (.stringIter s a)/\Below w.heap.size w wr/\Hid (iJ k (s.data.toList.take a)=true)) (fun wr=>s.size-wr.iterPos w.heap.size)
 case atStart=>
  refine⟨0,aZ _,?_,aG,rfl⟩;have:=World.iter_heap w s 0;simpa using this
 case round=>
  obtain⟨a,C,c,m,g⟩:=hrel;have E:w.heap.size<wr.heap.size:=(iq.1 c).1;by_cases e:a<s.size
  ·have t:s.data.toList.length=s.size:=(dV s).symm
   have i:s.data.toList[a]'ad=s[a]:=by simp;rfl
   have p:s.data.toList.take (a+1)=s.data.toList.take a++[s[a]]:=by rw[Tb ad,i]
   have h:=g.out;by_cases b:k (s[a].toNat:Nat)=true
   ·have A:(s[a]'e).toNat<128:=by
     rcases jg (s[a]'e).toNat 128 with d|d
     ·exact d
     ·have:=j.2.1 (s[a].toNat:Nat) ad
      rw[this]at b;simp at b
    have u:∀ty,(Instr.next (.pointer (some ⟨w.heap.size,0,none⟩)) true ty).run prog wr=_:=fun ty=>Lib.run_next_ascii_at wr w.heap.size s a ty c e A;have r:=Lib.iterAt_heap wr w.heap.size s a (a+1) c;have n:=Lib.below_iterAt m (k:=w.heap.size) (az _) s (a+1);have z:Hid (iJ k (s.data.toList.take (a+1))=true):=by
     show iJ k (s.data.toList.take (a+1))=true
     rw[p];unfold iJ at h⊢;rw[List.all_append,h];simp[b]
    have x:=ah b;clear b p h g i t;go_wp2_with fail
    refine(j.1 (s[a].toNat:Nat) _).mono ?_;rintro l w' ⟨rfl,rfl⟩;rw[x.o]
    go_wp2
    go_roundw
    case rel=>exact⟨a+1,ad,r,n,z⟩
    case measure=>
     simp only[World.iterPos,c,r];omega
   ·have o:k (s[a].toNat:Nat)=false:=by simpa using b
    have u:∀ty,(Instr.next (.pointer (some ⟨w.heap.size,0,none⟩)) true ty).run prog wr=_:=fun ty=>Lib.run_next_any_at wr w.heap.size s a ty c e;have n:=Lib.below_iterAt m (k:=w.heap.size) (az _) s (a+(Utf8.decode s a).2);have q:iJ k s.data.toList=false:=by unfold iJ;rw[List.all_eq_false];exact⟨s[a],by rw[<-i];exact AW _,by simpa using o⟩
    obtain⟨y,v⟩:=aD o q;clear b p h g o q i t;go_wp2_with fail
    refine(j.1 (s[a].toNat:Nat) _).mono ?_;rintro l w' ⟨rfl,rfl⟩;rw[y.o]
    go_wp2
    go_ret;exact⟨ck v.o.symm,n⟩
  ·have u:∀ty,(Instr.next (.pointer (some ⟨w.heap.size,0,none⟩)) true ty).run prog wr=_:=fun ty=>Lib.run_next_end_at wr w.heap.size s a ty c e
   go_wp2
   go_ret;have d:=g.out;rw[dh (by rw[<-dV s];omega)]at d;exact⟨ck d.symm,m⟩
theorem Jj:yf 163 kJ:=⟨Ji,fun c a=>by unfold kJ mb pp;simp;omega,fun _ _=>aA⟩
theorem Jk:yf 114 kf:=⟨Jh,fun c a=>by unfold kf;simp;omega,fun _ _=>aA⟩
theorem yg(s:ByteArray)(w:World)(c:s.size<=9223372036854775807):
 Calls prog 51 #[.string s] w fun a w'=>a=.returned (.bool (iJ kf s.data.toList))/\Below w.heap.size w w':=by
 go_enter func51,ntmps51
 go_wp2_with fail
 refine(Cn _ _ Jk s _ c).mono ?_;rintro a w' ⟨rfl,b⟩
 go_wp2
 go_ret;exact⟨rfl,b⟩
theorem m9(s:ByteArray)(w:World)(m:s.size<=9223372036854775807):
 Calls prog 97 #[.string s] w fun e w'=>e=.returned (.bool (cH s.data.toList))/\Below w.heap.size w w':=by
 have f:s.data.toList.length=s.size:=(dV s).symm;have b:cH s.data.toList=(decide (1<=s.size/\s.size<=64)&&mb ((s.data.toList.headD 0).toNat:Nat)&&iJ kJ s.data.toList):=by unfold cH;rw[f]
 generalize cH s.data.toList=n at b;have a:=ah b;by_cases h:1<=s.size
 ·have i:s.data.toList.headD 0=s[0]:=by
   rw[List.headD_eq_head?_getD,List.head?_eq_getElem?,Lib.data_getElem? s 0 h];rfl
  have g:=ah i;clear b f i;by_cases j:s.size<=64
  ·go_enter func97,ntmps97
   go_wp2_with fail
   refine(Cm _ _).mono ?_;rintro e w' ⟨rfl,rfl⟩;cases c:mb ↑s[0].toNat with
   |true=>
    have d:=ah c;clear c;go_wp2_with fail
    refine(Cn _ _ Jj s _ m).mono ?_;rintro e w' ⟨rfl,l⟩
    go_wp2
    go_ret;exact⟨ck (by rw[a.o,g.o,d.o];simp[h,j]),l⟩
   |false=>
    have d:=ah c;clear c
    go_wp2
    go_ret;exact⟨ck (by rw[a.o,g.o,d.o];simp),aE _ _⟩
  ·go_enter func97,ntmps97
   go_wp2
   go_ret;exact⟨ck (by rw[a.o];simp;omega),aE _ _⟩
 ·clear b f
  go_enter func97,ntmps97
  go_wp2
  go_ret;exact⟨ck (by rw[a.o];simp;omega),aE _ _⟩
end Go.Proofs.YtnadadbndcdolaaGreatDoor
