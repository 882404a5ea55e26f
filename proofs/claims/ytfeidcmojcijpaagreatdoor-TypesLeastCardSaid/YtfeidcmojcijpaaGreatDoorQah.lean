import Derived.Test.YtfeidcmojcijpaaGreatDoorQac
import Derived.Test.YtfeidcmojcijpaaGreatDoorQad
set_option linter.all false
set_option maxRecDepth 100000
set_option maxHeartbeats 0
namespace Go.Proofs.YtfeidcmojcijpaaGreatDoor
open Go.RowKit Tryz
def DQ c w:de 183 #[.int .u8 c] w (.bool (lk c)) fun w'=>w=w':=by
 rcases(ad:c<65∨(65<=c/\c<=90)∨(90<c/\c<95)∨c=95∨c=96∨(97<=c/\c<=122)∨122<c)with a|⟨a,b⟩|⟨a,b⟩|rfl|rfl|⟨a,b⟩|a
 all_goals
  go_in
  go_wp2
  go_ret;exact⟨bJ (by unfold lk;rw[ft];simp<;>omega),rfl⟩
def Lg c w:de 233 #[.int .u8 c] w (.bool (px c)) fun w'=>w=w':=by
 rcases(ad:c<48∨(48<=c/\c<=57)∨57<c)with a|⟨a,b⟩|a
 all_goals
  go_in
  go_wp2
  go_ret;exact⟨bJ (by unfold px;rw[ft];simp<;>omega),rfl⟩
def Lh c w:de 60 #[.int .u8 c] w (.bool (ll c)) fun w'=>w=w':=by
 rcases(ad:c=9∨c=10∨c=13∨c=32∨(c≠9/\c≠10/\c≠13/\c≠32))with rfl|rfl|rfl|rfl|⟨a,b,d,e⟩
 all_goals
  go_in
  go_wp2
  go_ret;exact⟨bJ (by unfold ll;rw[ft];simp<;>omega),rfl⟩
def Li c w:de 184 #[.int .u8 c] w (.bool (jN c)) fun w'=>w=w':=by
 have b:jN c=(lk c||px c||decide _):=rfl;generalize jN c=f at b;have a:=ah b;clear b
 go_in
 go_wp2_with fail
 refine ar (DQ c _) ?_;rintro w' rfl;generalize lk c=q at a;cases q with
 |true=>
  go_wp2
  go_ret;exact⟨bJ (by rw[a.o];rfl),rfl⟩
 |false=>
  go_wp2_with fail
  refine ar (Lg c _) ?_;rintro w' rfl;generalize px c=q at a;cases q with
  |true=>
   go_wp2
   go_ret;exact⟨bJ (by rw[a.o];rfl),rfl⟩
  |false=>
   rcases(ad:c=45∨c=46∨(c≠45/\c≠46))with rfl|rfl|⟨d,e⟩
   all_goals
    go_wp2
    go_ret;exact⟨bJ (by rw[a.o];rw[ft];simp<;>omega),rfl⟩
def Ac(f:Nat)(k:Int->Bool):Prop:=(∀c w,de f #[.int .u8 c] w (.bool (k c)) fun w'=>w=w')/\(∀c,128<=c->k c=false)/\∀args w,(callFunc f args).run prog w=.ok (.enter f args) w
def DR f k(j:Ac f k) s w(C:s.size<=9223372036854775807):
 cX 59 #[.string s,.func (.func f) #[] #[]] w (.bool (iZ k s.data.toList)):=by
 have A:=j.2.2
 go_in
 go_wp2
 go_loopw [] (fun wr=>∃a,a<=s.size/\wr.heap[w.heap.size]?=some (.stringIter s a)/\aR w wr/\Hid (iZ k (s.data.toList.take a)=true)) (fun wr=>s.size-wr.iterPos w)
 case atStart=>
  refine⟨0,aH _,?_,aP,rfl⟩;have:=World.iter_heap w s 0;omega
 case round=>
  obtain⟨a,B,c,l,g⟩:=hrel;have D:=(iJ.1 c).1;by_cases e:a<s.size
  ·have r:=(eJ s).zy
   have i:s.data.toList[a]'ad=s[a]:=by simp;rfl
   have n:s.data.toList.take (a+1)=s.data.toList.take a++[s[a]]:=by rw[List.take_succ_eq_append_getElem ad,i]
   have h:=g.out;by_cases b:k s[a].toNat=true
   ·have z:(s[a]'e).toNat<128:=by
     rcases kF (s[a]'e).toNat 128 with d|d
     exact d;have:=j.2.1 s[a].toNat ad;rw[this]at b;simp at b
    have t:∀ty,(Instr.next _ true ty).run prog wr=_:=fun ty=>Lib.run_next_ascii_at wr _ s a ty c e z;have p:=Lib.iterAt_heap wr _ s a (a+1) c;have m:=Lib.below_iterAt l (ay _) s (a+1);have y:Hid (iZ k (s.data.toList.take (a+1))=true):=by
     show iZ k (s.data.toList.take (a+1))=true
     rw[n];unfold iZ at h⊢;rw[List.all_append,h];simp[b]
    have v:=ah b;clear b n h g i r;go_wp2_with fail
    refine ar (j.1 s[a].toNat _) ?_;rintro w' rfl;rw[v.o]
    go_wp2
    go_roundw
    case rel=>exact⟨_,ad,p,m,y⟩
    case measure=>
     simp only[World.iterPos,c,p];omega
   ·have q:k (s[a].toNat:Nat)=false:=by simpa using b
    have t:∀ty,(Instr.next _ true ty).run prog wr=_:=fun ty=>Lib.run_next_any_at wr _ s a ty c e;have m:=Lib.below_iterAt l (ay _) s (a+(Utf8.decode s a).2);have o:iZ k s.data.toList=false:=by unfold iZ;rw[C4];exact⟨s[a],i▸wv _,by omega⟩
    have⟨x,u⟩:=aC q o;clear b n h g q o i r;go_wp2_with fail
    refine ar (j.1 s[a].toNat _) ?_;rintro w' rfl;rw[x.o]
    go_wp2
    go_ret;exact⟨bJ u.o.zy,m⟩
  ·have t:∀ty,(Instr.next _ true ty).run prog wr=_:=fun ty=>Lib.run_next_end_at wr _ s a ty c e
   go_wp2
   go_ret;have d:=g.out;rw[bI (by rw[<-eJ s];omega)]at d;exact⟨bJ d.zy,l⟩
def Lj:Ac 184 jN:=⟨Li,fun c a=>by unfold jN lk px;simp;omega,fun _ _=>az⟩
def Lk:Ac 60 ll:=⟨Lh,fun c a=>by unfold ll;simp;omega,fun _ _=>az⟩
def Ad s w(b:s.size<=9223372036854775807):
 cX 40 #[.string s] w (.bool (iZ ll s.data.toList)):=by
 go_in
 go_wp2_with fail
 refine ar (DR _ _ Lk s _ b) ?_;intro w' a
 go_wp2
 go_ret;exact⟨rfl,a⟩
def oD s w(l:s.size<=9223372036854775807):
 cX 102 #[.string s] w (.bool (bp s.data.toList)):=by
 have e:=(eJ s).zy;have b:bp s.data.toList=(decide (1<=s.size/\s.size<=64)&&lk (s.data.toList.headD 0).toNat&&iZ jN s.data.toList):=by unfold bp;rw[e]
 generalize bp s.data.toList=m at b;have a:=ah b;by_cases g:1<=s.size
 ·have h:s.data.toList.headD 0=s[0]:=by
   rw[Kk,Kl,Lib.data_getElem? s 0 g];rfl
  have f:=ah h;clear b e h;by_cases i:s.size<=64
  ·go_in
   go_wp2_with fail
   refine ar (DQ _ _) ?_;rintro w' rfl;cases c:lk ↑s[0].toNat with
   |true=>
    have d:=ah c;clear c;go_wp2_with fail
    refine ar (DR _ _ Lj s _ l) ?_;intro w' j
    go_wp2
    go_ret;exact⟨bJ (by rw[a.o,f.o,d.o];simp[g,i]),j⟩
   |false=>
    have d:=ah c;clear c
    go_wp2
    go_ret;exact⟨bJ (by rw[a.o,f.o,d.o];simp),aA _ _⟩
  ·go_in
   go_wp2
   go_ret;exact⟨bJ (by rw[a.o];simp;omega),aA _ _⟩
 ·clear b e
  go_in
  go_wp2
  go_ret;exact⟨bJ (by rw[a.o];simp;omega),aA _ _⟩
end Go.Proofs.YtfeidcmojcijpaaGreatDoor
