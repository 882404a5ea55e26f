import Derived.Test.YtnadadbndcdolaaGreatDoorQaa
set_option linter.unusedVariables false
set_option linter.unusedSimpArgs false
set_option maxRecDepth 100000
set_option maxHeartbeats 0
namespace Go.Proofs.YtnadadbndcdolaaGreatDoor
open Go.RowKit Tryz
abbrev Bytes:=List UInt8
def yd:List Int:=[9,13,32,57344,65536]
def ye:List Int:=[10,13,55295,65533,1114111]
def ma(a:Int)(k:Nat):Bool:=decide (yd.getD k 0<=a)&&decide (a<=ye.getD k 0)
def lr(a:Int):Bool:=ma a 0||ma a 1||ma a 2||ma a 3||ma a 4
def gV(c:Int):Int:=if c<128 then 1 else if c<192 then 0 else if c<224 then 2 else if c<240 then 3 else if c<248 then 4 else 0
def m7(c:Int):Int:=if c<128 then c else if c<192 then 0 else if c<224 then c-192 else if c<240 then c-224 else if c<248 then c-240 else 0
def ke(a:Int):Int:=if a<128 then 1 else if a<2048 then 2 else if a<65536 then 3 else 4
def qs(c:UInt8):Bool:= !(decide (((c.toNat:Nat):Int)<128)||decide ((191:Int)<((c.toNat:Nat):Int)))
def jm:Int->Bytes->Option Int
 |a,[]=>some a
 |a,c::t=>if qs c then jm (a*64+(((c.toNat:Nat):Int)-128)) t else none
def fh:Bytes->Option (Int×Nat)
 |[]=>none
 |c::t=>
  let n:=gV c.toNat
  if n=0∨(t.length:Int)+1<n then none else
  match jm (m7 c.toNat) (t.take (n.toNat-1))with
  |none=>none
  |some a=>if ke a=n/\lr a=true then some (a,n.toNat)else none
theorem uP(c:Int):0<=gV c/\gV c<=4:=by unfold gV;omega
theorem Cg(c:Int)(a:0<=c)(b:c<256):0<=m7 c/\m7 c<128/\(2<=gV c->m7 c<32):=by unfold gV m7;omega
theorem Ch(c:UInt8):qs c=true↔(128:Int)<=((c.toNat:Nat):Int)/\((c.toNat:Nat):Int)<=191:=by unfold qs;simp
theorem Ja(d:Int)(a b:Bytes):jm d (a++b)=(jm d a).bind fun s=>jm s b:=by
 induction a generalizing d with
 |nil=>rfl
 |cons c t ih=>simp only[jf,jm];split<;>simp[ih]
theorem Jb{b s:Int}{a:Bytes}{c:UInt8}(d:jm b a=some s):jm b (a++[c])=if qs c then some (s*64+(((c.toNat:Nat):Int)-128))else none:=by rw[Ja,d];simp[jm]
theorem Jc{e:Int}{a b:Bytes}{c:UInt8}(f:qs c=false):jm e (a++c::b)=none:=by
 induction a generalizing e with
 |nil=>simp[jm,f]
 |cons d t ih=>simp only[jf,jm];split<;>simp[ih]
theorem uQ{l:Bytes}{b:Int}{k:Nat}(a:fh l=some (b,k)):1<=k/\k<=4/\k<=l.length:=by
 cases l with
 |nil=>simp[fh]at a
 |cons c t=>
  have:=uP c.toNat;simp only[fh]at a;split at a
  ·simp at a
  ·split at a
   ·simp at a
   ·split at a
    ·simp only[jY,rE]at a;simp only[db];omega
    ·simp at a
def m8:Nat->Bytes->Nat
 |0,_=>0
 |f+1,l=>match fh l with
  |none=>0
  |some (_,k)=>k+m8 f (l.drop k)
def gy(l:Bytes):Nat:=m8 l.length l
theorem Jd(f:Nat):∀(g:Nat) (l:Bytes),l.length<=f->l.length<=g->m8 f l=m8 g l:=by
 induction f with
 |zero=>
  intro g l b _;obtain rfl:l=[]:=rF.1 ad;cases g<;>simp[m8,fh]
 |succ f ih=>
  intro g l b c;cases g with
  |zero=>
   obtain rfl:l=[]:=rF.1 ad;simp[m8,fh]
  |succ g=>
   simp only[m8];cases a:fh l with
   |none=>rfl
   |some x=>
    obtain⟨d,k⟩:=x;have:=uQ a;simp only;rw[ih g _ aR aR]
theorem Ci{l:Bytes}(a:fh l=none):gy l=0:=by
 unfold gy;cases l with
 |nil=>rfl
 |cons c t=>simp[m8,a]
theorem Cj{l:Bytes}{b:Int}{k:Nat}(a:fh l=some (b,k)):gy l=k+gy (l.drop k):=by
 have c:=uQ a;unfold gy;cases d:l.length with
 |zero=>omega
 |succ n=>
  simp only[m8,a];rw[Jd n (l.drop k).length _ aR ad]
theorem Ck:gy []=0:=rfl
theorem Je(l:Bytes):gy l<=l.length:=by
 have H:∀n (l:Bytes),l.length<=n->gy l<=l.length:=by
  intro n;induction n with
  |zero=>intro l b;obtain rfl:l=[]:=rF.1 ad;simp[Ck]
  |succ n ih=>
   intro l b;cases a:fh l with
   |none=>rw[Ci a];omega
   |some x=>
    obtain⟨c,k⟩:=x;have:=uQ a;have:=ih (l.drop k) aR;rw[Cj a];simp at this;omega
 exact H _ l (az _)
def mb(c:Int):Bool:=decide ((97<=c/\c<=122)∨(65<=c/\c<=90)∨c=95)
def pp(c:Int):Bool:=decide (48<=c/\c<=57)
def kJ(c:Int):Bool:=mb c||pp c||decide (c=45∨c=46)
def kf(c:Int):Bool:=decide (c=9∨c=10∨c=13∨c=32)
def iJ(k:Int->Bool)(l:Bytes):Bool:=l.all fun c=>k (c.toNat:Nat)
def cH(l:Bytes):Bool:=decide (1<=l.length/\l.length<=64)&&mb ((l.headD 0).toNat:Nat)&&iJ kJ l
end Go.Proofs.YtnadadbndcdolaaGreatDoor
