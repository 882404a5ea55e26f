import Derived.Test.YtbacloblanpghaaGreatDoorQaa
set_option linter.unusedVariables false
set_option linter.unusedSimpArgs false
set_option maxRecDepth 100000
set_option maxHeartbeats 0
namespace Go.Proofs.YtbacloblanpghaaGreatDoor
open Go.RowKit Tryz
abbrev Bytes:=List UInt8
def oA:List Int:=[9,13,32,57344,65536]
def im:List Int:=[10,13,55295,65533,1114111]
def jh(r:Int)(k:Nat):Bool:=decide (oA.getD k 0<=r)&&decide (r<=im.getD k 0)
def eT(r:Int):Bool:=jh r 0||jh r 1||jh r 2||jh r 3||jh r 4
def dP(c:Int):Int:=if c<128 then 1 else if c<192 then 0 else if c<224 then 2 else if c<240 then 3 else if c<248 then 4 else 0
def eU(c:Int):Int:=if c<128 then c else if c<192 then 0 else if c<224 then c-192 else if c<240 then c-224 else if c<248 then c-240 else 0
def fh(r:Int):Int:=if r<128 then 1 else if r<2048 then 2 else if r<65536 then 3 else 4
def jG(c:UInt8):Bool:= !(decide (((c.toNat:Nat):Int)<128)||decide ((191:Int)<((c.toNat:Nat):Int)))
def eV:Int->Bytes->Option Int
 |r,[]=>some r
 |r,c::t=>if jG c then eV (r*64+(((c.toNat:Nat):Int)-128)) t else none
def cH:Bytes->Option (Int×Nat)
 |[]=>none
 |c::t=>
  let n:=dP c.toNat
  if n=0∨(t.length:Int)+1<n then none else
  match eV (eU c.toNat) (t.take (n.toNat-1))with
  |none=>none
  |some r=>if fh r=n/\eT r=true then some (r,n.toNat)else none
theorem qX(c:Int):0<=dP c/\dP c<=4:=by unfold dP;omega
theorem Ai(c:Int)(a:0<=c)(b:c<256):0<=eU c/\eU c<128/\(2<=dP c->eU c<32):=by unfold dP eU;omega
theorem jk(c:UInt8):jG c=true↔(128:Int)<=((c.toNat:Nat):Int)/\((c.toNat:Nat):Int)<=191:=by unfold jG;simp
theorem F2(r:Int)(a b:Bytes):eV r (a++b)=(eV r a).bind fun s=>eV s b:=by
 induction a generalizing r with
 |nil=>rfl
 |cons c t ih=>simp only[fH,eV];split<;>simp[ih]
theorem F3{r s:Int}{a:Bytes}{c:UInt8}(b:eV r a=some s):eV r (a++[c])=if jG c then some (s*64+(((c.toNat:Nat):Int)-128))else none:=by rw[F2,b];simp[eV]
theorem F4{r:Int}{a b:Bytes}{c:UInt8}(e:jG c=false):eV r (a++c::b)=none:=by
 induction a generalizing r with
 |nil=>simp[eV,e]
 |cons d t ih=>simp only[fH,eV];split<;>simp[ih]
theorem m9{l:Bytes}{r:Int}{k:Nat}(a:cH l=some (r,k)):1<=k/\k<=4/\k<=l.length:=by
 cases l with
 |nil=>simp[cH]at a
 |cons c t=>
  have:=qX c.toNat;simp only[cH]at a;split at a
  ·simp at a
  ·split at a
   ·simp at a
   ·split at a
    ·simp only[gV,pD]at a;simp only[de];omega
    ·simp at a
def mh:Nat->Bytes->Nat
 |0,_=>0
 |f+1,l=>match cH l with
  |none=>0
  |some (_,k)=>k+mh f (l.drop k)
def dZ(l:Bytes):Nat:=mh l.length l
theorem F5(f:Nat):∀(g:Nat) (l:Bytes),l.length<=f->l.length<=g->mh f l=mh g l:=by
 induction f with
 |zero=>
  intro g l b _;obtain rfl:l=[]:=vr.1 ad;cases g<;>simp[mh,cH]
 |succ f ih=>
  intro g l b c;cases g with
  |zero=>
   obtain rfl:l=[]:=vr.1 ad;simp[mh,cH]
  |succ g=>
   simp only[mh];cases a:cH l with
   |none=>rfl
   |some x=>
    obtain⟨r,k⟩:=x;have:=m9 a;simp only;rw[ih g _ aO aO]
theorem vN{l:Bytes}(a:cH l=none):dZ l=0:=by
 unfold dZ;cases l with
 |nil=>rfl
 |cons c t=>simp[mh,a]
theorem vO{l:Bytes}{r:Int}{k:Nat}(a:cH l=some (r,k)):dZ l=k+dZ (l.drop k):=by
 have b:=m9 a;unfold dZ;cases c:l.length with
 |zero=>omega
 |succ n=>
  simp only[mh,a];rw[F5 n (l.drop k).length _ aO ad]
theorem vP:dZ []=0:=rfl
theorem F6(l:Bytes):dZ l<=l.length:=by
 have H:∀n (l:Bytes),l.length<=n->dZ l<=l.length:=by
  intro n;induction n with
  |zero=>intro l b;obtain rfl:l=[]:=vr.1 ad;simp[vP]
  |succ n ih=>
   intro l b;cases a:cH l with
   |none=>rw[vN a];omega
   |some x=>
    obtain⟨r,k⟩:=x;have:=m9 a;have:=ih (l.drop k) aO;rw[vO a];simp at this;omega
 exact H _ l (aB _)
def jH(c:Int):Bool:=decide ((97<=c/\c<=122)∨(65<=c/\c<=90)∨c=95)
def nf(c:Int):Bool:=decide (48<=c/\c<=57)
def ip(c:Int):Bool:=jH c||nf c||decide (c=45∨c=46)
def jI(c:Int):Bool:=decide (c=9∨c=10∨c=13∨c=32)
def gJ(k:Int->Bool)(l:Bytes):Bool:=l.all fun c=>k (c.toNat:Nat)
def a8(l:Bytes):Bool:=decide (1<=l.length/\l.length<=64)&&jH ((l.headD 0).toNat:Nat)&&gJ ip l
end Go.Proofs.YtbacloblanpghaaGreatDoor
