import Derived.Test.YtbacloblanpghaaGreatDoorQac
import Derived.Test.YtbacloblanpghaaGreatDoorQae
import Derived.Test.YtbacloblanpghaaGreatDoorQaq
set_option linter.unusedVariables false
set_option linter.unusedSimpArgs false
set_option maxRecDepth 100000
set_option maxHeartbeats 0
namespace Go.Proofs.YtbacloblanpghaaGreatDoor
open Go.RowKit Tryz
section
theorem ny{i:Nat}{x:Int}(a:bM i x=true):x.toNat<i:=by unfold bM at a;simp at a;omega
theorem lz{i:Nat}{n:ar}(a:dG i n=true):∀p∈bU n,p<i:=by
 intro p b;unfold bU at b;unfold dG at a;split at b
 ·rename_i d
  rw[ap ad,ap ad,au d]at a;simp only[dg]at a;have c:=ny a.1.2;have f:=ny a.2;simp at b;rcases b with rfl|rfl<;>assumption
 ·split at b
  ·rename_i e
   rw[ap ad,ap ad,ap ad,au e]at a;simp only[dg]at a;have c:=ny a.1.2;simp at b;subst b;exact c
  ·simp at b
theorem iM:∀(l:List ar) (i k:Nat) (n:ar),dW i l=true->l[k]?=some n->dG (i+k) n=true
 |[],i,k,n,_,a=>by simp at a
 |m::l,i,0,n,a,b=>by simp at b;subst b;unfold dW at a;rw[dg]at a;exact a.1
 |m::l,i,k+1,n,a,b=>by unfold dW at a;rw[dg]at a;have:=iM l (i+1) k n a.2 (by simpa using b);rwa[show i+1+k=i+(k+1) by omega]at this
structure eu(l:List ar):Prop where
 ok:dW 0 l=true
 ne:l≠[]
 used:∀j,j<l.length-1->cY l j=1
theorem Ie{l:List ar}(a:gi l=true):eu l:=by unfold gi at a;simp only[dg,kM,l6]at a;exact⟨a.1.1,by cases l<;>simp_all,fun j b=>by simpa using a.1.2 j b⟩
theorem we{l:List ar}(j:Nat):∀k,k<=l.length->cY (l.take k) j<=cY l j:=by
 intro k a;conv=>rhs;rw[<-jC k l]
 unfold cY;rw[pE,pF];omega
theorem rm{i:Nat}{n:ar}(a:dG i n=true):n.op=0∨n.op=1∨n.op=2∨n.op=3∨n.op=4∨n.op=5:=by
 unfold dG at a;split at a
 ·omega
 split at a
 ·omega
 split at a
 ·omega
 split at a
 ·omega
 ·cases a
open PRegex
def ev(tr:Nat->PT)(i:Nat)(n:ar):PT:=
 if n.op=1 then .eps else if n.op=2 then .sym i else if n.op=3 then .cat (tr n.a.toNat) (tr n.b.toNat)
 else if n.op=4 then .alt (tr n.a.toNat) (tr n.b.toNat)else if n.op=5 then .star (tr n.a.toNat)else .none
def jn:List PT->List ar->List PT
 |a,[]=>a
 |a,n::l=>jn (a++[ev (fun j=>a.getD j .none) a.length n]) l
def aS(l:List ar)(i:Nat):PT:=(jn [] l).getD i .none
theorem wh:∀(x y:List ar) (a:List PT),jn a (x++y)=jn (jn a x) y
 |[],_,_=>rfl
 |n::x,y,a=>by simp only[fH,jn];rw[wh x y]
theorem wi:∀(x:List ar) (a:List PT),(jn a x).length=a.length+x.length
 |[],a=>rfl
 |n::x,a=>by simp only[jn];rw[wi x];simp;omega
theorem AQ:∀(x:List ar) (a:List PT) (j:Nat),j<a.length->(jn a x).getD j .none=a.getD j .none
 |[],_,_,_=>rfl
 |n::x,a,j,b=>by simp only[jn];rw[AQ x _ j aO,fJ,fJ,eF b]
theorem AR{l:List ar}{k j:Nat}(b:j<k)(c:k<=l.length):(jn [] (l.take k)).getD j .none=aS l j:=by
 unfold aS;conv=>rhs;rw[<-jC k l,wh]
 have a:=AQ (l.drop k) (jn [] (l.take k)) j (by rw[wi,dx];simp;omega);rw[a]
theorem If{f g:Nat->PT}{i:Nat}{n:ar}(m:dG i n=true)(b:∀j,j<i->f j=g j):ev f i n=ev g i n:=by
 have a:=lz m;unfold bU at a;unfold ev;by_cases d:n.op=3
 ·have c:=a n.a.toNat (by simp[d]);have h:=a n.b.toNat (by simp[d])
  simp[d,b _ c,b _ h]
 ·by_cases e:n.op=4
  ·have c:=a n.a.toNat (by simp[e]);have h:=a n.b.toNat (by simp[e])
   simp[e,b _ c,b _ h]
  ·by_cases l:n.op=5
   ·have c:=a n.a.toNat (by simp[l])
    simp[l,b _ c]
   ·simp[d,e,l]
theorem pU{l:List ar}(d:dW 0 l=true){i:Nat}{n:ar}(a:l[i]?=some n):aS l i=ev (aS l) i n:=by
 have f:=(aP.1 a).1;have b:=iM l 0 i n d a;rw[cE]at b;have e:(jn [] (l.take i)).length=i:=by rw[wi,dx];simp;omega
 rw[<-AR (l:=l) (k:=i+1) ad ad,bG,a,dR,wh];simp only[jn];rw[fJ,gH ad,e];simp only[qE,jD,pL];refine If b fun j c=> ?_;rw[AR c ad]
def tJ(l:List ar)(j i:Nat):Bool:=match l[i]? with|some n=>(bU n).contains j|none=>false
def gx(l:List ar)(j:Nat):Nat:=((List.range l.length).find? (tJ l j)).getD 0
theorem AT{l:List ar}{j i:Nat}:tJ l j i=true↔∃n,l[i]?=some n/\j∈bU n:=by
 unfold tJ;cases l[i]? with
 |none=>simp
 |some n=>simp
theorem AU{l:List ar}{j a b:Nat}{n m:ar}(i:a<b)(f:l[a]?=some n)(c:l[b]?=some m)(d:j∈bU n)(e:j∈bU m):2<=cY l j:=by
 have o:=(aP.1 c).1;have g:=qY f j;have h:=qY c j;have p:1<=(bU n).count j:=Fq.2 d;have q:1<=(bU m).count j:=Fq.2 e;have u1:cY (l.take (a+1)) j<=cY (l.take b) j:=by have:=we (l:=l.take b) j (a+1) (by rw[dx];omega);rwa[List.take_take,vt ad]at this
 have u2:=we (l:=l) j (b+1) ad;omega
theorem oI{l:List ar}(hF:eu l){i j:Nat}{n:ar}(a:l[i]?=some n)(c:j∈bU n):gx l j=i:=by
 have h:=(aP.1 a).1;have g:=iM l 0 i n hF.ok a;rw[cE]at g;have o:=lz g j c;unfold gx;cases d:(List.range l.length).find? (tJ l j)with
 |none=>
  rw[Fs]at d;exact absurd (AT.2 ⟨n,a,c⟩) (d i (l6.2 h))
 |some k=>
  obtain⟨m,f,e⟩:=AT.1 (zr d);have p:=hF.used j ad;show k=i
  rcases zt k i with b|b|b
  ·have:=AU b f a e c;omega
  ·exact b
  ·have:=AU b a f c e;omega
theorem wj{l:List ar}(hF:eu l){j:Nat}(e:j<l.length-1):∃i n,l[i]?=some n/\j∈bU n/\j<i/\gx l j=i:=by have h:=hF.used j e;have d:0<cY l j:=ad;unfold cY at d;have f:=Fq.1 d;obtain⟨n,g,b⟩:=List.mem_flatMap.1 f;obtain⟨i,a⟩:=m0.1 g;have c:=iM l 0 i n hF.ok a;rw[cE]at c;exact⟨i,n,a,b,lz c j b,oI hF a b⟩
theorem tK{l:List ar}(hF:eu l){i:Nat}{n:ar}(a:l[i]?=some n)(e:n.op=3∨n.op=4):n.a.toNat≠n.b.toNat:=by
 intro d;have h:=(aP.1 a).1;have b:=iM l 0 i n hF.ok a;rw[cE]at b;have c:bU n=[n.a.toNat,n.b.toNat]:=by unfold bU;rw[au e]
 have j:=lz b n.a.toNat (by rw[c];simp);have f:=qY a n.a.toNat;have g:(bU n).count n.a.toNat=2:=by rw[c,<-d];simp
 have m:=we (l:=l) n.a.toNat (i+1) ad;have:=hF.used n.a.toNat ad;omega
theorem AV{l:List ar}(hF:eu l){i:Nat}(f:i<l.length):Mk (aS l) (gx l) i (aS l i):=by
 obtain⟨n,c⟩:∃n,l[i]?=some n:=⟨_,aF f⟩;have e:=iM l 0 i n hF.ok c;rw[cE]at e;have d:=lz e;rw[pU hF.ok c];rcases rm e with a|a|a|a|a|a
 ·have:ev (aS l) i n=.none:=by simp[ev,a]
  rw[this];exact .none
 ·have:ev (aS l) i n=.eps:=by simp[ev,a]
  rw[this];exact .eps
 ·have:ev (aS l) i n=.sym i:=by simp[ev,a]
  rw[this];exact .sym
 ·have:ev (aS l) i n=.cat (aS l n.a.toNat) (aS l n.b.toNat):=by simp[ev,a]
  rw[this];have b:bU n=[n.a.toNat,n.b.toNat]:=by unfold bU;rw[au (.inl a)]
  exact .cat (d _ (by rw[b];simp)) (d _ (by rw[b];simp)) (tK hF c (.inl a)) (oI hF c (by rw[b];simp)) (oI hF c (by rw[b];simp))
 ·have:ev (aS l) i n=.alt (aS l n.a.toNat) (aS l n.b.toNat):=by simp[ev,a]
  rw[this];have b:bU n=[n.a.toNat,n.b.toNat]:=by unfold bU;rw[au (.inr a)]
  exact .alt (d _ (by rw[b];simp)) (d _ (by rw[b];simp)) (tK hF c (.inr a)) (oI hF c (by rw[b];simp)) (oI hF c (by rw[b];simp))
 ·have:ev (aS l) i n=.star (aS l n.a.toNat):=by simp[ev,a]
  rw[this];have b:bU n=[n.a.toNat]:=by unfold bU;rw[ap ad,au a]
  exact .star (d _ (by rw[b];simp)) (oI hF c (by rw[b];simp))
def kw(l:List ar)(a:Nat):Fr:=
 match l[gx l a]? with
 |none=>.star
 |some n=>if n.op=3 then(if n.a=(a:Int)then .catL (aS l n.b.toNat)else .catR (aS l n.a.toNat))else if n.op=4 then(if n.a=(a:Int)then .altL (aS l n.b.toNat)else .altR (aS l n.a.toNat))else .star
theorem wk{l:List ar}(hF:eu l){a:Nat}(s:a<l.length-1):a<gx l a/\gx l a<=l.length-1/\(kw l a).plug (aS l a)=aS l (gx l a):=by
 obtain⟨i,n,e,c,t,p⟩:=wj hF s;have u:=(aP.1 e).1;have d:=iM l 0 i n hF.ok e;rw[cE]at d;rw[p];refine⟨t,ad,?_⟩;rw[pU hF.ok e];unfold kw;rw[p,e];simp only;unfold bU at c;split at c
 ·rename_i g
  have v:0<=n.a/\0<=n.b:=by unfold dG at d;rw[ap ad,ap ad,au g]at d;simp only[dg]at d;have h:=d.1.2;have j:=d.2;unfold bM at h j;simp at h j;omega
  by_cases f:n.a=(a:Int)
  ·have m:n.a.toNat=a:=ad
   rcases g with b|b
   ·rw[au b,au f];simp[ev,b,m,Fr.plug]
   ·rw[ap ad,au b,au f];simp[ev,b,m,Fr.plug]
  ·have o:n.b.toNat=a:=by
    simp at c;rcases c with q|q
    ·omega
    ·omega
   rcases g with b|b
   ·rw[au b,ap f];simp[ev,b,o,Fr.plug]
   ·rw[ap ad,au b,ap f];simp[ev,b,o,Fr.plug]
 ·split at c
  ·rename_i r
   simp at c;rw[ap ad,ap ad];simp[ev,r,Fr.plug,c]
  ·simp at c
def cB:PT->Nat
 | .none=>0
 | .eps=>0
 | .sym p=>2^p
 | .cat a b=>if a.alive&&b.alive then(cB a|||(if a.null then cB b else 0))else 0
 | .alt a b=>cB a|||cB b
 | .star a=>cB a
def dO:PT->Nat
 | .none=>0
 | .eps=>0
 | .sym p=>2^p
 | .cat a b=>if a.alive&&b.alive then(dO b|||(if b.null then dO a else 0))else 0
 | .alt a b=>dO a|||dO b
 | .star a=>dO a
theorem AW(p q:Nat):(2^p).testBit q=(p==q):=by rw[Nat.testBit_two_pow];rw[eS];simp
theorem tL{t:PT}(a:t.null=true):t.alive=true:=L_alive (L_null t a)
theorem lA:∀(t:PT) (q:Nat),(cB t).testBit q=t.starts q
 | .none,q=>by simp[cB,PT.starts]
 | .eps,q=>by simp[cB,PT.starts]
 | .sym p,q=>by simp[cB,PT.starts,AW]
 | .alt a b,q=>by simp[cB,PT.starts,lA a q,lA b q]
 | .star a,q=>by simp[cB,PT.starts,lA a q]
 | .cat a b,q=>by
   unfold cB PT.starts;cases d:a.alive with
   |false=>
    have e:a.starts q=false:=by cases c:a.starts q with|false=>rfl|true=>rw[starts_alive a c]at d;cases d
    have g:a.null=false:=by cases c:a.null with|false=>rfl|true=>rw[tL c]at d;cases d
    simp[e,g]
   |true=>
    cases f:b.alive with
    |false=>
     have e:b.starts q=false:=by cases c:b.starts q with|false=>rfl|true=>rw[starts_alive b c]at f;cases f
     simp[e]
    |true=>
     cases h:a.null with
     |false=>simp[lA a q]
     |true=>simp[lA a q,lA b q]
theorem ms:∀(t:PT) (q:Nat),(dO t).testBit q=t.ends q
 | .none,q=>by simp[dO,PT.ends]
 | .eps,q=>by simp[dO,PT.ends]
 | .sym p,q=>by simp[dO,PT.ends,AW]
 | .alt a b,q=>by simp[dO,PT.ends,ms a q,ms b q]
 | .star a,q=>by simp[dO,PT.ends,ms a q]
 | .cat a b,q=>by
   unfold dO PT.ends;cases f:a.alive with
   |false=>
    have e:a.ends q=false:=by cases c:a.ends q with|false=>rfl|true=>rw[ends_alive a c]at f;cases f
    simp[e]
   |true=>
    cases d:b.alive with
    |false=>
     have e:b.ends q=false:=by cases c:b.ends q with|false=>rfl|true=>rw[ends_alive b c]at d;cases d
     have g:b.null=false:=by cases c:b.null with|false=>rfl|true=>rw[tL c]at d;cases d
     simp[e,g]
    |true=>
     cases h:b.null with
     |false=>simp[ms b q]
     |true=>simp[ms a q,ms b q]
def jK(l:List ar)(p:Nat):Nat->Nat->Nat->Nat
 |0,_,out=>out
 |k+1,a,out=>
  if a=l.length-1 then out
  else if(aS l (gx l a)).alive then
   jK l p k (gx l a) (if(dO (aS l a)).testBit p then(match kw l a with| .catL b=>out|||cB b| .star=>out|||cB (aS l a)|_=>out)else out)
  else 0
theorem wm(p:Nat):∀(a:List Fr) (t:PT) (S T:Nat->Bool),(∀q,S q=T q)->∀q,climb p t a S q=climb p t a T q
 |[],_,_,_,b,q=>b q
 |f::a,t,S,T,b,q=>by
  unfold climb;split
  ·exact wm p a _ _ _ (fun q=>by rw[b q]) q
  ·rfl
theorem AX{l:List ar}(hF:eu l)(p:Nat):∀(k a out:Nat),a<=l.length-1->∀q,(jK l p k a out).testBit q=climb p (aS l a) (path (gx l) (kw l) (l.length-1) k a) (fun q=>out.testBit q) q
 |0,a,out,_,q=>rfl
 |k+1,a,out,g,q=>by
  unfold jK path;by_cases b:a=l.length-1
  ·rw[au b,au b];rfl
  ·rw[ap b,ap b]
   obtain⟨f,d,e⟩:=wk hF (a:=a) ad;unfold climb;rw[e];cases h:(aS l (gx l a)).alive with
   |false=>simp
   |true=>
    rw[au rfl,au rfl,AX hF p k _ _ d q];refine wm p _ _ _ _ (fun q=> ?_) q;unfold Fr.add;rw[ms];cases c:(aS l a).ends p with
    |false=>cases kw l a<;>simp[c]
    |true=>cases kw l a<;>simp[c,lA]
def db(l:List ar)(p:Nat):Nat:=jK l p l.length p 0
theorem AY{l:List ar}(hF:eu l){p:Nat}{n:ar}(c:l[p]?=some n)(e:n.op=2)(q:Nat):(db l p).testBit q=(aS l (l.length-1)).pairs p q:=by have g:=(aP.1 c).1;unfold db;rw[AX hF p l.length p 0 ad];have b:=next_pairs (tr:=aS l) (up:=gx l) (fr:=kw l) (root:=l.length-1) (fun i f=>AV hF ad) (fun a d=>wk hF d) (p:=p) ad (by rw[pU hF.ok c];simp[ev,e]) q;rw[show l.length-1+1=l.length by omega]at b;rw[<-b];exact wm p _ _ _ _ (fun q=>ak) q
def pV{b:Type}(a:Nat->b)(t:PT):(Nat->Prop)->List b->(Nat->Prop)
 |S,[]=>S
 |S,x::w=>pV a t (fun q=>∃p,S p/\a p=x/\t.pairs p q=true) w
theorem Ig{b:Type}(a:Nat->b)(t:PT):∀(w:List b) (S T:Nat->Prop),(∀q,S q↔T q)->(PRegex.Reach a t S w↔PRegex.Reach a t T w):=by intro w S T c;have:S=T:=funext fun q=>propext (c q);rw[this]
theorem AZ{f:Type}(a:Nat->f)(t:PT):∀(w:List f) (x:f) (S:Nat->Prop),PRegex.Reach a t (fun q=>S q/\a q=x) w↔∃p,pV a t S ((x::w).dropLast) p/\some (a p)=(x::w).getLast?/\t.ends p=true
 |[],x,S=>by
  simp[PRegex.Reach,pV];constructor
  ·rintro⟨p,⟨b,c⟩,d⟩;exact⟨p,b,c,d⟩
  ·rintro⟨p,b,c,d⟩;exact⟨p,⟨b,c⟩,d⟩
 |y::w,x,S=>by
  rw[PRegex.Reach];rw[Ig a t w _ (fun q=>(∃p,S p/\a p=x/\t.pairs p q=true)/\a q=y) (fun q=>by
   constructor
   ·rintro⟨p,⟨b,c⟩,d,e⟩;exact⟨⟨p,b,c,d⟩,e⟩
   ·rintro⟨⟨p,b,c,d⟩,e⟩;exact⟨p,⟨b,c⟩,d,e⟩)]
  rw[AZ a t w y];rw[show(x::y::w).dropLast=x::(y::w).dropLast from rfl,show(x::y::w).getLast?=(y::w).getLast? from by simp[List.getLast?_cons_cons]];rfl
theorem Ih{b:Type}(a:Nat->b)(t:PT)(c:t.lin)(w:List b)(d:w≠[]):MW a t w↔∃p,pV a t (fun q=>t.starts q=true) w.dropLast p/\some (a p)=w.getLast?/\t.ends p=true:=by
 cases w with
 |nil=>exact absurd rfl d
 |cons x w=>rw[MW_cons a t c,AZ]
theorem wn{l:List ar}(hF:eu l){i:Nat}(b:i<l.length):(aS l i).lin/\∀p,(aS l i).inn p=true->p<=i:=by have a:=lin_tr (tr:=aS l) (up:=gx l) (n:=l.length) (fun j c=>AV hF c) i b;exact⟨a.1,fun p d=>(a.2 p d).le⟩
theorem A2{l:List ar}(hF:eu l){i:Nat}(b:i<l.length):cB (aS l i)<2^l.length:=by
 refine Ft _ fun q c=> ?_;rw[lA];cases a:(aS l i).starts q with
 |false=>rfl
 |true=>have:=(wn hF b).2 q (starts_inn _ a);omega
theorem Ii{l:List ar}(hF:eu l){i:Nat}(b:i<l.length):dO (aS l i)<2^l.length:=by
 refine Ft _ fun q c=> ?_;rw[ms];cases a:(aS l i).ends q with
 |false=>rfl
 |true=>have:=(wn hF b).2 q (ends_inn _ a);omega
end
def gy(l:List ar)(p:Nat):Bytes:=match l[p]? with|some n=>n.sym|none=>[]
theorem wu{l:List ar}{p:Nat}{n:ar}(a:l[p]?=some n):gy l p=n.sym:=by unfold gy;rw[a]
def ft(ts:List ax)(x:ax)(a:Bytes):Option Nat:=(kidsS ts x).find? (fun j=>labelAt ts j==a)
def nA(ts:List ax)(k:Nat):Bytes:=match ts[k]? with|some t=>t.name|none=>[]
def dT(et:List (Bytes×Bytes))(n:Bytes):Option Bytes:=(et.find? (fun a=>a.1==n)).map Prod.snd
def dD(key:Bytes)(ks:List Tr):List Bytes:=if key=[]then []else ks.filterMap (fun k=>dT k.attrs key)
def eL(ts:List ax)(x:ax)(ks:List Tr):List Bytes:=ks.map fun k=>nA ts ((ft ts x k.label).getD 0)
def mu(l:List ar)(a:List Bytes):Prop:=PRegex.MW (gy l) (aS l (l.length-1)) a
mutual
def fw (ts:List ax):Nat->Tr->Prop
 |at_,.mk label _ attrs a=>∃x,ts[at_]?=some x/\label=x.label/\attrs.map Prod.fst=x.attrs/\
   (if x.text=true then(a=[]∨∃k,a=[k]/\k.label=[])else jL ts x a/\(dD x.key a).Nodup/\mu x.nodes (eL ts x a))
def jL (ts:List ax) (x:ax):List Tr->Prop
 |[]=>True
 |k::ks=>(∃j,ft ts x k.label=some j/\fw ts j k)/\jL ts x ks
end
theorem tM{ts:List ax}{x:ax}:∀{ks:List Tr},jL ts x ks↔∀k∈ks,∃j,ft ts x k.label=some j/\fw ts j k
 |[]=>by simp[jL]
 |k::ks=>by simp only[jL,tM (ks:=ks),eH,forall_eq_or_imp]
theorem tN{ts:List ax}{at_:Nat}{x:ax}(d:ts[at_]?=some x)(t:Tr):fw ts at_ t↔t.label=x.label/\t.attrs.map Prod.fst=x.attrs/\
 (if x.text=true then(t.kids=[]∨∃k,t.kids=[k]/\k.label=[])else jL ts x t.kids/\(dD x.key t.kids).Nodup/\mu x.nodes (eL ts x t.kids)):=by
 obtain⟨l,e,a,k⟩:=t;unfold fw;constructor
 ·rintro⟨y,b,c⟩
  rw[d]at b;injection b with b;subst b
  exact c
 ·intro c;exact⟨x,d,c⟩
theorem A3{ts:List ax}{x:ax}{ks:List Tr}{i:Nat}{k:Tr}(b:ks[i]?=some k)(a:¬∃j,ft ts x k.label=some j/\fw ts j k):¬jL ts x ks:=by rw[tM];exact fun H=>a (H k (aU b))
theorem A5{ts:List ax}{x:ax}{ks:List Tr}{i:Nat}{k:Tr}(d:ks[i]?=some k)(b:jL ts x (ks.take i))(c:∃j,ft ts x k.label=some j/\fw ts j k):jL ts x (ks.take (i+1)):=by
 rw[tM]at b⊢;intro m a;rw[bG,d]at a;rcases fe.1 a with a|a
 ·exact b m a
 ·simp at a;subst a;exact c
theorem A6{ts:List ax}{x:ax}{ks:List Tr}{i:Nat}{k:Tr}(a:ks[i]?=some k):eL ts x (ks.take (i+1))=eL ts x (ks.take i)++[nA ts ((ft ts x k.label).getD 0)]:=by unfold eL;rw[bG,a,fd];rfl
theorem Ij{key:Bytes}{ks:List Tr}{i:Nat}{k:Tr}(b:ks[i]?=some k)(a:key≠[]):dD key (ks.take (i+1))=dD key (ks.take i)++(dT k.attrs key).toList:=by unfold dD;rw[ap a,ap a,bG,b,Ff];cases c:dT k.attrs key<;>simp[c]
theorem Ik{key:Bytes}{ks:List Tr}{i:Nat}:dD key (ks.take i)<+:dD key ks:=by
 unfold dD;split
 ·exact List.prefix_rfl
 ·conv=>rhs;rw[<-jC i ks,Ff]
  exact List.prefix_append _ _
theorem A7{f:Type}{l:List f}{a:f}:(l++[a]).Nodup↔l.Nodup/\a∉l:=by
 rw[List.nodup_append];simp only[vC,qK,not_false_eq_true,vD,and_self,eH,qL,true_and];constructor
 ·rintro⟨d,e⟩;exact⟨d,fun j=>e a j a rfl rfl⟩
 ·rintro⟨d,e⟩;exact⟨d,fun b h c i g=>e (by rw[<-i,<-g];exact h)⟩
def lB(key:Bytes)(ks:List Tr):Prop:=∀(i k:Nat) (a b:Tr),k<i->ks[i]?=some a->ks[k]?=some b->¬(key≠[]/\∃v,dT a.attrs key=some v/\dT b.attrs key=some v)
theorem Il(key:Bytes)(ks:List Tr):lB key ks↔(dD key ks).Nodup:=by
 by_cases j:key=[]
 ·simp[lB,dD,j]
 ·unfold dD
  rw[ap j];induction ks with
  |nil=>simp[lB]
  |cons t ks ih=>
   have d:lB key (t::ks)↔lB key ks/\∀a∈ks,¬∃v,dT a.attrs key=some v/\dT t.attrs key=some v:=by
    constructor
    ·intro l
     refine⟨fun i k a b p c g=>l (i+1) (k+1) a b ad (by simpa using c) (by simpa using g),fun a c e=> ?_⟩;obtain⟨i,o⟩:=zu c;exact l (i+1) 0 a t ad (by simpa using o) rfl ⟨j,e⟩
    ·rintro⟨d,f⟩ i k a b p c g e
     cases i with
     |zero=>omega
     |succ i=>
      cases k with
      |zero=>simp at g c;subst g;exact f a (aU c) e.2
      |succ k=>exact d i k a b ad (by simpa using c) (by simpa using g) e
   rw[d,ih];cases e:dT t.attrs key with
   |none=>simp[e]
   |some v=>
    simp only[List.filterMap_cons,e,vC,zk,not_exists,not_and];constructor
    ·rintro⟨d,f⟩;exact⟨fun a c m=>f a c v m rfl,d⟩
    ·rintro⟨d,f⟩
     exact⟨f,fun a c u n h=>by injection h with h;subst h;exact d a c n⟩
section
open PRegex
theorem CW{l:List ar}(e:dW 0 l=true):∀(i:Nat),i<l.length->∀p,(aS l i).inn p=true->∃n,l[p]?=some n/\n.op=2:=by
 intro i;induction i using Nat.strongRecOn with
 |_ i ih=>
 intro o p a;obtain⟨n,d⟩:∃n,l[i]?=some n:=⟨_,aF o⟩;have f:=iM l 0 i n e d;rw[cE]at f;have c:=lz f;rw[pU e d]at a;unfold ev at a;split at a
 ·cases a
 split at a
 ·rename_i g
  simp[PT.inn]at a;subst a;exact⟨n,d,g⟩
 split at a
 ·rename_i h
  have b:bU n=[n.a.toNat,n.b.toNat]:=by unfold bU;rw[au (.inl h)]
  simp only[PT.inn,cM]at a;rcases a with a|a
  ·have:=c n.a.toNat (by rw[b];simp)
   exact ih _ this ad p a
  ·have:=c n.b.toNat (by rw[b];simp)
   exact ih _ this ad p a
 split at a
 ·rename_i j
  have b:bU n=[n.a.toNat,n.b.toNat]:=by unfold bU;rw[au (.inr j)]
  simp only[PT.inn,cM]at a;rcases a with a|a
  ·have:=c n.a.toNat (by rw[b];simp)
   exact ih _ this ad p a
  ·have:=c n.b.toNat (by rw[b];simp)
   exact ih _ this ad p a
 split at a
 ·rename_i m
  have b:bU n=[n.a.toNat]:=by unfold bU;rw[ap ad,au m]
  have:=c n.a.toNat (by rw[b];simp);exact ih _ this ad p a
 ·cases a
def fO(l:List ar)(x:Bytes):Nat->List Nat->Nat
 |a,[]=>a
 |a,p::ps=>fO l x (if gy l p=x then a|||db l p else a) ps
def jA(l:List ar)(m:Nat):List Bytes->Nat
 |[]=>m
 |x::a=>jA l (fO l x 0 (aI m)) a
theorem CX(l:List ar)(x:Bytes):∀(a b:List Nat) (c:Nat),fO l x c (a++b)=fO l x (fO l x c a) b
 |[],b,c=>rfl
 |p::a,b,c=>CX l x a b _
theorem CY(l:List ar):∀(a b:List Bytes) (m:Nat),jA l m (a++b)=jA l (jA l m a) b
 |[],b,m=>rfl
 |x::a,b,m=>CY l a b _
def iC(l:List ar)(m:Nat):Prop:=m<18446744073709551616/\∀p,m.testBit p=true->∃n,l[p]?=some n/\n.op=2
theorem xV{l:List ar}(hF:eu l)(d:l.length<=60):iC l (cB (aS l (l.length-1))):=by
 have e:=hF.ne;have f:0<l.length:=by cases l with|nil=>exact absurd rfl e|cons a b=>simp
 refine⟨?_,fun p c=> ?_⟩
 ·have g:=A2 hF (i:=l.length-1) ad
  have:(2:Nat)^l.length<=2^60:=yZ aw d;have:(2:Nat)^60<=18446744073709551616:=aw;omega
 ·rw[lA]at c
  exact CW hF.ok _ ad p (starts_inn _ c)
theorem xW{l:List ar}(hF:eu l)(f:l.length<=60){p:Nat}{n:ar}(b:l[p]?=some n)(h:n.op=2):iC l (db l p):=by
 have j:=(aP.1 b).1;have e:=AY hF b h;have c:∀q,(db l p).testBit q=true->∃n,l[q]?=some n/\n.op=2:=fun q a=>by rw[e]at a;exact CW hF.ok (l.length-1) ad q (pairs_inn _ a).2
 refine⟨?_,c⟩;have i:db l p<2^l.length:=Ft _ fun q a=>by
  cases d:(db l p).testBit q with
  |false=>rfl
  |true=>obtain⟨n,g,_⟩:=c q d;have:=(aP.1 g).1;omega
 have:(2:Nat)^l.length<=2^60:=yZ aw f;have:(2:Nat)^60<=18446744073709551616:=aw;omega
theorem LS{l:List ar}{a b:Nat}(c:iC l a)(d:iC l b):iC l (a|||b):=
 ⟨y7 (n:=64) c.1 d.1,fun p e=>by rw[y9,cM]at e;exact e.elim (c.2 p) (d.2 p)⟩
theorem CZ(l:List ar):iC l 0:=⟨aw,fun p a=>by simp at a⟩
theorem xX{l:List ar}(hF:eu l)(c:l.length<=60)(x:Bytes):∀(ps:List Nat) (a:Nat),iC l a->(∀p∈ps,∃n,l[p]?=some n/\n.op=2)->iC l (fO l x a ps)
 |[],a,b,_=>b
 |p::ps,a,b,d=>by
  unfold fO;refine xX hF c x ps _ ?_ (fun q g=>d q (f8 _ g));split
  ·obtain⟨n,e,f⟩:=d p (f9 ..)
   exact LS b (xW hF c e f)
  ·exact b
theorem rO{l:List ar}{m:Nat}(a:iC l m):∀p∈aI m,∃n,l[p]?=some n/\n.op=2:=fun p b=>a.2 p ((qW a.1).1 b)
theorem C0{l:List ar}(hF:eu l)(b:l.length<=60){m:Nat}(a:iC l m)(x:Bytes):iC l (fO l x 0 (aI m)):=xX hF b x _ _ (CZ l) (rO a)
theorem xY{l:List ar}(hF:eu l)(c:l.length<=60):∀(b:List Bytes) (m:Nat),iC l m->iC l (jA l m b)
 |[],m,a=>a
 |x::b,m,a=>xY hF c b _ (C0 hF c a x)
theorem C1{l:List ar}(hF:eu l)(d:l.length<=60)(x:Bytes)(q:Nat):∀(ps:List Nat) (a:Nat),(∀p∈ps,∃n,l[p]?=some n/\n.op=2)->((fO l x a ps).testBit q=true↔a.testBit q=true∨∃p∈ps,gy l p=x/\(aS l (l.length-1)).pairs p q=true)
 |[],a,_=>by simp[fO]
 |p::ps,a,c=>by
  unfold fO;rw[C1 hF d x q ps _ (fun r g=>c r (f8 _ g))];obtain⟨n,e,f⟩:=c p (f9 ..);by_cases b:gy l p=x
  ·rw[au b,y9,cM,AY hF e f]
   simp[b,or_assoc]
  ·rw[ap b]
   simp[b]
theorem C2{l:List ar}(hF:eu l)(e:l.length<=60)(q:Nat):∀(b:List Bytes) (m:Nat),iC l m->((jA l m b).testBit q=true↔pV (gy l) (aS l (l.length-1)) (fun p=>m.testBit p=true) b q)
 |[],m,a=>Iff.rfl
 |x::b,m,a=>by
  unfold jA pV;rw[C2 hF e q b _ (C0 hF e a x)];have:(fun p=>(fO l x 0 (aI m)).testBit p=true)=fun q=>∃p,m.testBit p=true/\gy l p=x/\(aS l (l.length-1)).pairs p q=true:=by
   funext q
   apply propext;rw[C1 hF e x q _ _ (rO a)];simp only[Nat.zero_testBit,kh,false_or];constructor
   ·rintro⟨p,f,c,d⟩;exact⟨p,(qW a.1).1 f,c,d⟩
   ·rintro⟨p,f,c,d⟩;exact⟨p,(qW a.1).2 f,c,d⟩
  rw[this]
def uI(l:List ar)(a:List Bytes):Bool:=
 match a.getLast? with
 |none=>(aS l (l.length-1)).null
 |some x=>(aI (jA l (cB (aS l (l.length-1))) a.dropLast)).any fun p=>gy l p==x&&(dO (aS l (l.length-1))).testBit p
theorem C3{l:List ar}(hF:eu l)(d:l.length<=60)(c:List Bytes):uI l c=true↔mu l c:=by
 have n:=hF.ne;have o:0<l.length:=by cases l with|nil=>exact absurd rfl n|cons a b=>simp
 unfold uI mu;cases c with
 |nil=>simp[MW_nil]
 |cons y c=>
  have i:(y::c).getLast?=some ((y::c).getLast ak):=List.getLast?_eq_some_getLast ak;rw[i,Ih (gy l) _ (wn hF ad).1 (y::c) ak,i];simp only[gt,dg,ln,ms];have g:=fun q=>C2 hF d q (y::c).dropLast _ (xV hF d);have j:=xY hF d (y::c).dropLast _ (xV hF d);have m:(fun p=>(cB (aS l (l.length-1))).testBit p=true)=fun q=>(aS l (l.length-1)).starts q=true:=by funext q;rw[lA]
  rw[m]at g;constructor
  ·rintro⟨p,h,e,f⟩
   exact⟨p,(g p).1 ((qW j.1).1 h),by rw[e],f⟩
  ·rintro⟨p,h,e,f⟩
   exact⟨p,(qW j.1).2 ((g p).2 h),by injection e,f⟩
end
end Go.Proofs.YtbacloblanpghaaGreatDoor
