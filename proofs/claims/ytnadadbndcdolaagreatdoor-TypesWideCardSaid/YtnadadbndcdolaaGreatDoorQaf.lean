import Derived.Test.YtnadadbndcdolaaGreatDoorQad
import Derived.Test.YtnadadbndcdolaaGreatDoorQae
set_option linter.unusedVariables false
set_option linter.unusedSimpArgs false
set_option maxRecDepth 100000
set_option maxHeartbeats 0
namespace Go.Proofs.YtnadadbndcdolaaGreatDoor
open Go.RowKit Tryz
def aC(m:Nat):List Nat:=(List.range 64).filter m.testBit
theorem I4{p b:Nat->Bool}{c:Nat}(m:p c=true)(f:∀j,j<c->p j=false)(o:b c=false)(g:∀j,j≠c->b j=p j):∀n,c<n->(List.range n).filter p=c::(List.range n).filter b:=by
 intro n;induction n with
 |zero=>intro h;omega
 |succ n ih=>
  intro h;rw[ud,li,li];by_cases e:n=c
  ·subst e
   have i:(List.range n).filter p=[]:=by rw[Ic];intro a d;rw[f a (gt.1 d)];simp
   have l:(List.range n).filter b=[]:=by rw[Ic];intro a d;have:=gt.1 d;rw[g a ad,f a this];simp
   rw[i,l];simp[m,o]
  ·rw[ih ad]
   have:=g n e;simp[rD,this]
theorem yc{m:Nat}(l:m≠0)(v:m<18446744073709551616):Lib.ctz 64 m<64/\m.testBit (Lib.ctz 64 m)=true/\(∀j,j<Lib.ctz 64 m->m.testBit j=false)/\∀j,(m&&&(m-1)).testBit j=(m.testBit j&&decide (j≠Lib.ctz 64 m)):=by
 have g:Lib.ctz 64 m=Lib.ctzFrom 64 m:=by unfold Lib.ctz;rw[au l]
 obtain⟨q,b,e⟩:=Lib.ctzFrom_spec 64 m ad ad;rw[<-g]at b e;generalize Lib.ctz 64 m=c at b e⊢;have u:0<2^c:=Nat.two_pow_pos c;have a:∀j,m.testBit j=if j<c then false else(2*q+1).testBit (j-c):=fun j=>by have:=Ta (2*q+1) u j;rw[jX,<-b]at this;rw[this];split<;>simp
 have r:m-1=2^c*(2*q)+(2^c-1):=by rw[b,Nat.mul_add,AQ];omega
 have s:∀j,(m-1).testBit j=if j<c then(2^c-1).testBit j else(2*q).testBit (j-c):=fun j=>by rw[r];exact Ta (2*q) ad j
 have t:(2*q+1).testBit 0=true:=by rw[Nat.testBit_zero];simp
 have n:(2*q).testBit 0=false:=by rw[Nat.testBit_zero];simp
 refine⟨e,by rw[a,au (ue _),xF];exact t,fun j o=>by rw[a,ay o],fun j=> ?_⟩;rw[mP,s];by_cases d:j<c
 ·rw[a,ay d];simp
 ·rw[au d]
  by_cases f:j=c
  ·subst f
   rw[xF,n];simp
  ·rw[a,au d]
   obtain⟨k,p⟩:∃k,j-c=k+1:=⟨j-c-1,ad⟩;rw[p,Nat.testBit_succ,Nat.testBit_succ];have h:(2*q+1)/2=q:=ad;have i:(2*q)/2=q:=ad;rw[h,i];simp[f]
theorem Cd{m:Nat}(c:m≠0)(b:m<18446744073709551616):aC m=Lib.ctz 64 m::aC (m&&&(m-1)):=by obtain⟨d,e,f,a⟩:=yc c b;unfold aC;exact I4 e f (by rw[a];simp) (fun j g=>by rw[a];simp[g]) 64 d
theorem qr:aC 0=[]:=by unfold aC;rw[Ic];intro a _;simp
theorem rV{m i:Nat}(b:m<18446744073709551616):i∈aC m↔m.testBit i=true:=by
 unfold aC;rw[nR,gt];constructor
 ·exact fun a=>a.2
 ·intro a
  refine⟨?_,a⟩;apply ei;intro c;have:m<2^i:=dn b (by have:(2:Nat)^64<=2^i:=qg ap ad;simpa using this)
  rw[AR this]at a;cases a
def jH(m i:Nat):Nat:=m|||2^i
theorem I5{m i:Nat}(b:m<18446744073709551616)(a:i<64):jH m i<18446744073709551616:=by unfold jH;have:(2:Nat)^i<2^64:=Id ap a;exact AT (n:=64) (by simpa using b) this
theorem I6(m i j:Nat):(jH m i).testBit j=(m.testBit j||decide (i=j)):=by unfold jH;rw[oY,Nat.testBit_two_pow]
theorem I7{i:Nat}(c:i<64):IntKind.u64.wrap (1*2^min (i:Int).toNat 64)=((2^i:Nat):Int):=by have a:min (i:Int).toNat 64=i:=ad;have b:(2:Nat)^i<2^64:=Id ap c;rw[a,Int.one_mul];rw[show((2:Int)^i)=((2^i:Nat):Int) by simp];generalize(2:Nat)^i=q at b;exact IntWalk.u64_in _ ad
theorem I8{m i:Nat}(d:m<18446744073709551616)(e:i<64):(bits .and .u64 ((m:Int).fdiv (2^min (i:Int).toNat 64)) 1==1)=m.testBit i:=by
 have b:min (i:Int).toNat 64=i:=ad;rw[b,show((2:Int)^i)=((2^i:Nat):Int) by simp];have c:(m:Int).fdiv ((2^i:Nat):Int)=((m/2^i:Nat):Int):=by generalize(2:Nat)^i=q;rw[Int.fdiv_eq_ediv_of_nonneg _ ad];rfl
 rw[c,show(1:Int)=((1:Nat):Int)from rfl,AU _ _ (Ie (Nat.div_le_self _ _) d) ap];rw[Nat.testBit_eq_decide_div_mod_eq,Nat.and_one_is_mod];by_cases a:m/2^i % 2=1
 ·simp[a]
 ·have:m/2^i % 2=0:=ad
  simp[this]
theorem uO(i:Nat):((2:Int)^i)=((2^i:Nat):Int):=ak
theorem I9{m i:Nat}(e:m<18446744073709551616)(d:i<64):(bits .and .u64 ((m:Int)/2^i) 1==1)=m.testBit i:=by
 have a:=I8 e d;have b:min (i:Int).toNat 64=i:=ad;rw[b,uO]at a;rw[uO,<-a];have c:(m:Int).fdiv ((2^i:Nat):Int)=(m:Int)/((2^i:Nat):Int):=by generalize(2:Nat)^i=q;rw[Int.fdiv_eq_ediv_of_nonneg _ ad]
 rw[c]
theorem Ce{i:Nat}(c:i<64):IntKind.u64.wrap ((2:Int)^i)=(2:Int)^i:=by have a:=I7 c;have b:min (i:Int).toNat 64=i:=ad;rw[b,Int.one_mul]at a;rw[a,uO]
theorem Cf{m i:Nat}(b:m<18446744073709551616)(a:i<64):bits .or .u64 (m:Int) ((2:Int)^i)=((jH m i:Nat):Int):=by rw[uO];exact If m (2^i) b (by have:(2:Nat)^i<2^64:=Id ap a;simpa using this)
inductive Tr where
 |mk (label text:Bytes) (attrs:List (Bytes×Bytes)) (kids:List Tr)
namespace Tr
def label:Tr->Bytes| .mk l _ _ _=>l
def text:Tr->Bytes| .mk _ t _ _=>t
def attrs:Tr->List (Bytes×Bytes)| .mk _ _ a _=>a
def kids:Tr->List Tr| .mk _ _ _ k=>k
end Tr
structure yh where
 kind:Int
 name:Bytes
 text:Bytes
def Jt(a:Bytes×Bytes):yh:=⟨2,a.1,a.2⟩
mutual
def Ju:Tr->List yh
 | .mk label text attrs a=>if label=[]then [⟨3,[],text⟩]else⟨1,label,[]⟩::(attrs.map Jt++Cq a++[⟨4,[],[]⟩])
def Cq:List Tr->List yh
 |[]=>[]
 |k::ks=>Ju k++Cq ks
end
mutual
def gz:Tr->Nat
 | .mk _ _ _ a=>fC a+1
def fC:List Tr->Nat
 |[]=>0
 |k::ks=>gz k+fC ks
end
mutual
def fR:Tr->Nat
 | .mk _ _ _ a=>nf a+1
def nf:List Tr->Nat
 |[]=>0
 |k::ks=>max (fR k) (nf ks)
end
mutual
def nodesT:Tr->List Tr
 | .mk l t a b=>.mk l t a b::dz b
def dz:List Tr->List Tr
 |[]=>[]
 |k::ks=>nodesT k++dz ks
end
def lw(s:Bytes):Bool:=gy s==s.length
def qv(n:Tr):Bool:=if n.label=[]then decide (n.attrs≠[])||decide (n.kids≠[])else decide (n.text≠[])
def r9(n:Tr):Bool:=(decide (n.label≠[])&& !cH n.label)||n.attrs.any (fun a=> !cH a.1)
def se(n:Tr):Bool:= !lw n.text||n.attrs.any (fun a=> !lw a.2)
def uT(n:Tr):Bool:=decide (n.label=[])&&decide (n.text=[])
def sh(n:Tr):Bool:=ej (n.attrs.map Prod.fst)
def qw:List Tr->Bool
 |[]=>false
 |[_]=>false
 |a::b::t=>(decide (a.label=[])&&decide (b.label=[]))||qw (b::t)
def si(n:Tr):Bool:=qw n.kids
def kL(t:Tr):Int:=
 if 4096<gz t∨32<fR t then 17 else if(nodesT t).any qv=true then 12 else if(nodesT t).any r9=true then 11 else
 if(nodesT t).any se=true then 10 else if(nodesT t).any uT=true then 18 else if(nodesT t).any sh=true then 14 else
 if(nodesT t).any si=true then 15 else 0
theorem Cr(t:Tr):nodesT t=t::dz t.kids:=by cases t;rw[nodesT];rfl
section
theorem ym{i:Nat}{x:Int}(a:dy i x=true):x.toNat<i:=by unfold dy at a;simp at a;omega
theorem mi{i:Nat}{n:aj}(a:dO i n=true):∀p∈bO n,p<i:=by
 intro p b;unfold bO at b;unfold dO at a;split at b
 ·rename_i d
  rw[au ad,au ad,ay d]at a;simp only[cS]at a;have c:=ym a.1.2;have f:=ym a.2;simp at b;rcases b with rfl|rfl<;>assumption
 ·split at b
  ·rename_i e
   rw[au ad,au ad,au ad,ay e]at a;simp only[cS]at a;have c:=ym a.1.2;simp at b;subst b;exact c
  ·simp at b
theorem iM:∀(l:List aj) (i k:Nat) (n:aj),ey i l=true->l[k]?=some n->dO (i+k) n=true
 |[],i,k,n,_,a=>by simp at a
 |m::l,i,0,n,a,b=>by simp at b;subst b;unfold ey at a;rw[cS]at a;exact a.1
 |m::l,i,k+1,n,a,b=>by unfold ey at a;rw[cS]at a;have:=iM l (i+1) k n a.2 (by simpa using b);rwa[show i+1+k=i+(k+1) by omega]at this
structure dP(l:List aj):Prop where
 ok:ey 0 l=true
 ne:l≠[]
 used:∀j,j<l.length-1->cV l j=1
theorem mj{l:List aj}(a:iu l=true):dP l:=by unfold iu at a;simp only[cS,l4,gt]at a;exact⟨a.1.1,by cases l<;>simp_all,fun j b=>by simpa using a.1.2 j b⟩
theorem Kc{l:List aj}(b:ey 0 l=true):∀k j,k<=l.length->k<=j+1->cV (l.take k) j=0:=by
 intro k;induction k with
 |zero=>intro j _ _;simp[cV]
 |succ k ih=>
  intro j e d;obtain⟨n,a⟩:∃n,l[k]?=some n:=⟨_,aH ad⟩;rw[rW a,ih j ad ad,cD];have:=mi (iM l 0 k n b a);rw[Is];intro c;have:=this j c;omega
theorem yn{l:List aj}(j:Nat):∀k,k<=l.length->cV (l.take k) j<=cV l j:=by
 intro k a;conv=>rhs;rw[<-mQ k l]
 unfold cV;rw[ug,xG];omega
theorem vg{i:Nat}{n:aj}(a:dO i n=true):n.op=0∨n.op=1∨n.op=2∨n.op=3∨n.op=4∨n.op=5:=by
 unfold dO at a;split at a
 ·omega
 split at a
 ·omega
 split at a
 ·omega
 split at a
 ·omega
 ·cases a
open PRegex
def eS(tr:Nat->PT)(i:Nat)(n:aj):PT:=
 if n.op=1 then .eps else if n.op=2 then .sym i else if n.op=3 then .cat (tr n.a.toNat) (tr n.b.toNat)
 else if n.op=4 then .alt (tr n.a.toNat) (tr n.b.toNat)else if n.op=5 then .star (tr n.a.toNat)else .none
def jK:List PT->List aj->List PT
 |a,[]=>a
 |a,n::l=>jK (a++[eS (fun j=>a.getD j .none) a.length n]) l
def aQ(l:List aj)(i:Nat):PT:=(jK [] l).getD i .none
theorem vh:∀(x y:List aj) (a:List PT),jK a (x++y)=jK (jK a x) y
 |[],_,_=>rfl
 |n::x,y,a=>by simp only[jf,jK];rw[vh x y]
theorem vi:∀(x:List aj) (a:List PT),(jK a x).length=a.length+x.length
 |[],a=>rfl
 |n::x,a=>by simp only[jK];rw[vi x];simp;omega
theorem yo:∀(x:List aj) (a:List PT) (j:Nat),j<a.length->(jK a x).getD j .none=a.getD j .none
 |[],_,_,_=>rfl
 |n::x,a,j,b=>by simp only[jK];rw[yo x _ j aR,fp,fp,eP b]
theorem CN{l:List aj}{k j:Nat}(b:j<k)(c:k<=l.length):(jK [] (l.take k)).getD j .none=aQ l j:=by
 unfold aQ;conv=>rhs;rw[<-mQ k l,vh]
 have a:=yo (l.drop k) (jK [] (l.take k)) j (by rw[vi,fm];simp;omega);rw[a]
theorem Kd{f g:Nat->PT}{i:Nat}{n:aj}(m:dO i n=true)(b:∀j,j<i->f j=g j):eS f i n=eS g i n:=by
 have a:=mi m;unfold bO at a;unfold eS;by_cases d:n.op=3
 ·have c:=a n.a.toNat (by simp[d]);have h:=a n.b.toNat (by simp[d])
  simp[d,b _ c,b _ h]
 ·by_cases e:n.op=4
  ·have c:=a n.a.toNat (by simp[e]);have h:=a n.b.toNat (by simp[e])
   simp[e,b _ c,b _ h]
  ·by_cases l:n.op=5
   ·have c:=a n.a.toNat (by simp[l])
    simp[l,b _ c]
   ·simp[d,e,l]
theorem nY{l:List aj}(d:ey 0 l=true){i:Nat}{n:aj}(a:l[i]?=some n):aQ l i=eS (aQ l) i n:=by
 have f:=(aL.1 a).1;have b:=iM l 0 i n d a;rw[cD]at b;have e:(jK [] (l.take i)).length=i:=by rw[vi,fm];simp;omega
 rw[<-CN (l:=l) (k:=i+1) ad ad,bV,a,fF,vh];simp only[jK];rw[fp,fZ ad,e];simp only[xF,jZ,qj];refine Kd b fun j c=> ?_;rw[CN c ad]
def vj(l:List aj)(j i:Nat):Bool:=match l[i]? with|some n=>(bO n).contains j|none=>false
def gL(l:List aj)(j:Nat):Nat:=((List.range l.length).find? (vj l j)).getD 0
theorem CO{l:List aj}{j i:Nat}:vj l j i=true↔∃n,l[i]?=some n/\j∈bO n:=by
 unfold vj;cases l[i]? with
 |none=>simp
 |some n=>simp
theorem CP{l:List aj}{j a b:Nat}{n m:aj}(i:a<b)(f:l[a]?=some n)(c:l[b]?=some m)(d:j∈bO n)(e:j∈bO m):2<=cV l j:=by
 have o:=(aL.1 c).1;have g:=rW f j;have h:=rW c j;have p:1<=(bO n).count j:=Bc.2 d;have q:1<=(bO m).count j:=Bc.2 e;have u1:cV (l.take (a+1)) j<=cV (l.take b) j:=by have:=yn (l:=l.take b) j (a+1) (by rw[fm];omega);rwa[List.take_take,AV ad]at this
 have u2:=yn (l:=l) j (b+1) ad;omega
theorem py{l:List aj}(hF:dP l){i j:Nat}{n:aj}(a:l[i]?=some n)(c:j∈bO n):gL l j=i:=by
 have h:=(aL.1 a).1;have g:=iM l 0 i n hF.ok a;rw[cD]at g;have o:=mi g j c;unfold gL;cases d:(List.range l.length).find? (vj l j)with
 |none=>
  rw[Iu]at d;exact absurd (CO.2 ⟨n,a,c⟩) (d i (gt.2 h))
 |some k=>
  obtain⟨m,f,e⟩:=CO.1 (Iv d);have p:=hF.used j ad;show k=i
  rcases xN k i with b|b|b
  ·have:=CP b f a e c;omega
  ·exact b
  ·have:=CP b a f c e;omega
theorem yp{l:List aj}(hF:dP l){j:Nat}(e:j<l.length-1):∃i n,l[i]?=some n/\j∈bO n/\j<i/\gL l j=i:=by have h:=hF.used j e;have d:0<cV l j:=ad;unfold cV at d;have f:=Bc.1 d;obtain⟨n,g,b⟩:=rL.1 f;obtain⟨i,a⟩:=pd.1 g;have c:=iM l 0 i n hF.ok a;rw[cD]at c;exact⟨i,n,a,b,mi c j b,py hF a b⟩
theorem vk{l:List aj}(hF:dP l){i:Nat}{n:aj}(a:l[i]?=some n)(e:n.op=3∨n.op=4):n.a.toNat≠n.b.toNat:=by
 intro d;have h:=(aL.1 a).1;have b:=iM l 0 i n hF.ok a;rw[cD]at b;have c:bO n=[n.a.toNat,n.b.toNat]:=by unfold bO;rw[ay e]
 have j:=mi b n.a.toNat (by rw[c];simp);have f:=rW a n.a.toNat;have g:(bO n).count n.a.toNat=2:=by rw[c,<-d];simp
 have m:=yn (l:=l) n.a.toNat (i+1) ad;have:=hF.used n.a.toNat ad;omega
theorem CQ{l:List aj}(hF:dP l){i:Nat}(f:i<l.length):Mk (aQ l) (gL l) i (aQ l i):=by
 obtain⟨n,c⟩:∃n,l[i]?=some n:=⟨_,aH f⟩;have e:=iM l 0 i n hF.ok c;rw[cD]at e;have d:=mi e;rw[nY hF.ok c];rcases vg e with a|a|a|a|a|a
 ·have:eS (aQ l) i n=.none:=by simp[eS,a]
  rw[this];exact .none
 ·have:eS (aQ l) i n=.eps:=by simp[eS,a]
  rw[this];exact .eps
 ·have:eS (aQ l) i n=.sym i:=by simp[eS,a]
  rw[this];exact .sym
 ·have:eS (aQ l) i n=.cat (aQ l n.a.toNat) (aQ l n.b.toNat):=by simp[eS,a]
  rw[this];have b:bO n=[n.a.toNat,n.b.toNat]:=by unfold bO;rw[ay (.inl a)]
  exact .cat (d _ (by rw[b];simp)) (d _ (by rw[b];simp)) (vk hF c (.inl a)) (py hF c (by rw[b];simp)) (py hF c (by rw[b];simp))
 ·have:eS (aQ l) i n=.alt (aQ l n.a.toNat) (aQ l n.b.toNat):=by simp[eS,a]
  rw[this];have b:bO n=[n.a.toNat,n.b.toNat]:=by unfold bO;rw[ay (.inr a)]
  exact .alt (d _ (by rw[b];simp)) (d _ (by rw[b];simp)) (vk hF c (.inr a)) (py hF c (by rw[b];simp)) (py hF c (by rw[b];simp))
 ·have:eS (aQ l) i n=.star (aQ l n.a.toNat):=by simp[eS,a]
  rw[this];have b:bO n=[n.a.toNat]:=by unfold bO;rw[au ad,ay a]
  exact .star (d _ (by rw[b];simp)) (py hF c (by rw[b];simp))
def kN(l:List aj)(a:Nat):Fr:=
 match l[gL l a]? with
 |none=>.star
 |some n=>if n.op=3 then(if n.a=(a:Int)then .catL (aQ l n.b.toNat)else .catR (aQ l n.a.toNat))else if n.op=4 then(if n.a=(a:Int)then .altL (aQ l n.b.toNat)else .altR (aQ l n.a.toNat))else .star
theorem yq{l:List aj}(hF:dP l){a:Nat}(s:a<l.length-1):a<gL l a/\gL l a<=l.length-1/\(kN l a).plug (aQ l a)=aQ l (gL l a):=by
 obtain⟨i,n,e,c,t,p⟩:=yp hF s;have u:=(aL.1 e).1;have d:=iM l 0 i n hF.ok e;rw[cD]at d;rw[p];refine⟨t,ad,?_⟩;rw[nY hF.ok e];unfold kN;rw[p,e];simp only;unfold bO at c;split at c
 ·rename_i g
  have v:0<=n.a/\0<=n.b:=by unfold dO at d;rw[au ad,au ad,ay g]at d;simp only[cS]at d;have h:=d.1.2;have j:=d.2;unfold dy at h j;simp at h j;omega
  by_cases f:n.a=(a:Int)
  ·have m:n.a.toNat=a:=ad
   rcases g with b|b
   ·rw[ay b,ay f];simp[eS,b,m,Fr.plug]
   ·rw[au ad,ay b,ay f];simp[eS,b,m,Fr.plug]
  ·have o:n.b.toNat=a:=by
    simp at c;rcases c with q|q
    ·omega
    ·omega
   rcases g with b|b
   ·rw[ay b,au f];simp[eS,b,o,Fr.plug]
   ·rw[au ad,ay b,au f];simp[eS,b,o,Fr.plug]
 ·split at c
  ·rename_i r
   simp at c;rw[au ad,au ad];simp[eS,r,Fr.plug,c]
  ·simp at c
def cE:PT->Nat
 | .none=>0
 | .eps=>0
 | .sym p=>2^p
 | .cat a b=>if a.alive&&b.alive then(cE a|||(if a.null then cE b else 0))else 0
 | .alt a b=>cE a|||cE b
 | .star a=>cE a
def dJ:PT->Nat
 | .none=>0
 | .eps=>0
 | .sym p=>2^p
 | .cat a b=>if a.alive&&b.alive then(dJ b|||(if b.null then dJ a else 0))else 0
 | .alt a b=>dJ a|||dJ b
 | .star a=>dJ a
theorem CR(p q:Nat):(2^p).testBit q=(p==q):=by rw[Nat.testBit_two_pow];rw[iF];simp
theorem vl{t:PT}(a:t.null=true):t.alive=true:=L_alive (L_null t a)
theorem kO:∀(t:PT) (q:Nat),(cE t).testBit q=t.starts q
 | .none,q=>by simp[cE,PT.starts]
 | .eps,q=>by simp[cE,PT.starts]
 | .sym p,q=>by simp[cE,PT.starts,CR]
 | .alt a b,q=>by simp[cE,PT.starts,kO a q,kO b q]
 | .star a,q=>by simp[cE,PT.starts,kO a q]
 | .cat a b,q=>by
   unfold cE PT.starts;cases d:a.alive with
   |false=>
    have e:a.starts q=false:=by cases c:a.starts q with|false=>rfl|true=>rw[starts_alive a c]at d;cases d
    have g:a.null=false:=by cases c:a.null with|false=>rfl|true=>rw[vl c]at d;cases d
    simp[e,g]
   |true=>
    cases f:b.alive with
    |false=>
     have e:b.starts q=false:=by cases c:b.starts q with|false=>rfl|true=>rw[starts_alive b c]at f;cases f
     simp[e]
    |true=>
     cases h:a.null with
     |false=>simp[kO a q]
     |true=>simp[kO a q,kO b q]
theorem lA:∀(t:PT) (q:Nat),(dJ t).testBit q=t.ends q
 | .none,q=>by simp[dJ,PT.ends]
 | .eps,q=>by simp[dJ,PT.ends]
 | .sym p,q=>by simp[dJ,PT.ends,CR]
 | .alt a b,q=>by simp[dJ,PT.ends,lA a q,lA b q]
 | .star a,q=>by simp[dJ,PT.ends,lA a q]
 | .cat a b,q=>by
   unfold dJ PT.ends;cases f:a.alive with
   |false=>
    have e:a.ends q=false:=by cases c:a.ends q with|false=>rfl|true=>rw[ends_alive a c]at f;cases f
    simp[e]
   |true=>
    cases d:b.alive with
    |false=>
     have e:b.ends q=false:=by cases c:b.ends q with|false=>rfl|true=>rw[ends_alive b c]at d;cases d
     have g:b.null=false:=by cases c:b.null with|false=>rfl|true=>rw[vl c]at d;cases d
     simp[e,g]
    |true=>
     cases h:b.null with
     |false=>simp[lA b q]
     |true=>simp[lA a q,lA b q]
def kj(l:List aj)(p:Nat):Nat->Nat->Nat->Nat
 |0,_,out=>out
 |k+1,a,out=>
  if a=l.length-1 then out
  else if(aQ l (gL l a)).alive then
   kj l p k (gL l a) (if(dJ (aQ l a)).testBit p then(match kN l a with| .catL b=>out|||cE b| .star=>out|||cE (aQ l a)|_=>out)else out)
  else 0
theorem yr(p:Nat):∀(a:List Fr) (t:PT) (S T:Nat->Bool),(∀q,S q=T q)->∀q,climb p t a S q=climb p t a T q
 |[],_,_,_,b,q=>b q
 |f::a,t,S,T,b,q=>by
  unfold climb;split
  ·exact yr p a _ _ _ (fun q=>by rw[b q]) q
  ·rfl
theorem CS{l:List aj}(hF:dP l)(p:Nat):∀(k a out:Nat),a<=l.length-1->∀q,(kj l p k a out).testBit q=climb p (aQ l a) (path (gL l) (kN l) (l.length-1) k a) (fun q=>out.testBit q) q
 |0,a,out,_,q=>rfl
 |k+1,a,out,g,q=>by
  unfold kj path;by_cases b:a=l.length-1
  ·rw[ay b,ay b];rfl
  ·rw[au b,au b]
   obtain⟨f,d,e⟩:=yq hF (a:=a) ad;unfold climb;rw[e];cases h:(aQ l (gL l a)).alive with
   |false=>simp
   |true=>
    rw[ay rfl,ay rfl,CS hF p k _ _ d q];refine yr p _ _ _ _ (fun q=> ?_) q;unfold Fr.add;rw[lA];cases c:(aQ l a).ends p with
    |false=>cases kN l a<;>simp[c]
    |true=>cases kN l a<;>simp[c,kO]
def cK(l:List aj)(p:Nat):Nat:=kj l p l.length p 0
theorem vm{l:List aj}(hF:dP l){p:Nat}{n:aj}(c:l[p]?=some n)(e:n.op=2)(q:Nat):(cK l p).testBit q=(aQ l (l.length-1)).pairs p q:=by have g:=(aL.1 c).1;unfold cK;rw[CS hF p l.length p 0 ad];have b:=next_pairs (tr:=aQ l) (up:=gL l) (fr:=kN l) (root:=l.length-1) (fun i f=>CQ hF ad) (fun a d=>yq hF d) (p:=p) ad (by rw[nY hF.ok c];simp[eS,e]) q;rw[show l.length-1+1=l.length by omega]at b;rw[<-b];exact yr p _ _ _ _ (fun q=>ak) q
def nZ{b:Type}(a:Nat->b)(t:PT):(Nat->Prop)->List b->(Nat->Prop)
 |S,[]=>S
 |S,x::w=>nZ a t (fun q=>∃p,S p/\a p=x/\t.pairs p q=true) w
theorem Ke{b:Type}(a:Nat->b)(t:PT):∀(w:List b) (S T:Nat->Prop),(∀q,S q↔T q)->(PRegex.Reach a t S w↔PRegex.Reach a t T w):=by intro w S T c;have:S=T:=funext fun q=>propext (c q);rw[this]
theorem CT{f:Type}(a:Nat->f)(t:PT):∀(w:List f) (x:f) (S:Nat->Prop),PRegex.Reach a t (fun q=>S q/\a q=x) w↔∃p,nZ a t S ((x::w).dropLast) p/\some (a p)=(x::w).getLast?/\t.ends p=true
 |[],x,S=>by
  simp[PRegex.Reach,nZ];constructor
  ·rintro⟨p,⟨b,c⟩,d⟩;exact⟨p,b,c,d⟩
  ·rintro⟨p,b,c,d⟩;exact⟨p,⟨b,c⟩,d⟩
 |y::w,x,S=>by
  rw[PRegex.Reach];rw[Ke a t w _ (fun q=>(∃p,S p/\a p=x/\t.pairs p q=true)/\a q=y) (fun q=>by
   constructor
   ·rintro⟨p,⟨b,c⟩,d,e⟩;exact⟨⟨p,b,c,d⟩,e⟩
   ·rintro⟨⟨p,b,c,d⟩,e⟩;exact⟨p,⟨b,c⟩,d,e⟩)]
  rw[CT a t w y];rw[show(x::y::w).dropLast=x::(y::w).dropLast from rfl,show(x::y::w).getLast?=(y::w).getLast? from by simp[List.getLast?_cons_cons]];rfl
theorem CU{b:Type}(a:Nat->b)(t:PT)(c:t.lin)(w:List b)(d:w≠[]):MW a t w↔∃p,nZ a t (fun q=>t.starts q=true) w.dropLast p/\some (a p)=w.getLast?/\t.ends p=true:=by
 cases w with
 |nil=>exact absurd rfl d
 |cons x w=>rw[MW_cons a t c,CT]
theorem sw{l:List aj}(hF:dP l){i:Nat}(b:i<l.length):(aQ l i).lin/\∀p,(aQ l i).inn p=true->p<=i:=by have a:=lin_tr (tr:=aQ l) (up:=gL l) (n:=l.length) (fun j c=>CQ hF c) i b;exact⟨a.1,fun p d=>(a.2 p d).le⟩
theorem CV{l:List aj}(hF:dP l){i:Nat}(b:i<l.length):cE (aQ l i)<2^l.length:=by
 refine Iw _ fun q c=> ?_;rw[kO];cases a:(aQ l i).starts q with
 |false=>rfl
 |true=>have:=(sw hF b).2 q (starts_inn _ a);omega
theorem Kf{l:List aj}(hF:dP l){i:Nat}(b:i<l.length):dJ (aQ l i)<2^l.length:=by
 refine Iw _ fun q c=> ?_;rw[lA];cases a:(aQ l i).ends q with
 |false=>rfl
 |true=>have:=(sw hF b).2 q (ends_inn _ a);omega
end
def fU(l:List aj)(p:Nat):Bytes:=match l[p]? with|some n=>n.sym|none=>[]
theorem vn{l:List aj}{p:Nat}{n:aj}(a:l[p]?=some n):fU l p=n.sym:=by unfold fU;rw[a]
def ix(ts:List aw)(x:aw)(a:Bytes):Option Nat:=(kidsS ts x).find? (fun j=>labelAt ts j==a)
def sx(ts:List aw)(k:Nat):Bytes:=match ts[k]? with|some t=>t.name|none=>[]
def kP(yt:List (Bytes×Bytes))(n:Bytes):Option Bytes:=(yt.find? (fun a=>a.1==n)).map Prod.snd
def dW(key:Bytes)(ks:List Tr):List Bytes:=if key=[]then []else ks.filterMap (fun k=>kP k.attrs key)
def jL(ts:List aw)(x:aw)(ks:List Tr):List Bytes:=ks.map fun k=>sx ts ((ix ts x k.label).getD 0)
def gW(l:List aj)(a:List Bytes):Prop:=PRegex.MW (fU l) (aQ l (l.length-1)) a
mutual
def jo (ts:List aw):Nat->Tr->Prop
 |at_,.mk label _ attrs a=>∃x,ts[at_]?=some x/\label=x.label/\attrs.map Prod.fst=x.attrs/\
   (if x.text=true then(a=[]∨∃k,a=[k]/\k.label=[])else lB ts x a/\(dW x.key a).Nodup/\gW x.nodes (jL ts x a))
def lB (ts:List aw) (x:aw):List Tr->Prop
 |[]=>True
 |k::ks=>(∃j,ix ts x k.label=some j/\jo ts j k)/\lB ts x ks
end
theorem vp{ts:List aw}{x:aw}:∀{ks:List Tr},lB ts x ks↔∀k∈ks,∃j,ix ts x k.label=some j/\jo ts j k
 |[]=>by simp[lB]
 |k::ks=>by simp only[lB,vp (ks:=ks),du,forall_eq_or_imp]
theorem yu{ts:List aw}{at_:Nat}{x:aw}(d:ts[at_]?=some x)(t:Tr):jo ts at_ t↔t.label=x.label/\t.attrs.map Prod.fst=x.attrs/\
 (if x.text=true then(t.kids=[]∨∃k,t.kids=[k]/\k.label=[])else lB ts x t.kids/\(dW x.key t.kids).Nodup/\gW x.nodes (jL ts x t.kids)):=by
 obtain⟨l,e,a,k⟩:=t;unfold jo;constructor
 ·rintro⟨y,b,c⟩
  rw[d]at b;injection b with b;subst b
  exact c
 ·intro c;exact⟨x,d,c⟩
theorem Kg{ts:List aw}{x:aw}{ks:List Tr}{i:Nat}{k:Tr}(b:ks[i]?=some k)(a:¬∃j,ix ts x k.label=some j/\jo ts j k):¬lB ts x ks:=by rw[vp];exact fun H=>a (H k (aX b))
theorem Kh{ts:List aw}{x:aw}{ks:List Tr}{i:Nat}{k:Tr}(d:ks[i]?=some k)(b:lB ts x (ks.take i))(c:∃j,ix ts x k.label=some j/\jo ts j k):lB ts x (ks.take (i+1)):=by
 rw[vp]at b⊢;intro m a;rw[bV,d]at a;rcases fA.1 a with a|a
 ·exact b m a
 ·simp at a;subst a;exact c
theorem Ki{ts:List aw}{x:aw}{ks:List Tr}{i:Nat}{k:Tr}(a:ks[i]?=some k):jL ts x (ks.take (i+1))=jL ts x (ks.take i)++[sx ts ((ix ts x k.label).getD 0)]:=by unfold jL;rw[bV,a,iH];rfl
theorem Kj{key:Bytes}{ks:List Tr}{i:Nat}{k:Tr}(b:ks[i]?=some k)(a:key≠[]):dW key (ks.take (i+1))=dW key (ks.take i)++(kP k.attrs key).toList:=by unfold dW;rw[au a,au a,bV,b,Ih];cases c:kP k.attrs key<;>simp[c]
theorem Kk{key:Bytes}{ks:List Tr}{i:Nat}:dW key (ks.take i)<+:dW key ks:=by
 unfold dW;split
 ·exact List.prefix_rfl
 ·conv=>rhs;rw[<-mQ i ks,Ih]
  exact List.prefix_append _ _
theorem CW{f:Type}{l:List f}{a:f}:(l++[a]).Nodup↔l.Nodup/\a∉l:=by
 rw[Iy];simp only[nS,qk,not_false_eq_true,xO,and_self,du,ql,true_and];constructor
 ·rintro⟨d,e⟩;exact⟨d,fun j=>e a j a rfl rfl⟩
 ·rintro⟨d,e⟩;exact⟨d,fun b h c i g=>e (by rw[<-i,<-g];exact h)⟩
section
open PRegex
theorem Em{l:List aj}(e:ey 0 l=true):∀(i:Nat),i<l.length->∀p,(aQ l i).inn p=true->∃n,l[p]?=some n/\n.op=2:=by
 intro i;induction i using Nat.strongRecOn with
 |_ i ih=>
 intro o p a;obtain⟨n,d⟩:∃n,l[i]?=some n:=⟨_,aH o⟩;have f:=iM l 0 i n e d;rw[cD]at f;have c:=mi f;rw[nY e d]at a;unfold eS at a;split at a
 ·cases a
 split at a
 ·rename_i g
  simp[PT.inn]at a;subst a;exact⟨n,d,g⟩
 split at a
 ·rename_i h
  have b:bO n=[n.a.toNat,n.b.toNat]:=by unfold bO;rw[ay (.inl h)]
  simp only[PT.inn,di]at a;rcases a with a|a
  ·have:=c n.a.toNat (by rw[b];simp)
   exact ih _ this ad p a
  ·have:=c n.b.toNat (by rw[b];simp)
   exact ih _ this ad p a
 split at a
 ·rename_i j
  have b:bO n=[n.a.toNat,n.b.toNat]:=by unfold bO;rw[ay (.inr j)]
  simp only[PT.inn,di]at a;rcases a with a|a
  ·have:=c n.a.toNat (by rw[b];simp)
   exact ih _ this ad p a
  ·have:=c n.b.toNat (by rw[b];simp)
   exact ih _ this ad p a
 split at a
 ·rename_i m
  have b:bO n=[n.a.toNat]:=by unfold bO;rw[au ad,ay m]
  have:=c n.a.toNat (by rw[b];simp);exact ih _ this ad p a
 ·cases a
def fV(l:List aj)(x:Bytes):Nat->List Nat->Nat
 |a,[]=>a
 |a,p::ps=>fV l x (if fU l p=x then a|||cK l p else a) ps
def jT(l:List aj)(m:Nat):List Bytes->Nat
 |[]=>m
 |x::a=>jT l (fV l x 0 (aC m)) a
theorem En(l:List aj)(x:Bytes):∀(a b:List Nat) (c:Nat),fV l x c (a++b)=fV l x (fV l x c a) b
 |[],b,c=>rfl
 |p::a,b,c=>En l x a b _
theorem Eo(l:List aj):∀(a b:List Bytes) (m:Nat),jT l m (a++b)=jT l (jT l m a) b
 |[],b,m=>rfl
 |x::a,b,m=>Eo l a b _
def iU(l:List aj)(m:Nat):Prop:=m<18446744073709551616/\∀p,m.testBit p=true->∃n,l[p]?=some n/\n.op=2
theorem sX{l:List aj}(hF:dP l)(d:l.length<=60):iU l (cE (aQ l (l.length-1))):=by
 have e:=hF.ne;have f:0<l.length:=by cases l with|nil=>exact absurd rfl e|cons a b=>simp
 refine⟨?_,fun p c=> ?_⟩
 ·have g:=CV hF (i:=l.length-1) ad
  have:(2:Nat)^l.length<=2^60:=qg ap d;have:(2:Nat)^60<=18446744073709551616:=ap;omega
 ·rw[kO]at c
  exact Em hF.ok _ ad p (starts_inn _ c)
theorem sY{l:List aj}(hF:dP l)(f:l.length<=60){p:Nat}{n:aj}(b:l[p]?=some n)(h:n.op=2):iU l (cK l p):=by
 have j:=(aL.1 b).1;have e:=vm hF b h;have c:∀q,(cK l p).testBit q=true->∃n,l[q]?=some n/\n.op=2:=fun q a=>by rw[e]at a;exact Em hF.ok (l.length-1) ad q (pairs_inn _ a).2
 refine⟨?_,c⟩;have i:cK l p<2^l.length:=Iw _ fun q a=>by
  cases d:(cK l p).testBit q with
  |false=>rfl
  |true=>obtain⟨n,g,_⟩:=c q d;have:=(aL.1 g).1;omega
 have:(2:Nat)^l.length<=2^60:=qg ap f;have:(2:Nat)^60<=18446744073709551616:=ap;omega
theorem Na{l:List aj}{a b:Nat}(c:iU l a)(d:iU l b):iU l (a|||b):=
 ⟨AT (n:=64) c.1 d.1,fun p e=>by rw[oY,di]at e;exact e.elim (c.2 p) (d.2 p)⟩
theorem Ep(l:List aj):iU l 0:=⟨ap,fun p a=>by simp at a⟩
theorem zv{l:List aj}(hF:dP l)(c:l.length<=60)(x:Bytes):∀(ps:List Nat) (a:Nat),iU l a->(∀p∈ps,∃n,l[p]?=some n/\n.op=2)->iU l (fV l x a ps)
 |[],a,b,_=>b
 |p::ps,a,b,d=>by
  unfold fV;refine zv hF c x ps _ ?_ (fun q g=>d q (dt _ g));split
  ·obtain⟨n,e,f⟩:=d p (dM ..)
   exact Na b (sY hF c e f)
  ·exact b
theorem s8{l:List aj}{m:Nat}(a:iU l m):∀p∈aC m,∃n,l[p]?=some n/\n.op=2:=fun p b=>a.2 p ((rV a.1).1 b)
theorem Er{l:List aj}(hF:dP l)(b:l.length<=60){m:Nat}(a:iU l m)(x:Bytes):iU l (fV l x 0 (aC m)):=zv hF b x _ _ (Ep l) (s8 a)
theorem zw{l:List aj}(hF:dP l)(c:l.length<=60):∀(b:List Bytes) (m:Nat),iU l m->iU l (jT l m b)
 |[],m,a=>a
 |x::b,m,a=>zw hF c b _ (Er hF c a x)
theorem Es{l:List aj}(hF:dP l)(d:l.length<=60)(x:Bytes)(q:Nat):∀(ps:List Nat) (a:Nat),(∀p∈ps,∃n,l[p]?=some n/\n.op=2)->((fV l x a ps).testBit q=true↔a.testBit q=true∨∃p∈ps,fU l p=x/\(aQ l (l.length-1)).pairs p q=true)
 |[],a,_=>by simp[fV]
 |p::ps,a,c=>by
  unfold fV;rw[Es hF d x q ps _ (fun h g=>c h (dt _ g))];obtain⟨n,e,f⟩:=c p (dM ..);by_cases b:fU l p=x
  ·rw[ay b,oY,di,vm hF e f]
   simp[b,or_assoc]
  ·rw[au b]
   simp[b]
theorem Et{l:List aj}(hF:dP l)(e:l.length<=60)(q:Nat):∀(b:List Bytes) (m:Nat),iU l m->((jT l m b).testBit q=true↔nZ (fU l) (aQ l (l.length-1)) (fun p=>m.testBit p=true) b q)
 |[],m,a=>Iff.rfl
 |x::b,m,a=>by
  unfold jT nZ;rw[Et hF e q b _ (Er hF e a x)];have:(fun p=>(fV l x 0 (aC m)).testBit p=true)=fun q=>∃p,m.testBit p=true/\fU l p=x/\(aQ l (l.length-1)).pairs p q=true:=by
   funext q
   apply propext;rw[Es hF e x q _ _ (s8 a)];simp only[Nat.zero_testBit,j8,false_or];constructor
   ·rintro⟨p,f,c,d⟩;exact⟨p,(rV a.1).1 f,c,d⟩
   ·rintro⟨p,f,c,d⟩;exact⟨p,(rV a.1).2 f,c,d⟩
  rw[this]
def wm(l:List aj)(a:List Bytes):Bool:=
 match a.getLast? with
 |none=>(aQ l (l.length-1)).null
 |some x=>(aC (jT l (cE (aQ l (l.length-1))) a.dropLast)).any fun p=>fU l p==x&&(dJ (aQ l (l.length-1))).testBit p
theorem Eu{l:List aj}(hF:dP l)(d:l.length<=60)(c:List Bytes):wm l c=true↔gW l c:=by
 have n:=hF.ne;have o:0<l.length:=by cases l with|nil=>exact absurd rfl n|cons a b=>simp
 unfold wm gW;cases c with
 |nil=>simp[MW_nil]
 |cons y c=>
  have i:(y::c).getLast?=some ((y::c).getLast ak):=List.getLast?_eq_some_getLast ak;rw[i,CU (fU l) _ (sw hF ad).1 (y::c) ak,i];simp only[ir,cS,xL,lA];have g:=fun q=>Et hF d q (y::c).dropLast _ (sX hF d);have j:=zw hF d (y::c).dropLast _ (sX hF d);have m:(fun p=>(cE (aQ l (l.length-1))).testBit p=true)=fun q=>(aQ l (l.length-1)).starts q=true:=by funext q;rw[kO]
  rw[m]at g;constructor
  ·rintro⟨p,h,e,f⟩
   exact⟨p,(g p).1 ((rV j.1).1 h),by rw[e],f⟩
  ·rintro⟨p,h,e,f⟩
   exact⟨p,(rV j.1).2 ((g p).2 h),by injection e,f⟩
end
section
variable{α:Type}
def fW(L:List α)(i j:Nat):List α:=match L[i]?,L[j]? with|some a,some b=>(L.set i b).set j a|_,_=>L
theorem oC(L:List α)(i j:Nat):(fW L i j).length=L.length:=by unfold fW;split<;>simp
theorem pX{L:List α}{i j:Nat}{a b:α}(e:L[i]?=some a)(f:L[j]?=some b)(k:Nat):
 (fW L i j)[k]?=if k=j then some a else if k=i then some b else L[k]?:=by
 have g:=(aL.1 e).1;have h:=(aL.1 f).1;unfold fW;rw[e,f];simp only[AX,mX];by_cases c:k=j
 ·subst c;simp[h]
 ·by_cases d:k=i
  ·subst d;simp[g,c,rQ c]
  ·simp[c,d,rQ c,rQ d]
theorem ti(L:List α)(i j:Nat):(fW L i j).Perm L:=by
 unfold fW;split
 ·rename_i a b c d
  obtain⟨e,rfl⟩:=aL.1 c;obtain⟨f,rfl⟩:=aL.1 d;have:=Array.swap_perm (xs:=L.toArray) (i:=i) (j:=j) (by simpa using e) (by simpa using f);have:=Array.perm_iff_toList_perm.1 this;simpa[Array.swap]using this
 ·exact List.Perm.refl _
structure qQ(lt:α->α->Bool):Prop where
 asymm:∀a b,lt a b=true->lt b a=false
 trans:∀a b c,lt a b=false->lt b c=false->lt a c=false
def gP(lt:α->α->Bool)(L:List α)(n:Nat):Prop:=∀k x y,0<k->k<n->L[k]?=some x->L[(k-1)/2]?=some y->lt x y=false
def pY(lt:α->α->Bool)(L:List α)(j:Nat):Prop:=
 (∀k x y,0<k->k<L.length->k≠j->L[k]?=some x->L[(k-1)/2]?=some y->lt x y=false)/\
 ∀k x y,0<k->k<L.length->0<j->(k-1)/2=j->L[k]?=some x->L[(j-1)/2]?=some y->lt x y=false
theorem Ob{lt:α->α->Bool}{L:List α}{x:α}(g:gP lt L L.length):pY lt (L++[x]) L.length:=by
 constructor
 ·intro k a b f c h d e
  simp at c;rw[eP ad]at d e;exact g k a b f ad d e
 ·intro k a b f c h i d e
  simp at c;omega
theorem Oc{lt:α->α->Bool}{L:List α}(a:pY lt L 0):gP lt L L.length:=fun k x y b c d e=>a.1 k x y b c ad d e
theorem Od{lt:α->α->Bool}{L:List α}{j:Nat}{a b:α}(f:pY lt L j)(i:L[j]?=some a)(l:L[(j-1)/2]?=some b)(m:lt a b=false):gP lt L L.length:=by
 intro k x y g h c d;by_cases e:k=j
 ·subst e
  rw[i]at c;rw[l]at d;injection c with c;injection d with d
  subst c;subst d;exact m
 ·exact f.1 k x y g h e c d
theorem Oe{lt:α->α->Bool}(o:qQ lt){L:List α}{j:Nat}{a b:α}(g:pY lt L j)(w:0<j)(s:L[j]?=some a)(i:L[(j-1)/2]?=some b)(z:lt a b=true):pY lt (fW L ((j-1)/2) j) ((j-1)/2):=by
 have t:=o.asymm _ _ z;have A:=(aL.1 s).1;have q:=pX i s;have u:(j-1)/2≠j:=ad;constructor
 ·intro k x y h f n d c
  rw[oC]at f;rw[q]at d c;by_cases e:k=j
  ·subst e
   rw[ay rfl]at d;rw[au u,ay rfl]at c;injection d with d;injection c with c
   subst d;subst c;exact t
  ·rw[au e,au n]at d
   by_cases l:(k-1)/2=j
   ·rw[ay l]at c
    injection c with c
    subst c;exact g.2 k _ _ h f w l d i
   ·rw[au l]at c
    by_cases m:(k-1)/2=(j-1)/2
    ·rw[ay m]at c
     injection c with c
     subst c;have p:=g.1 k x b h f e d (by rw[m];exact i);exact o.trans _ _ _ p t
    ·rw[au m]at c
     exact g.1 k x y h f e d c
 ·intro k x y h f n v d c
  rw[oC]at f;rw[q]at d c;rw[au ad,au ad]at c;have r:=g.1 ((j-1)/2) b y n ad u i c;by_cases e:k=j
  ·subst e
   rw[ay rfl]at d;injection d with d
   subst d;exact r
  ·rw[au e,au ad]at d
   have p:=g.1 k x b h f e d (by rw[v];exact i);exact o.trans _ _ _ p r
def oD(lt:α->α->Bool)(L:List α)(n i:Nat):Prop:=
 (∀k x y,0<k->k<n->(k-1)/2≠i->L[k]?=some x->L[(k-1)/2]?=some y->lt x y=false)/\
 ∀k x y,0<k->k<n->0<i->(k-1)/2=i->L[k]?=some x->L[(i-1)/2]?=some y->lt x y=false
theorem Of{lt:α->α->Bool}(o:qQ lt){L:List α}{n:Nat}(f:gP lt L n)(i:∀a,lt a a=false):∀k x y,k<n->n<=L.length->L[k]?=some x->L[0]?=some y->lt x y=false:=by
 intro k;induction k using Nat.strongRecOn with
 |_ k ih=>
  intro x y g h d b;by_cases e:k=0
  ·subst e
   rw[d]at b;injection b with b
   subst b;exact i _
  ·have c:(k-1)/2<L.length:=ad
   exact o.trans _ _ _ (f k x _ ad g d (aH c)) (ih ((k-1)/2) ad _ y ad h (aH c) b)
theorem Og{lt:α->α->Bool}{L:List α}{n:Nat}(f:gP lt L (n+1))(h:n<L.length):oD lt (fW L 0 n) n 0:=by
 constructor
 ·intro k x y c g d a b
  have e:L[0]?=some (L[0]'ad):=aH _;rw[pX e (aH h)]at a b;rw[au ad,au ad]at a;rw[au ad,au d]at b;exact f k x y c ad a b
 ·intro k x y c g d
  omega
theorem Oh{lt:α->α->Bool}{L:List α}{n i:Nat}(a:oD lt L n i)(f:n<=2*i+1):gP lt L n:=fun k x y b c d e=>a.1 k x y b c ad d e
def oE(lt:α->α->Bool)(L:List α)(n i j:Nat):Prop:=(j=2*i+1∨j=2*i+2)/\j<n/\∀k x y,0<k->k<n->(k-1)/2=i->L[k]?=some x->L[j]?=some y->lt x y=false
theorem zN{lt:α->α->Bool}(o:qQ lt){L:List α}{n i j:Nat}{a b:α}(h:oD lt L n i)(q:oE lt L n i j)(m:L[j]?=some a)(p:L[i]?=some b)(r:lt a b=false):gP lt L n:=by
 intro k x y e f g c;by_cases d:(k-1)/2=i
 ·have l:=q.2.2 k x a e f d g m
  rw[d,p]at c;injection c with c
  subst c;exact o.trans _ _ _ l r
 ·exact h.1 k x y e f d g c
theorem zO{lt:α->α->Bool}(o:qQ lt){L:List α}{n i j:Nat}{a b:α}(m:oD lt L n i)(w:oE lt L n i j)(h:L[j]?=some a)(u:L[i]?=some b)(B:lt a b=true):oD lt (fW L i j) n j:=by
 have v:=o.asymm _ _ B;obtain⟨C,A,z⟩:=w;have p:(j-1)/2=i:=ad;have q:=pX u h;constructor
 ·intro k x y e g s d c
  rw[q]at d c;rw[au s]at c;by_cases r:k=j
  ·subst r
   rw[ay rfl]at d;rw[ay p]at c;injection d with d;injection c with c
   subst d;subst c;exact v
  ·rw[au r]at d
   by_cases f:(k-1)/2=i
   ·rw[au ad]at d
    rw[ay f]at c;injection c with c
    subst c;exact z k x _ e g f d h
   ·rw[au f]at c
    by_cases l:k=i
    ·rw[ay l]at d
     injection d with d
     subst d;subst l;exact m.2 j _ y ad A e p h c
    ·rw[au l]at d
     exact m.1 k x y e g f d c
 ·intro k x y e g s t d c
  rw[q]at d c;rw[p,au ad,ay rfl]at c;injection c with c
  subst c;rw[au ad,au ad]at d;exact m.1 k x _ e g ad d (by rw[t];exact h)
theorem Oi{lt:α->α->Bool}(d:∀a,lt a a=false){L:List α}{n i:Nat}(c:2*i+1<n)(f:¬2*i+2<n):oE lt L n i (2*i+1):=
 ⟨.inl rfl,c,fun k x y g h j e b=>by
   have:k=2*i+1:=ad;subst this;rw[e]at b;injection b with b
   subst b;exact d _⟩
theorem Oj{lt:α->α->Bool}(j:∀a,lt a a=false){L:List α}{n i:Nat}{a b:α}(l:2*i+2<n)(f:L[2*i+2]?=some a)(g:L[2*i+1]?=some b)(h:lt a b=false):oE lt L n i (2*i+1):=
 ⟨.inl rfl,ad,fun k x y m o p d c=>by
   rcases(show k=2*i+1∨k=2*i+2 by omega)with e|e
   ·subst e
    rw[d]at c;injection c with c
    subst c;exact j _
   ·subst e
    rw[f]at d;rw[g]at c;injection d with d;injection c with c
    subst d;subst c;exact h⟩
theorem Ol{lt:α->α->Bool}(o:qQ lt)(l:∀a,lt a a=false){L:List α}{n i:Nat}{a b:α}(f:2*i+2<n)(g:L[2*i+2]?=some a)(h:L[2*i+1]?=some b)(j:lt a b=true):oE lt L n i (2*i+2):=
 ⟨.inr rfl,f,fun k x y m p q d c=>by
   rcases(show k=2*i+1∨k=2*i+2 by omega)with e|e
   ·subst e
    rw[h]at d;rw[g]at c;injection d with d;injection c with c
    subst d;subst c;exact o.asymm _ _ j
   ·subst e
    rw[d]at c;injection c with c
    subst c;exact l _⟩
end
section
variable{K:Type} [DecidableEq K]
def mJ(l:List K)(k:K):Nat:=l.idxOf k
theorem OV{l:List K}{k s:K}(a:k∈l):mJ (l++[s]) k=mJ l k:=by unfold mJ;rw[List.idxOf_append,ay a]
theorem OW{l:List K}{s:K}(a:s∉l):mJ (l++[s]) s=l.length:=by unfold mJ;rw[List.idxOf_append,au a];simp
def nI(a:Nat)(s:List K×List Nat)(k:K):Option (List K×List Nat):=
 if k∈s.1 then some (s.1,s.2++[mJ s.1 k])else if a<=s.1.length then none else some (s.1++[k],s.2++[s.1.length])
def eK(a:Nat)(keys:List K)(ks:List K):Option (List K×List Nat):=ks.foldlM (nI a) (keys,[])
def eL(first:K)(a:Nat)(next:K->List K):Nat->Option (List K×List (List Nat))
 |0=>some ([first],[])
 |i+1=>(eL first a next i).bind fun s=>match s.1[i]? with
  |none=>none
  |some k=>(eK a s.1 (next k)).map fun v=>(v.1,s.2++[v.2])
theorem Fo(a:Nat)(keys:List K):eK a keys []=some (keys,[]):=rfl
theorem zX(a:Nat)(keys ks:List K)(k:K):eK a keys (ks++[k])=(eK a keys ks).bind fun s=>nI a s k:=by
 unfold eK;rw[List.foldlM_append];cases List.foldlM (nI a) (keys,[]) ks with
 |none=>rfl
 |some s=>simp
structure OX(most:Nat)(keys ks:List K)(s:List K×List Nat):Prop where
 pre:keys<+:s.1
 nodup:s.1.Nodup
 len:s.2.length=ks.length
 most:s.1.length<=most
 at_:∀(j n:Nat) (k:K),s.2[j]?=some n->ks[j]?=some k->s.1[n]?=some k
 new:∀k∈s.1,k∈keys∨k∈ks
theorem wO{l:Nat}{keys:List K}(A:keys.Nodup)(z:keys.length<=l):∀(m:Nat) (ks:List K) (s:List K×List Nat),ks.length=m->eK l keys ks=some s->OX l keys ks s:=by
 intro m;induction m with
 |zero=>
  intro ks s g c;obtain rfl:=rF.1 g;rw[Fo]at c;injection c with c
  subst c;exact⟨List.prefix_refl _,A,rfl,z,fun j n k c=>by simp at c,fun k c=>.inl c⟩
 |succ m ih=>
  intro ks s g c;rcases BQ ks with rfl|⟨u,k,rfl⟩
  ·simp at g
  simp at g;simp only[BR]at c⊢;rw[zX]at c;cases r:eK l keys u with
  |none=>rw[r]at c;cases c
  |some i=>
   rw[r]at c;have V:=ih u i g r;simp only[x8,nI]at c;split at c
   ·rename_i p
    injection c with c
    subst c;refine⟨V.pre,V.nodup,by simp[V.len],V.most,?_,fun x d=> ?_⟩
    ·intro j n x e d
     rcases jg j i.2.length with h|y
     ·rw[eP h]at e
      rw[eP (by rw[<-V.len];exact h)]at d;exact V.at_ j n x e d
     ·have q:=V.len
      have o:j=i.2.length:=by have:=(aL.1 e).1;simp at this;omega
      subst o;simp at e;rw[fZ ad]at d;simp[q]at d;subst d;subst e;rw[aL];exact⟨List.idxOf_lt_length_of_mem p,List.getElem_idxOf _⟩
    ·rcases V.new x d with f|f
     ·exact .inl f
     ·exact .inr (by simp[f])
   ·rename_i p
    split at c
    ·cases c
    rename_i B;injection c with c
    subst c;refine⟨V.pre.trans (List.prefix_append _ _),?_,by simp[V.len],aR,?_,fun x d=> ?_⟩
    ·rw[Iy]
     refine⟨V.nodup,ak,?_⟩;intro a w b t;simp at t;subst t;exact fun v=>p (v▸w)
    ·intro j n x e d
     rcases jg j i.2.length with h|y
     ·rw[eP h]at e
      rw[eP (by rw[<-V.len];exact h)]at d;have f:=V.at_ j n x e d;rw[eP (aL.1 f).1];exact f
     ·have q:=V.len
      have o:j=i.2.length:=by have:=(aL.1 e).1;simp at this;omega
      subst o;simp at e;rw[fZ ad]at d;simp[q]at d;subst d;subst e;simp
    ·simp at d
     rcases d with d|rfl
     ·rcases V.new x d with f|f
      ·exact .inl f
      ·exact .inr (by simp[f])
     ·exact .inr ak
structure Fp(first:K)(most:Nat)(next:K->List K)(i:Nat)(s:List K×List (List Nat)):Prop where
 first:s.1[0]?=some first
 nodup:s.1.Nodup
 len:s.2.length=i
 le:i<=s.1.length
 most:s.1.length<=most
 at_:∀(a:Nat) (k:K) (row:List Nat),s.1[a]?=some k->s.2[a]?=some row->row.length=(next k).length/\∀(j n:Nat) (x:K),row[j]?=some n->(next k)[j]?=some x->s.1[n]?=some x
theorem qU{first:K}{f:Nat}{next:K->List K}(C:0<f):∀(i:Nat) (s:List K×List (List Nat)),eL first f next i=some s->Fp first f next i s:=by
 intro i;induction i with
 |zero=>
  intro s b;unfold eL at b;injection b with b
  subst b;exact⟨rfl,ak,rfl,ak,aR,fun a k row _ b=>by simp at b⟩
 |succ i ih=>
  intro s b;unfold eL at b;cases o:eL first f next i with
  |none=>rw[o]at b;cases b
  |some d=>
   rw[o]at b;have T:=ih d o;simp only[x8]at b;split at b
   ·cases b
   rename_i k r;cases p:eK f d.1 (next k)with
   |none=>rw[p]at b;cases b
   |some v=>
    rw[p]at b;injection b with b
    subst b;have V:=wO T.nodup T.most _ _ v rfl p;obtain⟨G,t⟩:=V.pre;have E:=(aL.1 r).1;have h:∀(n:Nat) (x:K),d.1[n]?=some x->v.1[n]?=some x:=fun n x u=>by rw[<-t,eP (aL.1 u).1];exact u
    have F:d.1.length<=v.1.length:=by rw[<-t];simp
    refine⟨h _ _ T.first,V.nodup,by simp[T.len],?_,V.most,?_⟩
    ·show i+1<=v.1.length
     omega
    ·intro a x row l e
     rcases jg a d.2.length with B|D
     ·rw[eP B]at e
      have g:a<d.1.length:=by have:=T.len;have:=T.le;omega
      have z:d.1[a]?=some x:=by have c:=h a _ (aH g);rw[l]at c;rw[aH g,c]
      obtain⟨c,w⟩:=T.at_ a x row z e;exact⟨c,fun j n y m q=>h _ _ (w j n y m q)⟩
     ·have A:=T.len
      have g:a=d.2.length:=by have:=(aL.1 e).1;simp at this;omega
      subst g;simp at e;subst e;rw[A]at l;have c:=h _ _ r;rw[l]at c;injection c with c
      subst c;exact⟨V.len,fun j n y m q=>V.at_ j n y m q⟩
end
section
open Go Go.RowKit
section
variable{P:Program} {ops:Array Oper} {Q:Exit->Act->World->Prop} {md:Region.Mode} {S:World->Prop} {last:Nat}
def mL(P:Program)(md:Region.Mode)(ops:Array Oper)(Q:Exit->Act->World->Prop)(S:World->Prop)(last:Nat):Nat->Array Bool->Act->World->Prop
 |0,listed,a,w=>Region.ready md ops listed=[]/\Q .normal a w
 |c+1,listed,a,w=>
  (Region.ready md ops listed=[]->Q .normal a w)/\
  ∀i∈Region.ready md ops listed,wpOp P ops Q i (fun b w'=>(i≠last->S w')/\mL P md ops Q S last c (listed.setIfInBounds i true) b w') a w
theorem F7:∀(b:Nat) (listed:Array Bool) (a:Act) (w:World),mL P md ops Q S last b listed a w->wpAny P md ops Q b listed a w
 |0,_,_,_,c=>c
 |b+1,_,_,_,c=>⟨c.1,fun i f=>wpOp_mono (fun d w' e=>F7 b _ d w' e.2) (c.2 i f)⟩
def Am(md:Region.Mode)(ops:Array Oper)(last i:Nat):Bool:=match ops[last]? with|some o=>o.after.any (fun a=>Region.binds md a&&a.on==i)|none=>false
theorem P6{i:Nat}{h:Oper}{v:Value}(A:ops[i]?=some h)(t:Am md ops last i=true)(G:∀(j:Nat) (o:Oper) cs b,ops[j]?=some o->o.op≠ .select cs b)
 (L:∀c a w,Q (.panic c) (a.put h.dst v) w->Q (.panic c) a w):
 ∀(m:Nat) (listed:Array Bool) (a:Act) (w:World),
  (∀j l,ops[j]?=some l->j≠i->listed.getD j true=false->(∀d∈l.after,Region.binds md d=true->d.on≠i)->h.apart ops l=true)->
  i∈Region.ready md ops listed->YieldsIf P ops S h v a->S w->
  mL P md ops Q S last m (listed.setIfInBounds i true) (a.put h.dst v) w->mL P md ops Q S last (m+1) listed a w:=by
 intro m;induction m with
 |zero=>
  intro listed a w _ g u n H;refine⟨fun x=>(by rw[x]at g;cases g),fun j r=> ?_⟩;by_cases e:j=i
  ·subst e;exact u.wpOp A n ⟨fun _=>n,H⟩
  ·have:=ready_mono r e
   rw[H.1]at this;cases this
 |succ m ih=>
  intro listed a w C g u n H;refine⟨fun x=>(by rw[x]at g;cases g),fun j r=> ?_⟩;by_cases e:j=i
  ·subst e;exact u.wpOp A n ⟨fun _=>n,H⟩
  ·have f:=H.2 j (ready_mono r e)
   obtain⟨E,l,s,M⟩:=gx.1 r;have F:∀d∈l.after,Region.binds md d=true->d.on≠i:=fun d z p N=>by
    have f:=M d z p;have B:=(gx.1 g).1;rw[N]at f;rcases jg i listed.size with y|y
    ·simp[y]at B f;rw[B]at f;cases f
    ·simp[Array.getElem?_eq_none y]at f
   have R:j≠last:=fun d=>by subst d;unfold Am at t;rw[s]at t;simp only[Array.any_eq_true']at t;obtain⟨d,z,p⟩:=t;rw[cS,xL]at p;exact F d z p.1 p.2
   have K:=wpOp_putIf s (C j l s e E F) (fun cs b=>G i h cs b A) (fun cs b=>G j l cs b s) L u f;have O:∀k ok,ops[k]?=some ok->k≠i->(listed.setIfInBounds j true).getD k true=false->
    (∀d∈ok.after,Region.binds md d=true->d.on≠i)->h.apart ops ok=true:=fun k ok T V I W=>by
    refine C k ok T V ?_ W;by_cases D:j=k
    ·subst D;exact E
    ·rw[getD_set_ne true D]at I;exact I
   refine wpOp_mono (fun J w' q=>⟨q.2.1,ih (listed.setIfInBounds j true) J w' O (ready_mono g (rQ e)) q.1 (q.2.1 R) ?_⟩) K;rw[Array.setIfInBounds_comm _ _ e];exact q.2.2
theorem Te{i:Nat}{b:Oper}{v:Value}{d:Nat}{listed:Array Bool}{a:Act}{w:World}(e:ops[i]?=some b)(n:Am md ops last i=true)
 (m:Region.noSelect ops=true) (j:Region.free md ops listed i=true) (l:(Region.ready md ops listed).contains i=true)
 (g:∀c a w,Q (.panic c) (a.put b.dst v) w->Q (.panic c) a w) (o:YieldsIf P ops S b v a) (h:S w)
 (f:mL P md ops Q S last d (listed.setIfInBounds i true) (a.put b.dst v) w):mL P md ops Q S last (d+1) listed a w:=
 P6 e n (Region.noSelect_spec m) g d listed a w (Region.free_spec e j) (by simpa using l) o h f
theorem gn{i:Nat}{o:Oper}{d:Nat}{listed:Array Bool}{a:Act}{w:World}(g:Region.ready md ops listed=[i])(n:ops[i]?=some o)
 (h:∀b:Act->World->Prop,Shut (∀a w,(i≠last->S w)->((i≠last->S w)->mL P md ops Q S last d (listed.setIfInBounds i true) a w)->b a w)->if Region.wanted o (yielded ops a.tmps)=true then Oper.wp P o a w b Q else b (a.put o.dst undef) w):
 mL P md ops Q S last (d+1) listed a w:=
 ⟨(fun e=>by rw[g]at e;cases e),fun j c=>by rw[g]at c;simp at c;subst c;exact wpOp_step n (fun b l=>h b (fun a w f m=>l a w ⟨f,m f⟩))⟩
theorem oP{listed:Array Bool}{a:Act}{w:World}(c:Region.ready md ops listed=[])(b:Q .normal a w):
 ∀d,mL P md ops Q S last d listed a w
 |0=>⟨c,b⟩
 |_+1=>⟨fun _=>b,by rw[c];simp⟩
theorem oQ{id:Nat}{a:Act}{w:World}(c:P.follows .mixedOrders=true)
 (b:mL P .any ops Q S last ops.size (Array.replicate ops.size false) a w.drew):(Code.region id ops true).wp P Q a w:=
 wp_region_any c (F7 _ _ _ _ b)
end
theorem br{P:Program}{md:Region.Mode}{ops:Array Oper}{Q:Exit->Act->World->Prop}{S:World->Prop}{last:Nat}{i:Nat}{oi:Oper}{v:Value}{fuel:Nat}{listed:Array Bool}{a:Act}{w:World}(hi:ops[i]?=some oi)(hS:S w)(h:mL P md ops Q S last fuel (listed.setIfInBounds i true) (a.put oi.dst v) w)(hy:YieldsIf P ops S oi v a:=by exact Or.inl ⟨by rfl,by intro wy hSw;(try dsimp only at hSw);go_simp;try with_reducible rfl⟩)(hwl:Am md ops last i=true:=by kernel_rfl)(hs:Region.noSelect ops=true:=by kernel_rfl)(hf:Region.free md ops listed i=true:=by kernel_rfl)(hr:(Region.ready md ops listed).contains i=true:=by kernel_rfl)(hQ:∀c a w,Q (.panic c) (a.put oi.dst v) w->Q (.panic c) a w:=by exact fun _ _ _ h=>h):mL P md ops Q S last (fuel+1) listed a w:=Te hi hwl hs hf hr hQ hy hS h
theorem xi{P:Program}{md:Region.Mode}{ops:Array Oper}{Q:Exit->Act->World->Prop}{S:World->Prop}{last:Nat}{i:Nat}{oi:Oper}{v:Value}{fuel:Nat}{listed:Array Bool}{a:Act}{w:World}(hi:ops[i]?=some oi)(hy:YieldsIf P ops S oi v a)(hS:S w)(h:mL P md ops Q S last fuel (listed.setIfInBounds i true) (a.put oi.dst v) w)(hwl:Am md ops last i=true:=by kernel_rfl)(hs:Region.noSelect ops=true:=by kernel_rfl)(hf:Region.free md ops listed i=true:=by kernel_rfl)(hr:(Region.ready md ops listed).contains i=true:=by kernel_rfl)(hQ:∀c a w,Q (.panic c) (a.put oi.dst v) w->Q (.panic c) a w:=by exact fun _ _ _ h=>h):mL P md ops Q S last (fuel+1) listed a w:=Te hi hwl hs hf hr hQ hy hS h
end
end Go.Proofs.YtnadadbndcdolaaGreatDoor
