import Derived.Test.YtfeidcmojcijpaaGreatDoorQac
import Derived.Test.YtfeidcmojcijpaaGreatDoorQad
import Derived.Test.YtfeidcmojcijpaaGreatDoorQae
set_option linter.all false
set_option maxRecDepth 100000
set_option maxHeartbeats 0
namespace Go.Proofs.YtfeidcmojcijpaaGreatDoor
open Go.RowKit Tryz
structure ax where
 op:Int
 sym:Bytes
 a:Int
 b:Int
structure aB where
 name:Bytes
 zv:Bytes
 zx:List Bytes
 key:Bytes
 text:Bool
 E:List ax
def cy(i:Nat)(x:Int):Bool:=decide (0<=x)&&decide (x<i)
def eA(i:Nat)(n:ax):Bool:=
 if n.op=0∨n.op=1 then n.sym.isEmpty&&decide (n.a=0)&&decide (n.b=0)
 else if n.op=2 then decide (n.a=0)&&decide (n.b=0)
 else if n.op=3∨n.op=4 then n.sym.isEmpty&&cy i n.a&&cy i n.b
 else if n.op=5 then n.sym.isEmpty&&cy i n.a&&decide (n.b=0)
 else false
def bQ(n:ax):List Nat:=if n.op=3∨n.op=4 then [n.a.toNat,n.b.toNat]else if n.op=5 then [n.a.toNat]else []
def dG(l:List ax)(j:Nat):Nat:=(l.flatMap bQ).count j
def d9:Nat->List ax->Bool
 |_,[]=>true
 |i,n::l=>eA i n&&d9 (i+1) l
def gB(l:List ax):Bool:=d9 0 l&&(List.range (l-1)).all (fun j=>dG l j==1)&& !l.isEmpty
def bK(l:List ax):Int:=if 1024<l.length then 17 else if gB l=false then 12 else if l.any (fun n=>decide (n.op=2)&& !bp n.sym)=true then 11 else 0
def DP i a b:d9 i (a++b)=(d9 i a&&d9 (i+a) b):=by
 induction a generalizing i with
 |nil=>rfl
 |cons n t ih=>
  simp only[jK,d9,ih,ef,Bool.and_assoc];rw[show i+1+t=i+(t+1) by omega]
def Aa{l:List ax}{k n}(a:l[k]?=some n):d9 0 (l.take (k+1))=(d9 0 (l.take k)&&eA k n):=by have b:=(aF.1 a).1;rw[bH,a,fp,DP,eh,rX ad,cH];simp[d9]
def uq{l:List ax}{k n}(a:l[k]?=some n) j:dG (l.take (k+1)) j=dG (l.take k) j+(bQ n).count j:=by unfold dG;rw[bH,a,fp,qA,r8];simp
def Ab{l k n}(a:l[k]?=some n)(d:eA k n=false):gB l=false:=by
 have b:d9 0 (l.take (k+1))=false:=by rw[Aa a,d,Bool.and_false]
 have c:d9 0 l=(d9 0 (l.take (k+1))&&d9 (0+(l.take (k+1)).length) (l.drop (k+1))):=by
  conv=>lhs;rw[<-ig (k+1) l]
  rw[DP]
 unfold gB;rw[c,b];simp
def dN:List Bytes->List Bytes
 |[]=>[]
 |[a]=>[a]
 |a::b::t=>if a=b then dN (b::t)else a::dN (b::t)
def bD(x y:Bytes):Bool:=decide (x<=y)
def gQ(l:List ax):List Bytes:=l.filterMap fun n=>if n.op=2 then n.sym else none
def symsS(l:List ax):List Bytes:=if bK l=0 then dN ((gQ l).mergeSort bD)else []
def mV:Nat->List aB->Bytes->Option Nat->Option Nat
 |_,[],_,r=>r
 |i,t::ts,n,r=>mV (i+1) ts n (if t.name=n then i else r)
def placeS(ts:List aB)(n:Bytes):Option Nat:=mV 0 ts n none
def kidsS(ts:List aB)(t:aB):List Nat:=(symsS t.E).map fun n=>(placeS ts n).getD 0
def gR(t:aB):Bool:= !bp t.name|| !bp t.zv||t.zx.any (fun a=> !bp a)||(!t.key.isEmpty&& !bp t.key)
def eo:List Bytes->Bool
 |[]=>false
 |[_]=>false
 |a::b::t=>bD b a||eo (b::t)
def labelAt(ts:List aB)(k:Nat):Bytes:=match ts[k]? with|some t=>t.zv|none=>[]
def gS(ts:List aB)(k:Nat):List Bytes:=match ts[k]? with|some t=>t.zx|none=>[]
def cz:List Bytes->Bool
 |[]=>false
 |a::t=>t.contains a||cz t
def eW:List aB->Int
 |[]=>0
 |t::ts=>if t.text=false/\bK t.E≠0 then bK t.E else eW ts
def bY(ts:List aB):Int:=
 if 64<ts.length then 17 else if ts.length=0 then 18 else if ts.any gR=true then 11 else
 if cz (ts.map aB.name)=true then 15 else if ts.any (fun t=>eo t.zx)=true then 14 else
 if ts.any (fun t=>t.text&&(!t.E.isEmpty|| !t.key.isEmpty))=true then 12 else
 if eW ts≠0 then eW ts else
 if ts.any (fun t=>(symsS t.E).any fun n=>(placeS ts n).isNone)=true then 16 else
 if ts.any (fun t=>cz ((kidsS ts t).map (labelAt ts)))=true then 24 else
 if ts.any (fun t=> !t.key.isEmpty&& !(kidsS ts t).any fun k=>(gS ts k).contains t.key)=true then 23 else 0
def sx(ts:List aB)(n:Bytes):Int×Int:=if bY ts=0 then(match placeS ts n with|some k=>(k,0)|none=>(0,16))else(0,bY ts)
def cn(w:World)(o:Option Addr)(n cap size:Nat)(xs:List Value):Prop:=
 xs=n*size/\n<=cap/\cap<=maxLen/\(0<n->∃b a,o=some ⟨b,a,none⟩/\b<w/\∀j u,xs[j]?=some u->gC w b (a+j) u)
def cn.O{w w':World}{o:Option Addr}{n cap size:Nat}{xs:List Value}(a:cn w o n cap size xs)(c:Below w.heap.size w w'):cn w' o n cap size xs:=by refine⟨a.1,a.2.1,a.2.2.1,fun h=> ?_⟩;obtain⟨b,i,e,g,d⟩:=a.2.2.2 h;exact⟨b,i,e,by have:=c.size;omega,fun j u f=>(c.cell g).Z (d j u f)⟩
def nodeRow(n:ax):List Value:=[n.op,n.sym,n.a,n.b]
def oC{c:Type}{f:c->List Value} size(d:∀x,(f x).length=size){l:List c}{k x}(a:l[k]?=some x):∀j,j<size->(l.flatMap f)[k*size+j]?=(f x)[j]?:=by
 induction l generalizing k with
 |nil=>simp at a
 |cons y r ih=>
  intro j e;rw[tZ];have b:=d y;cases k with
  |zero=>
   simp at a;subst a;rw[wu,cH,eC ad]
  |succ k=>
   simp only[jw]at a;rw[gp (by rw[b,Nat.add_mul];omega),b,show(k+1)*size+j-size=k*size+j from by rw[Nat.add_mul];omega];exact ih a j e
def dv(w:World)(o:Option Addr)(cap:Nat)(l:List ax):Prop:=cn w o l cap 4 (l.flatMap nodeRow)
def dv.O{w w':World}{o:Option Addr}{cap:Nat}{l:List ax}(a:dv w o cap l)(b:Below w.heap.size w w'):dv w' o cap l:=cn.O a b
def dv.at{w:World}{o:Option Addr}{cap:Nat}{l:List ax}(h:dv w o cap l){k:Nat}{n:ax}(g:l[k]?=some n):
 ∃b a,o=some ⟨b,a,none⟩/\b<w.heap.size/\w.cell? ⟨b,a+k*4,none⟩=some (.int .i64 n.op)/\w.cell? ⟨b,a+k*4+1,none⟩=some (.string ⟨n.sym.toArray⟩)/\w.cell? ⟨b,a+k*4+2,none⟩=some (.int .i64 n.a)/\w.cell? ⟨b,a+k*4+3,none⟩=some (.int .i64 n.b):=by
 have j:=(aF.1 g).1;have⟨b,a,e,i,c⟩:=h.2.2.2 ad;have d:=oC (f:=nodeRow) 4 (fun _=>rfl) g;refine⟨b,a,e,i,?_,?_,?_,?_⟩;exact c _ _ ((d 0 ad).Z rfl);have:=c _ _ ((d 1 ad).Z rfl);omega;have:=c _ _ ((d 2 ad).Z rfl);omega;have:=c _ _ ((d 3 ad).Z rfl);omega
section
def Ah{i x}(a:cy i x=true):x.toNat<i:=by unfold cy at a;simp at a;omega
def nL{i n}(a:eA i n=true):∀p∈bQ n,p<i:=by
 intro p b;unfold bQ at b;unfold eA at a;split at b;rename_i d;rw[ap ad,ap ad,au d]at a;simp only[cM]at a;have c:=Ah a.1.2;have f:=Ah a.2;simp at b;rcases b with rfl|rfl<;>assumption
 split at b;rename_i e;rw[ap ad,ap ad,ap ad,au e]at a;simp only[cM]at a;have c:=Ah a.1.2;simp at b;subst b;exact c;simp at b
def iA:∀l i k n,d9 i l=true->l[k]?=some n->eA (i+k) n=true
 |[],i,k,n,_,a=>by simp at a
 |m::l,i,0,n,a,b=>by simp at b;subst b;unfold d9 at a;rw[cM]at a;exact a.1
 |m::l,i,k+1,n,a,b=>by unfold d9 at a;rw[cM]at a;have:=iA l (i+1) k n a.2 (by simpa using b);rwa[show i+1+k=i+(k+1) by omega]at this
structure eG(l:List ax):Prop where
 ok:d9 0 l=true
 ne:l≠[]
 used:∀j,j<l.length-1->dG l j=1
def qU{l}(a:gB l=true):eG l:=by unfold gB at a;simp only[cM,ke,eT]at a;exact⟨a.1.1,by cases l<;>simp_all,fun j b=>by simpa using a.1.2 j b⟩
def Ai{l} j:∀k,k<=l.length->dG (l.take k) j<=dG l j:=by
 intro k a;conv=>rhs;rw[<-ig k l]
 unfold dG;rw[qA,r8];omega
def nM{i n}(a:eA i n=true):n.op=0∨n.op=1∨n.op=2∨n.op=3∨n.op=4∨n.op=5:=by unfold eA at a;split at a;omega;split at a;omega;split at a;omega;split at a;omega;cases a
open PRegex
def eP(tr:Nat->PT)(i:Nat)(n:ax):PT:=
 if n.op=1 then .eps else if n.op=2 then .sym i else if n.op=3 then .cat (tr n.a.toNat) (tr n.b.toNat)
 else if n.op=4 then .alt (tr n.a.toNat) (tr n.b.toNat)else if n.op=5 then .star (tr n.a.toNat)else .none
def kN:List PT->List ax->List PT
 |a,[]=>a
 |a,n::l=>kN (a++[eP (fun j=>a.getD j .none) a n]) l
def trN(l:List ax)(i:Nat):PT:=(kN [] l).getD i .none
def Aj:∀x y a,kN a (x++y)=kN (kN a x) y
 |[],_,_=>rfl
 |n::x,y,a=>by simp only[jK,kN];rw[Aj x y]
def Ak:∀x a,(kN a x)=a+x.length
 |[],a=>rfl
 |n::x,a=>by simp only[kN];rw[Ak x];simp;omega
def Em:∀x a j,j<a.length->(kN a x).getD j .none=a.getD j .none
 |[],_,_,_=>rfl
 |n::x,a,j,b=>by simp only[kN];rw[Em x _ j aO,cB,cB,eC b]
def En{l k j}(b:j<k)(c:k<=l.length):(kN [] (l.take k)).getD j .none=trN l j:=by
 unfold trN;conv=>rhs;rw[<-ig k l,Aj]
 have a:=Em (l.drop k) (kN [] (l.take k)) j (by rw[Ak,eh];simp;omega);rw[a]
def Mi{f g i n}(m:eA i n=true)(b:∀j,j<i->f j=g j):eP f i n=eP g i n:=by have a:=nL m;unfold bQ at a;unfold eP;by_cases e:n.op=3;have c:=a n.a.toNat (by simp[e]);have d:=a n.b.toNat (by simp[e]);simp[b _ c,b _ d];by_cases h:n.op=4;have c:=a n.a.toNat (by simp[h]);have d:=a n.b.toNat (by simp[h]);simp[b _ c,b _ d];by_cases l:n.op=5;have c:=a n.a.toNat (by simp[l]);simp[l,b _ c];simp[e,h,l]
def mX{l}(d:d9 0 l=true){i n}(a:l[i]?=some n):trN l i=eP (trN l) i n:=by
 have f:=(aF.1 a).1;have b:=iA l 0 i n d a;rw[cH]at b;have e:(kN [] (l.take i)).length=i:=by rw[Ak,eh];simp;omega
 rw[<-En (k:=i+1) ad ad,bH,a,fp,Aj];simp only[kN];rw[cB,gp ad,e];simp only[qy,mR,gM];refine Mi b fun j c=> ?_;rw[En c ad]
def xC(l:List ax)(j i:Nat):Bool:=match l[i]? with|some n=>(bQ n).contains j|none=>false
def ja(l:List ax)(j:Nat):Nat:=((List.range l).find? (xC l j)).getD 0
def Eo{l j i}:xC l j i=true↔∃n,l[i]?=some n/\j∈bQ n:=by
 unfold xC;cases l[i]? with
 |none=>simp
 |some n=>simp
def Ep{l}{j a b:Nat}{n m}(i:a<b)(f:l[a]?=some n)(c:l[b]?=some m)(d:j∈bQ n)(e:j∈bQ m):2<=dG l j:=by
 have o:=(aF.1 c).1;have g:=uq f j;have h:=uq c j;have p:1<=(bQ n).count j:=Db.2 d;have q:1<=(bQ m).count j:=Db.2 e;have u1:dG (l.take (a+1)) j<=dG (l.take b) j:=by have:=Ai (l:=l.take b) j (a+1) (by rw[eh];omega);rwa[CZ,rX ad]at this
 have u2:=Ai (l:=l) j (b+1) ad;omega
def qV{l}(hF:eG l){i j n}(a:l[i]?=some n)(c:j∈bQ n):ja l j=i:=by
 have h:=(aF.1 a).1;have g:=iA l 0 i n hF.ok a;rw[cH]at g;have o:=nL g j c;unfold ja;cases e:(List.range l).find? (xC l j)with
 |none=>
  rw[List.find?_eq_none]at e;exact absurd (Eo.2 ⟨n,a,c⟩) (e i (eT.2 h))
 |some k=>
  have⟨m,f,d⟩:=Eo.1 (List.find?_some e);have p:=hF.used j ad;show k=i
  rcases tV k i with b|b|b
  have:=Ep b f a d c;omega;exact b;have:=Ep b a f c d;omega
def Al{l}(hF:eG l){j}(e:j<l.length-1):∃i n,l[i]?=some n/\j∈bQ n/\j<i/\ja l j=i:=by have h:=hF.used j e;have d:0<dG l j:=ad;unfold dG at d;have f:=Db.1 d;have⟨n,g,b⟩:=sh.1 f;have⟨i,a⟩:=qG.1 g;have c:=iA l 0 i n hF.ok a;rw[cH]at c;exact⟨i,n,a,b,nL c j b,qV hF a b⟩
def xD{l}(hF:eG l){i:Nat}{n}(a:l[i]?=some n)(d:n.op=3∨n.op=4):n.a.toNat≠n.b.toNat:=by
 intro e;have h:=(aF.1 a).1;have b:=iA l 0 i n hF.ok a;rw[cH]at b;have c:bQ n=[n.a.toNat,n.b.toNat]:=by unfold bQ;rw[au d]
 have j:=nL b n.a.toNat (by rw[c];simp);have f:=uq a n.a.toNat;have g:(bQ n).count n.a.toNat=2:=by rw[c,<-e];simp
 have m:=Ai (l:=l) n.a.toNat (i+1) ad;have:=hF.used n.a.toNat ad;omega
def Er{l}(hF:eG l){i}(f:i<l.length):Mk (trN l) (ja l) i (trN l i):=by
 obtain⟨n,b⟩:=aT f;have d:=iA l 0 i n hF.ok b;rw[cH]at d;have c:=nL d;rw[mX hF.ok b];rcases nM d with e|e|e|e|e|e
 have:eP (trN l) i n=.none:=by simp[eP,e]
 rw[this];exact .none;have:eP (trN l) i n=.eps:=by simp[eP,e]
 rw[this];exact .eps;have:eP (trN l) i n=.sym i:=by simp[eP,e]
 rw[this];exact .sym;have:eP (trN l) i n=.cat (trN l n.a.toNat) (trN l n.b.toNat):=by simp[eP,e]
 rw[this];have a:bQ n=[n.a.toNat,n.b.toNat]:=by unfold bQ;rw[au (.inl e)]
 exact .cat (c _ (by rw[a];simp)) (c _ (by rw[a];simp)) (xD hF b (.inl e)) (qV hF b (by rw[a];simp)) (qV hF b (by rw[a];simp));have:eP (trN l) i n=.alt (trN l n.a.toNat) (trN l n.b.toNat):=by simp[eP,e]
 rw[this];have a:bQ n=[n.a.toNat,n.b.toNat]:=by unfold bQ;rw[au (.inr e)]
 exact .alt (c _ (by rw[a];simp)) (c _ (by rw[a];simp)) (xD hF b (.inr e)) (qV hF b (by rw[a];simp)) (qV hF b (by rw[a];simp));have:eP (trN l) i n=.star (trN l n.a.toNat):=by simp[eP,e]
 rw[this];have a:bQ n=[n.a.toNat]:=by unfold bQ;rw[ap ad,au e]
 exact .star (c _ (by rw[a];simp)) (qV hF b (by rw[a];simp))
def ma(l:List ax)(a:Nat):Fr:=
 match l[ja l a]? with
 |none=>.star
 |some n=>if n.op=3 then(if n.a=a then .catL (trN l n.b.toNat)else .catR (trN l n.a.toNat))else if n.op=4 then(if n.a=a then .altL (trN l n.b.toNat)else .altR (trN l n.a.toNat))else .star
def Am{l}(hF:eG l){a}(s:a<l.length-1):a<ja l a/\ja l a<=l-1/\(ma l a).zm (trN l a)=trN l (ja l a):=by
 obtain⟨i,n,d,b,t,p⟩:=Al hF s;have u:=(aF.1 d).1;have c:=iA l 0 i n hF.ok d;rw[cH]at c;rw[p];refine⟨t,ad,?_⟩;rw[mX hF.ok d];unfold ma;rw[p,d];simp only;unfold bQ at b;split at b;rename_i g;have v:0<=n.a/\0<=n.b:=by unfold eA at c;rw[ap ad,ap ad,au g]at c;simp only[cM]at c;have h:=c.1.2;have j:=c.2;unfold cy at h j;simp at h j;omega
 by_cases f:n.a=a;have m:n.a.toNat=a:=ad;rcases g with e|e
 rw[au e,au f];simp[eP,e,m,Fr.zm];rw[ap ad,au e,au f];simp[eP,e,m,Fr.zm];have o:n.b.toNat=a:=by
  simp at b;rcases b with q|q
  omega;omega
 rcases g with e|e
 rw[au e,ap f];simp[eP,e,o,Fr.zm];rw[ap ad,au e,ap f];simp[eP,e,o,Fr.zm];split at b;rename_i r;simp at b;rw[ap ad,ap ad];simp[eP,r,Fr.zm,b];simp at b
def dt:PT->Nat
 | .none=>0
 | .eps=>0
 | .sym p=>2^p
 | .cat a b=>if a.zo&&b.zo then(dt a|||(if a.null then dt b else 0))else 0
 | .alt a b=>dt a|||dt b
 | .star a=>dt a
def eH:PT->Nat
 | .none=>0
 | .eps=>0
 | .sym p=>2^p
 | .cat a b=>if a.zo&&b.zo then(eH b|||(if b.null then eH a else 0))else 0
 | .alt a b=>eH a|||eH b
 | .star a=>eH a
def Es p q:(2^p).testBit q=(p==q):=by rw[Nat.testBit_two_pow];rw[ft];simp
def xE{t:PT}(a:t.null=true):t.zo=true:=L_alive (L_null t a)
def lr:∀t q,(dt t).testBit q=t.zq q
 | .none,q=>by simp[dt,PT.zq]
 | .eps,q=>by simp[dt,PT.zq]
 | .sym p,q=>by simp[dt,PT.zq,Es]
 | .alt a b,q=>by simp[dt,PT.zq,lr a q,lr b q]
 | .star a,q=>by simp[dt,PT.zq,lr a q]
 | .cat a b,q=>by
   unfold dt PT.zq;cases c:a.zo with
   |false=>
    have d:a.zq q=false:=by cases e:a.zq q with|false=>rfl|true=>rw[starts_alive a e]at c;cases c
    have g:a.null=false:=by cases e:a.null with|false=>rfl|true=>rw[xE e]at c;cases c
    simp[d,g]
   |true=>
    cases f:b.zo with
    |false=>
     have d:b.zq q=false:=by cases e:b.zq q with|false=>rfl|true=>rw[starts_alive b e]at f;cases f
     simp[d]
    |true=>
     cases h:a.null with
     |false=>simp[lr a q]
     |true=>simp[lr a q,lr b q]
def lu:∀t q,(eH t).testBit q=t.zp q
 | .none,q=>by simp[eH,PT.zp]
 | .eps,q=>by simp[eH,PT.zp]
 | .sym p,q=>by simp[eH,PT.zp,Es]
 | .alt a b,q=>by simp[eH,PT.zp,lu a q,lu b q]
 | .star a,q=>by simp[eH,PT.zp,lu a q]
 | .cat a b,q=>by
   unfold eH PT.zp;cases f:a.zo with
   |false=>
    have d:a.zp q=false:=by cases e:a.zp q with|false=>rfl|true=>rw[ends_alive a e]at f;cases f
    simp[d]
   |true=>
    cases c:b.zo with
    |false=>
     have d:b.zp q=false:=by cases e:b.zp q with|false=>rfl|true=>rw[ends_alive b e]at c;cases c
     have g:b.null=false:=by cases e:b.null with|false=>rfl|true=>rw[xE e]at c;cases c
     simp[d,g]
    |true=>
     cases h:b.null with
     |false=>simp[lu b q]
     |true=>simp[lu a q,lu b q]
def lv(l:List ax)(p:Nat):Nat->Nat->Nat->Nat
 |0,_,out=>out
 |k+1,a,out=>
  if a=l-1 then out
  else if(trN l (ja l a)).zo then
   lv l p k (ja l a) (if(eH (trN l a)).testBit p then(match ma l a with| .catL b=>out|||dt b| .star=>out|||dt (trN l a)|_=>out)else out)
  else 0
def Et p:∀a t S b,(∀q,S q=b q)->∀q,climb p t a S q=climb p t a b q
 |[],_,_,_,c,q=>c q
 |f::a,t,S,b,c,q=>by unfold climb;split;exact Et p a _ _ _ (fun q=>by rw[c q]) q;rfl
def Eu{l}(hF:eG l) p:∀k a out,a<=l.length-1->∀q,(lv l p k a out).testBit q=climb p (trN l a) (path (ja l) (ma l) (l-1) k a) (fun q=>out.testBit q) q
 |0,a,out,_,q=>rfl
 |k+1,a,out,g,q=>by
  unfold lv path;by_cases e:a=l-1;rw[au e,au e];rfl;rw[ap e,ap e];obtain⟨f,c,d⟩:=Am hF (a:=a) ad;unfold climb;rw[d];cases hv:(trN l (ja l a)).zo with
  |false=>simp
  |true=>
   rw[au rfl,au rfl,Eu hF p k _ _ c q];refine Et p _ _ _ _ (fun q=> ?_) q;unfold Fr.add;rw[lu];cases b:(trN l a).zp p with
   |false=>cases ma l a<;>simp[b]
   |true=>cases ma l a<;>simp[b,lr]
def dO(l:List ax)(p:Nat):Nat:=lv l p l p 0
def uH{l}(hF:eG l){p n}(c:l[p]?=some n)(e:n.op=2) q:(dO l p).testBit q=(trN l (l-1)).zr p q:=by have g:=(aF.1 c).1;unfold dO;rw[Eu hF p _ p 0 ad];have b:=next_pairs (tr:=trN l) (up:=ja l) (fr:=ma l) (root:=l.length-1) (fun i f=>Er hF ad) (fun a d=>Am hF d) (p:=p) ad (by rw[mX hF.ok c];simp[eP,e]) q;rw[show l-1+1=l.length by omega]at b;rw[<-b];simp
def pF{β}(a:Nat->β)(t:PT):(Nat->Prop)->List β->(Nat->Prop)
 |S,[]=>S
 |S,x::w=>pF a t (fun q=>∃p,S p/\a p=x/\t.zr p q=true) w
def Mj{β} nm t:∀(w:List β) S a,(∀q,S q↔a q)->(PRegex.Reach nm t S w↔PRegex.Reach nm t a w):=by intro w S a b;have:=funext fun q=>propext (b q);rw[this]
def Ev{β} nm t:∀w (x:β) S,PRegex.Reach nm t (fun q=>S q/\nm q=x) w↔∃p,pF nm t S ((x::w).dropLast) p/\(nm p)=(x::w).getLast?/\t.zp p=true
 |[],x,S=>by simp[PRegex.Reach,pF];constructor;rintro⟨p,⟨a,b⟩,c⟩;exact⟨p,a,b,c⟩;rintro⟨p,a,b,c⟩;exact⟨p,⟨a,b⟩,c⟩
 |y::w,x,S=>by
  rw[PRegex.Reach];rw[Mj nm t w _ (fun q=>(∃p,S p/\nm p=x/\t.zr p q=true)/\nm q=y) (fun q=>by constructor;rintro⟨p,⟨a,b⟩,c,d⟩;exact⟨⟨p,a,b,c⟩,d⟩;rintro⟨⟨p,a,b,c⟩,d⟩;exact⟨p,⟨a,b⟩,c,d⟩)]
  rw[Ev nm t w y];rw[show(x::y::w).dropLast=x::(y::w).dropLast from rfl,show(x::y::w).getLast?=(y::w).getLast? from by simp];rfl
def Ew{β} nm t(a:t.lin)(w:List β)(b:w≠[]):MW nm t w↔∃p,pF nm t (fun q=>t.zq q=true) w.dropLast p/\(nm p)=w.getLast?/\t.zp p=true:=by
 cases w with
 |nil=>exact absurd rfl b
 |cons x w=>rw[MW_cons nm t a,Ev]
def uI{l}(hF:eG l){i}(b:i<l.length):(trN l i).lin/\∀p,(trN l i).zl p=true->p<=i:=by have a:=lin_tr (fun j c=>Er hF c) i b;exact⟨a.1,fun p d=>(a.2 p d).le⟩
def Ex{l}(hF:eG l){i}(a:i<l.length):dt (trN l i)<2^l.length:=by
 refine Kw _ fun q b=> ?_;rw[lr];cases e:(trN l i).zq q with
 |false=>rfl
 |true=>have:=(uI hF a).2 q (starts_inn _ e);omega
def Ml{l}(hF:eG l){i}(a:i<l.length):eH (trN l i)<2^l.length:=by
 refine Kw _ fun q b=> ?_;rw[lu];cases e:(trN l i).zp q with
 |false=>rfl
 |true=>have:=(uI hF a).2 q (ends_inn _ e);omega
end
end Go.Proofs.YtfeidcmojcijpaaGreatDoor
