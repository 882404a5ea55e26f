import Derived.Test.YtnadadbndcdolaaGreatDoorQab
import Derived.Test.YtnadadbndcdolaaGreatDoorQac
set_option linter.unusedVariables false
set_option linter.unusedSimpArgs false
set_option maxRecDepth 100000
set_option maxHeartbeats 0
namespace Go.Proofs.YtnadadbndcdolaaGreatDoor
open Go.RowKit Tryz
structure aj where
 op:Int
 sym:Bytes
 a:Int
 b:Int
structure aw where
 name:Bytes
 label:Bytes
 attrs:List Bytes
 key:Bytes
 text:Bool
 nodes:List aj
def dy(i:Nat)(x:Int):Bool:=decide (0<=x)&&decide (x<(i:Int))
def dO(i:Nat)(n:aj):Bool:=
 if n.op=0∨n.op=1 then n.sym.isEmpty&&decide (n.a=0)&&decide (n.b=0)
 else if n.op=2 then decide (n.a=0)&&decide (n.b=0)
 else if n.op=3∨n.op=4 then n.sym.isEmpty&&dy i n.a&&dy i n.b
 else if n.op=5 then n.sym.isEmpty&&dy i n.a&&decide (n.b=0)
 else false
def bO(n:aj):List Nat:=if n.op=3∨n.op=4 then [n.a.toNat,n.b.toNat]else if n.op=5 then [n.a.toNat]else []
def cV(l:List aj)(j:Nat):Nat:=(l.flatMap bO).count j
def ey:Nat->List aj->Bool
 |_,[]=>true
 |i,n::l=>dO i n&&ey (i+1) l
def iu(l:List aj):Bool:=ey 0 l&&(List.range (l.length-1)).all (fun j=>cV l j==1)&& !l.isEmpty
def bG(l:List aj):Int:=if 1024<l.length then 17 else if iu l=false then 12 else if l.any (fun n=>decide (n.op=2)&& !cH n.sym)=true then 11 else 0
theorem uR(i:Nat)(a b:List aj):ey i (a++b)=(ey i a&&ey (i+a.length) b):=by
 induction a generalizing i with
 |nil=>simp[ey]
 |cons n t ih=>
  simp only[jf,ey,ih,db,Bool.and_assoc];rw[show i+1+t.length=i+(t.length+1) by omega]
theorem Cl{l:List aj}{k:Nat}{n:aj}(a:l[k]?=some n):ey 0 (l.take (k+1))=(ey 0 (l.take k)&&dO k n):=by have b:=(aL.1 a).1;rw[bV,a,fF,uR,fm,AV ad,cD];simp[ey]
theorem rW{l:List aj}{k:Nat}{n:aj}(a:l[k]?=some n)(j:Nat):cV (l.take (k+1)) j=cV (l.take k) j+(bO n).count j:=by unfold cV;rw[bV,a,fF,ug,xG];simp
theorem Jf{l:List aj}{k:Nat}{n:aj}(a:l[k]?=some n)(d:dO k n=false):iu l=false:=by
 have b:ey 0 (l.take (k+1))=false:=by rw[Cl a,d,Bool.and_false]
 have c:ey 0 l=(ey 0 (l.take (k+1))&&ey (0+(l.take (k+1)).length) (l.drop (k+1))):=by
  conv=>lhs;rw[<-mQ (k+1) l]
  rw[uR]
 unfold iu;rw[c,b];simp
def dd:List Bytes->List Bytes
 |[]=>[]
 |[a]=>[a]
 |a::b::t=>if a=b then dd (b::t)else a::dd (b::t)
def bP(x y:Bytes):Bool:=decide (x<=y)
def fB(l:List aj):List Bytes:=l.filterMap fun n=>if n.op=2 then some n.sym else none
def aI(l:List aj):List Bytes:=if bG l=0 then dd ((fB l).mergeSort bP)else []
def jn:Nat->List aw->Bytes->Option Nat->Option Nat
 |_,[],_,a=>a
 |i,t::ts,n,a=>jn (i+1) ts n (if t.name=n then some i else a)
def placeS(ts:List aw)(n:Bytes):Option Nat:=jn 0 ts n none
def kidsS(ts:List aw)(t:aw):List Nat:=(aI t.nodes).map fun n=>(placeS ts n).getD 0
def kK(t:aw):Bool:= !cH t.name|| !cH t.label||t.attrs.any (fun a=> !cH a)||(!t.key.isEmpty&& !cH t.key)
def ej:List Bytes->Bool
 |[]=>false
 |[_]=>false
 |a::b::t=>bP b a||ej (b::t)
def labelAt(ts:List aw)(k:Nat):Bytes:=match ts[k]? with|some t=>t.label|none=>[]
def attrsAt(ts:List aw)(k:Nat):List Bytes:=match ts[k]? with|some t=>t.attrs|none=>[]
def dk:List Bytes->Bool
 |[]=>false
 |a::t=>t.contains a||dk t
def eQ:List aw->Int
 |[]=>0
 |t::ts=>if t.text=false/\bG t.nodes≠0 then bG t.nodes else eQ ts
def bT(ts:List aw):Int:=
 if 64<ts.length then 17 else if ts.length=0 then 18 else if ts.any kK=true then 11 else
 if dk (ts.map aw.name)=true then 15 else if ts.any (fun t=>ej t.attrs)=true then 14 else
 if ts.any (fun t=>t.text&&(!t.nodes.isEmpty|| !t.key.isEmpty))=true then 12 else
 if eQ ts≠0 then eQ ts else
 if ts.any (fun t=>(aI t.nodes).any fun n=>(placeS ts n).isNone)=true then 16 else
 if ts.any (fun t=>dk ((kidsS ts t).map (labelAt ts)))=true then 24 else
 if ts.any (fun t=> !t.key.isEmpty&& !(kidsS ts t).any fun k=>(attrsAt ts k).contains t.key)=true then 23 else 0
def nW(ts:List aw)(n:Bytes):Int×Int:=if bT ts=0 then(match placeS ts n with|some k=>((k:Int),0)|none=>(0,16))else(0,bT ts)
def dp(w:World)(o:Option Addr)(n cap size:Nat)(xs:List Value):Prop:=
 xs.length=n*size/\n<=cap/\cap<=maxLen/\(0<n->∃b a,o=some ⟨b,a,none⟩/\b<w.heap.size/\∀j u,xs[j]?=some u->w.cell? ⟨b,a+j,none⟩=some u)
theorem dp.below{w w':World}{o:Option Addr}{n cap size:Nat}{xs:List Value}(a:dp w o n cap size xs)(c:Below w.heap.size w w'):dp w' o n cap size xs:=by refine⟨a.1,a.2.1,a.2.2.1,fun i=> ?_⟩;obtain⟨b,d,e,h,f⟩:=a.2.2.2 i;exact⟨b,d,e,by have:=c.size;omega,fun j u g=>(c.cell (p:=⟨b,d+j,none⟩) h).trans (f j u g)⟩
def nodeRow(n:aj):List Value:=[.int .i64 n.op,.string ⟨n.sym.toArray⟩,.int .i64 n.a,.int .i64 n.b]
theorem lu{b:Type}{f:b->List Value}(size:Nat)(d:∀x,(f x).length=size){l:List b}{k:Nat}{x:b}(a:l[k]?=some x):∀j,j<size->(l.flatMap f)[k*size+j]?=(f x)[j]?:=by
 induction l generalizing k with
 |nil=>simp at a
 |cons y g ih=>
  intro j e;rw[uh];have c:=d y;cases k with
  |zero=>
   simp at a;subst a;rw[ui,cD,eP ad]
  |succ k=>
   simp only[gI]at a;rw[fZ (by rw[c,Nat.add_mul];omega),c,show(k+1)*size+j-size=k*size+j from by rw[Nat.add_mul];omega];exact ih a j e
def cO(w:World)(o:Option Addr)(cap:Nat)(l:List aj):Prop:=dp w o l.length cap 4 (l.flatMap nodeRow)
theorem cO.below{w w':World}{o:Option Addr}{cap:Nat}{l:List aj}(a:cO w o cap l)(b:Below w.heap.size w w'):cO w' o cap l:=dp.below a b
theorem cO.at{w:World}{o:Option Addr}{cap:Nat}{l:List aj}(h:cO w o cap l){k:Nat}{n:aj}(e:l[k]?=some n):
 ∃b a,o=some ⟨b,a,none⟩/\b<w.heap.size/\w.cell? ⟨b,a+k*4,none⟩=some (.int .i64 n.op)/\w.cell? ⟨b,a+k*4+1,none⟩=some (.string ⟨n.sym.toArray⟩)/\w.cell? ⟨b,a+k*4+2,none⟩=some (.int .i64 n.a)/\w.cell? ⟨b,a+k*4+3,none⟩=some (.int .i64 n.b):=by
 have j:=(aL.1 e).1;obtain⟨b,a,g,i,c⟩:=h.2.2.2 ad;have d:=lu (f:=nodeRow) 4 (fun _=>rfl) e;refine⟨b,a,g,i,?_,?_,?_,?_⟩
 ·exact c (k*4) _ ((d 0 ad).trans rfl)
 ·have:=c (k*4+1) _ ((d 1 ad).trans rfl);rwa[<-iE]at this
 ·have:=c (k*4+2) _ ((d 2 ad).trans rfl);rwa[<-iE]at this
 ·have:=c (k*4+3) _ ((d 3 ad).trans rfl);rwa[<-iE]at this
def eT(c:UInt8):Bool:=kf (c.toNat:Nat)
def pz(c:UInt8):Bool:=kJ (c.toNat:Nat)
def jM(l:Bytes):Nat:=(l.takeWhile eT).length
def iN(l:Bytes):Nat:=(l.takeWhile pz).length
theorem CZ(l:Bytes):jM l<=l.length:=by unfold jM;exact(xP _).length_le
theorem yy(l:Bytes):iN l<=l.length:=by unfold iN;exact(xP _).length_le
theorem Kr(l:Bytes):l.take (iN l)=l.takeWhile pz:=by
 unfold iN;induction l with
 |nil=>rfl
 |cons c t ih=>
  by_cases a:pz c=true
  ·rw[uq (by simpa using a)];simp[ih]
  ·rw[ur (by simpa using a)];rfl
structure da where
 p:Nat
 long:Bool
 big:Bool
abbrev eG:=Option (List aj×da)
def kn(l:Bytes)(p:Nat):Nat:=p+jM (l.drop p)
def fI(l:Bytes)(c:UInt8)(p:Nat):Bool:=l[kn l p]?==some c
def bU(l:Bytes)(c:UInt8)(p:Nat):Nat:=if fI l c p then kn l p+1 else kn l p
def nt:aj:=⟨0,[],0,0⟩
def dQ:aj:=⟨1,[],0,0⟩
def eH(c:Nat)(n:aj):aj:=if n.op=3∨n.op=4 then{n with a:=n.a+c,b:=n.b+c}else if n.op=5 then{n with a:=n.a+c}else n
def gM(a:Int):Nat->List aj->List (List aj)->List aj
 |_,out,[]=>out
 |i,out,p::ps=>gM a (i+1) (if i=0 then out++p.map (eH out.length)else out++p.map (eH out.length)++[⟨a,[],(out.length:Int)-1,((out++p.map (eH out.length)).length:Int)-1⟩]) ps
def gA(parts:List (List aj)):Nat:=(parts.map List.length).sum
def dX(b a:Int)(parts:List (List aj)):Option (List aj):=
 if parts=[]then some [⟨a,[],0,0⟩]else if 1024<parts.length-1+gA parts then none else some (gM b 0 [] parts)
def fD(big:Bool)(a:Option (List aj)):List aj×Bool:=
 match a with
 |none=>([nt],true)
 |some l=>if big=true∨1024<l.length then([nt],true)else(l,false)
def ee(l:List aj):List aj:=l++[⟨5,[],(l.length:Int)-1,0⟩]
def gX(l:Bytes)(c:UInt8)(e d:Int)(part:da->eG):Nat->List (List aj)->da->eG
 |0,_,_=>none
 |f+1,parts,g=>
  match part g with
  |none=>none
  |some (b,a)=>
   if fI l c a.p then gX l c e d part f (parts++[b]) {a with p:=bU l c a.p}
   else if parts=[]then some (b,{a with p:=bU l c a.p})
   else some ((fD a.big (dX e d (parts++[b]))).1,{p:=bU l c a.p,long:=a.long,big:=(fD a.big (dX e d (parts++[b]))).2})
def kQ(l:Bytes):Nat->List aj->da->List aj×da
 |0,b,a=>(b,a)
 |f+1,b,a=>
  if fI l 42 a.p then kQ l f (fD a.big (some (ee b))).1 {a with p:=bU l 42 a.p,big:=(fD a.big (some (ee b))).2}
  else if fI l 43 (bU l 42 a.p)then kQ l f (fD a.big (dX 3 1 [b,ee b])).1 {a with p:=bU l 43 (bU l 42 a.p),big:=(fD a.big (dX 3 1 [b,ee b])).2}
  else if fI l 63 (bU l 43 (bU l 42 a.p))then kQ l f (fD a.big (dX 4 0 [b,[dQ]])).1 {a with p:=bU l 63 (bU l 43 (bU l 42 a.p)),big:=(fD a.big (dX 4 0 [b,[dQ]])).2}
  else(b,{a with p:=bU l 63 (bU l 43 (bU l 42 a.p))})
def iO(l:Bytes)(q:Nat):Bytes:=
 match l[q]? with
 |none=>[]
 |some x=>if cH [x]then(l.drop q).takeWhile pz else []
def ml(l:Bytes)(E:da->eG)(a:da):eG:=
 if fI l 33 a.p then some ([nt],{a with p:=bU l 33 a.p})
 else if fI l 40 (bU l 33 a.p)then
  (if fI l 41 (bU l 40 (bU l 33 a.p))then some ([dQ],{a with p:=bU l 41 (bU l 40 (bU l 33 a.p))})
   else match E {a with p:=bU l 41 (bU l 40 (bU l 33 a.p))}with
    |none=>none
    |some (c,b)=>if fI l 41 b.p then some (c,{b with p:=bU l 41 b.p})else none)
 else if iO l (bU l 40 (bU l 33 a.p))=[]then none
 else some ([⟨2,iO l (bU l 40 (bU l 33 a.p)),0,0⟩],{p:=bU l 40 (bU l 33 a.p)+(iO l (bU l 40 (bU l 33 a.p))).length,long:=a.long|| !cH (iO l (bU l 40 (bU l 33 a.p))),big:=a.big})
def lC(l:Bytes)(E:da->eG)(b:da):eG:=
 match ml l E b with
 |none=>none
 |some (a,c)=>some (kQ l (l.length+1) a c)
def n6(l:Bytes)(E:da->eG)(a:da):eG:=gX l 44 3 1 (lC l E) (l.length+1) [] a
def n7(l:Bytes):Nat->da->eG
 |0,_=>none
 |n+1,a=>gX l 124 4 0 (n6 l (n7 l n)) (l.length+1) [] a
def n8(l:Bytes):List aj×Int:=
 if 65536<l.length then([],17)else
 match n7 l (l.length+1) ⟨0,false,false⟩with
 |none=>([],12)
 |some (b,a)=>if kn l a.p<l.length then([],12)else if a.long then([],11)else if a.big then([],17)else(b,0)
def aW(a:Bytes):Bytes:=a.dropWhile eT
def iP(c:UInt8):Bool:= !(eT c||c==123)
def ct(a:Bytes):Bytes:=(aW a).takeWhile iP
def bS(a:Bytes):Bytes:=(aW a).dropWhile iP
def mn(a:Bytes):Bytes:=match ct a with|[]=>[]|c::t=>if c=64 then t else c::t
def mp(a:Bytes):Bool:=match ct a with|[]=>false|c::t=>if c=64 then cH t else false
def gY:Nat->List Bytes->Bytes->Option (List Bytes×Bytes)
 |0,b,a=>some (b,aW a)
 |f+1,b,a=>if(aW a).head?=some 64 then(if mp (aW a)then gY f (b++[mn (aW a)]) (bS (aW a))else none)else some (b,aW a)
def vu:Bytes:=[116,121,112,101]
def yz:Bytes:=[107,101,121]
def yC:Bytes:=[116,101,120,116]
def kq(a:Bytes):Bytes:=(a.reverse.dropWhile eT).reverse
def sC(a:Bytes):Bool:=(kq (a.drop 1)).getLast?==some 125
def lD(a:Bytes):Bytes:=if sC a then(kq (a.drop 1)).dropLast else kq (a.drop 1)
def nu(a:Bytes):Option (Bytes×Bytes):=if ct a=yz then(if mp (bS a)then some (mn (bS a),bS (bS a))else none)else some ([],a)
def pA(a:Bytes):Option (Bool×List aj):=
 if(aW a).head?=some 123 then(if sC (aW a)&&decide ((n8 (lD (aW a))).2=0)then some (false,(n8 (lD (aW a))).1)else none)
 else if ct a=yC/\(bS a).all eT=true then some (true,[])else none
def nw(s:Bytes):Option aw:=
 if ct s≠vu then none else
 let b:=bS s
 if cH (ct b)=false then none else
 let c:=bS b
 if ct c≠[61]then none else
 let a:=bS c
 if cH (ct a)=false then none else
 match gY (bS a).length [] (bS a)with
 |none=>none
 |some (yt,e)=>match nu e with
  |none=>none
  |some (k,f)=>match pA f with
   |none=>none
   |some (t,d)=>some ⟨ct b,ct a,yt,k,t,d⟩
def dv:Bytes->List Bytes
 |[]=>[[]]
 |c::t=>if c=10 then []::dv t else match dv t with|[]=>[[c]]|a::b=>(c::a)::b
def n9(s:Bytes):Bool:= !s.all eT&&(aW s).head? !=some 35
def ef:Nat->List aw->List Bytes->List aw×Nat
 |_,a,[]=>(a,0)
 |n,a,s::b=>if n9 s then(match nw s with|some t=>ef (n+1) (a++[t]) b|none=>(a,n+1))else ef (n+1) a b
def mq(s:Bytes):List aw×Nat×Int:=
 if 65536<s.length then([],0,17)else
 if(ef 0 [] (dv s)).2≠0 then([],(ef 0 [] (dv s)).2,12)else
 if bT (ef 0 [] (dv s)).1≠0 then([],0,bT (ef 0 [] (dv s)).1)else((ef 0 [] (dv s)).1,0,0)
def jr(a:Int)(i:Nat)(out p:List aj):List aj:=if i=0 then out++p.map (eH out.length)else out++p.map (eH out.length)++[⟨a,[],(out.length:Int)-1,((out++p.map (eH out.length)).length:Int)-1⟩]
theorem Ks(a:Int)(p:List aj):∀(ps:List (List aj)) (i:Nat) (out:List aj),gM a i out (ps++[p])=jr a (i+ps.length) (gM a i out ps) p:=by
 intro ps;induction ps with
 |nil=>intro i out;rfl
 |cons q t ih=>
  intro i out;simp only[jf,gM,ih,db];congr 1
  omega
theorem Kt(a:Int)(ps:List (List aj))(k:Nat)(p:List aj)(b:ps[k]?=some p):gM a 0 [] (ps.take (k+1))=jr a k (gM a 0 [] (ps.take k)) p:=by have c:=(aL.1 b).1;rw[bV,b,fF,Ks,fm,AV ad,cD]
theorem C0(a:Int)(i:Nat)(out p:List aj):(jr a i out p).length=out.length+p.length+(if i=0 then 0 else 1):=by unfold jr;split<;>simp<;>omega
theorem vw(a:Int):∀(ps:List (List aj)) (i:Nat) (out:List aj),(gM a i out ps).length+(if i=0/\ps≠[]then 1 else 0)=out.length+gA ps+ps.length:=by
 intro ps;induction ps with
 |nil=>intro i out;simp[gM,gA]
 |cons q t ih=>
  intro i out;have:=ih (i+1) (jr a i out q);rw[C0]at this;show(gM a (i+1) (jr a i out q) t).length+_=_
  simp only[gA,gd,iI,db]at this⊢;by_cases b:i=0
  ·subst b;simp at this⊢;omega
  ·simp[b]at this⊢;omega
theorem Ku(ps:List (List aj))(k:Nat):gA (ps.take k)<=gA ps:=by
 have a:gA ps=gA (ps.take k)+gA (ps.drop k):=by
  conv=>lhs;rw[<-mQ k ps]
  unfold gA;rw[iH,List.sum_append]
 omega
theorem Kv(ps:List (List aj))(k:Nat)(p:List aj)(a:ps[k]?=some p):gA (ps.take (k+1))=gA (ps.take k)+p.length:=by rw[bV,a];simp[gA]
def dA(l:List aj):Prop:=∀(i:Nat) (n:aj),l[i]?=some n->0<=n.a/\n.a<=(i:Int)/\0<=n.b/\n.b<=(i:Int)
theorem dA.nil:dA []:=fun i n a=>by simp at a
theorem dA.one(n:aj)(b:n.a=0)(c:n.b=0):dA [n]:=by
 intro i m a;cases i with
 |zero=>simp at a;subst a;simp[b,c]
 |succ i=>simp at a
theorem dA.append{a b:List aj}(d:dA a)(e:∀i n,b[i]?=some n->0<=n.a/\n.a<=((a.length+i:Nat):Int)/\0<=n.b/\n.b<=((a.length+i:Nat):Int)):dA (a++b):=by
 intro i n c;by_cases f:i<a.length
 ·rw[eP f]at c;exact d i n c
 ·rw[fZ ad]at c
  have:=e _ n c;rwa[show a.length+(i-a.length)=i from ad]at this
theorem dA.moved{a p:List aj}(d:dA a)(e:dA p):dA (a++p.map (eH a.length)):=by
 refine d.append fun i n b=> ?_;rw[bW]at b;cases c:p[i]? with
 |none=>rw[c]at b;cases b
 |some m=>
  rw[c]at b;injection b with b
  have:=e i m c;subst b;unfold eH;split
  ·simp only;omega
  ·split
   ·simp only;omega
   ·omega
theorem dA.snoc{a:List aj}(c:dA a)(n:aj)(d:0<=n.a/\n.a<=(a.length:Int))(e:0<=n.b/\n.b<=(a.length:Int)):dA (a++[n]):=by
 refine c.append fun i m b=> ?_;cases i with
 |zero=>simp at b;subst b;simp;omega
 |succ i=>simp at b
theorem Kw{f:Int}{i:Nat}{out p:List aj}(b:dA out)(c:dA p)(e:i≠0->out≠[]):dA (jr f i out p):=by
 unfold jr;split
 ·exact b.moved c
 ·rename_i d
  have:=e d;have g:1<=out.length:=by cases out with|nil=>exact absurd rfl this|cons a t=>simp
  refine(b.moved c).snoc _ ?_ ?_
  ·simp;omega
  ·simp;omega
theorem C3(b:Int):∀(ps:List (List aj)) (i:Nat) (out:List aj),dA out->(i≠0->out≠[])->(∀p∈ps,dA p/\p≠[])->dA (gM b i out ps)/\((ps≠[]∨out≠[])->gM b i out ps≠[]):=by
 intro ps;induction ps with
 |nil=>intro i out c e d;exact⟨c,fun a=>by rcases a with a|a;exact absurd rfl a;exact a⟩
 |cons q t ih=>
  intro i out c e d;have g:=d q (dM ..);have f:jr b i out q≠[]:=by
   intro h;have:=C0 b i out q;rw[h]at this;have:q.length=0:=by simp at this;omega
   exact g.2 (qi this)
  have:=ih (i+1) (jr b i out q) (Kw c g.1 e) (fun _=>f) (fun p a=>d p (dt _ a));exact⟨this.1,fun _=>this.2 (.inr f)⟩
structure dl(l:List aj):Prop where
 ahead:dA l
 ne:l≠[]
 len:l.length<=1024
theorem dl.one(n:aj)(a:n.a=0)(b:n.b=0):dl [n]:=⟨dA.one n a b,ak,ak⟩
theorem dl.fold{d h:Int}{ps:List (List aj)}{l:List aj}(f:∀p∈ps,dl p)(b:dX d h ps=some l):dl l:=by
 unfold dX at b;split at b
 ·injection b with b;subst b;exact dl.one _ rfl rfl
 ·rename_i c
  split at b
  ·cases b
  ·rename_i i
   injection b with b
   have e:=C3 d ps 0 [] dA.nil (fun b=>absurd rfl b) (fun p b=>⟨(f p b).ahead,(f p b).ne⟩);have g:=vw d ps 0 [];subst b;have:1<=ps.length:=by cases ps with|nil=>exact absurd rfl c|cons a t=>simp
   refine⟨e.1,e.2 (.inl c),?_⟩
   ·simp[c]at g;omega
theorem dl.keep{big:Bool}{a:Option (List aj)}(b:∀l,a=some l->dA l/\l≠[]):dl (fD big a).1:=by
 unfold fD;split
 ·exact dl.one _ rfl rfl
 ·split
  ·exact dl.one _ rfl rfl
  ·rename_i l c
   have:=b l rfl;exact⟨this.1,this.2,by simp at c;show l.length<=_;omega⟩
theorem dl.many{l:List aj}(b:dl l):dA (ee l)/\ee l≠[]/\(ee l).length<=1025:=by
 have c:1<=l.length:=by have:=b.ne;cases l with|nil=>exact absurd rfl this|cons a t=>simp
 refine⟨b.ahead.snoc _ ?_ ?_,by simp[ee],by have:=b.len;simp[ee];omega⟩
 ·simp;omega
 ·simp
def kr(l:Bytes)(f:da->eG):Prop:=∀a c b,a.p<=l.length->f a=some (c,b)->a.p<=b.p/\b.p<=l.length/\dl c
theorem oa(l:Bytes)(c:UInt8)(p:Nat)(d:p<=l.length):bU l c p<=l.length/\p<=bU l c p:=by
 have b:=CZ (l.drop p);rw[ln]at b;unfold bU fI kn;split
 ·rename_i a
  by_cases e:p+jM (l.drop p)<l.length
  ·omega
  ·rw[oZ ad]at a;simp at a
 ·omega
theorem Kx(l:Bytes)(q:Nat)(a:q<=l.length):q+(iO l q).length<=l.length:=by
 unfold iO;split
 ·simpa using a
 ·have:=yy (l.drop q)
  unfold iN at this;rw[ln]at this;split
  ·omega
  ·simpa using a
theorem C4{l:Bytes}{E:da->eG}(h:kr l E):kr l (ml l E):=by
 intro n o q j a;have e:=oa l 33 n.p j;have f:=oa l 40 _ e.1;have g:=oa l 41 _ f.1;unfold ml at a;split at a
 ·injection a with a;injection a with b c;subst b;subst c
  exact⟨e.2,e.1,dl.one _ rfl rfl⟩
 ·split at a
  ·split at a
   ·injection a with a;injection a with b c;subst b;subst c
    exact⟨by simp only;omega,g.1,dl.one _ rfl rfl⟩
   ·split at a
    ·cases a
    ·rename_i p st' i
     have d:=h _ _ _ (by exact g.1) i;have m:=oa l 41 st'.p d.2.1;split at a
     ·injection a with a;injection a with b c;subst b;subst c
      exact⟨by have:=d.1;simp only at this⊢;omega,m.1,d.2.2⟩
     ·cases a
  ·split at a
   ·cases a
   ·injection a with a;injection a with b c;subst b;subst c
    have:=Kx l _ f.1;exact⟨by simp only;omega,this,dl.one _ rfl rfl⟩
theorem C5{l:List aj}(b:dl l):∀x,some (ee l)=some x->dA x/\x≠[]:=by intro x a;injection a with a;subst a;exact⟨b.many.1,b.many.2.1⟩
theorem vx{f h:Int}{a b:List aj}(d:dl a)(g:dA b/\b≠[]):∀x,dX f h [a,b]=some x->dA x/\x≠[]:=by
 intro x c;unfold dX at c;rw[au ak]at c;split at c
 ·cases c
 ·injection c with c
  have:=C3 f [a,b] 0 [] dA.nil (fun c=>absurd rfl c) (fun p e=>by simp at e;rcases e with rfl|rfl;exact⟨d.ahead,d.ne⟩;exact g);subst c;exact⟨this.1,this.2 (.inl ak)⟩
theorem Ky(l:Bytes):∀(f:Nat) (b:List aj) (a:da),a.p<=l.length->dl b->a.p<=(kQ l f b a).2.p/\(kQ l f b a).2.p<=l.length/\dl (kQ l f b a).1:=by
 intro f;induction f with
 |zero=>intro b a d c;exact⟨az _,d,c⟩
 |succ f ih=>
  intro b a d c;have e:=oa l 42 a.p d;have g:=oa l 43 _ e.1;have h:=oa l 63 _ g.1;unfold kQ;split
  ·have:=ih (fD a.big (some (ee b))).1 {a with p:=bU l 42 a.p,big:=(fD a.big (some (ee b))).2} e.1 (dl.keep (C5 c))
   exact⟨by have:=this.1;simp only at this;omega,this.2⟩
  ·split
   ·have:=ih (fD a.big (dX 3 1 [b,ee b])).1 {a with p:=bU l 43 (bU l 42 a.p),big:=(fD a.big (dX 3 1 [b,ee b])).2} g.1 (dl.keep (vx c ⟨c.many.1,c.many.2.1⟩))
    exact⟨by have:=this.1;simp only at this;omega,this.2⟩
   ·split
    ·have:=ih (fD a.big (dX 4 0 [b,[dQ]])).1 {a with p:=bU l 63 (bU l 43 (bU l 42 a.p)),big:=(fD a.big (dX 4 0 [b,[dQ]])).2} h.1 (dl.keep (vx c ⟨dA.one _ rfl rfl,ak⟩))
     exact⟨by have:=this.1;simp only at this;omega,this.2⟩
    ·exact⟨by simp only;omega,h.1,c⟩
theorem C6{l:Bytes}{E:da->eG}(d:kr l E):kr l (lC l E):=by
 intro i h j f a;unfold lC at a;split at a
 ·cases a
 ·rename_i g st' e
  have b:=C4 d _ _ _ f e;have c:=Ky l (l.length+1) g st' b.2.1 b.2.2;injection a with a
  rw[a]at c;exact⟨aJ b.1 c.1,c.2⟩
theorem C7{l:Bytes}{part:da->eG}(c:UInt8)(w u:Int)(s:kr l part):∀(f:Nat) (parts:List (List aj)) (d:da) g e,(∀p∈parts,dl p)->d.p<=l.length->gX l c w u part f parts d=some (g,e)->d.p<=e.p/\e.p<=l.length/\dl g:=by
 intro f;induction f with
 |zero=>intro parts d g e n q a;simp[gX]at a
 |succ f ih=>
  intro parts d g e n q a;unfold gX at a;split at a
  ·cases a
  ·rename_i v st' r
   have j:=s _ _ _ q r;have m:=oa l c st'.p j.2.1;have o:∀p∈parts++[v],dl p:=fun p b=>by
    rcases fA.1 b with b|b
    ·exact n p b
    ·simp at b;subst b;exact j.2.2
   split at a
   ·have:=ih _ _ _ _ o (by exact m.1) a
    exact⟨by have:=this.1;simp only at this;omega,this.2⟩
   ·split at a
    ·injection a with a;injection a with h i;subst h;subst i
     exact⟨by simp only;omega,m.1,j.2.2⟩
    ·injection a with a;injection a with h i;subst h;subst i
     exact⟨by simp only;omega,m.1,dl.keep (fun x t=>by have:=dl.fold o t;exact⟨this.ahead,this.ne⟩)⟩
theorem C9{l:Bytes}{E:da->eG}(c:kr l E):kr l (n6 l E):=by intro e d f a b;exact C7 44 3 1 (C6 c) _ _ _ _ _ (fun p a=>by simp at a) a b
theorem Da(l:Bytes):∀n,kr l (n7 l n):=by
 intro n;induction n with
 |zero=>intro d c e _ a;simp[n7]at a
 |succ n ih=>
  intro d c e b a;exact C7 124 4 0 (C9 ih) _ _ _ _ _ (fun p b=>by simp at b) b a
end Go.Proofs.YtnadadbndcdolaaGreatDoor
