import Derived.Test.YtfeidcmojcijpaaGreatDoorQaf
import Derived.Test.YtfeidcmojcijpaaGreatDoorQag
import Derived.Test.YtfeidcmojcijpaaGreatDoorQah
set_option linter.all false
set_option maxRecDepth 100000
set_option maxHeartbeats 0
namespace Go.Proofs.YtfeidcmojcijpaaGreatDoor
open Go.RowKit Tryz
inductive Tr where
 |mk (label text:Bytes) (attrs:List (Bytes×Bytes)) (kids:List Tr)
def Tr.zv:Tr->Bytes| .mk l _ _ _=>l
def Tr.text:Tr->Bytes| .mk _ t _ _=>t
def Tr.zx:Tr->List (Bytes×Bytes)| .mk _ _ a _=>a
def Tr.zs:Tr->List Tr| .mk _ _ _ k=>k
structure dI where
 kind:Int
 name:Bytes
 text:Bytes
def gt(a:Bytes×Bytes):dI:=⟨2,a.1,a.2⟩
mutual
def fV:Tr->List dI
 | .mk label text attrs a=>if label=[]then [⟨3,[],text⟩]else⟨1,label,[]⟩::(attrs.map gt++dQ a++[⟨4,[],[]⟩])
def dQ:List Tr->List dI
 |[]=>[]
 |k::ks=>fV k++dQ ks
end
mutual
def eO:Tr->Nat
 | .mk _ _ _ a=>eX a+1
def eX:List Tr->Nat
 |[]=>0
 |k::ks=>eO k+eX ks
end
mutual
def dh:Tr->Nat
 | .mk _ _ _ a=>ij a+1
def ij:List Tr->Nat
 |[]=>0
 |k::ks=>max (dh k) (ij ks)
end
mutual
def nodesT:Tr->List Tr
 | .mk l t a b=>.mk l t a b::di b
def di:List Tr->List Tr
 |[]=>[]
 |k::ks=>nodesT k++di ks
end
def oF(t:Tr):Int:=if 4096<eO t∨32<dh t then 17 else 0
def nJ(n:Tr):Prop:=n.zv≠[]/\n.text=[]/\bp n.zv=true/\(∀a∈n.zx,bp a.1=true/\∀c∈a.2,48<=c.toNat/\c.toNat<=57)/\eo (n.zx.map Prod.fst)=false
def uA(s:dI):Bool:=decide (s.kind=1)||decide (s.kind=3)
def jz(l:List dI):Nat:=(l.filter uA)
def fw:List dI->Int->Int->Int×Int
 |[],d,m=>(d,m)
 |s::l,d,m=>if s.kind=1 then fw l (d+1) (max m (d+1))else if s.kind=3 then fw l d (max m (d+1))else if s.kind=4 then fw l (d-1) m else fw l d m
def uB(l:List dI):Int:=if 4096<(jz l:Int)∨32<(fw l 0 0).2 then 17 else 0
structure DW(l:List dI):Prop where
 one:∀s∈l,(s.kind<=2->bp s.name=true)/\(∀c∈s.text,48<=c.toNat/\c.toNat<=57)/\s.kind≠3
 two:∀(j:Nat) (a b:dI),l[j]?=some a->l[j+1]?=some b->a.kind=2->b.kind=2->bD b.name a.name=false
def DX t:nodesT t=t::di t.zs:=by cases t;rw[nodesT];rfl
def oG:List dI->Prop
 |a::b::t=>(a.kind=2->b.kind=2->bD b.name a.name=false)/\oG (b::t)
 |_=>True
def Hd(l:List dI):Prop:=∀b r,l=b::r->b.kind≠2
def DY:∀{l},oG l->∀j a b,l[j]?=some a->l[j+1]?=some b->a.kind=2->b.kind=2->bD b.name a.name=false
 |[],_,j,a,b,c,_=>by simp at c
 |[x],_,j,a,b,_,c=>by simp at c
 |x::y::t,c,0,a,b,d,e=>by simp at d e;subst d;subst e;exact c.1
 |x::y::t,c,j+1,a,b,d,e=>DY (l:=y::t) c.2 j a b (by simpa using d) (by simpa using e)
def xp:∀{x y},oG x->oG y->Hd y->oG (x++y)
 |[],y,_,c,_=>c
 |[a],[],_,_,_=>trivial
 |[a],b::y,_,c,d=>⟨fun _ e=>absurd e (d b y rfl),c⟩
 |a::b::x,y,c,f,d=>⟨c.1,xp (x:=b::x) c.2 f d⟩
def DZ:∀l9:List (Bytes×Bytes),eo (l9.map Prod.fst)=false->oG (l9.map gt)
 |[],_=>trivial
 |[a],_=>trivial
 |a::b::t,c=>by simp only[dZ]at c;rw[eo,Bool.or_eq_false_iff]at c;exact⟨fun _ _=>c.1,DZ (b::t) c.2⟩
def D0{x y}(c:Hd x)(d:Hd y):Hd (x++y):=fun b r e=>by
 cases x with
 |nil=>exact d b r e
 |cons a x=>exact c b x (by injection e with e _;rw[e])
def uC a b:jz (a++b)=jz a+jz b:=by unfold jz;simp
def Ls(l9:List (Bytes×Bytes)):jz (l9.map gt)=0:=by
 induction l9 with
 |nil=>rfl
 |cons a t ih=>
  unfold jz at ih⊢;rw[dZ,List.filter_cons_of_neg (by simp[uA,gt]),ih]
def py:∀a b d m,fw (a++b) d m=fw b (fw a d m).1 (fw a d m).2
 |[],_,_,_=>rfl
 |s::a,b,d,m=>by
  have c:∀x:List dI,fw (s::x) d m=if s.kind=1 then fw x (d+1) (max m (d+1))else if s.kind=3 then fw x d (max m (d+1))else if s.kind=4 then fw x (d-1) m else fw x d m:=fun x=>by rw[fw]
  rw[jK,c,c];split;exact py a b _ _;split;exact py a b _ _;split;exact py a b _ _;exact py a b _ _
def Lt(l9:List (Bytes×Bytes))(d m:Int):fw (l9.map gt) d m=(d,m):=by
 induction l9 with
 |nil=>rfl
 |cons a t ih=>rw[dZ];unfold fw;simp[gt];exact ih
def uD(b:List Tr)(s:dI):Prop:=s=⟨4,[],[]⟩∨∃n∈b,s=⟨1,n.zv,[]⟩∨∃a∈n.zx,s=gt a
def uD.zz{c b:List Tr}{s:dI}(a:uD c s)(e:∀n∈c,n∈b):uD b s:=a.imp id fun⟨n,d,a⟩=>⟨n,e n d,a⟩
def D1:∀n,(∀t,SizeOf.sizeOf t<=n->(∀m∈nodesT t,nJ m)->(∀s∈fV t,uD (nodesT t) s)/\oG (fV t)/\Hd (fV t)/\jz (fV t)=eO t/\∀d m,fw (fV t) d m=(d,max m (d+dh t)))/\
 (∀ks,SizeOf.sizeOf ks<=n->(∀m∈di ks,nJ m)->(∀s∈dQ ks,uD (di ks) s)/\oG (dQ ks)/\Hd (dQ ks)/\jz (dQ ks)=eX ks/\∀d m,fw (dQ ks) d m=(d,if ks=[]then m else max m (d+ij ks))):=by
 intro n;induction n with
 |zero=>
  refine⟨fun t j=> ?_,fun ks g=> ?_⟩;cases t;simp at j
  cases ks<;>simp at g
 |succ n ih=>
  refine⟨fun t j h=> ?_,fun ks g h=> ?_⟩;obtain⟨l,x,a,k⟩:=t;obtain⟨F,_,_,_,G⟩:=h (.mk l x a k) (by rw[nodesT];simp);obtain⟨J,K,M,N,O⟩:=ih.2 k (by simp at j;omega) fun m f=>h m (by rw[nodesT];simp[f]);rw[fV,ap (show¬l=[]from F)];have i:(dI.mk 1 l []::(a.map gt++dQ k++[dI.mk 4 [] []]))=[dI.mk 1 l []]++(a.map gt++(dQ k++[dI.mk 4 [] []])):=aj;rw[i];refine⟨fun s c=> ?_,?_,fun b r e=>(by injection e with e _;rw[<-e];simp),?_,fun d m=> ?_⟩;simp only[dk,pm,dL]at c;rcases c with rfl|⟨y,I,rfl⟩|c|rfl
  exact .inr ⟨.mk l x a k,by rw[nodesT];simp,.inl rfl⟩;exact .inr ⟨.mk l x a k,by rw[nodesT];simp,.inr ⟨y,I,rfl⟩⟩;exact(J s c).zz fun m f=>by rw[nodesT];simp[f]
  exact .inl rfl;have H:oG (dQ k++[⟨4,[],[]⟩]):=xp K trivial fun b r e=>by injection e with e _;rw[<-e];decide
  have p:=xp (DZ a G) H (D0 M fun b r e=>by injection e with e _;rw[<-e];decide);generalize a.map gt++(dQ k++[⟨4,[],[]⟩])=r at p;cases r with
  |nil=>trivial
  |cons b r=>exact⟨fun e=>absurd e aj,p⟩
  rw[uC,uC,uC,Ls,N,eO];have D:jz [⟨1,l,[]⟩]=1:=by rfl
  have E:jz [(⟨4,[],[]⟩:dI)]=0:=by rfl
  rw[D,E];omega;rw[dh,<-i,fw,au rfl,qF,py,Lt,py,O];simp only[fw];rw[ap aq,ap aq,au trivial];by_cases g:k=[];subst g;rw[au rfl];simp[ij];rw[ap g];simp only[ww];omega;cases ks with
  |nil=>exact⟨fun s c=>(by rw[dQ]at c;cases c),trivial,fun b r e=>(by rw[dQ]at e;cases e),rfl,fun d m=>rfl⟩
  |cons k ks=>
   obtain⟨a1,q,u,v,w⟩:=ih.1 k (by simp at g;omega) fun m f=>h m (by rw[di];simp[f]);obtain⟨z,A,o,B,C⟩:=ih.2 ks (by simp at g;omega) fun m f=>h m (by rw[di];simp[f]);have i:ij (k::ks)=max (dh k) (ij ks):=by rw[ij]
   rw[dQ];refine⟨fun s c=> ?_,xp q A o,D0 u o,by rw[eX,uC,v,B],fun d m=> ?_⟩;rcases dk.1 c with c|c
   exact(a1 s c).zz fun m f=>by rw[di];simp[f]
   exact(z s c).zz fun m f=>by rw[di];simp[f]
   rw[py,w,C,i];by_cases e:ks=[];subst e;simp[ij];rw[ap e,ap aj];refine Prod.ext rfl ?_;show max (max m (d+dh k)) (d+ij ks)=max m (d+max (dh k) (ij ks))
   omega
def Lu{t}(b:∀m∈nodesT t,nJ m):DW (fV t)/\uB (fV t)=oF t:=by
 obtain⟨h,i,_,j,l⟩:=(D1 _).1 t (ay _) b;refine⟨⟨fun s o=> ?_,DY i⟩,?_⟩;rcases h s o with rfl|⟨n,f,rfl|⟨a,g,rfl⟩⟩
 exact⟨fun e=>absurd e aq,fun c d=>(by cases d),aq⟩;exact⟨fun _=>(b n f).2.2.1,fun c d=>(by cases d),aj⟩;exact⟨fun _=>((b n f).2.2.2.1 a g).1,((b n f).2.2.2.1 a g).2,by simp[gt]⟩;unfold uB oF;rw[j,l];have p:1<=dh t:=by cases t;rw[dh];omega
 have:(4096<((eO t:Nat):Int)∨32<(((0:Int),max (0:Int) (0+(dh t:Nat))):Int×Int).2)↔(4096<eO t∨32<dh t):=by simp only;omega
 omega
def symAt(l:List ax)(p:Nat):Bytes:=match l[p]? with|some n=>n.sym|none=>[]
def sI{l p n}(a:l[p]?=some n):symAt l p=n.sym:=by unfold symAt;rw[a]
def lw(ts:List aB)(x:aB)(a:Bytes):Option Nat:=(kidsS ts x).find? (fun j=>labelAt ts j==a)
def uJ(ts:List aB)(k:Nat):Bytes:=match ts[k]? with|some t=>t.name|none=>[]
def sJ(l9:List (Bytes×Bytes))(n:Bytes):Option Bytes:=(l9.find? (fun a=>a.1==n)).map Prod.snd
def An(key:Bytes)(ks:List Tr):List Bytes:=if key=[]then []else ks.filterMap (fun k=>sJ k.zx key)
def kO(ts:List aB)(x:aB)(ks:List Tr):List Bytes:=ks.map fun k=>uJ ts ((lw ts x k.zv).getD 0)
def MatchS(l:List ax)(ws:List Bytes):Prop:=PRegex.MW (symAt l) (trN l (l-1)) ws
mutual
def pH (ts:List aB):Nat->Tr->Prop
 |at_,.mk label _ attrs a=>∃x,ts[at_]?=some x/\label=x.zv/\attrs.map Prod.fst=x.zx/\
   (if x.text=true then(a=[]∨∃k,a=[k]/\k.zv=[])else qW ts x a/\(An x.key a).Nodup/\MatchS x.E (kO ts x a))
def qW (ts:List aB) (x:aB):List Tr->Prop
 |[]=>True
 |k::ks=>(∃j,lw ts x k.zv=some j/\pH ts j k)/\qW ts x ks
end
def Ao{ts:List aB}{x:aB}:∀{ks:List Tr},qW ts x ks↔∀k∈ks,∃j,lw ts x k.zv=some j/\pH ts j k
 |[]=>by simp[qW]
 |k::ks=>by simp only[qW,Ao (ks:=ks),bX,forall_eq_or_imp]
def Ap{ts at_ x}(c:ts[at_]?=some x) t:pH ts at_ t↔t.zv=x.zv/\t.zx.map Prod.fst=x.zx/\
 (if x.text=true then(t.zs=[]∨∃k,t.zs=[k]/\k.zv=[])else qW ts x t.zs/\(An x.key t.zs).Nodup/\MatchS x.E (kO ts x t.zs)):=by
 obtain⟨l,e,a,k⟩:=t;unfold pH;constructor;rintro⟨y,d,b⟩;rw[c]at d;cases d;exact b;intro b;exact⟨x,c,b⟩
def Mm{ts x ks}{i:Nat}{k}(b:ks[i]?=some k)(a:¬∃j,lw ts x k.zv=some j/\pH ts j k):¬qW ts x ks:=by rw[Ao];exact fun H=>a (H k (aK b))
def Mn{ts x}{ks:List Tr}{i k}(a:ks[i]?=some k):kO ts x (ks.take (i+1))=kO ts x (ks.take i)++[uJ ts ((lw ts x k.zv).getD 0)]:=by unfold kO;rw[bH,a,gL];rfl
def gu(c:UInt8):Bool:=ll c.toNat
def sM(c:UInt8):Bool:=jN c.toNat
def kP(l:Bytes):Nat:=(l.takeWhile gu)
def jP(l:Bytes):Nat:=(l.takeWhile sM)
def EC l:kP l<=l:=by unfold kP;exact(zJ _).length_le
def Au l:jP l<=l:=by unfold jP;exact(zJ _).length_le
def Mt(l:Bytes):l.take (jP l)=l.takeWhile sM:=by
 unfold jP;induction l with
 |nil=>rfl
 |cons c t ih=>
  by_cases a:sM c=true;rw[wK (by omega)];simp[ih];rw[wL (by omega)];rfl
structure fa where
 p:Nat
 long:Bool
 big:Bool
abbrev iB:=Option (List ax×fa)
def lx(l:Bytes)(p:Nat):Nat:=p+kP (l.drop p)
def gD(l:Bytes)(c:UInt8)(p:Nat):Bool:=l[lx l p]?==c
def cr(l:Bytes)(c:UInt8)(p:Nat):Nat:=if gD l c p then lx l p+1 else lx l p
def oJ:ax:=⟨0,[],0,0⟩
def mb:ax:=⟨1,[],0,0⟩
def fY(c:Nat)(n:ax):ax:=if n.op=3∨n.op=4 then{n with a:=n.a+c,b:=n.b+c}else if n.op=5 then{n with a:=n.a+c}else n
def jf(a:Int):Nat->List ax->List (List ax)->List ax
 |_,out,[]=>out
 |i,out,p::ps=>jf a (i+1) (if i=0 then out++p.map (fY out)else out++p.map (fY out)++[⟨a,[],out-1,(out++p.map (fY out)).length-1⟩]) ps
def iK(parts:List (List ax)):Nat:=(parts.map List.length).sum
def fI(b a:Int)(parts:List (List ax)):Option (List ax):=
 if parts=[]then some [⟨a,[],0,0⟩]else if 1024<parts-1+iK parts then none else(jf b 0 [] parts)
def gw(big:Bool)(r:Option (List ax)):List ax×Bool:=
 match r with
 |none=>([oJ],true)
 |some l=>if big=true∨1024<l.length then([oJ],true)else(l,false)
def gU(l:List ax):List ax:=l++[⟨5,[],l-1,0⟩]
def jg(l:Bytes)(c:UInt8)(e d:Int)(part:fa->iB):Nat->List (List ax)->fa->iB
 |0,_,_=>none
 |f+1,parts,st=>
  match part st with
  |none=>none
  |some (b,a)=>
   if gD l c a.p then jg l c e d part f (parts++[b]) {a with p:=cr l c a.p}
   else if parts=[]then(b,{a with p:=cr l c a.p})
   else some ((gw a.big (fI e d (parts++[b]))).1,{p:=cr l c a.p,long:=a.long,big:=(gw a.big (fI e d (parts++[b]))).2})
def mc(l:Bytes):Nat->List ax->fa->List ax×fa
 |0,a,st=>(a,st)
 |f+1,a,st=>
  if gD l 42 st.p then mc l f (gw st.big ((gU a))).1 {st with p:=cr l 42 st.p,big:=(gw st.big ((gU a))).2}
  else if gD l 43 (cr l 42 st.p)then mc l f (gw st.big (fI 3 1 [a,gU a])).1 {st with p:=cr l 43 (cr l 42 st.p),big:=(gw st.big (fI 3 1 [a,gU a])).2}
  else if gD l 63 (cr l 43 (cr l 42 st.p))then mc l f (gw st.big (fI 4 0 [a,[mb]])).1 {st with p:=cr l 63 (cr l 43 (cr l 42 st.p)),big:=(gw st.big (fI 4 0 [a,[mb]])).2}
  else(a,{st with p:=cr l 63 (cr l 43 (cr l 42 st.p))})
def jQ(l:Bytes)(q:Nat):Bytes:=
 match l[q]? with
 |none=>[]
 |some x=>if bp [x]then(l.drop q).takeWhile sM else []
def nN(l:Bytes)(E:fa->iB)(st:fa):iB:=
 if gD l 33 st.p then([oJ],{st with p:=cr l 33 st.p})
 else if gD l 40 (cr l 33 st.p)then
  (if gD l 41 (cr l 40 (cr l 33 st.p))then([mb],{st with p:=cr l 41 (cr l 40 (cr l 33 st.p))})
   else match E {st with p:=cr l 41 (cr l 40 (cr l 33 st.p))}with
    |none=>none
    |some (b,a)=>if gD l 41 a.p then(b,{a with p:=cr l 41 a.p})else none)
 else if jQ l (cr l 40 (cr l 33 st.p))=[]then none
 else some ([⟨2,jQ l (cr l 40 (cr l 33 st.p)),0,0⟩],{p:=cr l 40 (cr l 33 st.p)+(jQ l (cr l 40 (cr l 33 st.p))),long:=st.long|| !bp (jQ l (cr l 40 (cr l 33 st.p))),big:=st.big})
def mY(l:Bytes)(E:fa->iB)(st:fa):iB:=
 match nN l E st with
 |none=>none
 |some (a,b)=>(mc l (l+1) a b)
def pI(l:Bytes)(E:fa->iB)(st:fa):iB:=jg l 44 3 1 (mY l E) (l+1) [] st
def pJ(l:Bytes):Nat->fa->iB
 |0,_=>none
 |n+1,st=>jg l 124 4 0 (pI l (pJ l n)) (l+1) [] st
def pK(l:Bytes):List ax×Int:=
 if 65536<l.length then([],17)else
 match pJ l (l+1) ⟨0,false,false⟩with
 |none=>([],12)
 |some (a,st)=>if lx l st.p<l then([],12)else if st.long then([],11)else if st.big then([],17)else(a,0)
def bh(r:Bytes):Bytes:=r.dropWhile gu
def jR(c:UInt8):Bool:= !(gu c||c==123)
def db(r:Bytes):Bytes:=(bh r).takeWhile jR
def ce(r:Bytes):Bytes:=(bh r).dropWhile jR
def nO(r:Bytes):Bytes:=match db r with|[]=>[]|c::t=>if c=64 then t else c::t
def nQ(r:Bytes):Bool:=match db r with|[]=>false|c::t=>if c=64 then bp t else false
def jh:Nat->List Bytes->Bytes->Option (List Bytes×Bytes)
 |0,a,r=>(a,bh r)
 |f+1,a,r=>if(bh r).head?=some 64 then(if nQ (bh r)then jh f (a++[nO (bh r)]) (ce (bh r))else none)else(a,bh r)
def xG:Bytes:=[116,121,112,101]
def Av:Bytes:=[107,101,121]
def Aw:Bytes:=[116,101,120,116]
def ly(r:Bytes):Bytes:=(r.reverse.dropWhile gu).reverse
def uK(r:Bytes):Bool:=(ly (r.drop 1)).getLast?==some 125
def mZ(r:Bytes):Bytes:=if uK r then(ly (r.drop 1)).dropLast else ly (r.drop 1)
def oK(r:Bytes):Option (Bytes×Bytes):=if db r=Av then(if nQ (ce r)then(nO (ce r),ce (ce r))else none)else some ([],r)
def qX(r:Bytes):Option (Bool×List ax):=
 if(bh r).head?=some 123 then(if uK (bh r)&&decide ((pK (mZ (bh r))).2=0)then(false,(pK (mZ (bh r))).1)else none)
 else if db r=Aw/\(ce r).all gu=true then some (true,[])else none
def oL(s:Bytes):Option aB:=
 if db s≠xG then none else
 let b:=ce s
 if bp (db b)=false then none else
 let c:=ce b
 if db c≠[61]then none else
 let a:=ce c
 if bp (db a)=false then none else
 match jh (ce a).length [] (ce a)with
 |none=>none
 |some (l9,e)=>match oK e with
  |none=>none
  |some (k,f)=>match qX f with
   |none=>none
   |some (t,d)=>some ⟨db b,db a,l9,k,t,d⟩
def dW:Bytes->List Bytes
 |[]=>[[]]
 |c::t=>if c=10 then []::dW t else match dW t with|[]=>[[c]]|a::r=>(c::a)::r
def pL(s:Bytes):Bool:= !s.all gu&&(bh s).head? !=some 35
def fd:Nat->List aB->List Bytes->List aB×Nat
 |_,a,[]=>(a,0)
 |n,a,s::r=>if pL s then(match oL s with|some t=>fd (n+1) (a++[t]) r|none=>(a,n+1))else fd (n+1) a r
def nR(s:Bytes):List aB×Nat×Int:=
 if 65536<s.length then([],0,17)else
 if(fd 0 [] (dW s)).2≠0 then([],(fd 0 [] (dW s)).2,12)else
 if bY (fd 0 [] (dW s)).1≠0 then([],0,bY (fd 0 [] (dW s)).1)else((fd 0 [] (dW s)).1,0,0)
structure aZ(b:Nat)(w w':World):Prop where
 os:w'.os=w.os
 tape:w'.tape=w.tape
 output:w'.output=w.output
 size:w.heap.size<=w'.heap.size
 J:∀k,k<w.heap.size->k≠b->w'.heap[k]?=w.heap[k]?
def aZ.refl(b:Nat)(w:World):aZ b w w:=⟨rfl,rfl,rfl,ay _,fun _ _ _=>rfl⟩
def aZ.Z{b:Nat}{a c d:World}(e:aZ b a c)(k:aZ b c d):aZ b a d:=
 ⟨k.os.Z e.os,k.tape.Z e.tape,k.output.Z e.output,aW e.size k.size,fun i g f=>(k.J i (eU g e.size) f).Z (e.J i g f)⟩
def aZ.of{b:Nat}{w w':World}(a:Below w.heap.size w w'):aZ b w w':=⟨a.os,a.tape,a.output,a.size,fun k c _=>a.J k c⟩
def aZ.O{b c:Nat}{w w':World}(a:aZ b w w')(d:c<=b)(f:c<=w.heap.size):Below c w w':=
 ⟨a.os,a.tape,a.output,a.size,fun k e=>a.J k ad ad⟩
def aZ.alloc{b:Nat}{a w:World}(c:aZ b a w)(o:Obj):aZ b a (w.alloc o):=c.Z (aZ.of aP)
def aZ.drew{b:Nat}{a w:World}(c:aZ b a w):aZ b a w.drew:=c.Z (aZ.of (aA _ _).drew)
def aZ.setCell{b:Nat}{a w:World}(c:aZ b a w)(o:Nat)(v:Value):aZ b a (w.setCell ⟨b,o,none⟩ v):=
 c.Z ⟨rfl,rfl,rfl,by simp,fun k e d=>gq _ _ _ _ d⟩
def aZ.drewN{b:Nat}{w:World}(n:Nat):aZ b w (w.drewN n):=⟨rfl,rfl,rfl,ay _,fun _ _ _=>rfl⟩
def aZ.grownBy{b:Nat}{w w':World}(a:aZ b w w'):w.grownBy w' (some b):=
 ⟨a.os,a.tape,a.output,a.size,fun k d c=>a.J k d (fun e=>c (by rw[e]))⟩
def cC(w:World)(b:Nat)(doc:ByteArray)(p:Nat)(lo bi:Bool):Prop:=w.heap[b]?=some (.cells #[.string doc,.int .i64 p,lo,bi] 278 (0,0))
section
variable{w w':World} {b p:Nat} {doc:ByteArray} {lo bi:Bool}
def cC.lt(a:cC w b doc p lo bi):b<w.heap.size:=aS a
def cC.cDoc(a:cC w b doc p lo bi):w.cell? ⟨b,0,none⟩=some (.string doc):=bj w b 0 _ _ _ a
def cC.cPos(a:cC w b doc p lo bi):w.cell? ⟨b,1,none⟩=some (.int .i64 p):=bj w b 1 _ _ _ a
def cC.cLo(a:cC w b doc p lo bi):w.cell? ⟨b,2,none⟩=some (.bool lo):=bj w b 2 _ _ _ a
def cC.cBi(a:cC w b doc p lo bi):w.cell? ⟨b,3,none⟩=some (.bool bi):=bj w b 3 _ _ _ a
def cC.free(a:cC w b doc p lo bi)(o:Nat):w.frozen? ⟨b,o,none⟩=false:=by unfold cC at a;simp[World.frozen?,a]
def cC.O(a:cC w b doc p lo bi)(c:Below w.heap.size w w'):cC w' b doc p lo bi:=(c.J b a.lt).Z a
def cC.drew(a:cC w b doc p lo bi):cC w.drew b doc p lo bi:=a
def Ax(a:cC w b doc p lo bi) o v:(w.setCell ⟨b,o,none⟩ v).heap[b]?=some (.cells ((#[.string doc,.int .i64 p,lo,bi]:Array Value).setIfInBounds o v) 278 (0,0)):=by
 have c:=a.lt;have d:w.heap[b]=.cells #[.string doc,.int .i64 p,.bool lo,.bool bi] 278 (0,0):=by unfold cC at a;simpa[pl c]using a
 show(w.heap.modify b _)[b]?=_
 rw[pl (by simpa using c),zD,d];rfl
def cC.set(a:cC w b doc p lo bi)(q:Nat)(v:Value)(hv:v=.int .i64 q):cC (w.setCell ⟨b,1,none⟩ v) b doc q lo bi:=by subst hv;exact Ax a 1 _
def cC.setLo(a:cC w b doc p lo bi)(x:Bool):cC (w.setCell ⟨b,2,none⟩ (.bool x)) b doc p x bi:=Ax a 2 _
def cC.setBi(a:cC w b doc p lo bi)(x:Bool):cC (w.setCell ⟨b,3,none⟩ (.bool x)) b doc p lo x:=Ax a 3 _
end
def EM(doc:ByteArray) p h:(doc.extract p (p+1)).data.toList=[doc[p]]:=by
 rw[Dc,Kx];have a:p<doc.data.toList:=by rw[<-eJ];exact h
 rw[mT a];rfl
def EN(doc:ByteArray) p h:doc.data.toList.drop p=doc[p]::doc.data.toList.drop (p+1):=by
 have a:p<doc.data.toList:=by rw[<-eJ];exact h
 rw[mT a];rfl
def EO(doc:ByteArray) p(a:doc.size<=p):doc.data.toList.drop p=[]:=se (by rw[<-eJ];exact a)
def EP(doc:ByteArray) p(a:p<doc.size):doc.data.toList[p]?=doc[p]:=by
 have b:p<doc.data.toList:=by rw[<-eJ];exact a
 rw[cV b];rfl
def Ay(doc:ByteArray) p(a:doc.size<=p):doc.data.toList[p]?=none:=jL (by rw[<-eJ];exact a)
def sN b p doc lo bi w(s:cC w b doc p lo bi)(G:p<=doc.size)(J:doc.size<=65536):
 dB 191 #[b] w fun e w'=>(∃v,e=.returned v)/\cC w' b doc (lx doc.data.toList p) lo bi/\aZ b w w':=by
 have r:=s.cPos;unfold lx
 go_in
 go_wp2_with fail
 clear r;go_loopg [] (doc.size-p) (fun k wr=>∃q,p<=q/\q<=doc.size/\k=doc.size-q/\cC wr b doc q lo bi/\aZ b w wr/\Hid (kP (doc.data.toList.drop p)=(q-p)+kP (doc.data.toList.drop q)))
 case atStart=>exact⟨p,ay _,G,rfl,s,aZ.refl _ _,by show _=_;omega⟩
 case round=>
  obtain⟨q,N,O,rfl,d,x,n⟩:=hrel;have I:=d.cDoc;have r:=d.cPos;have K:=d.free 1;by_cases j:q<doc.size
  ·have hcut:∀l,(Instr.slice 9 (.string doc) (some (.int .i64 q)) (some (.int .i64 (q+1))) none).run prog l=.ok (.string (doc.extract q (q+1))) l:=fun l=>xj doc q (q+1) ad ad l
   have o:=EM doc q j;have B:(doc.extract q (q+1)).size<=9223372036854775807:=by rw[ByteArray.size_extract];omega
   generalize doc.extract q (q+1)=t at hcut o B;have D:=ah o;clear o;have H:IntKind.i64.wrap (q+1)=q+1:=ox _ ad;have F:=bC j;go_wp2_with fail
   go_still_tail 25,az
   have u:=d.drew;have z:=x.drew;change wpList _ _ _ _ _ wr.drew;generalize wr.drew=P at u z;go_wp2_with fail
   refine ar (Ad t _ B) ?_;intro Q A;rw[D.o];have c:=u.O A;have y:=z.Z (aZ.of A);have i:=EN doc q j;cases g:ll (doc[q].toNat:Nat)with
   |true=>
    have h:iZ ll [doc[q]]=true:=by unfold iZ;simp[g]
    have a:kP (doc.data.toList.drop q)=1+kP (doc.data.toList.drop (q+1)):=by rw[i];unfold kP;rw[wK (by assumption)];simp;omega
    have C:=ah a;rw[h];have E:=c.cPos;have M:=c.free 1;clear a i g h
    go_wp2
    go_roundg(doc.size-(q+1))
    case rel=>exact⟨_,ad,ad,rfl,c.set _ _ aD,y.setCell _ _,by have:=n.out;have:=C.o;show _=_;omega⟩
    case measure=>omega
   |false=>
    have h:iZ ll [doc[q]]=false:=by unfold iZ;simp[g]
    have a:kP (doc.data.toList.drop q)=0:=by rw[i];unfold kP;rw[wL (by simp[gu,g])];rfl
    have f:kP (doc.data.toList.drop p)=q-p:=aQ n.out;have m:=ah f;rw[h];have E:=c.cPos;clear a i g h f
    go_wp2
    go_end0
    rw[m.o,show p+(q-p)=q from ad];exact⟨⟨_,rfl⟩,c,y⟩
  have F:=bG j;have a:kP (doc.data.toList.drop q)=0:=by rw[EO doc q ad];rfl
  have f:kP (doc.data.toList.drop p)=q-p:=aQ n.out;have m:=ah f;clear a f
  go_wp2
  go_quiet(fail)
  go_wp2
  go_end0
  rw[m.o,show p+(q-p)=q from ad];exact⟨⟨_,rfl⟩,d,x.Z (aZ.drewN _)⟩
def Az(a:ByteArray) p(b:p<=a.size):lx a.data.toList p<=a.size/\p<=lx a.data.toList p:=by have:=EC (a.data.toList.drop p);rw[lV,<-eJ]at this;unfold lx;omega
def pN(a:ByteArray) c p(b:p<=a.size):cr a.data.toList c p<=a.size/\p<=cr a.data.toList c p/\(gD a.data.toList c p=true->p<cr a.data.toList c p):=by have d:=Az a p b;unfold cr gD;by_cases e:lx a.data.toList p<a.size;split<;>simp_all<;>omega;rw[Ay a _ ad];simp;omega
def pO c(n:Int)(E:n=c.toNat) b p doc lo bi w(z:cC w b doc p lo bi)(t:p<=doc.size)(A:doc.size<=65536):
 de 258 #[b,.int .u8 n] w (.bool (gD doc.data.toList c p)) fun w'=>cC w' b doc (cr doc.data.toList c p) lo bi/\aZ b w w':=by
 subst E;obtain⟨G,d⟩:=am (gD doc.data.toList c p);obtain⟨P,a⟩:=am (cr doc.data.toList c p);have C:=Az doc p t;have r:=sN b p doc lo bi;rw[<-d,<-a];unfold cr at a;unfold gD at d a;have⟨q,g⟩:=am (lx doc.data.toList p);rw[<-g]at d a C r;have h:=r w z t A;clear r;by_cases D:q<doc.size
 ·rw[EP doc q D]at d a
  have B:(q==(doc.size:Int))=false:=fU;have H:(0:Int)<=q:=ad;have I:(q:Int)<doc.size:=ad;by_cases i:doc[q]=c
  ·have F:((doc[q]).toNat !=(c.toNat:Int))=false:=by rw[i];simp
   rw[i]at d a;simp only[Ky,ix]at d a;have⟨l,j,s⟩:=bm d a g;clear d a g i
   go_in
   go_wp2_with fail
   apply h.zz;rintro e w1 ⟨⟨v,rfl⟩,f,m⟩;clear h;have u:=f.cDoc;have x:=f.cPos;have J:=f.free 1
   go_wp2
   go_quiet(fail)
   go_wp2
   go_ret;rw[l.o,j.o];exact⟨rfl,cC.set f _ _ aD,(m.Z (aZ.drewN _)).setCell _ _⟩
  ·have F:((((doc[q]).toNat:Nat):Int) !=((c.toNat:Nat):Int))=true:=by
    rw[ka];intro y;exact i (wM.1 (by exact_mod_cast y))
   have o:((some doc[q]:Option UInt8)==some c)=false:=by simpa using i
   rw[o]at d a;simp only[iW,iy]at a;have⟨l,j,s⟩:=bm d a g;clear d a g i o
   go_in
   go_wp2_with fail
   apply h.zz;rintro e w1 ⟨⟨v,rfl⟩,f,m⟩;clear h;have u:=f.cDoc;have x:=f.cPos
   go_wp2
   go_quiet(fail)
   go_wp2
   go_ret;rw[l.o,j.o];exact⟨rfl,f,m.Z (aZ.drewN _)⟩
 ·rw[Ay doc q ad]at d a
  have B:(q==(doc.size:Int))=true:=qQ;have o:(none==some c)=false:=aj;rw[o]at d a;simp only[iW,iy]at a;have⟨l,j,s⟩:=bm d a g;clear d a g o
  go_in
  go_wp2_with fail
  apply h.zz;rintro e w1 ⟨⟨v,rfl⟩,f,m⟩;clear h;have u:=f.cDoc;have x:=f.cPos
  go_wp2
  go_quiet(fail)
  go_wp2
  go_ret;rw[l.o,j.o];exact⟨rfl,f,m.Z (aZ.drewN _)⟩
def MB c w:de 287 #[.int .u8 c] w (.bool (jN c)) fun w'=>w=w':=by
 rcases(ad:c<45∨c=45∨c=46∨c=47∨(48<=c/\c<=57)∨(57<c/\c<65)∨(65<=c/\c<=90)∨(90<c/\c<95)∨c=95∨c=96∨(97<=c/\c<=122)∨122<c)with a|rfl|rfl|rfl|⟨a,b⟩|⟨a,b⟩|⟨a,b⟩|⟨a,b⟩|rfl|rfl|⟨a,b⟩|a
 all_goals
  go_in
  go_wp2
  go_ret;exact⟨bJ (by unfold jN lk px;rw[ft];simp<;>omega),rfl⟩
def EQ c v(a:jN c=v) w:de 287 #[.int .u8 c] w v fun w'=>w'=w:=
 (MB c w).zz fun e w' ⟨b,d⟩=>⟨by rw[b,a],d.zy⟩
def ER(a:ByteArray) p h:jQ a.data.toList p=if bp [a[p]]then(a.data.toList.drop p).takeWhile sM else []:=by unfold jQ;rw[EP a p h]
def ES(a:ByteArray) p(b:a.size<=p):jQ a.data.toList p=[]:=by unfold jQ;rw[Ay a p b]
def MC(a:ByteArray) p:(jQ a.data.toList p)<=a.size-p:=by by_cases b:p<a.size;rw[ER a p b];have:=Au (a.data.toList.drop p);rw[lV,<-eJ]at this;unfold jP at this;split;exact this;simp;rw[ES a p ad];simp
def MD b p doc lo bi w(f:cC w b doc p lo bi)(V:p<=doc.size)(S:doc.size<=65536):
 de 285 #[b] w (.string ⟨(jQ doc.data.toList p)⟩) fun w'=>cC w' b doc (p+(jQ doc.data.toList p)) lo bi/\aZ b w w':=by
 have E:=f.cDoc;have F:=f.cPos;have⟨W,a⟩:=am (jQ doc.data.toList p);rw[<-a];by_cases H:p<doc.size
 ·rw[ER doc p H]at a
  have hcut:∀c,(Instr.slice 9 (.string doc) (some (.int .i64 p)) (some (.int .i64 (p+1))) none).run prog c=.ok (.string (doc.extract p (p+1))) c:=fun c=>xj doc p (p+1) ad ad c;have i:=EM doc p H;have I:(doc.extract p (p+1)).size<=9223372036854775807:=by rw[ByteArray.size_extract];omega
  generalize doc.extract p (p+1)=t at hcut i I;have d:=fun w=>oD t w I;rw[i]at d;have P:(p==(doc.size:Int))=false:=fU;cases o:bp [doc[p]]with
  |false=>
   rw[o]at d a;simp only[iW,iy]at a;have⟨l,K⟩:=aC a i;clear a i o
   go_in
   go_wp2_with fail
   refine ar (d _) ?_;intro w1 h;clear d
   go_wp2
   go_ret;rw[l.o];exact⟨rfl,f.O h,aZ.of h⟩
  |true=>
   rw[o,au rfl]at a;rw[o]at d;have B:p+W.length<=doc.size:=by have:=Au (doc.data.toList.drop p);rw[lV,<-eJ]at this;unfold jP at this;rw[a];omega
   have G:W=(doc.data.toList.drop p).take W.length:=by have:=Mt (doc.data.toList.drop p);unfold jP at this;rw[<-a]at this;exact this.zy
   have⟨l,D,K⟩:=bm a G i;clear a i o G
   go_in
   go_wp2_with fail
   refine ar (d _) ?_;intro w1 h;clear d;have M:=f.O h;have N:aZ b w w1:=aZ.of h;clear E F f h
   go_wp2
   go_loopg [] (doc.size-p) (fun k wr=>∃q,p<=q/\q<=doc.size/\k=doc.size-q/\cC wr b doc q lo bi/\aZ b w wr/\Hid (W=(q-p)+jP (doc.data.toList.drop q)))
   case atStart=>exact⟨p,ay _,ad,rfl,M,N,by have:=l.o;show _=_;rw[this];unfold jP;omega⟩
   case round=>
    obtain⟨q,X,Y,rfl,g,y,x⟩:=hrel;have E:=g.cDoc;have F:=g.cPos;have T:=g.free 1;by_cases A:q<doc.size
    ·have O:=bC A
     have Q:(0:Int)<=q:=ad;have R:(q:Int)<doc.size:=ad;have r:=EN doc q A;cases n:jN (doc[q].toNat:Nat)with
     |true=>
      have e:jP (doc.data.toList.drop q)=1+jP (doc.data.toList.drop (q+1)):=by rw[r];unfold jP;rw[wK (by assumption)];simp;omega
      have⟨J,s⟩:=aC e n;clear e r n hcut B
      go_wp2
      go_quiet((go_at_call 287;exact zI (EQ _ _ s.o _)))
      go_wp2
      go_roundg(doc.size-(q+1))
      case rel=>exact⟨_,ad,ad,rfl,cC.set g _ _ aD,(y.Z (aZ.drewN _)).setCell _ _,by have:=x.out;have:=J.o;show _=_;omega⟩
      case measure=>omega
     |false=>
      have e:jP (doc.data.toList.drop q)=0:=by rw[r];unfold jP;rw[wL (by simp[sM,n])];rfl
      have m:W=q-p:=aQ x.out;have⟨j,s⟩:=aC m n;have z:=fun c=>xj doc p q ad ad c;generalize hteq:doc.extract p q=u at z;have v:=ah hteq;clear e r n m hcut hteq B
      go_wp2
      go_quiet((go_at_call 287;exact zI (EQ _ _ s.o _)))
      go_wp2
      go_quiet(fail)
      go_wp2
      go_ret;have C:u=⟨W.toArray⟩:=by rw[<-v.o];apply zK;apply lW;rw[Dc,D.o,j.o]
      rw[C,j.o,show p+(q-p)=q from ad];exact⟨rfl,g,(y.Z (aZ.drewN _)).Z (aZ.drewN _)⟩
    have O:=bG A;have e:jP (doc.data.toList.drop q)=0:=by rw[EO doc q ad];rfl
    have m:W=q-p:=aQ x.out;have j:=ah m;have z:=fun c=>xj doc p q ad ad c;generalize hteq:doc.extract p q=u at z;have v:=ah hteq;clear e m hcut hteq B
    go_wp2
    go_quiet(fail)
    go_wp2
    go_quiet(fail)
    go_wp2
    go_ret;have C:u=⟨W.toArray⟩:=by rw[<-v.o];apply zK;apply lW;rw[Dc,D.o,j.o]
    rw[C,j.o,show p+(q-p)=q from ad];exact⟨rfl,g,(y.Z (aZ.drewN _)).Z (aZ.drewN _)⟩
 rw[ES doc p ad]at a;have P:(p==(doc.size:Int))=true:=qQ;have l:=ah a;clear a
 go_in
 go_wp2
 go_ret;rw[l.o];exact⟨rfl,f,aZ.refl _ _⟩
def xJ(n:ax):Value:=.agg (nodeRow n)
def sO w o o':aR w ((w.alloc o).alloc o'):=aP.alloc aj _
def ME n k w(i:0<=n.a/\n.a<=65536)(j:0<=n.b/\n.b<=65536)(u:k<=65536):
 cX 275 #[xJ n,.int .i64 (k:Nat)] w (xJ (fY k n)):=by
 obtain⟨d,sym,a,b⟩:=n;simp only at i j;obtain⟨m,c⟩:=am (fY k ⟨d,sym,a,b⟩);rw[<-c];unfold fY at c;simp only at c;unfold xJ nodeRow;simp only;obtain⟨q,r⟩:=i;obtain⟨s,t⟩:=j;by_cases f:d=3;subst f;rw[au (.inl rfl)]at c;have e:=ah c;clear c
 go_in
 go_wp2_with fail
 exact cQ (v:=.agg #[.int .i64 3,sym,.int .i64 (a+k),.int .i64 (b+k)]) (by simp[results,go_sem]) rfl ⟨by rw[e.o],sO _ _ _⟩;by_cases g:d=4;subst g;rw[au (.inr rfl)]at c;have e:=ah c;clear c f
 go_in
 go_wp2_with fail
 exact cQ (v:=.agg #[.int .i64 4,sym,.int .i64 (a+k),.int .i64 (b+k)]) (by simp[results,go_sem]) rfl ⟨by rw[e.o],sO _ _ _⟩;rw[ap ad]at c;by_cases h:d=5;subst h;rw[au rfl]at c;have e:=ah c;clear c f g
 go_in
 go_wp2_with fail
 exact cQ (v:=.agg #[.int .i64 5,sym,.int .i64 (a+k),b]) (by simp[results,go_sem]) rfl ⟨by rw[e.o],sO _ _ _⟩;rw[ap h]at c;have e:=ah c;have l:(d==3)=false:=by rw[dF];exact f
 have o:(d==4)=false:=by rw[dF];exact g
 have p:(d==5)=false:=by rw[dF];exact h
 clear c f g h
 go_in
 go_wp2_with fail
 exact cQ (v:=.agg #[d,sym,a,b]) (by simp[results,go_sem]) rfl ⟨by rw[e.o],sO _ _ _⟩
def AA:(prog.info? 104).map (fun i=>(i.zero,i.size,i.bytes))=some (some (.agg #[.int .i64 0,.string ⟨#[]⟩,.int .i64 0,.int .i64 0]),4,40):=az
def dg(w:World)(a:Nat)(v:Value)(l:List ax):Prop:=w.ownsRow a 104 4 v l (l.flatMap nodeRow)
def xK(l:List ax):(l.flatMap nodeRow)=l.length*4:=by
 induction l with
 |nil=>rfl
 |cons n t ih=>rw[tZ,ck,ih,ef];show 4+_=_;omega
def dR{w:World}{base size n e v xs}(a:w.ownsRow base e size v n xs):∃o c,v=.slice o n c:=by
 rcases a.2 with⟨e,b⟩|⟨g,cap,d,hv,_⟩
 exact⟨_,0,by rw[b];exact e⟩;exact⟨_,_,hv⟩
def lB{w:World}{B B' size n e v xs}(a:w.ownsRow B e size v n xs)(d:B'<=B):w.ownsRow B' e size v n xs:=by
 refine⟨a.1,?_⟩;rcases a.2 with c|⟨g,cap,b,hv,f,rest⟩
 exact .inl c;exact .inr ⟨g,cap,b,hv,ad,rest⟩
def sP{w:World}{B size n e v xs}(a:w.ownsRow B e size v n xs)(l:0<n):∃g c,v=.slice (some ⟨g,0,none⟩) n c/\B<=g/\g<w/\n<=c/\c<=maxLen:=by
 rcases a.2 with⟨_,j⟩|⟨g,cap,i,hv,f,h,b,d,_⟩
 omega;exact⟨g,cap,hv,f,aS h,b,d⟩
def AB{w B v l}(d:dg w B v l):∃o c,v=.slice o l c/\dv w o c l:=by
 obtain⟨o,c,rfl⟩:=dR d;refine⟨o,c,rfl,?_⟩;by_cases x:l.length=0;obtain rfl:=pp x;rcases d.2 with⟨e,f⟩|⟨g,cap,z,hv,p,D,m,n,A,C⟩
 injection e with a h b
 subst a;subst b;exact⟨rfl,ay _,aH _,fun f=>absurd f (tY 0)⟩;injection hv with a h b
 subst a;subst b;exact⟨rfl,m,n,fun f=>absurd f (tY 0)⟩;obtain⟨g,y,hv,p,r,t,q⟩:=sP d ad;injection hv with a h b
 subst a;subst b;refine⟨xK l,t,q,fun _=>⟨g,0,rfl,r,fun j u i=> ?_⟩⟩;have s:j<l.length*4:=by rw[<-xK];exact(aF.1 i).1
 rw[cH];exact(zH d j s).Z i
def eq(w:World)(xs:List Value)(t n:Nat)(e:n=w):∀j u,xs[j]?=some u->(w.alloc (.cells xs t)).cell? ((n:Addr).add j)=some u:=by
 intro j u d;subst e;have c:=bj (cT w xs t) _ j _ _ _ (aN w _);have b:(⟨w.heap.size,0,none⟩:Addr).add j=⟨w.heap.size,j,none⟩:=by by_cases a:j=0;subst a;rfl;simp[Addr.add,a]
 rw[b,c];simpa using d
def MF n:∀u∈nodeRow n,u.oneCell'=true:=by intro u a;unfold nodeRow at a;simp at a;rcases a with rfl|rfl|rfl|rfl<;>rfl
def ET{w w':World}{o row}(a:(w.alloc o).grownBy w' row):w.grownBy w' row:=
 (kf w o row).Z a
def AC(w:World) n B(a:B<=w.heap.size):dg (cT w (nodeRow n) 104) B (.slice w 1 1) [n]:=by refine⟨by rfl,.inr ⟨_,1,_,rfl,a,aN w _,ay _,bO,by rfl,by rfl⟩⟩
def AE{w B v l n}(a:w.ownsRow B 104 4 v (l.length+1) (l.flatMap nodeRow++nodeRow n)):dg w B v (l++[n]):=by unfold dg;rw[ck,qA];simpa using a
def EU a l v w(b:dg w a v l)(u:a<=w)(x:l.length<=1048576)(y:1<=l.length):
 dB 277 #[v] w fun e w'=>∃h,e=.returned h/\dg w' a h (gU l)/\w.grownBy w' v.ownBlock:=by
 obtain⟨o,c,rfl⟩:=dR b;obtain⟨s,m,p,q,r⟩:=cZ AA;have d:gU l=l++[⟨5,[],l-1,0⟩]:=rfl;rw[d];have f:(nodeRow ⟨5,[],l-1,0⟩)=[.int .i64 5,.string ⟨#[]⟩,.int .i64 (l-1),.int .i64 0]:=rfl;have i:=ah f;clear d f;unfold dg at b
 go_in
 go_wp2_with(first
  |(at_builtin;go_must (apply iV _ rfl _ _ 50 rfl a 104 s _ 4 40 zL m p q r rfl aq _ _ _ rfl (dp b _) _ 1 1 [.int .i64 5,.string ⟨_⟩,.int .i64 (l-1),.int .i64 0] rfl rfl (eq _ [.int .i64 5,.string ⟨_⟩,.int .i64 (l-1),.int .i64 0] _ _ rfl) (fun z g=>by simp at g;rcases g with rfl|rfl|rfl|rfl<;>rfl) bO ad aO);intro t B n j A)
  |go_in)
 go_ret;refine⟨t,rfl,AE (i.o▸n),ET j⟩
def MG l B v w(b:dg w B v l)(R:l.length<=1048576)(S:1<=l.length):
 dB 278 #[v] w fun e w'=>∃q,e=.returned q/\dg w' w q l/\aR w w':=by
 obtain⟨g,c,rfl,O,Q,T,P⟩:=sP b ad;have f:∀j u,(l.flatMap nodeRow)[j]?=some u->(w.alloc (.cells #[] 104)).cell? ((⟨g,0,none⟩:Addr).add j)=some u:=by
  intro j u p;have C:j<l.length*4:=by rw[<-xK];exact(aF.1 p).1
  have y:(⟨g,0,none⟩:Addr).add j=⟨g,j,none⟩:=by by_cases o:j=0;subst o;rfl;simp[Addr.add,o]
  rw[y];exact Lib.cell?_alloc_some _ ((zH b j C).Z p)
 have i:∀u∈l.flatMap nodeRow,u.oneCell'=true:=by intro u G;obtain⟨n,_,E⟩:=sh.1 G;exact MF n u E
 have⟨K,A,H,I,J⟩:=cZ AA;have h:=xK l;have W:∀w a n c n' d,(binOp .eql 50 (.slice a n c) (.slice none n' d)).run _ w=.ok a.isNone w:=fun w a n c n' d=>Kz w _ _ a n c n' d zL;have N:Aside (dg w B (.slice g l c) l):=b;have⟨xs,m⟩:=am (l.flatMap nodeRow);rw[<-m]at f i h;have⟨x,s,r,t⟩:=dE m h f i;clear b m h f i
 go_in
 go_wp2_with(first
  |(at_builtin;go_must (refine iV _ rfl _ _ 50 rfl _ 104 K _ 4 40 zL A H I J rfl aq _ _ _ rfl (KF w _ 0 (ay _) (aH _) rfl) _ _ c xs rfl s.o r.o t.o bO ad aj ?_);intro M X F z V)
  |go_in)
 go_ret;refine⟨M,rfl,?_,?_⟩;unfold dg;rw[<-x.o];simpa using F;exact aP.zu z aj (by intro k D;cases D;simp)
section
open PRegex
def F7{l}(e:d9 0 l=true):∀i,i<l.length->∀p,(trN l i).zl p=true->∃n,l[p]?=some n/\n.op=2:=by
 intro i;induction i using Nat.strongRecOn with
 |_ i ih=>
 intro o p a;obtain⟨n,d⟩:=aT o;have f:=iA l 0 i n e d;rw[cH]at f;have c:=nL f;rw[mX e d]at a;unfold eP at a;split at a;cases a
 split at a;rename_i g;simp[PT.zl]at a;subst a;exact⟨n,d,g⟩;split at a;rename_i h;have b:bQ n=[n.a.toNat,n.b.toNat]:=by unfold bQ;rw[au (.inl h)]
 simp only[PT.zl,dA]at a;rcases a with a|a
 have:=c n.a.toNat (by rw[b];simp);exact ih _ this ad p a;have:=c n.b.toNat (by rw[b];simp);exact ih _ this ad p a;split at a;rename_i j;have b:bQ n=[n.a.toNat,n.b.toNat]:=by unfold bQ;rw[au (.inr j)]
 simp only[PT.zl,dA]at a;rcases a with a|a
 have:=c n.a.toNat (by rw[b];simp);exact ih _ this ad p a;have:=c n.b.toNat (by rw[b];simp);exact ih _ this ad p a;split at a;rename_i m;have b:bQ n=[n.a.toNat]:=by unfold bQ;rw[ap ad,au m]
 have:=c n.a.toNat (by rw[b];simp);exact ih _ this ad p a;cases a
def oP(l:List ax)(x:Bytes):Nat->List Nat->Nat
 |a,[]=>a
 |a,p::ps=>oP l x (if symAt l p=x then a|||dO l p else a) ps
def tg(l:List ax)(m:Nat):List Bytes->Nat
 |[]=>m
 |x::ws=>tg l (oP l x 0 (aG m)) ws
def kw(l:List ax)(m:Nat):Prop:=m<18446744073709551616/\∀p,m.testBit p=true->∃n,l[p]?=some n/\n.op=2
def vg{l}(hF:eG l)(d:l.length<=60):kw l (dt (trN l (l-1))):=by
 have e:=hF.ne;have f:0<l.length:=by cases l with|nil=>exact absurd rfl e|cons a b=>simp
 refine⟨?_,fun p c=> ?_⟩;have g:=Ex hF (i:=l-1) ad;have:2^l.length<=2^60:=rZ aq d;have:2^60<=18446744073709551616:=aq;omega;rw[lr]at c;exact F7 hF.ok _ ad p (starts_inn _ c)
def yr{l}(hF:eG l)(f:l.length<=60){p n}(b:l[p]?=some n)(h:n.op=2):kw l (dO l p):=by
 have j:=(aF.1 b).1;have d:=uH hF b h;have c:∀q,(dO l p).testBit q=true->∃n,l[q]?=some n/\n.op=2:=fun q a=>by rw[d]at a;exact F7 hF.ok _ ad q (pairs_inn _ a).2
 refine⟨?_,c⟩;have i:dO l p<2^l.length:=Kw _ fun q a=>by
  cases e:(dO l p).testBit q with
  |false=>rfl
  |true=>obtain⟨n,g,_⟩:=c q e;have:=(aF.1 g).1;omega
 have:2^l.length<=2^60:=rZ aq f;have:2^60<=18446744073709551616:=aq;omega
def P5{l a b}(c:kw l a)(d:kw l b):kw l (a|||b):=
 ⟨C2 (n:=64) c.1 d.1,fun p e=>by rw[qz,dA]at e;exact e.elim (c.2 p) (d.2 p)⟩
def P6 l:kw l 0:=⟨aq,fun p a=>by simp at a⟩
def F8{l}(hF:eG l)(c:l.length<=60) x:∀ps a,kw l a->(∀p∈ps,∃n,l[p]?=some n/\n.op=2)->kw l (oP l x a ps)
 |[],a,b,_=>b
 |p::ps,a,b,d=>by unfold oP;refine F8 hF c x ps _ ?_ (fun q g=>d q (dM _ g));split;obtain⟨n,e,f⟩:=d p (eV ..);exact P5 b (yr hF c e f);exact b
def Bo{l m}(a:kw l m):∀p∈aG m,∃n,l[p]?=some n/\n.op=2:=fun p b=>a.2 p ((pw a.1).1 b)
def F9{l}(hF:eG l)(b:l.length<=60){m}(a:kw l m) x:kw l (oP l x 0 (aG m)):=F8 hF b x _ _ (P6 l) (Bo a)
def Ga{l}(hF:eG l)(b:l.length<=60):∀ws m,kw l m->kw l (tg l m ws)
 |[],m,a=>a
 |x::ws,m,a=>Ga hF b ws _ (F9 hF b a x)
def Gb{l}(hF:eG l)(c:l.length<=60) x q:∀ps a,(∀p∈ps,∃n,l[p]?=some n/\n.op=2)->((oP l x a ps).testBit q=true↔a.testBit q=true∨∃p∈ps,symAt l p=x/\(trN l (l-1)).zr p q=true)
 |[],a,_=>by simp[oP]
 |p::ps,a,b=>by unfold oP;rw[Gb hF c x q ps _ (fun r g=>b r (dM _ g))];obtain⟨n,d,f⟩:=b p (eV ..);by_cases e:symAt l p=x;rw[au e,qz,dA,uH hF d f];simp[e,or_assoc];rw[ap e];simp[e]
def Gc{l}(hF:eG l)(d:l.length<=60) q:∀ws m,kw l m->((tg l m ws).testBit q=true↔pF (symAt l) (trN l (l-1)) (fun p=>m.testBit p=true) ws q)
 |[],m,a=>Iff.rfl
 |x::ws,m,a=>by
  unfold tg pF;rw[Gc hF d q ws _ (F9 hF d a x)];have:(fun p=>(oP l x 0 (aG m)).testBit p=true)=fun q=>∃p,m.testBit p=true/\symAt l p=x/\(trN l (l.length-1)).zr p q=true:=by
   funext q
   apply propext;rw[Gb hF d x q _ _ (Bo a)];simp only[KU,iW,false_or];constructor;rintro⟨p,e,b,c⟩;exact⟨p,(pw a.1).1 e,b,c⟩;rintro⟨p,e,b,c⟩;exact⟨p,(pw a.1).2 e,b,c⟩
  rw[this]
def yt(l:List ax)(ws:List Bytes):Bool:=
 match ws.getLast? with
 |none=>(trN l (l-1)).null
 |some x=>(aG (tg l (dt (trN l (l-1))) ws.dropLast)).any fun p=>symAt l p==x&&(eH (trN l (l-1))).testBit p
def Gd{l}(hF:eG l)(c:l.length<=60) ws:yt l ws=true↔MatchS l ws:=by
 have m:=hF.ne;have n:0<l.length:=by cases l with|nil=>exact absurd rfl m|cons a b=>simp
 unfold yt MatchS;cases ws with
 |nil=>simp[MW_nil]
 |cons y ws=>
  have h:(y::ws).getLast?=((y::ws).getLast aj):=List.getLast?_eq_some_getLast aj;rw[h,Ew _ _ (uI hF ad).1 _ aj,h];simp only[jx,cM,nE,lu];have f:=fun q=>Gc hF c q (y::ws).dropLast _ (vg hF c);have i:=Ga hF c (y::ws).dropLast _ (vg hF c);have j:(fun p=>(dt (trN l (l.length-1))).testBit p=true)=fun q=>(trN l (l.length-1)).zq q=true:=by funext q;rw[lr]
  rw[j]at f;constructor;rintro⟨p,g,d,e⟩;exact⟨p,(f p).1 ((pw i.1).1 g),by rw[d],e⟩;rintro⟨p,g,d,e⟩;exact⟨p,(pw i.1).2 ((f p).2 g),by injection d,e⟩
end
end Go.Proofs.YtfeidcmojcijpaaGreatDoor
