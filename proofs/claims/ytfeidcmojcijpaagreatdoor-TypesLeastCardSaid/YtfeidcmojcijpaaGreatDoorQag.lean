import Derived.Test.YtfeidcmojcijpaaGreatDoorQac
set_option linter.all false
set_option maxRecDepth 100000
set_option maxHeartbeats 0
namespace Go.Proofs.YtfeidcmojcijpaaGreatDoor
open Go.RowKit Tryz
def aG(m:Nat):List Nat:=(List.range 64).filter m.testBit
def La{p p' c}(l:p c=true)(d:∀j,j<c->p j=false)(m:p' c=false)(f:∀j,j≠c->p' j=p j):∀n,c<n->(List.range n).filter p=c::(List.range n).filter p':=by
 intro n;induction n with
 |zero=>intro g;omega
 |succ n ih=>
  intro g;rw[tW,pk,pk];by_cases e:n=c;subst e;have h:(List.range n).filter p=[]:=by rw[C0];intro a b;rw[d a (eT.1 b)];simp
  have i:(List.range n).filter p'=[]:=by rw[C0];intro a b;have:=eT.1 b;rw[f a ad,d a this];simp
  rw[h,i];simp[l,m];rw[ih ad];have:=f n e;simp[tX,this]
def z8{m}(l:m≠0)(v:m<18446744073709551616):Lib.ctz 64 m<64/\m.testBit (Lib.ctz 64 m)=true/\(∀j,j<Lib.ctz 64 m->m.testBit j=false)/\∀j,(m&&&(m-1)).testBit j=(m.testBit j&&decide (j≠Lib.ctz 64 m)):=by
 have g:Lib.ctz 64 m=Lib.ctzFrom 64 m:=by unfold Lib.ctz;rw[ap l]
 have⟨q,b,e⟩:=Lib.ctzFrom_spec 64 m ad ad;rw[<-g]at b e;generalize Lib.ctz 64 m=c at b e⊢;have u:=Nat.two_pow_pos c;have a:∀j,m.testBit j=if j<c then false else(2*q+1).testBit (j-c):=fun j=>by have:=Wr (2*q+1) u j;rw[rY,<-b]at this;rw[this];split<;>simp
 have r:m-1=2^c*(2*q)+(2^c-1):=by rw[b,Nat.mul_add,wj];omega
 have s:∀j,(m-1).testBit j=if j<c then(2^c-1).testBit j else(2*q).testBit (j-c):=fun j=>by rw[r];exact Wr _ ad j
 have t:(2*q+1).testBit 0=true:=by rw[Nat.testBit_zero];simp
 have n:(2*q).testBit 0=false:=by rw[Nat.testBit_zero];simp
 refine⟨e,by rw[a,ap (tY _),qy];exact t,fun j o=>by rw[a,au o],fun j=> ?_⟩;rw[oh,s];by_cases d:j<c;rw[a,au d];simp;rw[ap d];by_cases f:j=c;subst f;rw[qy,n];simp;rw[a,ap d];obtain⟨k,p⟩:∃k,j-c=k+1:=⟨j-c-1,ad⟩;rw[p,Nat.testBit_succ,Nat.testBit_succ];have h:(2*q+1)/2=q:=ad;have i:(2*q)/2=q:=ad;rw[h,i];simp[f]
def DM{m}(c:m≠0)(b:m<18446744073709551616):aG m=Lib.ctz 64 m::aG (m&&&(m-1)):=by obtain⟨d,e,f,a⟩:=z8 c b;unfold aG;exact La e f (by rw[a];simp) (fun j g=>by rw[a];simp[g]) 64 d
def qL:aG 0=[]:=by unfold aG;rw[C0];intro a _;simp
def pw{m i}(a:m<18446744073709551616):i∈aG m↔m.testBit i=true:=by
 unfold aG;rw[jJ,eT];constructor;simp;intro e;refine⟨?_,e⟩;apply dU;intro b;have:m<2^i:=eU a (by have:2^64<=2^i:=rZ aq ad;omega)
 rw[C1 this]at e;cases e
def kJ(m i:Nat):Nat:=m|||2^i
def Lb{m i}(b:m<18446744073709551616)(a:i<64):kJ m i<18446744073709551616:=by unfold kJ;have:2^i<2^64:=Kh aq a;exact C2 (by omega) this
def Lc m i j:(kJ m i).testBit j=(m.testBit j||decide (i=j)):=by unfold kJ;rw[qz,Nat.testBit_two_pow]
def Ld{i:Nat}(c:i<64):IntKind.u64.wrap (1*2^min (i:Int).toNat 64)=(2^i:Nat):=by have a:min (i:Int).toNat 64=i:=ad;have b:2^i<2^64:=Kh aq c;rw[a,Int.one_mul];rw[show(2^i)=((2^i:Nat):Int) by simp];generalize 2^i=q at b;exact IntWalk.u64_in _ ad
def Le{m i:Nat}(c:m<18446744073709551616)(d:i<64):(bits .and .u64 ((m:Int).fdiv (2^min (i:Int).toNat 64)) 1==1)=m.testBit i:=by
 have a:min (i:Int).toNat 64=i:=ad;rw[a,show(2^i)=((2^i:Nat):Int) by simp];have b:(m:Int).fdiv ((2^i:Nat):Int)=((m/2^i:Nat):Int):=by generalize 2^i=q;rw[Int.fdiv_eq_ediv_of_nonneg _ ad];rfl
 rw[b,show 1=((1:Nat):Int)from rfl,C3 _ _ (Ki (Nat.div_le_self _ _) c) aq];rw[Nat.testBit_eq_decide_div_mod_eq,Nat.and_one_is_mod];by_cases e:m/2^i % 2=1;simp[e];have:m/2^i % 2=0:=ad;simp[this]
def xk i:(2^i)=((2^i:Nat):Int):=aj
def Lf{m i:Nat}(e:m<18446744073709551616)(d:i<64):(bits .and .u64 (m/2^i) 1==1)=m.testBit i:=by
 have a:=Le e d;have b:min (i:Int).toNat 64=i:=ad;rw[b,xk]at a;rw[xk,<-a];have c:(m:Int).fdiv ((2^i:Nat):Int)=(m:Int)/((2^i:Nat):Int):=by generalize 2^i=q;rw[Int.fdiv_eq_ediv_of_nonneg _ ad]
 rw[c]
def DN{i}(c:i<64):IntKind.u64.wrap (2^i)=2^i:=by have a:=Ld c;have b:min (i:Int).toNat 64=i:=ad;rw[b,Int.one_mul]at a;assumption
def DO{m i:Nat}(b:m<18446744073709551616)(a:i<64):bits .or .u64 m (2^i)=kJ m i:=by rw[xk];exact Kj m _ b (by have:2^i<2^64:=Kh aq a;omega)
section
variable{α:Type}
def swapL(L:List α)(i j:Nat):List α:=match L[i]?,L[j]? with|some a,some b=>(L.set i b).set j a|_,_=>L
def oT(L:List α) i j:(swapL L i j)=L.length:=by unfold swapL;split<;>simp
def rI{L i j}{a b:α}(e:L[i]?=a)(f:L[j]?=b) k:
 (swapL L i j)[k]?=if k=j then some a else if k=i then b else L[k]?:=by
 have g:=(aF.1 e).1;have h:=(aF.1 f).1;unfold swapL;rw[e,f];simp only[List.getElem?_set,l6];by_cases c:k=j;subst c;simp[h];by_cases d:k=i;subst d;simp[g,c,mQ c];simp[c,d,mQ c,mQ d]
def tk(L:List α) i j:(swapL L i j).Perm L:=by
 unfold swapL;split
 ·rename_i a b c d
  obtain⟨e,rfl⟩:=aF.1 c;obtain⟨f,rfl⟩:=aF.1 d;have:=Array.swap_perm (xs:=L.toArray) (by simpa using e) (by simpa using f);have:=Array.perm_iff_toList_perm.1 this;simpa[Array.swap]using this
 rfl
structure p9(lt:α->α->Bool):Prop where
 asymm:∀a b,lt a b=true->lt b a=false
 Z:∀a b c,lt a b=false->lt b c=false->lt a c=false
def gx(lt:α->α->Bool)(L:List α)(n:Nat):Prop:=∀k x y,0<k->k<n->L[k]?=some x->L[(k-1)/2]?=some y->lt x y=false
def rJ(lt:α->α->Bool)(L:List α)(j:Nat):Prop:=
 (∀k x y,0<k->k<L.length->k≠j->L[k]?=some x->L[(k-1)/2]?=some y->lt x y=false)/\
 ∀k x y,0<k->k<L.length->0<j->(k-1)/2=j->L[k]?=some x->L[(j-1)/2]?=some y->lt x y=false
def QS{lt L}{x:α}(g:gx lt L L):rJ lt (L++[x]) L:=by constructor;intro k a b f c h d e;simp at c;rw[eC ad]at d e;exact g k a b f ad d e;intro k a b f c h i d e;simp at c;omega
def QT{lt}{L:List α}(a:rJ lt L 0):gx lt L L:=fun k x y b c d e=>a.1 k x y b c ad d e
def QU{lt L j}{a b:α}(f:rJ lt L j)(i:L[j]?=a)(l:L[(j-1)/2]?=b)(m:lt a b=false):gx lt L L:=by
 intro k x y g h c d;by_cases e:k=j;subst e;rw[i]at c;rw[l]at d;injection c with c;injection d with d
 subst c;subst d;exact m;exact f.1 k x y g h e c d
def QV{lt}(o:p9 lt){L j}{a b:α}(g:rJ lt L j)(w:0<j)(s:L[j]?=a)(i:L[(j-1)/2]?=b)(z:lt a b=true):rJ lt (swapL L ((j-1)/2) j) ((j-1)/2):=by
 have t:=o.asymm _ _ z;have A:=(aF.1 s).1;have q:=rI i s;have u:(j-1)/2≠j:=ad;constructor;intro k x y h f n d c;rw[oT]at f;rw[q]at d c;by_cases e:k=j;subst e;rw[au rfl]at d;rw[ap u,au rfl]at c;injection d with d;injection c with c
 subst d;subst c;exact t;rw[ap e,ap n]at d;by_cases l:(k-1)/2=j;rw[au l]at c;cases c
 exact g.2 k _ _ h f w l d i;rw[ap l]at c;by_cases m:(k-1)/2=(j-1)/2;rw[au m]at c;cases c
 have p:=g.1 k x b h f e d (by rw[m];exact i);exact o.Z _ _ _ p t;rw[ap m]at c;exact g.1 k x y h f e d c;intro k x y h f n v d c;rw[oT]at f;rw[q]at d c;rw[ap ad,ap ad]at c;have r:=g.1 _ b y n ad u i c;by_cases e:k=j;subst e;rw[au rfl]at d;cases d
 exact r;rw[ap e,ap ad]at d;have p:=g.1 k x b h f e d (by rw[v];exact i);exact o.Z _ _ _ p r
def qb(lt:α->α->Bool)(L:List α)(n i:Nat):Prop:=
 (∀k x y,0<k->k<n->(k-1)/2≠i->L[k]?=some x->L[(k-1)/2]?=some y->lt x y=false)/\
 ∀k x y,0<k->k<n->0<i->(k-1)/2=i->L[k]?=some x->L[(i-1)/2]?=some y->lt x y=false
def QW{lt}(o:p9 lt){L:List α}{n}(f:gx lt L n)(i:∀a,lt a a=false):∀k x y,k<n->n<=L->L[k]?=some x->L[0]?=some y->lt x y=false:=by
 intro k;induction k using Nat.strongRecOn with
 |_ k ih=>
  intro x y g h d b;by_cases e:k=0;subst e;rw[d]at b;cases b
  exact i _;have c:(k-1)/2<L:=ad;exact o.Z _ _ _ (f k x _ ad g d (cV c)) (ih _ ad _ y ad h (cV c) b)
def QX{lt}{L:List α}{n}(f:gx lt L (n+1))(h:n<L):qb lt (swapL L 0 n) n 0:=by constructor;intro k x y c g d a b;have e:L[0]?=(L[0]'ad):=cV _;rw[rI e (cV h)]at a b;rw[ap ad,ap ad]at a;rw[ap ad,ap d]at b;exact f k x y c ad a b;intro k x y c g d;omega
def QY{lt}{L:List α}{n i}(a:qb lt L n i)(f:n<=2*i+1):gx lt L n:=fun k x y b c d e=>a.1 k x y b c ad d e
def qc(lt:α->α->Bool)(L:List α)(n i j:Nat):Prop:=(j=2*i+1∨j=2*i+2)/\j<n/\∀k x y,0<k->k<n->(k-1)/2=i->L[k]?=some x->L[j]?=some y->lt x y=false
def BD{lt}(o:p9 lt){L n i j}{a b:α}(h:qb lt L n i)(q:qc lt L n i j)(m:L[j]?=a)(p:L[i]?=b)(r:lt a b=false):gx lt L n:=by
 intro k x y d f g c;by_cases e:(k-1)/2=i;have l:=q.2.2 k x a d f e g m;rw[e,p]at c;cases c
 exact o.Z _ _ _ l r;exact h.1 k x y d f e g c
def BE{lt}(o:p9 lt){L n i j}{a b:α}(p:qb lt L n i)(w:qc lt L n i j)(l:L[j]?=a)(u:L[i]?=b)(B:lt a b=true):qb lt (swapL L i j) n j:=by
 have v:=o.asymm _ _ B;obtain⟨C,A,z⟩:=w;have q:(j-1)/2=i:=ad;have r:=rI u l;constructor;intro k x y f h s c d;rw[r]at c d;rw[ap s]at d;by_cases e:k=j;subst e;rw[au rfl]at c;rw[au q]at d;injection c with c;injection d with d
 subst c;subst d;exact v;rw[ap e]at c;by_cases g:(k-1)/2=i;rw[ap ad]at c;rw[au g]at d;cases d
 exact z k x _ f h g c l;rw[ap g]at d;by_cases m:k=i;rw[au m]at c;injection c with c
 subst c m;exact p.2 j _ y ad A f q l d;rw[ap m]at c;exact p.1 k x y f h g c d;intro k x y f h s t c d;rw[r]at c d;rw[q,ap ad,au rfl]at d;cases d
 rw[ap ad,ap ad]at c;exact p.1 k x _ f h ad c (t▸l)
def QZ{lt}(d:∀a,lt a a=false){L:List α}{n i}(c:2*i+1<n)(f:¬2*i+2<n):qc lt L n i (2*i+1):=
 ⟨.inl rfl,c,fun k x y g h j e b=>by
   have:k=2*i+1:=ad;subst this;rw[e]at b;cases b
   exact d _⟩
def Q0{lt}(j:∀a,lt a a=false){L n i}{a b:α}(l:2*i+2<n)(f:L[2*i+2]?=a)(g:L[2*i+1]?=b)(h:lt a b=false):qc lt L n i (2*i+1):=
 ⟨.inl rfl,ad,fun k x y m o p d c=>by
   rcases(show k=2*i+1∨k=2*i+2 by omega)with e|e
   subst e;rw[d]at c;cases c
   exact j _;subst e;rw[f]at d;rw[g]at c;injection d with d;injection c with c
   subst d;subst c;exact h⟩
def Q1{lt}(o:p9 lt)(l:∀a,lt a a=false){L n i}{a b:α}(f:2*i+2<n)(g:L[2*i+2]?=a)(h:L[2*i+1]?=b)(j:lt a b=true):qc lt L n i (2*i+2):=
 ⟨.inr rfl,f,fun k x y m p q d c=>by
   rcases(show k=2*i+1∨k=2*i+2 by omega)with e|e
   subst e;rw[h]at d;rw[g]at c;injection d with d;injection c with c
   subst d;subst c;exact o.asymm _ _ j;subst e;rw[d]at c;cases c
   exact l _⟩
end
section
variable{K:Type} [DecidableEq K]
def lM(l:List K)(k:K):Nat:=l.idxOf k
def RD{l}{k s:K}(a:k∈l):lM (l++[s]) k=lM l k:=by unfold lM;rw[KW,au a]
def RE{l}{s:K}(a:s∉l):lM (l++[s]) s=l.length:=by unfold lM;rw[KW,ap a];simp
def mr(most:Nat)(s:List K×List Nat)(k:K):Option (List K×List Nat):=
 if k∈s.1 then(s.1,s.2++[lM s.1 k])else if most<=s.1 then none else(s.1++[k],s.2++[s.1.length])
def eu(most:Nat)(keys:List K)(ks:List K):Option (List K×List Nat):=ks.foldlM (mr most) (keys,[])
def fR(first:K)(most:Nat)(next:K->List K):Nat->Option (List K×List (List Nat))
 |0=>some ([first],[])
 |i+1=>(fR first most next i).bind fun s=>match s.1[i]? with
  |none=>none
  |some k=>(eu most s.1 (next k)).map fun v=>(v.1,s.2++[v.2])
def BL most(keys:List K):eu most keys []=some (keys,[]):=rfl
def yE most keys ks(k:K):eu most keys (ks++[k])=(eu most keys ks).bind fun s=>mr most s k:=by
 unfold eu;rw[KX];cases List.foldlM (mr most) (keys,[]) ks with
 |none=>rfl
 |some s=>simp
structure RF(most:Nat)(keys ks:List K)(s:List K×List Nat):Prop where
 pre:keys<+:s.1
 nodup:s.1.Nodup
 len:s.2.length=ks.length
 most:s.1.length<=most
 at_:∀(j n:Nat) (k:K),s.2[j]?=some n->ks[j]?=some k->s.1[n]?=some k
 new:∀k∈s.1,k∈keys∨k∈ks
def tq{most keys}(y:keys.Nodup)(w:keys.length<=most):∀m ks (s:List K×List Nat),ks.length=m->eu most keys ks=s->RF most keys ks s:=by
 intro m;induction m with
 |zero=>
  intro ks s h c;obtain rfl:=zX.1 h;rw[BL]at c;cases c
  exact⟨List.prefix_refl _,y,rfl,w,fun j n k c=>by simp at c,fun k c=>.inl c⟩
 |succ m ih=>
  intro ks s h c;rcases zA ks with rfl|⟨t,k,rfl⟩
  simp at h;simp at h;simp only[zB]at c⊢;rw[yE]at c;cases hv:eu most keys t with
  |none=>rw[hv]at c;cases c
  |some l=>
   rw[hv]at c;have V:=ih t l h hv;simp only[wX,mr]at c;split at c;rename_i p;cases c
   refine⟨V.pre,V.nodup,by simp[V.len],V.most,?_,fun x d=> ?_⟩;intro j n x f d;rcases kF j l.2 with i|v
   rw[eC i]at f;rw[eC (V.len▸i)]at d;exact V.at_ j n x f d;have q:=V.len;have o:j=l.2.length:=by have:=(aF.1 f).1;simp at this;omega
   subst o;simp at f;rw[gp ad]at d;simp[q]at d;subst d;subst f;rw[aF];exact⟨DD p,List.getElem_idxOf _⟩;rcases V.new x d with g|g
   exact .inl g;exact .inr (by simp[g]);rename_i p;split at c;cases c
   rename_i z;cases c
   refine⟨V.pre.Z (List.prefix_append _ _),?_,by simp[V.len],aO,?_,fun x d=> ?_⟩;rw[Ke];refine⟨V.nodup,aj,?_⟩;intro a u b r;simp at r;subst r;exact fun e=>p (e▸u);intro j n x f d;rcases kF j l.2 with i|v
   rw[eC i]at f;rw[eC (V.len▸i)]at d;have g:=V.at_ j n x f d;rw[eC (aF.1 g).1];exact g;have q:=V.len;have o:j=l.2:=by have:=(aF.1 f).1;simp at this;omega
   subst o;simp at f;rw[gp ad]at d;simp[q]at d;subst d;subst f;simp;simp at d;rcases d with d|rfl
   rcases V.new x d with g|g
   exact .inl g;exact .inr (by simp[g]);simp
structure GW(first:K)(most:Nat)(next:K->List K)(i:Nat)(s:List K×List (List Nat)):Prop where
 first:s.1[0]?=some first
 nodup:s.1.Nodup
 len:s.2.length=i
 le:i<=s.1.length
 most:s.1.length<=most
 at_:∀(a:Nat) (k:K) (row:List Nat),s.1[a]?=some k->s.2[a]?=some row->row.length=(next k).length/\∀(j n:Nat) (x:K),row[j]?=some n->(next k)[j]?=some x->s.1[n]?=some x
def rK{first most next}(B:0<most):∀i (s:List K×List _),fR first most next i=s->GW first most next i s:=by
 intro i;induction i with
 |zero=>
  intro s b;unfold fR at b;cases b
  exact⟨rfl,aj,rfl,aj,aO,fun a k row _ b=>by simp at b⟩
 |succ i ih=>
  intro s b;unfold fR at b;cases o:fR first most next i with
  |none=>rw[o]at b;cases b
  |some e=>
   rw[o]at b;have d:=ih e o;simp only[wX]at b;split at b;cases b
   rename_i k q;cases hv:eu most e.1 (next k)with
   |none=>rw[hv]at b;cases b
   |some v=>
    rw[hv]at b;cases b
    have V:=tq d.nodup d.most _ _ v rfl hv;have⟨F,r⟩:=V.pre;have D:=(aF.1 q).1;have h:∀n x,e.1[n]?=some x->v.1[n]?=some x:=fun n x t=>by rw[<-r,eC (aF.1 t).1];exact t
    have E:e.1<=v.1.length:=by rw[<-r];simp
    refine⟨h _ _ d.first,V.nodup,by simp[d.len],?_,V.most,?_⟩;show i+1<=v.1
    omega;intro a x row l f;rcases kF a e.2 with A|C
    rw[eC A]at f;have g:a<e.1:=jO d.len d.le;have w:e.1[a]?=some x:=by have c:=h a _ (cV g);rw[l]at c;rw[cV g,c]
    have⟨c,u⟩:=d.at_ a x row w f;exact⟨c,fun j n y m p=>h _ _ (u j n y m p)⟩;have z:=d.len;have g:a=e.2.length:=by have:=(aF.1 f).1;simp at this;omega
    subst g;simp at f;subst f;rw[z]at l;have c:=h _ _ q;rw[l]at c;injection c with c
    subst c;exact⟨V.len,fun j n y m p=>V.at_ j n y m p⟩
end
section
open Go Go.RowKit
section
variable{P:Program} {ops:Array Oper} {Q:Exit->Act->World->Prop} {md:Region.Mode} {S:World->Prop} {last:Nat}
def lN(P:Program)(md:Region.Mode)(ops:Array Oper)(Q:Exit->Act->World->Prop)(S:World->Prop)(last:Nat):Nat->Array Bool->Act->World->Prop
 |0,listed,a,w=>Region.ready md ops listed=[]/\Q .normal a w
 |c+1,listed,a,w=>
  (Region.ready md ops listed=[]->Q .normal a w)/\
  ∀i∈Region.ready md ops listed,wpOp P ops Q i (fun b w'=>(i≠last->S w')/\lN P md ops Q S last c (listed.setIfInBounds i true) b w') a w
def G8:∀b listed a w,lN P md ops Q S last b listed a w->wpAny P md ops Q b listed a w
 |0,_,_,_,c=>c
 |b+1,_,_,_,c=>⟨c.1,fun i f=>wpOp_mono (fun d w' e=>G8 b _ d w' e.2) (c.2 i f)⟩
def B8(md:Region.Mode)(ops:Array Oper)(last i:Nat):Bool:=match ops[last]? with|some o=>o.after.any (fun e=>Region.binds md e&&e.on==i)|none=>false
def Sg{i oi v}(z:ops[i]?=some oi)(s:B8 md ops last i=true)(F:∀(j:Nat) o cs b,ops[j]?=some o->o.op≠ .select cs b)
 (J:∀c a w,Q (.panic c) (a.put oi.dst v) w->Q (.panic c) a w):
 ∀l listed a w,
  (∀j h,ops[j]?=some h->j≠i->listed.getD j true=false->(∀e∈h.after,Region.binds md e=true->e.on≠i)->oi.apart ops h=true)->
  i∈Region.ready md ops listed->YieldsIf P ops S oi v a->S w->
  lN P md ops Q S last l (listed.setIfInBounds i true) (a.put oi.dst v) w->lN P md ops Q S last (l+1) listed a w:=by
 intro l;induction l with
 |zero=>
  intro listed a w _ g t m H;refine⟨fun u=>(by rw[u]at g;cases g),fun j q=> ?_⟩;by_cases d:j=i;subst d;exact t.wpOp z m ⟨fun _=>m,H⟩;have:=xe q d;rw[H.1]at this;cases this
 |succ l ih=>
  intro listed a w B g t m H;refine⟨fun u=>(by rw[u]at g;cases g),fun j q=> ?_⟩;by_cases d:j=i;subst d;exact t.wpOp z m ⟨fun _=>m,H⟩;have f:=H.2 j (xe q d);have⟨D,h,r,K⟩:=gO.1 q;have E:∀e∈h.after,Region.binds md e=true->e.on≠i:=fun e y n M=>by
   have f:=K e y n;have A:=(gO.1 g).1;rw[M]at f;rcases kF i listed.size with x|x
   simp[x]at A f;rw[A]at f;cases f;simp[Array.getElem?_eq_none x]at f
  have O:j≠last:=fun e=>by subst e;unfold B8 at s;rw[r]at s;simp only[Array.any_eq_true']at s;obtain⟨e,y,n⟩:=s;rw[cM,nE]at n;exact E e y n.1 n.2
  have I:=wpOp_putIf r (B j h r d D E) (fun cs b=>F i oi cs b z) (fun cs b=>F j h cs b r) J t f;have N:∀k ok,ops[k]?=some ok->k≠i->(listed.setIfInBounds j true).getD k true=false->
   (∀e∈ok.after,Region.binds md e=true->e.on≠i)->oi.apart ops ok=true:=fun k ok R T W V=>by
   refine B k ok R T ?_ V;by_cases C:j=k;subst C;exact D;rwa[Dx true C]at W
  refine wpOp_mono (fun G w' p=>⟨p.2.1,ih _ G w' N (xe g (mQ d)) p.1 (p.2.1 O) ?_⟩) I;rw[Array.setIfInBounds_comm _ _ d];exact p.2.2
def WK{i oi v fuel listed a w}(b:ops[i]?=some oi)(l:B8 md ops last i=true)
 (j:Region.noSelect ops=true) (g:Region.free md ops listed i=true) (h:(Region.ready md ops listed).contains i=true)
 (e:∀c a w,Q (.panic c) (a.put oi.dst v) w->Q (.panic c) a w) (m:YieldsIf P ops S oi v a) (f:S w)
 (d:lN P md ops Q S last fuel (listed.setIfInBounds i true) (a.put oi.dst v) w):lN P md ops Q S last (fuel+1) listed a w:=
 Sg b l (Region.noSelect_spec j) e fuel listed a w (Region.free_spec b g) (by simpa using h) m f d
def gy{i o fuel listed a w}(f:Region.ready md ops listed=[i])(m:ops[i]?=some o)
 (g:∀b,Shut (∀a w,(i≠last->S w)->((i≠last->S w)->lN P md ops Q S last fuel (listed.setIfInBounds i true) a w)->b a w)->if Region.wanted o (yielded ops a.tmps)=true then Oper.wp P o a w b Q else b (a.put o.dst undef) w):
 lN P md ops Q S last (fuel+1) listed a w:=
 ⟨(fun d=>by rw[f]at d;cases d),fun j c=>by rw[f]at c;simp at c;subst c;exact wpOp_step m (fun b h=>g b (fun a w e l=>h a w ⟨e,l e⟩))⟩
def ql{listed a w}(c:Region.ready md ops listed=[])(b:Q .normal a w):
 ∀d,lN P md ops Q S last d listed a w
 |0=>⟨c,b⟩
 |_+1=>⟨fun _=>b,by rw[c];simp⟩
def tF{id a w}(c:P.follows .mixedOrders=true)
 (b:lN P .any ops Q S last ops.size (Array.replicate ops.size false) a w.drew):(Code.region id ops true).wp P Q a w:=
 wp_region_any c (G8 _ _ _ _ b)
end
def zz_wk{P:Program}{md:Region.Mode}{ops:Array Oper}{Q:Exit->Act->World->Prop}{S:World->Prop}{last:Nat}{i:Nat}{oi:Oper}{v:Value}{fuel:Nat}{listed:Array Bool}{a:Act}{w:World}(hi:ops[i]?=some oi)(hS:S w)(h:lN P md ops Q S last fuel (listed.setIfInBounds i true) (a.put oi.dst v) w)(hy:YieldsIf P ops S oi v a:=by exact Or.inl ⟨by rfl,by intro wy hSw;(try dsimp only at hSw);go_simp;try with_reducible rfl⟩)(hwl:B8 md ops last i=true:=by kernel_rfl)(hs:Region.noSelect ops=true:=by kernel_rfl)(hf:Region.free md ops listed i=true:=by kernel_rfl)(hr:(Region.ready md ops listed).contains i=true:=by kernel_rfl)(hQ:∀c a w,Q (.panic c) (a.put oi.dst v) w->Q (.panic c) a w:=by exact fun _ _ _ h=>h):lN P md ops Q S last (fuel+1) listed a w:=WK hi hwl hs hf hr hQ hy hS h
def cj{P:Program}{md:Region.Mode}{ops:Array Oper}{Q:Exit->Act->World->Prop}{S:World->Prop}{last:Nat}{i:Nat}{oi:Oper}{v:Value}{fuel:Nat}{listed:Array Bool}{a:Act}{w:World}{G:Prop}(hi:ops[i]?=some oi)(hS:S w)(g:G)(hy:YieldsIf P ops S oi v a:=by exact Or.inl ⟨by rfl,by intro wy hSw;(try dsimp only at hSw);go_simp;try with_reducible rfl⟩)(hwl:B8 md ops last i=true:=by kernel_rfl)(hs:Region.noSelect ops=true:=by kernel_rfl)(hf:Region.free md ops listed i=true:=by kernel_rfl)(hr:(Region.ready md ops listed).contains i=true:=by kernel_rfl)(hQ:∀c a w,Q (.panic c) (a.put oi.dst v) w->Q (.panic c) a w:=by exact fun _ _ _ h=>h)(e:G->lN P md ops Q S last fuel (listed.setIfInBounds i true) (a.put oi.dst v) w:=by intro q;simp only[Act.put,cK,cR,ct,List.getElem_toArray,List.getElem_cons_zero,List.getElem_cons_succ];exact q):lN P md ops Q S last (fuel+1) listed a w:=WK hi hwl hs hf hr hQ hy hS (e g)
def HZ{P:Program}{md:Region.Mode}{ops:Array Oper}{Q:Exit->Act->World->Prop}{S:World->Prop}{last:Nat}{i:Nat}{oi:Oper}{v:Value}{fuel:Nat}{listed:Array Bool}{a:Act}{w:World}(hi:ops[i]?=some oi)(hy:YieldsIf P ops S oi v a)(hS:S w)(h:lN P md ops Q S last fuel (listed.setIfInBounds i true) (a.put oi.dst v) w)(hwl:B8 md ops last i=true:=by kernel_rfl)(hs:Region.noSelect ops=true:=by kernel_rfl)(hf:Region.free md ops listed i=true:=by kernel_rfl)(hr:(Region.ready md ops listed).contains i=true:=by kernel_rfl)(hQ:∀c a w,Q (.panic c) (a.put oi.dst v) w->Q (.panic c) a w:=by exact fun _ _ _ h=>h):lN P md ops Q S last (fuel+1) listed a w:=WK hi hwl hs hf hr hQ hy hS h
end
section
open Go Go.RowKit
def vO{P ops o a w K Q E}(l:o.guard=none)(f:Nat) os(b:Array Nat)(j:∀args c,(callFunc f args).run P c=.ok (.enter f args) c)(m:o.op=.call {callee:=.value (.func f),args:=os,argTypes:=b})
 (i:Calls P f (os.map a.eval) w fun e w'=>∃v,e=.returned v/\K (a.put o.dst v) w'):if Region.wanted o (yielded ops a.tmps)=true then Oper.wp P o a w K Q else E:=by
 have n:Region.wanted o (yielded ops a.tmps)=true:=by simp[Region.wanted,l]
 rw[au n];unfold Oper.wp execOp;simp only[m];have e:Sem.run P (do
  let d<-resolve a.eval {callee:=Callee.value (Operand.func f),args:=os,argTypes:=b} o.type
  invoke d.target d.args) w=.ok (.enter f (os.map a.eval)) w:=by
  simp[resolve,invoke,Deferred.ofValue,Act.eval,j]
 rw[e];simp only[Oper.upon];exact zU i fun e w' ⟨v,g,h⟩=>by subst g;exact h
end
section
open Go Go.RowKit
section
variable{P:Program} {ops:Array Oper} {Q:Exit->Act->World->Prop} {S:World->Prop}
def lR(P:Program)(ops:Array Oper)(S:World->Prop)(o:Oper)(v:Value)(a:Act):Prop:=
 YieldsIf P ops S o v a∨(Region.wanted o (yielded ops a.tmps)=true/\∃f args,(∀w,(execOp a.eval o).run P w=.ok (.enter f args) w)/\∀w,S w->Calls P f args w fun e w'=>e=.returned v/\S w')
def lR.of_same{o:Oper}{v:Value}{a b:Act}(c:lR P ops S o v a)(d:execOp b.eval o=execOp a.eval o)(e:Region.wanted o (yielded ops b.tmps)=Region.wanted o (yielded ops a.tmps)):lR P ops S o v b:=by unfold lR YieldsIf at*;rw[d,e];exact c
def lR.wpOp{i:Nat}{o:Oper}{v:Value}{a:Act}(h:ops[i]?=some o)(c:lR P ops S o v a){d:Act->World->Prop}{w:World}(b:S w)(g:∀w',S w'->d (a.put o.dst v) w'):wpOp P ops Q i d a w:=by
 rcases c with c|⟨p,f,args,n,l⟩
 exact c.wpOp h b (g w b);unfold Go.wpOp;simp only[h,p,ix,Oper.wp,n w,Oper.upon];exact .inl (zU (l w b) fun e w' m=>by obtain⟨rfl,j⟩:=m;exact g w' j)
def TS(P:Program)(ops:Array Oper)(Q:Exit->Act->World->Prop)(S:World->Prop):Nat->Array Bool->Act->Prop
 |0,listed,a=>Region.ready .any ops listed=[]/\∀w,S w->Q .normal a w
 |c+1,listed,a=>(Region.ready .any ops listed=[]->∀w,S w->Q .normal a w)/\
  ∀i∈Region.ready .any ops listed,∀w,S w->wpOp P ops Q i (fun b w'=>S w'/\TS P ops Q S c (listed.setIfInBounds i true) b) a w
def Jt:∀c listed a w,S w->TS P ops Q S c listed a->wpAny P .any ops Q c listed a w
 |0,_,_,w,d,b=>⟨b.1,b.2 w d⟩
 |c+1,_,_,w,d,b=>⟨fun e=>b.1 e w d,fun i h=>wpOp_mono (fun g w' f=>Jt c _ g w' f.1 f.2) (b.2 i h w d)⟩
def Uj{j oi oj v}(B:ops[j]?=some oj)(z:oi.apart ops oj=true)(D:∀cs b,oi.op≠ .select cs b)(y:∀cs b,oj.op≠ .select cs b)
 (t:∀c a w,Q (.panic c) (a.put oi.dst v) w->Q (.panic c) a w) {K} {a} {w} (h:lR P ops S oi v a) (g:wpOp P ops Q j K (a.put oi.dst v) w):
 wpOp P ops Q j (fun q w'=>lR P ops S oi v q/\K (q.put oi.dst v) w') a w:=by
 obtain⟨o,i,s⟩:=Oper.apart_spec z;have l:∀a,lR P ops S oi v a->∀u,lR P ops S oi v (a.put oj.dst u):=fun a h u=>h.of_same (execOp_put oi D a _ u s) (wanted_put oi a _ u s);have E:∀d,lR P ops S oi v {a with defers:=d::a.defers}:=fun d=>h.of_same rfl rfl;unfold wpOp at*;simp only[B]at*;rw[wanted_put oj a _ v o]at g;split
 ·rename_i p
  simp only[p,ix]at g;rcases g with g|⟨A,C⟩
  case inr=>exact .inr ⟨by unfold Oper.asks at*;rwa[execOp_put oj y a oi.dst v o]at A,C⟩
  refine .inl ?_;unfold Oper.wp at*;rw[execOp_put oj y a _ v o]at g;generalize(execOp a.eval oj).run P w=r at*;cases r with
  |ok n w'=>
   cases n<;>simp only[Oper.upon]at g⊢
   case value u=>exact⟨l a h u,by rw[<-xh a v u i];exact g⟩
   case skip=>exact⟨l a h _,by rw[<-xh a v undef i];exact g⟩
   case defer d=>
    refine⟨l _ (E d) _,?_⟩;rw[<-xh _ v undef i,<-Act.put_defers];exact g
   case enter f args=>
    refine zU g fun e F m=> ?_;cases e with
    |returned u=>exact⟨l a h u,by rw[<-xh a v u i];exact m⟩
    |panicked c=>exact t _ _ _ m
    |outgrown=>exact m
   case row row args=>exact Rows.zz g fun u F m=>⟨l a h u,by rw[<-xh a v u i];exact m⟩
  |halt x w'=>
   cases x<;>simp only[Oper.upon]at g⊢
   case panic u=>exact t _ _ _ g
 rename_i p;simp only[p]at g;exact⟨l a h _,by rw[<-xh a v undef i];exact g⟩
def Uk{i oi v}(u:ops[i]?=some oi)(C:∀(j:Nat) o cs b,ops[j]?=some o->o.op≠ .select cs b)
 (F:∀c a w,Q (.panic c) (a.put oi.dst v) w->Q (.panic c) a w):
 ∀l listed a,
  (∀j h,ops[j]?=some h->j≠i->listed.getD j true=false->(∀e∈h.after,Region.binds .any e=true->e.on≠i)->oi.apart ops h=true)->
  i∈Region.ready .any ops listed->lR P ops S oi v a->TS P ops Q S l (listed.setIfInBounds i true) (a.put oi.dst v)->TS P ops Q S (l+1) listed a:=by
 intro l;induction l with
 |zero=>
  intro listed a _ g p H;refine⟨fun q=>(by rw[q]at g;cases g),fun j n w m=> ?_⟩;by_cases d:j=i;subst d;exact p.wpOp u m fun w' t=>⟨t,H⟩;have:=xe n d;rw[H.1]at this;cases this
 |succ l ih=>
  intro listed a z g p H;refine⟨fun q=>(by rw[q]at g;cases g),fun j n w m=> ?_⟩;by_cases d:j=i;subst d;exact p.wpOp u m fun w' t=>⟨t,H⟩;have f:=H.2 j (xe n d) w m;have⟨B,h,x,G⟩:=gO.1 n;have T:∀e∈h.after,Region.binds .any e=true->e.on≠i:=fun e J I K=>by
   have f:=G e J I;have y:=(gO.1 g).1;rw[K]at f;rcases kF i listed.size with r|r
   simp[r]at y f;rw[y]at f;cases f;simp[Array.getElem?_eq_none r]at f
  have E:=Uj x (z j h x d B T) (fun cs b=>C i oi cs b u) (fun cs b=>C j h cs b x) F p f;have M:∀k ok,ops[k]?=some ok->k≠i->(listed.setIfInBounds j true).getD k true=false->(∀e∈ok.after,Region.binds .any e=true->e.on≠i)->oi.apart ops ok=true:=fun k ok N O V R=>by refine z k ok N O ?_ R;by_cases A:j=k;subst A;exact B;rwa[Dx true A]at V
  refine wpOp_mono (fun D w' s=>⟨s.2.1,ih _ D M (xe g (mQ d)) s.1 ?_⟩) E;rw[Array.setIfInBounds_comm _ _ d];exact s.2.2
def pd(n i:Nat):Array Bool:=(List.replicate i true++List.replicate (n-i) false).toArray
def Ul n:pd n 0=Array.replicate n false:=by apply Array.toList_inj.1;simp[pd]
def Um{n i}(a:i<n):(pd n i).setIfInBounds i true=pd n (i+1):=by apply Array.toList_inj.1;simp only[pd,wU];obtain⟨m,rfl⟩:∃m,n=i+1+m:=⟨n-(i+1),ad⟩;rw[show i+1+m-i=m+1 by omega,show i+1+m-(i+1)=m by omega,um,List.replicate_succ'];rw[DG _ _ aj];simp
def zh(ops:Array Oper):Bool:=Region.noSelect ops&&(List.range ops.size).all (fun i=>Region.free .any ops (pd ops.size i) i&&(Region.ready .any ops (pd ops.size i)).contains i)&&(Region.ready .any ops (pd ops.size ops.size)).isEmpty
def Ju(Q:Exit->Act->World->Prop):Prop:=∀c a d v w,Q (.panic c) (Act.put a d v) w->Q (.panic c) a w
def zi(P:Program)(ops:Array Oper)(Q:Exit->Act->World->Prop)(S:World->Prop)(i:Nat)(a:Act):Prop:=zh ops=true->Ju Q->TS P ops Q S (ops.size-i) (pd ops.size i) a
def Jv{i o v a}(d:ops[i]?=some o)(p:lR P ops S o v a)(h:zi P ops Q S (i+1) (a.put o.dst v)):zi P ops Q S i a:=fun f e=>by have g:=(iJ.1 d).1;have b:=f;unfold zh at b;simp only[cM,ke,eT]at b;obtain⟨⟨j,l⟩,q⟩:=b;have⟨m,n⟩:=l i g;have:=h f e;rw[<-Um g]at this;rw[show ops.size-i=(ops.size-(i+1))+1 by omega];exact Uk d (Region.noSelect_spec j) (fun c a w=>e c a _ _ w) _ _ _ (Region.free_spec d m) (by simpa using n) p this
def vP{i a}(d:i=ops.size)(c:∀w,S w->Q .normal a w):zi P ops Q S i a:=fun b e=>by subst d;unfold zh at b;simp only[cM,List.isEmpty_iff]at b;rw[qy];exact⟨b.2,c⟩
def zj{id a w}(f:P.follows .mixedOrders=true)(e:zh ops=true)(c:Ju Q)(d:S w.drew)(b:zi P ops Q S 0 a):(Code.region id ops true).wp P Q a w:=
 wp_region_any f (Jt _ _ _ _ d (by have:=b e c;rwa[Ul,Nat.sub_zero]at this))
end
def qu{P:Program}{ops:Array Oper}{Q:Exit->Act->World->Prop}{S:World->Prop}{i:Nat}{o:Oper}{v:Value}{a:Act}{G:Prop}(g:G)(hi:ops[i]?=some o:=by exact rfl)(hg:lR P ops S o v a:=by first|exact .inl (.inl ⟨by rfl,by intro wy hSw;(try dsimp only at hSw);go_simp;try with_reducible rfl⟩)|exact .inl (.inr ⟨by rfl,rfl⟩))(e:G->zi P ops Q S (i+1) (a.put o.dst v):=by intro q;simp only[Act.put,cK,cR,ct,List.getElem_toArray,List.getElem_cons_zero,List.getElem_cons_succ];exact q):zi P ops Q S i a:=Jv hi hg (e g)
end
section
open Go Go.RowKit
section
variable{P:Program} {ops:Array Oper} {Q:Exit->Act->World->Prop} {md:Region.Mode} {S:World->Prop} {last:Nat}
def Jw{i j o o2 fuel listed a w}(h:Region.ready md ops listed=[i,j])(n:ops[i]?=some o)(p:ops[j]?=some o2)
 (l:∀b,Shut (∀a w,(i≠last->S w)->((i≠last->S w)->lN P md ops Q S last fuel (listed.setIfInBounds i true) a w)->b a w)->if Region.wanted o (yielded ops a.tmps)=true then Oper.wp P o a w b Q else b (a.put o.dst undef) w)
 (m:∀b,Shut (∀a w,(j≠last->S w)->((j≠last->S w)->lN P md ops Q S last fuel (listed.setIfInBounds j true) a w)->b a w)->if Region.wanted o2 (yielded ops a.tmps)=true then Oper.wp P o2 a w b Q else b (a.put o2.dst undef) w):
 lN P md ops Q S last (fuel+1) listed a w:=
 ⟨(fun g=>by rw[h]at g;cases g),fun k f=>by
   rw[h]at f;simp at f;rcases f with rfl|rfl
   exact wpOp_step n (fun b d=>l b (fun a w c e=>d a w ⟨c,e c⟩));exact wpOp_step p (fun b d=>m b (fun a w c e=>d a w ⟨c,e c⟩))⟩
end
end
end Go.Proofs.YtfeidcmojcijpaaGreatDoor
