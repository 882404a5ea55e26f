import Derived.Test.YtbacloblanpghaaGreatDoorQab
set_option linter.unusedVariables false
set_option linter.unusedSimpArgs false
set_option maxRecDepth 100000
set_option maxHeartbeats 0
namespace Go.Proofs.YtbacloblanpghaaGreatDoor
open Go.RowKit Tryz
def aI(m:Nat):List Nat:=(List.range 64).filter m.testBit
theorem FW{p b:Nat->Bool}{c:Nat}(m:p c=true)(f:∀j,j<c->p j=false)(o:b c=false)(g:∀j,j≠c->b j=p j):∀n,c<n->(List.range n).filter p=c::(List.range n).filter b:=by
 intro n;induction n with
 |zero=>intro h;omega
 |succ n ih=>
  intro h;rw[sI,ou,ou];by_cases e:n=c
  ·subst e
   have i:(List.range n).filter p=[]:=by rw[E4];intro a d;rw[f a (l6.1 d)];simp
   have l:(List.range n).filter b=[]:=by rw[E4];intro a d;have:=l6.1 d;rw[g a ad,f a this];simp
   rw[i,l];simp[m,o]
  ·rw[ih ad]
   have:=g n e;simp[List.filter_cons,this]
theorem vM{m:Nat}(l:m≠0)(v:m<18446744073709551616):Lib.ctz 64 m<64/\m.testBit (Lib.ctz 64 m)=true/\(∀j,j<Lib.ctz 64 m->m.testBit j=false)/\∀j,(m&&&(m-1)).testBit j=(m.testBit j&&decide (j≠Lib.ctz 64 m)):=by
 have g:Lib.ctz 64 m=Lib.ctzFrom 64 m:=by unfold Lib.ctz;rw[ap l]
 obtain⟨q,b,e⟩:=Lib.ctzFrom_spec 64 m ad ad;rw[<-g]at b e;generalize Lib.ctz 64 m=c at b e⊢;have u:0<2^c:=Nat.two_pow_pos c;have a:∀j,m.testBit j=if j<c then false else(2*q+1).testBit (j-c):=fun j=>by have:=QL (2*q+1) u j;rw[mT,<-b]at this;rw[this];split<;>simp
 have r:m-1=2^c*(2*q)+(2^c-1):=by rw[b,Nat.mul_add,yY];omega
 have s:∀j,(m-1).testBit j=if j<c then(2^c-1).testBit j else(2*q).testBit (j-c):=fun j=>by rw[r];exact QL (2*q) ad j
 have t:(2*q+1).testBit 0=true:=by rw[Nat.testBit_zero];simp
 have n:(2*q).testBit 0=false:=by rw[Nat.testBit_zero];simp
 refine⟨e,by rw[a,ap (sJ _),qE];exact t,fun j o=>by rw[a,au o],fun j=> ?_⟩;rw[Nat.testBit_and,s];by_cases d:j<c
 ·rw[a,au d];simp
 ·rw[ap d]
  by_cases f:j=c
  ·subst f
   rw[qE,n];simp
  ·rw[a,ap d]
   obtain⟨k,p⟩:∃k,j-c=k+1:=⟨j-c-1,ad⟩;rw[p,Nat.testBit_succ,Nat.testBit_succ];have h:(2*q+1)/2=q:=ad;have i:(2*q)/2=q:=ad;rw[h,i];simp[f]
theorem Af{m:Nat}(c:m≠0)(b:m<18446744073709551616):aI m=Lib.ctz 64 m::aI (m&&&(m-1)):=by obtain⟨d,e,f,a⟩:=vM c b;unfold aI;exact FW e f (by rw[a];simp) (fun j g=>by rw[a];simp[g]) 64 d
theorem tj:aI 0=[]:=by unfold aI;rw[E4];intro a _;simp
theorem qW{m i:Nat}(b:m<18446744073709551616):i∈aI m↔m.testBit i=true:=by
 unfold aI;rw[E5,l6];constructor
 ·exact fun a=>a.2
 ·intro a
  refine⟨?_,a⟩;apply fq;intro c;have:m<2^i:=eR b (by have:(2:Nat)^64<=2^i:=yZ aw ad;simpa using this)
  rw[Nat.testBit_lt_two_pow this]at a;cases a
def jg(m i:Nat):Nat:=m|||2^i
theorem FX{m i:Nat}(b:m<18446744073709551616)(a:i<64):jg m i<18446744073709551616:=by unfold jg;have:(2:Nat)^i<2^64:=E6 aw a;exact y7 (n:=64) (by simpa using b) this
theorem FY(m i j:Nat):(jg m i).testBit j=(m.testBit j||decide (i=j)):=by unfold jg;rw[y9,Nat.testBit_two_pow]
theorem FZ{i:Nat}(c:i<64):IntKind.u64.wrap (1*2^min (i:Int).toNat 64)=((2^i:Nat):Int):=by have a:min (i:Int).toNat 64=i:=ad;have b:(2:Nat)^i<2^64:=E6 aw c;rw[a,Int.one_mul];rw[show((2:Int)^i)=((2^i:Nat):Int) by simp];generalize(2:Nat)^i=q at b;exact IntWalk.u64_in _ ad
theorem F0{m i:Nat}(d:m<18446744073709551616)(e:i<64):(bits .and .u64 ((m:Int).fdiv (2^min (i:Int).toNat 64)) 1==1)=m.testBit i:=by
 have b:min (i:Int).toNat 64=i:=ad;rw[b,show((2:Int)^i)=((2^i:Nat):Int) by simp];have c:(m:Int).fdiv ((2^i:Nat):Int)=((m/2^i:Nat):Int):=by generalize(2:Nat)^i=q;rw[Int.fdiv_eq_ediv_of_nonneg _ ad];rfl
 rw[c,show(1:Int)=((1:Nat):Int)from rfl,za _ _ (E7 (Nat.div_le_self _ _) d) aw];rw[Nat.testBit_eq_decide_div_mod_eq,Nat.and_one_is_mod];by_cases a:m/2^i % 2=1
 ·simp[a]
 ·have:m/2^i % 2=0:=ad
  simp[this]
theorem tk(i:Nat):((2:Int)^i)=((2^i:Nat):Int):=ak
theorem F1{m i:Nat}(e:m<18446744073709551616)(d:i<64):(bits .and .u64 ((m:Int)/2^i) 1==1)=m.testBit i:=by
 have a:=F0 e d;have b:min (i:Int).toNat 64=i:=ad;rw[b,tk]at a;rw[tk,<-a];have c:(m:Int).fdiv ((2^i:Nat):Int)=(m:Int)/((2^i:Nat):Int):=by generalize(2:Nat)^i=q;rw[Int.fdiv_eq_ediv_of_nonneg _ ad]
 rw[c]
theorem Ag{i:Nat}(c:i<64):IntKind.u64.wrap ((2:Int)^i)=(2:Int)^i:=by have a:=FZ c;have b:min (i:Int).toNat 64=i:=ad;rw[b,Int.one_mul]at a;rw[a,tk]
theorem Ah{m i:Nat}(b:m<18446744073709551616)(a:i<64):bits .or .u64 (m:Int) ((2:Int)^i)=((jg m i:Nat):Int):=by rw[tk];exact E9 m (2^i) b (by have:(2:Nat)^i<2^64:=E6 aw a;simpa using this)
section
variable{K:Type} [DecidableEq K]
def lX(l:List K)(k:K):Nat:=l.idxOf k
theorem Np{l:List K}{k s:K}(a:k∈l):lX (l++[s]) k=lX l k:=by unfold lX;rw[List.idxOf_append,au a]
theorem Nq{l:List K}{s:K}(a:s∉l):lX (l++[s]) s=l.length:=by unfold lX;rw[List.idxOf_append,ap a];simp
def oa(a:Nat)(s:List K×List Nat)(k:K):Option (List K×List Nat):=
 if k∈s.1 then some (s.1,s.2++[lX s.1 k])else if a<=s.1.length then none else some (s.1++[k],s.2++[s.1.length])
def fp(a:Nat)(keys:List K)(ks:List K):Option (List K×List Nat):=ks.foldlM (oa a) (keys,[])
def fD(first:K)(a:Nat)(next:K->List K):Nat->Option (List K×List (List Nat))
 |0=>some ([first],[])
 |i+1=>(fD first a next i).bind fun s=>match s.1[i]? with
  |none=>none
  |some k=>(fp a s.1 (next k)).map fun v=>(v.1,s.2++[v.2])
theorem Nr(a:Nat)(keys:List K):fp a keys []=some (keys,[]):=rfl
theorem DN(a:Nat)(keys ks:List K)(k:K):fp a keys (ks++[k])=(fp a keys ks).bind fun s=>oa a s k:=by
 unfold fp;rw[List.foldlM_append];cases List.foldlM (oa a) (keys,[]) ks with
 |none=>rfl
 |some s=>simp
structure Ns(most:Nat)(keys ks:List K)(s:List K×List Nat):Prop where
 pre:keys<+:s.1
 nodup:s.1.Nodup
 len:s.2.length=ks.length
 most:s.1.length<=most
 at_:∀(j n:Nat) (k:K),s.2[j]?=some n->ks[j]?=some k->s.1[n]?=some k
 new:∀k∈s.1,k∈keys∨k∈ks
theorem DO{o:Nat}{keys:List K}(B:keys.Nodup)(A:keys.length<=o):∀(m:Nat) (ks:List K) (s:List K×List Nat),ks.length=m->fp o keys ks=some s->Ns o keys ks s:=by
 intro m;induction m with
 |zero=>
  intro ks s h c;obtain rfl:=vr.1 h;rw[Nr]at c;injection c with c
  subst c;exact⟨List.prefix_refl _,B,rfl,A,fun j n k c=>by simp at c,fun k c=>.inl c⟩
 |succ m ih=>
  intro ks s h c;rcases List.eq_nil_or_concat ks with rfl|⟨v,k,rfl⟩
  ·simp at h
  simp at h;simp only[List.concat_eq_append]at c⊢;rw[DN]at c;cases t:fp o keys v with
  |none=>rw[t]at c;cases c
  |some l=>
   rw[t]at c;have e:=ih v l h t;simp only[FO,oa]at c;split at c
   ·rename_i q
    injection c with c
    subst c;refine⟨e.pre,e.nodup,by simp[e.len],e.most,?_,fun x d=> ?_⟩
    ·intro j n x f d
     rcases ow j l.2.length with i|z
     ·rw[eF i]at f
      rw[eF (by rw[<-e.len];exact i)]at d;exact e.at_ j n x f d
     ·have r:=e.len
      have p:j=l.2.length:=by have:=(aP.1 f).1;simp at this;omega
      subst p;simp at f;rw[gH ad]at d;simp[r]at d;subst d;subst f;rw[aP];exact⟨List.idxOf_lt_length_of_mem q,List.getElem_idxOf _⟩
    ·rcases e.new x d with g|g
     ·exact .inl g
     ·exact .inr (by simp[g])
   ·rename_i q
    split at c
    ·cases c
    rename_i C;injection c with c
    subst c;refine⟨e.pre.trans (List.prefix_append _ _),?_,by simp[e.len],aO,?_,fun x d=> ?_⟩
    ·rw[List.nodup_append]
     refine⟨e.nodup,ak,?_⟩;intro a y b u;simp at u;subst u;exact fun w=>q (w▸y)
    ·intro j n x f d
     rcases ow j l.2.length with i|z
     ·rw[eF i]at f
      rw[eF (by rw[<-e.len];exact i)]at d;have g:=e.at_ j n x f d;rw[eF (aP.1 g).1];exact g
     ·have r:=e.len
      have p:j=l.2.length:=by have:=(aP.1 f).1;simp at this;omega
      subst p;simp at f;rw[gH ad]at d;simp[r]at d;subst d;subst f;simp
    ·simp at d
     rcases d with d|rfl
     ·rcases e.new x d with g|g
      ·exact .inl g
      ·exact .inr (by simp[g])
     ·exact .inr ak
structure Nt(first:K)(most:Nat)(next:K->List K)(i:Nat)(s:List K×List (List Nat)):Prop where
 first:s.1[0]?=some first
 nodup:s.1.Nodup
 len:s.2.length=i
 le:i<=s.1.length
 most:s.1.length<=most
 at_:∀(a:Nat) (k:K) (row:List Nat),s.1[a]?=some k->s.2[a]?=some row->row.length=(next k).length/\∀(j n:Nat) (x:K),row[j]?=some n->(next k)[j]?=some x->s.1[n]?=some x
theorem yy{first:K}{g:Nat}{next:K->List K}(D:0<g):∀(i:Nat) (s:List K×List (List Nat)),fD first g next i=some s->Nt first g next i s:=by
 intro i;induction i with
 |zero=>
  intro s b;unfold fD at b;injection b with b
  subst b;exact⟨rfl,ak,rfl,ak,aO,fun a k row _ b=>by simp at b⟩
 |succ i ih=>
  intro s b;unfold fD at b;cases p:fD first g next i with
  |none=>rw[p]at b;cases b
  |some d=>
   rw[p]at b;have T:=ih d p;simp only[FO]at b;split at b
   ·cases b
   rename_i k t;cases q:fp g d.1 (next k)with
   |none=>rw[q]at b;cases b
   |some v=>
    rw[q]at b;injection b with b
    subst b;have e:=DO T.nodup T.most _ _ v rfl q;obtain⟨H,u⟩:=e.pre;have F:=(aP.1 t).1;have l:∀(n:Nat) (x:K),d.1[n]?=some x->v.1[n]?=some x:=fun n x w=>by rw[<-u,eF (aP.1 w).1];exact w
    have G:d.1.length<=v.1.length:=by rw[<-u];simp
    refine⟨l _ _ T.first,e.nodup,by simp[T.len],?_,e.most,?_⟩
    ·show i+1<=v.1.length
     omega
    ·intro a x row m f
     rcases ow a d.2.length with C|E
     ·rw[eF C]at f
      have h:a<d.1.length:=by have:=T.len;have:=T.le;omega
      have A:d.1[a]?=some x:=by have c:=l a _ (aF h);rw[m]at c;rw[aF h,c]
      obtain⟨c,z⟩:=T.at_ a x row A f;exact⟨c,fun j n y o r=>l _ _ (z j n y o r)⟩
     ·have B:=T.len
      have h:a=d.2.length:=by have:=(aP.1 f).1;simp at this;omega
      subst h;simp at f;subst f;rw[B]at m;have c:=l _ _ t;rw[m]at c;injection c with c
      subst c;exact⟨e.len,fun j n y o r=>e.at_ j n y o r⟩
end
end Go.Proofs.YtbacloblanpghaaGreatDoor
