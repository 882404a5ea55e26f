import Derived.Test.YtnadadbndcdolaaGreatDoorQbg
import Derived.Test.YtnadadbndcdolaaGreatDoorQbh
set_option linter.unusedVariables false
set_option linter.unusedSimpArgs false
set_option maxRecDepth 100000
set_option maxHeartbeats 0
namespace Go.Proofs.YtnadadbndcdolaaGreatDoor
open Go.RowKit Tryz
inductive qZ{K:Type}(first:K)(nx:K->List K):K->Prop
 |first:qZ first nx first
 |next {s t:K}:qZ first nx s->t∈nx s->qZ first nx t
section
variable{K:Type} [DecidableEq K]
theorem Fz{first:K}{d:Nat}{e:K->List K}(i:0<d):∀(n:Nat) (s:List K×List (List Nat)),eL first d e n=some s->∀k∈s.1,qZ first e k:=by
 intro n;induction n with
 |zero=>intro s a;injection a with a;subst a;intro k c;simp at c;subst c;exact .first
 |succ n ih=>
  intro s a;unfold eL at a;cases b:eL first d e n with
  |none=>rw[b]at a;cases a
  |some f=>
   rw[b]at a;simp only[x8]at a;split at a
   ·cases a
   rename_i k c;cases h:eK d f.1 (e k)with
   |none=>rw[h]at a;cases a
   |some v=>
    rw[h]at a;injection a with a
    subst a;have T:=qU i n f b;have V:=wO T.nodup T.most _ _ v rfl h;intro x j;rcases V.new x j with g|g
    ·exact ih f b x g
    ·exact .next (ih f b k (aX c)) g
theorem Po{d:Nat}{keys:List K}(o:keys.Nodup)(n:keys.length<=d):∀(m:Nat) (ks:List K),ks.length=m->eK d keys ks=none->∃l:List K,l.Nodup/\d<l.length/\∀x∈l,x∈keys∨x∈ks:=by
 intro m;induction m with
 |zero=>intro ks b a;rw[rF.1 b,Fo]at a;cases a
 |succ m ih=>
  intro ks b a;rcases BQ ks with rfl|⟨f,k,rfl⟩
  ·simp at b
  simp at b;simp only[BR]at a⊢;rw[zX]at a;cases e:eK d keys f with
  |none=>
   obtain⟨l,g,h,i⟩:=ih f b e;exact⟨l,g,h,fun x c=>(i x c).imp id (fun a=>by simp[a])⟩
  |some s=>
   rw[e]at a;have V:=wO o n _ f s rfl e;simp only[x8,nI]at a;split at a
   ·cases a
   rename_i j;split at a
   ·rename_i p
    refine⟨k::s.1,nS.2 ⟨j,V.nodup⟩,aR,fun x c=> ?_⟩;rcases du.1 c with rfl|c
    ·exact .inr ak
    ·exact(V.new x c).imp id (fun a=>by simp[a])
   ·cases a
theorem tF:∀(l L:List K),l.Nodup->(∀x∈l,x∈L)->l.length<=L.length
 |[],_,_,_=>aZ _
 |a::l,L,g,d=>by have b:=nS.1 g;have c:=d a dM;have:=tF l (L.erase a) b.2 (fun x e=>(BV (fun f=>b.1 (by rw[<-f];exact e))).2 (d x (dt _ e)));have h:=IS c;have i:=BM c;simp only[db];omega
end
def mK:List Nat->List (List Nat)
 |[]=>[[]]
 |a::t=>mK t++(mK t).map (a::·)
theorem FA:∀l:List Nat,(mK l).length=2^l.length
 |[]=>rfl
 |a::t=>by rw[mK,cR,cf,FA t,db,Nat.pow_succ];omega
theorem FC{a l:List Nat}(b:a.Sublist l):a∈mK l:=by
 induction b with
 |slnil=>simp[mK]
 |cons x _ ih=>unfold mK;exact IN _ ih
 |cons_cons x _ ih=>unfold mK;exact q1 _ (fH.2 ⟨_,ih,rfl⟩)
theorem Pp(l:List Nat):[]∈mK l:=FC (List.nil_sublist l)
theorem FD{a b:Nat}(e:a<18446744073709551616)(f:b<18446744073709551616)(d:∀j,j<64->a.testBit j=b.testBit j):a=b:=by
 apply Nat.eq_of_testBit_eq;intro j;rcases jg j 64 with c|c
 ·exact d j c
 ·rw[AR (dn e (qg ad c:2^64<=2^j)),AR (dn f (qg ad c:2^64<=2^j))]
theorem Pq{m:Nat}(b:m<18446744073709551616):dq (aC m)=m:=
 FD (tE m) b fun j c=>by
  rw[qY];cases a:m.testBit j with
  |false=>exact l6 (fun d=>by have:=(iA d).2;rw[a]at this;cases this)
  |true=>exact lm (by unfold aC;rw[nR,gt];exact⟨c,a⟩)
theorem Ps{m P:Nat}(a:∀j,m.testBit j=true->P.testBit j=true):(aC m).Sublist (aC P):=by
 unfold aC;have:(List.range 64).filter m.testBit=((List.range 64).filter P.testBit).filter m.testBit:=by
  rw[List.filter_filter];congr 1
  funext j
  cases b:m.testBit j with
  |false=>simp
  |true=>simp[a j b]
 rw[this];exact List.filter_sublist
theorem p6{m j:Nat}(b:j<64)(a:m.testBit j=true):j∈aC m:=by unfold aC;rw[nR,gt];exact⟨b,a⟩
def nK(l:List aj)(x:Bytes):List St:=(mK (aC (ofN l x l.length))).map fun a=>(false,dq a)
theorem FE{l:List aj}{c:List Bytes}(f:l.length<=60){s t:St}(a:t∈cB l c s):∃x∈c,t=(false,df l s.1 (aC s.2)&&&ofN l x l.length)/\t∈nK l x:=by
 unfold cB at a;obtain⟨x,e,rfl⟩:=fH.1 a;refine⟨x,e,rfl,?_⟩;have d:df l s.1 (aC s.2)&&&ofN l x l.length<18446744073709551616:=tC (lN l x _ ad);refine fH.2 ⟨aC (df l s.1 (aC s.2)&&&ofN l x l.length),FC (Ps fun j b=> ?_),?_⟩
 ·simp only[mP,cS]at b
  exact b.2
 ·rw[Pq d]
def gS(l:List aj)(x:Bytes):Nat:=(aC (ofN l x l.length)).length
theorem FG(l:List aj)(x:Bytes):(nK l x).length=2^gS l x:=by unfold nK gS;rw[cf,FA]
def re(l:List aj)(p:Nat):Option Bytes:=match l[p]? with
 |some n=>if n.op=2 then some n.sym else none
 |none=>none
def kY(l:List aj):Nat:=((List.range l.length).filter fun p=>(re l p).isSome).length
theorem Pt(c:List Bytes)(d:c.Nodup)(L:List Nat)(f:Nat->Option Bytes):(c.map fun x=>(L.filter fun p=>f p==some x).length).sum<=(L.filter fun p=>(f p).isSome).length:=by
 induction L with
 |nil=>
  have:(c.map fun x=>(([]:List Nat).filter fun p=>f p==some x).length)=c.map fun _=>0:=rfl;rw[this];clear this d;induction c with
  |nil=>simp
  |cons a t ih=>simp only[gd,iI];simpa using ih
 |cons p L ih=>
  have key:(c.map fun x=>((p::L).filter fun p=>f p==some x).length).sum=(c.map fun x=>(L.filter fun p=>f p==some x).length).sum+(c.map fun x=>if f p==some x then 1 else 0).sum:=by
   clear ih d;induction c with
   |nil=>simp
   |cons a t ih=>
    simp only[gd,iI];rw[ih];have:((p::L).filter fun p=>f p==some a).length=(L.filter fun p=>f p==some a).length+if f p==some a then 1 else 0:=by rw[rD];split<;>simp
    omega
  have one:(c.map fun x=>if f p==some x then 1 else 0).sum<=if(f p).isSome then 1 else 0:=by
   clear ih key;cases m:f p with
   |none=>
    have:(c.map fun x=>if(none:Option Bytes)==some x then 1 else 0).sum=0:=by
     clear d;induction c with
     |nil=>simp
     |cons a t ih=>simp only[gd,iI,ih];simp
    rw[this];simp
   |some y=>
    simp only[BK,iG];induction c with
    |nil=>simp
    |cons a t ih=>
     simp only[gd,iI];have g:=nS.1 d;by_cases e:y=a
     ·subst e
      have:(t.map fun x=>if some y==some x then 1 else 0).sum=0:=by
       have h:=g.1;clear ih d g;induction t with
       |nil=>simp
       |cons b t ih=>
        simp only[gd,iI];have j:y≠b:=fun e=>h (by simp[e]);rw[ih (fun i=>h (dt _ i))];simp[j]
      rw[this];simp
     ·have:=ih g.2
      simp[e]at this⊢;exact this
  have l:((p::L).filter fun p=>(f p).isSome).length=(L.filter fun p=>(f p).isSome).length+if(f p).isSome then 1 else 0:=by rw[rD];split<;>simp
  omega
theorem Pu(l:List aj)(x:Bytes):gS l x<=((List.range l.length).filter fun p=>re l p==some x).length:=by refine tF _ _ (List.nodup_range.filter _) fun p f=> ?_;obtain⟨_,e⟩:=iA f;obtain⟨a,g,b,c,d⟩:=nJ l x p _ e;rw[nR,gt];exact⟨a,by simp[re,b,c,d]⟩
theorem FH{l:List aj}{b:List Bytes}(c:b.Nodup):(b.map (gS l)).sum<=kY l:=by
 refine aJ ?_ (Pt b c (List.range l.length) (re l));clear c;induction b with
 |nil=>simp
 |cons a t ih=>
  simp only[gd,iI];have:=Pu l a;omega
theorem Ad{l:List aj}{x:Bytes}{p:Nat}{a:aj}(c:l[p]?=some a)(b:a.op=2)(d:a.sym=x):∀n,p<n->(ofN l x n).testBit p=true
 |0,f=>ad
 |n+1,f=>by
  unfold ofN;by_cases e:p=n
  ·subst e
   rw[c];simp only;rw[ay ⟨b,d⟩,oY,qY];simp
  ·have ih:=Ad c b d n ad
   split
   ·exact ih
   ·split
    ·rw[oY,ih];rfl
    ·exact ih
def wX(s:Nat):Nat:=[0,2,4,8,16,32,64,128,130,132,136].getD s 0
theorem FI:∀(b:List Nat) (s:Nat),(∀n∈b,1<=n/\n<=7)->b.sum<=s->s<=10->(b.map (2^·)).sum<=wX s
 |[],s,_,_,_=>ak
 |a::t,s,c,f,h=>by simp only[iI,gd]at f⊢;obtain⟨d,g⟩:=c a dM;have:=FI t (s-a) (fun n e=>c n (dt _ e)) ad ad;have key:∀s,s<11->∀a,a<8->1<=a->a<=s->2^a+wX (s-a)<=wX s:=ap;have:=key s ad a ad d ad;omega
theorem FJ:∀(b:List Nat),(b.map fun n=>2^n-1).sum+1<=2^b.sum
 |[]=>ak
 |a::t=>by
  simp only[iI,gd];have ih:=FJ t;have c:1<=2^a:=Nat.one_le_two_pow;have d:1<=2^t.sum:=Nat.one_le_two_pow;have e:2^a*2^t.sum=(2^a-1)*2^t.sum+2^t.sum:=by rw[Nat.sub_mul,Nat.one_mul,Nat.sub_add_cancel (Nat.le_mul_of_pos_left _ c)]
  have f:2^a-1<=(2^a-1)*2^t.sum:=Nat.le_mul_of_pos_right _ d;rw[Nat.pow_add];omega
theorem wY{b:Type}(f:b->List St)(g:b->Nat):∀l:List b,(∀x∈l,(f x).length<=g x)->(l.flatMap f).length<=(l.map g).sum
 |[],_=>ak
 |a::t,c=>by simp only[uh,cR,gd,iI];have e:=c a dM;have h:=wY f g t (fun x d=>c x (dt _ d));omega
def xd(l:List aj)(x:Bytes)(m:Nat):Nat:=df l false (aC m)&&&ofN l x l.length
def jA(l:List aj)(x:Bytes)(m:Nat):Nat->Nat
 |0=>m
 |k+1=>xd l x (jA l x m k)
def FK(l:List aj)(x:Bytes)(p q:Nat):Prop:=p∈aC (ofN l x l.length)/\q∈aC (ofN l x l.length)/\(cK l p).testBit q=true
theorem rg(l:List aj)(ps:List Nat)(t:Nat)(e:t<64):(df l false ps).testBit t=true↔∃p∈ps,(cK l p).testBit t=true:=by
 unfold df;have:∀(ps:List Nat) (c:Nat),(ps.foldl (fun c p=>c|||dq (aC (cK l p))) c).testBit t=true↔c.testBit t=true∨∃p∈ps,(cK l p).testBit t=true:=by
  intro ps;induction ps with
  |nil=>intro c;simp
  |cons a ps ih=>
   intro c;rw[nT,ih,oY,di,qY,ft];constructor
   ·rintro((b|b)|⟨p,d,b⟩)
    ·exact .inl b
    ·exact .inr ⟨a,dM,(iA b).2⟩
    ·exact .inr ⟨p,dt _ d,b⟩
   ·rintro(b|⟨p,d,b⟩)
    ·exact .inl (.inl b)
    ·rcases du.1 d with rfl|d
     ·exact .inl (.inr (p6 e b))
     ·exact .inr ⟨p,d,b⟩
 rw[this];simp
theorem FL{l:List aj}{x:Bytes}{m:Nat}(b:l.length<=60)(a:m<18446744073709551616):∀k,jA l x m k<18446744073709551616
 |0=>a
 |k+1=>tC (lN l x _ ad)
theorem FM{l:List aj}{x:Bytes}{m:Nat}(c:l.length<=60)(b:∀j,m.testBit j=true->j∈aC (ofN l x l.length)):∀k j,(jA l x m k).testBit j=true->j∈aC (ofN l x l.length)
 |0,j,a=>b j a
 |k+1,j,a=>by unfold jA xd at a;simp only[mP,cS]at a;have:=(nJ l x j _ a.2).1;exact p6 ad a.2
theorem Ae{l:List aj}{x:Bytes}{m:Nat}(e:l.length<=60)(f:∀j,m.testBit j=true->j∈aC (ofN l x l.length)):∀k t,(jA l x m k).testBit t=true↔Orb.Im (FK l x) (fun s=>m.testBit s=true) k t
 |0,t=>⟨fun a=>⟨t,a,rfl⟩,fun⟨s,a,c⟩=>by cases c;exact a⟩
 |k+1,t=>by
  have ih:=Ae e f k;constructor
  ·intro a
   have n:=FM e f (k+1) t a;unfold jA xd at a;simp only[mP,cS]at a;obtain⟨p,g,d⟩:=(rg l _ t (iA n).1).1 a.1;have b:=(iA g).2;obtain⟨s,h,i⟩:=(ih p).1 b;exact⟨s,h,Orb.wk_add.2 ⟨p,i,t,⟨FM e f k p b,n,d⟩,rfl⟩⟩
  ·rintro⟨s,h,i⟩
   obtain⟨p,d,u,⟨g,o,q⟩,c⟩:=Orb.wk_add.1 i;cases c
   have b:=(ih p).2 ⟨s,h,d⟩;unfold jA xd;simp only[mP,cS];exact⟨(rg l _ _ (iA o).1).2 ⟨p,p6 (iA g).1 b,q⟩,(iA o).2⟩
theorem Pv{l:List aj}{x:Bytes}{m:Nat}(a:l.length<=60)(i:gS l x<=10)(e:m<18446744073709551616)(c:∀j,m.testBit j=true->j∈aC (ofN l x l.length))(k:Nat):∃q,q<Orb.lim (gS l x)/\jA l x m k=jA l x m q:=by
 obtain⟨q,f,g⟩:=Orb.early (E:=FK l x) (V:=aC (ofN l x l.length)) rfl i (fun s u d=>⟨d.1,d.2.1⟩) (fun s=>m.testBit s=true) c k;refine⟨q,f,FD (FL a e k) (FL a e q) fun j _=> ?_⟩;have:=((Ae a c k j).trans (g j)).trans (Ae a c q j).symm;cases b:(jA l x m k).testBit j with
 |true=>exact(this.1 b).symm
 |false=>
  cases h:(jA l x m q).testBit j with
  |true=>rw[this.2 h]at b;cases b
  |false=>rfl
def gm(l:List aj)(x:Bytes)(s:St):Nat:=df l s.1 (aC s.2)&&&ofN l x l.length
theorem Pw{l:List aj}{x:Bytes}(b:l.length<=60)(s:St):∀j,(gm l x s).testBit j=true->j∈aC (ofN l x l.length):=by intro j a;unfold gm at a;simp only[mP,cS]at a;have:=(nJ l x j _ a.2).1;exact p6 ad a.2
theorem Px{l:List aj}(N:bG l=0)(y:l.length<=60)(T:kY l<=10):∃L:List St,L.length<=256/\∀s,qZ (true,0) (cB l (bm (aI l))) s->s∈L:=by
 have G:(bm (aI l)).Nodup:=by rw[List.nodup_iff_pairwise_ne];exact(Aa _).imp fun f=>f.2
 have R:∀x∈bm (aI l),1<=gS l x:=by intro x i;obtain⟨n,o,d,g⟩:=(wU N).1 (wT.1 i);obtain⟨p,r⟩:=pd.1 o;have O:=(aL.1 r).1;exact BM (p6 ad (Ad r d g _ O))
 have W:=FH (l:=l) G;by_cases F:∃x∈bm (aI l),8<=gS l x
 ·obtain⟨b,X,M⟩:=F
  obtain⟨os,z⟩:=ar ((bm (aI l)).filter fun x=>decide (x≠b));have Q:(b::os).Nodup:=nS.2 ⟨fun f=>by rw[z,nR]at f;simp at f,by rw[z];exact G.filter _⟩;have I:=FH (l:=l) Q;simp only[gd,iI]at I;obtain⟨e,H⟩:∃e:List St,e=os.flatMap fun x=>(nK l x).filter fun s=>decide (s≠(false,0)):=⟨_,rfl⟩;have w:e.length+1<=2^(10-gS l b):=by
   have j:e.length<=((os.map (gS l)).map fun n=>2^n-1).sum:=by
    rw[H,List.map_map];refine wY _ _ _ fun x _=> ?_;have P:(false,0)∈nK l x:=fH.2 ⟨[],Pp _,rfl⟩;have:((nK l x).filter fun s=>decide (s≠(false,0))).length<(nK l x).length:=List.length_filter_lt_length_iff_exists.2 ⟨_,P,ak⟩;rw[FG]at this;show _<=2^gS l x-1
    omega
   have d:=FJ (os.map (gS l));have E:2^(os.map (gS l)).sum<=2^(10-gS l b):=qg ad ad;omega
  obtain⟨n,o⟩:=ar (gS l b);have V:n<=10:=ad;rw[<-o]at M w I;refine⟨(true,0)::(false,0)::(e++((true,0)::e).flatMap fun c=>(List.range (Orb.lim n)).map fun q=>(false,jA l b (gm l b c) q)),?_,?_⟩
  ·have j:(((true,0)::e).flatMap fun c=>(List.range (Orb.lim n)).map fun q=>((false,jA l b (gm l b c) q):St)).length<=(e.length+1)*Orb.lim n:=by
    have:=wY (fun c=>(List.range (Orb.lim n)).map fun q=>((false,jA l b (gm l b c) q):St)) (fun _=>Orb.lim n) ((true,0)::e) (fun c _=>ak);have h:∀k:List St,(k.map fun _=>Orb.lim n).sum=k.length*Orb.lim n:=by
     intro k;induction k with
     |nil=>simp
     |cons a t ih=>simp only[gd,iI,ih,db,BW];omega
    rw[h]at this;simpa using this
   simp only[db,cR];have d:(e.length+1)*Orb.lim n<=2^(10-n)*Orb.lim n:=xU _ w;have E:n=8∨n=9∨n=10:=ad;rcases E with rfl|rfl|rfl
   ·have u:2^(10-8)=4:=ap
    have v:Orb.lim 8=62:=ap;rw[u]at w d;rw[v]at j d⊢;omega
   ·have u:2^(10-9)=2:=ap
    have v:Orb.lim 9=126:=ap;rw[u]at w d;rw[v]at j d⊢;omega
   ·have u:2^(10-10)=1:=ap
    have v:Orb.lim 10=254:=ap;rw[u]at w d;rw[v]at j d⊢;omega
  ·have S:∀s,qZ (true,0) (cB l (bm (aI l))) s->s=(true,0)∨s=(false,0)∨s∈e∨∃c∈((true,0)::e:List St),∃k,s=(false,jA l b (gm l b c) k):=by
    intro s g;induction g with
    |first=>exact .inl rfl
    |next g B ih=>
     rename_i s t;obtain⟨x,i,h,C⟩:=FE y B;by_cases J:x=b
     ·subst J
      rcases ih with rfl|rfl|f|⟨c,A,k,rfl⟩
      ·exact .inr (.inr (.inr ⟨_,dM,0,h⟩))
      ·refine .inr (.inl ?_)
       rw[h];have:aC (0:Nat)=[]:=qr;simp only[this,df,List.foldl_nil];simp
      ·exact .inr (.inr (.inr ⟨s,dt _ f,0,h⟩))
      ·exact .inr (.inr (.inr ⟨c,A,k+1,h⟩))
     ·by_cases D:t=(false,0)
      ·exact .inr (.inl D)
      ·refine .inr (.inr (.inl ?_))
       rw[H];refine rL.2 ⟨x,?_,nR.2 ⟨C,by simpa using D⟩⟩;rw[z,nR];exact⟨i,by simpa using J⟩
   intro s g;rcases S s g with rfl|rfl|f|⟨c,A,k,rfl⟩
   ·exact dM
   ·exact dt _ dM
   ·exact dt _ (dt _ (IN _ f))
   ·obtain⟨q,j,d⟩:=Pv (l:=l) (x:=b) (m:=gm l b c) y ad (by unfold gm;exact tC (lN l b _ ad)) (Pw y c) k
    rw[d];refine dt _ (dt _ (q1 _ (rL.2 ⟨c,A,fH.2 ⟨q,gt.2 (by rw[o];exact j),rfl⟩⟩)))
 ·have K:∀n∈(bm (aI l)).map (gS l),1<=n/\n<=7:=by
   intro n o;obtain⟨x,i,rfl⟩:=fH.1 o;refine⟨R x i,?_⟩;rcases jg (gS l x) 8 with f|f
   ·omega
   ·exact absurd ⟨x,i,f⟩ F
  have r:=FI _ 10 K ad ad;refine⟨(true,0)::(bm (aI l)).flatMap (nK l),?_,?_⟩
  ·have j:=wY (nK l) (fun x=>2^gS l x) (bm (aI l)) (fun x _=>BJ (FG l x))
   rw[List.map_map]at r;have h:wX 10=136:=ap;rw[h]at r;simp only[db];have d:((bm (aI l)).map fun x=>2^gS l x).sum<=136:=r;omega
  ·intro s g
   cases g with
   |first=>exact dM
   |next g B=>
    obtain⟨x,i,_,C⟩:=FE y B;exact dt _ (rL.2 ⟨x,i,C⟩)
theorem Py{l:List aj}(f:bG l=0)(i:l.length<=60)(g:kY l<=10)(n:Nat)(keys:List St)(o:List (List Nat))(k:St)(b:eL (true,0) 256 (cB l (bm (aI l))) n=some (keys,o))
 (h:keys[n]?=some k):eK 256 keys (cB l (bm (aI l)) k)≠none:=by
 intro j;obtain⟨L,p,c⟩:=Px f i g;have T:=qU ad n _ b;obtain⟨big,d,q,e⟩:=Po T.nodup T.most _ _ rfl j;have:=tF big L d fun x m=>c x (by
  rcases e x m with a|a
  ·exact Fz ad n _ b x a
  ·exact .next (Fz ad n _ b k (aX h)) a)
 omega
theorem Pz(l:List aj):(l.flatMap bO).length+2*(l.filter fun n=>decide (n.op=2)).length<=2*l.length:=by
 induction l with
 |nil=>simp
 |cons a t ih=>
  rw[uh,cR,db,rD];by_cases b:a.op=2
  ·have:bO a=[]:=by unfold bO;rw[au ad,au ad]
   rw[this,ay (by simpa using b)];simp only[ge,db];omega
  ·have:(bO a).length<=2:=by unfold bO;split<;>(try split)<;>simp
   rw[au (by simpa using b)];omega
theorem tI(l:List aj):kY l=(l.filter fun n=>decide (n.op=2)).length:=by
 unfold kY;have:∀(l:List aj),(List.range l.length).filter (fun p=>(re l p).isSome)=(List.range l.length).filter (fun p=>(l[p]?.map fun n=>decide (n.op=2)).getD false):=by
  intro l;congr 1
  funext p
  unfold re;cases l[p]? with
  |none=>rfl
  |some n=>by_cases b:n.op=2<;>simp[b]
 rw[this];clear this;induction l with
 |nil=>rfl
 |cons a t ih=>
  rw[db,List.range_succ_eq_map,rD,List.filter_map,rD];have c:(List.range t.length).filter ((fun p=>(((a::t)[p]?).map fun n=>decide (n.op=2)).getD false)∘Nat.succ)=(List.range t.length).filter (fun p=>(t[p]?.map fun n=>decide (n.op=2)).getD false):=by congr 1
  rw[c];by_cases b:a.op=2
  ·simp[b,ih]
  ·simp[b,ih]
theorem PC{l:List aj}(a:iu l=true):2*kY l<=l.length+1:=by
 unfold iu at a;rw[cS,cS,l4]at a;obtain⟨⟨_,d⟩,_⟩:=a;have b:=tF (List.range (l.length-1)) (l.flatMap bO) List.nodup_range (fun j c=>by
  have:=d j c;unfold cV at this;have f:(l.flatMap bO).count j=1:=by simpa using this
  exact Bc.1 ad)
 rw[IT]at b;have e:=Pz l;rw[tI];omega
theorem PD{l:List aj}(a:bG l=0):iu l=true:=by
 unfold bG at a;split at a
 ·cases a
 split at a
 ·cases a
 rename_i b;simpa using b
section
open PRegex
def kE(l:List aj):St->List Bytes->St
 |s,[]=>s
 |s,x::xs=>kE l (false,gm l x s) xs
theorem Af(l:List aj):∀(xs:List Bytes) (s:St) (x:Bytes),kE l s (xs++[x])=(false,gm l x (kE l s xs))
 |[],s,x=>rfl
 |y::xs,s,x=>Af l xs _ x
theorem FN{l:List aj}(e:l.length<=60)(x:Bytes)(s:St):lM l (false,gm l x s):=by refine⟨tC (lN l x _ ad),fun p a=> ?_⟩;simp only[gm,mP,cS]at a;obtain⟨_,d,b,c,_⟩:=nJ l x p _ a.2;exact⟨d,b,c⟩
theorem Ag{l:List aj}(b:Bool)(ps:List Nat)(t:Nat)(f:t<64):(df l b ps).testBit t=true↔(b=true/\(cE (aQ l (l.length-1))).testBit t=true)∨∃p∈ps,(cK l p).testBit t=true:=by
 cases b with
 |false=>rw[rg l ps t f];simp
 |true=>
  have g:df l true ps=dq (aC (cE (aQ l (l.length-1))))|||df l false ps:=by
   unfold df;simp only[iG,j8,jl];generalize dq (aC (cE (aQ l (l.length-1))))=c;have:∀(ps:List Nat) (c d:Nat),ps.foldl (fun c p=>c|||dq (aC (cK l p))) (c|||d)=c|||ps.foldl (fun c p=>c|||dq (aC (cK l p))) d:=by
    intro ps;induction ps with
    |nil=>intro c d;rfl
    |cons a ps ih=>intro c d;rw[nT,nT,Nat.or_assoc,ih]
   have e:=this ps c 0;rwa[Nat.or_zero]at e
  rw[g,oY,di,rg l ps t f,qY,ft];constructor
  ·rintro(e|e)
   ·exact .inl ⟨rfl,(iA e).2⟩
   ·exact .inr e
  ·rintro(⟨_,e⟩|e)
   ·exact .inl (p6 f e)
   ·exact .inr e
theorem rh{m t:Nat}(c:m<18446744073709551616)(b:m.testBit t=true):t<64:=by
 rcases jg t 64 with a|a
 ·exact a
 ·rw[AR (dn c (qg ad a:2^64<=2^t))]at b;cases b
theorem xe{l:List aj}(hF:dP l)(b:l.length<=60){s:St}(f:lM l s){p:Nat}(a:(df l s.1 (aC s.2)).testBit p=true):∃n,l[p]?=some n/\n.op=2:=by
 rcases(Ag s.1 _ p (rh (oK l _ _) a)).1 a with⟨_,a⟩|⟨q,e,a⟩
 ·exact(sX hF b).2 p a
 ·obtain⟨g,c,d⟩:=f.2 q (iA e).2
  exact(sY hF b c d).2 p a
theorem xf{l:List aj}{x:Bytes}{s:St}(hF:dP l)(e:l.length<=60)(f:lM l s)(p:Nat):(gm l x s).testBit p=true↔(df l s.1 (aC s.2)).testBit p=true/\fU l p=x:=by
 unfold gm;simp only[mP,cS];constructor
 ·rintro⟨b,c⟩
  obtain⟨_,g,a,_,d⟩:=nJ l x p _ c;exact⟨b,by rw[vn a,d]⟩
 ·rintro⟨b,c⟩
  obtain⟨g,a,d⟩:=xe hF e f b;exact⟨b,Ad a d (by rw[<-vn a];exact c) _ (aL.1 a).1⟩
theorem PE{l:List aj}{x:Bytes}{s:St}(hF:dP l)(b:l.length<=60)(f:lM l s)(q:Nat):(df l false (aC (gm l x s))).testBit q=true↔∃p,(df l s.1 (aC s.2)).testBit p=true/\fU l p=x/\(aQ l (l.length-1)).pairs p q=true:=by
 constructor
 ·intro h
  obtain⟨p,j,a⟩:=(rg l _ q (rh (oK l _ _) h)).1 h;obtain⟨c,g⟩:=(xf hF b f p).1 (iA j).2;obtain⟨n,d,e⟩:=xe hF b f c;exact⟨p,c,g,by rw[<-vm hF d e];exact a⟩
 ·rintro⟨p,a,c,g⟩
  obtain⟨n,d,e⟩:=xe hF b f a;have i:(cK l p).testBit q=true:=by rw[vm hF d e];exact g
  have m:q<64:=rh (sY hF b d e).1 i;exact(rg l _ q m).2 ⟨p,p6 (rh (oK l _ _) a) ((xf hF b f p).2 ⟨a,c⟩),i⟩
theorem FO{l:List aj}(hF:dP l)(a:l.length<=60)(q:Nat):∀(xs:List Bytes) (s:St),lM l s->((df l (kE l s xs).1 (aC (kE l s xs).2)).testBit q=true↔nZ (fU l) (aQ l (l.length-1)) (fun p=>(df l s.1 (aC s.2)).testBit p=true) xs q)
 |[],s,_=>Iff.rfl
 |x::xs,s,b=>by
  unfold kE nZ;rw[FO hF a q xs _ (FN a x s)];have:(fun p=>(df l (false,gm l x s).1 (aC (false,gm l x s).2)).testBit p=true)=fun q=>∃p,(df l s.1 (aC s.2)).testBit p=true/\fU l p=x/\(aQ l (l.length-1)).pairs p q=true:=by
   funext q
   exact propext (PE hF a b q)
  rw[this]
theorem FP{l:List aj}(b:l.length<=60):∀(xs:List Bytes) (s:St),lM l s->lM l (kE l s xs)
 |[],s,a=>a
 |x::xs,s,a=>FP b xs _ (FN b x s)
theorem Ah(l:List aj)(p:Nat):∀n,(eM l n).testBit p=true↔p<n/\(∃c,l[p]?=some c/\c.op=2)/\(dJ (aQ l (l.length-1))).testBit p=true
 |0=>by simp[eM]
 |n+1=>by
  unfold eM;have ih:=Ah l p n;cases h:l[n]? with
  |none=>
   simp only;rw[ih];constructor
   ·rintro⟨d,a⟩;exact⟨ad,a⟩
   ·rintro⟨d,⟨c,a,e⟩,f⟩
    refine⟨?_,⟨c,a,e⟩,f⟩;rcases jg p n with b|b
    ·exact b
    ·obtain rfl:p=n:=ad
     rw[h]at a;cases a
  |some c=>
   simp only;split
   ·rename_i g
    rw[oY,di,qY,ft,ih];constructor
    ·rintro(⟨d,a⟩|b)
     ·exact⟨ad,a⟩
     ·simp at b;subst b;exact⟨ad,⟨c,h,g.1⟩,g.2⟩
    ·rintro⟨d,a⟩
     by_cases i:p=n
     ·exact .inr (by simp[i])
     ·exact .inl ⟨ad,a⟩
   ·rename_i g
    rw[ih];constructor
    ·rintro⟨d,a⟩;exact⟨ad,a⟩
    ·rintro⟨d,⟨j,a,e⟩,f⟩
     refine⟨?_,⟨j,a,e⟩,f⟩;rcases jg p n with b|b
     ·exact b
     ·obtain rfl:p=n:=ad
      rw[h]at a;injection a with a;subst a
      exact absurd ⟨e,f⟩ g
theorem FQ{l:List aj}(hF:dP l)(d:l.length<=60)(xs:List Bytes):kX l (kE l (true,0) xs)=true↔gW l xs:=by
 have y:=hF.ne;have B:0<l.length:=by cases l with|nil=>exact absurd rfl y|cons a b=>simp
 rcases BQ xs with rfl|⟨ys,x,rfl⟩
 ·unfold gW
  rw[MW_nil];simp[kE,kX,factN,mC]
 ·simp only[BR]
  unfold gW;rw[CU (fU l) _ (sw hF ad).1 _ ak,Af];have r:=FP d ys _ (Ac l);have o:=fun p=>FO hF d p ys _ (Ac l);have v:(fun p=>(df l (true,(0:Nat)).1 (aC (true,(0:Nat)).2)).testBit p=true)=fun q=>(aQ l (l.length-1)).starts q=true:=by
   funext q
   apply propext;have n:aC (0:Nat)=[]:=qr;constructor
   ·intro c
    rcases(Ag true _ q (rh (oK l _ _) c)).1 c with⟨_,c⟩|⟨p,s,_⟩
    ·rwa[kO]at c
    ·simp only[n]at s;cases s
   ·intro c
    rw[<-kO]at c;exact(Ag true _ q (rh (sX hF d).1 c)).2 (.inl ⟨rfl,c⟩)
  rw[v]at o;have w:kX l (false,gm l x (kE l (true,0) ys))=true↔∃p,(gm l x (kE l (true,0) ys)).testBit p=true/\(eM l l.length).testBit p=true:=by
   unfold kX;simp only[um,Ba,Bool.not_eq_true',eu,ne_eq];constructor
   ·intro c
    apply ei;intro z;apply c;apply Nat.eq_of_testBit_eq;intro j;rw[mP,Nat.zero_testBit];cases u:(gm l x (kE l (true,0) ys)).testBit j with
    |false=>rfl
    |true=>
     cases n:(eM l l.length).testBit j with
     |false=>rfl
     |true=>exact absurd ⟨j,u,n⟩ z
   ·rintro⟨p,e,f⟩ c
    have:=jk (fun m=>Nat.testBit m p) c;simp[mP,e,f]at this
  rw[w];simp only[List.dropLast_concat,List.getLast?_append,List.getLast?_singleton,Option.some_or];constructor
  ·rintro⟨p,e,f⟩
   obtain⟨i,g⟩:=(xf hF d r p).1 e;obtain⟨_,_,h⟩:=(Ah l p _).1 f;exact⟨p,(o p).1 i,by rw[g],by rw[<-lA];exact h⟩
  ·rintro⟨p,e,f,i⟩
   have g:=(o p).2 e;obtain⟨A,h,t⟩:=xe hF d r g;exact⟨p,(xf hF d r p).2 ⟨g,by injection f⟩,(Ah l p _).2 ⟨(aL.1 h).1,⟨A,h,t⟩,by rw[lA];exact i⟩⟩
end
section
open PRegex
def cJ(l:List aj):List aj:=l++[dQ,⟨4,[],(l.length:Int)-1,(l.length:Int)⟩]
def et(l:List aj):List aj:=l++[⟨5,[],(l.length:Int)-1,0⟩]
theorem oL{l:List aj}(a:bG l=0):l.length<=1024/\iu l=true/\l.any (fun n=>decide (n.op=2)&& !cH n.sym)=false:=by
 unfold bG at a;split at a
 ·exact absurd a ap
 ·split at a
  ·exact absurd a ap
  ·split at a
   ·exact absurd a ap
   ·rename_i d b c
    exact⟨ad,by simpa using b,by simpa using c⟩
theorem FR{l:List aj}(c:l.length<=1024)(a:iu l=true)(b:l.any (fun n=>decide (n.op=2)&& !cH n.sym)=false):bG l=0:=by unfold bG;rw[au ad,au (by simp[a]),au (by simp[b])]
theorem q2{l:List aj}(c:ey 0 l=true)(d:l≠[])(e:∀j,j<l.length-1->cV l j=1):iu l=true:=by unfold iu;rw[c,rJ,cS,l4];exact⟨fun j f=>by rw[e j (gt.1 f)];rfl,by cases l with|nil=>exact absurd rfl d|cons a b=>rfl⟩
theorem FT(l m:List aj)(j:Nat):cV (l++m) j=cV l j+cV m j:=by unfold cV;rw[ug,xG]
theorem Ai{l:List aj}(a:ey 0 l=true){j:Nat}(b:l.length<=j+1):cV l j=0:=by have:=Kc a l.length j (az _) b;rwa[kH]at this
theorem xg{l:List aj}(g:bG l=0)(q:l.length<=1022):bG (cJ l)=0:=by
 obtain⟨p,h,i⟩:=oL g;have hF:=mj h;obtain⟨n,d⟩:∃n,l.length=n+1:=⟨l.length-1,by have:=hF.ne;cases l with|nil=>exact absurd rfl this|cons a b=>simp⟩;refine FR (by simp[cJ];omega) (q2 ?_ (by simp[cJ]) ?_) (by simp[cJ,dQ,i])
 ·unfold cJ
  rw[uR,hF.ok,d];simp[ey,dO,dy,dQ];omega
 ·intro j e
  unfold cJ at e⊢;rw[FT];have r:j<n+2:=by simp[d]at e;omega
  have m:cV [dQ,⟨4,[],(l.length:Int)-1,(l.length:Int)⟩] j=[n,n+1].count j:=by unfold cV;rw[d];have f:(((n+1:Nat):Int)-1).toNat=n:=ad;have o:(((n+1:Nat):Int)).toNat=n+1:=ad;simp[bO,dQ,f]
  rw[m];rcases xN j n with c|c|c
  ·rw[hF.used j ad]
   have:[n,n+1].count j=0:=Is.2 aR;omega
  ·subst c
   rw[Ai hF.ok ad];simp
  ·obtain rfl:j=n+1:=ad
   rw[Ai hF.ok ad];simp
theorem tJ{l:List aj}(g:bG l=0)(p:l.length<=1023):bG (et l)=0:=by
 obtain⟨o,h,i⟩:=oL g;have hF:=mj h;obtain⟨n,d⟩:∃n,l.length=n+1:=⟨l.length-1,by have:=hF.ne;cases l with|nil=>exact absurd rfl this|cons a b=>simp⟩;refine FR (by simp[et];omega) (q2 ?_ (by simp[et]) ?_) (by simp[et,i])
 ·unfold et
  rw[uR,hF.ok,d];simp[ey,dO,dy];omega
 ·intro j e
  unfold et at e⊢;rw[FT];have q:j<n+1:=by simp[d]at e;omega
  have m:cV [⟨5,[],(l.length:Int)-1,0⟩] j=[n].count j:=by unfold cV;rw[d];have f:(((n+1:Nat):Int)-1).toNat=n:=ad;simp[bO,f]
  rw[m];rcases jg j n with c|c
  ·rw[hF.used j ad]
   have:[n].count j=0:=Is.2 aR;omega
  ·obtain rfl:j=n:=ad
   rw[Ai hF.ok ad];simp
theorem FU{l:List aj}(a:bG l=0)(b:l.length<=1022):aI (cJ l)=aI l:=by
 unfold aI;rw[ay (xg a b),ay a];congr 2
 simp[fB,cJ,dQ]
theorem FV{l:List aj}(a:bG l=0)(b:l.length<=1023):aI (et l)=aI l:=by
 unfold aI;rw[ay (tJ a b),ay a];congr 2
 simp[fB,et]
theorem PG(l:List aj):kY (cJ l)=kY l:=by rw[tI,tI];simp[cJ,dQ]
theorem PH(l:List aj):kY (et l)=kY l:=by rw[tI,tI];simp[et]
theorem FW(l m:List aj){j:Nat}(a:j<l.length):aQ (l++m) j=aQ l j:=by unfold aQ;rw[vh,yo _ _ _ (by rw[vi];simpa using a)]
theorem PJ(l m:List aj){j:Nat}(a:j<l.length):fU (l++m) j=fU l j:=by unfold fU;rw[eP a]
theorem PK{t:PT}{u:List Nat}(a:L t u):∀p∈u,t.inn p=true:=by
 induction a with
 |eps=>simp
 |sym p=>intro q e;simp at e;subst e;simp[PT.inn]
 |cat _ _ c d=>
  intro p b;rcases fA.1 b with a|a
  ·simp[PT.inn,c p a]
  ·simp[PT.inn,d p a]
 |altl _ a=>intro p b;simp[PT.inn,a p b]
 |altr _ a=>intro p b;simp[PT.inn,a p b]
 |nil=>simp
 |more _ _ c d=>
  intro p b;rcases fA.1 b with a|a
  ·have:=c p a;simpa[PT.inn]using this
  ·exact d p a
theorem Aj{c:Type}{f g:Nat->c}{t:PT}{b:List c}(d:MW f t b)(e:∀p,t.inn p=true->f p=g p):MW g t b:=by obtain⟨u,a,rfl⟩:=d;exact⟨u,a,IU fun p h=>(e p (PK a p h)).symm⟩
theorem Ak{l:List aj}(hF:dP l)(m:List aj){p:Nat}(c:(aQ l (l.length-1)).inn p=true):fU (l++m) p=fU l p:=by
 have d:0<l.length:=by have:=hF.ne;cases l with|nil=>exact absurd rfl this|cons a b=>simp
 have:=(sw hF (i:=l.length-1) ad).2 p c;exact PJ l m ad
theorem PM{l:List aj}(c:bG l=0)(i:l.length<=1022):aQ (cJ l) ((cJ l).length-1)=.alt (aQ l (l.length-1)) .eps:=by
 have hF:=mj (oL c).2.1;have d:=mj (oL (xg c i)).2.1;have j:0<l.length:=by have:=hF.ne;cases l with|nil=>exact absurd rfl this|cons a b=>simp
 have e:(cJ l).length-1=l.length+1:=by simp[cJ]
 rw[e,nY d.ok (n:=⟨4,[],(l.length:Int)-1,(l.length:Int)⟩) (by unfold cJ;rw[fZ ad];simp)];have f:((l.length:Int)-1).toNat=l.length-1:=ad;have g:aQ (cJ l) l.length=.eps:=by rw[nY d.ok (n:=dQ) (by unfold cJ;rw[fZ ad];simp)];rfl
 have h:aQ (cJ l) (l.length-1)=aQ l (l.length-1):=FW l _ ad;simp[eS,f,g,h]
theorem PN{l:List aj}(c:bG l=0)(h:l.length<=1023):aQ (et l) ((et l).length-1)=.star (aQ l (l.length-1)):=by
 have hF:=mj (oL c).2.1;have g:=mj (oL (tJ c h)).2.1;have i:0<l.length:=by have:=hF.ne;cases l with|nil=>exact absurd rfl this|cons a b=>simp
 have d:(et l).length-1=l.length:=by simp[et]
 rw[d,nY g.ok (n:=⟨5,[],(l.length:Int)-1,0⟩) (by unfold et;rw[fZ ad];simp)];have e:((l.length:Int)-1).toNat=l.length-1:=ad;have f:aQ (et l) (l.length-1)=aQ l (l.length-1):=FW l _ ad;simp[eS,e,f]
theorem FX{l:List aj}(d:bG l=0)(e:l.length<=1022)(c:List Bytes):gW (cJ l) c↔gW l c∨c=[]:=by
 have hF:=mj (oL d).2.1;unfold gW;rw[PM d e,MW_alt];constructor
 ·rintro(a|⟨u,f,rfl⟩)
  ·exact .inl (Aj a fun p b=>Ak hF _ b)
  ·cases f
   exact .inr rfl
 ·rintro(a|rfl)
  ·exact .inl (Aj a fun p b=>(Ak hF _ b).symm)
  ·exact .inr ⟨[],.eps,rfl⟩
theorem FY{l:List aj}(b:bG l=0)(d:l.length<=1023)(a:List Bytes)(e:gW l a∨a=[]):gW (et l) a:=by
 have hF:=mj (oL b).2.1;unfold gW;rw[PN b d,MW_star];rcases e with c|rfl
 ·cases a with
  |nil=>exact .inl rfl
  |cons x xs=>
   refine .inr ⟨(x::xs).length,ak,az _,?_,?_⟩
   ·rw[kH]
    exact Aj c fun p f=>(Ak hF _ f).symm
   ·rw[List.drop_length]
    exact⟨[],.nil,rfl⟩
 ·exact .inl rfl
theorem PO{l:List aj}(d:l.length<=1022):dX 4 0 [l,[dQ]]=some (cJ l):=by
 have c:∀l:List aj,l.map (eH 0)=l:=fun l=>by rw[IU (g:=id) (fun n _=> ?_),List.map_id];obtain⟨e,sym,a,b⟩:=n;simp[eH]
 unfold dX;rw[au ak,au (by simp[gA];omega)];simp only[gM,jr,ay,ge,mS];rw[au ad,c];simp[eH,dQ,cJ]
end
end Go.Proofs.YtnadadbndcdolaaGreatDoor
