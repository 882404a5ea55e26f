import Derived.Test.YtnadadbndcdolaaGreatDoorQaa
set_option linter.unusedVariables false
set_option linter.unusedSimpArgs false
set_option maxRecDepth 100000
set_option maxHeartbeats 0
namespace Go.Proofs.YtnadadbndcdolaaGreatDoor
open Go.RowKit Tryz
namespace Orb
section
variable{E:Nat->Nat->Prop}
def Wk(E:Nat->Nat->Prop):Nat->Nat->Nat->Prop
 |0,s,t=>s=t
 |k+1,s,t=>∃u,E s u/\Wk E k u t
theorem wk_add{a b s t:Nat}:Wk E (a+b) s t↔∃u,Wk E a s u/\Wk E b u t:=by
 induction a generalizing s with
 |zero=>simp[Wk]
 |succ a ih=>
  rw[Nat.succ_add];constructor
  ·rintro⟨u,c,f⟩
   obtain⟨v,d,e⟩:=ih.1 f;exact⟨v,⟨u,c,d⟩,e⟩
  ·rintro⟨v,⟨u,c,d⟩,e⟩
   exact⟨u,c,ih.2 ⟨v,d,e⟩⟩
theorem wk_path{k s t:Nat}(a:Wk E k s t):∃f:Nat->Nat,f 0=s/\f k=t/\∀i,i<k->E (f i) (f (i+1)):=by
 induction k generalizing s with
 |zero=>exact⟨fun _=>s,rfl,a,fun i h=>ad⟩
 |succ k ih=>
  obtain⟨u,e,g⟩:=a;obtain⟨f,c,d,j⟩:=ih g;refine⟨fun i=>if i=0 then s else f (i-1),ak,by simp[d],fun i h=> ?_⟩;by_cases b:i=0
  ·subst b;simp[c,e]
  ·have:=j (i-1) ad
   rw[show i-1+1=i by omega]at this;simp[b,this]
theorem path_wk{f:Nat->Nat}{k:Nat}(a:∀i,i<k->E (f i) (f (i+1))):∀d i,i+d<=k->Wk E d (f i) (f (i+d))
 |0,_,_=>rfl
 |d+1,i,b=>⟨f (i+1),a i ad,by have:=path_wk a d (i+1) ad;rwa[show i+1+d=i+(d+1) by omega]at this⟩
theorem path_sub{f:Nat->Nat}{k i j:Nat}(a:∀i,i<k->E (f i) (f (i+1)))(b:i<=j)(c:j<=k):Wk E (j-i) (f i) (f j):=by have:=path_wk a (j-i) i ad;rwa[show i+(j-i)=j by omega]at this
theorem pig:∀(n:Nat) (V:List Nat) (f:Nat->Nat),V.length=n->(∀i,i<=n->f i∈V)->∃i j,i<j/\j<=n/\f i=f j
 |0,V,f,b,a=>by have:=a 0 (az _);rw[rF.1 b]at this;cases this
 |n+1,V,f,b,a=>by
  by_cases e:∃i,i<=n/\f i=f (n+1)
  ·obtain⟨i,c,d⟩:=e
   exact⟨i,n+1,ad,az _,d⟩
  ·have m:=a (n+1) (az _)
   obtain⟨i,j,c,d,h⟩:=pig n (V.erase (f (n+1))) f (by rw[IS m,b];rfl) (fun i l=>by rw[BV (fun g=>e ⟨i,l,g⟩)];exact a i ad)
   exact⟨i,j,c,ad,h⟩
theorem least{p:Nat->Prop}{m:Nat}(b:p m):∃k,p k/\∀q,q<k->¬p q:=by
 induction m using Nat.strongRecOn with
 |_ m ih=>
  by_cases a:∃q,q<m/\p q
  ·obtain⟨q,c,d⟩:=a;exact ih q c d
  ·exact⟨m,b,fun q f e=>a ⟨q,f,e⟩⟩
theorem stands{n j y:Nat}{V:List Nat}(w:V.length=n)(v:∀s u,E s u->u∈V)(H:y∈V)(z:Wk E j y y):∀q t,(n-1)*j<=q->(Wk E (q+j) y t↔Wk E q y t):=by
 have A:∀k s t,s∈V->Wk E k s t->t∈V:=by
  intro k;induction k with
  |zero=>intro s t d a;cases a;exact d
  |succ k ih=>intro s t d a;obtain⟨u,b,c⟩:=a;exact ih u t (v _ _ b) c
 have up:∀i t,Wk E (i*j) y t->Wk E ((i+1)*j) y t:=by intro i t a;rw[BW,BN];exact wk_add.2 ⟨y,z,a⟩
 have I:∃i,i<n/\∀t,Wk E ((i+1)*j) y t->Wk E (i*j) y t:=by
  apply ei;intro C;have x:∀i,i<n->∃t,Wk E ((i+1)*j) y t/\¬Wk E (i*j) y t:=by intro i f;apply ei;intro G;exact C ⟨i,f,fun t g=>ei fun B=>G ⟨t,g,B⟩⟩
  have key:∀i,i<=n->∃L:List Nat,L.Nodup/\L.length=i+1/\∀t∈L,Wk E (i*j) y t:=by
   intro i;induction i with
   |zero=>intro _;exact⟨[y],ak,rfl,fun t g=>by simp at g;subst g;rw[ui];rfl⟩
   |succ i ih=>
    intro f;obtain⟨L,b,c,e⟩:=ih ad;obtain⟨t,p,r⟩:=x i ad;refine⟨t::L,nS.2 ⟨fun l=>r (e t l),b⟩,by simp[c],fun s d=> ?_⟩;rcases du.1 d with rfl|d
    ·exact p
    ·exact up i s (e s d)
  obtain⟨L,b,c,e⟩:=key n (az _);obtain⟨i,k,J,M,h⟩:=pig n V (fun i=>L.getD i 0) w (fun i f=>by
   have l:L.getD i 0∈L:=by rw[fp,aH (ad:i<L.length)];simp
   exact A _ _ _ H (e _ l))
  rw[fp,fp,aH (ad:i<L.length),aH (ad:k<L.length)]at h;simp only[qj]at h;have:=(List.getElem_inj b).1 h;omega
 obtain⟨i,f,F⟩:=I;intro q t D;have K:i*j<=q:=aJ (xU j (ad:i<=n-1)) D;have m:q=i*j+(q-i*j):=ad;have o:q+j=(i+1)*j+(q-i*j):=by rw[BW];omega
 constructor
 ·intro a
  rw[o]at a;obtain⟨u,b,c⟩:=wk_add.1 a;rw[m];exact wk_add.2 ⟨u,F u b,c⟩
 ·intro a
  rw[m]at a;obtain⟨u,b,c⟩:=wk_add.1 a;rw[o];exact wk_add.2 ⟨u,up i u b,c⟩
theorem stands_mul{n j y:Nat}{V:List Nat}(b:V.length=n)(a:∀s u,E s u->u∈V)(f:y∈V)(d:Wk E j y y)(c:Nat):∀q t,(n-1)*j<=q->(Wk E (q+c*j) y t↔Wk E q y t):=by
 induction c with
 |zero=>intro q t _;simp
 |succ c ih=>
  intro q t e;rw[BW,<-iE];exact(stands b a f d _ t ad).trans (ih q t e)
def Round(E:Nat->Nat->Prop)(V:List Nat)(m:Nat):Prop:=0<m/\∃g:Nat->Nat,g 0=g m/\(∀i,i<=m->g i∈V)/\∀i,i<m->E (g i) (g (i+1))
theorem foldErase{C:List Nat}:∀{V:List Nat},C.Nodup->(∀v∈C,v∈V)->(C.foldl List.erase V).length+C.length=V.length/\(∀v∈V,v∈C∨v∈C.foldl List.erase V)/\∀v∈C.foldl List.erase V,v∈V:=by
 induction C with
 |nil=>intro V _ _;exact⟨ak,fun v b=>.inr b,fun v b=>b⟩
 |cons a C ih=>
  intro V j g;have e:=g a (dM);have f:=nS.1 j;obtain⟨l,h,i⟩:=ih (V:=V.erase a) f.2 (fun v b=>(BV (fun c=>f.1 (by rw[<-c];exact b))).2 (g v (dt _ b)));have m:=IS e;have n:=BM e;refine⟨by simp only[nT,db];omega,fun v b=> ?_,fun v b=>List.mem_of_mem_erase (i v b)⟩;by_cases c:v=a
  ·exact .inl (by simp[c])
  ·rcases h v ((BV c).2 b)with d|d
   ·exact .inl (dt _ d)
   ·exact .inr d
theorem rounds:∀(n:Nat) (V:List Nat),V.length=n->∃(l e:List Nat),l.sum+e.length=n/\(∀j∈l,0<j)/\(∀v∈V,v∈e∨∃j∈l,Wk E j v v)/\
 (¬∃f:Nat->Nat,(∀i,i<=e.length->f i∈e)/\∀i,i<e.length->E (f i) (f (i+1)))/\(∀j rest,l=j::rest->∀m,Round E V m->j<=m)/\∀v∈e,v∈V:=by
 intro n;induction n using Nat.strongRecOn with
 |_ n ih=>
  intro V K;by_cases y:∃f:Nat->Nat,(∀i,i<=V.length->f i∈V)/\∀i,i<V.length->E (f i) (f (i+1))
  ·obtain⟨f,u,F⟩:=y
   obtain⟨i,j,Y,h,H⟩:=pig V.length V f rfl u;have N:Round E V (j-i):=⟨ad,fun k=>f (i+k),by show f (i+0)=f (i+(j-i));rw[jX,show i+(j-i)=j by omega];exact H,fun k t=>u _ ad,fun k t=>F (i+k) ad⟩;obtain⟨m,⟨L,g,I,z,s⟩,A⟩:=least (p:=Round E V) N;have J:∀a b,a<b->b<m->g a≠g b:=by intro a b w x o;exact A (b-a) ad ⟨ad,fun k=>g (a+k),by show g (a+0)=g (a+(b-a));rw[jX,show a+(b-a)=b by omega];exact o,fun k t=>z _ ad,fun k t=>s (a+k) ad⟩
   have G:((List.range m).map g).Nodup:=by rw[List.nodup_iff_pairwise_ne,List.pairwise_map];refine List.Pairwise.imp_of_mem ?_ (List.pairwise_lt_range (n:=m));intro a b r x w;exact J a b w (gt.1 x)
   obtain⟨O,P,Q⟩:=foldErase (V:=V) G (fun v d=>by obtain⟨a,r,rfl⟩:=fH.1 d;exact z a (by have:=gt.1 r;omega))
   rw[cf,IT]at O;obtain⟨l,e,Z,R,S,T,_,W⟩:=ih _ ad (((List.range m).map g).foldl List.erase V) rfl;have C:∀a,a<m->Wk E m (g a) (g a):=by intro a r;have B:Wk E (m-a) (g a) (g m):=path_sub s ad (az _);have X:Wk E (a-0) (g 0) (g a):=path_sub s ad ad;rw[<-I]at B;have:=wk_add.2 ⟨_,B,X⟩;rwa[show m-a+(a-0)=m by omega]at this
   refine⟨m::l,e,by simp only[iI];omega,fun j h=> ?_,fun v d=> ?_,T,fun j rest o q M=> ?_,fun v d=>Q v (W v d)⟩
   ·rcases du.1 h with rfl|c
    ·exact L
    ·exact R j c
   ·rcases P v d with c|c
    ·obtain⟨a,r,rfl⟩:=fH.1 c
     exact .inr ⟨m,dM,C a (gt.1 r)⟩
    ·rcases S v c with c|⟨j,h,c⟩
     ·exact .inl c
     ·exact .inr ⟨j,dt _ h,c⟩
   ·injection o with D _
    subst D;rcases jg q m with c|c
    ·exact absurd M (A q c)
    ·exact c
  ·exact⟨[],V,by simp[K],fun j h=>(by cases h),fun v d=>.inl d,y,fun j rest o=>(by cases o),fun v d=>d⟩
end
def prod:List Nat->Nat
 |[]=>1
 |j::a=>j*prod a
theorem dvd_prod{b:List Nat}{j:Nat}(d:j∈b):∃c,prod b=c*j:=by
 induction b with
 |nil=>cases d
 |cons a b ih=>
  rcases du.1 d with rfl|d
  ·exact⟨prod b,by rw[prod,Nat.mul_comm]⟩
  ·obtain⟨c,e⟩:=ih d
   exact⟨a*c,by rw[prod,e,Nat.mul_assoc]⟩
theorem le_sum{a:List Nat}{j:Nat}(c:j∈a):j<=a.sum:=by
 induction a with
 |nil=>cases c
 |cons b a ih=>
  simp only[iI];rcases du.1 c with rfl|d
  ·omega
  ·have:=ih d;omega
theorem prod_pos{b:List Nat}(c:∀j∈b,0<j):0<prod b:=by
 induction b with
 |nil=>exact Nat.one_pos
 |cons a b ih=>exact Nat.mul_pos (c a dM) (ih fun j d=>c j (dt _ d))
def most(s:Nat):Nat:=[1,1,2,3,4,6,9,12,18,27,36].getD s 0
theorem prod_le{b:List Nat}:∀{s},b.sum<=s->s<=10->(∀j∈b,0<j)->prod b<=most s:=by
 induction b with
 |nil=>
  intro s _ h _;have:∀s,s<11->1<=most s:=ap;exact this s ad
 |cons a b ih=>
  intro s d h c;simp only[iI]at d;have e:=ih (s:=s-a) ad ad (fun j g=>c j (dt _ g));have f:=c a dM;have:∀s,s<11->∀a,a<11->0<a->a<=s->a*most (s-a)<=most s:=ap;exact aJ (uI a e) (this s ad a ad f ad)
theorem prod_one{c:List Nat}{b s:Nat}(f:b∈c)(h:c.sum<=s)(r:s<=10)(e:∀j∈c,0<j):prod c<=b*most (s-b):=by
 induction c generalizing s with
 |nil=>cases f
 |cons a c ih=>
  simp only[iI]at h;have l:=e a dM;rcases du.1 f with rfl|g
  ·exact uI _ (prod_le ad ad (fun j d=>e j (dt _ d)))
  ·have i:=ih g (s:=s-a) ad ad (fun j d=>e j (dt _ d))
   have q:b<=c.sum:=le_sum g;have m:∀s,s<11->∀a,a<11->∀b,b<11->0<a->a+b<=s->a*most (s-a-b)<=most (s-b):=ap;have:=m s ad a ad b ad l ad;show a*prod c<=_
   have n:a*prod c<=a*(b*most (s-a-b)):=uI a i;have o:a*(b*most (s-a-b))=b*(a*most (s-a-b)):=by rw[Nat.mul_left_comm]
   have p:b*(a*most (s-a-b))<=b*most (s-b):=uI b this;omega
theorem max_of(c:List Nat)(i:c≠[]):∃d∈c,∀j∈c,j<=d:=by
 induction c with
 |nil=>exact absurd rfl i
 |cons a c ih=>
  by_cases e:c=[]
  ·subst e;exact⟨a,ak,fun j b=>by simp at b;omega⟩
  ·obtain⟨d,g,f⟩:=ih e
   by_cases h:a<=d
   ·exact⟨d,dt _ g,fun j b=>by rcases du.1 b with rfl|b;exact h;exact f j b⟩
   ·exact⟨a,dM,fun j b=>by rcases du.1 b with rfl|b;exact az _;have:=f j b;omega⟩
def Im(E:Nat->Nat->Prop)(S:Nat->Prop)(k t:Nat):Prop:=∃s,S s/\Wk E k s t
def lim(n:Nat):Nat:=if n<=8 then 62 else if n=9 then 126 else 254
theorem few_lim(n:Nat)(j:n<11)(s:Nat)(l:s<11)(a:Nat)(h:a<11)(c:0<a)(d:a<=s)(e:s<=n)(f:¬(a=8/\n=8)):(n-s)+(n-1)*a+a*most (s-a)<=lim n:=by
 have i:((List.range 11).all fun n=>(List.range 11).all fun s=>(List.range 11).all fun a=> !(decide (0<a)&&decide (a<=s)&&decide (s<=n)&& !(a==8&&n==8))||decide ((n-s)+(n-1)*a+a*most (s-a)<=lim n))=true:=by decide+kernel
 have b:=l4.1 (l4.1 (l4.1 i n (gt.2 j)) s (gt.2 l)) a (gt.2 h);have g:(a==8&&n==8)=false:=by
  cases b:(a==8&&n==8)with
  |false=>rfl
  |true=>exact absurd (by simpa using b) f
 simpa[c,d,e,g]using b
theorem again{E:Nat->Nat->Prop}{n:Nat}{V:List Nat}(D:V.length=n)(ba:n<=10)(ao:∀s u,E s u->s∈V/\u∈V)(S:Nat->Prop)(C:∀s,S s->s∈V):
 ∃Q P,0<P/\Q+P<=lim n/\∀k t,Q<=k->(Im E S (k+P) t↔Im E S k t):=by
 have H:∀s u,E s u->u∈V:=fun s u w=>(ao s u w).2;obtain⟨e,x,A,r,a5,a6,a7,bc⟩:=rounds (E:=E) n V D;have a1:∀v,v∈V->v∈x∨∃j∈e,Wk E j v v:=a5;have aa:∀k (f:Nat->Nat),f 0∈V->(∀i,i<k->E (f i) (f (i+1)))->∀i,i<=k->f i∈V:=by
  intro k f an o i p;cases i with
  |zero=>exact an
  |succ i=>exact H _ _ (o i ad)
 by_cases T:e=[8]/\n=8
 ·obtain⟨af,ag⟩:=T
  have a0:∀m,Round E V m->8<=m:=a7 8 [] af;subst ag;have first:∀s t k,s∈V->Wk E (k+8) s t->Wk E 8 s s/\Wk E k s t:=by intro s t k N w;rw[BN]at w;obtain⟨u,d,h⟩:=wk_add.1 w;obtain⟨f,f0,f8,o⟩:=wk_path d;have z:=aa 8 f (by rw[f0];exact N) o;obtain⟨i,j,a9,l,J⟩:=pig 8 V f D (fun i p=>z i p);have M:Round E V (j-i):=⟨ad,fun k=>f (i+k),by show f (i+0)=f (i+(j-i));rw[jX,show i+(j-i)=j by omega];exact J,fun k L=>z _ ad,fun k L=>o (i+k) ad⟩;have:=a0 _ M;obtain rfl:i=0:=ad;obtain rfl:j=8:=ad;rw[f0,f8]at J;subst J;exact⟨d,h⟩
  refine⟨8,8,ap,ap,fun k t L=>⟨fun⟨s,d,h⟩=>⟨s,d,(first s t k (C s d) h).2⟩,fun⟨s,d,h⟩=>⟨s,d,?_⟩⟩⟩;have R:=h;rw[show k=k-8+8 by omega]at R;rw[BN];exact wk_add.2 ⟨s,(first s t (k-8) (C s d) R).1,h⟩
 ·obtain⟨g,W,a8⟩:∃g,(∀j∈e,j<=g)/\x.length+(n-1)*g+prod e<=lim n:=by
   by_cases Y:e=[]
   ·subst Y
    refine⟨0,fun j l=>(by cases l),?_⟩;simp only[prod,Nat.mul_zero,jX];simp at A;rw[A];have:∀n,n<11->n+1<=lim n:=ap;exact this n ad
   ·obtain⟨g,d,h⟩:=max_of e Y
    refine⟨g,h,?_⟩;have bb:=prod_one d (az _) ad r;have B:g<=e.sum:=le_sum d;have aq:=r g d;have a4:¬(g=8/\n=8):=by
     rintro⟨rfl,rfl⟩;apply T;refine⟨?_,rfl⟩;match e,d,B,A,r with
     |[],d,_,_,_=>cases d
     |[a],d,_,_,_=>simp at d;rw[d]
     |a::b::ab,d,B,A,r=>
      simp only[iI]at A B;have F:=r a ak;have G:=r b ak;have M:∀q∈ab,q<=ab.sum:=fun q Z=>le_sum Z;rcases du.1 d with ae|d
      ·omega
      ·rcases du.1 d with ae|d
       ·omega
       ·have:=M 8 d;omega
    have:=few_lim n ad e.sum ad g ad aq B ad a4;omega
  refine⟨x.length+(n-1)*g,prod e,prod_pos r,ad,fun k t L=> ?_⟩;have X:∀q s,x.length<=q->s∈V->Wk E q s t->∃i y j,i<=x.length/\y∈V/\j∈e/\Wk E j y y/\Wk E i s y/\Wk E (q-i) y t:=by
   intro q s Z N w;obtain⟨f,f0,al,o⟩:=wk_path w;have z:=aa q f (by rw[f0];exact N) o;apply ei;intro a3;apply a6;refine⟨f,fun i p=> ?_,fun i p=>o i ad⟩;rcases a1 (f i) (z i ad)with d|⟨j,l,d⟩
   ·exact d
   ·exfalso
    apply a3;refine⟨i,f i,j,p,z i ad,l,d,?_,?_⟩
    ·have:=path_sub o (aZ i) (ad:i<=q)
     rwa[f0]at this
    ·have:=path_sub o (ad:i<=q) (az q)
     rwa[al]at this
  constructor
  ·rintro⟨s,d,h⟩
   obtain⟨i,y,j,p,O,l,K,F,G⟩:=X (k+prod e) s ad (C s d) h;obtain⟨c,I⟩:=dvd_prod l;have a2:(n-1)*j<=(n-1)*g:=uI _ (W j l);have av:Wk E (k-i+c*j) y t:=by rw[<-I,show k-i+prod e=k+prod e-i by omega];exact G
   have:=(stands_mul D H O K c (k-i) t ad).1 av;exact⟨s,d,by have:=wk_add.2 ⟨y,F,this⟩;rwa[show i+(k-i)=k by omega]at this⟩
  ·rintro⟨s,d,h⟩
   obtain⟨i,y,j,p,O,l,K,F,G⟩:=X k s ad (C s d) h;obtain⟨c,I⟩:=dvd_prod l;have a2:(n-1)*j<=(n-1)*g:=uI _ (W j l);have:=(stands_mul D H O K c (k-i) t ad).2 G;exact⟨s,d,by have:=wk_add.2 ⟨y,F,this⟩;rwa[<-I,show i+(k-i+prod e)=k+prod e by omega]at this⟩
theorem early{E:Nat->Nat->Prop}{n:Nat}{V:List Nat}(g:V.length=n)(h:n<=10)(e:∀s u,E s u->s∈V/\u∈V)(S:Nat->Prop)(f:∀s,S s->s∈V)(k:Nat):
 ∃q,q<lim n/\∀t,Im E S k t↔Im E S q t:=by
 obtain⟨a,P,i,l,b⟩:=again g h e S f;induction k using Nat.strongRecOn with
 |_ k ih=>
  by_cases j:k<a+P
  ·exact⟨k,ad,fun t=>Iff.rfl⟩
  ·obtain⟨q,c,d⟩:=ih (k-P) ad
   refine⟨q,c,fun t=> ?_⟩;have:=b (k-P) t ad;rw[show k-P+P=k by omega]at this;exact this.trans (d t)
end Orb
end Go.Proofs.YtnadadbndcdolaaGreatDoor
