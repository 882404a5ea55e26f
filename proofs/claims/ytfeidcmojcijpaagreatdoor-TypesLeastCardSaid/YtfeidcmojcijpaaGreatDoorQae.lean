import Derived.Test.YtfeidcmojcijpaaGreatDoorQaa
set_option linter.all false
set_option maxRecDepth 100000
set_option maxHeartbeats 0
namespace Go.Proofs.YtfeidcmojcijpaaGreatDoor
open Go.RowKit Tryz
namespace PRegex
inductive PT where
 |none|eps
 |sym (p:Nat)
 |cat (a b:PT)
 |alt (a b:PT)
 |star (a:PT)
def PT.null:PT->Bool
 | .none=>false| .eps=>true| .sym _=>false
 | .cat a b=>a.null&&b.null
 | .alt a b=>a.null||b.null
 | .star _=>true
def PT.zo:PT->Bool
 | .none=>false| .eps=>true| .sym _=>true
 | .cat a b=>a.zo&&b.zo
 | .alt a b=>a.zo||b.zo
 | .star _=>true
def PT.zl(p:Nat):PT->Bool
 | .none=>false| .eps=>false| .sym q=>q==p
 | .cat a b=>a.zl p||b.zl p
 | .alt a b=>a.zl p||b.zl p
 | .star a=>a.zl p
def PT.zq(p:Nat):PT->Bool
 | .none=>false| .eps=>false| .sym q=>q==p
 | .cat a b=>a.zq p&&b.zo||a.null&&b.zq p
 | .alt a b=>a.zq p||b.zq p
 | .star a=>a.zq p
def PT.zp(p:Nat):PT->Bool
 | .none=>false| .eps=>false| .sym q=>q==p
 | .cat a b=>a.zo&&b.zp p||a.zp p&&b.null
 | .alt a b=>a.zp p||b.zp p
 | .star a=>a.zp p
def PT.zr(p q:Nat):PT->Bool
 | .none=>false| .eps=>false| .sym _=>false
 | .cat a b=>a.zr p q&&b.zo||a.zo&&b.zr p q||a.zp p&&b.zq q
 | .alt a b=>a.zr p q||b.zr p q
 | .star a=>a.zr p q||a.zp p&&a.zq q
def PT.lin:PT->Prop
 | .cat a b=>a.lin/\b.lin/\∀p,a.zl p=true->b.zl p=true->False
 | .alt a b=>a.lin/\b.lin/\∀p,a.zl p=true->b.zl p=true->False
 | .star a=>a.lin
 |_=>True
inductive L:PT->List Nat->Prop
 |eps:L .eps []
 |sym (p):L (.sym p) [p]
 |cat {a b u v}:L a u->L b v->L (.cat a b) (u++v)
 |altl {a b u}:L a u->L (.alt a b) u
 |altr {a b u}:L b u->L (.alt a b) u
 |nil {a}:L (.star a) []
 |more {a p u v}:L a (p::u)->L (.star a) v->L (.star a) (p::u++v)
def Run(t:PT):Nat->List Nat->Prop
 |p,[]=>t.zp p=true
 |p,q::r=>t.zr p q=true/\Run t q r
def Loc(t:PT):List Nat->Prop
 |[]=>t.null=true
 |p::r=>t.zq p=true/\Run t p r
def L_null:∀t,t.null=true->L t []
 | .none,c=>by simp[PT.null]at c
 | .eps,_=>.eps
 | .sym _,c=>by simp[PT.null]at c
 | .cat a b,c=>by simp only[PT.null,cM]at c;exact L.cat (L_null a c.1) (L_null b c.2)
 | .alt a b,c=>by
    simp only[PT.null,dA]at c;rcases c with c|c
    exact .altl (L_null a c);exact .altr (L_null b c)
 | .star _,_=>.nil
def starts_inn{p}:∀t:PT,t.zq p=true->t.zl p=true
 | .none,c=>c
 | .eps,c=>c
 | .sym _,c=>c
 | .cat a b,c=>by
    simp only[PT.zq,PT.zl,dA,cM]at c⊢;rcases c with c|c
    exact .inl (starts_inn a c.1);exact .inr (starts_inn b c.2)
 | .alt a b,c=>by simp only[PT.zq,PT.zl,dA]at c⊢;exact c.imp (starts_inn a) (starts_inn b)
 | .star a,c=>starts_inn a c
def ends_inn{p}:∀t:PT,t.zp p=true->t.zl p=true
 | .none,c=>c
 | .eps,c=>c
 | .sym _,c=>c
 | .cat a b,c=>by
    simp only[PT.zp,PT.zl,dA,cM]at c⊢;rcases c with c|c
    exact .inr (ends_inn b c.2);exact .inl (ends_inn a c.1)
 | .alt a b,c=>by simp only[PT.zp,PT.zl,dA]at c⊢;exact c.imp (ends_inn a) (ends_inn b)
 | .star a,c=>ends_inn a c
def pairs_inn{p q}:∀t:PT,t.zr p q=true->t.zl p=true/\t.zl q=true
 | .none,c=>by simp[PT.zr]at c
 | .eps,c=>by simp[PT.zr]at c
 | .sym _,c=>by simp[PT.zr]at c
 | .cat a b,c=>by
    simp only[PT.zr,PT.zl,dA,cM]at c⊢;rcases c with(c|c)|c
    exact⟨.inl (pairs_inn a c.1).1,.inl (pairs_inn a c.1).2⟩;exact⟨.inr (pairs_inn b c.2).1,.inr (pairs_inn b c.2).2⟩;exact⟨.inl (ends_inn a c.1),.inr (starts_inn b c.2)⟩
 | .alt a b,c=>by
    simp only[PT.zr,PT.zl,dA]at c⊢;rcases c with c|c
    exact⟨.inl (pairs_inn a c).1,.inl (pairs_inn a c).2⟩;exact⟨.inr (pairs_inn b c).1,.inr (pairs_inn b c).2⟩
 | .star a,c=>by
    simp only[PT.zr,PT.zl,dA,cM]at c⊢;rcases c with c|c
    exact pairs_inn a c;exact⟨ends_inn a c.1,starts_inn a c.2⟩
def L_alive{t u}(a:L t u):t.zo=true:=by
 induction a with
 |eps|sym _|nil=>rfl
 |cat _ _ b c=>simp[PT.zo,b,c]
 |altl _ a=>simp[PT.zo,a]
 |altr _ a=>simp[PT.zo,a]
 |more=>rfl
def Run.zz{s t:PT}(c:∀p q,s.zr p q=true->t.zr p q=true)(b:∀p,s.zp p=true->t.zp p=true):
 ∀(r:List Nat) (p:Nat),Run s p r->Run t p r
 |[],p,a=>b p a
 |q::r,p,a=>⟨c p q a.1,Run.zz c b r q a.2⟩
def run_cat{a b}(g:a.zo=true)(h:b.zo=true):∀u p v,
 Run a p u->Loc b v->Run (.cat a b) p (u++v)
 |[],p,[],c,d=>by
    have f:a.zp p=true:=c;have i:b.null=true:=d;show PT.zp p (.cat a b)=true
    simp[PT.zp,f,i]
 |[],p,q::r,c,d=>by have f:a.zp p=true:=c;refine⟨by simp[PT.zr,f,d.1],?_⟩;exact Run.zz (fun x y e=>by simp[PT.zr,g,e]) (fun x e=>by simp[PT.zp,g,e]) r q d.2
 |x::u,p,v,c,d=>⟨by simp[PT.zr,c.1,h],run_cat g h u x v c.2 d⟩
def run_star{a}:∀u p v,
 Run a p u->Loc (.star a) v->Run (.star a) p (u++v)
 |[],p,[],b,_=>by have d:a.zp p=true:=b;exact d
 |[],p,q::r,b,c=>by have d:a.zp p=true:=b;have e:a.zq q=true:=c.1;exact⟨by simp[PT.zr,d,e],c.2⟩
 |x::u,p,v,b,c=>⟨by simp[PT.zr,b.1],run_star u x v b.2 c⟩
def loc_of_L{t u}(c:L t u):Loc t u:=by
 induction c with
 |eps=>rfl
 |sym p=>exact⟨by simp[PT.zq],by simp[Run,PT.zp]⟩
 | @cat a b u v j l f d=>
    have e:=L_alive j;have g:=L_alive l;cases u with
    |nil=>
      have i:a.null=true:=f;cases v with
      |nil=>
        have o:b.null=true:=d;show PT.null (.cat a b)=true
        simp[PT.null,i,o]
      |cons q r=>
        refine⟨by simp[PT.zq,i,d.1],?_⟩;exact Run.zz (fun x y c=>by simp[PT.zr,e,c]) (fun x c=>by simp[PT.zp,e,c]) r q d.2
    |cons p u=>exact⟨by simp[PT.zq,f.1,g],run_cat e g u p v f.2 d⟩
 | @altl a b u _ ih=>
    cases u with
    |nil=>have n:a.null=true:=ih;show PT.null (.alt a b)=true;simp[PT.null,n]
    |cons p u=>exact⟨by simp[PT.zq,ih.1],Run.zz (fun x y c=>by simp[PT.zr,c]) (fun x c=>by simp[PT.zp,c]) u p ih.2⟩
 | @altr a b u _ ih=>
    cases u with
    |nil=>have n:b.null=true:=ih;show PT.null (.alt a b)=true;simp[PT.null,n]
    |cons p u=>exact⟨by simp[PT.zq,ih.1],Run.zz (fun x y c=>by simp[PT.zr,c]) (fun x c=>by simp[PT.zp,c]) u p ih.2⟩
 |nil=>rfl
 | @more a p u v _ _ h m=>exact⟨h.1,run_star u p v h.2 m⟩
def run_catR{a b}(e:∀p,a.zl p=true->b.zl p=true->False):∀r p,
 b.zl p=true->Run (.cat a b) p r->Run b p r
 |[],p,f,d=>by
    have c:PT.zp p (.cat a b)=true:=d;simp only[PT.zp,dA,cM]at c;rcases c with c|c
    exact c.2;exact(e p (ends_inn a c.1) f).elim
 |q::r,p,f,d=>by
   have c:=d.1;simp only[PT.zr,dA,cM]at c;rcases c with(c|c)|c
   exact(e p (pairs_inn a c.1).1 f).elim;exact⟨c.2,run_catR e r q (pairs_inn b c.2).2 d.2⟩;exact(e p (ends_inn a c.1) f).elim
def run_catL{a b}(f:∀p,a.zl p=true->b.zl p=true->False):∀r p,
 a.zl p=true->Run (.cat a b) p r->∃u v,r=u++v/\Run a p u/\Loc b v
 |[],p,g,d=>by
    have c:PT.zp p (.cat a b)=true:=d;simp only[PT.zp,dA,cM]at c;rcases c with c|c
    exact(f p g (ends_inn b c.2)).elim;exact⟨[],[],rfl,c.1,c.2⟩
 |q::r,p,g,d=>by
   have c:=d.1;simp only[PT.zr,dA,cM]at c;rcases c with(c|c)|c
   have⟨u,v,e,h,i⟩:=run_catL f r q (pairs_inn a c.1).2 d.2;exact⟨q::u,v,by simp[e],⟨c.1,h⟩,i⟩;exact(f p g (pairs_inn b c.2).1).elim;exact⟨[],_,rfl,c.1,c.2,run_catR f r q (starts_inn b c.2) d.2⟩
def run_altL{a b}(e:∀p,a.zl p=true->b.zl p=true->False):∀r p,
 a.zl p=true->Run (.alt a b) p r->Run a p r
 |[],p,f,d=>by
    have c:PT.zp p (.alt a b)=true:=d;simp only[PT.zp,dA]at c;rcases c with c|c
    exact c;exact(e p f (ends_inn b c)).elim
 |q::r,p,f,d=>by
   have c:=d.1;simp only[PT.zr,dA]at c;rcases c with c|c
   exact⟨c,run_altL e r q (pairs_inn a c).2 d.2⟩;exact(e p f (pairs_inn b c).1).elim
def run_altR{a b}(e:∀p,a.zl p=true->b.zl p=true->False):∀r p,
 b.zl p=true->Run (.alt a b) p r->Run b p r
 |[],p,f,d=>by
    have c:PT.zp p (.alt a b)=true:=d;simp only[PT.zp,dA]at c;rcases c with c|c
    exact(e p (ends_inn a c) f).elim;exact c
 |q::r,p,f,d=>by
   have c:=d.1;simp only[PT.zr,dA]at c;rcases c with c|c
   exact(e p (pairs_inn a c).1 f).elim;exact⟨c,run_altR e r q (pairs_inn b c).2 d.2⟩
def run_starL{a}:∀r p,Run (.star a) p r->
 ∃u v,r=u++v/\Run a p u/\Loc (.star a) v
 |[],p,c=>⟨[],[],rfl,c,rfl⟩
 |q::r,p,c=>by
   have b:=c.1;simp only[PT.zr,dA,cM]at b;rcases b with b|b
   have⟨u,v,e,d,f⟩:=run_starL r q c.2;exact⟨q::u,v,by simp[e],⟨b,d⟩,f⟩;exact⟨[],_,rfl,b.1,b.2,c.2⟩
def L_of_loc:∀t,t.lin->∀u,Loc t u->L t u
 |t,_,[],d=>L_null t d
 | .none,_,p::r,d=>by simp[Loc,PT.zq]at d
 | .eps,_,p::r,d=>by simp[Loc,PT.zq]at d
 | .sym q,_,p::r,d=>by
    have c:=d.1;simp only[PT.zq,nE]at c;subst c;cases r with
    |nil=>exact .sym _
    |cons x r=>have:=d.2.1;simp[PT.zr]at this
 | .cat a b,f,p::r,d=>by
    have c:=d.1;simp only[PT.zq,dA,cM]at c;rcases c with c|c
    have⟨u,v,e,g,h⟩:=run_catL f.2.2 r p (starts_inn a c.1) d.2;have:=L.cat (L_of_loc a f.1 (p::u) ⟨c.1,g⟩) (L_of_loc b f.2.1 v h);rw[e];exact this;have g:=run_catR f.2.2 r p (starts_inn b c.2) d.2;exact L.cat (L_null a c.1) (L_of_loc b f.2.1 _ ⟨c.2,g⟩)
 | .alt a b,f,p::r,d=>by
    have c:=d.1;simp only[PT.zq,dA]at c;rcases c with c|c
    exact .altl (L_of_loc a f.1 _ ⟨c,run_altL f.2.2 r p (starts_inn a c) d.2⟩);exact .altr (L_of_loc b f.2.1 _ ⟨c,run_altR f.2.2 r p (starts_inn b c) d.2⟩)
 | .star a,f,p::r,d=>by
    obtain⟨u,v,e,g,h⟩:=run_starL r p d.2;have hv:v.length<(p::r).length:=by simp[e];omega
    have:=L.more (L_of_loc a f _ ⟨d.1,g⟩) (L_of_loc _ f v h);rw[e];exact this
termination_by t _ u=>(SizeOf.sizeOf t,u.length)
def MW{a:Type}(b:Nat->a)(t:PT)(w:List a):Prop:=∃u,L t u/\u.map b=w
def MW_cat{β} nm a b(w:List β):
 MW nm (.cat a b) w↔∃k,k<=w.length/\MW nm a (w.take k)/\MW nm b (w.drop k):=by
 constructor;rintro⟨u,g,rfl⟩;cases g with
 | @cat _ _ u v c d=>
    refine⟨u,aj,⟨u,c,?_⟩,⟨v,d,?_⟩⟩;simp;simp
 rintro⟨k,_,⟨u,c,e⟩,⟨v,d,f⟩⟩;exact⟨_,.cat c d,by rw[gL,e,f,ig]⟩
def MW_alt{β} nm a b(w:List β):MW nm (.alt a b) w↔MW nm a w∨MW nm b w:=by
 constructor;rintro⟨u,c,rfl⟩;cases c with
 |altl c=>exact .inl ⟨_,c,rfl⟩
 |altr c=>exact .inr ⟨_,c,rfl⟩
 rintro(⟨u,c,e⟩|⟨u,c,e⟩);exact⟨u,.altl c,e⟩;exact⟨u,.altr c,e⟩
def MW_star{β} nm a(w:List β):
 MW nm (.star a) w↔w=[]∨∃k,1<=k/\k<=w.length/\MW nm a (w.take k)/\MW nm (.star a) (w.drop k):=by
 constructor;rintro⟨u,f,rfl⟩;cases f with
 |nil=>simp
 | @more _ p u v b c=>
    refine .inr ⟨u+1,ad,aj,⟨_,b,?_⟩,⟨v,c,?_⟩⟩;simp;simp
 rintro(rfl|⟨k,g,h,⟨u,b,d⟩,⟨v,c,e⟩⟩);exact⟨[],.nil,rfl⟩;cases u with
 |nil=>
   have:(w.take k).length=0:=by rw[<-d];rfl
   rw[eh]at this;omega
 |cons p u=>
   exact⟨_,.more b c,by rw[gL,d,e,ig]⟩
def Reach{β}(a:Nat->β)(t:PT):(Nat->Prop)->List β->Prop
 |S,[]=>∃p,S p/\t.zp p=true
 |S,x::w=>Reach a t (fun q=>∃p,S p/\t.zr p q=true/\a q=x) w
def reach_run{β} nm t:∀(w:List β) S,
 Reach nm t S w↔∃p u,S p/\Run t p u/\u.map nm=w
 |[],S=>by
    constructor;rintro⟨p,a,c⟩;exact⟨p,[],a,c,rfl⟩;rintro⟨p,u,a,b,e⟩;cases u with
    |nil=>exact⟨p,a,b⟩
    |cons _ _=>simp at e
 |x::w,S=>by
   rw[Reach,reach_run nm t w];constructor;rintro⟨q,u,⟨p,a,d,rfl⟩,b,rfl⟩;exact⟨p,q::u,a,⟨d,b⟩,rfl⟩;rintro⟨p,u,a,b,e⟩;cases u with
   |nil=>simp at e
   |cons q u=>
     simp only[dZ,Kv]at e;exact⟨q,u,⟨p,a,b.1,e.1⟩,b.2,e.2⟩
def MW_nil{β}(b:Nat->β) t:MW b t []↔t.null=true:=by
 constructor;rintro⟨u,a,e⟩;cases u with
 |nil=>exact loc_of_L a
 |cons _ _=>simp at e
 intro a;exact⟨[],L_null t a,rfl⟩
def MW_cons{β} nm t(c:t.lin) x(w:List β):
 MW nm t (x::w)↔Reach nm t (fun q=>t.zq q=true/\nm q=x) w:=by
 rw[reach_run];constructor;rintro⟨u,b,e⟩;cases u with
 |nil=>simp at e
 |cons p u=>
   have a:=loc_of_L b;simp only[dZ,Kv]at e;exact⟨p,u,⟨a.1,e.1⟩,a.2,e.2⟩
 rintro⟨p,u,⟨f,rfl⟩,d,rfl⟩;exact⟨p::u,L_of_loc t c _ ⟨f,d⟩,rfl⟩
def starts_alive{p}:∀t:PT,t.zq p=true->t.zo=true
 | .none,c=>by assumption
 | .eps,_=>rfl
 | .sym _,_=>rfl
 | .cat a b,c=>by
    simp only[PT.zq,PT.zo,dA,cM]at c⊢;rcases c with c|c
    exact⟨starts_alive a c.1,c.2⟩;exact⟨L_alive (L_null a c.1),starts_alive b c.2⟩
 | .alt a b,c=>by simp only[PT.zq,PT.zo,dA]at c⊢;exact c.imp (starts_alive a) (starts_alive b)
 | .star _,_=>rfl
def ends_alive{p}:∀t:PT,t.zp p=true->t.zo=true
 | .none,c=>by assumption
 | .eps,_=>rfl
 | .sym _,_=>rfl
 | .cat a b,c=>by
    simp only[PT.zp,PT.zo,dA,cM]at c⊢;rcases c with c|c
    exact⟨c.1,ends_alive b c.2⟩;exact⟨ends_alive a c.1,L_alive (L_null b c.2)⟩
 | .alt a b,c=>by simp only[PT.zp,PT.zo,dA]at c⊢;exact c.imp (ends_alive a) (ends_alive b)
 | .star _,_=>rfl
def pairs_alive{p q}:∀t:PT,t.zr p q=true->t.zo=true
 | .none,c=>by assumption
 | .eps,_=>rfl
 | .sym _,_=>rfl
 | .cat a b,c=>by
    simp only[PT.zr,PT.zo,dA,cM]at c⊢;rcases c with(c|c)|c
    exact⟨pairs_alive a c.1,c.2⟩;exact⟨c.1,pairs_alive b c.2⟩;exact⟨ends_alive a c.1,starts_alive b c.2⟩
 | .alt a b,c=>by simp only[PT.zr,PT.zo,dA]at c⊢;exact c.imp (pairs_alive a) (pairs_alive b)
 | .star _,_=>rfl
inductive Fr where
 |catL (b:PT)|catR (a:PT)|altL (b:PT)|altR (a:PT)|star
def Fr.zm:Fr->PT->PT
 | .catL b,t=>.cat t b
 | .catR a,t=>.cat a t
 | .altL b,t=>.alt t b
 | .altR a,t=>.alt a t
 | .star,t=>.star t
def plugs:List Fr->PT->PT
 |[],t=>t
 |f::a,t=>plugs a (f.zm t)
def Fr.add(p:Nat):Fr->PT->Nat->Bool
 | .catL b,t,q=>t.zp p&&b.zq q
 | .star,t,q=>t.zp p&&t.zq q
 |_,_,_=>false
def climb(p:Nat):PT->List Fr->(Nat->Bool)->Nat->Bool
 |_,[],S=>S
 |t,f::a,S=>if(f.zm t).zo then climb p (f.zm t) a (fun q=>S q||f.add p t q)else fun _=>false
def lin_plug{f:Fr}{t}(c:(f.zm t).lin):t.lin:=by
 cases f with
 |catL b=>exact c.1
 |catR a=>exact c.2.1
 |altL b=>exact c.1
 |altR a=>exact c.2.1
 |star=>exact c
def lin_plugs:∀a t,(plugs a t).lin->t.lin
 |[],_,b=>b
 |_::a,_,b=>lin_plug (lin_plugs a _ b)
def inn_plug{f:Fr}{t p}(a:t.zl p=true):(f.zm t).zl p=true:=by cases f<;>simp[Fr.zm,PT.zl,a]
def not_of_inn{b:PT}{p}(a:b.zl p=true->False):b.zp p=false/\∀q,b.zr p q=false:=by
 refine⟨?_,fun q=> ?_⟩;cases e:b.zp p with
 |false=>rfl
 |true=>exact(a (ends_inn b e)).elim
 cases e:b.zr p q with
 |false=>rfl
 |true=>exact(a (pairs_inn b e).1).elim
def pairs_plug{f:Fr}{t p}(e:(f.zm t).lin)(g:t.zl p=true)(d:(f.zm t).zo=true) q:
 (f.zm t).zr p q=(t.zr p q||f.add p t q):=by
 cases f with
 |catL b=>
   have c:=not_of_inn (e.2.2 p g);simp only[Fr.zm,PT.zo,cM]at d;simp[Fr.zm,PT.zr,Fr.add,c.2 q,d.2]
 |catR a=>
   have c:=not_of_inn (fun h=>e.2.2 p h g);simp only[Fr.zm,PT.zo,cM]at d;simp[Fr.zm,PT.zr,Fr.add,c.1,c.2 q,d.1]
 |altL b=>
   have c:=not_of_inn (e.2.2 p g);simp[Fr.zm,PT.zr,Fr.add,c.2 q]
 |altR a=>
   have c:=not_of_inn (fun h=>e.2.2 p h g);simp[Fr.zm,PT.zr,Fr.add,c.2 q]
 |star=>rfl
def dead_plug{f:Fr}{t p}(g:(f.zm t).lin)(h:t.zl p=true)(d:t.zp p=false)(e:∀q,t.zr p q=false):
 (f.zm t).zp p=false/\∀q,(f.zm t).zr p q=false:=by
 cases f with
 |catL b=>
   have c:=not_of_inn (g.2.2 p h);exact⟨by simp[Fr.zm,PT.zp,d,c.1],fun q=>by simp[Fr.zm,PT.zr,d,e q,c.2 q]⟩
 |catR a=>
   have c:=not_of_inn (fun i=>g.2.2 p i h);exact⟨by simp[Fr.zm,PT.zp,d,c.1],fun q=>by simp[Fr.zm,PT.zr,e q,c.1,c.2 q]⟩
 |altL b=>
   have c:=not_of_inn (g.2.2 p h);exact⟨by simp[Fr.zm,PT.zp,d,c.1],fun q=>by simp[Fr.zm,PT.zr,e q,c.2 q]⟩
 |altR a=>
   have c:=not_of_inn (fun i=>g.2.2 p i h);exact⟨by simp[Fr.zm,PT.zp,d,c.1],fun q=>by simp[Fr.zm,PT.zr,e q,c.2 q]⟩
 |star=>exact⟨by assumption,fun q=>by simp[Fr.zm,PT.zr,d,e q]⟩
def dead_plugs{p}:∀a t,(plugs a t).lin->t.zl p=true->t.zp p=false->(∀q,t.zr p q=false)->
 ∀q,(plugs a t).zr p q=false
 |[],_,_,_,_,b=>b
 |f::a,t,d,e,g,b=>
   have c:=dead_plug (f:=f) (lin_plugs a _ d) e g b
   dead_plugs a (f.zm t) d (inn_plug e) c.1 c.2
def climb_pairs{p}:∀a t S,(plugs a t).lin->t.zl p=true->(∀q,S q=t.zr p q)->
 ∀q,climb p t a S q=(plugs a t).zr p q
 |[],_,_,_,_,b,q=>b q
 |f::a,t,S,d,g,b,q=>by
   unfold climb;cases c:(f.zm t).zo with
   |true=>
     rw[au rfl];exact climb_pairs a _ _ d (inn_plug g) (fun q=>by rw[b q,pairs_plug (lin_plugs a _ d) g c q]) q
   |false=>
     rw[ap aj];have h:(f.zm t).zp p=false:=by
      cases e:(f.zm t).zp p with
      |false=>rfl
      |true=>rwa[ends_alive _ e]at c
     have i:∀q,(f.zm t).zr p q=false:=fun q=>by
      cases e:(f.zm t).zr p q with
      |false=>rfl
      |true=>rwa[pairs_alive _ e]at c
     exact(dead_plugs a _ d (inn_plug g) h i q).zy
def climb_sym p fs(a:(plugs fs (.sym p)).lin) q:
 climb p (.sym p) fs (fun _=>false) q=(plugs fs (.sym p)).zr p q:=
 climb_pairs fs _ _ a (by simp[PT.zl]) (fun _=>rfl) q
inductive Anc(up:Nat->Nat)(p:Nat):Nat->Prop
 |refl:Anc up p p
 |step {a i}:Anc up p a->up a=i->a<i->Anc up p i
def Anc.le{up:Nat->Nat}{p i:Nat}(a:Anc up p i):p<=i:=by
 induction a with
 |refl=>simp
 |step _ _ b ih=>omega
def Anc.head{up:Nat->Nat}{p i:Nat}(c:Anc up p i):p=i∨Anc up (up p) i:=by
 induction c with
 |refl=>simp
 | @step a i _ b d ih=>
    rcases ih with rfl|ih
    right;rw[b];exact .refl;exact .inr (.step ih b d)
def Anc.comp{up:Nat->Nat}{p a b:Nat}(f:Anc up p a)(g:Anc up p b):Anc up a b∨Anc up b a:=by
 induction f with
 |refl=>exact .inl g
 | @step a i _ d e ih=>
    rcases ih with c|c
    rcases c.head with rfl|c
    exact .inr (.step .refl d e);rw[d]at c;exact .inl c;exact .inr (.step c d e)
def Anc.apart{up:Nat->Nat}{p a b i:Nat}(g:Anc up p a)(h:Anc up p b)(d:up a=i)(f:up b=i)(j:a<i)(l:b<i):a=b:=by
 rcases g.comp h with c|c
 rcases c.head with e|c
 exact e;rw[d]at c;have:=c.le;omega;rcases c.head with e|c
 exact e.zy;rw[f]at c;have:=c.le;omega
inductive Mk(tr:Nat->PT)(up:Nat->Nat)(i:Nat):PT->Prop
 |none:Mk tr up i .none
 |eps:Mk tr up i .eps
 |sym:Mk tr up i (.sym i)
 |cat {a b}:a<i->b<i->a≠b->up a=i->up b=i->Mk tr up i (.cat (tr a) (tr b))
 |alt {a b}:a<i->b<i->a≠b->up a=i->up b=i->Mk tr up i (.alt (tr a) (tr b))
 |star {a}:a<i->up a=i->Mk tr up i (.star (tr a))
def lin_tr{tr up n}(H:∀i,i<n->Mk tr up i (tr i)):
 ∀i,i<n->(tr i).lin/\∀p,(tr i).zl p=true->Anc up p i:=by
 intro i;induction i using Nat.strongRecOn with
 |ind i ih=>
  intro q;have c:=H i q;generalize tr i=t at c;cases c with
  |none=>exact⟨trivial,fun p c=>by simp[PT.zl]at c⟩
  |eps=>exact⟨trivial,fun p c=>by simp[PT.zl]at c⟩
  |sym=>exact⟨trivial,fun p c=>by simp[PT.zl]at c;subst c;exact .refl⟩
  | @cat a b e g o h j=>
     have d:=ih a e ad;have f:=ih b g ad;refine⟨⟨d.1,f.1,fun p l m=>o ((d.2 p l).apart (f.2 p m) h j e g)⟩,fun p c=> ?_⟩;simp only[PT.zl,dA]at c;rcases c with c|c
     exact .step (d.2 p c) h e;exact .step (f.2 p c) j g
  | @alt a b e g o h j=>
     have d:=ih a e ad;have f:=ih b g ad;refine⟨⟨d.1,f.1,fun p l m=>o ((d.2 p l).apart (f.2 p m) h j e g)⟩,fun p c=> ?_⟩;simp only[PT.zl,dA]at c;rcases c with c|c
     exact .step (d.2 p c) h e;exact .step (f.2 p c) j g
  | @star a e h=>
     have d:=ih a e ad;exact⟨d.1,fun p c=>.step (d.2 p c) h e⟩
def path(up:Nat->Nat)(fr:Nat->Fr)(root:Nat):Nat->Nat->List Fr
 |0,_=>[]
 |k+1,a=>if a=root then []else fr a::path up fr root k (up a)
def plugs_path{tr:Nat->PT}{up fr root}
 (H:∀a,a<root->a<up a/\up a<=root/\(fr a).zm (tr a)=tr (up a)):
 ∀k a,a<=root->root<a+k->plugs (path up fr root k a) (tr a)=tr root
 |0,a,c,d=>ad
 |k+1,a,c,d=>by
   unfold path;by_cases e:a=root;rw[au e,e];rfl;rw[ap e];have b:=H a ad;show plugs (path up fr root k (up a)) ((fr a).zm (tr a))=tr root
   rw[b.2.2];exact plugs_path H k _ b.2.1 ad
def next_pairs{tr up fr root}
 (c:∀i,i<root+1->Mk tr up i (tr i))
 (H:∀a,a<root->a<up a/\up a<=root/\(fr a).zm (tr a)=tr (up a))
 {p} (d:p<=root) (f:tr p=.sym p) q:
 climb p (tr p) (path up fr root (root+1) p) (fun _=>false) q=(tr root).zr p q:=by
 have e:=plugs_path H (root+1) p d ad;have b:=(lin_tr c root ad).1;rw[<-e]at b⊢;rw[f]at b⊢;exact climb_sym p _ b q
end PRegex
end Go.Proofs.YtfeidcmojcijpaaGreatDoor
