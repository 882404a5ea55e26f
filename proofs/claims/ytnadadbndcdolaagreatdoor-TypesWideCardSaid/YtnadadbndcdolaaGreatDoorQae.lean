import Derived.Test.YtnadadbndcdolaaGreatDoorQaa
set_option linter.unusedVariables false
set_option linter.unusedSimpArgs false
set_option maxRecDepth 100000
set_option maxHeartbeats 0
namespace Go.Proofs.YtnadadbndcdolaaGreatDoor
open Go.RowKit Tryz
namespace PRegex
inductive PT where
 |none|eps
 |sym (p:Nat)
 |cat (a b:PT)
 |alt (a b:PT)
 |star (a:PT)
def PT.null:PT->Bool
 | .none=>false| .eps=>true| .sym _=>false
 | .cat a b=>a.null&&b.null
 | .alt a b=>a.null||b.null
 | .star _=>true
def PT.alive:PT->Bool
 | .none=>false| .eps=>true| .sym _=>true
 | .cat a b=>a.alive&&b.alive
 | .alt a b=>a.alive||b.alive
 | .star _=>true
def PT.inn(p:Nat):PT->Bool
 | .none=>false| .eps=>false| .sym q=>q==p
 | .cat a b=>a.inn p||b.inn p
 | .alt a b=>a.inn p||b.inn p
 | .star a=>a.inn p
def PT.starts(p:Nat):PT->Bool
 | .none=>false| .eps=>false| .sym q=>q==p
 | .cat a b=>a.starts p&&b.alive||a.null&&b.starts p
 | .alt a b=>a.starts p||b.starts p
 | .star a=>a.starts p
def PT.ends(p:Nat):PT->Bool
 | .none=>false| .eps=>false| .sym q=>q==p
 | .cat a b=>a.alive&&b.ends p||a.ends p&&b.null
 | .alt a b=>a.ends p||b.ends p
 | .star a=>a.ends p
def PT.pairs(p q:Nat):PT->Bool
 | .none=>false| .eps=>false| .sym _=>false
 | .cat a b=>a.pairs p q&&b.alive||a.alive&&b.pairs p q||a.ends p&&b.starts q
 | .alt a b=>a.pairs p q||b.pairs p q
 | .star a=>a.pairs p q||a.ends p&&a.starts q
def PT.lin:PT->Prop
 | .cat a b=>a.lin/\b.lin/\∀p,a.inn p=true->b.inn p=true->False
 | .alt a b=>a.lin/\b.lin/\∀p,a.inn p=true->b.inn p=true->False
 | .star a=>a.lin
 |_=>True
inductive L:PT->List Nat->Prop
 |eps:L .eps []
 |sym (p):L (.sym p) [p]
 |cat {a b u v}:L a u->L b v->L (.cat a b) (u++v)
 |altl {a b u}:L a u->L (.alt a b) u
 |altr {a b u}:L b u->L (.alt a b) u
 |nil {a}:L (.star a) []
 |more {a p u v}:L a (p::u)->L (.star a) v->L (.star a) (p::u++v)
def Run(t:PT):Nat->List Nat->Prop
 |p,[]=>t.ends p=true
 |p,q::a=>t.pairs p q=true/\Run t q a
def Loc(t:PT):List Nat->Prop
 |[]=>t.null=true
 |p::a=>t.starts p=true/\Run t p a
theorem L_null:∀t:PT,t.null=true->L t []
 | .none,c=>by simp[PT.null]at c
 | .eps,_=>.eps
 | .sym _,c=>by simp[PT.null]at c
 | .cat a b,c=>by simp only[PT.null,cS]at c;exact L.cat (L_null a c.1) (L_null b c.2)
 | .alt a b,c=>by
    simp only[PT.null,di]at c;rcases c with c|c
    ·exact .altl (L_null a c)
    ·exact .altr (L_null b c)
 | .star _,_=>.nil
theorem starts_inn{p:Nat}:∀t:PT,t.starts p=true->t.inn p=true
 | .none,c=>c
 | .eps,c=>c
 | .sym _,c=>c
 | .cat a b,c=>by
    simp only[PT.starts,PT.inn,di,cS]at c⊢;rcases c with c|c
    ·exact .inl (starts_inn a c.1)
    ·exact .inr (starts_inn b c.2)
 | .alt a b,c=>by simp only[PT.starts,PT.inn,di]at c⊢;exact c.imp (starts_inn a) (starts_inn b)
 | .star a,c=>starts_inn a c
theorem ends_inn{p:Nat}:∀t:PT,t.ends p=true->t.inn p=true
 | .none,c=>c
 | .eps,c=>c
 | .sym _,c=>c
 | .cat a b,c=>by
    simp only[PT.ends,PT.inn,di,cS]at c⊢;rcases c with c|c
    ·exact .inr (ends_inn b c.2)
    ·exact .inl (ends_inn a c.1)
 | .alt a b,c=>by simp only[PT.ends,PT.inn,di]at c⊢;exact c.imp (ends_inn a) (ends_inn b)
 | .star a,c=>ends_inn a c
theorem pairs_inn{p q:Nat}:∀t:PT,t.pairs p q=true->t.inn p=true/\t.inn q=true
 | .none,c=>by simp[PT.pairs]at c
 | .eps,c=>by simp[PT.pairs]at c
 | .sym _,c=>by simp[PT.pairs]at c
 | .cat a b,c=>by
    simp only[PT.pairs,PT.inn,di,cS]at c⊢;rcases c with(c|c)|c
    ·exact⟨.inl (pairs_inn a c.1).1,.inl (pairs_inn a c.1).2⟩
    ·exact⟨.inr (pairs_inn b c.2).1,.inr (pairs_inn b c.2).2⟩
    ·exact⟨.inl (ends_inn a c.1),.inr (starts_inn b c.2)⟩
 | .alt a b,c=>by
    simp only[PT.pairs,PT.inn,di]at c⊢;rcases c with c|c
    ·exact⟨.inl (pairs_inn a c).1,.inl (pairs_inn a c).2⟩
    ·exact⟨.inr (pairs_inn b c).1,.inr (pairs_inn b c).2⟩
 | .star a,c=>by
    simp only[PT.pairs,PT.inn,di,cS]at c⊢;rcases c with c|c
    ·exact pairs_inn a c
    ·exact⟨ends_inn a c.1,starts_inn a c.2⟩
theorem L_alive{t:PT}{u:List Nat}(a:L t u):t.alive=true:=by
 induction a with
 |eps|sym _|nil=>rfl
 |cat _ _ b c=>simp[PT.alive,b,c]
 |altl _ a=>simp[PT.alive,a]
 |altr _ a=>simp[PT.alive,a]
 |more=>rfl
theorem Run.mono{s t:PT}(d:∀p q,s.pairs p q=true->t.pairs p q=true)(c:∀p,s.ends p=true->t.ends p=true):
 ∀(b:List Nat) (p:Nat),Run s p b->Run t p b
 |[],p,a=>c p a
 |q::b,p,a=>⟨d p q a.1,Run.mono d c b q a.2⟩
theorem run_cat{a b:PT}(g:a.alive=true)(h:b.alive=true):∀(u:List Nat) (p:Nat) (v:List Nat),
 Run a p u->Loc b v->Run (.cat a b) p (u++v)
 |[],p,[],c,d=>by
    have f:a.ends p=true:=c;have i:b.null=true:=d;show PT.ends p (.cat a b)=true
    simp[PT.ends,f,i]
 |[],p,q::j,c,d=>by have f:a.ends p=true:=c;refine⟨by simp[PT.pairs,f,d.1],?_⟩;exact Run.mono (fun x y e=>by simp[PT.pairs,g,e]) (fun x e=>by simp[PT.ends,g,e]) j q d.2
 |x::u,p,v,c,d=>⟨by simp[PT.pairs,c.1,h],run_cat g h u x v c.2 d⟩
theorem run_star{a:PT}:∀(u:List Nat) (p:Nat) (v:List Nat),
 Run a p u->Loc (.star a) v->Run (.star a) p (u++v)
 |[],p,[],b,_=>by have d:a.ends p=true:=b;exact d
 |[],p,q::f,b,c=>by have d:a.ends p=true:=b;have e:a.starts q=true:=c.1;exact⟨by simp[PT.pairs,d,e],c.2⟩
 |x::u,p,v,b,c=>⟨by simp[PT.pairs,b.1],run_star u x v b.2 c⟩
theorem loc_of_L{t:PT}{u:List Nat}(c:L t u):Loc t u:=by
 induction c with
 |eps=>rfl
 |sym p=>exact⟨by simp[PT.starts],by simp[Run,PT.ends]⟩
 | @cat a b u v j l f d=>
    have e:=L_alive j;have g:=L_alive l;cases u with
    |nil=>
      have i:a.null=true:=f;cases v with
      |nil=>
        have o:b.null=true:=d;show PT.null (.cat a b)=true
        simp[PT.null,i,o]
      |cons q r=>
        refine⟨by simp[PT.starts,i,d.1],?_⟩;exact Run.mono (fun x y c=>by simp[PT.pairs,e,c]) (fun x c=>by simp[PT.ends,e,c]) r q d.2
    |cons p u=>exact⟨by simp[PT.starts,f.1,g],run_cat e g u p v f.2 d⟩
 | @altl a b u _ ih=>
    cases u with
    |nil=>have n:a.null=true:=ih;show PT.null (.alt a b)=true;simp[PT.null,n]
    |cons p u=>exact⟨by simp[PT.starts,ih.1],Run.mono (fun x y c=>by simp[PT.pairs,c]) (fun x c=>by simp[PT.ends,c]) u p ih.2⟩
 | @altr a b u _ ih=>
    cases u with
    |nil=>have n:b.null=true:=ih;show PT.null (.alt a b)=true;simp[PT.null,n]
    |cons p u=>exact⟨by simp[PT.starts,ih.1],Run.mono (fun x y c=>by simp[PT.pairs,c]) (fun x c=>by simp[PT.ends,c]) u p ih.2⟩
 |nil=>rfl
 | @more a p u v _ _ h m=>exact⟨h.1,run_star u p v h.2 m⟩
theorem run_catR{a b:PT}(e:∀p,a.inn p=true->b.inn p=true->False):∀(g:List Nat) (p:Nat),
 b.inn p=true->Run (.cat a b) p g->Run b p g
 |[],p,f,d=>by
    have c:PT.ends p (.cat a b)=true:=d;simp only[PT.ends,di,cS]at c;rcases c with c|c
    ·exact c.2
    ·exact(e p (ends_inn a c.1) f).elim
 |q::g,p,f,d=>by
   have c:=d.1;simp only[PT.pairs,di,cS]at c;rcases c with(c|c)|c
   ·exact(e p (pairs_inn a c.1).1 f).elim
   ·exact⟨c.2,run_catR e g q (pairs_inn b c.2).2 d.2⟩
   ·exact(e p (ends_inn a c.1) f).elim
theorem run_catL{a b:PT}(f:∀p,a.inn p=true->b.inn p=true->False):∀(d:List Nat) (p:Nat),
 a.inn p=true->Run (.cat a b) p d->∃u v,d=u++v/\Run a p u/\Loc b v
 |[],p,g,e=>by
    have c:PT.ends p (.cat a b)=true:=e;simp only[PT.ends,di,cS]at c;rcases c with c|c
    ·exact(f p g (ends_inn b c.2)).elim
    ·exact⟨[],[],rfl,c.1,c.2⟩
 |q::d,p,g,e=>by
   have c:=e.1;simp only[PT.pairs,di,cS]at c;rcases c with(c|c)|c
   ·obtain⟨u,v,h,i,j⟩:=run_catL f d q (pairs_inn a c.1).2 e.2
    exact⟨q::u,v,by simp[h],⟨c.1,i⟩,j⟩
   ·exact(f p g (pairs_inn b c.2).1).elim
   ·exact⟨[],q::d,rfl,c.1,c.2,run_catR f d q (starts_inn b c.2) e.2⟩
theorem run_altL{a b:PT}(f:∀p,a.inn p=true->b.inn p=true->False):∀(e:List Nat) (p:Nat),
 a.inn p=true->Run (.alt a b) p e->Run a p e
 |[],p,g,d=>by
    have c:PT.ends p (.alt a b)=true:=d;simp only[PT.ends,di]at c;rcases c with c|c
    ·exact c
    ·exact(f p g (ends_inn b c)).elim
 |q::e,p,g,d=>by
   have c:=d.1;simp only[PT.pairs,di]at c;rcases c with c|c
   ·exact⟨c,run_altL f e q (pairs_inn a c).2 d.2⟩
   ·exact(f p g (pairs_inn b c).1).elim
theorem run_altR{a b:PT}(f:∀p,a.inn p=true->b.inn p=true->False):∀(e:List Nat) (p:Nat),
 b.inn p=true->Run (.alt a b) p e->Run b p e
 |[],p,g,d=>by
    have c:PT.ends p (.alt a b)=true:=d;simp only[PT.ends,di]at c;rcases c with c|c
    ·exact(f p (ends_inn a c) g).elim
    ·exact c
 |q::e,p,g,d=>by
   have c:=d.1;simp only[PT.pairs,di]at c;rcases c with c|c
   ·exact(f p (pairs_inn a c).1 g).elim
   ·exact⟨c,run_altR f e q (pairs_inn b c).2 d.2⟩
theorem run_starL{a:PT}:∀(d:List Nat) (p:Nat),Run (.star a) p d->
 ∃u v,d=u++v/\Run a p u/\Loc (.star a) v
 |[],p,c=>⟨[],[],rfl,c,rfl⟩
 |q::d,p,c=>by
   have b:=c.1;simp only[PT.pairs,di,cS]at b;rcases b with b|b
   ·obtain⟨u,v,e,f,g⟩:=run_starL d q c.2
    exact⟨q::u,v,by simp[e],⟨b,f⟩,g⟩
   ·exact⟨[],q::d,rfl,b.1,b.2,c.2⟩
theorem L_of_loc:∀(t:PT),t.lin->∀u,Loc t u->L t u
 |t,_,[],d=>L_null t d
 | .none,_,p::e,d=>by simp[Loc,PT.starts]at d
 | .eps,_,p::e,d=>by simp[Loc,PT.starts]at d
 | .sym q,_,p::e,d=>by
    have c:=d.1;simp only[PT.starts,xL]at c;subst c;cases e with
    |nil=>exact .sym _
    |cons x e=>have:=d.2.1;simp[PT.pairs]at this
 | .cat a b,f,p::e,d=>by
    have c:=d.1;simp only[PT.starts,di,cS]at c;rcases c with c|c
    ·obtain⟨u,v,h,g,i⟩:=run_catL f.2.2 e p (starts_inn a c.1) d.2
     have:=L.cat (L_of_loc a f.1 (p::u) ⟨c.1,g⟩) (L_of_loc b f.2.1 v i);rw[h];exact this
    ·have g:=run_catR f.2.2 e p (starts_inn b c.2) d.2
     exact L.cat (L_null a c.1) (L_of_loc b f.2.1 (p::e) ⟨c.2,g⟩)
 | .alt a b,f,p::e,d=>by
    have c:=d.1;simp only[PT.starts,di]at c;rcases c with c|c
    ·exact .altl (L_of_loc a f.1 (p::e) ⟨c,run_altL f.2.2 e p (starts_inn a c) d.2⟩)
    ·exact .altr (L_of_loc b f.2.1 (p::e) ⟨c,run_altR f.2.2 e p (starts_inn b c) d.2⟩)
 | .star a,f,p::e,d=>by
    obtain⟨u,v,h,g,i⟩:=run_starL e p d.2;have j:v.length<(p::e).length:=by simp[h];omega
    have:=L.more (L_of_loc a f (p::u) ⟨d.1,g⟩) (L_of_loc (.star a) f v i);rw[h];exact this
termination_by t _ u=>(SizeOf.sizeOf t,u.length)
def MW{a:Type}(b:Nat->a)(t:PT)(w:List a):Prop:=∃u,L t u/\u.map b=w
theorem MW_alt{f:Type}(e:Nat->f)(a b:PT)(w:List f):MW e (.alt a b) w↔MW e a w∨MW e b w:=by
 constructor
 ·rintro⟨u,c,rfl⟩
  cases c with
  |altl c=>exact .inl ⟨_,c,rfl⟩
  |altr c=>exact .inr ⟨_,c,rfl⟩
 ·rintro(⟨u,c,d⟩|⟨u,c,d⟩)
  ·exact⟨u,.altl c,d⟩
  ·exact⟨u,.altr c,d⟩
theorem MW_star{f:Type}(d:Nat->f)(a:PT)(w:List f):
 MW d (.star a) w↔w=[]∨∃k,1<=k/\k<=w.length/\MW d a (w.take k)/\MW d (.star a) (w.drop k):=by
 constructor
 ·rintro⟨u,h,rfl⟩
  cases h with
  |nil=>exact .inl rfl
  | @more _ p u v b c=>
     refine .inr ⟨u.length+1,ad,ak,⟨p::u,b,?_⟩,⟨v,c,?_⟩⟩
     ·simp[iH]
     ·simp[iH]
 ·rintro(rfl|⟨k,i,j,⟨u,b,e⟩,⟨v,c,g⟩⟩)
  ·exact⟨[],.nil,rfl⟩
  ·cases u with
   |nil=>
     have:(w.take k).length=0:=by rw[<-e];rfl
     rw[fm]at this;omega
   |cons p u=>
     exact⟨p::u++v,.more b c,by rw[iH,e,g,mQ]⟩
def Reach{b:Type}(a:Nat->b)(t:PT):(Nat->Prop)->List b->Prop
 |S,[]=>∃p,S p/\t.ends p=true
 |S,x::w=>Reach a t (fun q=>∃p,S p/\t.pairs p q=true/\a q=x) w
theorem reach_run{e:Type}(d:Nat->e)(t:PT):∀(w:List e) (S:Nat->Prop),
 Reach d t S w↔∃p u,S p/\Run t p u/\u.map d=w
 |[],S=>by
    constructor
    ·rintro⟨p,a,f⟩;exact⟨p,[],a,f,rfl⟩
    ·rintro⟨p,u,a,c,b⟩
     cases u with
     |nil=>exact⟨p,a,c⟩
     |cons _ _=>simp at b
 |x::w,S=>by
   rw[Reach,reach_run d t w];constructor
   ·rintro⟨q,u,⟨p,a,g,rfl⟩,c,rfl⟩
    exact⟨p,q::u,a,⟨g,c⟩,rfl⟩
   ·rintro⟨p,u,a,c,b⟩
    cases u with
    |nil=>simp at b
    |cons q u=>
      simp only[gd,xM]at b;exact⟨q,u,⟨p,a,c.1,b.1⟩,c.2,b.2⟩
theorem MW_nil{d:Type}(c:Nat->d)(t:PT):MW c t []↔t.null=true:=by
 constructor
 ·rintro⟨u,a,b⟩
  cases u with
  |nil=>exact loc_of_L a
  |cons _ _=>simp at b
 ·intro a;exact⟨[],L_null t a,rfl⟩
theorem MW_cons{c:Type}(b:Nat->c)(t:PT)(f:t.lin)(x:c)(w:List c):
 MW b t (x::w)↔Reach b t (fun q=>t.starts q=true/\b q=x) w:=by
 rw[reach_run];constructor
 ·rintro⟨u,e,a⟩
  cases u with
  |nil=>simp at a
  |cons p u=>
    have d:=loc_of_L e;simp only[gd,xM]at a;exact⟨p,u,⟨d.1,a.1⟩,d.2,a.2⟩
 ·rintro⟨p,u,⟨h,rfl⟩,g,rfl⟩
  exact⟨p::u,L_of_loc t f _ ⟨h,g⟩,rfl⟩
theorem starts_alive{p:Nat}:∀t:PT,t.starts p=true->t.alive=true
 | .none,c=>by simp[PT.starts]at c
 | .eps,_=>rfl
 | .sym _,_=>rfl
 | .cat a b,c=>by
    simp only[PT.starts,PT.alive,di,cS]at c⊢;rcases c with c|c
    ·exact⟨starts_alive a c.1,c.2⟩
    ·exact⟨L_alive (L_null a c.1),starts_alive b c.2⟩
 | .alt a b,c=>by simp only[PT.starts,PT.alive,di]at c⊢;exact c.imp (starts_alive a) (starts_alive b)
 | .star _,_=>rfl
theorem ends_alive{p:Nat}:∀t:PT,t.ends p=true->t.alive=true
 | .none,c=>by simp[PT.ends]at c
 | .eps,_=>rfl
 | .sym _,_=>rfl
 | .cat a b,c=>by
    simp only[PT.ends,PT.alive,di,cS]at c⊢;rcases c with c|c
    ·exact⟨c.1,ends_alive b c.2⟩
    ·exact⟨ends_alive a c.1,L_alive (L_null b c.2)⟩
 | .alt a b,c=>by simp only[PT.ends,PT.alive,di]at c⊢;exact c.imp (ends_alive a) (ends_alive b)
 | .star _,_=>rfl
theorem pairs_alive{p q:Nat}:∀t:PT,t.pairs p q=true->t.alive=true
 | .none,c=>by simp[PT.pairs]at c
 | .eps,_=>rfl
 | .sym _,_=>rfl
 | .cat a b,c=>by
    simp only[PT.pairs,PT.alive,di,cS]at c⊢;rcases c with(c|c)|c
    ·exact⟨pairs_alive a c.1,c.2⟩
    ·exact⟨c.1,pairs_alive b c.2⟩
    ·exact⟨ends_alive a c.1,starts_alive b c.2⟩
 | .alt a b,c=>by simp only[PT.pairs,PT.alive,di]at c⊢;exact c.imp (pairs_alive a) (pairs_alive b)
 | .star _,_=>rfl
inductive Fr where
 |catL (b:PT)|catR (a:PT)|altL (b:PT)|altR (a:PT)|star
def Fr.plug:Fr->PT->PT
 | .catL b,t=>.cat t b
 | .catR a,t=>.cat a t
 | .altL b,t=>.alt t b
 | .altR a,t=>.alt a t
 | .star,t=>.star t
def plugs:List Fr->PT->PT
 |[],t=>t
 |f::a,t=>plugs a (f.plug t)
def Fr.add(p:Nat):Fr->PT->Nat->Bool
 | .catL b,t,q=>t.ends p&&b.starts q
 | .star,t,q=>t.ends p&&t.starts q
 |_,_,_=>false
def climb(p:Nat):PT->List Fr->(Nat->Bool)->Nat->Bool
 |_,[],S=>S
 |t,f::a,S=>if(f.plug t).alive then climb p (f.plug t) a (fun q=>S q||f.add p t q)else fun _=>false
theorem lin_plug{f:Fr}{t:PT}(c:(f.plug t).lin):t.lin:=by
 cases f with
 |catL b=>exact c.1
 |catR a=>exact c.2.1
 |altL b=>exact c.1
 |altR a=>exact c.2.1
 |star=>exact c
theorem lin_plugs:∀(a:List Fr) (t:PT),(plugs a t).lin->t.lin
 |[],_,b=>b
 |_::a,_,b=>lin_plug (lin_plugs a _ b)
theorem inn_plug{f:Fr}{t:PT}{p:Nat}(a:t.inn p=true):(f.plug t).inn p=true:=by cases f<;>simp[Fr.plug,PT.inn,a]
theorem not_of_inn{b:PT}{p:Nat}(c:b.inn p=true->False):b.ends p=false/\∀q,b.pairs p q=false:=by
 refine⟨?_,fun q=> ?_⟩
 ·cases a:b.ends p with
  |false=>rfl
  |true=>exact(c (ends_inn b a)).elim
 ·cases a:b.pairs p q with
  |false=>rfl
  |true=>exact(c (pairs_inn b a).1).elim
theorem pairs_plug{f:Fr}{t:PT}{p:Nat}(e:(f.plug t).lin)(g:t.inn p=true)(d:(f.plug t).alive=true)(q:Nat):
 (f.plug t).pairs p q=(t.pairs p q||f.add p t q):=by
 cases f with
 |catL b=>
   have c:=not_of_inn (b:=b) (p:=p) (e.2.2 p g);simp only[Fr.plug,PT.alive,cS]at d;simp[Fr.plug,PT.pairs,Fr.add,c.2 q,d.2]
 |catR a=>
   have c:=not_of_inn (b:=a) (p:=p) (fun h=>e.2.2 p h g);simp only[Fr.plug,PT.alive,cS]at d;simp[Fr.plug,PT.pairs,Fr.add,c.1,c.2 q,d.1]
 |altL b=>
   have c:=not_of_inn (b:=b) (p:=p) (e.2.2 p g);simp[Fr.plug,PT.pairs,Fr.add,c.2 q]
 |altR a=>
   have c:=not_of_inn (b:=a) (p:=p) (fun h=>e.2.2 p h g);simp[Fr.plug,PT.pairs,Fr.add,c.2 q]
 |star=>simp[Fr.plug,PT.pairs,Fr.add]
theorem dead_plug{f:Fr}{t:PT}{p:Nat}(g:(f.plug t).lin)(h:t.inn p=true)(d:t.ends p=false)(e:∀q,t.pairs p q=false):
 (f.plug t).ends p=false/\∀q,(f.plug t).pairs p q=false:=by
 cases f with
 |catL b=>
   have c:=not_of_inn (b:=b) (p:=p) (g.2.2 p h);exact⟨by simp[Fr.plug,PT.ends,d,c.1],fun q=>by simp[Fr.plug,PT.pairs,d,e q,c.2 q]⟩
 |catR a=>
   have c:=not_of_inn (b:=a) (p:=p) (fun i=>g.2.2 p i h);exact⟨by simp[Fr.plug,PT.ends,d,c.1],fun q=>by simp[Fr.plug,PT.pairs,e q,c.1,c.2 q]⟩
 |altL b=>
   have c:=not_of_inn (b:=b) (p:=p) (g.2.2 p h);exact⟨by simp[Fr.plug,PT.ends,d,c.1],fun q=>by simp[Fr.plug,PT.pairs,e q,c.2 q]⟩
 |altR a=>
   have c:=not_of_inn (b:=a) (p:=p) (fun i=>g.2.2 p i h);exact⟨by simp[Fr.plug,PT.ends,d,c.1],fun q=>by simp[Fr.plug,PT.pairs,e q,c.2 q]⟩
 |star=>exact⟨by simp[Fr.plug,PT.ends,d],fun q=>by simp[Fr.plug,PT.pairs,d,e q]⟩
theorem dead_plugs{p:Nat}:∀(a:List Fr) (t:PT),(plugs a t).lin->t.inn p=true->t.ends p=false->(∀q,t.pairs p q=false)->
 ∀q,(plugs a t).pairs p q=false
 |[],_,_,_,_,b=>b
 |f::a,t,d,e,g,b=>
   have c:=dead_plug (f:=f) (lin_plugs a _ d) e g b
   dead_plugs a (f.plug t) d (inn_plug e) c.1 c.2
theorem climb_pairs{p:Nat}:∀(a:List Fr) (t:PT) (S:Nat->Bool),(plugs a t).lin->t.inn p=true->(∀q,S q=t.pairs p q)->
 ∀q,climb p t a S q=(plugs a t).pairs p q
 |[],_,_,_,_,d,q=>d q
 |f::a,t,S,e,g,d,q=>by
   unfold climb;cases b:(f.plug t).alive with
   |true=>
     rw[ay rfl];exact climb_pairs a (f.plug t) _ e (inn_plug g) (fun q=>by rw[d q,pairs_plug (lin_plugs a _ e) g b q]) q
   |false=>
     rw[au ak];have h:(f.plug t).ends p=false:=by
      cases c:(f.plug t).ends p with
      |false=>rfl
      |true=>rw[ends_alive _ c]at b;exact b
     have i:∀q,(f.plug t).pairs p q=false:=fun q=>by
      cases c:(f.plug t).pairs p q with
      |false=>rfl
      |true=>rw[pairs_alive _ c]at b;exact b
     exact(dead_plugs a (f.plug t) e (inn_plug g) h i q).symm
theorem climb_sym(p:Nat)(a:List Fr)(b:(plugs a (.sym p)).lin)(q:Nat):
 climb p (.sym p) a (fun _=>false) q=(plugs a (.sym p)).pairs p q:=
 climb_pairs a (.sym p) _ b (by simp[PT.inn]) (fun _=>rfl) q
inductive Anc(up:Nat->Nat)(p:Nat):Nat->Prop
 |refl:Anc up p p
 |step {a i}:Anc up p a->up a=i->a<i->Anc up p i
theorem Anc.le{up:Nat->Nat}{p i:Nat}(a:Anc up p i):p<=i:=by
 induction a with
 |refl=>exact az _
 |step _ _ b ih=>omega
theorem Anc.head{up:Nat->Nat}{p i:Nat}(c:Anc up p i):p=i∨Anc up (up p) i:=by
 induction c with
 |refl=>exact .inl rfl
 | @step a i _ b d ih=>
    rcases ih with rfl|ih
    ·right;rw[b];exact .refl
    ·exact .inr (.step ih b d)
theorem Anc.comp{up:Nat->Nat}{p a b:Nat}(f:Anc up p a)(g:Anc up p b):Anc up a b∨Anc up b a:=by
 induction f with
 |refl=>exact .inl g
 | @step a i _ d e ih=>
    rcases ih with c|c
    ·rcases c.head with rfl|c
     ·exact .inr (.step .refl d e)
     ·rw[d]at c;exact .inl c
    ·exact .inr (.step c d e)
theorem Anc.apart{up:Nat->Nat}{p a b i:Nat}(g:Anc up p a)(h:Anc up p b)(e:up a=i)(f:up b=i)(j:a<i)(l:b<i):a=b:=by
 rcases g.comp h with c|c
 ·rcases c.head with d|c
  ·exact d
  ·rw[e]at c;have:=c.le;omega
 ·rcases c.head with d|c
  ·exact d.symm
  ·rw[f]at c;have:=c.le;omega
inductive Mk(tr:Nat->PT)(up:Nat->Nat)(i:Nat):PT->Prop
 |none:Mk tr up i .none
 |eps:Mk tr up i .eps
 |sym:Mk tr up i (.sym i)
 |cat {a b}:a<i->b<i->a≠b->up a=i->up b=i->Mk tr up i (.cat (tr a) (tr b))
 |alt {a b}:a<i->b<i->a≠b->up a=i->up b=i->Mk tr up i (.alt (tr a) (tr b))
 |star {a}:a<i->up a=i->Mk tr up i (.star (tr a))
theorem lin_tr{tr:Nat->PT}{up:Nat->Nat}{n:Nat}(H:∀i,i<n->Mk tr up i (tr i)):
 ∀i,i<n->(tr i).lin/\∀p,(tr i).inn p=true->Anc up p i:=by
 intro i;induction i using Nat.strongRecOn with
 |ind i ih=>
  intro o;have c:=H i o;generalize tr i=t at c;cases c with
  |none=>exact⟨trivial,fun p c=>by simp[PT.inn]at c⟩
  |eps=>exact⟨trivial,fun p c=>by simp[PT.inn]at c⟩
  |sym=>exact⟨trivial,fun p c=>by simp[PT.inn]at c;subst c;exact .refl⟩
  | @cat a b e f m g h=>
     have d:=ih a e ad;have B:=ih b f ad;refine⟨⟨d.1,B.1,fun p j l=>m ((d.2 p j).apart (B.2 p l) g h e f)⟩,fun p c=> ?_⟩;simp only[PT.inn,di]at c;rcases c with c|c
     ·exact .step (d.2 p c) g e
     ·exact .step (B.2 p c) h f
  | @alt a b e f m g h=>
     have d:=ih a e ad;have B:=ih b f ad;refine⟨⟨d.1,B.1,fun p j l=>m ((d.2 p j).apart (B.2 p l) g h e f)⟩,fun p c=> ?_⟩;simp only[PT.inn,di]at c;rcases c with c|c
     ·exact .step (d.2 p c) g e
     ·exact .step (B.2 p c) h f
  | @star a e g=>
     have d:=ih a e ad;exact⟨d.1,fun p c=>.step (d.2 p c) g e⟩
def path(up:Nat->Nat)(fr:Nat->Fr)(root:Nat):Nat->Nat->List Fr
 |0,_=>[]
 |k+1,a=>if a=root then []else fr a::path up fr root k (up a)
theorem plugs_path{tr:Nat->PT}{up:Nat->Nat}{fr:Nat->Fr}{root:Nat}
 (H:∀a,a<root->a<up a/\up a<=root/\(fr a).plug (tr a)=tr (up a)):
 ∀k a,a<=root->root<a+k->plugs (path up fr root k a) (tr a)=tr root
 |0,a,d,e=>ad
 |k+1,a,d,e=>by
   unfold path;by_cases b:a=root
   ·rw[ay b,b];rfl
   ·rw[au b]
    have c:=H a ad;show plugs (path up fr root k (up a)) ((fr a).plug (tr a))=tr root
    rw[c.2.2];exact plugs_path H k (up a) c.2.1 ad
theorem next_pairs{tr:Nat->PT}{up:Nat->Nat}{fr:Nat->Fr}{root:Nat}
 (c:∀i,i<root+1->Mk tr up i (tr i))
 (H:∀a,a<root->a<up a/\up a<=root/\(fr a).plug (tr a)=tr (up a))
 {p:Nat} (e:p<=root) (f:tr p=.sym p) (q:Nat):
 climb p (tr p) (path up fr root (root+1) p) (fun _=>false) q=(tr root).pairs p q:=by
 have d:=plugs_path H (root+1) p e ad;have b:=(lin_tr c root ad).1;rw[<-d]at b⊢;rw[f]at b⊢;exact climb_sym p _ b q
end PRegex
end Go.Proofs.YtnadadbndcdolaaGreatDoor
