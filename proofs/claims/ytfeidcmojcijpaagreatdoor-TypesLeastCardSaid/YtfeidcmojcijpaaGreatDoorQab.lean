import Derived.Test.YtfeidcmojcijpaaGreatDoorQaa
set_option linter.all false
set_option maxRecDepth 100000
set_option maxHeartbeats 0
namespace Go.Proofs.YtfeidcmojcijpaaGreatDoor
open Go.RowKit Tryz
namespace Wey
structure Tot{α:Type}(lt:α->α->Prop):Prop where
 irr:∀a,¬lt a a
 tr:∀{a b c},lt a b->lt b c->lt a c
 tri:∀a b,lt a b∨a=b∨lt b a
section
variable{α:Type} (lt:α->α->Prop) (c:α->Nat)
def wt(W:List α):Nat:=(W.map c).sum
def lex:List α->List α->Prop
 |a::x,b::y=>lt a b∨(a=b/\lex x y)
 |_,_=>False
def bef(V W:List α):Prop:=wt c V<wt c W∨(wt c V=wt c W/\(V<W.length∨(V=W.length/\lex lt V W)))
def le(V W:List α):Prop:=V=W∨bef lt c V W
end
section
variable{α:Type} {lt:α->α->Prop} {c:α->Nat}
def wt_snoc W a:wt c (W++[a])=wt c W+c a:=by simp[wt]
def lex_irr(o:Tot lt):∀W,¬lex lt W W
 |[]=>id
 |a::W=>fun b=>by rcases b with b|⟨_,b⟩;exact o.irr a b;exact lex_irr o W b
def lex_tr(o:Tot lt):∀{U V W},lex lt U V->lex lt V W->lex lt U W
 |[],_,_,c,_=>by cases c
 |_::_,[],_,c,_=>by cases c
 |_::_,_::_,[],_,c=>by cases c
 |a::U,b::V,d::W,c,k=>by
  rcases c with c|⟨rfl,c⟩
  rcases k with k|⟨rfl,k⟩
  exact .inl (o.tr c k);exact .inl c;rcases k with k|⟨rfl,k⟩
  exact .inl k;exact .inr ⟨rfl,lex_tr o c k⟩
def lex_tri(o:Tot lt):∀{V W},V.length=W.length->lex lt V W∨V=W∨lex lt W V
 |[],[],_=>.inr (.inl rfl)
 |[],_::_,c=>by simp at c
 |_::_,[],c=>by simp at c
 |a::V,b::W,c=>by
  rcases o.tri a b with k|rfl|k
  exact .inl (.inl k);rcases lex_tri o (by simpa using c)with k|rfl|k
  exact .inl (.inr ⟨rfl,k⟩);simp;exact .inr (.inr (.inr ⟨rfl,k⟩));exact .inr (.inr (.inl k))
def lex_snoc:∀{V W} a,lex lt V W->lex lt (V++[a]) (W++[a])
 |[],_,_,b=>by cases b
 |_::_,[],_,b=>by cases b
 |x::V,y::W,a,b=>by
  rcases b with b|⟨rfl,b⟩
  exact .inl b;exact .inr ⟨rfl,lex_snoc a b⟩
def bef_irr(o:Tot lt) W:¬bef lt c W W:=by rintro(a|⟨_,a|⟨_,a⟩⟩);omega;omega;exact lex_irr o W a
def bef_tr(o:Tot lt){U V W}(a:bef lt c U V)(k:bef lt c V W):bef lt c U W:=by
 unfold bef at*;rcases a with a|⟨b,a|⟨d,a⟩⟩<;>rcases k with k|⟨e,k|⟨f,k⟩⟩
 omega;omega;omega;omega;omega;omega;omega;omega;exact .inr ⟨ad,.inr ⟨ad,lex_tr o a k⟩⟩
def bef_tri(o:Tot lt) V W:bef lt c V W∨V=W∨bef lt c W V:=by
 unfold bef;rcases tV (wt c V) (wt c W)with a|a|a
 omega;rcases tV V W with k|k|k
 omega;rcases lex_tri o k with m|m|m
 exact .inl (.inr ⟨a,.inr ⟨k,m⟩⟩);exact .inr (.inl m);exact .inr (.inr (.inr ⟨a.zy,.inr ⟨k.zy,m⟩⟩));omega;omega
def bef_snoc{V W} a(b:bef lt c V W):bef lt c (V++[a]) (W++[a]):=by
 unfold bef at*;simp only[wt_snoc,ck,wh];rcases b with b|⟨d,b|⟨e,b⟩⟩
 omega;omega;exact .inr ⟨ad,.inr ⟨ad,lex_snoc a b⟩⟩
def bef_pre V{a}(b:0<c a):bef lt c V (V++[a]):=.inl (by rw[wt_snoc];omega)
def le_tr(o:Tot lt){U V W}(a:le lt c U V)(k:le lt c V W):le lt c U W:=by
 rcases a with rfl|a
 exact k;rcases k with rfl|k
 exact .inr a;exact .inr (bef_tr o a k)
def le_snoc{V W} a(b:le lt c V W):le lt c (V++[a]) (W++[a]):=by
 rcases b with rfl|b
 exact .inl rfl;exact .inr (bef_snoc a b)
def not_le(o:Tot lt){V W}(a:¬le lt c V W):bef lt c W V:=by
 rcases bef_tri o (c:=c) V W with k|k|k
 exact absurd (.inr k) a;exact absurd (.inl k) a;exact k
def not_bef(o:Tot lt){V W}(a:¬bef lt c V W):le lt c W V:=by
 rcases bef_tri o (c:=c) V W with k|k|k
 exact absurd k a;exact .inl k.zy;exact .inr k
def le_not(o:Tot lt){V W}(a:le lt c V W):¬bef lt c W V:=fun k=>by
 rcases a with rfl|a
 exact bef_irr o _ k;exact bef_irr o _ (bef_tr o a k)
def le_wt{V W}(a:le lt c V W):wt c V<=wt c W:=by rcases a with rfl|a|⟨a,_⟩<;>omega
def st(nx:Nat->α->Nat)(W:List α):Nat:=W.foldl nx 0
def st_snoc nx W(a:α):st nx (W++[a])=nx (st nx W) a:=by simp[st]
def Acc(syms:List α)(c:α->Nat)(nx:Nat->α->Nat)(fin:Nat->Prop)(W:List α):Prop:=(∀a∈W,a∈syms)/\wt c W<=4096/\fin (st nx W)
def Opt(lt:α->α->Prop)(syms:List α)(c:α->Nat)(nx:Nat->α->Nat)(fin:Nat->Prop)(W:List α):Prop:=Acc syms c nx fin W/\∀P,Acc syms c nx fin P->le lt c W P
def opt_one(o:Tot lt){syms nx fin V W}(a:Opt lt syms c nx fin V)(k:Opt lt syms c nx fin W):V=W:=by
 rcases a.2 W k.1 with e|e
 exact e;exact absurd e (le_not o (k.2 V a.1))
structure Inv(lt:α->α->Prop)(syms:List α)(c:α->Nat)(nx:Nat->α->Nat)(fin:Nat->Prop)(Q:List (List α))(B:Nat->Option (List α))(T:List Nat)(cur:Nat)(rest:List α):Prop where
 b0:B 0=some []
 bg:∀s W,B s=some W->(∀a∈W,a∈syms)/\st nx W=s/\wt c W<=4096
 q:∀W∈Q,(∀a∈W,a∈syms)/\wt c W<=4096/\∃V,B (st nx W)=some V/\le lt c V W
 d:∀s W,B s=some W->s∈T∨W∈Q
 e:∀s∈T,∀W,B s=some W->∀a∈syms,(s=cur/\a∈rest)∨(wt c W+c a<=4096->∃V,B (nx s a)=some V/\le lt c V (W++[a]))
 f:∀s∈T,¬fin s/\∃W,B s=some W
 g:∀s∈T,∀W,B s=some W->∀V∈Q,¬bef lt c V W
 i:∀s∈T,∀W,B s=some W->W∉Q
 j:Q.Nodup
 n:T.Nodup
section
variable{syms:List α} {nx:Nat->α->Nat} {fin:Nat->Prop} {Q Q':List (List α)} {B:Nat->Option (List α)} {T:List Nat} {cur:Nat} {rest:List α} {w:List α}
def Inv.perm(a:Inv lt syms c nx fin Q B T cur rest)(p:Q.Perm Q'):Inv lt syms c nx fin Q' B T cur rest:=
 ⟨a.b0,a.bg,fun W b=>a.q W (p.mem_iff.2 b),fun s W d=>(a.d s W d).imp_right p.mem_iff.1,a.e,a.f,fun s d W b V f=>a.g s d W b V (p.mem_iff.2 f),fun s d W b e=>a.i s d W b (p.mem_iff.2 e),p.nodup_iff.1 a.j,a.n⟩
def Inv.begin:Inv lt syms c nx fin [[]] (fun s=>if s=0 then some []else none) [] 0 []:=by refine⟨aj,fun s W a=> ?_,fun W d=> ?_,fun s W a=> ?_,fun s b=>by simp at b,fun s b=>by simp at b,fun s b=>by simp at b,fun s b=>by simp at b,aj,aj⟩;by_cases e:s=0;subst e;simp at a;subst a;exact⟨aj,rfl,by simp[wt]⟩;simp[e]at a;simp at d;subst d;exact⟨aj,by simp[wt],[],by simp[st],.inl rfl⟩;by_cases e:s=0;subst e;simp at a;subst a;exact .inr aj;simp[e]at a
def Inv.front(o:Tot lt)(t:∀a∈syms,0<c a)(b:Inv lt syms c nx fin Q B T cur [])(P:List α)(d:∀a∈P,a∈syms)(h:wt c P<=4096):
 (∃V∈Q,le lt c V P)∨(st nx P∈T/\∃V,B (st nx P)=some V/\le lt c V P):=by
 suffices H:∀(n:Nat) (P:List α),P.length=n->(∀a∈P,a∈syms)->wt c P<=4096->(∃V∈Q,le lt c V P)∨(st nx P∈T/\∃V,B (st nx P)=some V/\le lt c V P)from H _ P rfl d h
 intro n;induction n with
 |zero=>
  intro P f d h;have:P=[]:=by cases P;rfl;simp at f
  subst this;rcases b.d 0 [] b.b0 with k|k
  exact .inr ⟨k,[],b.b0,.inl rfl⟩;exact .inl ⟨[],k,.inl rfl⟩
 |succ n ih=>
  intro P f d h;obtain⟨U,a,rfl⟩:∃U a,P=U++[a]:=⟨P.dropLast,P.getLast (by intro e;subst e;simp at f),(Kd _).zy⟩;have l:=d a aj;have u:=t a l;rw[wt_snoc]at h;rcases ih U (by simpa using f) (fun x v=>d x (by simp[v])) ad with⟨V,r,g⟩|⟨q,V,p,g⟩
  exact .inl ⟨V,r,le_tr o g (.inr (bef_pre U u))⟩;have w:=le_wt g;rcases b.e _ q V p a l with⟨_,k⟩|k
  simp at k;obtain⟨X,i,s⟩:=k ad;have j:=le_tr o s (le_snoc a g);rw[st_snoc];rcases b.d _ _ i with m|m
  exact .inr ⟨m,X,i,j⟩;exact .inl ⟨X,m,j⟩
def Inv.end(o:Tot lt)(j:∀a∈syms,0<c a)(b:Inv lt syms c nx fin (w::Q) B T cur [])(m:∀V∈Q,¬bef lt c V w)(l:fin (st nx w)):Opt lt syms c nx fin w:=by
 obtain⟨g,h,_⟩:=b.q w aj;refine⟨⟨g,h,l⟩,fun P d=> ?_⟩;rcases b.front o j P d.1 d.2.1 with⟨V,e,f⟩|⟨i,_⟩
 rcases bX.1 e with rfl|e
 exact f;exact le_tr o (not_bef o (m V e)) f;exact absurd d.2.2 (b.f _ i).1
def Inv.none(o:Tot lt)(g:∀a∈syms,0<c a)(d:Inv lt syms c nx fin [] B T cur [])(P:List α):¬Acc syms c nx fin P:=fun b=>by
 rcases d.front o g P b.1 b.2.1 with⟨V,f,_⟩|⟨e,_⟩
 simp at f;exact(d.f _ e).1 b.2.2
def Inv.stale(o:Tot lt){V:List α}(a:Inv lt syms c nx fin (w::Q) B T cur [])(e:B (st nx w)=some V)(h:bef lt c V w):Inv lt syms c nx fin Q B T cur []:=by
 refine⟨a.b0,a.bg,fun W d=>a.q W (by simp[d]),fun s W b=> ?_,a.e,a.f,fun s b W d X g=>a.g s b W d X (by simp[g]),fun s b W d f=>a.i s b W d (by simp[f]),(lS.1 a.j).2,a.n⟩;rcases a.d s W b with k|k
 exact .inl k;rcases bX.1 k with rfl|k
 have:=(a.bg s W b).2.1;rw[this,b]at e;injection e with e
 subst e;exact absurd h (bef_irr o _);exact .inr k
def Low(lt:α->α->Prop)(c:α->Nat)(B:Nat->Option (List α))(T:List Nat)(w:List α):Prop:=∀s∈T,∀W,B s=some W->le lt c W w
def Inv.go(o:Tot lt)(e:Inv lt syms c nx fin (w::Q) B T cur [])(n:∀V∈Q,¬bef lt c V w)(m:¬fin (st nx w))(f:B (st nx w)=some w):
 Inv lt syms c nx fin Q B (st nx w::T) (st nx w) syms/\st nx w∉T/\Low lt c B (st nx w::T) w:=by
 have l:=lS.1 e.j;have g:st nx w∉T:=fun g=>e.i _ g w f aj;refine⟨⟨e.b0,e.bg,fun W d=>e.q W (by simp[d]),fun s W b=> ?_,fun s b W d a j=> ?_,fun s b=> ?_,fun s b W d V i=> ?_,fun s b W d h=> ?_,l.2,lS.2 ⟨g,e.n⟩⟩,g,fun s b W d=> ?_⟩;rcases e.d s W b with k|k
 exact .inl (by simp[k]);rcases bX.1 k with rfl|k
 exact .inl (by simp[(e.bg s W b).2.1]);exact .inr k;rcases bX.1 b with rfl|b
 exact .inl ⟨rfl,j⟩;rcases e.e s b W d a j with⟨_,k⟩|k
 simp at k;exact .inr k;rcases bX.1 b with rfl|b
 exact⟨m,w,f⟩;exact e.f s b;rcases bX.1 b with rfl|b
 rw[f]at d;cases d;exact n V i;exact e.g s b W d V (by simp[i]);rcases bX.1 b with rfl|b
 rw[f]at d;cases d;exact l.1 h;exact e.i s b W d (by simp[h]);rcases bX.1 b with rfl|b
 rw[f]at d;injection d with d;exact .inl d.zy
 exact not_bef o (e.g s b W d w aj)
def Inv.skip{a:α}(b:Inv lt syms c nx fin Q B T cur (a::rest))(e:B cur=some w)(h:4096<wt c w+c a):Inv lt syms c nx fin Q B T cur rest:=by
 refine⟨b.b0,b.bg,b.q,b.d,fun s f W d x g=> ?_,b.f,b.g,b.i,b.j,b.n⟩;rcases b.e s f W d x g with⟨k,m⟩|k
 rcases bX.1 m with rfl|m
 subst k;rw[e]at d;cases d;omega;exact .inl ⟨k,m⟩;exact .inr k
def Inv.old{a:α}{V:List α}(b:Inv lt syms c nx fin Q B T cur (a::rest))(e:B cur=some w)(g:B (nx cur a)=some V)(h:le lt c V (w++[a])):Inv lt syms c nx fin Q B T cur rest:=by
 refine⟨b.b0,b.bg,b.q,b.d,fun s f W d x i=> ?_,b.f,b.g,b.i,b.j,b.n⟩;rcases b.e s f W d x i with⟨k,m⟩|k
 rcases bX.1 m with rfl|m
 subst k;rw[e]at d;cases d;exact .inr (fun _=>⟨V,g,h⟩);exact .inl ⟨k,m⟩;exact .inr k
def upd(B:Nat->Option (List α))(s:Nat)(W:List α):Nat->Option (List α):=fun t=>if t=s then W else B t
def Inv.put(o:Tot lt){a:α}(C:0<c a)(A:a∈syms)(d:Inv lt syms c nx fin Q B T cur (a::rest))(J:cur∈T)(r:B cur=some w)(D:wt c w+c a<=4096)(z:Low lt c B T w)(q:∀V,B (nx cur a)=some V->¬le lt c V (w++[a])):
 Inv lt syms c nx fin (Q++[w++[a]]) (upd B (nx cur a) (w++[a])) T cur rest/\nx cur a∉T/\Low lt c (upd B (nx cur a) (w++[a])) T w:=by
 have u:=(d.bg cur w r).2.1;have j:nx cur a∉T:=fun j=>by obtain⟨V,g⟩:=(d.f _ j).2;exact q V g (le_tr o (z _ j V g) (.inr (bef_pre w C)))
 have n:∀t,t≠nx cur a->upd B (nx cur a) (w++[a]) t=B t:=fun t I=>by simp[upd,I]
 have l:upd B (nx cur a) (w++[a]) (nx cur a)=(w++[a]):=by simp[upd]
 have p:=fun s b=>n s (fun e=>j (e▸b));have H:nx cur a≠0∨B 0=some (w++[a]):=by
  by_cases e:nx cur a=0;exfalso;have:=q [] (by rw[e];exact d.b0);rcases bef_tri o (c:=c) [] (w++[a])with k|k|k
  exact this (.inr k);simp at k;rcases k with k|⟨_,m|⟨m,_⟩⟩
  simp[wt]at k;simp at m;simp at m;exact .inl e
 refine⟨⟨?_,fun s W b=> ?_,fun W f=> ?_,fun s W b=> ?_,fun s b W f x i=> ?_,fun s b=> ?_,fun s b W f V g=> ?_,fun s b W f G=> ?_,?_,d.n⟩,j,fun s b W f=>z s b W (by rw[<-p s b];exact f)⟩;rcases H with e|e
 rw[n 0 (mQ e)];exact d.b0;rw[d.b0]at e;simp at e;by_cases e:s=nx cur a;subst e;rw[l]at b;cases b;refine⟨fun x i=> ?_,by rw[st_snoc,u],by rw[wt_snoc];exact D⟩;rcases dk.1 i with k|k
 exact(d.bg cur w r).1 x k;simp at k;subst k;exact A;rw[n s e]at b;exact d.bg s W b;rcases dk.1 f with k|k
 obtain⟨v,F,V,g,h⟩:=d.q W k;refine⟨v,F,?_⟩;by_cases e:st nx W=nx cur a;rw[e]at g⊢;exact⟨_,l,le_tr o (.inr (not_le o (q V g))) h⟩;rw[n _ e];exact⟨V,g,h⟩;simp at k;subst k;refine⟨fun x i=> ?_,by rw[wt_snoc];exact D,_,by rw[st_snoc,u];exact l,.inl rfl⟩;rcases dk.1 i with k|k
 exact(d.bg cur w r).1 x k;simp at k;subst k;exact A;by_cases e:s=nx cur a;subst e;rw[l]at b;cases b;simp;rw[n s e]at b;exact(d.d s W b).imp_right fun k=>by simp[k]
 rw[p s b]at f;rcases d.e s b W f x i with⟨k,m⟩|k
 rcases bX.1 m with rfl|m
 subst k;rw[r]at f;cases f;exact .inr (fun _=>⟨_,l,.inl rfl⟩);exact .inl ⟨k,m⟩;refine .inr (fun m=> ?_);obtain⟨V,g,h⟩:=k m;by_cases e:nx s x=nx cur a;rw[e]at g⊢;exact⟨_,l,le_tr o (.inr (not_le o (q V g))) h⟩;rw[n _ e];exact⟨V,g,h⟩;obtain⟨v,W,f⟩:=d.f s b;exact⟨v,W,by rw[p s b];exact f⟩;rw[p s b]at f;rcases dk.1 g with k|k
 exact d.g s b W f V k;simp at k;subst k;exact le_not o (le_tr o (z s b W f) (.inr (bef_pre w C)));rw[p s b]at f;rcases dk.1 G with k|k
 exact d.i s b W f k;simp at k;have:=(d.bg s W f).2.1;rw[k,st_snoc,u]at this;exact j (this▸b);refine Ke.2 ⟨d.j,aj,fun x i y E e=> ?_⟩;simp at E;subst E;subst e;obtain⟨_,_,V,g,h⟩:=d.q _ i;rw[st_snoc,u]at g;exact q V g h
end
end
end Wey
section
namespace Wey
open Classical
section
variable{α:Type} {lt:α->α->Prop}
def ahR(lt:α->α->Prop):Option (Nat×List α)->Option (Nat×List α)->Prop
 |none,_=>False
 |some _,none=>True
 |some (N,V),some (a,W)=>N<a∨(N=a/\(V<W.length∨(V=W.length/\lex lt V W)))
def ahR_irr(o:Tot lt):∀x:Option _,¬ahR lt x x
 |none=>id
 |some (N,W)=>by rintro(a|⟨_,a|⟨_,a⟩⟩);omega;omega;exact lex_irr o W a
def ahR_tr(o:Tot lt):∀{x y z:Option _},ahR lt x y->ahR lt y z->ahR lt x z
 |none,_,_,a,_=>by cases a
 |some _,none,_,_,k=>by cases k
 |some _,some _,none,_,_=>trivial
 |some (b,U),some (N,V),some (c,W),a,k=>by
  unfold ahR at*;rcases a with a|⟨d,a|⟨e,a⟩⟩<;>rcases k with k|⟨f,k|⟨g,k⟩⟩
  omega;omega;omega;omega;omega;omega;omega;omega;exact .inr ⟨ad,.inr ⟨ad,lex_tr o a k⟩⟩
variable{p:α->Nat}
def big(p:α->Nat)(a:α):Nat:=if p a=0 then 4097 else p a
def big_pos a:0<big p a:=by unfold big;split<;>omega
def big_wt{W}(b:∀a∈W,0<p a):wt (big p) W=wt p W:=by
 unfold wt;congr 1
 exact CX fun a c=>by have:=b a c;unfold big;rw[ap ad]
def near_pos{W}(f:wt (big p) W<=4096):∀a∈W,0<p a:=by
 induction W with
 |nil=>intro a c;simp at c
 |cons b W ih=>
  have e:wt (big p) (b::W)=big p b+wt (big p) W:=by simp[wt]
  intro a c;rcases bX.1 c with rfl|c
  have d:big p a<=4096:=ad;unfold big at d;split at d<;>omega;exact ih ad a c
structure RInv(syms:List α)(p:α->Nat)(nx:Nat->α->Nat)(n:Nat)(R:Nat->Option (Nat×List α)):Prop where
 r0:R 0=some (0,[])
 rg:∀s N W,R s=some (N,W)->(∀a∈W,a∈syms/\0<p a)/\st nx W=s/\N=min 4097 (wt p W)/\W.length<=n
def Stable(lt:α->α->Prop)(syms:List α)(p:α->Nat)(nx:Nat->α->Nat)(n:Nat)(R:Nat->Option (Nat×List α)):Prop:=
 ∀s N W,R s=some (N,W)->∀a∈syms,0<p a->W+1<=n->¬ahR lt ((min 4097 (N+p a),W++[a])) (R (nx s a))
variable{syms:List α} {nx:Nat->α->Nat} {n:Nat} {R:Nat->Option (Nat×List α)}
def RInv.put(c:RInv syms p nx n R){s N:Nat}{W:List α}{a:α}(r:R s=some (N,W))(m:a∈syms)(q:0<p a)(o:W.length+1<=n)(d:ahR lt (some (min 4097 (N+p a),W++[a])) (R (nx s a))):
 RInv syms p nx n (fun t=>if t=nx s a then some (min 4097 (N+p a),W++[a])else R t):=by
 obtain⟨i,j,l,v⟩:=c.rg s N W r;refine⟨?_,fun t f V b=> ?_⟩;by_cases e:0=nx s a;rw[<-e,c.r0]at d;unfold ahR at d;simp at d;rw[ap e];exact c.r0;by_cases e:t=nx s a;subst e;simp only[ix]at b;injection b with b;injection b with g h
 subst g;subst h;refine⟨fun x u=> ?_,by rw[st_snoc,j],by rw[wt_snoc,l];omega,by simp;exact o⟩;rcases dk.1 u with k|k
 exact i x k;simp at k;subst k;exact⟨m,q⟩;rw[ap e]at b;exact c.rg t f V b
def st_lt(d:0<n)(e:∀s a,s<n->a∈syms->nx s a<n):∀W,(∀a∈W,a∈syms)->st nx W<n:=by
 have:∀(W:List α) s,s<n->(∀a∈W,a∈syms)->W.foldl nx s<n:=by
  intro W;induction W with
  |nil=>intro s c _;exact c
  |cons a W ih=>intro s c b;exact ih _ (e s a c (b a aj)) (fun x f=>b x (by simp[f]))
 exact fun W b=>this W 0 d b
def nodup_len{l L:List Nat}(g:l.Nodup)(d:∀x∈l,x∈L):l<=L.length:=by
 induction l generalizing L with
 |nil=>simp
 |cons a l ih=>
  have b:=lS.1 g;have c:=d a aj;have:=ih (L:=L.erase a) b.2 (fun x f=>(zx (fun e=>b.1 (by rw[<-e];exact f))).2 (d x (by simp[f])));rw[CY c]at this;have:=zy c;simp;omega
def cut(L:List Nat) W(g:∀k,k<=W.length->st nx (W.take k)∈L)(q:L.length<=W.length):∃X Y d,W=X++Y++d/\Y≠[]/\st nx (X++Y)=st nx X:=by
 have m:¬((List.range (W.length+1)).map fun k=>st nx (W.take k)).Nodup:=fun h=>by
  have:=nodup_len h (L:=L) (fun x o=>by obtain⟨k,l,rfl⟩:=dL.1 o;exact g k (aQ (eT.1 l)))
  simp at this;omega
 have:∃i j,i<j/\j<=W.length/\st nx (W.take i)=st nx (W.take j):=by refine dU fun n=>m ?_;rw[zz,List.pairwise_map];refine List.Pairwise.imp_of_mem ?_ List.pairwise_lt_range;intro i j p c b e;exact n ⟨i,j,b,by have:=eT.1 c;omega,e⟩
 obtain⟨i,j,b,c,e⟩:=this;refine⟨W.take i,(W.take j).drop i,W.drop j,?_,fun f=> ?_,?_⟩;have a:W.take i++(W.take j).drop i=W.take j:=by have:=ig i (W.take j);rwa[CZ,rX ad]at this
 rw[a,ig];have:=gA List.length f;simp at this;omega;have a:W.take i++(W.take j).drop i=W.take j:=by have:=ig i (W.take j);rwa[CZ,rX ad]at this
 rw[a,e]
def st_app X Y:st nx (X++Y)=Y.foldl nx (st nx X):=by simp[st]
def wt_app c(X Y:List α):wt c (X++Y)=wt c X+wt c Y:=by simp[wt]
def wt_ne{c}(d:∀a,0<c a):∀{Y:List α},Y≠[]->0<wt c Y
 |[],b=>absurd rfl b
 |a::Y,_=>by have:=d a;simp[wt];omega
def near(o:Tot lt)(m:RInv syms p nx n R)(A:Stable lt syms p nx n R)(F:0<n)(G:∀s a,s<n->a∈syms->nx s a<n):
 ∀k P,wt (big p) P=k->(∀a∈P,a∈syms)->k<=4096->∃N W,R (st nx P)=(N,W)/\N=wt (big p) W/\le lt (big p) W P:=by
 intro k;induction k using Nat.strongRecOn with
 |ind k ih=>
 intro P u q Q;rcases zA P with rfl|⟨U,a,rfl⟩
 exact⟨0,[],m.r0,by simp[wt],.inl rfl⟩;rw[zB]at u q⊢;rw[wt_snoc]at u;have ab:=big_pos (p:=p) a;have⟨N,V,t,T,v⟩:=ih _ ad U rfl (fun x g=>q x (by simp[g])) ad;have⟨i,J,al,an⟩:=m.rg _ _ _ t;have C:=le_wt v;have B:V.length+1<=n:=by
  refine dU fun ae=> ?_;obtain⟨X,Y,l,e,D,I⟩:=cut _ V (fun k _=>eT.2 (st_lt F G _ (fun x g=>(i x (Kf g)).1))) aO;subst e;have Z:=wt_ne (c:=big p) (fun a=>big_pos a) D;simp only[wt_app]at C;have⟨j,M,h,S,E⟩:=ih _ (by simp only[wt_app];omega) (X++l) rfl (fun x g=>by
   rcases dk.1 g with k|k
   exact(i x (by simp[k])).1;exact(i x (by simp[k])).1) (by simp only[wt_app];omega)
  have y:st nx (X++l)=st nx U:=by rw[<-J,st_app (X++Y) l,I,<-st_app]
  rw[y,t]at h;injection h with h;injection h with O z
  subst z;have:=le_wt E;simp only[wt_app]at this;omega
 have d:=q a aj;have H:0<p a:=near_pos (W:=U++[a]) (by rw[wt_snoc];omega) a aj;have aa:big p a=p a:=by unfold big;rw[ap ad]
 have f:=A _ _ _ t a d H B;rw[st_snoc];cases r:R (nx (st nx U) a)with
 |none=>rw[r]at f;exact absurd trivial f
 |some x=>
  obtain⟨j,X⟩:=x;rw[r]at f;have⟨K,ao,av,aw⟩:=m.rg _ _ _ r;unfold ahR at f;have af:=big_wt fun a d=>(i a d).2;have ag:=big_wt fun a d=>(K a d).2;have w:le lt (big p) X (V++[a]):=by
   refine not_bef o fun b=>f ?_;unfold bef at b;rw[wt_snoc]at b;rcases b with b|⟨e,b⟩
   by_cases e:min 4097 (N+p a)<j;exact .inl e;omega;exact .inr ⟨ad,b⟩
  have:=le_wt w;rw[wt_snoc]at this;exact⟨j,X,rfl,ad,le_tr o w (le_snoc a v)⟩
def far(o:Tot lt)(l:RInv syms p nx n R)(C:Stable lt syms p nx n R)(z:0<n)(u:∀s a,s<n->a∈syms->nx s a<n) P(K:∀a∈P,a∈syms/\0<p a):∃x,R (st nx P)=some x:=by
 let S:Nat->Prop:=fun s=>∃N W,R s=some (N,W)/\N<=4096
 let D:Nat->Nat->Prop:=fun k s=>∃N W,R s=some (N,W)/\(N<=4096∨W<((List.range n).filter fun s=>decide (S s)).length+k)
 let f:Nat->Nat:=fun k=>((List.range n).filter fun s=>decide (D k s))
 have M:∀s N W,R s=some (N,W)->N<=4096->W.length<((List.range n).filter fun s=>decide (S s)).length:=by
  intro s N W g F;obtain⟨w1,av,a9,ba⟩:=l.rg _ _ _ g;have ao:=big_wt fun a h=>(w1 a h).2;refine dU fun A=> ?_;obtain⟨X,Y,q,e,O,ag⟩:=cut (nx:=nx) ((List.range n).filter fun s=>decide (S s)) W (fun k y=>by
   have m:∀a∈W.take k,a∈syms:=fun a h=>(w1 a (Kf h)).1;rw[jJ];refine⟨eT.2 (st_lt z u _ m),iS ?_⟩;have a7:wt (big p) (W.take k)<=wt (big p) W:=by
    conv=>rhs;rw[<-ig k W,wt_app]
    omega
   have⟨j,V,i,v,r⟩:=near o l C z u _ _ rfl m ad;have:=le_wt r;exact⟨j,V,i,ad⟩) ad
  subst e;have a3:=wt_ne (c:=big p) (fun a=>big_pos a) O;simp only[wt_app]at ao;have m:∀a∈X++q,a∈syms:=fun x b=>by
   rcases dk.1 b with k|k
   exact(w1 x (by simp[k])).1;exact(w1 x (by simp[k])).1
  have a6:wt p (X++Y++q)=wt (big p) X+wt (big p) Y+wt (big p) q:=by simp only[wt_app];omega
  have⟨j,V,i,v,r⟩:=near o l C z u _ _ rfl m (by simp only[wt_app];omega);have E:st nx (X++q)=s:=by rw[<-av,st_app (X++Y) q,ag,<-st_app]
  rw[E,g]at i;injection i with i;injection i with aw I
  subst I;have:=le_wt r;simp only[wt_app]at this;omega
 have al:∀k,((List.range n).filter fun s=>decide (S s)).length+k<=n->∀s,D k s->∀a∈syms,0<p a->D (k+1) (nx s a):=by
  rintro k y s ⟨N,W,g,d⟩ a h af;have a5:W.length<((List.range n).filter fun s=>decide (S s)).length+k:=by
   rcases d with d|d
   have:=M s N W g d;omega;exact d
  have t:=C s N W g a h af ad;cases w:R (nx s a)with
  |none=>rw[w]at t;exact absurd trivial t
  |some x=>
   obtain⟨j,X⟩:=x;rw[w]at t;unfold ahR at t;refine⟨j,X,w,?_⟩;by_cases a1:j<=4096;omega;refine .inr ?_;have a2:=(l.rg _ _ _ w).2.2.1;have:¬(W++[a]).length<X.length:=fun e=>t (by by_cases E:min 4097 (N+p a)<j;omega;omega)
   simp at this;omega
 have a0:D 0 0:=⟨0,[],l.r0,.inl ad⟩;have H:∀k s,D k s->D (k+1) s:=by rintro k s ⟨N,W,g,d⟩;exact⟨N,W,g,d.imp_right fun e=>ad⟩
 have Z:((List.range n).filter fun s=>decide (S s)).length<=f 0:=by refine nodup_len (Kg _ zC) fun x b=> ?_;rw[jJ]at b⊢;obtain⟨N,W,g,F⟩:=kE b.2;exact⟨b.1,iS ⟨N,W,g,.inl F⟩⟩
 have aa:∀k,f k<=n:=fun k=>by have:=lf (fun s=>decide (D k s)) (List.range n);rwa[wi]at this
 have m:∀k,f k<=f (k+1):=fun k=>nodup_len (Kg _ zC) fun x b=>by rw[jJ]at b⊢;exact⟨b.1,iS (H k x (kE b.2))⟩
 have an:∃k,((List.range n).filter fun s=>decide (S s)).length+k<=n/\f (k+1)=f k:=by
  refine dU fun A=> ?_;have:∀k,((List.range n).filter fun s=>decide (S s)).length+k<=n+1->((List.range n).filter fun s=>decide (S s)).length+k<=f k:=by
   intro k;induction k with
   |zero=>intro _;exact Z
   |succ k ih=>
    intro y;have i:=ih ad;have v:=m k;have r:f (k+1)≠f k:=fun e=>A ⟨k,ad,e⟩;omega
  have i:=aa (n+1-((List.range n).filter fun s=>decide (S s)));have v:=lf (fun s=>decide (S s)) (List.range n);rw[wi]at v;have r:=this (n+1-((List.range n).filter fun s=>decide (S s))) ad;omega
 obtain⟨k,y,a4⟩:=an;have T:∀s,s<n->D (k+1) s->D k s:=by
  intro s B d;refine dU fun A=> ?_;have:f k+1<=f (k+1):=by
   have ae:(s::(List.range n).filter fun s=>decide _).Nodup:=lS.2 ⟨fun ab=>A (kE (jJ.1 ab).2),Kg _ zC⟩;have:=nodup_len ae (L:=(List.range n).filter fun s=>decide (D (k+1) s)) (fun x b=>by
    rw[jJ];rcases bX.1 b with rfl|b
    exact⟨eT.2 B,iS d⟩;rw[jJ]at b;exact⟨b.1,iS (H k x (kE b.2))⟩)
   omega
  omega
 have Q:∀(W:List α) (s:Nat),s<n->D k s->(∀a∈W,a∈syms/\0<p a)->D k (W.foldl nx s):=by
  intro W;induction W with
  |nil=>intro s _ d _;exact d
  |cons a W ih=>
   intro s B d G;have h:=G a aj;exact ih _ (u s a B h.1) (T _ (u s a B h.1) (al k y s d a h.1 h.2)) (fun x b=>G x (by simp[b]))
 have J:D k 0:=⟨0,[],l.r0,.inl ad⟩;have⟨N,W,g,_⟩:=Q P 0 z J K;exact⟨_,g⟩
end
end Wey
end
def rH(v:Value):Option (DataW Value×List MemPlace):=some (.held v,[])
def bV(w:World)(P:Program)(k:TypeId)(M n:Nat)(f:Lit->Option Value):Prop:=
 ∃D,w.ownsMap P k rH M n D/\Maps.IsMap D/\∀kl,WideAt.IsKeyLit kl->Maps.has D kl=(f kl).isSome/\∀v,f kl=some v->∀z,D.atKey kl z=.held v
def F2{v d ps}(a:rH v=some (d,ps)):d=.held v:=by unfold rH at a;injection a with a;injection a with b _;exact b.zy
variable{w w':World} {P:Program} {k:TypeId} {M n:Nat} {f:Lit->Option Value}
def bV.made(w:World)(P:Program)(k:TypeId):bV (w.alloc (.map #[] 0)) P k w.heap.size 0 (fun _=>none):=
 ⟨_,C7 w P k rH,Maps.isMap_empty,fun kl _=>⟨rfl,fun v a=>by cases a⟩⟩
def bV.zw{row:Option Nat}(a:bV w P k M n f)(c:w.grownBy w' row)(d:some M≠row):bV w' P k M n f:=by obtain⟨D,b,e⟩:=a;exact⟨D,b.zw c d,e⟩
def bV.O{a:Nat}(c:bV w P k M n f)(h:Below a w w')(g:M<a):bV w' P k M n f:=by obtain⟨D,d,j⟩:=c;obtain⟨b,clock,i,F,l,e⟩:=d;exact⟨D,⟨b,clock,(h.J M g).Z i,F,l,e⟩,j⟩
def bV.lt(a:bV w P k M n f):M<w.heap.size:=by obtain⟨D,b,c⟩:=a;exact b.lt
def bV.look{t e:TypeId}(g:bV w P k M n f)(d:Maps.Keyed P k)(p:P.underlying t=some (.map k e)){z:Value}(q:(zeroValue e).run P w=.ok z w){key:Value}{kl:Lit}(j:WideAt.IsKeyLit kl)(l:keyOf P k key=some kl):
 (Instr.lookup t (.map (some M)) key false).run P w=.ok ((f kl).getD z) w:=by
 obtain⟨D,i,r,m⟩:=g;obtain⟨v,ps,o,hv⟩:=i.lookup d p q rfl l;have a:=F2 hv;have⟨b,h⟩:=m kl j;rw[o];cases c:f kl with
 |none=>
  rw[c]at b;rw[Maps.atKey_of_not_has b]at a;injection a with a
  rw[a];rfl
 |some u=>
  rw[h u c]at a;injection a with a
  rw[a];rfl
def bV.look_ok{t e:TypeId}(g:bV w P k M n f)(d:Maps.Keyed P k)(p:P.underlying t=some (.map k e)){z:Value}(q:(zeroValue e).run P w=.ok z w){key:Value}{kl:Lit}(j:WideAt.IsKeyLit kl)(l:keyOf P k key=some kl):
 (Instr.lookup t (.map (some M)) key true).run P w=.ok (.tuple #[(f kl).getD z,.bool (f kl).isSome]) w:=by
 obtain⟨D,i,r,m⟩:=g;obtain⟨v,ps,o,hv⟩:=i.look_ok d p q rfl l;have a:=F2 hv;have⟨b,h⟩:=m kl j;rw[o];rw[<-b];cases c:f kl with
 |none=>
  rw[c]at b;rw[Maps.atKey_of_not_has b]at a;injection a with a
  rw[a];rfl
 |some u=>
  rw[h u c]at a;injection a with a
  rw[a];rfl
open Classical in
noncomputable def il(f:Lit->Option Value)(kl:Lit)(v:Value):Lit->Option Value:=fun x=>if x=kl then v else f x
def kt f kl v:il f kl v kl=v:=by unfold il;simp
def mj f{kl x} v(a:x≠kl):il f kl v x=f x:=by unfold il;rw[ap a]
def bV.put_of{D:DataW Value}{kl:Lit}{v:Value}(c:WideAt.IsKeyLit kl)(a:Maps.IsMap D)(d:∀kl,WideAt.IsKeyLit kl->Maps.has D kl=(f kl).isSome/\∀v,f kl=some v->∀z,D.atKey kl z=.held v)
 (h:w'.ownsMap P k rH M (n+1) (D.put kl (.held v))):bV w' P k M (n+1) (il f kl v):=by
 refine⟨_,h,a.put _ _,fun x g=> ?_⟩;by_cases e:x=kl;subst e;rw[kt,Kq a c];exact⟨rfl,fun u b z=>by cases b;exact Maps.atKey_put_same a c _ _⟩;rw[mj f v e,Kr e];exact⟨(d x g).1,fun u b z=>by rw[Maps.atKey_put_other e];exact(d x g).2 u b z⟩
def tf{w ops rest o a Q}
 (c:bV w P k M n f) (j:o.guard=none) m x v t (u:o.op=Op.mapUpdate t m x v)
  e (b:Maps.Keyed P k) (z:P.underlying t=some (.map k e)) (q:a.eval m=.map M) (s:n<maxLen) key val kl (A:a.eval x=key) (hv:a.eval v=val) (l:WideAt.IsKeyLit kl) (p:keyOf P k key=kl)
 (i:∀w',bV w' P k M (n+1) (il f kl val)->w.grownBy w' M->wpList P ops Q rest (a.put o.dst undef) w'):
 wpList P ops Q (o::rest) a w:=by
 obtain⟨D,h,r,y⟩:=c;exact C9 w j m x v t u k e b z rH M n D q h s key val kl A hv p _ [] rfl fun w' d g=>i w' (bV.put_of l r y d) g
namespace Orb
section
variable{E:Nat->Nat->Prop}
def Wk(E:Nat->Nat->Prop):Nat->Nat->Nat->Prop
 |0,s,t=>s=t
 |k+1,s,t=>∃u,E s u/\Wk E k u t
def wk_add{a b s t}:Wk E (a+b) s t↔∃u,Wk E a s u/\Wk E b u t:=by
 induction a generalizing s with
 |zero=>simp[Wk]
 |succ a ih=>
  rw[Nat.succ_add];constructor;rintro⟨u,c,f⟩;obtain⟨v,d,e⟩:=ih.1 f;exact⟨v,⟨u,c,d⟩,e⟩;rintro⟨v,⟨u,c,d⟩,e⟩;exact⟨u,c,ih.2 ⟨v,d,e⟩⟩
def wk_path{k s t}(a:Wk E k s t):∃f:Nat->Nat,f 0=s/\f k=t/\∀i,i<k->E (f i) (f (i+1)):=by
 induction k generalizing s with
 |zero=>exact⟨fun _=>s,rfl,a,fun i h=>ad⟩
 |succ k ih=>
  obtain⟨u,e,g⟩:=a;obtain⟨f,c,d,j⟩:=ih g;refine⟨fun i=>if i=0 then s else f (i-1),aj,by simp[d],fun i h=> ?_⟩;by_cases b:i=0;subst b;simp[c,e];have:=j (i-1) ad;rw[show i-1+1=i by omega]at this;simp[b,this]
def path_wk{f:Nat->Nat}{k}(a:∀i,i<k->E (f i) (f (i+1))):∀d i,i+d<=k->Wk E d (f i) (f (i+d))
 |0,_,_=>rfl
 |d+1,i,b=>⟨f (i+1),a i ad,by have:=path_wk a d (i+1) ad;rwa[show i+1+d=i+(d+1) by omega]at this⟩
def path_sub{f:Nat->Nat}{k i j}(a:∀i,i<k->E (f i) (f (i+1)))(b:i<=j)(c:j<=k):Wk E (j-i) (f i) (f j):=by have:=path_wk a (j-i) i ad;rwa[show i+(j-i)=j by omega]at this
def pig:∀n (V:List Nat) (f:Nat->Nat),V.length=n->(∀i,i<=n->f i∈V)->∃i j,i<j/\j<=n/\f i=f j
 |0,V,f,b,a=>by have:=a 0 (ay _);rw[zX.1 b]at this;cases this
 |n+1,V,f,b,a=>by
  by_cases g:∃i,i<=n/\f i=f (n+1);obtain⟨i,c,d⟩:=g;exact⟨i,_,ad,ay _,d⟩;have m:=a _ (ay _);obtain⟨i,j,c,d,h⟩:=pig n _ f (by rw[CY m,b];rfl) (fun i l=>by rw[zx (fun e=>g ⟨i,l,e⟩)];exact a i ad)
  exact⟨i,j,c,ad,h⟩
def least{p:Nat->Prop}{m}(b:p m):∃k,p k/\∀q,q<k->¬p q:=by
 induction m using Nat.strongRecOn with
 |_ m ih=>
  by_cases a:∃q,q<m/\p q;obtain⟨q,c,d⟩:=a;exact ih q c d;exact⟨m,b,fun q f e=>a ⟨q,f,e⟩⟩
def stands{n j y}{V:List Nat}(w:V.length=n)(v:∀s u,E s u->u∈V)(H:y∈V)(z:Wk E j y y):∀q t,(n-1)*j<=q->(Wk E (q+j) y t↔Wk E q y t):=by
 have A:∀k s t,s∈V->Wk E k s t->t∈V:=by
  intro k;induction k with
  |zero=>intro s t d a;cases a;exact d
  |succ k ih=>intro s t d a;obtain⟨u,b,c⟩:=a;exact ih u t (v _ _ b) c
 have up:∀i t,Wk E (i*j) y t->Wk E ((i+1)*j) y t:=by intro i t a;rw[zZ,Dy];exact wk_add.2 ⟨y,z,a⟩
 have I:∃i,i<n/\∀t,Wk E ((i+1)*j) y t->Wk E (i*j) y t:=by
  apply dU;intro C;have x:∀i,i<n->∃t,Wk E ((i+1)*j) y t/\¬Wk E (i*j) y t:=by intro i f;apply dU;intro G;exact C ⟨i,f,fun t g=>dU fun B=>G ⟨t,g,B⟩⟩
  have key:∀i,i<=n->∃L:List Nat,L.Nodup/\L.length=i+1/\∀t∈L,Wk E (i*j) y t:=by
   intro i;induction i with
   |zero=>intro _;exact⟨[y],aj,rfl,fun t g=>by simp at g;subst g;rw[wu];rfl⟩
   |succ i ih=>
    intro f;obtain⟨L,b,c,e⟩:=ih ad;obtain⟨t,p,r⟩:=x i ad;refine⟨_,lS.2 ⟨fun l=>r (e t l),b⟩,by simp[c],fun s d=> ?_⟩;rcases bX.1 d with rfl|d
    exact p;exact up i s (e s d)
  have⟨L,b,c,e⟩:=key n (ay _);have⟨i,k,J,M,h⟩:=pig n V (fun i=>L.getD i 0) w (fun i f=>by
   have l:L.getD i 0∈L:=by rw[cB,cV ad];simp
   exact A _ _ _ H (e _ l))
  rw[cB,cB,cV (ad:i<L.length),cV (ad:k<L.length)]at h;simp only[gM]at h;have:=(List.getElem_inj b).1 h;omega
 obtain⟨i,f,F⟩:=I;intro q t D;have K:=aW (Dv j (ad:i<=n-1)) D;have m:q=i*j+(q-i*j):=ad;have o:q+j=(i+1)*j+(q-i*j):=by rw[zZ];omega
 constructor;intro a;rw[o]at a;obtain⟨u,b,c⟩:=wk_add.1 a;rw[m];exact wk_add.2 ⟨u,F u b,c⟩;intro a;rw[m]at a;obtain⟨u,b,c⟩:=wk_add.1 a;rw[o];exact wk_add.2 ⟨u,up i u b,c⟩
def stands_mul{n j y}{V:List Nat}(b:V.length=n)(a:∀s u,E s u->u∈V)(f:y∈V)(d:Wk E j y y) c:∀q t,(n-1)*j<=q->(Wk E (q+c*j) y t↔Wk E q y t):=by
 induction c with
 |zero=>intro q t _;simp
 |succ c ih=>
  intro q t e;rw[zZ,<-lZ];exact(stands b a f d _ t ad).Z (ih q t e)
def Round(E:Nat->Nat->Prop)(V:List Nat)(m:Nat):Prop:=0<m/\∃g:Nat->Nat,g 0=g m/\(∀i,i<=m->g i∈V)/\∀i,i<m->E (g i) (g (i+1))
def foldErase{C:List Nat}:∀{V},C.Nodup->(∀v∈C,v∈V)->(C.foldl List.erase V)+C=V.length/\(∀v∈V,v∈C∨v∈C.foldl List.erase V)/\∀v∈C.foldl List.erase V,v∈V:=by
 induction C with
 |nil=>intro V _ _;simp
 |cons a C ih=>
  intro V i f;have c:=f a eV;have d:=lS.1 i;have⟨j,g,h⟩:=ih (V:=V.erase a) d.2 (fun v hv=>(zx (fun e=>d.1 (by rw[<-e];exact hv))).2 (f v (dM _ hv)));have l:=CY c;have m:=zy c;refine⟨by simp only[oA,ef];omega,fun v hv=> ?_,fun v hv=>List.mem_of_mem_erase (h v hv)⟩;by_cases e:v=a;exact .inl (by simp[e]);rcases g v ((zx e).2 hv)with b|b
  exact .inl (dM _ b);exact .inr b
def rounds:∀n V,V.length=n->∃(l d:List Nat),l.sum+d=n/\(∀j∈l,0<j)/\(∀v∈V,v∈d∨∃j∈l,Wk E j v v)/\
 (¬∃f:Nat->Nat,(∀i,i<=d.length->f i∈d)/\∀i,i<d.length->E (f i) (f (i+1)))/\(∀j rest,l=j::rest->∀m,Round E V m->j<=m)/\∀v∈d,v∈V:=by
 intro n;induction n using Nat.strongRecOn with
 |_ n ih=>
  intro V H;by_cases w:∃f:Nat->Nat,(∀i,i<=V.length->f i∈V)/\∀i,i<V.length->E (f i) (f (i+1));obtain⟨f,s,B⟩:=w;obtain⟨i,j,W,h,D⟩:=pig _ V f rfl s;have K:Round E V (j-i):=⟨ad,fun k=>f (i+k),by show f (i+0)=f (i+(j-i));rw[rY,show i+(j-i)=j by omega];exact D,fun k r=>s _ ad,fun k r=>B (i+k) ad⟩;obtain⟨m,⟨I,g,F,x,p⟩,y⟩:=least K;have G:∀a b,a<b->b<m->g a≠g b:=by intro a b t u e;exact y (b-a) ad ⟨ad,fun k=>g (a+k),by show g (a+0)=g (a+(b-a));rw[rY,show a+(b-a)=b by omega];exact e,fun k r=>x _ ad,fun k r=>p _ ad⟩
  have C:((List.range m).map g).Nodup:=by rw[zz,List.pairwise_map];refine List.Pairwise.imp_of_mem ?_ List.pairwise_lt_range;intro a b o u t;exact G a b t (eT.1 u)
  have⟨M,N,O⟩:=foldErase (V:=V) C (fun v hv=>by obtain⟨a,o,rfl⟩:=dL.1 hv;exact x a (aQ (eT.1 o)))
  rw[bn,wi]at M;have⟨l,d,X,P,Q,R,_,S⟩:=ih _ ad (((List.range m).map g).foldl List.erase V) rfl;have z:∀a,a<m->Wk E m (g a) (g a):=by intro a o;have w1:Wk E (m-a) (g a) (g m):=path_sub p ad (ay _);have T:Wk E (a-0) (g 0) (g a):=path_sub p ad ad;rw[<-F]at w1;have:=wk_add.2 ⟨_,w1,T⟩;rwa[show m-a+(a-0)=m by omega]at this
  refine⟨m::l,d,by simp only[fm];omega,fun j h=> ?_,fun v hv=> ?_,R,fun j rest e q J=> ?_,fun v hv=>O v (S v hv)⟩;rcases bX.1 h with rfl|c
  exact I;exact P j c;rcases N v hv with c|c
  obtain⟨a,o,rfl⟩:=dL.1 c;exact .inr ⟨m,eV,z a (eT.1 o)⟩;rcases Q v c with c|⟨j,h,c⟩
  exact .inl c;exact .inr ⟨j,dM _ h,c⟩;injection e with A _
  subst A;rcases kF q m with c|c
  exact absurd J (y q c);exact c;exact⟨[],V,by simp[H],fun j h=>(by cases h),fun v hv=>.inl hv,w,fun j rest e=>(by cases e),fun v hv=>hv⟩
end
def prod:List Nat->Nat
 |[]=>1
 |j::a=>j*prod a
def dvd_prod{d j}(b:j∈d):∃c,prod d=c*j:=by
 induction d with
 |nil=>cases b
 |cons a d ih=>
  rcases bX.1 b with rfl|b
  exact⟨_,by rw[prod,Nat.mul_comm]⟩;obtain⟨c,e⟩:=ih b;exact⟨_,by rw[prod,e,Nat.mul_assoc]⟩
def le_sum{a:List Nat}{j}(c:j∈a):j<=a.sum:=by
 induction a with
 |nil=>cases c
 |cons b a ih=>
  simp only[fm];rcases bX.1 c with rfl|d
  omega;have:=ih d;omega
def prod_pos{b}(c:∀j∈b,0<j):0<prod b:=by
 induction b with
 |nil=>exact Nat.one_pos
 |cons a b ih=>exact Nat.mul_pos (c a eV) (ih fun j d=>c j (dM _ d))
def most(s:Nat):Nat:=[1,1,2,3,4,6,9,12,18,27,36].getD s 0
def prod_le{b}:∀{s},b.sum<=s->s<=10->(∀j∈b,0<j)->prod b<=most s:=by
 induction b with
 |nil=>
  intro s _ h _;have:∀s,s<11->1<=most s:=aq;exact this s ad
 |cons a b ih=>
  intro s d h c;simp only[fm]at d;have e:=ih (s:=s-a) ad ad (fun j g=>c j (dM _ g));have f:=c a eV;have:∀s,s<11->∀a,a<11->0<a->a<=s->a*most (s-a)<=most s:=aq;exact aW (xf a e) (this s ad a ad f ad)
def prod_one{c b s}(f:b∈c)(h:c.sum<=s)(r:s<=10)(e:∀j∈c,0<j):prod c<=b*most (s-b):=by
 induction c generalizing s with
 |nil=>cases f
 |cons a c ih=>
  simp only[fm]at h;have l:=e a eV;rcases bX.1 f with rfl|g
  exact xf _ (prod_le ad ad (fun j d=>e j (dM _ d)));have i:=ih g (s:=s-a) ad ad (fun j d=>e j (dM _ d));have q:=le_sum g;have m:∀s,s<11->∀a,a<11->∀b,b<11->0<a->a+b<=s->a*most (s-a-b)<=most (s-b):=aq;have:=m s ad a ad b ad l ad;show a*prod c<=_
  have n:=xf a i;have o:a*(b*most (s-a-b))=b*(a*most (s-a-b)):=by rw[Nat.mul_left_comm]
  have p:=xf b this;omega
def max_of(c:List Nat)(i:c≠[]):∃d∈c,∀j∈c,j<=d:=by
 induction c with
 |nil=>exact absurd rfl i
 |cons a c ih=>
  by_cases e:c=[];subst e;exact⟨a,aj,fun j b=>by simp at b;omega⟩;obtain⟨d,g,f⟩:=ih e;by_cases h:a<=d;exact⟨d,dM _ g,fun j b=>by rcases bX.1 b with rfl|b;exact h;exact f j b⟩;exact⟨a,eV,fun j b=>by rcases bX.1 b with rfl|b;simp;have:=f j b;omega⟩
def Im(E:Nat->Nat->Prop)(S:Nat->Prop)(k t:Nat):Prop:=∃s,S s/\Wk E k s t
def lim(n:Nat):Nat:=if n<=8 then 62 else if n=9 then 126 else 254
def few_lim n(j:n<11) s(l:s<11) a(h:a<11)(c:0<a)(d:a<=s)(e:s<=n)(f:¬(a=8/\n=8)):(n-s)+(n-1)*a+a*most (s-a)<=lim n:=by
 have i:((List.range 11).all fun n=>(List.range 11).all fun s=>(List.range 11).all fun a=> !(decide (0<a)&&decide (a<=s)&&decide (s<=n)&& !(a==8&&n==8))||decide ((n-s)+(n-1)*a+a*most (s-a)<=lim n))=true:=by decide+kernel
 have b:=ke.1 (ke.1 (ke.1 i n (eT.2 j)) s (eT.2 l)) a (eT.2 h);have g:(a==8&&n==8)=false:=by
  cases b:(a==8&&n==8)with
  |false=>rfl
  |true=>exact absurd (by simpa using b) f
 simpa[c,d,e,g]using b
def again{E n}{V:List Nat}(B:V.length=n)(a9:n<=10)(al:∀s u,E s u->s∈V/\u∈V) S(A:∀s,S s->s∈V):
 ∃Q P,0<P/\Q+P<=lim n/\∀k t,Q<=k->(Im E S (k+P) t↔Im E S k t):=by
 have G:=fun s u w=>(al s u w).2;have⟨h,F,x,v,a3,a4,a5,bb⟩:=rounds (E:=E) n V B;have aw:=a3;have aa:∀k (f:Nat->Nat),f 0∈V->(∀i,i<k->E (f i) (f (i+1)))->∀i,i<=k->f i∈V:=by
  intro k f ag o i p;cases i with
  |zero=>exact ag
  |succ i=>exact G _ _ (o i ad)
 by_cases T:h=[8]/\n=8;obtain⟨ab,ae⟩:=T;have av:=a5 8 [] ab;subst ae;have first:∀s t k,s∈V->Wk E (k+8) s t->Wk E 8 s s/\Wk E k s t:=by intro s t k N w;rw[Dy]at w;obtain⟨u,d,g⟩:=wk_add.1 w;obtain⟨f,f0,f8,o⟩:=wk_path d;have hv:=aa 8 f (by rw[f0];exact N) o;have⟨i,j,a7,m,I⟩:=pig 8 V f B (fun i p=>hv i p);have M:Round E V (j-i):=⟨ad,fun k=>f (i+k),by show f (i+0)=f (i+(j-i));rw[rY,show i+(j-i)=j by omega];exact I,fun k K=>hv _ ad,fun k K=>o (i+k) ad⟩;have:=av _ M;obtain rfl:i=0:=ad;obtain rfl:j=8:=ad;rw[f0,f8]at I;subst I;exact⟨d,g⟩
 refine⟨8,8,aq,aq,fun k t K=>⟨fun⟨s,d,g⟩=>⟨s,d,(first s t k (A s d) g).2⟩,fun⟨s,d,g⟩=>⟨s,d,?_⟩⟩⟩;have R:=g;rw[show k=k-8+8 by omega]at R;rw[Dy];exact wk_add.2 ⟨s,(first s t _ (A s d) R).1,g⟩;have⟨l,W,a6⟩:∃l,(∀j∈h,j<=l)/\F+(n-1)*l+prod h<=lim n:=by
  by_cases Y:h=[];subst Y;refine⟨0,fun j m=>(by cases m),?_⟩;simp only[prod,Nat.mul_zero,rY];simp at x;rw[x];have:∀n,n<11->n+1<=lim n:=aq;exact this n ad;obtain⟨l,d,g⟩:=max_of h Y;refine⟨l,g,?_⟩;have ba:=prod_one d (ay _) ad v;have z:=le_sum d;have an:=v l d;have a2:¬(l=8/\n=8):=by
   rintro⟨rfl,rfl⟩;apply T;refine⟨?_,rfl⟩;match h,d,z,x,v with
   |[],d,_,_,_=>cases d
   |[a],d,_,_,_=>simp at d;rw[d]
   |a::b::r,d,z,x,v=>
    simp only[fm]at x z;have C:=v a aj;have D:=v b aj;have M:∀q∈r,q<=r.sum:=fun q Z=>le_sum Z;rcases bX.1 d with e|d
    omega;rcases bX.1 d with e|d
    omega;have:=M 8 d;omega
  have:=few_lim n ad h.sum ad l ad an z ad a2;omega
 refine⟨_,_,prod_pos v,ad,fun k t K=> ?_⟩;have X:∀q s,F.length<=q->s∈V->Wk E q s t->∃i y j,i<=F.length/\y∈V/\j∈h/\Wk E j y y/\Wk E i s y/\Wk E (q-i) y t:=by
  intro q s Z N w;obtain⟨f,f0,af,o⟩:=wk_path w;have hv:=aa q f (by rw[f0];exact N) o;apply dU;intro a1;apply a4;refine⟨f,fun i p=> ?_,fun i p=>o i ad⟩;rcases aw _ (hv i ad)with d|⟨j,m,d⟩
  exact d;exfalso;apply a1;refine⟨i,_,j,p,hv i ad,m,d,?_,?_⟩;have:=path_sub o (aH i) ad;rwa[f0]at this;have:=path_sub o (ad:i<=q) (ay q);rwa[af]at this
 constructor;rintro⟨s,d,g⟩;obtain⟨i,y,j,p,O,m,J,C,D⟩:=X _ s ad (A s d) g;obtain⟨c,H⟩:=dvd_prod m;have a0:(n-1)*j<=(n-1)*l:=xf _ (W j m);have ao:Wk E (k-i+c*j) y t:=by rw[<-H,show k-i+prod h=k+prod h-i by omega];exact D
 have:=(stands_mul B G O J c _ t ad).1 ao;exact⟨s,d,by have:=wk_add.2 ⟨y,C,this⟩;rwa[show i+(k-i)=k by omega]at this⟩;rintro⟨s,d,g⟩;obtain⟨i,y,j,p,O,m,J,C,D⟩:=X k s ad (A s d) g;obtain⟨c,H⟩:=dvd_prod m;have a0:(n-1)*j<=(n-1)*l:=xf _ (W j m);have:=(stands_mul B G O J c _ t ad).2 D;exact⟨s,d,by have:=wk_add.2 ⟨y,C,this⟩;rwa[<-H,show i+(k-i+prod h)=k+prod h by omega]at this⟩
def early{E n}{V:List Nat}(g:V.length=n)(h:n<=10)(e:∀s u,E s u->s∈V/\u∈V) S(f:∀s,S s->s∈V) k:
 ∃q,q<lim n/\∀t,Im E S k t↔Im E S q t:=by
 obtain⟨a,P,i,l,b⟩:=again g h e S f;induction k using Nat.strongRecOn with
 |_ k ih=>
  by_cases j:k<a+P;exact⟨k,ad,fun t=>Iff.rfl⟩;obtain⟨q,c,d⟩:=ih (k-P) ad;refine⟨q,c,fun t=> ?_⟩;have:=b (k-P) t ad;rw[show k-P+P=k by omega]at this;exact this.Z (d t)
end Orb
end Go.Proofs.YtfeidcmojcijpaaGreatDoor
