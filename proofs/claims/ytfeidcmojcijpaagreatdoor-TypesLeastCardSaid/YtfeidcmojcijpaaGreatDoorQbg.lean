import Derived.Test.YtfeidcmojcijpaaGreatDoorQbf
set_option linter.all false
set_option maxRecDepth 100000
set_option maxHeartbeats 0
namespace Go.Proofs.YtfeidcmojcijpaaGreatDoor
open Go.RowKit Tryz
namespace Wey
section
variable{α:Type} {lt:α->α->Prop} {p:α->Nat} {syms:List α} {nx:Nat->α->Nat} {n:Nat} {R:Nat->Option (Nat×List α)} {fin:Nat->Prop} {out:Option (Nat×List α)}
structure OutOf(lt:α->α->Prop)(fin:Nat->Prop)(n:Nat)(R:Nat->Option (Nat×List α))(out:Option (Nat×List α)):Prop where
 at_:out=none∨∃i,i<n/\fin i/\out=R i
 top:∀j,j<n->fin j->¬ahR lt (R j) out
def OutOf.none:OutOf lt fin 0 R none:=⟨.inl rfl,fun j a=>absurd a ad⟩
def OutOf.skip(a:OutOf lt fin n R out)(d:fin n->¬ahR lt (R n) out):OutOf lt fin (n+1) R out:=
 ⟨a.at_.imp_right fun⟨i,f,c⟩=>⟨i,ad,c⟩,fun j g b=>by by_cases e:j=n;subst e;exact d b;exact a.top j ad b⟩
def OutOf.take(o:Tot lt)(b:OutOf lt fin n R out)(d:fin n)(c:ahR lt (R n) out):OutOf lt fin (n+1) R (R n):=
 ⟨.inr ⟨n,ad,d,rfl⟩,fun j g f a=>by by_cases e:j=n;subst e;exact ahR_irr o _ a;exact b.top j ad f (ahR_tr o a c)⟩
def TableOf(lt:α->α->Prop)(syms:List α)(p:α->Nat)(nx:Nat->α->Nat)(fin:Nat->Prop)(n:Nat)(out:Option (Nat×List α)):Prop:=
 ∃R,RInv syms p nx n R/\Stable lt syms p nx n R/\OutOf lt fin n R out
structure LeastIs(c:α->Nat)(M:List α->Prop)(v:Nat):Prop where
 le:v<=4097
 low:∀W,M W->v<=wt c W
 is:v<=4096->∃W,M W/\wt c W=v
def wt_mono{c d}:∀{W:List α},(∀a∈W,c a<=d a)->wt c W<=wt d W
 |[],_=>by simp[wt]
 |a::W,e=>by have g:=e a aj;have h:=wt_mono (W:=W) fun b f=>e b (by simp[f]);simp only[wt,dZ,fm]at*;omega
def LeastIs.zz{c d:α->Nat}{b:List α->Prop}{v w:Nat}(f:LeastIs c b v)(k:LeastIs d b w)(h:∀a,c a<=d a):v<=w:=by by_cases e:w<=4096;obtain⟨W,g,i⟩:=k.is e;have:=f.low W g;have:=wt_mono (W:=W) fun a _=>h a;omega;have:=f.le;omega
def outV:Option (Nat×List α)->Nat
 |none=>4097
 |some (N,_)=>N
def RInv.acc(d:RInv syms p nx n R){i N:Nat}{W:List α}(g:fin i)(f:R i=some (N,W))(j:N<=4096):Acc syms (big p) nx fin W/\N=wt (big p) W:=by obtain⟨c,e,h,_⟩:=d.rg _ _ _ f;have l:=big_wt fun a b=>(c a b).2;exact⟨⟨fun a b=>(c a b).1,ad,e▸g⟩,ad⟩
def TableOf.low(b:TableOf lt syms p nx fin n out){N:Nat}{W:List α}(a:out=some (N,W))(d:N<=4096):Acc syms (big p) nx fin W/\N=wt (big p) W:=by
 obtain⟨R,c,_,f⟩:=b;rcases f.at_ with e|⟨i,_,g,e⟩
 rw[e]at a;cases a;exact c.acc g (e.zy.Z a) d
def TableOf.near(o:Tot lt)(t:TableOf lt syms p nx fin n out)(m:0<n)(q:∀s a,s<n->a∈syms->nx s a<n){P:List α}(c:Acc syms (big p) nx fin P):
 ∃W,out=some (wt (big p) W,W)/\Opt lt syms (big p) nx fin W:=by
 obtain⟨R,j,w,l⟩:=t;have key:∀P,Acc syms (big p) nx fin P->∃V,R (st nx P)=some (wt (big p) V,V)/\Wey.le lt (big p) V P/\¬ahR lt (some (wt (big p) V,V)) out:=fun P c=>by obtain⟨N,V,d,f,b⟩:=Wey.near o j w m q _ P rfl c.1 c.2.1;have h:=l.top _ (st_lt m q P c.1) c.2.2;rw[d]at h;subst f;exact⟨V,d,b,h⟩
 have⟨V,d,f,b⟩:=key P c;have B:=le_wt f;have A:=c.2.1;rcases l.at_ with e|⟨i,C,y,e⟩
 rw[e]at b;exact absurd trivial b;cases g:R i with
 |none=>rw[e,g]at b;exact absurd trivial b
 |some x=>
  obtain⟨N,W⟩:=x;rw[g]at e;have u:N<=4096:=by rw[e]at b;unfold ahR at b;omega
  obtain⟨a1,rfl⟩:=j.acc y g u;refine⟨W,e,a1,fun Q v=> ?_⟩;obtain⟨X,D,z,r⟩:=key Q v;rw[e]at r;exact le_tr o (not_bef o r) z
def TableOf.there(o:Tot lt)(m:TableOf lt syms p nx fin n out)(h:0<n)(l:∀s a,s<n->a∈syms->nx s a<n):out≠none↔∃P,(∀a∈P,a∈syms/\0<p a)/\fin (st nx P):=by
 obtain⟨R,d,q,f⟩:=m;constructor;intro j;rcases f.at_ with e|⟨i,v,t,e⟩
 exact absurd e j;cases g:R i with
 |none=>exact absurd (e.Z g) j
 |some x=>
  obtain⟨b,c,_⟩:=d.rg i _ _ g;exact⟨_,b,c▸t⟩
 rintro⟨P,b,c⟩ e;obtain⟨x,u⟩:=Wey.far o d q h l P b;have:=f.top _ (st_lt h l P fun a r=>(b a r).1) c;rw[u,e]at this;exact this trivial
def TableOf.least(o:Tot lt)(c:TableOf lt syms p nx fin n out)(v:0<n)(w:∀s a,s<n->a∈syms->nx s a<n):LeastIs (big p) (fun W=>(∀a∈W,a∈syms)/\fin (st nx W)) (outV out):=by
 refine⟨?_,fun W d=> ?_,fun h=> ?_⟩;obtain⟨R,f,_,g⟩:=c;rcases g.at_ with e|⟨i,u,t,e⟩
 rw[e];exact ay _;cases b:R i with
 |none=>rw[e,b];exact ay _
 |some x=>
  have:=(f.rg i x.1 x.2 b).2.2.1;rw[e,b];show x.1<=4097
  omega
 by_cases l:wt (big p) W<=4096;obtain⟨V,q,r⟩:=c.near o v w (P:=W) ⟨d.1,l,d.2⟩;rw[q];exact le_wt (r.2 W ⟨d.1,l,d.2⟩);obtain⟨R,f,_,g⟩:=c;rcases g.at_ with e|⟨i,u,t,e⟩
 rw[e];show 4097<=_;omega;cases b:R i with
 |none=>rw[e,b];show 4097<=_;omega
 |some x=>
  have:=(f.rg i x.1 x.2 b).2.2.1;rw[e,b];show x.1<=_
  omega
 cases j:out with
 |none=>rw[j]at h;exact absurd h (by show¬4097<=4096;omega)
 |some x=>
  obtain⟨a1,m⟩:=c.low j (by rwa[j]at h);exact⟨_,⟨a1.1,a1.2.2⟩,m.zy⟩
def Fix{b:Type}(D:b->Prop)(d:α->b)(c:b->List α->Prop)(text:b->Bool)(F:b->Nat):Prop:=
 ∀i,D i->F i<=4097/\(text i=true->F i=1)/\(text i=false->∃v,LeastIs (fun a=>F (d a)) (c i) v/\F i=min (1+v) 4097)
def fix_le{ι D kid}{e:ι->List α->Prop}{text F G}(p:∀i,D i->text i=false->∀W,e i W->∀a∈W,D (kid a))(m:Fix D kid e text F)(n:Fix D kid e text G):
 ∀v i,D i->F i=v->v<=4096->G i<=v:=by
 intro v;induction v using Nat.strongRecOn with
 |ind v ih=>
 intro i g hv A;obtain⟨_,h,o⟩:=m i g;obtain⟨_,l,u⟩:=n i g;cases d:text i with
 |true=>
  have h:=h d;have l:=l d;omega
 |false=>
  obtain⟨x,r,w⟩:=o d;obtain⟨y,s,z⟩:=u d;obtain⟨W,f,q⟩:=r.is ad;have B:wt (fun a=>G (kid a)) W<=wt (fun a=>F (kid a)) W:=by
   refine wt_mono fun a c=> ?_;have j:=p i g d W f a c;have C:F (kid a)<=wt (fun a=>F (kid a)) W:=by
    clear q f j;induction W with
    |nil=>simp at c
    |cons b W t=>
     simp only[wt,dZ,fm];rcases bX.1 c with rfl|c
     omega;have:=t c;simp only[wt]at this;omega
   exact ih _ ad _ j rfl ad
  have:=s.low W f;omega
def fix_one{ι D kid}{f:ι->List α->Prop}{text F G}(g:∀i,D i->text i=false->∀W,f i W->∀a∈W,D (kid a))(d:Fix D kid f text F)(e:Fix D kid f text G) i(c:D i):F i=G i:=by have h:=(d i c).1;have j:=(e i c).1;by_cases a:F i<=4096;have l:=fix_le g d e _ i c rfl a;have m:=fix_le g e d _ i c rfl ad;omega;by_cases b:G i<=4096;have:=fix_le g e d _ i c rfl b;omega;omega
def LeastIs.congr{c d:α->Nat}{f N:List α->Prop}{v:Nat}(g:LeastIs c f v)(i:∀W,f W↔N W)(l:∀W,f W->∀a∈W,c a=d a):LeastIs d N v:=by
 have e:∀W,f W->wt c W=wt d W:=fun W h=>by
  unfold wt;congr 1
  exact CX (l W h)
 refine⟨g.le,fun W h=> ?_,fun hv=> ?_⟩;have b:=(i W).2 h;rw[<-e W b];exact g.low W b;obtain⟨W,b,j⟩:=g.is hv;exact⟨W,(i W).1 b,by rw[<-e W b];exact j⟩
end
end Wey
def qn(ts:List aB)(nd:List Nat)(ss:List Nat)(n:ax):Nat:=
 if n.op=0 then 4097
 else if n.op=2 then nd.getD (kidOf ts n.sym) 0
 else if n.op=3 then min (ss.getD n.a.toNat 0+ss.getD n.b.toNat 0) 4097
 else if n.op=4 then min (ss.getD n.a.toNat 0) (ss.getD n.b.toNat 0)
 else 0
def sumsU(ts:List aB)(nd:List Nat)(l:List ax):List Nat:=l.foldl (fun ss n=>ss++[qn ts nd ss n]) []
def gH(ts:List aB)(nd:List Nat)(t:aB):Nat:=if t.text then 0 else(sumsU ts nd t.E).getD (t.E-1) 0
def Ce ts nd{l:List ax}{k n}(a:l[k]?=some n):sumsU ts nd (l.take (k+1))=sumsU ts nd (l.take k)++[qn ts nd (sumsU ts nd (l.take k)) n]:=by rw[bH,a];simp[sumsU]
def yP ts nd l:(sumsU ts nd l)=l.length:=by
 have:∀(l:List ax) (a:List Nat),(l.foldl (fun a n=>a++[qn ts nd a n]) a).length=a.length+l.length:=by
  intro l;induction l with
  |nil=>intro a;rfl
  |cons n l ih=>intro a;rw[oA,ih];simp;omega
 rw[sumsU,this];simp
def Sv ts{nd ss}(c:∀a∈nd,a<=4097)(k:∀a∈ss,a<=4097) n:qn ts nd ss n<=4097:=by
 have b:∀{L:List Nat} (i:Nat),(∀a∈L,a<=4097)->L.getD i 0<=4097:=fun{L} i d=>by
  rw[cB];cases e:L[i]? with
  |none=>simp
  |some a=>exact d a (aK e)
 unfold qn;split;omega;split;exact b _ c;split;omega;split;have:=b n.a.toNat k;omega;omega
def Ih ts{nd}(e:∀a∈nd,a<=4097) l:∀a∈sumsU ts nd l,a<=4097:=by
 have:∀(l:List ax) (b:List Nat),(∀a∈b,a<=4097)->∀a∈l.foldl (fun b n=>b++[qn ts nd b n]) b,a<=4097:=by
  intro l;induction l with
  |nil=>intro b d;exact d
  |cons n l ih=>
   intro b d;rw[oA];refine ih _ (fun a f=> ?_);rcases dk.1 f with c|c
   exact d a c;simp at c;subst c;exact Sv ts e d n
 exact this l [] aj
def nV(a:Nat):Value:=.int .i64 a
def kz(w:World)(F n:Nat)(ss:List Nat):Prop:=ss<=n/\kq w F ((ss++List.replicate (n-ss) 0).map nV) 3
section
variable{w w':World} {F n k:Nat} {ss:List Nat}
def Sw(a:kq w F (madeCells #[.int .i64 0] n) 3):kz w F n []:=by
 refine⟨aH _,a.Z ?_⟩;congr 2
 apply lW;rw[DH];simp[nV]
def kz.at(a:kz w F n ss)(d:k<n):w.cell? ⟨F,k,none⟩=some (.int .i64 (ss.getD k 0:Nat)):=by have c:=a.1;rw[ak _ a.2,iU,bR,cB];by_cases b:k<ss;rw[eC b,cV b];rfl;rw[gp ad,jL (l:=ss) ad,nD,au ad];rfl
def kz.free(a:kz w F n ss)(j:Nat):w.frozen? ⟨F,j,none⟩=false:=aJ a.2 j
def kz.skip(a:kz w F n ss)(b:ss.length<n):kz w F n (ss++[0]):=by refine⟨aO,a.2.Z ?_⟩;rw[show n-ss=(n-(ss++[0]).length)+1 by simp;omega,um];simp
def kz.put(b:kz w F n ss)(d:ss.length<n)(c:k=ss.length)(a:Nat):kz (w.setCell ⟨F,k,none⟩ (.int .i64 (a:Nat))) F n (ss++[a]):=by
 subst c;refine⟨aO,(a8 _ _ _ _ b.2).Z ?_⟩;congr 2
 apply lW;rw[wU];have e:ss++[a]++List.replicate (n-(ss++[a]).length) 0=(ss++List.replicate (n-ss.length) 0).set ss.length a:=by rw[show n-ss=(n-(ss++[a]).length)+1 by simp;omega,um,DG _ _ (ay _)];simp
 rw[e,List.map_set];rfl
def kz.O(a:kz w F n ss)(b:Below w.heap.size w w'):kz w' F n ss:=⟨a.1,(b.J _ (aI a.2)).Z a.2⟩
end
def gX(w:World)(o:Option Addr)(cap:Nat)(l:List Nat):Prop:=cn w o l cap 1 (l.map nV)
structure nu(ts:List aB)(nd:List Nat)(x:ai)(F:Nat)(w:World)(k:Nat)(wr:World):Prop where
 base:Below w.heap.size w wr
 size:w.heap.size<=F
 box:wr.heap[w.heap.size]?=some (.cells (typeRow x).toArray 55)
 sums:kz wr F x.t.E.length (sumsU ts nd (x.t.E.take k))
 ne:F≠w.heap.size
section
variable{ts:List aB} {nd:List Nat} {x:ai} {F:Nat} {w:World} {k:Nat} {wr wz:World}
def nu.O(a:nu ts nd x F w k wr)(b:Below wr.heap.size wr wz):nu ts nd x F w k wz:=⟨aE a.base b,a.size,(b.J _ (aI a.box)).Z a.box,a.sums.O b,a.ne⟩
def nu.put(b:nu ts nd x F w k wr)(e:k<x.t.E.length)(a:Nat)(c:sumsU ts nd (x.t.E.take (k+1))=sumsU ts nd (x.t.E.take k)++[a]):nu ts nd x F w (k+1) (wr.setCell ⟨F,k,none⟩ (.int .i64 (a:Nat))):=by
 have d:(sumsU ts nd (x.t.E.take k)).length=k:=by rw[yP,eh];omega
 exact⟨b.base.setCell b.size _,b.size,(aU _ _ _ _ _ b.ne.zy).Z b.box,c▸b.sums.put ad d.zy a,b.ne⟩
def nu.skip(a:nu ts nd x F w k wr)(c:k<x.t.E.length)(b:sumsU ts nd (x.t.E.take (k+1))=sumsU ts nd (x.t.E.take k)++[0]):nu ts nd x F w (k+1) wr:=by
 have d:(sumsU ts nd (x.t.E.take k))=k:=by rw[yP,eh];omega
 exact⟨a.base,a.size,a.box,b▸a.sums.skip ad,a.ne⟩
end
def rO(ts:List aB)(nd:List Nat)(x:ai)(F:Nat)(w:World)(a:Value)(wr:World):Prop:=∃k,a=.int .i64 (k:Nat)/\k<=x.t.E/\nu ts nd x F w k wr
section
open PRegex Wey
section
variable{β:Type} {nm:Nat->β} {a b:PT} {w:List β}
def vD:MW nm (.cat a b) w↔∃u v,w=u++v/\MW nm a u/\MW nm b v:=by rw[MW_cat];constructor;rintro⟨k,_,c,d⟩;exact⟨_,_,(ig k w).zy,c,d⟩;rintro⟨u,v,rfl,c,d⟩;exact⟨u,aj,by simpa using c,by simpa using d⟩
def yT{p}:MW nm (.sym p) w↔w=[nm p]:=by
 constructor;rintro⟨u,a,rfl⟩;cases a;rfl
 rintro rfl;exact⟨_,.sym p,rfl⟩
def Ci:MW nm .eps w↔w=[]:=by
 constructor;rintro⟨u,a,rfl⟩;cases a;rfl
 rintro rfl;exact⟨[],.eps,rfl⟩
def Cj:¬MW nm .none w:=by rintro⟨u,a,_⟩;cases a
end
def Iy{b:Type}{S}{x d:b}{i}(a:S.length=i):(S++[x]).getD i d=x:=by subst a;rw[cB,gp (ay _)];simp
def Iz{b:Type}{S}{x d:b}{i}(a:i<S.length):(S++[x]).getD i d=S.getD i d:=by rw[cB,cB,eC a]
section
variable{ts:List aB} {nd:List Nat} {hv:List Bool} {l:List ax}
def IA{j k}(a:j<k):∀m,k+m<=l.length->(sumsU ts nd (l.take (k+m))).getD j 0=(sumsU ts nd (l.take k)).getD j 0
 |0,_=>rfl
 |m+1,c=>by obtain⟨n,b⟩:=df l (k+m);rw[<-lZ,Ce ts nd b,Iz (by rw[yP,eh];omega)];exact IA a m ad
def SL{i n}(b:l[i]?=some n):(sumsU ts nd l).getD i 0=qn ts nd (sumsU ts nd (l.take i)) n/\∀j,j<i->(sumsU ts nd (l.take i)).getD j 0=(sumsU ts nd l).getD j 0:=by
 have c:=(aF.1 b).1;have full:∀k j,j<k->k<=l.length->(sumsU ts nd (l.take k)).getD j 0=(sumsU ts nd l).getD j 0:=fun k j a d=>by have:=IA (ts:=ts) (nd:=nd) (l:=l) a (l-k) ad;rw[show k+(l-k)=l by omega,ol]at this;omega
 refine⟨?_,fun j a=>full i j a ad⟩;rw[<-full (i+1) i ad ad,Ce ts nd b];exact Iy (by rw[yP,eh];omega)
def IC{j k}(a:j<k):∀m,k+m<=l.length->(factsU ts hv (l.take (k+m))).getD j ff=(factsU ts hv (l.take k)).getD j ff
 |0,_=>rfl
 |m+1,c=>by obtain⟨n,b⟩:=df l (k+m);rw[<-lZ,Cc ts hv b,Iz (by rw[tI,eh];omega)];exact IC a m ad
def SM{i n}(b:l[i]?=some n):(factsU ts hv l).getD i ff=vA ts hv (factsU ts hv (l.take i)) n/\∀j,j<i->(factsU ts hv (l.take i)).getD j ff=(factsU ts hv l).getD j ff:=by
 have c:=(aF.1 b).1;have full:∀k j,j<k->k<=l.length->(factsU ts hv (l.take k)).getD j ff=(factsU ts hv l).getD j ff:=fun k j a d=>by have:=IC (ts:=ts) (hv:=hv) (l:=l) a (l-k) ad;rw[show k+(l-k)=l by omega,ol]at this;exact this.zy
 refine⟨?_,fun j a=>full i j a ad⟩;rw[<-full (i+1) i ad ad,Cc ts hv b];exact Iy (by rw[tI,eh];omega)
structure SN(ts:List aB)(nd:List Nat)(hv:List Bool)(l:List ax)(i:Nat):Prop where
 sum:LeastIs (fun a=>nd.getD (kidOf ts a) 0) (MW (symAt l) (trN l i)) ((sumsU ts nd l).getD i 0)
 row:((factsU ts hv l).getD i ff).1=true↔∃ws,MW (symAt l) (trN l i) ws/\∀a∈ws,hv.getD (kidOf ts a) false=true
 syms:∀ws,MW (symAt l) (trN l i) ws->∀a∈ws,∃n∈l,n.op=2/\n.sym=a
def Ck(E:d9 0 l=true)(K:∀a∈nd,a<=4097):∀i,i<l.length->SN ts nd hv l i:=by
 have I:∀k,nd.getD k 0<=4097:=fun k=>by
  rw[cB];cases e:nd[k]? with
  |none=>simp
  |some a=>exact K a (aK e)
 intro i;induction i using Nat.strongRecOn with
 |ind i ih=>
 intro G;obtain⟨n,w⟩:=aT G;have D:=iA l 0 i n E w;rw[cH]at D;have y:=nL D;have c:=mX E w;have⟨j,B⟩:=SL (ts:=ts) (nd:=nd) w;have⟨f1,f2⟩:=SM (ts:=ts) (hv:=hv) w;unfold eP at c;unfold qn at j;unfold vA at f1;rcases nM D with f|f|f|f|f|f
 simp only[f,Int.reduceEq,↓reduceIte]at c j f1;refine⟨?_,?_,?_⟩;rw[c,j];exact⟨ay _,fun W s=>absurd s Cj,fun f=>absurd f ad⟩;rw[c,f1];simp[ff];intro x M;exact absurd M Cj;rw[c];exact fun ws h=>absurd h Cj;simp only[f,Int.reduceEq,↓reduceIte]at c j f1;refine⟨?_,?_,?_⟩;rw[c,j];exact⟨ad,fun W _=>aH _,fun _=>⟨[],Ci.2 rfl,by simp[wt]⟩⟩;rw[c,f1];simp;exact⟨[],Ci.2 rfl,aj⟩;rw[c];intro ws h;rw[Ci]at h;subst h;simp;simp only[f,Int.reduceEq,↓reduceIte]at c j f1;have A:=sI w;refine⟨?_,?_,?_⟩;rw[c,j];refine⟨I _,fun W s=> ?_,fun _=>⟨[n.sym],by rw[yT,A],by simp[wt]⟩⟩;rw[yT,A]at s;subst s;simp[wt];rw[c,f1];simp only[yT,A];constructor;intro e;exact⟨_,rfl,by simpa using e⟩;rintro⟨ws,rfl,e⟩;simpa using e;rw[c];intro ws h;rw[yT,A]at h;subst h;intro a d;simp at d;subst d;exact⟨n,aK w,f,rfl⟩;have d:=y n.a.toNat (by simp[bQ,f]);have t:=y n.b.toNat (by simp[bQ,f]);have o:=ih _ d ad;have p:=ih _ t ad;simp only[f,Int.reduceEq,↓reduceIte]at c j f1;rw[B _ d,B _ t]at j;rw[f2 _ d,f2 _ t]at f1;refine⟨?_,?_,?_⟩;rw[c,j];refine⟨Nat.min_le_right _ _,fun W s=> ?_,fun hv=> ?_⟩;obtain⟨u,v,rfl,b,g⟩:=vD.1 s;have:=o.sum.low u b;have:=p.sum.low v g;rw[wt_app];omega;obtain⟨u,b,g⟩:=o.sum.is ad;obtain⟨v,r,z⟩:=p.sum.is ad;exact⟨_,vD.2 ⟨u,v,rfl,b,r⟩,by rw[wt_app];omega⟩;rw[c,f1];simp only[cM,o.row,p.row];constructor;rintro⟨⟨u,b,g⟩,v,r,z⟩;exact⟨_,vD.2 ⟨u,v,rfl,b,r⟩,fun a d=>by rcases dk.1 d with k|k;exact g a k;exact z a k⟩;rintro⟨ws,h,g⟩;obtain⟨u,v,rfl,b,r⟩:=vD.1 h;exact⟨⟨u,b,fun a d=>g a (by simp[d])⟩,v,r,fun a d=>g a (by simp[d])⟩;rw[c];intro ws h a d;obtain⟨u,v,rfl,b,r⟩:=vD.1 h;rcases dk.1 d with k|k
 exact o.syms u b a k;exact p.syms v r a k;have d:=y n.a.toNat (by simp[bQ,f]);have t:=y n.b.toNat (by simp[bQ,f]);have o:=ih _ d ad;have p:=ih _ t ad;simp only[f,Int.reduceEq,↓reduceIte]at c j f1;rw[B _ d,B _ t]at j;rw[f2 _ d,f2 _ t]at f1;refine⟨?_,?_,?_⟩;rw[c,j];refine⟨by have:=o.sum.le;omega,fun W s=> ?_,fun hv=> ?_⟩;rcases(MW_alt _ _ _ _).1 s with b|b
 have:=o.sum.low W b;omega;have:=p.sum.low W b;omega;by_cases e:(sumsU ts nd l).getD n.a.toNat 0<=(sumsU ts nd l).getD n.b.toNat 0;obtain⟨u,b,g⟩:=o.sum.is ad;exact⟨u,(MW_alt _ _ _ _).2 (.inl b),ad⟩;obtain⟨u,b,g⟩:=p.sum.is ad;exact⟨u,(MW_alt _ _ _ _).2 (.inr b),ad⟩;rw[c,f1];simp only[dA,o.row,p.row,MW_alt];constructor;rintro(⟨u,b,g⟩|⟨u,b,g⟩);exact⟨u,.inl b,g⟩;exact⟨u,.inr b,g⟩;rintro⟨u,b|b,g⟩;exact .inl ⟨u,b,g⟩;exact .inr ⟨u,b,g⟩;rw[c];intro ws h;rcases(MW_alt _ _ _ _).1 h with b|b
 exact o.syms ws b;exact p.syms ws b;have d:=y n.a.toNat (by simp[bQ,f]);have o:=ih _ d ad;simp only[f,Int.reduceEq,↓reduceIte]at c j f1;have F:MW (symAt l) (.star (trN l n.a.toNat)) []:=(MW_star _ _ _).2 (.inl rfl);refine⟨?_,?_,?_⟩;rw[c,j];exact⟨ad,fun W _=>aH _,fun _=>⟨[],F,by simp[wt]⟩⟩;rw[c,f1];exact⟨fun _=>⟨[],F,aj⟩,fun _=>rfl⟩;rw[c];intro ws;suffices H:∀m ws,ws.length=m->MW (symAt l) (.star (trN l n.a.toNat)) ws->∀a∈ws,∃n∈l,n.op=2/\n.sym=a from H _ ws rfl
 intro m;induction m using Nat.strongRecOn with
 |ind m N=>
 intro ws J h a C;rcases(MW_star _ _ _).1 h with rfl|⟨k,b,g,r,z⟩
 simp at C;rw[<-ig k ws]at C;rcases dk.1 C with q|q
 exact o.syms _ r a q;exact N _ (by rw[<-J,lV];omega) _ rfl z a q
def yU{t}(d:t.text=false)(b:bK t.E=0)(c:∀a∈nd,a<=4097):LeastIs (fun a=>nd.getD (kidOf ts a) 0) (MatchS t.E) (gH ts nd t):=by have hF:=qU (oX b);have e:=zV.2 hF.ne;have:=(Ck (ts:=ts) (hv:=[]) hF.ok c (t.E-1) ad).sum;unfold gH;rw[d];exact this
def ID{t}(c:t.text=false)(b:bK t.E=0):(my ts hv t).1=true↔∃ws,MatchS t.E ws/\∀a∈ws,hv.getD (kidOf ts a) false=true:=by have hF:=qU (oX b);have d:=zV.2 hF.ne;have:=(Ck (ts:=ts) (nd:=[]) (hv:=hv) hF.ok aj (t.E-1) ad).row;unfold my;rw[c];exact this
def tL{t:aB}(b:bK t.E=0){ws}(c:MatchS t.E ws):∀a∈ws,a∈unionB (symsS t.E):=by have hF:=qU (oX b);have e:=zV.2 hF.ne;intro a d;rw[tA,rL b];exact(Ck (ts:=[]) (nd:=[]) (hv:=[]) hF.ok aj _ ad).syms ws c a d
end
end
section
open Wey
def bM(a b:Bytes):Prop:=bD a b=true/\a≠b
def dw:Tot bM:=by
 refine⟨fun a d=>d.2 rfl,fun{a b c} d k=> ?_,fun a b=> ?_⟩;have f:=kE d.1;have g:=kE k.1;refine⟨iS (zS f g),fun e=> ?_⟩;subst e;exact d.2 (si f g);by_cases e:a=b;exact .inr (.inl e);rcases wQ a b with d|d
 exact .inl ⟨iS d,e⟩;exact .inr (.inr ⟨iS d,mQ e⟩)
end
def IL:(prog.info? 3).map (fun i=>(i.zero,i.size,i.bytes))=some (some (.int .i64 0),1,8):=az
def tP{L:List Nat}{b}(c:∀a∈L,a<=b) i:L.getD i 0<=b:=by
 rw[cB];cases e:L[i]? with
 |none=>simp
 |some a=>exact c a (aK e)
def S0 l o cap W0(c4:cw W0 o cap l)(b1:ep l)(b4:bY (l.map ai.t)=0) A K M1 M2 M3 x(t:x∈l) nd(T:x.t.text=false->bK x.t.E=0/\x.t.E.length<=60)(cl:∀a∈nd,a<=4097)
 ho W(cg:nd.length=l.length) w(M:eQ W0 A w K M1 M2 M3 o cap l)(z:gX w ho W nd):
 cX 50 #[K,dV x,.slice ho nd W] w (.int .i64 (gH (l.map ai.t) nd x.t)):=by
 obtain⟨w1,O,bB,R⟩:=dy w (.cells (typeRow x) 55);have bg:=fH O;have bZ:=ak 4 R;have a1:=ak 5 R;have ci:=fun n Y=>b1.sym x t n Y;have a4:=fun d (b5:aR W0 d)=>((c4.O b5).2 x t).2;have B:∀n∈x.t.E,n.op=2->bK x.t.E=0->kidOf (l.map ai.t) n.sym<nd.length:=fun n Y a2 c8=>by rw[cg,<-bn (f:=ai.t)];exact yO b4 (lY t) ((rL c8).2 ⟨n,Y,a2,rfl⟩)
 have a9:=a4 _ M.base;have⟨ts,al⟩:=am (l.map ai.t);rw[<-al]at B⊢;have b2:fA w M1 ts:=by rw[al];exact M.places
 have ek:=ah al;clear al;have⟨bq,cG,bw,bu,cO,cP,bA,bl,c3,bo⟩:=jB M z ci B a4 b2 R bB bg T;have bb:=ak 1 M.blk;have c5:=aI M.blk;have cN:=ah bb;have co:=a9.2.1;have dm:=a9.2.2.1;unfold maxLen at dm;clear M z ci B a4 b2 R bB bg T bb a9 b1 b4 t cg;obtain⟨⟨name,label,attrs,key,text,nodes⟩,D,C,no,v⟩:=x;simp only[typeRow]at O bZ a1 bo bw bu co;simp at bZ a1;unfold dV typeRow;simp only;cases text with
 |true=>
  go_in
  go_wp2_with(first|(rw[<-O];clear O)|fail)
  go_ret;exact⟨rfl,bl.out⟩
 |false=>
  have⟨T,Y⟩:=bo.o rfl;have⟨n,Z⟩:=am nodes.length;have⟨dz,cb,cs,cu,cv⟩:=cZ IL;have⟨bz,a3⟩:=am (madeCells #[.int .i64 0] n);rw[<-Z]at a1 Y co;have eE:∀d,(Instr.makeSlice 41 (.int .i64 (n:Int)) (.int .i64 (n:Int))).run prog d=.ok (.slice (some ⟨d.heap.size,0,none⟩) n n) (d.alloc (.cells bz 3)):=fun d=>by have:=sj (P:=prog) d 41 3 dz (.int .i64 0) j9 cb cs .i64 .i64 n n ad ad (by rw[cv];omega) ad;simp only[nH,cu,wj]at this;rw[this,a3];rfl
  have⟨cx,an⟩:=am (w1.alloc (.cells bz 3));have ba:nu ts nd ⟨⟨name,label,attrs,key,false,nodes⟩,D,C,no,v⟩ w1.heap.size w 0 cx:=by have bE:=kj an;have bg:=c3.out;refine⟨aE bl.out bE,ad,(bE.J _ (aI bA.out)).Z bA.out,?_,ad⟩;apply Sw;simp only;rw[<-Z,<-a3,an];exact aN w1 _
  have bt:=ah ba;have d5:cx.cell? ⟨w.heap.size,5,none⟩=some (.slice no n v):=by rw[Z];exact ak 5 ba.box
  have⟨u,aw,c1⟩:=bm Z T cl;clear ba Z T a3 cb cs cu cv cl
  go_in
  go_wp2_with(first|(rw[<-O];clear O)|(rw[<-an];clear an)|fail)
  generalize w1.heap.size=F at*;go_loopw [21] (rO ts nd ⟨⟨name,label,attrs,key,false,nodes⟩,D,C,no,v⟩ F w) (fun ea _=>n-(intOf ea).toNat)
  case atStart=>exact⟨0,rfl,aH _,bt.o⟩
  case round=>
  clear bt d5;obtain⟨k,rfl,cc,N⟩:=hrel;simp only at cc;rw[<-u.o]at cc;have cd:(k:Int)<n∨¬((k:Int)<n):=ad;by_cases B:k<n
  ·have ey:=aL k
   have ez:=bk B;clear cd;have⟨av,t⟩:=df nodes k (u.o▸B);have a7:=aK t;have c6:=cO.o wr (bq.o.base.Z (N.base.zz bq.o.base.size));obtain⟨b,Q,rfl,en,ec,R,ed,eg⟩:=dv.at c6 t;have s:=iA nodes 0 k av (iM aw.o).1.ok t;rw[cH]at s;have b7:=Ce ts nd t;have cq:=bw.o av a7;have a6:=fun a2=>bu.o av a7 a2 aw.o;obtain⟨eb,sym,aa,ab⟩:=av;simp only at ec R ed eg cq a6;have⟨d,r,bF,b0⟩:=dy wr (.cells #[eb,sym,aa,ab] 104);have⟨e1,e2,e3,e4⟩:=dC b0;have V:=N.O bF;have bi:=V.sums.at (by simp only;rw[<-u.o];exact B);have em:=V.sums.free k;have⟨H,I,a0,c0⟩:=dE V b7 s a6;have i:Hid (k<nodes):=ah (by rw[<-u.o];exact B);have⟨J,X⟩:=am (sumsU ts nd (nodes.take k));have ae:Hid (∀j:Nat,j<n->d.cell? ⟨F,j,none⟩=some (.int .i64 (J.getD j 0:Nat))/\J.getD j 0<=4097):=ah (fun j c9=>⟨by rw[X];exact V.sums.at (by simp only;rw[<-u.o];exact c9),by rw[X];exact tP (Ih ts c1.o _) j⟩);simp only at bi;rw[<-X]at bi I;have y:=ah X;have⟨e0,cp⟩:=am (J.getD k 0);rw[<-cp]at bi;clear t a7 b7 s a6 V N b0 bF X cp;rcases nM a0.o with e|e|e|e|e|e
   all_goals
    simp only at e;subst e
   case inl=>
    have h:Hid (rO ts nd ⟨⟨name,label,attrs,key,false,nodes⟩,D,C,some ⟨b,Q,none⟩,v⟩ F w (.int .i64 ((k:Int)+1)) (d.setCell ⟨F,k,none⟩ (.int .i64 4097))):=ah ⟨k+1,aD,i.o,H.o.put i.o 4097 (by have:=I.o;rw[this,y.o];rfl)⟩;go_wp2_with(first|(rw[<-r];clear r)|fail)
    go_roundw
    case rel=>exact h.o
    case measure=>exact aM
   case inr.inl=>
    have h:Hid (rO ts nd ⟨⟨name,label,attrs,key,false,nodes⟩,D,C,some ⟨b,Q,none⟩,v⟩ F w (.int .i64 ((k:Int)+1)) d):=ah ⟨k+1,aD,i.o,H.o.skip i.o (by have:=I.o;rw[this,y.o];rfl)⟩;go_wp2_with(first|(rw[<-r];clear r)|fail)
    go_roundw
    case rel=>exact h.o
    case measure=>exact aM
   case inr.inr.inr.inr.inr=>
    have h:Hid (rO ts nd ⟨⟨name,label,attrs,key,false,nodes⟩,D,C,some ⟨b,Q,none⟩,v⟩ F w (.int .i64 ((k:Int)+1)) d):=ah ⟨k+1,aD,i.o,H.o.skip i.o (by have:=I.o;rw[this,y.o];rfl)⟩;go_wp2_with(first|(rw[<-r];clear r)|fail)
    go_roundw
    case rel=>exact h.o
    case measure=>exact aM
   case inr.inr.inl=>
    have W:=c0.o rfl;have⟨c,ag⟩:=am (kidOf ts sym);rw[<-ag]at W;have ao:=H.o.base;have b3:=cP.o.zw (bL ao none) aj;have dc:=yN (b3.zw (bL (aA _ d).drew none) aj) cq;rw[<-ag]at dc;have bb:=(ao.cell c5).Z cN.o;have af:=cn.O cG.o ao;obtain⟨b5,er,rfl,ex,b8⟩:=af.2.2.2 ad;have b9:=b8 c (nV (nd.getD c 0)) (by rw[bR,cB,cV W];rfl);unfold nV at b9;have c7:=af.2.1;have b6:=af.2.2.1;unfold maxLen at b6;have es:=aL c;have et:(c:Int)<nd:=ad;have g:=H.o.put i.o (nd.getD c 0) (by have:=I.o;rw[this,y.o,ag];rfl);have h:Hid (rO ts nd ⟨⟨name,label,attrs,key,false,nodes⟩,D,C,some ⟨b,Q,none⟩,v⟩ F w (.int .i64 (k+1)) (d.setCell ⟨F,k,none⟩ (.int .i64 (nd.getD c 0))).drew):=ah ⟨k+1,aD,i.o,g.O (aA _ _).drew⟩;clear g;have⟨eZ,ca⟩:=am (nd.getD c 0);rw[<-ca]at h b9;clear ca b8 af c7 b6 b3 ao ag;go_wp2_with(first|(rw[<-r];clear r)|fail)
    go_region
    go_wp2_with fail
    exact⟨h.o,by simp[intOf];omega⟩
   case inr.inr.inr.inl=>
    have s:=a0.o;simp only[eA,cy]at s;simp at s;obtain⟨⟨-,bc,bd⟩,be,bf⟩:=s;obtain⟨p,rfl⟩:∃p:Nat,aa=p:=⟨aa.toNat,ad⟩;obtain⟨q,rfl⟩:∃q:Nat,ab=q:=⟨ab.toNat,ad⟩;have dq:=aL p;have dr:(p:Int)<n:=ad;have ds:=aL q;have du:(q:Int)<n:=ad;have⟨u0,u1⟩:=ae.o p ad;have⟨t0,t1⟩:=ae.o q ad;have g:=H.o.put i.o (min (((sumsU ts nd (nodes.take k)).getD p 0)+((sumsU ts nd (nodes.take k)).getD q 0)) 4097) (by have:=I.o;rw[this,y.o];rfl);rw[<-y.o]at g;have⟨E,S⟩:∃a,a=J.getD p 0:=⟨_,rfl⟩;have⟨G,z⟩:∃a,a=J.getD q 0:=⟨_,rfl⟩;rw[<-S]at u0 u1 g;rw[<-z]at t0 t1 g;have dl:min (E+(G:Int)) 4097=min (E+G) 4097:=ad;have h:Hid (rO ts nd ⟨⟨name,label,attrs,key,false,nodes⟩,D,C,some ⟨b,Q,none⟩,v⟩ F w (.int .i64 (k+1)) (d.setCell ⟨F,k,none⟩ (.int .i64 (min (E+G) 4097:Nat))).drew):=ah ⟨k+1,aD,i.o,g.O (aA _ _).drew⟩;clear g S z bc bd be bf;go_wp2_with(first|(rw[<-r];clear r)|fail)
    go_region
    go_wp2_with fail
    exact⟨h.o,by simp[intOf];omega⟩
   case inr.inr.inr.inr.inl=>
    have s:=a0.o;simp only[eA,cy]at s;simp at s;obtain⟨⟨-,bc,bd⟩,be,bf⟩:=s;obtain⟨p,rfl⟩:∃p:Nat,aa=p:=⟨aa.toNat,ad⟩;obtain⟨q,rfl⟩:∃q:Nat,ab=q:=⟨ab.toNat,ad⟩;have dq:=aL p;have dr:(p:Int)<n:=ad;have ds:=aL q;have du:(q:Int)<n:=ad;have⟨u0,u1⟩:=ae.o p ad;have⟨t0,t1⟩:=ae.o q ad;have g:=H.o.put i.o (min ((sumsU ts nd (nodes.take k)).getD p 0) ((sumsU ts nd (nodes.take k)).getD q 0)) (by have:=I.o;rw[this,y.o];rfl);rw[<-y.o]at g;have⟨E,S⟩:∃a,a=J.getD p 0:=⟨_,rfl⟩;have⟨G,z⟩:∃a,a=J.getD q 0:=⟨_,rfl⟩;rw[<-S]at u0 u1 g;rw[<-z]at t0 t1 g;have dl:min (E:Int) G=min E G:=ad;have h:Hid (rO ts nd ⟨⟨name,label,attrs,key,false,nodes⟩,D,C,some ⟨b,Q,none⟩,v⟩ F w (.int .i64 (k+1)) (d.setCell ⟨F,k,none⟩ (.int .i64 (min E G:Nat))).drew):=ah ⟨k+1,aD,i.o,g.O (aA _ _).drew⟩;clear g S z bc bd be bf;go_wp2_with(first|(rw[<-r];clear r)|fail)
    go_region
    go_wp2_with fail
    exact⟨h.o,by simp[intOf];omega⟩
  obtain rfl:k=n:=ad;have dn:=(iM aw.o).2;obtain⟨m,ch⟩:∃m,k=m+1:=⟨k-1,by have:=u.o;omega⟩;have el:(k:Int)-1=m:=ad;have eB:=aL m;have eD:(m:Int)<k:=ad;have u0:=N.sums.at (k:=m) (by simp only;rw[<-u.o];omega);simp only at u0;rw[bI (u.o▸ay _)]at u0;have⟨c2,a5⟩:=am ((sumsU ts nd nodes).getD m 0);rw[<-a5]at u0;have cS:Hid (gH ts nd ⟨name,label,attrs,key,false,nodes⟩=c2):=ah (by rw[a5];unfold gH;simp only[iW,iy];rw[<-u.o,ch];rfl);have cL:=ah N.base;clear a5 ch N cd dn
  go_wp2
  go_ret;rw[cS.o];exact⟨rfl,cL.o⟩
end Go.Proofs.YtfeidcmojcijpaaGreatDoor
