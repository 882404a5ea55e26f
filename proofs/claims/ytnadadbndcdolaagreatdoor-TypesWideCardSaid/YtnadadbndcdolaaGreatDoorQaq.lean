import Derived.Test.YtnadadbndcdolaaGreatDoorQao
set_option linter.unusedVariables false
set_option linter.unusedSimpArgs false
set_option maxRecDepth 100000
set_option maxHeartbeats 0
namespace Go.Proofs.YtnadadbndcdolaaGreatDoor
open Go.RowKit Tryz
def sO:Nat->List aw->Bytes->Int
 |_,[],_=> -1
 |i,t::ts,n=>if t.name=n then(i:Int)else sO (i+1) ts n
def ky(ts:List aw)(n:Bytes):Int:=sO 0 ts n
def qK(ts:List aw)(out:List Int)(n:aj):List Int:=if n.op=2 then(if out.contains (ky ts n.sym)then out else out++[ky ts n.sym])else out
def my(ts:List aw)(l:List aj):List Int:=l.foldl (qK ts) []
def DQ(ts:List aw)(zs:List Int):List Bytes:=zs.map fun z=>labelAt ts z.toNat
theorem Md:∀(ts:List aw) (i:Nat) (n:Bytes),(∃(k:Nat) (t:aw),ts[k]?=some t/\t.name=n/\sO i ts n=((i+k:Nat):Int)/\∀(j:Nat) (u:aw),j<k->ts[j]?=some u->u.name≠n)∨(sO i ts n= -1/\∀(j:Nat) (u:aw),ts[j]?=some u->u.name≠n):=by
 intro ts;induction ts with
 |nil=>intro i n;exact .inr ⟨rfl,fun j u f=>by simp at f⟩
 |cons t ts ih=>
  intro i n;unfold sO;by_cases b:t.name=n
  ·rw[ay b]
   exact .inl ⟨0,t,rfl,b,ak,fun j u e=>absurd e ad⟩
  ·rw[au b]
   rcases ih (i+1) n with⟨k,u,c,d,g,h⟩|⟨c,d⟩
   ·refine .inl ⟨k+1,u,c,d,by rw[g];omega,fun j v e a=> ?_⟩
    cases j with
    |zero=>simp at a;subst a;exact b
    |succ j=>exact h j v ad (by simpa using a)
   ·refine .inr ⟨c,fun j v a=> ?_⟩
    cases j with
    |zero=>simp at a;subst a;exact b
    |succ j=>exact d j v (by simpa using a)
theorem DR(ts:List aw)(n:Bytes):(∃(k:Nat) (t:aw),ts[k]?=some t/\t.name=n/\ky ts n=(k:Int)/\∀(j:Nat) (u:aw),j<k->ts[j]?=some u->u.name≠n)∨(ky ts n= -1/\∀(j:Nat) (u:aw),ts[j]?=some u->u.name≠n):=by have:=Md ts 0 n;simpa[ky]using this
theorem Me(ts:List aw)(n:Bytes):ky ts n<(ts.length:Int):=by
 rcases DR ts n with⟨k,t,a,_,b,_⟩|⟨a,_⟩
 ·have:=(aL.1 a).1;omega
 ·omega
theorem Mf:∀l:List Bytes,dk l=true->∃(a b:Nat) (x:Bytes),a<b/\l[a]?=some x/\l[b]?=some x:=by
 intro l;induction l with
 |nil=>intro d;simp[dk]at d
 |cons c t ih=>
  intro d;simp only[dk,di,rO]at d;rcases d with d|d
  ·obtain⟨b,g⟩:=pd.1 d
   exact⟨0,b+1,c,ad,rfl,g⟩
  ·obtain⟨a,b,x,h,e,f⟩:=ih d
   exact⟨a+1,b+1,x,ad,e,f⟩
def sP(ts:List aw):Int:=if dk (ts.map aw.name)=true then 15 else if ts.any (fun t=>ej t.attrs)=true then 14 else if ts.any iL=true then 12 else eQ ts
theorem Mg{ts:List aw}{out:List Int}{n:aj}{z:Int}:z∈qK ts out n↔z∈out∨(n.op=2/\ky ts n.sym=z):=by
 unfold qK;by_cases c:n.op=2
 ·rw[ay c]
  by_cases d:out.contains (ky ts n.sym)=true
  ·rw[ay d]
   rw[rO]at d;exact⟨.inl,fun b=>b.elim id fun⟨_,a⟩=>a▸d⟩
  ·rw[au d,fA,uE]
   exact⟨fun b=>b.elim .inl fun a=>.inr ⟨c,a.symm⟩,fun b=>b.elim .inl fun⟨_,a⟩=>.inr a.symm⟩
 ·rw[au c]
  exact⟨.inl,fun b=>b.elim id fun⟨a,_⟩=>absurd a c⟩
theorem Mh{ts:List aw}{z:Int}:∀(l:List aj) (out:List Int),z∈l.foldl (qK ts) out↔z∈out∨∃n∈l,n.op=2/\ky ts n.sym=z:=by
 intro l;induction l with
 |nil=>intro out;simp
 |cons n t ih=>
  intro out;rw[nT,ih,Mg];constructor
  ·rintro((a|a)|⟨m,b,a⟩)
   ·exact .inl a
   ·exact .inr ⟨n,dM .., a⟩
   ·exact .inr ⟨m,dt _ b,a⟩
  ·rintro(a|⟨m,b,a⟩)
   ·exact .inl (.inl a)
   ·rcases du.1 b with rfl|b
    ·exact .inl (.inr a)
    ·exact .inr ⟨m,b,a⟩
theorem vR{ts:List aw}{l:List aj}{z:Int}:z∈my ts l↔∃n∈l,n.op=2/\ky ts n.sym=z:=by unfold my;rw[Mh];simp
theorem Mi{ts:List aw}{l:List aj}{z:Int}(a:z∈my ts l):z<(ts.length:Int):=by obtain⟨n,_,_,rfl⟩:=vR.1 a;exact Me ts n.sym
def za(ts:List aw)(t:aw):Bool:=(my ts t.nodes).any (fun z=>(attrsAt ts z.toNat).contains t.key)||t.key.isEmpty
def vS(ts:List aw)(t:aw):Bool:=(my ts t.nodes).any (fun z=>decide (z<0))
def zb(ts:List aw)(t:aw):Bool:=dk (DQ ts (my ts t.nodes))
def zc(ts:List aw):Int:=
 if 64<ts.length then 17 else if ts.length=0 then 18 else if ts.any kK=true then 11 else
 if sP ts≠0 then sP ts else if ts.any (vS ts)=true then 16 else if ts.any (zb ts)=true then 24 else if ts.any (fun t=> !za ts t)=true then 23 else 0
def oh{c:Type}(l:List c):Prop:=∀(a b:Nat) (x:c),l[a]?=some x->l[b]?=some x->a=b
theorem DS{m:Type}{l:List m}(p:oh l)(f:m->Bytes):dk (l.map f)=true↔∃x∈l,∃y∈l,x≠y/\f x=f y:=by
 constructor
 ·intro s
  obtain⟨a,b,v,t,h,i⟩:=Mf _ s;rw[bW]at h i;obtain⟨x,d,n⟩:=mV.1 h;obtain⟨y,e,o⟩:=mV.1 i;refine⟨x,aX d,y,aX e,fun g=> ?_,by rw[n,o]⟩;subst g;have:=p a b x d e;omega
 ·rintro⟨x,d,y,e,r,q⟩
  obtain⟨a,j⟩:=pd.1 d;obtain⟨b,c⟩:=pd.1 e;cases g:dk (l.map f)with
  |true=>rfl
  |false=>
   have:=sM g a b (f x) (by rw[bW,j];rfl) (by rw[bW,c,q];rfl);subst this;rw[j]at c;injection c with c
   exact absurd c r
theorem Mj{j:Type}{l:List j}{x:j}(m:oh l)(i:x∉l):oh (l++[x]):=by
 intro a b y c d;by_cases g:a<l.length<;>by_cases h:b<l.length
 ·rw[eP g]at c
  rw[eP h]at d;exact m a b y c d
 ·rw[eP g]at c
  have f:=(aL.1 d).1;rw[cR,BA]at f;rw[fZ ad,show b-l.length=0 by omega]at d;simp at d;subst d;exact absurd (aX c) i
 ·rw[eP h]at d
  have e:=(aL.1 c).1;rw[cR,BA]at e;rw[fZ ad,show a-l.length=0 by omega]at c;simp at c;subst c;exact absurd (aX d) i
 ·have e:=(aL.1 c).1
  have f:=(aL.1 d).1;rw[cR,BA]at e f;omega
theorem Ml{ts:List aw}:∀(l:List aj) (out:List Int),oh out->oh (l.foldl (qK ts) out):=by
 intro l;induction l with
 |nil=>intro out a;exact a
 |cons n t ih=>
  intro out a;rw[nT];refine ih _ ?_;unfold qK;split
  ·split
   ·exact a
   ·rename_i b
    exact Mj a (by rwa[rO]at b)
  ·exact a
theorem Mm(ts:List aw)(l:List aj):oh (my ts l):=Ml l [] (fun a b x c=>by simp at c)
theorem Mn{a:Bytes}{l:List Bytes}(m:(a::l).Pairwise (fun x y=>bP x y=true)):(dd (a::l)).Pairwise (fun x y=>bP x y=true/\x≠y)/\∀x∈dd (a::l),bP a x=true:=by
 induction l generalizing a with
 |nil=>
  refine⟨by simp[dd],fun x c=> ?_⟩;simp[dd]at c;subst c;unfold bP;simp
 |cons b t ih=>
  have h:=BB.1 m;obtain⟨i,g⟩:=ih h.2;have d:=h.1 b (dM ..);unfold dd;by_cases e:a=b
  ·subst e
   rw[ay rfl];exact⟨i,g⟩
  ·rw[au e]
   have tr:∀x∈dd (b::t),bP a x=true:=fun x c=>by have:=g x c;unfold bP at*;rw[ft]at*;exact BC d this
   refine⟨BB.2 ⟨fun x c=>⟨tr x c,fun j=> ?_⟩,i⟩,fun x c=> ?_⟩
   ·subst j
    have f:=g a c;unfold bP at f d;rw[ft]at f d;exact e (IH d f)
   ·rcases du.1 c with rfl|c
    ·unfold bP;simp
    ·exact tr x c
theorem vT{b:Bytes}:∀{l:List Bytes},b∈l->b∈dd l
 |[],d=>d
 |[a],d=>d
 |a::c::t,d=>by
  simp only[dd];by_cases e:a=c
  ·rw[ay e]
   rcases du.1 d with d|d
   ·subst d;exact vT (e▸dM ..)
   ·exact vT d
  ·rw[au e]
   rcases du.1 d with d|d
   ·subst d;exact dM ..
   ·exact dt _ (vT d)
theorem Mo{l:List aj}(e:bG l=0){b:Bytes}:b∈aI l↔∃n∈l,n.op=2/\n.sym=b:=by
 unfold aI;rw[ay e];have f:b∈(fB l).mergeSort bP↔b∈fB l:=xJ;have g:b∈fB l↔∃n∈l,n.op=2/\n.sym=b:=by
  unfold fB;rw[In];constructor
  ·rintro⟨n,d,a⟩
   by_cases c:n.op=2
   ·rw[ay c]at a;injection a with a;exact⟨n,d,c,a⟩
   ·rw[au c]at a;cases a
  ·rintro⟨n,d,c,a⟩
   exact⟨n,d,by rw[ay c,a]⟩
 rw[<-g,<-f];exact⟨qz,vT⟩
theorem Mp{l:List aj}:oh (aI l):=by
 unfold aI;split
 ·have m:((fB l).mergeSort bP).Pairwise (fun x y=>bP x y=true):=by
   refine List.pairwise_mergeSort ?_ ?_ _
   ·intro a b c n o
    unfold bP at*;rw[ft]at*;exact BC n o
   ·intro a b
    unfold bP;rw[di,ft,ft];exact List.le_total a b
  generalize(fB l).mergeSort bP=s at m;have f:(dd s).Pairwise (fun x y=>x≠y):=by
   cases s with
   |nil=>simp[dd]
   |cons a t=>exact(Mn m).1.imp fun d=>d.2
  intro a b x e p;obtain⟨g,h⟩:=aL.1 e;obtain⟨i,j⟩:=aL.1 p;rw[List.pairwise_iff_getElem]at f;rcases xN a b with d|d|d
  ·exact absurd (h.trans j.symm) (f a b g i d)
  ·exact d
  ·exact absurd (j.trans h.symm) (f b a i g d)
 ·intro a b x e;simp at e
theorem ze{ts:List aw}(g:dk (ts.map aw.name)=false)(n:Bytes):ky ts n=match placeS ts n with|some k=>(k:Int)|none=> -1:=by
 rcases DR ts n with⟨k,t,a,b,h,_⟩|⟨a,b⟩
 ·cases d:placeS ts n with
  |none=>
   have:=yi ts n;rw[d]at this;have i:(ts.map aw.name).contains n=true:=by rw[rO];exact fH.2 ⟨t,aX a,b⟩
   rw[i]at this;cases this
  |some c=>
   obtain⟨u,e,f⟩:=pP d;have:k=c:=sM g k c n (by rw[bW,a];simp[b]) (by rw[bW,e];simp[f]);rw[h,this]
 ·cases d:placeS ts n with
  |none=>exact a
  |some c=>
   obtain⟨u,e,f⟩:=pP d;exact absurd f (b c u e)
theorem DT{ts:List aw}(a:dk (ts.map aw.name)=false)(n:Bytes):ky ts n<0↔placeS ts n=none:=by
 rw[ze a n];cases placeS ts n with
 |none=>simp
 |some k=>simp
theorem DU{ts:List aw}(a:eQ ts=0):∀t∈ts,t.text=false->bG t.nodes=0:=by
 induction ts with
 |nil=>intro t b;simp at b
 |cons u ts ih=>
  unfold eQ at a;intro t b d;by_cases c:u.text=false/\bG u.nodes≠0
  ·rw[ay c]at a;exact absurd a c.2
  ·rw[au c]at a
   rcases du.1 b with rfl|b
   ·exact ei fun e=>c ⟨d,e⟩
   ·exact ih a t b d
theorem vU{ts:List aw}(c:ts.any iL=false)(g:eQ ts=0){t:aw}(d:t∈ts){b:Bytes}:b∈aI t.nodes↔∃n∈t.nodes,n.op=2/\n.sym=b:=by
 cases e:t.text with
 |false=>exact Mo (DU g t d e)
 |true=>
  rw[pg]at c;have:=c t d;unfold iL at this;rw[e]at this;have h:t.nodes=[]:=by
   cases f:t.nodes with
   |nil=>rfl
   |cons a i=>rw[f]at this;simp at this
  rw[h,y9];simp
theorem Mq{ts:List aw}(d:dk (ts.map aw.name)=false)(e:ts.any iL=false)(f:eQ ts=0){t:aw}(i:t∈ts):vS ts t=(aI t.nodes).any (fun n=>(placeS ts n).isNone):=by
 rw[iF];unfold vS;rw[ir,ir];constructor
 ·rintro⟨z,m,g⟩
  obtain⟨n,c,a,rfl⟩:=vR.1 m;rw[ft]at g;exact⟨n.sym,(vU e f i).2 ⟨n,c,a,rfl⟩,by rw[(DT d _).1 g];rfl⟩
 ·rintro⟨b,l,h⟩
  obtain⟨n,c,a,rfl⟩:=(vU e f i).1 l;refine⟨ky ts n.sym,vR.2 ⟨n,c,a,rfl⟩,?_⟩;rw[ft,DT d];cases j:placeS ts n.sym with
  |none=>rfl
  |some k=>rw[j]at h;cases h
theorem pR{ts:List aw}(e:dk (ts.map aw.name)=false)(f:ts.any iL=false)(g:eQ ts=0){t:aw}(l:t∈ts)(j:∀b∈aI t.nodes,placeS ts b≠none)(z:Int):z∈my ts t.nodes↔∃k∈kidsS ts t,z=(k:Int):=by
 rw[vR];unfold kidsS;constructor
 ·rintro⟨n,d,c,rfl⟩
  have i:=(vU f g l).2 ⟨n,d,c,rfl⟩;refine⟨_,fH.2 ⟨n.sym,i,rfl⟩,?_⟩;rw[ze e];cases a:placeS ts n.sym with
  |none=>exact absurd a (j _ i)
  |some k=>rfl
 ·rintro⟨k,m,rfl⟩
  obtain⟨b,h,rfl⟩:=fH.1 m;obtain⟨n,d,c,rfl⟩:=(vU f g l).1 h;refine⟨n,d,c,?_⟩;rw[ze e];cases a:placeS ts n.sym with
  |none=>exact absurd a (j _ h)
  |some k=>rfl
theorem Mr{ts:List aw}{t:aw}(m:∀b∈aI t.nodes,placeS ts b≠none):oh (kidsS ts t):=by
 unfold kidsS;intro a b k j l;rw[bW]at j l;obtain⟨x,n,f⟩:=mV.1 j;obtain⟨y,o,g⟩:=mV.1 l;have s:x=y:=by
  cases h:placeS ts x with
  |none=>exact absurd h (m x (aX n))
  |some c=>
   cases i:placeS ts y with
   |none=>exact absurd i (m y (aX o))
   |some d=>
    rw[h]at f;rw[i]at g;simp at f g;subst f;subst g;obtain⟨u,r,q⟩:=pP h;obtain⟨v,e,p⟩:=pP i;rw[r]at e;injection e with e
    subst e;rw[<-q,<-p]
 subst s;exact Mp a b x n o
theorem Ms{ts:List aw}(c:dk (ts.map aw.name)=false)(d:ts.any iL=false)(e:eQ ts=0){t:aw}(f:t∈ts)(a:∀b∈aI t.nodes,placeS ts b≠none):zb ts t=dk ((kidsS ts t).map (labelAt ts)):=by
 rw[iF];unfold zb DQ;rw[DS (Mm ts t.nodes),DS (Mr a)];constructor
 ·rintro⟨x,n,y,o,l,g⟩
  obtain⟨k,i,rfl⟩:=(pR c d e f a x).1 n;obtain⟨j,h,rfl⟩:=(pR c d e f a y).1 o;exact⟨k,i,j,h,fun m=>l (by rw[m]),by simpa using g⟩
 ·rintro⟨k,i,j,h,l,g⟩
  exact⟨k,(pR c d e f a _).2 ⟨k,i,rfl⟩,j,(pR c d e f a _).2 ⟨j,h,rfl⟩,ad,by simpa using g⟩
theorem Mt{ts:List aw}(d:dk (ts.map aw.name)=false)(e:ts.any iL=false)(f:eQ ts=0){t:aw}(h:t∈ts)(g:∀b∈aI t.nodes,placeS ts b≠none):(!za ts t)=(!t.key.isEmpty&& !(kidsS ts t).any fun k=>(attrsAt ts k).contains t.key):=by
 have i:(my ts t.nodes).any (fun z=>(attrsAt ts z.toNat).contains t.key)=(kidsS ts t).any fun k=>(attrsAt ts k).contains t.key:=by
  rw[iF,ir,ir];constructor
  ·rintro⟨z,j,a⟩
   obtain⟨k,c,rfl⟩:=(pR d e f h g z).1 j;exact⟨k,c,by simpa using a⟩
  ·rintro⟨k,c,a⟩
   exact⟨(k:Int),(pR d e f h g _).2 ⟨k,c,rfl⟩,by simpa using a⟩
 unfold za;rw[i];cases t.key.isEmpty<;>simp
theorem zg{c:Type}{l:List c}{p q:c->Bool}(b:∀x∈l,p x=q x):l.any p=l.any q:=by
 induction l with
 |nil=>rfl
 |cons a t ih=>rw[List.any_cons,List.any_cons,b a (dM ..),ih fun x d=>b x (dt _ d)]
theorem Mu(ts:List aw):zc ts=bT ts:=by
 unfold zc bT;split
 ·rfl
 split
 ·rfl
 split
 ·rfl
 unfold sP;by_cases c:dk (ts.map aw.name)=true
 ·rw[ay c,ay c,ay ap]
 rw[au c,au c];by_cases g:ts.any (fun t=>ej t.attrs)=true
 ·rw[ay g,ay g,ay ap]
 rw[au g,au g];rw[show(fun t:aw=>t.text&&(!t.nodes.isEmpty|| !t.key.isEmpty))=iL from rfl];by_cases d:ts.any iL=true
 ·rw[ay d,ay d,ay ap]
 rw[au d,au d];by_cases e:eQ ts=0
 ·rw[au (show¬eQ ts≠0 by simp[e]),au (show¬eQ ts≠0 by simp[e])]
  rw[ka]at c d;have l:ts.any (vS ts)=ts.any (fun t=>(aI t.nodes).any fun n=>(placeS ts n).isNone):=zg fun t a=>Mq c d e a;rw[l];by_cases f:ts.any (fun t=>(aI t.nodes).any fun n=>(placeS ts n).isNone)=true
  ·rw[ay f,ay f]
  rw[au f,au f];have i:∀t∈ts,∀b∈aI t.nodes,placeS ts b≠none:=fun t a b m j=>f (ir.2 ⟨t,a,ir.2 ⟨b,m,by rw[j];rfl⟩⟩);rw[zg (q:=fun t=>dk ((kidsS ts t).map (labelAt ts))) fun t a=>Ms c d e a (i t a)];by_cases h:ts.any (fun t=>dk ((kidsS ts t).map (labelAt ts)))=true
  ·rw[ay h,ay h]
  rw[au h,au h];rw[zg fun t a=>Mt c d e a (i t a)]
 ·rw[ay e,ay e]
structure Mv(ts:List aw):Prop where
 names:dk (ts.map aw.name)=false
 kids:∀t∈ts,∀z,z∈my ts t.nodes↔∃k∈kidsS ts t,z=(k:Int)
theorem Mw{ts:List aw}(a:bT ts=0):Mv ts:=by
 have j:=qJ a;rw[<-Mu]at a;unfold zc at a;split at a
 ·cases a
 split at a
 ·cases a
 split at a
 ·cases a
 split at a
 ·rename_i h;exact absurd a h
 rename_i c;have c:sP ts=0:=ei c;unfold sP at c;split at c
 ·cases c
 rename_i d;split at c
 ·cases c
 split at c
 ·cases c
 rename_i e;rw[ka]at d e;refine⟨d,fun t f z=>pR d e c f (fun b i g=> ?_) z⟩;have:=j.placed t f b i;rw[g]at this;cases this
end Go.Proofs.YtnadadbndcdolaaGreatDoor
