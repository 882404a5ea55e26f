import Derived.Test.YtfeidcmojcijpaaGreatDoorQbe
set_option linter.all false
set_option maxRecDepth 100000
set_option maxHeartbeats 0
namespace Go.Proofs.YtfeidcmojcijpaaGreatDoor
open Go.RowKit Tryz
inductive tJ{K:Type}(first:K)(nx:K->List K):K->Prop
 |first:tJ first nx first
 |next {s t:K}:tJ first nx s->t∈nx s->tJ first nx t
section
variable{K:Type} [DecidableEq K]
def Ii{first most nx}(g:0<most):∀n (s:List K×List _),fR first most nx n=some s->∀k∈s.1,tJ first nx k:=by
 intro n;induction n with
 |zero=>intro s a;cases a;intro k c;simp at c;subst c;exact .first
 |succ n ih=>
  intro s a;unfold fR at a;cases b:fR first most nx n with
  |none=>rw[b]at a;cases a
  |some d=>
   rw[b]at a;simp only[wX]at a;split at a;cases a
   rename_i k c;cases hv:eu most d.1 (nx k)with
   |none=>rw[hv]at a;cases a
   |some v=>
    rw[hv]at a;cases a
    have f:=rK g n d b;have V:=tq f.nodup f.most _ _ v rfl hv;intro x h;rcases V.new x h with e|e
    exact ih d b x e
    ·exact .next (ih d b k (aK c)) e
def Sx{most keys}(j:keys.Nodup)(i:keys.length<=most):∀m ks,ks.length=m->eu most keys ks=none->∃l:List K,l.Nodup/\most<l/\∀x∈l,x∈keys∨x∈ks:=by
 intro m;induction m with
 |zero=>intro ks b a;rw[zX.1 b,BL]at a;cases a
 |succ m ih=>
  intro ks b a;rcases zA ks with rfl|⟨d,k,rfl⟩
  simp at b;simp at b;simp only[zB]at a⊢;rw[yE]at a;cases hv:eu most keys d with
  |none=>
   obtain⟨l,e,f,g⟩:=ih d b hv;exact⟨l,e,f,fun x c=>(g x c).imp id (fun a=>by simp[a])⟩
  |some s=>
   rw[hv]at a;have V:=tq j i _ d s rfl hv;simp only[wX,mr]at a;split at a;cases a
   rename_i h;split at a;rename_i n;refine⟨_,lS.2 ⟨h,V.nodup⟩,aO,fun x c=> ?_⟩;rcases bX.1 c with rfl|c
   simp;exact(V.new x c).imp id (fun a=>by simp[a]);cases a
def vB:∀(l L:List K),l.Nodup->(∀x∈l,x∈L)->l<=L.length
 |[],_,_,_=>aH _
 |a::l,L,g,d=>by have b:=lS.1 g;have c:=d a eV;have:=vB l (L.erase a) b.2 (fun x f=>(zx (fun e=>b.1 (by rw[<-e];exact f))).2 (d x (dM _ f)));have h:=CY c;have i:=zy c;simp only[ef];omega
end
def n7:List Nat->List (List Nat)
 |[]=>[[]]
 |a::t=>n7 t++(n7 t).map (a::·)
def Ij:∀l,(n7 l).length=2^l.length
 |[]=>rfl
 |a::t=>by rw[n7,ck,bn,Ij t,ef,Nat.pow_succ];omega
def Ik{a l}(b:a.Sublist l):a∈n7 l:=by
 induction b with
 |slnil=>simp[n7]
 |cons x _ ih=>unfold n7;exact Do _ ih
 |cons_cons x _ ih=>unfold n7;exact KS _ (dL.2 ⟨_,ih,rfl⟩)
def Sy l:[]∈n7 l:=Ik (List.nil_sublist l)
def Cf{a b}(e:a<18446744073709551616)(f:b<18446744073709551616)(d:∀j,j<64->a.testBit j=b.testBit j):a=b:=by
 apply K6;intro j;rcases kF j 64 with c|c
 exact d j c;rw[C1 (eU e (rZ ad c:2^64<=2^j)),C1 (eU f (rZ ad c:2^64<=2^j))]
def Sz{m}(b:m<18446744073709551616):dS (aG m)=m:=
 Cf (vy m) b fun j c=>by
  rw[tC];cases a:m.testBit j with
  |false=>exact qD (fun d=>by have:=(iQ d).2;rw[a]at this;cases this)
  |true=>exact iS (by unfold aG;rw[jJ,eT];exact⟨c,a⟩)
def SA{m P}(a:∀j,m.testBit j=true->P.testBit j=true):(aG m).Sublist (aG P):=by
 unfold aG;have:(List.range 64).filter m.testBit=((List.range 64).filter P.testBit).filter m.testBit:=by
  rw[List.filter_filter];congr 1
  funext j
  cases b:m.testBit j with
  |false=>simp
  |true=>simp[a j b]
 rw[this];exact List.filter_sublist
def rP{m j}(b:j<64)(a:m.testBit j=true):j∈aG m:=by unfold aG;rw[jJ,eT];exact⟨b,a⟩
def qp(l:List ax)(x:Bytes):List St:=(n7 (aG (ofN l x l))).map fun a=>(false,dS a)
def Il{l ws}(e:l.length<=60){s t}(a:t∈cD l ws s):∃x∈ws,t=(false,dH l s.1 (aG s.2)&&&ofN l x l)/\t∈qp l x:=by unfold cD at a;obtain⟨x,d,rfl⟩:=dL.1 a;refine⟨x,d,rfl,?_⟩;have c:dH l s.1 (aG s.2)&&&ofN l x l<18446744073709551616:=vw (nt l x _ ad);refine dL.2 ⟨aG (dH l s.1 (aG s.2)&&&ofN l x l),Ik (SA fun j b=> ?_),?_⟩;simp only[oh,cM]at b;exact b.2;rw[Sz c]
def jq(l:List ax)(x:Bytes):Nat:=(aG (ofN l x l))
def In l x:(qp l x).length=2^jq l x:=by unfold qp jq;rw[bn,Ij]
def vC(l:List ax)(p:Nat):Option Bytes:=match l[p]? with
 |some n=>if n.op=2 then n.sym else none
 |none=>none
def qq(l:List ax):Nat:=((List.range l).filter fun p=>(vC l p).isSome)
def SC(ws:List Bytes)(c:ws.Nodup)(L:List Nat)(f:Nat->Option Bytes):(ws.map fun x=>(L.filter fun p=>f p==some x).length).sum<=(L.filter fun p=>(f p).isSome):=by
 induction L with
 |nil=>
  have:(ws.map fun x=>(([]:List Nat).filter fun p=>f p==some x).length)=ws.map fun _=>0:=rfl;rw[this];clear this c;induction ws with
  |nil=>simp
  |cons a t ih=>simp only[dZ,fm];omega
 |cons p L ih=>
  have key:(ws.map fun x=>((p::L).filter fun p=>f p==some x).length).sum=(ws.map fun x=>(L.filter fun p=>f p==some x).length).sum+(ws.map fun x=>if f p==some x then 1 else 0).sum:=by
   clear ih c;induction ws with
   |nil=>simp
   |cons a t ih=>
    simp only[dZ,fm];rw[ih];have:((p::L).filter fun p=>f p==some a).length=(L.filter fun p=>f p==some a).length+if f p==some a then 1 else 0:=by rw[tX];split<;>simp
    omega
  have one:(ws.map fun x=>if f p==some x then 1 else 0).sum<=if(f p).isSome then 1 else 0:=by
   clear ih key;cases l:f p with
   |none=>
    have:(ws.map fun x=>if(none:Option Bytes)==some x then 1 else 0).sum=0:=by
     clear c;induction ws with
     |nil=>simp
     |cons a t ih=>simp only[dZ,fm,ih];simp
    rw[this];simp
   |some y=>
    simp only[DF,ix];induction ws with
    |nil=>simp
    |cons a t ih=>
     simp only[dZ,fm];have d:=lS.1 c;by_cases e:y=a;subst e;have:(t.map fun x=>if some y==some x then 1 else 0).sum=0:=by
      have g:=d.1;clear ih c d;induction t with
      |nil=>simp
      |cons b t ih=>
       simp only[dZ,fm];have i:y≠b:=fun e=>g (by simp[e]);rw[ih (fun h=>g (dM _ h))];simp[i]
     rw[this];simp;have:=ih d.2;simp[e]at this⊢;exact this
  have j:((p::L).filter fun p=>(f p).isSome).length=(L.filter fun p=>(f p).isSome).length+if(f p).isSome then 1 else 0:=by rw[tX];split<;>simp
  omega
def SD l x:jq l x<=((List.range l).filter fun p=>vC l p==x):=by refine vB _ _ (zC.filter _) fun p f=> ?_;obtain⟨_,e⟩:=iQ f;obtain⟨a,nd,b,c,d⟩:=oV l x p _ e;rw[jJ,eT];exact⟨a,by simp[vC,b,c,d]⟩
def Io{l}{ws:List Bytes}(b:ws.Nodup):(ws.map (jq l)).sum<=qq l:=by
 refine aW ?_ (SC ws b _ _);clear b;induction ws with
 |nil=>simp
 |cons a t ih=>
  simp only[dZ,fm];have:=SD l a;omega
def Cg{l x p nd}(b:l[p]?=some nd)(a:nd.op=2)(c:nd.sym=x):∀n,p<n->(ofN l x n).testBit p=true
 |0,d=>ad
 |n+1,d=>by unfold ofN;by_cases e:p=n;subst e;rw[b];simp only;rw[au ⟨a,c⟩,qz,tC];simp;have ih:=Cg b a c n ad;split;exact ih;split;rw[qz,ih];rfl;exact ih
def yQ(s:Nat):Nat:=[0,2,4,8,16,32,64,128,130,132,136].getD s 0
def Ip:∀(b:List Nat) s,(∀n∈b,1<=n/\n<=7)->b.sum<=s->s<=10->(b.map (2^·)).sum<=yQ s
 |[],s,_,_,_=>aj
 |a::t,s,c,f,h=>by simp only[fm,dZ]at f⊢;obtain⟨d,g⟩:=c a eV;have:=Ip t (s-a) (fun n e=>c n (dM _ e)) ad ad;have key:∀s,s<11->∀a,a<8->1<=a->a<=s->2^a+yQ (s-a)<=yQ s:=aq;have:=key s ad a ad d ad;omega
def Iq:∀(b:List Nat),(b.map fun n=>2^n-1).sum+1<=2^b.sum
 |[]=>aj
 |a::t=>by
  simp only[fm,dZ];have ih:=Iq t;have c:1<=2^a:=Nat.one_le_two_pow;have d:1<=2^t.sum:=Nat.one_le_two_pow;have e:2^a*2^t.sum=(2^a-1)*2^t.sum+2^t.sum:=by rw[Nat.sub_mul,Nat.one_mul,Nat.sub_add_cancel (Nat.le_mul_of_pos_left _ c)]
  have f:2^a-1<=(2^a-1)*2^t.sum:=Nat.le_mul_of_pos_right _ d;rw[Nat.pow_add];omega
def yR{c:Type}(f:c->List St) g:∀l:List c,(∀x∈l,(f x).length<=g x)->(l.flatMap f).length<=(l.map g).sum
 |[],_=>aj
 |a::t,b=>by simp only[tZ,ck,dZ,fm];have e:=b a eV;have h:=yR f g t (fun x d=>b x (dM _ d));omega
def yS(l:List ax)(x:Bytes)(m:Nat):Nat:=dH l false (aG m)&&&ofN l x l
def kA(l:List ax)(x:Bytes)(m:Nat):Nat->Nat
 |0=>m
 |k+1=>yS l x (kA l x m k)
def Ir(l:List ax)(x:Bytes)(p q:Nat):Prop:=p∈aG (ofN l x l)/\q∈aG (ofN l x l)/\(dO l p).testBit q=true
def tK l ps t(e:t<64):(dH l false ps).testBit t=true↔∃p∈ps,(dO l p).testBit t=true:=by
 unfold dH;have:∀(ps:List Nat) (c:Nat),(ps.foldl (fun c p=>c|||dS (aG (dO l p))) c).testBit t=true↔c.testBit t=true∨∃p∈ps,(dO l p).testBit t=true:=by
  intro ps;induction ps with
  |nil=>intro c;simp
  |cons a ps ih=>
   intro c;rw[oA,ih,qz,dA,tC,cf];constructor;rintro((b|b)|⟨p,d,b⟩);exact .inl b;exact .inr ⟨a,eV,(iQ b).2⟩;exact .inr ⟨p,dM _ d,b⟩;rintro(b|⟨p,d,b⟩);exact .inl (.inl b);rcases bX.1 d with rfl|d
   exact .inl (.inr (rP e b));exact .inr ⟨p,d,b⟩
 rw[this];simp
def WO{l x m}(b:l.length<=60)(a:m<18446744073709551616):∀k,kA l x m k<18446744073709551616
 |0=>a
 |k+1=>vw (nt l x _ ad)
def Iu{l x m}(c:l.length<=60)(b:∀j,m.testBit j=true->j∈aG (ofN l x l)):∀k j,(kA l x m k).testBit j=true->j∈aG (ofN l x l)
 |0,j,a=>b j a
 |k+1,j,a=>by unfold kA yS at a;simp only[oh,cM]at a;have:=(oV l x j _ a.2).1;exact rP ad a.2
def Ch{l x m}(d:l.length<=60)(f:∀j,m.testBit j=true->j∈aG (ofN l x l)):∀k t,(kA l x m k).testBit t=true↔Orb.Im (Ir l x) (fun s=>m.testBit s=true) k t
 |0,t=>⟨fun a=>⟨t,a,rfl⟩,fun⟨s,a,e⟩=>by cases e;exact a⟩
 |k+1,t=>by
  have ih:=Ch d f k;constructor;intro a;have n:=Iu d f _ t a;unfold kA yS at a;simp only[oh,cM]at a;have⟨p,g,c⟩:=(tK l _ t (iQ n).1).1 a.1;have b:=(iQ g).2;obtain⟨s,h,i⟩:=(ih p).1 b;exact⟨s,h,Orb.wk_add.2 ⟨p,i,t,⟨Iu d f k p b,n,c⟩,rfl⟩⟩;rintro⟨s,h,i⟩;obtain⟨p,c,u,⟨g,o,q⟩,e⟩:=Orb.wk_add.1 i;cases e
  have b:=(ih p).2 ⟨s,h,c⟩;unfold kA yS;simp only[oh,cM];exact⟨(tK l _ _ (iQ o).1).2 ⟨p,rP (iQ g).1 b,q⟩,(iQ o).2⟩
def SF{l x m}(a:l.length<=60)(i:jq l x<=10)(e:m<18446744073709551616)(c:∀j,m.testBit j=true->j∈aG (ofN l x l)) k:∃q,q<Orb.lim (jq l x)/\kA l x m k=kA l x m q:=by
 obtain⟨q,f,g⟩:=Orb.early (E:=Ir l x) (V:=aG (ofN l x l.length)) rfl i (fun s u d=>⟨d.1,d.2.1⟩) _ c k;refine⟨q,f,Cf (WO a e k) (WO a e q) fun j _=> ?_⟩;have:=((Ch a c k j).Z (g j)).Z (Ch a c q j).zy;cases b:(kA l x m k).testBit j with
 |true=>exact(this.1 b).zy
 |false=>
  cases h:(kA l x m q).testBit j with
  |true=>rw[this.2 h]at b;cases b
  |false=>rfl
def fK(l:List ax)(x:Bytes)(s:St):Nat:=dH l s.1 (aG s.2)&&&ofN l x l
def SG{l x}(b:l.length<=60) s:∀j,(fK l x s).testBit j=true->j∈aG (ofN l x l):=by intro j a;unfold fK at a;simp only[oh,cM]at a;have:=(oV l x j _ a.2).1;exact rP ad a.2
def SH{l}(M:bK l=0)(w:l.length<=60)(S:qq l<=10):∃L:List St,L.length<=256/\∀s,tJ (true,0) (cD l (unionB (symsS l))) s->s∈L:=by
 have F:(unionB (symsS l)).Nodup:=by rw[zz];exact(vr _).imp fun f=>f.2
 have Q:∀x∈unionB (symsS l),1<=jq l x:=by intro x h;obtain⟨n,j,c,g⟩:=(rL M).1 (tA.1 h);obtain⟨p,o⟩:=qG.1 j;have N:=(aF.1 o).1;exact zy (rP ad (Cg o c g _ N))
 have V:=Io (l:=l) F;by_cases E:∃x∈unionB (symsS l),8<=jq l x
 ·obtain⟨b,W,K⟩:=E
  have⟨os,y⟩:=am ((unionB (symsS l)).filter fun x=>decide (x≠b));have P:(b::os).Nodup:=lS.2 ⟨fun f=>by rw[y,jJ]at f;simp at f,by rw[y];exact F.filter _⟩;have H:=Io (l:=l) P;simp only[dZ,fm]at H;have⟨d,G⟩:∃d:List St,d=os.flatMap fun x=>(qp l x).filter fun s=>decide (s≠(false,0)):=⟨_,rfl⟩;have v:d.length+1<=2^(10-jq l b):=by
   have i:d.length<=((os.map (jq l)).map fun n=>2^n-1).sum:=by
    rw[G,z6];refine yR _ _ _ fun x _=> ?_;have O:(false,0)∈qp l x:=dL.2 ⟨[],Sy _,rfl⟩;have:((qp l x).filter fun s=>decide (s≠(false,0)))<(qp l x).length:=List.length_filter_lt_length_iff_exists.2 ⟨_,O,aj⟩;rw[In]at this;show _<=2^jq l x-1
    omega
   have c:=Iq (os.map (jq l));have D:2^(os.map (jq l)).sum<=2^(10-jq l b):=rZ ad ad;omega
  have⟨n,j⟩:=am (jq l b);have T:n<=10:=ad;rw[<-j]at K v H;refine⟨(true,0)::(false,0)::(d++((true,0)::d).flatMap fun st=>(List.range (Orb.lim n)).map fun q=>(false,kA l b (fK l b st) q)),?_,?_⟩;have i:(((true,0)::d).flatMap fun st=>(List.range (Orb.lim n)).map fun q=>((false,kA l b (fK l b st) q):St)).length<=(d.length+1)*Orb.lim n:=by
   have:=yR (fun st=>(List.range (Orb.lim n)).map fun q=>(false,kA l b (fK l b st) q)) (fun _=>Orb.lim n) ((true,0)::d) (fun st _=>aj);have e:∀k:List St,(k.map fun _=>Orb.lim n).sum=k.length*Orb.lim n:=by
    intro k;induction k with
    |nil=>simp
    |cons a t ih=>simp only[dZ,fm,ih,ef,zZ];omega
   rw[e]at this;omega
  simp only[ef,ck];have c:(d+1)*Orb.lim n<=2^(10-n)*Orb.lim n:=Dv _ v;have D:n=8∨n=9∨n=10:=ad;rcases D with rfl|rfl|rfl
  have r:2^(10-8)=4:=aq;have u:Orb.lim 8=62:=aq;rw[r]at v c;rw[u]at i c⊢;omega;have r:2^(10-9)=2:=aq;have u:Orb.lim 9=126:=aq;rw[r]at v c;rw[u]at i c⊢;omega;have r:2^(10-10)=1:=aq;have u:Orb.lim 10=254:=aq;rw[r]at v c;rw[u]at i c⊢;omega
  ·have R:∀s,tJ (true,0) (cD l (unionB (symsS l))) s->s=(true,0)∨s=(false,0)∨s∈d∨∃st∈((true,0)::d:List St),∃k,s=(false,kA l b (fK l b st) k):=by
    intro s g;induction g with
    |first=>simp
    |next g A ih=>
     rename_i s t;obtain⟨x,h,e,B⟩:=Il w A;by_cases I:x=b;subst I;rcases ih with rfl|rfl|f|⟨st,z,k,rfl⟩
     exact .inr (.inr (.inr ⟨_,eV,0,e⟩));refine .inr (.inl ?_);rw[e];have:=qL;simp only[this,dH,List.foldl_nil];simp;exact .inr (.inr (.inr ⟨s,dM _ f,0,e⟩));exact .inr (.inr (.inr ⟨st,z,k+1,e⟩));by_cases C:t=(false,0);exact .inr (.inl C);refine .inr (.inr (.inl ?_));rw[G];refine sh.2 ⟨x,?_,jJ.2 ⟨B,by simpa using C⟩⟩;rw[y,jJ];exact⟨h,by simpa using I⟩
   intro s g;rcases R s g with rfl|rfl|f|⟨st,z,k,rfl⟩
   simp;simp;exact dM _ (dM _ (Do _ f));obtain⟨q,i,c⟩:=SF (m:=fK l b st) w ad (by unfold fK;exact vw (nt l b _ ad)) (SG w st) k;rw[c];refine dM _ (dM _ (KS _ (sh.2 ⟨st,z,dL.2 ⟨q,eT.2 (j▸i),rfl⟩⟩)))
 ·have J:∀n∈(unionB (symsS l)).map (jq l),1<=n/\n<=7:=by
   intro n j;obtain⟨x,h,rfl⟩:=dL.1 j;refine⟨Q x h,?_⟩;rcases kF (jq l x) 8 with f|f
   omega;exact absurd ⟨x,h,f⟩ E
  have o:=Ip _ 10 J ad ad;refine⟨(true,0)::(unionB (symsS l)).flatMap (qp l),?_,?_⟩;have i:=yR _ _ (unionB (symsS l)) (fun x _=>Dw (In l x));rw[z6]at o;have e:yQ 10=136:=aq;rw[e]at o;simp only[ef];have c:((unionB (symsS l)).map fun x=>2^jq l x).sum<=136:=o;omega
  ·intro s g
   cases g with
   |first=>simp
   |next g A=>
    obtain⟨x,h,_,B⟩:=Il w A;exact dM _ (sh.2 ⟨x,h,B⟩)
def Iv{l}(g:bK l=0)(j:l.length<=60)(h:qq l<=10) n(keys:List St)(o:List _) k(b:fR (true,0) 256 (cD l (unionB (symsS l))) n=some (keys,o))
 (i:keys[n]?=some k):eu 256 keys (cD l (unionB (symsS l)) k)≠none:=by
 intro hv;obtain⟨L,p,d⟩:=SH g j h;have c:=rK ad n _ b;have⟨big,e,q,f⟩:=Sx c.nodup c.most _ _ rfl hv;have:=vB big L e fun x m=>d x (by
  rcases f x m with a|a
  exact Ii ad n _ b x a
  ·exact .next (Ii ad n _ b k (aK i)) a)
 omega
def SI(l:List ax):(l.flatMap bQ)+2*(l.filter fun n=>decide (n.op=2)).length<=2*l:=by
 induction l with
 |nil=>simp
 |cons a t ih=>
  rw[tZ,ck,ef,tX];by_cases b:a.op=2;have:bQ a=[]:=by unfold bQ;rw[ap ad,ap ad]
  rw[this,au (by simpa using b)];simp only[gN,ef];omega;have:(bQ a).length<=2:=by unfold bQ;split<;>(try split)<;>simp
  rw[ap (by simpa using b)];omega
def SJ l:qq l=(l.filter fun n=>decide (n.op=2)):=by
 unfold qq;have:∀(l:List ax),(List.range l.length).filter (fun p=>(vC l p).isSome)=(List.range l.length).filter (fun p=>(l[p]?.map fun n=>decide (n.op=2)).getD false):=by
  intro l;congr 1
  funext p
  unfold vC;cases l[p]? with
  |none=>rfl
  |some n=>by_cases b:n.op=2<;>simp[b]
 rw[this];clear this;induction l with
 |nil=>rfl
 |cons a t ih=>
  rw[ef,List.range_succ_eq_map,tX,List.filter_map,tX];have e:(List.range t).filter ((fun p=>(((a::t)[p]?).map fun n=>decide (n.op=2)).getD false)∘Nat.succ)=(List.range t).filter (fun p=>(t[p]?.map fun n=>decide (n.op=2)).getD false):=by congr 1
  rw[e];by_cases b:a.op=2;simp[b,ih];simp[b,ih]
def Iw{l}(a:gB l=true):2*qq l<=l+1:=by
 unfold gB at a;rw[cM,cM,ke]at a;obtain⟨⟨_,d⟩,_⟩:=a;have b:=vB (List.range (l.length-1)) (l.flatMap bQ) zC (fun j c=>by
  have:=d j c;unfold dG at this;have f:(l.flatMap bQ).count j=1:=by simpa using this
  exact Db.1 ad)
 rw[wi]at b;have e:=SI l;rw[SJ];omega
def oX{l}(a:bK l=0):gB l=true:=by
 unfold bK at a;split at a;cases a
 split at a;cases a
 rename_i b;simpa using b
def SK{l}(a:bK l=0)(e:l.length<=20) n(keys:List St)(b:List _) k(d:fR (true,0) 256 (cD l (unionB (symsS l))) n=some (keys,b))
 (c:keys[n]?=some k):eu 256 keys (cD l (unionB (symsS l)) k)≠none:=
 Iv a ad (aQ (Iw (oX a))) n keys b k d c
section
open PRegex
def lQ(l:List ax):St->List Bytes->St
 |s,[]=>s
 |s,x::xs=>lQ l (false,fK l x s) xs
def Cl l:∀xs s x,lQ l s (xs++[x])=(false,fK l x (lQ l s xs))
 |[],s,x=>rfl
 |y::xs,s,x=>Cl l xs _ x
def yW{l}(d:l.length<=60) x s:mx l (false,fK l x s):=by refine⟨vw (nt l x _ ad),fun p a=> ?_⟩;simp only[fK,oh,cM]at a;obtain⟨_,nd,b,c,_⟩:=oV l x p _ a.2;exact⟨nd,b,c⟩
def vE{l} b ps t(g:t<64):(dH l b ps).testBit t=true↔(b=true/\(dt (trN l (l-1))).testBit t=true)∨∃p∈ps,(dO l p).testBit t=true:=by
 cases b with
 |false=>rw[tK l ps t g];simp
 |true=>
  have e:dH l true ps=dS (aG (dt (trN l (l.length-1))))|||dH l false ps:=by
   unfold dH;simp only[ix,iW,iy];generalize dS (aG (dt (trN l (l-1))))=c;have:∀(ps:List Nat) (c d:Nat),ps.foldl (fun c p=>c|||dS (aG (dO l p))) (c|||d)=c|||ps.foldl (fun c p=>c|||dS (aG (dO l p))) d:=by
    intro ps;induction ps with
    |nil=>intro c d;rfl
    |cons a ps ih=>intro c d;rw[oA,oA,Nat.or_assoc,ih]
   have f:=this ps c 0;rwa[Nat.or_zero]at f
  rw[e,qz,dA,tK l ps t g,tC,cf];constructor;rintro(f|f);exact .inl ⟨rfl,(iQ f).2⟩;exact .inr f;rintro(⟨_,f⟩|f);exact .inl (rP g f);exact .inr f
def tM{m t}(c:m<18446744073709551616)(b:m.testBit t=true):t<64:=by
 rcases kF t 64 with a|a
 exact a;rw[C1 (eU c (rZ ad a:2^64<=2^t))]at b;cases b
def vF{l}(hF:eG l)(b:l.length<=60){s}(f:mx l s){p}(a:(dH l s.1 (aG s.2)).testBit p=true):∃n,l[p]?=some n/\n.op=2:=by
 rcases(vE _ _ p (tM (qh l _ _) a)).1 a with⟨_,a⟩|⟨q,e,a⟩
 exact(vg hF b).2 p a;obtain⟨nd,c,d⟩:=f.2 q (iQ e).2;exact(yr hF b c d).2 p a
def vG{l x s}(hF:eG l)(e:l.length<=60)(f:mx l s) p:(fK l x s).testBit p=true↔(dH l s.1 (aG s.2)).testBit p=true/\symAt l p=x:=by unfold fK;simp only[oh,cM];constructor;rintro⟨b,c⟩;obtain⟨_,nd,a,_,d⟩:=oV l x p _ c;exact⟨b,by rw[sI a,d]⟩;rintro⟨b,c⟩;obtain⟨nd,a,d⟩:=vF hF e f b;exact⟨b,Cg a d (by rw[<-sI a];exact c) _ (aF.1 a).1⟩
def SO{l x s}(hF:eG l)(b:l.length<=60)(f:mx l s) q:(dH l false (aG (fK l x s))).testBit q=true↔∃p,(dH l s.1 (aG s.2)).testBit p=true/\symAt l p=x/\(trN l (l-1)).zr p q=true:=by
 constructor;intro h;obtain⟨p,j,a⟩:=(tK l _ q (tM (qh l _ _) h)).1 h;obtain⟨c,g⟩:=(vG hF b f p).1 (iQ j).2;obtain⟨nd,d,e⟩:=vF hF b f c;exact⟨p,c,g,by rw[<-uH hF d e];exact a⟩;rintro⟨p,a,c,g⟩;obtain⟨nd,d,e⟩:=vF hF b f a;have i:(dO l p).testBit q=true:=by rw[uH hF d e];exact g
 have m:=tM (yr hF b d e).1 i;exact(tK l _ q m).2 ⟨p,rP (tM (qh l _ _) a) ((vG hF b f p).2 ⟨a,c⟩),i⟩
def IE{l}(hF:eG l)(a:l.length<=60) q:∀xs s,mx l s->((dH l (lQ l s xs).1 (aG (lQ l s xs).2)).testBit q=true↔pF (symAt l) (trN l (l-1)) (fun p=>(dH l s.1 (aG s.2)).testBit p=true) xs q)
 |[],s,_=>Iff.rfl
 |x::xs,s,b=>by
  unfold lQ pF;rw[IE hF a q xs _ (yW a x s)];have:(fun p=>(dH l (false,fK l x s).1 (aG (false,fK l x s).2)).testBit p=true)=fun q=>∃p,(dH l s.1 (aG s.2)).testBit p=true/\symAt l p=x/\(trN l (l.length-1)).zr p q=true:=by
   funext q
   exact propext (SO hF a b q)
  rw[this]
def IF{l}(b:l.length<=60):∀xs s,mx l s->mx l (lQ l s xs)
 |[],s,a=>a
 |x::xs,s,a=>IF b xs _ (yW b x s)
def vH l p:∀n,(fj l n).testBit p=true↔p<n/\(∃nd,l[p]?=some nd/\nd.op=2)/\(eH (trN l (l-1))).testBit p=true
 |0=>by simp[fj]
 |n+1=>by
  unfold fj;have ih:=vH l p n;cases h:l[n]? with
  |none=>
   simp only;rw[ih];constructor;rintro⟨c,a⟩;exact⟨ad,a⟩;rintro⟨c,⟨nd,a,d⟩,f⟩;refine⟨?_,⟨nd,a,d⟩,f⟩;rcases kF p n with b|b
   exact b;obtain rfl:p=n:=ad;rw[h]at a;cases a
  |some nd=>
   simp only;split;rename_i g;rw[qz,dA,tC,cf,ih];constructor;rintro(⟨c,a⟩|b);exact⟨ad,a⟩;simp at b;subst b;exact⟨ad,⟨nd,h,g.1⟩,g.2⟩;rintro⟨c,a⟩;by_cases e:p=n;exact .inr (by simp[e]);exact .inl ⟨ad,a⟩;rename_i g;rw[ih];constructor;rintro⟨c,a⟩;exact⟨ad,a⟩;rintro⟨c,⟨i,a,d⟩,f⟩;refine⟨?_,⟨i,a,d⟩,f⟩;rcases kF p n with b|b
   exact b;obtain rfl:p=n:=ad;rw[h]at a;cases a;exact absurd ⟨d,f⟩ g
def SP{l}(hF:eG l)(d:l.length<=60) xs:finM l (lQ l (true,0) xs)=true↔MatchS l xs:=by
 have y:=hF.ne;have A:0<l.length:=by cases l with|nil=>exact absurd rfl y|cons a b=>simp
 rcases zA xs with rfl|⟨ys,x,rfl⟩
 unfold MatchS;rw[MW_nil];simp[lQ,finM,factN,ni];simp only[zB];unfold MatchS;rw[Ew _ _ (uI hF ad).1 _ aj,Cl];have r:=IF d ys _ (yK l);have o:=fun p=>IE hF d p ys _ (yK l);have v:(fun p=>(dH l (true,(0:Nat)).1 (aG (true,(0:Nat)).2)).testBit p=true)=fun q=>(trN l (l.length-1)).zq q=true:=by
  funext q
  apply propext;have n:=qL;constructor;intro c;rcases(vE true _ q (tM (qh l _ _) c)).1 c with⟨_,c⟩|⟨p,s,_⟩
  rwa[lr]at c;simp only[n]at s;cases s;intro c;rw[<-lr]at c;exact(vE true _ q (tM (vg hF d).1 c)).2 (.inl ⟨rfl,c⟩)
 rw[v]at o;have w:finM l (false,fK l x (lQ l (true,0) ys))=true↔∃p,(fK l x (lQ l (true,0) ys)).testBit p=true/\(fj l l.length).testBit p=true:=by
  unfold finM;simp only[ud,ou,zR,dF,ne_eq];constructor;intro c;apply dU;intro z;apply c;apply K6;intro j;rw[oh,KU];cases u:(fK l x (lQ l (true,0) ys)).testBit j with
  |false=>rfl
  |true=>
   cases n:(fj l l).testBit j with
   |false=>rfl
   |true=>exact absurd ⟨j,u,n⟩ z
  rintro⟨p,e,f⟩ c;have:=gA (fun m=>Nat.testBit m p) c;simp[e,f]at this
 rw[w];simp only[List.dropLast_concat,List.getLast?_append,List.getLast?_singleton,Option.some_or];constructor;rintro⟨p,e,f⟩;obtain⟨i,g⟩:=(vG hF d r p).1 e;obtain⟨_,_,h⟩:=(vH l p _).1 f;exact⟨p,(o p).1 i,by rw[g],by rw[<-lu];exact h⟩;rintro⟨p,e,f,i⟩;have g:=(o p).2 e;have⟨nd,h,t⟩:=vF hF d r g;exact⟨p,(vG hF d r p).2 ⟨g,by injection f⟩,(vH l p _).2 ⟨(aF.1 h).1,⟨nd,h,t⟩,by rw[lu];exact i⟩⟩
end
section
open PRegex
end
def II{ts}:bY ts=0↔(¬64<ts.length)/\(¬ts.length=0)/\(¬ts.any gR=true)/\(¬cz (ts.map aB.name)=true)/\(¬ts.any (fun t=>eo t.zx)=true)/\
 (¬ts.any (fun t=>t.text&&(!t.E.isEmpty|| !t.key.isEmpty))=true)/\(¬eW ts≠0)/\(¬ts.any (fun t=>(symsS t.E).any fun n=>(placeS ts n).isNone)=true)/\
 (¬ts.any (fun t=>cz ((kidsS ts t).map (labelAt ts)))=true)/\(¬ts.any (fun t=> !t.key.isEmpty&& !(kidsS ts t).any fun k=>(gS ts k).contains t.key)=true):=by
 constructor;intro a;unfold bY at a;split at a;omega;split at a;omega;split at a;omega;split at a;omega;split at a;omega;split at a;omega;split at a;rename_i b;omega;split at a;omega;split at a;omega;split at a;omega;rename_i c e f g h i b j l d;exact⟨c,e,f,g,h,i,b,j,l,d⟩;rintro⟨c,e,f,g,h,i,b,j,l,d⟩;unfold bY;rw[ap c,ap e,ap f,ap g,ap h,ap i,ap b,ap j,ap l,ap d]
def IJ:∀{ts},eW ts=0↔∀t∈ts,t.text=false->bK t.E=0
 |[]=>by simp[eW]
 |t::ts=>by
  unfold eW;by_cases a:t.text=false/\bK t.E≠0;rw[au a];exact⟨fun e=>absurd e a.2,fun H=>H t aj a.1⟩;rw[ap a,IJ];constructor;intro H u b;rcases bX.1 b with rfl|b
  exact fun e=>dU fun c=>a ⟨e,c⟩;exact H u b;exact fun H u b=>H u (by simp[b])
def kB(w:World)(a:Nat)(v:Value)(l:List ax):Prop:=
 ∃n keys c e nv d b,fR (true,0) 256 (cD l (unionB (symsS l))) n=some (keys,c)/\keys=n/\v=.agg #[e,nv,d]/\bN w a e (unionB (symsS l))/\w.ownsRow a 41 1 nv b.length b/\b=c.length/\
  (∀(j:Nat) v r,b[j]?=some v->c[j]?=some r->bW w a v r)/\w.ownsRow a 4 1 d keys (keys.map fun s=>.bool (finM l s))
def tO(l:List ax):Prop:=∃n keys a k,fR (true,0) 256 (cD l (unionB (symsS l))) n=some (keys,a)/\keys[n]?=some k/\eu 256 keys (cD l (unionB (symsS l)) k)=none
def yX{w w':World}{b e size n:Nat}{v xs row}(a:w.ownsRow b e size v n xs)(i:w.grownBy w' row)(j:∀q,row=some q->(∃f c,w.heap[q]?=some (.map f c))∨q<b):w'.ownsRow b e size v n xs:=
 aX a (fun g d=>i.J g (aV a d).2 (fun e=>by
  rcases j g e.zy with⟨f,c,h⟩|h
  exact mv a h d;have:=(aV a d).1;omega))
def kB.zu{w w':World}{d:Nat}{v:Value}{l:List ax}{row:Option Nat}(g:kB w d v l)(a:w.grownBy w' row)(b:∀q,row=some q->(∃e c,w.heap[q]?=some (.map e c))∨q<d):kB w' d v l:=by obtain⟨n,keys,y,z,nv,f,A,h,i,m,o,p,s,t,u⟩:=g;exact⟨n,keys,y,z,nv,f,A,h,i,m,yX o a b,yX p a b,s,fun j v r hv x=>yX (t j v r hv x) a b,yX u a b⟩
def kB.low{w:World}{b B':Nat}{v:Value}{l:List ax}(d:kB w b v l)(a:B'<=b):kB w B' v l:=by obtain⟨n,keys,s,t,nv,c,u,e,f,g,h,i,m,o,p⟩:=d;exact⟨n,keys,s,t,nv,c,u,e,f,g,eR h a,eR i a,m,fun j v r hv q=>eR (o j v r hv q) a,eR p a⟩
def jX(w:World)(b c:Nat)(l:List ai):Prop:=
 ∃n f,bV w prog 3 c n f/\n<=((List.range l).filter (fun a=>(f (.int .i64 (a:Nat))).isSome))/\∀a v,f (.int .i64 (a:Nat))=some v->∃x,l[a]?=some x/\kB w b v x.t.E
def jX.zu{w w':World}{b d:Nat}{l:List ai}{row:Option Nat}(j:jX w b d l)(g:w.grownBy w' row)(h:∀q,row=some q->((∃i c,w.heap[q]?=some (.map i c))∨q<b)/\q≠d):jX w' b d l:=by obtain⟨n,f,m,o,p⟩:=j;exact⟨n,f,m.zw g (fun e=>(h _ e.zy).2 rfl),o,fun a v hv=>by obtain⟨x,s,r⟩:=p a v hv;exact⟨x,s,r.zu g (fun q e=>(h q e).1)⟩⟩
def Cm(b:World)(c:Nat->Prop)(d f a g:Nat)(l:List ai)(o:Option Addr)(cap:Nat)(x:ai)(w:World)(e:Ending)(w':World):Prop:=
 (eQ b c w' d f a g o cap l/\jX w' b a l/\w.grownBy w' a)/\
 ((∃v,e=.returned (.tuple #[v,.int .i64 0])/\kB w' b v x.t.E)∨(tO x.t.E/\e=.returned (.tuple #[.agg dx,.int .i64 17])))
def IK l o cap W0(b2:Gl W0)(P:cw W0 o cap l)(d:l.length<=64) A K M1 M2 M3(b0:A M2) k x(i:l[k]?=some x)(b1:bK x.t.E=0)(b8:x.t.E.length<=60) w
 (f:eQ W0 A w K M1 M2 M3 o cap l) (d:jX w W0 M2 l):
 dB 46 #[K,.int .i64 (k:Nat)] w (Cm W0 A K M1 M2 M3 l o cap x w):=by
 have b7:=(aF.1 i).1;have g:(k:Int)<l:=ad;obtain⟨a7,f2,g,an,h⟩:=d;have j:=f.blk;have O:=aI j;have R:keyOf prog 3 (.int .i64 k)=some (.int .i64 k):=wT ei (oI ad);have m:∀w,(zeroValue 108).run prog w=.ok (.agg dx) w:=fun _=>az;have⟨w1,B,d,r⟩:=dy w (.cells dx 108);have u:=fH B;have N:=g.zw (bL d none) aj;have al:=N.look_ok (iY ei) underlying73 (m w1) eY R;have bo:=ak 2 ((d.J _ O).Z j);have⟨H,Z⟩:=aC f f;have av:Hid (jX w W0 M2 l):=ah ⟨a7,f2,g,an,h⟩;have⟨G,J,ab,ba,bb,aa⟩:=iL d r i h an g;clear m f d r i h an g;cases j:f2 (.int .i64 (k:Nat))with
 |some v=>
  have⟨y,d,a5⟩:=ba.o k v j;rw[ab.o]at d;cases d
  obtain⟨n,keys,Y,ci,nv,bZ,g,d1,d2,rfl,d4,d5,d6,d7,d8⟩:=a5;obtain⟨s,r,rfl⟩:=bs d4;obtain⟨no,m,rfl⟩:=bs d5;obtain⟨i,h,rfl⟩:=bs d8;rw[j]at al;have S:Hid (kB w W0 _ x.t.E):=ah ⟨n,keys,Y,_,_,_,g,d1,d2,rfl,d4,d5,d6,d7,d8⟩;have⟨t,C,d,F⟩:=dy w1 (.cells #[.slice s (unionB (symsS x.t.E)) r,.slice no g m,.slice i keys h] 108);rw[u]at F;have u:=(d.J _ (aI J.out)).Z J.out;have⟨ae,a1,af⟩:=dP F;have⟨aw,a0,a2⟩:=dP u;have f0:=aJ u 0;have f1:=aJ u 1;have f2:=aJ u 2;have⟨E,M⟩:=aC (aE G.out d) u;clear j d1 d2 d4 d5 d6 d7 d8 R N d F u
  go_in
  go_wp2_with(first|(rw[<-B];clear B)|(rw[<-C];clear C)|fail)
  have Q:(((t.setCell _ (.slice s (unionB (symsS x.t.E)) r)).setCell ⟨_,1,none⟩ (.slice no g m)).setCell ⟨_,2,none⟩ (.slice i keys h)).heap[w.heap.size]?=some (.cells #[.slice s (unionB (symsS x.t.E)) r,.slice no g m,.slice i keys h] 108):=
   a8 _ _ 2 _ (a8 _ _ 1 _ (a8 _ _ 0 _ M.out))
  have I:aR w (((t.setCell w (.slice s (unionB (symsS x.t.E)) r)).setCell ⟨w,1,none⟩ (.slice no g m)).setCell ⟨w,2,none⟩ (.slice i keys h)):=((E.out.setCell aj _).setCell aj _).setCell aj _;have⟨X,F,u⟩:=dP Q;have a6:Cm W0 A K M1 M2 M3 l o cap x w (.returned (.tuple #[.agg #[.slice s (unionB (symsS x.t.E)).length r,.slice no g.length m,.slice i keys.length h],.int .i64 0])) _:=
   ⟨⟨Z.o.zw (bL I none) (fun q e=>by cases e),av.o.zu (bL I none) (fun q e=>by cases e),bL I _⟩,.inl ⟨_,rfl,S.o.zu (bL I none) (fun q e=>by cases e)⟩⟩
  (try simp only[Exit.inBlock,Exit.then])
  exact cQ (by simp[results,go_sem,X,F,u]) rfl a6
 |none=>
  rw[j]at al;have bz:=ah j;have S:=P.O (H.o.base.Z (G.out.zz H.o.base.size));obtain⟨bc,bq,rfl,b5,cl,co,cp,cq,cs,V⟩:=S.at ab.o;have T:=ak 0 ((G.out.J _ O).Z H.o.blk);have⟨t,C,d⟩:=fQ w1 (.cells dx 108);have⟨E,M⟩:=aC (aE G.out d) ((d.J _ (aI J.out)).Z J.out);have W:=(d.cell (p:=⟨K,0,none⟩) (by show K<_;omega)).Z T;have bt:=(d.cell b5).Z V;have b4:=(P.2 x (aK ab.o)).2;have G:=H.o.base.Z (E.out.zz H.o.base.size);rw[C]at W bt;have J:=Sp _ _ _ t (b2.O G) b1 b8 (b4.O G);have G:=ah J;clear j J cl co cp cq cs V d S N T
  go_in
  go_wp2_with(first|(rw[<-B];clear B)|fail)
  rw[<-C];apply G.o.zz;rintro e B ⟨V,d⟩;clear G W bt;have N:=ah (E.out.Z (V.zz E.out.size));have T:=(V.J _ (aI M.out)).Z M.out;have⟨j,C⟩:=aC (Z.o.zw (bL N.out none) (fun q e=>by cases e)) (av.o.zu (bL N.out none) (fun q e=>by cases e));rcases d with⟨n,keys,Y,ci,nv,bZ,g,d1,d2,rfl,d4,d5,d6,d7,d8⟩|⟨n,keys,Y,cg,d1,d2,d3,rfl⟩
  ·obtain⟨s,r,rfl⟩:=bs d4
   obtain⟨no,m,rfl⟩:=bs d5;obtain⟨i,h,rfl⟩:=bs d8;have bw:Hid (kB B t _ x.t.E):=ah ⟨n,keys,Y,_,_,_,g,d1,d2,rfl,d4,d5,d6,d7,d8⟩;have⟨S,J,G,P⟩:=dy B (.cells #[.slice s (unionB (symsS x.t.E)) r,.slice no g m,.slice i keys h] 108);have j:=N.out.Z (G.zz N.out.size);have W:=aa.o.zw (bL j.drew none) aj;have C:=(G.J _ (aI T)).Z T;have⟨ae,a1,af⟩:=dP P;have cd:=ak 2 ((j.J _ O).Z H.o.blk);have d:=aa.o.lt;have cc:w<=t.heap.size/\t<=B.heap.size/\w<t.heap.size:=⟨E.out.size,V.size,aI M.out⟩;have bu:Hid (∀d,S.drew.grownBy d (some M2)->(d.cell? ⟨B.heap.size,0,none⟩=some (.slice s (unionB (symsS x.t.E)).length r)/\d.cell? ⟨B.heap.size,1,none⟩=some (.slice no g.length m)/\d.cell? ⟨B.heap.size,2,none⟩=some (.slice i keys.length h))/\
    (d.cell? ⟨w.heap.size,0,none⟩=some (.slice none 0 0)/\d.cell? ⟨w.heap.size,1,none⟩=some (.slice none 0 0)/\d.cell? ⟨w.heap.size,2,none⟩=some (.slice none 0 0))/\(d.frozen? ⟨w.heap.size,0,none⟩=false/\d.frozen? ⟨w.heap.size,1,none⟩=false/\d.frozen? ⟨w.heap.size,2,none⟩=false)/\d.heap[w.heap.size]?=some (.cells dx 108)):=ah (fun d M=>by
    have t:=(M.J _ (aI P) aO).Z P;have E:=(M.J _ (aI C) aO).Z C;exact⟨⟨ak 0 t,ak 1 t,ak 2 t⟩,⟨ak 0 E,ak 1 E,ak 2 E⟩,⟨aJ E 0,aJ E 1,aJ E 2⟩,E⟩)
   have bA:=ah (Bl (fun a=>(f2 (.int .i64 (a:Nat))).isSome) (fun a=>(il f2 (.int .i64 (k:Nat)) (.agg #[.slice s (unionB (symsS x.t.E)).length r,.slice no g.length m,.slice i keys.length h]) (.int .i64 (a:Nat))).isSome) k (by simp only[bz.o];rfl) (fun a=>by
    by_cases e:a=k;subst e;simp[kt];have a3:(Lit.int .i64 (a:Nat))≠ .int .i64 (k:Nat):=fun O=>by injection O with _ O;omega
    simp[mj f2 _ a3,e]) l.length)
   have bl:=Bm (fun a=>(f2 (.int .i64 a)).isSome) l;have b9:a7<maxLen:=by have:=bb.o;unfold maxLen;omega
   have⟨ao,a9⟩:=aC j G;clear V G P j C T d1 d2 d4 d5 d6 d7 d8 bl bo al;go_wp2_with(first|(rw[<-J];clear J)|fail)
   go_still_tail 6,az
   change wpList _ _ _ _ _ (World.drew _);go_wp2_with(first
    |(at_mapUpdate;go_must (refine tf W rfl _ _ _ 73 rfl 108 (iY ei) underlying73 rfl b9 _ _ _ rfl rfl eY R ?_);intro d M t;obtain⟨⟨cu,cv,cx⟩,⟨aw,a0,a2⟩,⟨f0,f1,be⟩,E⟩:=bu.o d t;have bE:=ah M;have bB:=ah t;have bF:=ah E;clear M t E W ae a1 af cd)
    |fail)
   obtain⟨D,ag⟩:=am (Value.agg #[.slice s (unionB (symsS x.t.E)) r,.slice no g m,.slice i keys h]);have Q:(((d.setCell _ (.slice s (unionB (symsS x.t.E)) r)).setCell ⟨_,1,none⟩ (.slice no g m)).setCell ⟨_,2,none⟩ (.slice i keys h)).heap[w.heap.size]?=some (.cells #[.slice s (unionB (symsS x.t.E)) r,.slice no g m,.slice i keys h] 108):=
    a8 _ _ 2 _ (a8 _ _ 1 _ (a8 _ _ 0 _ bF.out))
   have⟨M,R⟩:=am ((((d.setCell w (.slice s (unionB (symsS x.t.E)) r)).setCell ⟨w,1,none⟩ (.slice no g m)).setCell ⟨w,2,none⟩ (.slice i keys h)));have a4:∀b,b≠w.heap.size->M.heap[b]?=d.heap[b]?:=fun b E=>by rw[R,aU _ _ _ _ _ E,aU _ _ _ _ _ E,aU _ _ _ _ _ E]
   have W:d.grownBy M (some w.heap.size):=⟨by rw[R];rfl,by rw[R];rfl,by rw[R];rfl,by rw[R];simp only[eF];simp,fun b _ E=>a4 b (fun e=>E (by rw[e]))⟩;have t:=bB.o;have j:=ao.o;have d:w.grownBy M (some M2):=⟨W.os.Z (t.os.Z j.os),W.tape.Z (t.tape.Z j.tape),W.output.Z (t.output.Z j.output),aW j.size (aW t.size W.size),fun b E cb=>(a4 b ad).Z ((t.J b (by have:=j.size;exact eU E this) cb).Z (j.J b E))⟩;have f:=Z.o;have E:=bE.o;rw[<-ag]at E;have bg:bV M prog 3 M2 (a7+1) (il f2 (.int .i64 k) D):=E.of_block (a4 M2 ad);have b3:=bV.J (aa.o.zw (bL N.out none) aj);have bi:=aa.o.J;have E:=bw.o;rw[<-ag]at E;have bf:kB M W0.heap.size D x.t.E:=by have F:=E.zu (bL a9.o.drew none) (fun q e=>by cases e);have u:=F.zu t (fun q e=>.inl (by cases e;obtain⟨bd,c,t⟩:=b3;exact⟨bd,c,(a9.o.J _ (aI t)).Z t⟩));have E:=u.zu W (fun q e=>.inr (by cases e;omega));exact E.low (aW H.o.base.size cc.1)
   have W:=bA.o;rw[au b7,<-ag]at W;have bl:=Bm (fun a=>(il f2 (.int .i64 k) D (.int .i64 a)).isSome) l;have an:=bb.o;have W:K≠M2:=fun e=>by obtain⟨bd,c,t⟩:=bi;have:=H.o.blk;rw[e,t]at this;cases this
   have t:eQ W0 A M K M1 M2 M3 (some ⟨bc,bq,none⟩) cap l:=by obtain⟨ch,f3,W,ca,b6⟩:=f.inside;refine⟨f.base.zu d f.base.size (fun q e=>by cases e;exact f.fresh.2.2.1),f.fresh,(d.J K (aI f.blk) (fun e=>by cases e;omega)).Z f.blk,f.places.zw d (fun e=>by cases e;exact f.apart.2.2.2 rfl),⟨_,_,bg,ad⟩,⟨ch,f3,W.zw d (fun e=>by cases e;exact f.apart.2.2.1 rfl),ca,fun a v hv=> ?_⟩,f.apart⟩;obtain⟨Mk,z,O,f,F,u,E⟩:=b6 a v hv;exact⟨Mk,z,O,f,F,u,E.zw d (fun e=>by cases e;exact u b0)⟩
   have E:jX M W0.heap.size M2 l:=by
    refine⟨_,_,bg,ad,fun a v hv=> ?_⟩;by_cases e:a=k;subst e;rw[kt]at hv;cases hv
    exact⟨x,ab.o,bf⟩;have a3:(Lit.int .i64 (a:Nat))≠ .int .i64 (k:Nat):=fun O=>by injection O with _ O;omega
    rw[mj _ _ a3]at hv;have⟨z,f,a5⟩:=ba.o a v hv;exact⟨z,f,a5.zu d (fun q e=>.inl (by cases e;exact bi))⟩
   have a6:Cm W0 A K M1 M2 M3 l (some ⟨bc,bq,none⟩) cap x w (.returned (.tuple #[.agg #[.slice s (unionB (symsS x.t.E)).length r,.slice no g.length m,.slice i keys.length h],.int .i64 0])) M:=⟨⟨t,E,d⟩,.inl ⟨D,by rw[ag],bf⟩⟩;rw[<-R]at Q⊢;have⟨X,F,u⟩:=dP Q;exact cQ (by simp[results,go_sem,X,F,u]) rfl a6
  ·have⟨S,J⟩:=am (B.alloc (.cells dx 108))
   have G:aR B S:=by rw[J];exact aP
   have P:S.heap[B.heap.size]?=some (.cells dx 108):=by rw[J];exact aN B _
   have j:=N.out.Z (G.zz N.out.size);have C:=(G.J _ (aI T)).Z T;have⟨ae,a1,af⟩:=dP P;have⟨aw,a0,a2⟩:=dP C;have f0:=aJ C 0;have f1:=aJ C 1;have be:=aJ C 2;have⟨ao,g,d⟩:=bm j C J;have f:Hid (tO x.t.E):=ah ⟨n,keys,Y,cg,d1,d2,d3⟩;rw[J]at ae a1 af aw a0 a2 f0 f1 be;clear V G P j C T d1 d2 d3 bo al J;go_wp2_with fail
   rw[<-d.o];have Q:(((S.setCell _ ()).setCell ⟨_,1,none⟩ ()).setCell ⟨_,2,none⟩ ()).heap[w.heap.size]?=some (.cells dx 108):=
    a8 _ _ 2 _ (a8 _ _ 1 _ (a8 _ _ 0 _ g.out))
   have I:aR w (((S.setCell w ()).setCell ⟨w,1,none⟩ ()).setCell ⟨w,2,none⟩ ()):=((ao.o.setCell aj _).setCell aj _).setCell aj _;have⟨X,F,u⟩:=dP Q;exact cQ (by simp[results,go_sem,X,F,u]) rfl
    ⟨⟨Z.o.zw (bL I none) (fun q e=>by cases e),av.o.zu (bL I none) (fun q e=>by cases e),bL I _⟩,.inr ⟨f.o,rfl⟩⟩
def yY{w:World}{b e size n:Nat}{v xs}(a:w.ownsRow b e size v n xs)(m:0<n):∃g c,v=.slice (some ⟨g,0,none⟩) n c/\b<=g/\g<w/\∀j u,j<n*size->xs[j]?=some u->gC w g j u:=by
 rcases a.2 with⟨i,l⟩|⟨g,cap,h,hv,_⟩
 omega;subst hv;have:=aV a (g:=g) rfl;exact⟨g,cap,rfl,this.1,this.2,fun j u d f=>(a.cellAt j d).Z f⟩
def ev(l:List ax)(keys:List St)(rows:List (List Nat)):Prop:=fR (true,0) 256 (cD l (unionB (symsS l))) keys=(keys,rows)
def rQ(l:List ax)(keys:List St)(p:Nat)(xs:List Bytes):Prop:=keys[p]?=(lQ l (true,0) xs)
section
variable{l:List ax} {keys:List St} {rows:List (List Nat)}
def ev.ok(a:ev l keys rows):GW (true,0) 256 (cD l (unionB (symsS l))) keys.length (keys,rows):=rK ad _ _ a
def ev.start(a:ev l keys rows):rQ l keys 0 []:=a.ok.first
def ev.row(d:ev l keys rows){p:Nat}(h:p<keys.length):∃row,rows[p]?=some row/\row.length=(unionB (symsS l)).length/\∀q∈row,q<keys.length:=by have a:=d.ok;have g:=a.len;have⟨row,c⟩:=df rows p (by simp only at g;omega);have⟨e,f⟩:=a.at_ p _ row (cV h) c;refine⟨row,c,by rw[e];simp[cD],fun q i=> ?_⟩;obtain⟨j,b⟩:=mU i;have m:=(aF.1 b).1;have:=f j q _ b (cV ad);exact(aF.1 this).1
def ev.step(a:ev l keys rows){p:Nat}{xs:List Bytes}(c:rQ l keys p xs){j:Nat}{x:Bytes}(f:(unionB (symsS l))[j]?=some x){row:List Nat}{q:Nat}(e:rows[p]?=some row)(d:row[j]?=some q):rQ l keys q (xs++[x]):=by obtain⟨g,b⟩:=a.ok.at_ p _ row c e;unfold rQ;rw[Cl];exact b j q _ d (by simp[cD,f,fK])
def rQ.lt{p:Nat}{xs:List Bytes}(a:rQ l keys p xs):p<keys.length:=(aF.1 a).1
end
def Cn{l}(a:bK l=0)(b:l.length<=20):qq l<=10:=aQ (Iw (oX a))
def Co{l}(a:bK l=0)(f:l.length<=60)(e:qq l<=10):¬tO l:=by rintro⟨n,keys,rows,k,b,c,d⟩;exact absurd d (Iv a f e n keys rows k b c)
structure UX(x:ai):Prop where
 ok:bK x.t.E=0
 len:x.t.E.length<=60
 narrow:¬tO x.t.E
def kD(b:World)(c:Nat->Prop)(d e a f:Nat)(o:Option Addr)(cap:Nat)(l:List ai)(w:World)(wr:World):Prop:=eQ b c wr d e a f o cap l/\jX wr b a l/\w.grownBy wr a
def kD.O{i w wr j:World}{c:Nat->Prop}{d f g h:Nat}{o:Option Addr}{cap:Nat}{l:List ai}(a:kD i c d f g h o cap l w wr)(b:Below wr.heap.size wr j):kD i c d f g h o cap l w j:=
 ⟨a.1.zw (bL b none) (fun q e=>by cases e),a.2.1.zu (bL b none) (fun q e=>by cases e),a.2.2.Z (bL b _)⟩
def UY(f:World)(a:Nat->Prop)(b c d e:Nat)(o:Option Addr)(cap:Nat)(l:List ai)(w:World)(g:Value)(wr:World):Prop:=∃k,g=.int .i64 (k:Nat)/\k<=l/\kD f a b c d e o cap l w wr
def JL l o cap W0(u:Gl W0)(d:cw W0 o cap l)(y:l.length<=64) A K M1 M2 M3(t:A M2)(hF:∀x∈l,x.t.text=false->UX x) w
 (a:eQ W0 A w K M1 M2 M3 o cap l) (f:jX w W0 M2 l):
 de 22 #[K] w (0:Int) fun w'=>kD W0 A K M1 M2 M3 o cap l w w':=by
 have h:=ak 0 a.blk;have g:kD W0 A K M1 M2 M3 o cap l w w:=⟨a,f,bL (aA _ w) _⟩;have⟨c,s,j⟩:=bm g hF d;clear a f g hF d
 go_in
 go_wp2
 go_loopw [13] (fun a wr=>UY W0 A K M1 M2 M3 o cap l w a wr) (fun a _=>l-(intOf a).toNat)
 case atStart=>exact⟨0,rfl,aH _,c.o⟩
 case round=>
 clear c h;obtain⟨k,rfl,a,c⟩:=hrel;have q:(k:Int)<l∨¬((k:Int)<l):=ad;by_cases g:k<l
 ·have a:=aL k
  have a:=bk g;clear q;have⟨x,f⟩:=aT g;have⟨b,z,a,d,h,i,m,p,r,B⟩:=(j.o.O c.1.base).at f;subst a;have m:=ah f;have⟨B,a,h,p⟩:=dy wr (.cells (typeRow x) 55);have i:=ak 4 p;simp[typeRow]at i;have d:=ah (c.O h);clear f c h p;unfold typeRow at a;cases h:x.t.text with
  |true=>
   rw[h]at i a r;go_wp2_with(first|(rw[<-a];clear a)|fail)
   go_roundw
   case rel=>exact⟨_,aD,g,d.o⟩
   case measure=>exact aM
  |false=>
   have f:=s.o x (aK m.o) h;have p:=IK l _ cap W0 u j.o y A K M1 M2 M3 t k x m.o f.ok f.len B d.o.1 d.o.2.1;have⟨j,s⟩:=aC p f.narrow;rw[h]at i a r;clear p f;go_wp2_with(first|(rw[<-a];clear a)|fail)
   apply j.o.zz;rintro e m ⟨⟨f,h,i⟩,a⟩;clear j;rcases a with⟨v,rfl,j⟩|⟨t,rfl⟩
   ·obtain⟨n,keys,p,r,nv,a,C,d1,d2,rfl,d4,d5,d6,d7,d8⟩:=j
    obtain⟨B,y,rfl⟩:=bs d4;obtain⟨no,u,rfl⟩:=bs d5;obtain⟨r,p,rfl⟩:=bs d8;have a:Hid (kD W0 A K M1 M2 M3 (some ⟨b,z,none⟩) cap l w m):=ah ⟨f,h,d.o.2.2.Z i⟩;have⟨z,j,d⟩:=fQ m (.cells #[.slice B (unionB (symsS x.t.E)) y,.slice no C u,.slice r keys p] 108);have m:=ah (a.o.O d);clear f h i d1 d2 d4 d5 d6 d7 d8 d a;go_wp2_with(first|(rw[<-j];clear j)|fail)
    go_roundw
    case rel=>exact⟨_,aD,g,m.o⟩
    case measure=>exact aM
   exact absurd t s.o
 have a:=ah c;clear c q;have c:decide ((k:Int)<l)=false:=aO
 go_wp2
 go_ret;exact⟨rfl,a.o⟩
end Go.Proofs.YtfeidcmojcijpaaGreatDoor
