import Derived.Test.YtfeidcmojcijpaaGreatDoorQbg
import Derived.Test.YtfeidcmojcijpaaGreatDoorQbh
set_option linter.all false
set_option maxRecDepth 100000
set_option maxHeartbeats 0
namespace Go.Proofs.YtfeidcmojcijpaaGreatDoor
open Go.RowKit Tryz
def iF(a b:Bytes):Int:=if bD b a=false then-1 else if bD a b=false then 1 else 0
def jG:List Bytes->List Bytes->Int
 |[],[]=>0
 |[],_::_=> -1
 |_::_,[]=>1
 |a::V,b::W=>if iF a b=0 then jG V W else iF a b
def qt(a b c:Int):Int:=if a=0 then(if b=0 then c else b)else a
def TZ a b w:de 166 #[.string ⟨a.toArray⟩,.string ⟨b.toArray⟩] w (.int .i64 (iF a b)) fun w'=>w=w':=by
 have g:∀(s:Bytes) (w:World),Calls prog 214 #[.string ⟨s.toArray⟩] w fun e w'=>e=.returned (.bool false)/\w=w':=fun s w=>by
  go_in
  go_wp2
  go_ret;simp
 have key:(Op.bytesLess a b=true/\iF a b= -1)∨(Op.bytesLess a b=false/\(a==b)=false/\iF a b=1)∨(Op.bytesLess a b=false/\(a==b)=true/\iF a b=0):=by
  unfold iF;rw[qR a b];cases i:bD b a with
  |false=>simp
  |true=>
   have l:=kE i;cases d:bD a b with
   |false=>
    refine .inr (.inl ⟨rfl,?_,rfl⟩);rw[dF];rintro rfl;unfold bD at d;exact absurd (List.le_refl a) (DL d)
   |true=>exact .inr (.inr ⟨rfl,nE.2 (si (kE d) l),rfl⟩)
 have c:=ah g;have⟨z,h⟩:=am (iF a b);rw[<-h]at key⊢;clear g h;rcases key with⟨f,rfl⟩|⟨f,j,rfl⟩|⟨f,j,rfl⟩
 ·go_in
  go_wp2_with fail
  refine ar (c.o _ _) ?_;rintro w1 rfl;go_wp2_with fail
  refine ar (c.o _ _) ?_;rintro w1 rfl
  go_wp2
  go_ret;simp
 ·go_in
  go_wp2_with fail
  refine ar (c.o _ _) ?_;rintro w1 rfl;go_wp2_with fail
  refine ar (c.o _ _) ?_;rintro w1 rfl
  go_wp2
  go_ret;simp
 ·go_in
  go_wp2_with fail
  refine ar (c.o _ _) ?_;rintro w1 rfl;go_wp2_with fail
  refine ar (c.o _ _) ?_;rintro w1 rfl
  go_wp2
  go_ret;simp
def T0{V W:List Bytes}{k a b}(f:V[k]?=some a)(g:W[k]?=some b)(h:iF a b=0):jG (V.drop k) (W.drop k)=jG (V.drop (k+1)) (W.drop (k+1)):=by
 have c:V.drop k=a::V.drop (k+1):=by obtain⟨e,rfl⟩:=aF.1 f;simp
 have d:W.drop k=b::W.drop (k+1):=by obtain⟨e,rfl⟩:=aF.1 g;simp
 rw[c,d];show(if iF a b=0 then _ else _)=_
 omega
def T7{V W:List Bytes}{k a b}(f:V[k]?=some a)(g:W[k]?=some b)(h:iF a b≠0):jG (V.drop k) (W.drop k)=iF a b:=by
 have c:V.drop k=a::V.drop (k+1):=by obtain⟨e,rfl⟩:=aF.1 f;simp
 have d:W.drop k=b::W.drop (k+1):=by obtain⟨e,rfl⟩:=aF.1 g;simp
 rw[c,d];show(if iF a b=0 then _ else _)=_
 omega
def T9 V W o1 o2 c1 c2 w(p:cI w o1 c1 V)(q:cI w o2 c2 W)(H:V.length<=1048576)(I:W.length<=1048576):
 de 86 #[.slice o1 V c1,.slice o2 W c2] w (.int .i64 (jG V W)) fun w'=>w'=w:=by
 obtain⟨v,x⟩:=aC p q;clear p q
 go_in
 go_wp2
 go_loopw [11] (fun o wr=>∃k:Nat,o=.int .i64 k/\k<=V/\k<=W/\Hid (jG V W=jG (V.drop k) (W.drop k))/\wr=w) (fun o _=>V-(intOf o).toNat)
 case atStart=>exact⟨0,rfl,ad,ad,ah rfl,rfl⟩
 case round=>
 obtain⟨k,rfl,F,G,c,u⟩:=hrel;rw[u];clear u wr;by_cases l:k<V
 ·obtain⟨a,f⟩:=aT l
  obtain⟨g,N,rfl,D,B⟩:=v.o.at f;have J:=aL k;have K:=bk l;by_cases s:k<W
  ·have⟨b,j⟩:=aT s
   obtain⟨A,O,rfl,E,C⟩:=x.o.at j;have M:=bk s;have t:=fun e=>T0 f j e;have r:=fun e=>T7 f j e;have⟨i,h⟩:=aC t r;clear t r f j;go_wp2_with fail
   refine ar (TZ a b w) ?_;rintro w1 rfl;obtain⟨z,m⟩:=am (iF a b);rw[<-m];rw[<-m]at i h;clear m;by_cases n:z=0
   ·subst n
    have d:=ah (c.out.Z (i.o rfl));clear i h c
    go_wp2
    go_roundw
    case rel=>exact⟨_,aD,ad,ad,d,aj⟩
    case measure=>exact aM
   have d0:=dF.2 n;have d:=ah (c.out.Z (h.o n));clear i h c
   go_wp2
   go_ret;exact⟨by rw[d.o];rfl,aj⟩
  have d:Hid (jG V W=1):=ah (by rw[c.out,se (show W<=k by omega),(mT l)];rfl)
  have d1:decide (W<=(k:Int))=true:=bT;clear c f
  go_wp2
  go_ret;exact⟨by rw[d.o];rfl,aj⟩
 obtain rfl:k=V:=ad;by_cases y:V<W.length;have d:Hid (jG V W= -1):=ah (by rw[c.out,Dk,(mT y)];rfl)
 have d1:decide (V<(W:Int))=true:=bT;clear c
 go_wp2
 go_ret;exact⟨by rw[d.o];rfl,aj⟩;have d:Hid (jG V W=0):=ah (by rw[c.out,Dk,se (by omega)];rfl)
 have d1:decide (V<(W:Int))=false:=bU;clear c
 go_wp2
 go_ret;exact⟨by rw[d.o];rfl,aj⟩
def Ua a b c g w(i:kq w g #[.int .i64 a,.int .i64 b,.int .i64 c] 3):de 84 #[.slice g 3 3] w (.int .i64 (qt a b c)) fun w'=>w'=w:=by
 have n:∀k:Nat,k<3->w.cell? ⟨g,k,none⟩=some (.int .i64 ([a,b,c].getD k 0)):=fun k l=>by
  rw[ak _ i];match k,l with
  |0,_=>rfl
  |1,_=>rfl
  |2,_=>rfl
 have o:∀k:Nat,k<3->(∀j,j<k->[a,b,c].getD j 0=0)->[a,b,c].getD k 0≠0->qt a b c=[a,b,c].getD k 0:=fun k l e t=>by
  unfold qt;match k,l with
  |0,_=>rw[ap (show¬a=0 from t)];rfl
  |1,_=>rw[au (show a=0 from e 0 ad),ap (show¬b=0 from t)];rfl
  |2,_=>rw[au (show a=0 from e 0 ad),au (show b=0 from e 1 ad)];rfl
 have d:(∀j,j<3->[a,b,c].getD j 0=0)->qt a b c=0:=fun e=>by unfold qt;rw[au (show a=0 from e 0 ad),au (show b=0 from e 1 ad)];exact e 2 ad
 generalize [a,b,c]=L at n o d;have⟨v,x,y⟩:=bm n o d;clear n o d i
 go_in
 go_wp2
 go_loopw [8] (fun p wr=>∃k:Nat,p=.int .i64 k/\k<=3/\Hid (∀j,j<k->L.getD j 0=0)/\wr=w) (fun p _=>3-(intOf p).toNat)
 case atStart=>exact⟨0,rfl,ad,ah (fun j r=>absurd r ad),rfl⟩
 case round=>
 obtain⟨k,rfl,l,f,u⟩:=hrel;rw[u];clear u wr;by_cases s:k<3;have A:=aL k;have B:(k:Int)<3:=ad;have q:=v.o k s;have⟨z,d⟩:=am (L.getD k 0);rw[<-d]at q;by_cases m:z=0;have h:Hid (∀j,j<k+1->L.getD j 0=0):=ah fun j r=>by
  rcases(ad:j<k∨j=k)with i|rfl
  exact f.out j i;omega
 rw[m]at q;clear d m z f;refine qN ?_;
  exact⟨k+1,aD,ad,h,aj⟩
 have d0:=dF.2 m;have h:=ah ((x.o k s f.out (by rw[<-d];exact m)).Z d.zy);clear d f
 go_wp2
 go_ret;exact⟨by rw[h.o];rfl,aj⟩;obtain rfl:k=3:=ad;have h:=ah (y.o f.out);clear f
 go_wp2
 go_ret;exact⟨by rw[h.o];rfl,aj⟩
def k8(n m:Nat)(V W:List Bytes):Int:=qt (kY n m) (kY V W) (jG V W)
def CE l d m e V W o1 o2 c1 c2 w(v:cI w o1 c1 V)(x:cI w o2 c2 W)(B:V.length<=1048576)(C:W.length<=1048576):
 cX 83 #[.agg #[.int .i64 (l:Nat),.int .i64 (d:Nat),.slice o1 V c1],.agg #[.int .i64 (m:Nat),.int .i64 (e:Nat),.slice o2 W c2]] w (.int .i64 (k8 d e V W)):=by
 obtain⟨c,f⟩:=am ((w.alloc (.cells #[.int .i64 l,.int .i64 d,.slice o1 V c1] 171)).alloc (.cells #[.int .i64 m,.int .i64 e,.slice o2 W c2] 171));have j:Below w.heap.size w c:=by rw[f];exact aP.alloc aj _
 have n:c.heap[w.heap.size]?=some (.cells #[.int .i64 (l:Nat),.int .i64 (d:Nat),.slice o1 V.length c1] 171):=by rw[f];exact(br _ _ _ aj).Z (aN w _)
 have o:c.heap[w.heap.size+1]?=some (.cells #[.int .i64 (m:Nat),.int .i64 (e:Nat),.slice o2 W.length c2] 171):=by rw[f];have:=aN (cT w #[.int .i64 l,.int .i64 d,.slice o1 V c1] 171) (.cells #[.int .i64 m,.int .i64 e,.slice o2 W c2] 171);rwa[bP]at this
 have Q:c.heap.size=w.heap.size+2:=by rw[f];simp
 have⟨g,r⟩:∃z,z=kY d e:=⟨_,rfl⟩;have⟨h,s⟩:∃z,z=kY V W:=⟨_,rfl⟩;have⟨i,t⟩:∃z,z=jG V W:=⟨_,rfl⟩;have p:∀w',Below c.heap.size c w'->(w'.cell? ⟨w.heap.size,1,none⟩=some (.int .i64 (d:Nat))/\w'.cell? ⟨w.heap.size,2,none⟩=some (.slice o1 V.length c1))/\w'.cell? ⟨w.heap.size+1,1,none⟩=some (.int .i64 (e:Nat))/\w'.cell? ⟨w.heap.size+1,2,none⟩=some (.slice o2 W.length c2):=fun w' y=>by have E:=(y.J _ (aS n)).Z n;have F:=(y.J _ (aS o)).Z o;exact⟨⟨ak 1 E,ak 2 E⟩,ak 1 F,ak 2 F⟩
 have O:=p _ (aA _ c).drew;have P:=p (c.alloc (.cells #[g,h,i] 3)).drew aP.drew;have q:=T9 V W o1 o2 c1 c2 _ (v.O j.drew) (x.O j.drew) B C;have u:(c.alloc (.cells #[.int .i64 g,.int .i64 h,.int .i64 i] 3)).drew.heap[w.heap.size+2]?=some (.cells #[.int .i64 g,.int .i64 h,.int .i64 i] 3):=by rw[<-Q];exact aN c _
 have D:=Ua g h i _ _ u;have G:Hid (aR w (c.alloc (.cells #[g,h,i] 3)).drew):=ah (j.alloc j.size _).drew;have A:=fun a b R=>GL a b R;have H:Hid (k8 d e V W=qt g h i):=ah (by unfold k8;rw[r,s,t]);have⟨I,J⟩:=aC A D;rw[<-t]at q;have⟨K,M,N⟩:=bm q r s;clear p n o u j A D q r s t v x B C
 go_in
 go_wp2_with(first|(rw[<-f];clear f)|fail)
 go_region_held3(fun w'=>(w'.cell? ⟨w.heap.size,1,none⟩=some (.int .i64 (d:Nat))/\w'.cell? ⟨w.heap.size,2,none⟩=some (.slice o1 V.length c1))/\w'.cell? ⟨w.heap.size+1,1,none⟩=some (.int .i64 (e:Nat))/\w'.cell? ⟨w.heap.size+1,2,none⟩=some (.slice o2 W.length c2))
  (first|exact O|exact P)
  (first
    |(go_at_call 85;refine ar (I.o _ _ _) ?_;rintro w' rfl;(first|rw[<-M.out]|rw[<-N.out]))
    |(go_at_call 86;refine ar K.o ?_;rintro w' rfl)
    |(go_at_call 84;refine ar J.o ?_;rintro w' rfl))
 go_wp2
 go_ret;exact⟨by rw[H.o];rfl,G.o⟩
section
open Wey
def Uz a b:(bM a b/\iF a b= -1)∨(a=b/\iF a b=0)∨(bM b a/\iF a b=1):=by
 unfold iF bM;cases c:bD b a with
 |false=>
  refine .inl ⟨⟨?_,?_⟩,rfl⟩;rcases wQ a b with e|e
  exact iS e;unfold bD at c;exact absurd e (DL c);rintro rfl;unfold bD at c;exact absurd (List.le_refl a) (DL c)
 |true=>
  cases d:bD a b with
  |false=>
   refine .inr (.inr ⟨⟨rfl,?_⟩,rfl⟩);rintro rfl;unfold bD at d;exact absurd (List.le_refl b) (DL d)
  |true=>exact .inr (.inl ⟨si (kE d) (kE c),rfl⟩)
def JD:∀{V W},V.length=W.length->(lex bM V W/\jG V W<0)∨(V=W/\jG V W=0)∨(lex bM W V/\0<jG V W)
 |[],[],_=>.inr (.inl ⟨rfl,rfl⟩)
 |[],_::_,c=>by simp at c
 |_::_,[],c=>by simp at c
 |a::V,b::W,c=>by
  have e:jG (a::V) (b::W)=if iF a b=0 then jG V W else iF a b:=rfl;rw[e];rcases Uz a b with⟨g,d⟩|⟨rfl,d⟩|⟨g,d⟩
  rw[d];exact .inl ⟨.inl g,aj⟩;rw[d,au rfl];rcases JD (by simpa using c)with⟨h,f⟩|⟨rfl,f⟩|⟨h,f⟩
  exact .inl ⟨.inr ⟨rfl,h⟩,f⟩;exact .inr (.inl ⟨rfl,f⟩);exact .inr (.inr ⟨.inr ⟨rfl,h⟩,f⟩);rw[d];exact .inr (.inr ⟨.inl g,aj⟩)
def JE n m:(n<m/\kY n m= -1)∨(n=m/\kY n m=0)∨(m<n/\kY n m=1):=by
 unfold kY;rcases tV n m with a|a|a
 omega;exact .inr (.inl ⟨a,by omega⟩);exact .inr (.inr ⟨a,by omega⟩)
def vR n m V W:(ahR bM ((n,V)) ((m,W))/\k8 n m V W<0)∨((n=m/\V=W)/\k8 n m V W=0)∨(ahR bM ((m,W)) ((n,V))/\0<k8 n m V W):=by
 unfold k8 qt ahR;rcases JE n m with⟨f,a⟩|⟨rfl,a⟩|⟨f,a⟩
 rw[a];omega;rw[a,au rfl];rcases JE V W with⟨b,c⟩|⟨b,c⟩|⟨b,c⟩
 rw[c];omega;rw[c,au rfl];rcases JD b with⟨e,d⟩|⟨rfl,d⟩|⟨e,d⟩
 exact .inl ⟨.inr ⟨rfl,.inr ⟨b,e⟩⟩,d⟩;exact .inr (.inl ⟨⟨rfl,rfl⟩,d⟩);exact .inr (.inr ⟨.inr ⟨rfl,.inr ⟨b.zy,e⟩⟩,d⟩);rw[c];omega;rw[a];omega
def CI{n m V W}:k8 n m V W<0↔ahR bM ((n,V)) ((m,W)):=by
 rcases vR n m V W with⟨b,c⟩|⟨⟨rfl,rfl⟩,c⟩|⟨b,c⟩
 exact⟨fun _=>b,fun _=>c⟩;exact⟨fun a=>ad,fun a=>absurd a (ahR_irr dw _)⟩;exact⟨fun a=>ad,fun a=>absurd (ahR_tr dw a b) (ahR_irr dw _)⟩
def UA{n m V W}:k8 n m V W=0↔n=m/\V=W:=by
 rcases vR n m V W with⟨a,b⟩|⟨a,b⟩|⟨a,b⟩
 refine⟨fun c=>ad,?_⟩;rintro⟨rfl,rfl⟩;exact absurd a (ahR_irr dw _);exact⟨fun _=>a,fun _=>b⟩;refine⟨fun c=>ad,?_⟩;rintro⟨rfl,rfl⟩;exact absurd a (ahR_irr dw _)
end
section
open Wey
def UC:(prog.info? 257).map (fun i=>(i.zero,i.size,i.bytes))=some (some (.agg #[.int .i64 0,.int .i64 0,.slice none 0 0,.int .u64 0]),4,48):=az
structure WI where
 s:Nat
 n:Nat
 V:List Bytes
 o:Option Addr
 c:Nat
 p:Nat
def ld(x:WI):List Value:=[.int .i64 x.s,.int .i64 x.n,.slice x.o x.V x.c,.int .u64 x.p]
def ip(L:List WI):List Value:=L.flatMap ld
def kC(a b:WI):Bool:=decide (k8 a.n b.n a.V b.V<0)||(decide (k8 a.n b.n a.V b.V=0)&&decide (a.p<b.p))
def vS{a b}:kC a b=true↔ahR bM ((a.n,a.V)) ((b.n,b.V))∨((a.n=b.n/\a.V=b.V)/\a.p<b.p):=by unfold kC;rw[dA,cM,cf,cf,cf,CI,UA]
def UD:p9 kC:=by
 refine⟨fun a b e=> ?_,fun a b c e k=> ?_⟩;rw[<-iX,vS];rw[vS]at e;rintro(k|⟨⟨d,g⟩,i⟩);rcases e with e|⟨⟨f,h⟩,j⟩
 exact ahR_irr dw _ (ahR_tr dw e k);rw[f,h]at k;exact ahR_irr dw _ k;rcases e with e|⟨⟨f,h⟩,j⟩
 rw[d,g]at e;exact ahR_irr dw _ e;omega;rw[<-iX,vS]at e k⊢;have o:∀x y:WI,ahR bM (some (x.n,x.V)) (some (y.n,y.V))∨(x.n=y.n/\x.V=y.V)∨ahR bM (some (y.n,y.V)) (some (x.n,x.V)):=fun x y=>by
  rcases vR x.n y.n x.V y.V with e|e|e
  exact .inl e.1;exact .inr (.inl e.1);exact .inr (.inr e.1)
 have ge:∀x y:WI,¬(ahR bM (some (x.n,x.V)) (some (y.n,y.V))∨((x.n=y.n/\x.V=y.V)/\x.p<y.p))->ahR bM (some (y.n,y.V)) (some (x.n,x.V))∨((x.n=y.n/\x.V=y.V)/\y.p<=x.p):=fun x y e=>by
  rcases o x y with m|m|m
  exact absurd (.inl m) e;exact .inr ⟨m,Nat.le_of_not_lt fun q=>e (.inr ⟨m,q⟩)⟩;exact .inl m
 have f:=ge _ _ e;have d:=ge _ _ k;rintro(m|⟨⟨l,n⟩,p⟩);rcases f with f|⟨⟨f,h⟩,j⟩
 rcases d with d|⟨⟨d,g⟩,i⟩
 exact ahR_irr dw _ (ahR_tr dw m (ahR_tr dw d f));rw[d,g]at f;exact ahR_irr dw _ (ahR_tr dw m f);rcases d with d|⟨⟨d,g⟩,i⟩
 rw[f,h]at m;exact ahR_irr dw _ (ahR_tr dw m d);rw[f,h,d,g]at m;exact ahR_irr dw _ m;rcases f with f|⟨⟨f,h⟩,j⟩
 rcases d with d|⟨⟨d,g⟩,i⟩
 rw[l,n]at f;exact ahR_irr dw _ (ahR_tr dw f d);rw[l,n,d,g]at f;exact ahR_irr dw _ f;rcases d with d|⟨⟨d,g⟩,i⟩
 rw[<-l,<-n,f,h]at d;exact ahR_irr dw _ d;omega
def UE a:kC a a=false:=by rw[<-iX,vS];rintro(b|⟨_,b⟩);exact ahR_irr dw _ b;omega
def zk L:(ip L)=L.length*4:=by
 induction L with
 |nil=>rfl
 |cons a L ih=>simp[ip,ld]at ih⊢;omega
def zl a L:ip (a::L)=.int .i64 a.s::.int .i64 a.n::.slice a.o a.V a.c::.int .u64 a.p::ip L:=rfl
def UF L M:ip (L++M)=ip L++ip M:=by simp[ip]
def UG{L i a}(b:L[i]?=some a):∀j,j<4->(ip L)[i*4+j]?=(ld a)[j]?:=oC 4 (fun _=>rfl) b
def JF L i a:ip (L.set i a)=((((ip L).set (i*4) (.int .i64 a.s)).set (i*4+1) (.int .i64 a.n)).set (i*4+2) (.slice a.o a.V a.c)).set (i*4+3) (.int .u64 a.p):=by
 induction L generalizing i with
 |nil=>simp[ip]
 |cons x L ih=>
  cases i with
  |zero=>rfl
  |succ i=>
   rw[ct,zl,zl,ih,show(i+1)*4=i*4+1+1+1+1 by omega];rfl
def UH L n:(ip L).take (n*4)=ip (L.take n):=by
 induction L generalizing n with
 |nil=>simp[ip]
 |cons x L ih=>
  cases n with
  |zero=>simp[ip]
  |succ n=>
   rw[zT,zl,zl,<-ih,show(n+1)*4=n*4+1+1+1+1 by omega];rfl
def tT(a:Nat):Value:=.func (.func 167) #[] #[a]
abbrev fk(W:World)(Q b a:Nat)(c e:Value)(k d:Nat)(L:List WI):Prop:=QG 257 264 175 4 (tT a) (.func (.func 83) #[] #[]) W Q b a c e k d L (ip L)
def fk.cells{W:World}{Q f h g c:Nat}{m:Value}{k l n:Nat}{L:List WI}(b:fk W Q f h (.slice (some ⟨g,0,none⟩) n c) m k l L)(j:n=L.length){i:Nat}{a:WI}(e:L[i]?=some a):
 W.cell? ⟨g,i*4,none⟩=some (.int .i64 (a.s:Nat))/\W.cell? ⟨g,i*4+1,none⟩=some (.int .i64 (a.n:Nat))/\W.cell? ⟨g,i*4+2,none⟩=some (.slice a.o a.V.length a.c)/\W.cell? ⟨g,i*4+3,none⟩=some (.int .u64 (a.p:Nat)):=by
 have o:=(aF.1 e).1;subst j;have d:=UG e;exact⟨(b.zt.cellAt _ ad).Z (d 0 ad),(b.zt.cellAt _ ad).Z (d 1 ad),(b.zt.cellAt _ ad).Z (d 2 ad),(b.zt.cellAt _ ad).Z (d 3 ad)⟩
def eN(W:World)(X:Nat)(x:WI):Prop:=W.ownsRow X 9 1 (.slice x.o x.V x.c) x.V (x.V.map encStr)
def eN.at{W:World}{X:Nat}{x:WI}(a:eN W X x):cI W x.o x.c x.V:=by exact dY a
end
end Go.Proofs.YtfeidcmojcijpaaGreatDoor
