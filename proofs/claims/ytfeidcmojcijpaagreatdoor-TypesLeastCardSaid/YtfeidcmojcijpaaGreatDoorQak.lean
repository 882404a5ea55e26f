import Derived.Test.YtfeidcmojcijpaaGreatDoorQaj
set_option linter.all false
set_option maxRecDepth 100000
set_option maxHeartbeats 0
namespace Go.Proofs.YtfeidcmojcijpaaGreatDoor
open Go.RowKit Tryz
def oI{n:Nat}(a:n<=1048576):(Lit.int .i64 n).wf=true:=WalkArith.wf_i64 ad
def fA(w:World)(a:Nat)(ts:List aB):Prop:=∃D n,Pl D ts/\n<=ts.length/\w.ownsMap prog 9 (plainElem prog 3) a n D
def fA.zw{w w':World}{a:Nat}{ts:List aB}{row:Option Nat}(b:fA w a ts)(d:w.grownBy w' row)(g:some a≠row):fA w' a ts:=by obtain⟨D,n,c,f,e⟩:=b;exact⟨D,n,c,f,e.zw d g⟩
def fA.alloc{w:World}{a:Nat}{ts:List aB}(b:fA w a ts)(o:Obj):fA (w.alloc o) a ts:=b.zw (kf w o none) aj
def D7 l o cap w(g:cw w o cap l)(O:l.length<=1048576)(J:∀x∈l,x.t.name.length<=1048576):
 de 48 #[.agg #[.slice o l cap]] w (.map (some (w+1))) fun w'=>fA w' (w+1) (l.map ai.t)/\aR w w':=by
 have P:=g.1.2.1;have A:=g.1.2.2.1;unfold maxLen at A;have z:aR w ((w.alloc (.cells #[.slice o l cap] 24)).alloc (.map #[] 0)):=aP.alloc aj _;have F:fA ((w.alloc (.cells #[.slice o l.length cap] 24)).alloc (.map #[] 0)) (w.heap.size+1) []:=by have:=C7 (H:=Unit) (cT w #[.slice o l cap] 24) prog 9 (plainElem prog 3);have u:(w.alloc (.cells #[.slice o l cap] 24))=w.heap.size+1:=aj;rw[u]at this;exact⟨_,0,Pl.nil,ay _,this⟩
 have Q:= @pq prog
 go_in
 go_wp2
 go_loopw [10] (fun v wr=>∃k:Nat,v=.int .i64 k/\k<=l/\fA wr (w+1) ((l.take k).map ai.t)/\aR w wr) (fun v _=>l-(intOf v).toNat)
 case atStart=>exact⟨0,rfl,aH _,F,z⟩
 case round=>
  obtain⟨k,rfl,M,a,c⟩:=hrel;by_cases d:k<l
  ·have B:=bC d
   have N:=bk d;have⟨x,f⟩:=aT d;obtain⟨b,S,rfl,K,V,W,X,Y,Z,aa⟩:=(g.O c).at f;have R:=J x (aK f);have r:(l.take (k+1)).map ai.t=(l.take k).map ai.t++[x.t]:=by rw[bH,f];simp
   have i:((l.take k).map ai.t).length=k:=by rw[bn,eh];omega
   have E:keyOf prog 9 (.string ⟨x.t.name.toArray⟩)=some (.string x.t.name):=by have:=C8 iI (s:=⟨x.t.name.toArray⟩) (by rw[eJ];show x.t.name<=maxLen;unfold maxLen;omega);omega
   have h:=c.alloc c.size (.cells (typeRow x) 55);have y:=a.alloc (.cells (typeRow x) 55);obtain⟨D,n,p,G,q⟩:=y;have⟨m,t⟩:=aC r p;rw[i]at G;unfold typeRow at q h;clear r p f a;go_wp2_with(first
    |(at_mapUpdate;go_must (refine C9 _ rfl _ _ _ 72 rfl 9 3 (om iI) lT _ _ _ D rfl q bO _ _ _ rfl rfl E _ [] (plainElem_int ei (oI ad)) ?_);intro T I C)
    |go_in)
   go_roundw
   case rel=>exact⟨k+1,aD,ad,⟨_,_,by rw[m.o];have:=t.o.snoc x.t;rwa[i]at this,by rw[m.o,ck,i];simp;omega,I⟩,h.zu C h.size (fun j e=>by cases e;omega)⟩
   case measure=>exact aM
  have B:=bG d;rw[bI ad]at a
  go_wp2
  go_ret;exact⟨rfl,a,c⟩
def pC{w B o n c ss}(f:bN w B (.slice o n c) ss):n=ss/\cI w o c ss:=by
 by_cases h:Value.slice o n c=.slice none 0 0;injection h with q r s
 subst q;subst r;subst s;have z:ss.length=0:=by
  rcases f.2 with⟨_,C⟩|⟨g,cap,D,hv,_⟩
  exact C;cases hv
 obtain rfl:=pp z;exact⟨rfl,rfl,ay _,aH _,fun p=>absurd p aj⟩;obtain⟨g,cap,e,E,x,A,v,F,t⟩:=Kn f h;injection e with i l m
 subst i;subst m;refine⟨l,aj,A,v,fun _=>⟨g,0,rfl,x,fun j u a=> ?_⟩⟩;rw[bR]at a;cases d:ss[j]? with
 |none=>rw[d]at a;cases a
 |some b=>
  rw[d]at a;cases a
  have y:=(aF.1 d).1;have:=(t j (by omega)).1;rw[this];congr 2
  simp[y,(aF.1 d).2]
def sC{b}:∀{l},b∈dN l->b∈l
 |[],d=>d
 |[a],d=>d
 |a::c::t,d=>by
  simp only[dN]at d;by_cases e:a=c;rw[au e]at d;exact dM _ (sC d);rw[ap e]at d;rcases bX.1 d with d|d
  exact bX.2 (.inl d);exact dM _ (sC d)
def Ae{l b}(a:b∈symsS l):∃n∈l,n.sym=b:=by
 unfold symsS at a;split at a;have c:=zF.1 (sC a);unfold gQ at c;have⟨n,d,e⟩:=Ks.1 c;refine⟨n,d,?_⟩;split at e;injection e;cases e
 cases a
def fB(l:List Nat):List Value:=l.map fun k=>.int .i64 (k:Nat)
def bW(w:World)(a:Nat)(v:Value)(l:List Nat):Prop:=w.ownsRow a 3 1 v l (fB l)
def D8{w:World}{B B' size n e v xs}(a:w.ownsRow B e size v n xs)(d:B'<=B):w.ownsRow B' e size v n xs:=by
 refine⟨a.1,?_⟩;rcases a.2 with c|⟨g,cap,b,hv,f,rest⟩
 exact .inl c;exact .inr ⟨g,cap,b,hv,ad,rest⟩
def Lz{w:World}{b e c size m n n':Nat}{v v' xs xs'}(h:w.ownsRow b e size v n xs)(i:w.ownsRow b c m v' n' xs')(l:e≠c):v.ownBlock=none∨v.ownBlock≠v'.ownBlock:=by
 rcases h.2 with⟨rfl,_⟩|⟨g,cap,p,rfl,_,j,_⟩
 exact .inl rfl;refine .inr ?_;rcases i.2 with⟨rfl,_⟩|⟨r,o,q,rfl,_,a,_⟩
 simp[Value.ownBlock];simp only[Value.ownBlock];intro d;cases d
 rw[j]at a;injection a with a
 injection a with _ f _
 exact l f
def kidOf(ts:List aB)(n:Bytes):Nat:=(placeS ts n).getD 0
def xt ts t:kidsS ts t=(symsS t.E).map (kidOf ts):=rfl
def D9 ts x sv M w(an:∃o n c,sv=.agg #[.slice o n c])(B:dv w x.no x.nc x.t.E)(T:fA w M ts)(a5:M<w)(ab:(symsS x.t.E).length<=1048576)(H:∀n∈x.t.E,n.sym.length<=1048576):
 dB 125 #[sv,dV x,.map M] w fun e w'=>(∃v,e=.returned v/\bW w' w v (kidsS ts x.t))/\aR w w':=by
 obtain⟨bi,bg,bf,rfl⟩:=an;have J:∀b∈symsS x.t.E,b.length<=1048576:=fun b p=>by obtain⟨n,t,rfl⟩:=Ae p;exact H n t
 have⟨a2,Z,av,aw,a0⟩:=cZ lm;unfold dV typeRow;have m:=fun a3 p=>xr _ _ _ a3 (B.O p) H;unfold uE at m;rw[xt];have⟨a,I⟩:=am (symsS x.t.E);rw[<-I]at m J ab⊢
 go_in
 go_wp2_with fail
 go_must (apply(m _ (aP.alloc aj _)).zz)
 rintro e a4 ⟨⟨v,rfl,u⟩,X⟩;have f:=(aP.alloc aj _).Z (X.zz aO);obtain⟨Q,P,rfl⟩:=nK u;have⟨bb,E⟩:=pC u;have af:bN a4 w (.slice Q a P) a:=D8 u aO;clear m B I
 go_wp2
 go_loopw [7,14] (fun v i wr=>∃k:Nat,i=.int .i64 k/\k<=a/\bW wr w v ((a.take k).map (kidOf ts))/\bN wr w (.slice Q a P) a/\fA wr M ts/\aR w wr) (fun _ i _=>a-(intOf i).toNat)
 case atStart=>exact⟨0,rfl,aH _,cW _ _ _ _,af,T.zw (row:=none) ⟨f.os,f.tape,f.output,f.size,fun k F _=>f.J k F⟩ aj,f⟩
 case round=>
  obtain⟨k,rfl,F,h,K,V,j⟩:=hrel;obtain⟨_,E⟩:=pC K;by_cases l:k<a
  ·have Y:=bC l
   have a7:=bk l;have⟨b,y⟩:=aT l;obtain⟨g,be,rfl,a6,bq⟩:=E.at y;have bc:=J b (aK y);have aa:keyOf prog 9 (.string ⟨b.toArray⟩)=some (.string b):=by have:=C8 iI (s:=⟨b.toArray⟩) (by rw[eJ];show b<=maxLen;unfold maxLen;omega);omega
   have a1:∀A,(zeroValue 3).run prog A=.ok (0:Int) A:=fun A=>az;obtain⟨D,n,C,t,G⟩:=V;have a9:((a.take k).map (kidOf ts)).length=k:=by rw[bn,eh];omega
   have ao:(a.take (k+1)).map (kidOf ts)=(a.take k).map (kidOf ts)++[kidOf ts b]:=by rw[bH,y];simp
   have W:=C.at0 b;go_wp2_with(first
    |(at_lookup;go_must (refine wpList_lookup_own_int _ rfl _ _ 72 rfl 9 3 _ (om iI) lT ei (a1 _) M _ D rfl G _ _ rfl aa ?_);intro c d bd;obtain rfl:c=kidOf ts b:=by{rw[W]at d;injection d with d;injection d with _ d;exact d.zy})
    |(at_builtin;go_must (apply iV _ rfl _ _ 41 rfl _ 3 a2 _ 1 8 j9 Z av aw a0 rfl aq _ _ _ rfl (dp h _) _ 1 1 [.int .i64 (kidOf ts b)] rfl rfl (ln _ [.int .i64 (kidOf ts b)] _ _ rfl) (fun z O=>by simp at O;subst O;rfl) bO ad (by have:=j.size;simp;omega));intro bl bo ag r ba)
    |go_in)
   have N:=dp K (.cells #[.int .i64 (kidOf ts b)] 3);have al:=dp h (.cells #[.int .i64 (kidOf ts b)] 3);have ae:∀q:Option Nat,q=u7.ownBlock->some M≠q:=fun q R S=>by subst R;have:=(aY h M S.zy).1;omega
   go_roundw
   case rel=>exact⟨k+1,aD,ad,by rw[ao];unfold bW;simpa[fB]using ag,cm N r (Lz N al aq),⟨D,n,C,t,(G.zw (kf wr _ none) aj).zw r (ae _ rfl)⟩,(j.alloc j.size _).zu r (by have:=j.size;simp;omega) (fun k e=>(aY h k e).1)⟩
   case measure=>exact aM
  have Y:=bG l;rw[bI ad]at h
  go_wp2
  go_ret;exact⟨⟨_,rfl,h⟩,j⟩
def lp(w:World)(o:Option Addr)(cap:Nat)(l:List Nat):Prop:=cn w o l cap 1 (fB l)
def lp.O{w w':World}{o:Option Addr}{cap:Nat}{l:List Nat}(a:lp w o cap l)(b:Below w.heap.size w w'):lp w' o cap l:=cn.O a b
def lp.at{w:World}{o:Option Addr}{cap:Nat}{l:List Nat}(c:lp w o cap l){k:Nat}{x:Nat}(b:l[k]?=some x):
 ∃g a,o=some ⟨g,a,none⟩/\g<w.heap.size/\w.cell? ⟨g,a+k,none⟩=some (.int .i64 (x:Nat)):=by
 have h:=(aF.1 b).1;have⟨g,a,e,f,d⟩:=c.2.2.2 ad;exact⟨g,a,e,f,d k _ (by unfold fB;rw[bR,b];rfl)⟩
def uF{w B v l}(a:bW w B v l):∃o c,v=.slice o l c/\lp w o c l:=by
 obtain⟨o,c,rfl⟩:=nK a;refine⟨o,c,rfl,?_⟩;by_cases b:Value.slice o l c=.slice none 0 0;injection b with f h i
 subst f;subst i;exact⟨by simp[fB],ad,aH _,fun d=>ad⟩;rcases a.2 with⟨e,d⟩|⟨g,cap,t,hv,z,q,f,h,i,y⟩
 exfalso;rw[d]at e b;exact b e;injection hv with n x p
 subst n;subst p;have s:=aS q;refine⟨by simp[fB],ad,h,fun _=>⟨g,0,rfl,s,fun j u m=> ?_⟩⟩;have r:=(aF.1 m).1;rw[cH];exact(zH a j (by simpa[fB]using r)).Z m
def LA{F:Nat}{caps q} l o cap w(m:cw w o cap l)(J:l.length<=1048576)
 (G:∀args y,(callFunc F args).run prog y=.ok (.enter F args) y)
 (u:∀x∈l,∀w1,aR w w1->cX F (#[dV x]++caps) w1 (.bool (q x))):
 dB 192 #[.slice o l cap,.func (.func F) #[] caps] w fun e w'=>(∃r,e=.returned (.int .i64 r)/\Hid (decide (r>=0)=l.any q))/\aR w w':=by
 have K:=m.1.2.1;have A:=m.1.2.2.1;unfold maxLen at A;have s:=ah u;clear u
 go_in
 go_wp2
 go_loopw [8] (fun v wr=>∃k:Nat,v=.int .i64 k/\k<=l/\aR w wr/\Hid ((l.take k).any q=false)) (fun v _=>l-(intOf v).toNat)
 case atStart=>exact⟨0,rfl,aH _,aA _ _,rfl⟩
 case round=>
  obtain⟨k,rfl,H,a,t⟩:=hrel;by_cases h:k<l
  ·have B:=bC h
   have I:=bk h;have⟨x,d⟩:=aT h;obtain⟨b,M,rfl,E,N,O,P,Q,R,S⟩:=(m.O a).at d;have c:=s.o x (aK d) wr a;have i:(l.take (k+1)).any q=q x:=by rw[bH,d,fp,qC,t.o];simp
   have D:=ah d;unfold dV typeRow at c;cases g:q x with
   |true=>
    rw[g]at c;have f:l.any q=true:=by rw[jx];exact⟨x,aK d,g⟩
    have j:=ah f;clear f i d g s;go_wp2_with fail
    refine ar c ?_;intro C n;clear c;have p:=a.Z (n.zz a.size)
    go_wp2
    go_ret;exact⟨⟨k,rfl,by show _=_;rw[j.o,cf];omega⟩,p⟩
   |false=>
    rw[g]at c i;have z:=ah i;clear i d g;go_wp2_with fail
    refine ar c ?_;intro C n;clear c;have p:=a.Z (n.zz a.size)
    go_wp2
    go_roundw
    case rel=>exact⟨_,aD,ad,p,z.o⟩
    case measure=>exact aM
  have B:=bG h;have f:l.any q=false:=by have:=t.o;rwa[bI ad]at this
  have j:=ah f;clear f
  go_wp2
  go_ret;exact⟨⟨-1,rfl,by show _=_;rw[j.o,dd];omega⟩,a⟩
def LC{F:Nat}{caps q} l o cap w(a:cw w o cap l)(f:l.length<=1048576)
 (b:∀args g,(callFunc F args).run prog g=.ok (.enter F args) g)
 (c:∀x∈l,∀w1,aR w w1->cX F (#[dV x]++caps) w1 (.bool (q x))):
 cX 111 #[.slice o l cap,.func (.func F) #[] caps] w (.bool (l.any q)):=by
 have d:=LA l o cap w a f b c;clear a f b c
 go_in
 go_wp2_with fail
 apply d.zz;rintro e j ⟨⟨r,rfl,i⟩,h⟩;clear d
 go_wp2
 go_ret;exact⟨bJ i.out,h⟩
def LD{F:Nat}{caps q} l o cap w(m:cI w o cap l)(J:l.length<=1048576)
 (G:∀args y,(callFunc F args).run prog y=.ok (.enter F args) y)
 (u:∀x∈l,∀w1,aR w w1->cX F (#[.string ⟨x⟩]++caps) w1 (.bool (q x))):
 dB 195 #[.slice o l cap,.func (.func F) #[] caps] w fun e w'=>(∃r,e=.returned (.int .i64 r)/\Hid (decide (r>=0)=l.any q))/\aR w w':=by
 have K:=m.2.1;have A:=m.2.2.1;unfold maxLen at A;have s:=ah u;clear u
 go_in
 go_wp2
 go_loopw [8] (fun v wr=>∃k:Nat,v=.int .i64 k/\k<=l/\aR w wr/\Hid ((l.take k).any q=false)) (fun v _=>l-(intOf v).toNat)
 case atStart=>exact⟨0,rfl,aH _,aA _ _,rfl⟩
 case round=>
  obtain⟨k,rfl,H,a,t⟩:=hrel;by_cases h:k<l
  ·have B:=bC h
   have I:=bk h;have⟨x,c⟩:=aT h;obtain⟨b,M,rfl,E,N⟩:=(m.O a).at c;have d:=s.o x (aK c) wr a;have i:(l.take (k+1)).any q=q x:=by rw[bH,c,fp,qC,t.o];simp
   have D:=ah c;skip;cases g:q x with
   |true=>
    rw[g]at d;have f:l.any q=true:=by rw[jx];exact⟨x,aK c,g⟩
    have j:=ah f;clear f i c g s;go_wp2_with fail
    refine ar d ?_;intro C n;clear d;have p:=a.Z (n.zz a.size)
    go_wp2
    go_ret;exact⟨⟨k,rfl,by show _=_;rw[j.o,cf];omega⟩,p⟩
   |false=>
    rw[g]at d i;have z:=ah i;clear i c g;go_wp2_with fail
    refine ar d ?_;intro C n;clear d;have p:=a.Z (n.zz a.size)
    go_wp2
    go_roundw
    case rel=>exact⟨_,aD,ad,p,z.o⟩
    case measure=>exact aM
  have B:=bG h;have f:l.any q=false:=by have:=t.o;rwa[bI ad]at this
  have j:=ah f;clear f
  go_wp2
  go_ret;exact⟨⟨-1,rfl,by show _=_;rw[j.o,dd];omega⟩,a⟩
def Ea{F:Nat}{caps q} l o cap w(a:cI w o cap l)(f:l.length<=1048576)
 (b:∀args g,(callFunc F args).run prog g=.ok (.enter F args) g)
 (c:∀x∈l,∀w1,aR w w1->cX F (#[.string ⟨x⟩]++caps) w1 (.bool (q x))):
 cX 121 #[.slice o l cap,.func (.func F) #[] caps] w (.bool (l.any q)):=by
 have d:=LD l o cap w a f b c;clear a f b c
 go_in
 go_wp2_with fail
 apply d.zz;rintro e j ⟨⟨r,rfl,i⟩,h⟩;clear d
 go_wp2
 go_ret;exact⟨bJ i.out,h⟩
def LE{F:Nat}{caps q} l o cap w(m:lp w o cap l)(J:l.length<=1048576)
 (G:∀args y,(callFunc F args).run prog y=.ok (.enter F args) y)
 (u:∀x∈l,∀w1,aR w w1->cX F (#[.int .i64 x]++caps) w1 (.bool (q x))):
 dB 199 #[.slice o l cap,.func (.func F) #[] caps] w fun e w'=>(∃r,e=.returned (.int .i64 r)/\Hid (decide (r>=0)=l.any q))/\aR w w':=by
 have K:=m.2.1;have A:=m.2.2.1;unfold maxLen at A;have s:=ah u;clear u
 go_in
 go_wp2
 go_loopw [8] (fun v wr=>∃k:Nat,v=.int .i64 k/\k<=l/\aR w wr/\Hid ((l.take k).any q=false)) (fun v _=>l-(intOf v).toNat)
 case atStart=>exact⟨0,rfl,aH _,aA _ _,rfl⟩
 case round=>
  obtain⟨k,rfl,H,a,t⟩:=hrel;by_cases h:k<l
  ·have B:=bC h
   have I:=bk h;have⟨x,c⟩:=aT h;obtain⟨b,M,rfl,E,N⟩:=(m.O a).at c;have d:=s.o x (aK c) wr a;have i:(l.take (k+1)).any q=q x:=by rw[bH,c,fp,qC,t.o];simp
   have D:=ah c;skip;cases g:q x with
   |true=>
    rw[g]at d;have f:l.any q=true:=by rw[jx];exact⟨x,aK c,g⟩
    have j:=ah f;clear f i c g s;go_wp2_with fail
    refine ar d ?_;intro C n;clear d;have p:=a.Z (n.zz a.size)
    go_wp2
    go_ret;exact⟨⟨k,rfl,by show _=_;rw[j.o,cf];omega⟩,p⟩
   |false=>
    rw[g]at d i;have z:=ah i;clear i c g;go_wp2_with fail
    refine ar d ?_;intro C n;clear d;have p:=a.Z (n.zz a.size)
    go_wp2
    go_roundw
    case rel=>exact⟨_,aD,ad,p,z.o⟩
    case measure=>exact aM
  have B:=bG h;have f:l.any q=false:=by have:=t.o;rwa[bI ad]at this
  have j:=ah f;clear f
  go_wp2
  go_ret;exact⟨⟨-1,rfl,by show _=_;rw[j.o,dd];omega⟩,a⟩
def Eb{F:Nat}{caps q} l o cap w(a:lp w o cap l)(f:l.length<=1048576)
 (b:∀args g,(callFunc F args).run prog g=.ok (.enter F args) g)
 (c:∀x∈l,∀w1,aR w w1->cX F (#[.int .i64 x]++caps) w1 (.bool (q x))):
 cX 129 #[.slice o l cap,.func (.func F) #[] caps] w (.bool (l.any q)):=by
 have d:=LE l o cap w a f b c;clear a f b c
 go_in
 go_wp2_with fail
 apply d.zz;rintro e j ⟨⟨r,rfl,i⟩,h⟩;clear d
 go_wp2
 go_ret;exact⟨bJ i.out,h⟩
def fA.O{w w':World}{b:Nat}{ts:List aB}(c:fA w b ts)(a:Below w.heap.size w w'):fA w' b ts:=
 c.zw (row:=none) ⟨a.os,a.tape,a.output,a.size,fun k d _=>a.J k d⟩ aj
structure ep(l:List ai):Prop where
 len:l.length<=1048576
 name:∀x∈l,x.t.name.length<=1048576
 zv:∀x∈l,x.t.zv.length<=1048576
 key:∀x∈l,x.t.key.length<=1048576
 zx:∀x∈l,x.t.zx.length<=1048576
 attr:∀x∈l,∀a∈x.t.zx,a.length<=1048576
 sym:∀x∈l,∀n∈x.t.E,n.sym.length<=1048576
structure mW(w:World)(S P T M:Nat)(o:Option Addr)(cap:Nat)(l:List ai):Prop where
 s:w.heap[S]?=some (.cells #[.slice o l.length cap] 24 (0,0))
 p:w.heap[P]?=some (.cells #[.map (some M)] 72 (0,0))
 t:w.heap[T]?=some (.cells #[.func (.func 108) #[] #[]] 200 (0,0))
 types:cw w o cap l
 places:fA w M (l.map ai.t)
 mlt:M<w.heap.size
def mW.O{w w':World}{S P c d:Nat}{o:Option Addr}{cap:Nat}{l:List ai}(a:mW w S P c d o cap l)(b:Below w.heap.size w w'):mW w' S P c d o cap l:=
 ⟨(b.J S (aS a.s)).Z a.s,(b.J P (aS a.p)).Z a.p,(b.J c (aS a.t)).Z a.t,a.types.O b,a.places.O b,by have:=b.size;have:=a.mlt;omega⟩
def xu e w:de 108 #[.int .i64 e,true] w e fun w'=>w=w':=by
 go_in
 go_wp2
 go_ret;simp
def xw e w:de 108 #[.int .i64 e,false] w (0:Int) fun w'=>w=w':=by
 go_in
 go_wp2
 go_ret;simp
def xx:∀args a,(callFunc 108 args).run prog a=.ok (.enter 108 args) a:=fun _ _=>rfl
def LF{w S P T M o cap l}(a:mW w S P T M o cap l)(g:l.length<=1048576):
 de 112 #[T,S] w (.int .i64 (if 64<l.length then 17 else 0)) fun w'=>w=w':=by
 have d:=bj w S 0 _ _ _ a.s;have e:=bj w T 0 _ _ _ a.t;have f:=xx;clear a;by_cases b:64<l.length
 ·have c:decide ((l:Int)>64)=true:=bT
  rw[au b]
  go_in
  go_wp2_with fail
  refine ar (xu _ _) ?_;rintro w' rfl
  go_wp2
  go_ret;simp
 ·have c:decide ((l:Int)>64)=false:=bU
  rw[ap b]
  go_in
  go_wp2_with fail
  refine ar (xw _ _) ?_;rintro w' rfl
  go_wp2
  go_ret;simp
def LG{w S P T M o cap l}(b:mW w S P T M o cap l)(h:l.length<=1048576):
 de 113 #[T,S] w (.int .i64 (if l.length=0 then 18 else 0)) fun w'=>w=w':=by
 have e:=bj w S 0 _ _ _ b.s;have f:=bj w T 0 _ _ _ b.t;have g:=xx;clear b;by_cases a:l.length=0
 ·have c:((l:Int)==0)=true:=qQ
  rw[au a];have d:=ah a;clear a
  go_in
  go_wp2_with fail
  refine ar (xu _ _) ?_;rintro w' rfl
  go_wp2
  go_ret;simp
 ·have c:((l:Int)==0)=false:=fU
  rw[ap a]
  go_in
  go_wp2_with fail
  refine ar (xw _ _) ?_;rintro w' rfl
  go_wp2
  go_ret;simp
def fW(t:aB):Bool:=t.text&&(!t.E.isEmpty|| !t.key.isEmpty)
def LH{a:Type}(l:List a):l.isEmpty=decide (l.length=0):=by cases l<;>simp
def LI x w:cX 117 #[dV x] w (.bool (fW x.t)):=by
 obtain⟨r,a⟩:=am (fW x.t);rw[<-a];unfold fW at a;obtain⟨⟨name,label,attrs,key,text,nodes⟩,f,ac,no,i⟩:=x;unfold dV typeRow;simp only at a⊢;cases text with
 |false=>
  rw[ud]at a;have b:=ah a;clear a
  go_in
  go_wp2
  go_ret;exact⟨bJ b.o.zy,aP⟩
 |true=>
  rw[wJ,LH]at a;by_cases d:nodes.length=0;rw[iS d,Bool.not_true,ou]at a;obtain rfl:=pp d;cases e:key with
  |nil=>
   rw[e]at a;have b:=ah a;clear a d e
   go_in
   go_wp2
   go_ret;exact⟨bJ b.o.zy,aP⟩
  |cons c t=>
   rw[e]at a;have b:=ah a;clear a d e
   go_in
   go_wp2
   go_ret;exact⟨bJ b.o.zy,aP⟩
  rw[qD d,Bool.not_false,Bool.true_or]at a;have b:=ah a;generalize nodes.length=m at d;have h:0<m:=ad;have g:decide ((m:Int)>0)=true:=bT;clear a d
  go_in
  go_wp2
  go_ret;exact⟨bJ b.o.zy,aP⟩
def LJ s w(b:s.size<=9223372036854775807):cX 193 #[.string s] w (.bool (!bp s.data.toList)):=by
 go_in
 go_wp2_with fail
 refine ar (oD s _ b) ?_;intro w' a
 go_wp2
 go_ret;exact⟨rfl,a⟩
def Ec:∀args a,(callFunc 193 args).run prog a=.ok (.enter 193 args) a:=fun _ _=>rfl
def xy a w(b:a.length<=1048576):cX 193 #[.string ⟨a.toArray⟩] w (.bool (!bp a)):=
 LJ _ w (by rw[eJ];show a.length<=_;omega)
def LK x w(e:cI w x.ao x.ac x.t.zx)(f:x.t.name.length<=1048576)(h:x.t.zv.length<=1048576)(i:x.t.key.length<=1048576)(j:x.t.zx.length<=1048576)(l:∀a∈x.t.zx,a.length<=1048576):
 cX 114 #[dV x] w (.bool (gR x.t)):=by
 obtain⟨r,b⟩:=am (gR x.t);rw[<-b];unfold gR at b;obtain⟨⟨name,label,attrs,key,text,nodes⟩,d,ac,no,g⟩:=x;unfold dV typeRow;simp only at b e f h i j l⊢;have m:=fun w=>xy name w f;have q:=fun w=>xy label w h;have y:=fun w=>xy key w i;have n:=fun w' i=>Ea (F:=193) (caps:=#[]) attrs d ac w' (e.O i) j Ec (fun a h w1 f=>xy a w1 (l a h));have h:=Ec;have h:aR w (cT w (gT name label d attrs ac key text no nodes g) 55):=aP;have i:=aN w (.cells (gT name label d attrs ac key text no nodes g) 55);have j:w<(w.alloc (.cells (gT name label d attrs ac key text no nodes g) 55)).heap.size:=aj;have X:=ah (And.intro h (And.intro i j));clear h i j;have g:=ah b;clear b e
 go_in
 go_wp2_with fail
 refine ar (m _) ?_;intro w1 f;have j:=X.out.1.Z (f.zz X.out.1.size);have e:=(f.J _ X.out.2.2).Z X.out.2.1;have o:=aS e;have s:=bj w1 _ 1 _ _ _ e;have u:=bj w1 _ 2 _ _ _ e;have v:=bj w1 _ 3 _ _ _ e;clear m X f;cases f:bp name with
 |false=>
  have b:r=true:=by rw[g.o,f];rfl
  have d:=ah b;clear b f e
  go_wp2
  go_ret;exact⟨bJ d.o.zy,j⟩
 |true=>
  have⟨i,m⟩:=aC f e;clear f e;go_wp2_with fail
  refine ar (q _) ?_;intro l h;have f:=j.Z (h.zz j.size);have e:=(h.J _ o).Z m.o;have p:=aS e;have d2:=bj l _ 2 _ _ _ e;have d3:=bj l _ 3 _ _ _ e;clear q h s u v m o;cases h:bp label with
  |false=>
   have b:r=true:=by rw[g.o,h,i.o];rfl
   have d:=ah b;clear b h e
   go_wp2
   go_ret;exact⟨bJ d.o.zy,f⟩
  |true=>
   have⟨j,m⟩:=aC h e;have o:=n l f;clear h e n;go_wp2_with fail
   refine ar o ?_;intro l e;have h:=f.Z (e.zz f.size);have f:=(e.J _ p).Z m.o;have n:=aS f;have f3:=bj l _ 3 _ _ _ f;clear o e d2 d3 m p;cases e:attrs.any (fun a=> !bp a)with
   |true=>
    have b:r=true:=by rw[g.o,e,j.o,i.o];rfl
    have d:=ah b;clear b e f
    go_wp2
    go_ret;exact⟨bJ d.o.zy,h⟩
   |false=>
    have b:r=(!key.isEmpty&& !bp key):=by rw[g.o,e,j.o,i.o];rfl
    cases key with
    |nil=>
     have d:=ah b;clear b e f
     go_wp2
     go_ret;exact⟨bJ d.o.zy,h⟩
    |cons c t=>
     have d:=ah b;clear b e f;go_wp2_with fail
     refine ar (y _) ?_;intro e b;have e:=h.Z (b.zz h.size)
     go_wp2
     go_ret;exact⟨bJ d.o.zy,e⟩
def ee{B w w'}(a:Below B w w') n:Below B w (w'.drewN n):=⟨a.os,a.tape,a.output,a.size,a.J⟩
def Ed x y:∀a,eo (a++[x,y])=(eo (a++[x])||bD y x)
 |[]=>by simp[eo]
 |[c]=>by simp[eo]
 |c::d::t=>by have:=Ed x y (d::t);simp only[jK,eo]at this⊢;rw[this,Bool.or_assoc]
def Af b:∀a,eo a=true->eo (a++b)=true
 |[],e=>by simp[eo]at e
 |[c],e=>by simp[eo]at e
 |c::d::t,e=>by
  have:=Af b (d::t);simp only[jK,eo,dA]at this e⊢;rcases e with e|e
  exact .inl e;exact .inr (this e)
def Ee{l:List Bytes}{k x y}(c:l[k]?=some x)(d:l[k+1]?=some y):eo (l.take (k+2))=(eo (l.take (k+1))||bD y x):=by
 have a:l.take (k+1)=l.take k++[x]:=by rw[bH,c];rfl
 have b:l.take (k+2)=l.take k++[x,y]:=by rw[show k+2=(k+1)+1 from rfl,bH,d,a];simp
 rw[a,b,Ed]
def qR(x y:Bytes):Op.bytesLess x y= !bD y x:=by rw[Go.Proofs.bytesLess_eq];unfold bD;rw[ft];simp
def LM x w(g:cI w x.ao x.ac x.t.zx)(E:x.t.zx.length<=1048576):
 cX 116 #[dV x] w (.bool (eo x.t.zx)):=by
 obtain⟨r,j⟩:=am (eo x.t.zx);rw[<-j];have G:=g.2.1;have z:=g.2.2.1;unfold maxLen at z;obtain⟨⟨name,label,attrs,key,text,nodes⟩,o,ac,no,p⟩:=x;unfold dV typeRow;simp only at j g E G z⊢;have v:aR w (cT w (gT name label o attrs ac key text no nodes p) 55):=aP;have d:=aN w (.cells (gT name label o attrs ac key text no nodes p) 55);have⟨X,u⟩:=aC (And.intro v d) j;clear v d j
 go_in
 go_wp2
 go_loopw [3] (fun i wr=>∃k:Nat,i=.int .i64 (k+1)/\(k+1<=attrs∨k=0)/\wr.heap[w.heap.size]?=some (.cells (gT name label o attrs ac key text no nodes p) 55 (0,0))/\aR w wr/\Hid (eo (attrs.take (k+1))=false)) (fun i _=>attrs-(intOf i).toNat)
 case atStart=>
  refine⟨0,rfl,.inr rfl,X.out.2,X.out.1,?_⟩;show _=_
  cases attrs with
  |nil=>rfl
  |cons c t=>rfl
 case round=>
  obtain⟨k,rfl,R,d,h,s⟩:=hrel;clear X;have O:=bj wr _ 2 _ _ _ d;have B:=ah d;clear d;by_cases H:k+1<attrs
  ·have F:decide (k+1<(attrs:Int))=true:=bT
   have J:=aL k;have K:(k:Int)<attrs:=ad;have M:(0:Int)<=k+1:=ad;have N:k+1<(attrs:Int):=ad;have⟨x,l⟩:=df attrs k;have⟨y,m⟩:=aT H;have a:=Ee l m;rw[s.o,ou]at a;obtain⟨b,S,rfl,P,V⟩:=(g.O h).at l;have⟨I,T,e,Q,W⟩:=(g.O h).at m;injection e with e
   injection e with C D
   subst C;subst D;have t1:(((k:Int)+1).toNat)=k+1:=ad;have A:=qR x y;cases hv:bD y x with
   |true=>
    rw[hv]at a A;have f:r=true:=by rw[u.o,<-ig (k+2) attrs];exact Af _ _ a
    have⟨n,q⟩:=aC f a;clear f a hv l m
    go_wp2
    go_quiet(fail)
    go_wp2
    go_ret;exact⟨bJ n.o.zy,ee h _⟩
   |false=>
    rw[hv]at a A;have q:=ah a;clear a hv l m
    go_wp2
    go_quiet(fail)
    go_wp2
    go_roundw
    case rel=>exact⟨_,aD,.inl ad,B.o,ee h _,q.o⟩
    case measure=>exact aM
  have F:decide (k+1<(attrs:Int))=false:=bU;have f:r=false:=by have:=s.o;rwa[bI ad,<-u.o]at this
  have n:=ah f;clear f
  go_wp2
  go_ret;exact⟨bJ n.o.zy,h⟩
def LN{l:List aB}{k t}(a:l[k]?=some t):eW (l.drop k)=if t.text=false/\bK t.E≠0 then bK t.E else eW (l.drop (k+1)):=by obtain⟨b,e⟩:=aF.1 a;rw[mT b,e];rfl
def LO{w S P T M o cap l}(c:mW w S P T M o cap l)(d:ep l):
 cX 118 #[S] w (.int .i64 (eW (l.map ai.t))):=by
 obtain⟨p,a⟩:=am (eW (l.map ai.t));rw[<-a];have e:=d.len;have e:=c.types.1.2.2.1;unfold maxLen at e;have f:=bj w S 0 _ _ _ c.s;have e:=ah a;clear a
 go_in
 go_wp2_with fail
 clear f;go_loopw [8] (fun v wr=>∃k:Nat,v=.int .i64 k/\k<=l/\aR w wr/\Hid (p=eW ((l.map ai.t).drop k))) (fun v _=>l-(intOf v).toNat)
 case atStart=>exact⟨0,rfl,aH _,aA _ _,e.o⟩
 case round=>
  obtain⟨k,rfl,a,g,n⟩:=hrel;by_cases h:k<l
  ·have q:=bC h
   have a:=bk h;have⟨x,e⟩:=aT h;have i:=aK e;obtain⟨b,f,rfl,a,m,r,s,u,y,z⟩:=(c.types.O g).at e;have a:=LN (t:=x.t) (by rw[bR,e];rfl);rw[<-n.o]at a;have f:=fun w' j=>xm _ _ _ w' ((c.types.2 x i).2.O j) (d.sym x i);obtain⟨⟨name,label,attrs,key,text,nodes⟩,d,ac,no,j⟩:=x;simp only at m r s u y z a f;have c:=g.alloc g.size (.cells (gT name label d attrs ac key text no nodes j) 55);have d:=f _ c;clear e i f;cases text with
   |true=>
    rw[ap aj]at a;have e:=ah a;clear a d
    go_wp2
    go_roundw
    case rel=>exact⟨_,aD,ad,c,e.o⟩
    case measure=>exact aM
   |false=>
    have⟨E,i⟩:=am (bK nodes);rw[<-i]at a d;by_cases f:E=0
    ·subst f
     rw[ap aj]at a;have e:=ah a;clear a i;go_wp2_with fail
     refine ar d ?_;intro r j;clear d;have m:=c.Z (j.zz c.size)
     go_wp2
     go_roundw
     case rel=>exact⟨_,aD,ad,m,e.o⟩
     case measure=>exact aM
    rw[au ⟨rfl,f⟩]at a;have s:(E==0)=false:=by rw[dF];exact f
    have s:(E !=0)=true:=by rw[ka];exact f
    have e:=ah a;clear a i f;go_wp2_with fail
    refine ar d ?_;intro r j;clear d;have m:=c.Z (j.zz c.size)
    go_wp2
    go_ret;exact⟨da e.o.zy,m⟩
  have q:=bG h;have a:p=0:=by have:=n.o;rwa[se (by rw[bn];omega)]at this
  have c:=ah a;clear a
  go_wp2
  go_ret;exact⟨da c.o.zy,g⟩
def qS(b:Bytes)(a:b.length<=1048576):keyOf prog 9 b=some (.string b):=by have:=C8 iI (s:=⟨b.toArray⟩) (by rw[eJ];show b<=maxLen;unfold maxLen;omega);omega
def sD:∀a,(zeroValue 3).run prog a=.ok (0:Int) a:=fun a=>az
def LP{w P M ts}(e:w.heap[P]?=some (.cells #[.map M] 72 (0,0)))(g:fA w M ts) b(i:b.length<=1048576):
 cX 123 #[.string ⟨b.toArray⟩,.pointer (some ⟨P,0,none⟩)] w (.bool (placeS ts b).isNone):=by
 have p:=bj w P 0 _ _ _ e;obtain⟨D,n,f,q,l⟩:=g;have j:=qS b i;have o:=sD;have a:=f.has b;have d:(placeS ts b).isNone= !(placeS ts b).isSome:=by cases placeS ts b<;>rfl
 rw[d,<-a];clear d a e
 go_in
 go_wp2_with(first
  |(at_lookup;go_must (refine Kt _ rfl _ _ 72 rfl 9 3 _ (om iI) lT ei (o _) M _ D rfl l _ _ rfl j ?_);intro c h m;clear h m)
  |fail)
 go_ret;exact⟨rfl,aA _ _⟩
def LQ{B w w'}(a:Below B w w'){k o}(c:w.heap[k]?=some o)(b:k<B):w'.heap[k]?=some o:=(a.J k b).Z c
def sE l:(symsS l).length<=1024:=by
 unfold symsS;split;rename_i a;have d:l.length<=1024:=by apply dU;intro c;unfold bK at a;rw[au ad]at a;cases a
 have b:∀l:List Bytes,(dN l).length<=l.length:=by intro l;rw[<-xn];exact C5 l
 have:=b ((gQ l).mergeSort bD);rw[Ku]at this;have:=xq l;omega;simp
def LR:∀args a,(callFunc 123 args).run prog a=.ok (.enter 123 args) a:=fun _ _=>rfl
def LS{w P M ts}(i:w.heap[P]?=some (.cells #[.map M] 72 (0,0)))(m:fA w M ts) x(o:dv w x.no x.nc x.t.E)(j:∀n∈x.t.E,n.sym.length<=1048576):
 cX 120 #[dV x,.pointer (some ⟨P,0,none⟩)] w (.bool ((symsS x.t.E).any fun n=>(placeS ts n).isNone)):=by
 have s:∀b∈symsS x.t.E,b.length<=1048576:=fun b a=>by obtain⟨n,C,rfl⟩:=Ae a;exact j n C
 have E:=sE x.t.E;have c:=fun O a=>xr _ _ _ O (o.O a) j;unfold uE at c;have⟨J,r⟩:=am (symsS x.t.E);rw[<-r]at c s E⊢;have d:=fun w' (a:aR w w') I H y=>Ea (F:=123) (caps:=#[P]) J I H w' y ad LR
  (fun b z w1 p=>LP (LQ (a.Z (p.zz a.size)) i (aS i)) (m.O (a.Z (p.zz a.size))) b (s b z))
 obtain⟨⟨name,label,attrs,key,text,nodes⟩,u,ac,no,G⟩:=x;unfold dV typeRow;simp only at c⊢;have f:aR w (cT w (gT name label u attrs ac key text no nodes G) 55):=aP;have t:=c _ f;have l:=ah d;clear c d o r m j i
 go_in
 go_wp2_with fail
 apply t.zz;rintro e Q ⟨⟨v,rfl,h⟩,A⟩;have g:=f.Z (A.zz f.size);obtain⟨N,K,rfl⟩:=nK h;have⟨D,q⟩:=pC h;have d:=l.o Q g N K q;clear l t q h D;go_wp2_with fail
 refine ar d ?_;intro R B
 go_wp2
 go_ret;exact⟨rfl,g.Z (B.zz g.size)⟩
def LT{w S P T M o cap l}(a:mW w S P T M o cap l)(p:l.length<=1048576):
 de 115 #[T,P,S] w (.int .i64 (if cz ((l.map ai.t).map aB.name)=true then 15 else 0)) fun w'=>w=w':=by
 have h:=bj w S 0 _ _ _ a.s;have i:=bj w T 0 _ _ _ a.t;have j:=bj w P 0 _ _ _ a.p;have m:=xx;have⟨D,n,d,f,b⟩:=a.places;have c:=D5 ((l.map ai.t).map aB.name);rw[bn,bn,<-d.size]at c;have q:Maps.size D<=l.length:=by have:=b.size_le;rw[bn]at f;omega
 rw[<-c];clear a c d f;by_cases e:Maps.size D<l
 ·have g:decide (Maps.size D<(l:Int))=true:=bT
  rw[iS e,au rfl]
  go_in
  go_wp2_with(first
   |(at_len;refine wpList_len_own _ rfl _ 72 rfl 9 3 lT _ M _ D rfl b ?_)
   |fail)
  refine ar (xu _ _) ?_;rintro w' rfl
  go_wp2
  go_ret;simp
 ·have g:decide (Maps.size D<(l:Int))=false:=bU
  rw[qD e,ap aj]
  go_in
  go_wp2_with(first
   |(at_len;refine wpList_len_own _ rfl _ 72 rfl 9 3 lT _ M _ D rfl b ?_)
   |fail)
  refine ar (xw _ _) ?_;rintro w' rfl
  go_wp2
  go_ret;simp
def LU:∀ts i n r k,(∀j,r=some j->j<i+ts.length)->mV i ts n r=some k->k<i+ts:=by
 intro ts;induction ts with
 |nil=>intro i n r k c b;exact c k b
 |cons t ts ih=>
  intro i n r k c b;have:=ih (i+1) n (if t.name=n then some i else r) k (fun j a=>by
   split at a;injection a with a;omega
   have:=c j a;simp at this;omega) b
  simp;omega
def sF{ts n k}(a:placeS ts n=some k):k<ts:=by have:=LU ts 0 n none k (fun j b=>by cases b) a;omega
def Ef{ts t}(c:1<=ts.length){k}(a:k∈kidsS ts t):k<ts:=by
 unfold kidsS at a;obtain⟨n,_,rfl⟩:=dL.1 a;cases b:placeS ts n with
 |none=>simp;omega
 |some j=>have:=sF b;assumption
def Ag{ts k t}(a:ts[k]?=some t):labelAt ts k=t.zv:=by unfold labelAt;rw[a]
def Eg{ts k t}(a:ts[k]?=some t):gS ts k=t.zx:=by unfold gS;rw[a]
structure pD(D:DataW Unit)(ls:List Bytes):Prop where
 tidy:Maps.Tidy D
 has:∀n:Bytes,Maps.has D (.string n)=ls.contains n
 size:Maps.size D=kM ls
def pD.nil:pD (.map []) []:=⟨Maps.tidy_empty,fun n=>rfl,rfl⟩
def pD.snoc{D:DataW Unit}{f:List Bytes}(b:pD D f)(a:Bytes)(d:DataW Unit):pD (D.put (.string a) d) (f++[a]):=by refine⟨b.tidy.put eY _,fun n=> ?_,?_⟩;by_cases e:a=n;subst e;rw[Kq b.tidy.isMap eY];simp;rw[Kr (by simpa using fun c=>e c.zy),b.has n];rw[ft];simp;exact fun c=>absurd c.zy e;rw[Maps.size_put b.tidy,b.has a,D4,b.size]
def Eh x w:aR w (cT w (typeRow x) 55):=aP
def LV{w w' B v l row}(a:bW w B v l)(b:w.grownBy w' row)(c:v.ownBlock=none∨v.ownBlock≠row):bW w' B v l:=cm a b c
def LW{w S P T M o cap l}(c:mW w S P T M o cap l)(C:ep l) x(f:x∈l):
 cX 124 #[dV x,S,P] w (.bool (cz ((kidsS (l.map ai.t) x.t).map (labelAt (l.map ai.t))))):=by
 have ba:1<=l.length:=by cases l with|nil=>simp at f|cons a t=>simp
 have b0:=C.len;have a2:=c.types.1.2.2.1;unfold maxLen at a2;have d:∀k∈kidsS (l.map ai.t) x.t,k<l.length:=fun k m=>by have:=Ef (by rw[bn];exact ba) m;rwa[bn]at this
 have a6:(kidsS (l.map ai.t) x.t).length<=1024:=by unfold kidsS;rw[bn];exact sE _
 have r:=fun w' (E:Below w.heap.size w w')=>D9 (l.map ai.t) x (.agg #[.slice o l.length cap]) M w' ⟨_,_,_,rfl⟩ ((c.types.2 x f).2.O E) (c.places.O E) (jO E.size c.mlt) (aQ (sE x.t.E)) (C.sym x f);have⟨ks,G⟩:=am (kidsS (l.map ai.t) x.t);rw[<-G]at d a6 r⊢;have R:=Eh x w;have bE:=aS c.s;have bB:=aS c.p;have b1:= @pq prog;have q:aR w ((w.alloc (.cells (typeRow x) 55)).alloc (.map #[] 0)):=R.alloc aj _;have aa:((w.alloc (.cells (typeRow x).toArray 55)).alloc (.map #[] 0)).ownsMap prog 9 (plainElem (H:=Unit) prog 3) (w.heap.size+1) 0 (.map []):=by have:=C7 (H:=Unit) (cT w (typeRow x) 55) prog 9 (plainElem prog 3);rwa[bP]at this
 have B:=c.O q;have cs:=bj _ S 0 _ _ _ B.s;have cp:=bj _ P 0 _ _ _ B.p;have bc:((w.alloc (.cells (typeRow x) 55)).alloc (.map #[] 0)).heap[w.heap.size]?=some (.cells (typeRow x) 55 (0,0)):=
  (((aA (w+1) _).alloc aj _).J _ ad).Z (aN w _)
 have W:=r _ q;have bd:((w.alloc (.cells (typeRow x) 55)).alloc (.map #[] 0))=w.heap.size+2:=aj;have X:∀k t,l[k]?=some t->labelAt (l.map ai.t) k=t.t.zv:=fun k t m=>Ag (by rw[bR,m];rfl);have ae:=C.zv;obtain⟨⟨name,label,attrs,key,text,nodes⟩,av,ac,no,be⟩:=x;unfold dV typeRow at*;simp only at*;have⟨bu,ag,ao,an,bw⟩:=iz r X ae d G;clear r X ae d G bc bd;have⟨p,A⟩:=am (ks.map (labelAt (l.map ai.t)));rw[<-A];have af:=D5 p;have Y:p=ks.length:=by rw[A,bn]
 rw[<-af,Y];have N:=ah A;clear af Y A
 go_in
 go_wp2_with fail
 apply W.zz;rintro e b8 ⟨⟨v,rfl,I⟩,h⟩;have a1:=q.Z (h.zz q.size);obtain⟨bg,bf,rfl,y⟩:=uF I;have a9:=World.ownsMap.zw (row:=none) aa ⟨h.os,h.tape,h.output,h.size,fun k m _=>h.J k m⟩ aj;rw[show(((w.alloc (.cells (gT name label av attrs ac key text no nodes be) 55)).alloc (.map #[] 0)))=w.heap.size+2 from aj]at I;clear W h aa B cs cp R q y
 go_wp2
 go_loopw [16] (fun i wr=>∃k n D,i=.int .i64 (k:Nat)/\k<=ks/\n<=k/\Hid (pD D (p.take k))/\wr.ownsMap prog 9 (plainElem prog 3) (w+1) n D/\bW wr (w+2) (.slice bg ks bf) ks/\aR w wr) (fun i _=>ks-(intOf i).toNat)
 case atStart=>exact⟨0,0,_,rfl,aH _,ay _,pD.nil,a9,I,a1⟩
 case round=>
  obtain⟨k,n,D,rfl,m,b2,K,ab,F,u⟩:=hrel;have Q:=c.O u;have cs:=bj _ S 0 _ _ _ Q.s;by_cases d:k<ks
  ·have a3:=bC d
   have r:=bk d;have⟨j,z⟩:=aT d;have a4:=an.o j (aK z);have bz:=aL j;have bA:(j:Int)<l:=ad;have⟨x,f⟩:=aT a4;have⟨b7,b6,e,y⟩:=uF F;injection e with aw s a0
   subst aw;subst a0;obtain⟨g,b4,rfl,bZ,cb⟩:=y.at z;obtain⟨b,b5,rfl,bF,bi,ca,bl,bo,bq,bt⟩:=Q.types.at f;have a5:=qS _ (ao.o x (aK f));have Z:p.take (k+1)=p.take k++[x.t.zv]:=by rw[bH,N.o,bR,z];simp[ag.o j x f]
   have al:=ah Z;have b3:=sD;clear Z f z bi bl bo bq bt y;go_wp2_with(first
    |(at_mapUpdate;go_must (refine C9 _ rfl _ _ _ 72 rfl 9 3 (om iI) lT _ _ _ D rfl ab bO _ _ _ rfl rfl a5 _ [] (plainElem_int ei (oI ad)) ?_);intro b9 bb V)
    |fail)
   go_roundw
   case rel=>exact⟨k+1,_,_,aD,ad,ad,by show pD _ _;rw[al.o];exact K.o.snoc _ _,bb,LV F V (.inr (by have:=aY F g rfl;intro s;injection s with s;simp only at s;omega)),u.zu V u.size (fun j e=>by cases e;omega)⟩
   case measure=>exact aM
  have a3:=bG d;have a7:p.length=ks.length:=by rw[N.o,bn]
  have J:=K.o.size;rw[bI ad]at J;have O:=ah J;clear J a7;go_wp2_with(first
   |(at_len;refine wpList_len_own _ rfl _ 72 rfl 9 3 lT _ (w.heap.size+1) _ D rfl ab ?_)
   |fail)
  go_ret;exact⟨bJ (by first|rw[<-O.o]|(rw[<-O.o,ft];simp)),u⟩
def LX{a b:Bytes}(c:(⟨a⟩:ByteArray)=⟨b⟩):a=b:=by
 have d:a=b.toArray:=by injection c
 have:=gA Array.toList d;omega
def LY l o cap w(i:cI w o cap l)(q:l.length<=1048576) k:
 de 128 #[.slice o l cap,.string ⟨k.toArray⟩] w (.bool (l.contains k)) fun w'=>w'=w:=by
 by_cases n:l.length=0;obtain rfl:=pp n;exact(slices_Contains_string_empty o cap _ w).zz fun e w' ⟨c,d⟩=>⟨by rw[c];rfl,d⟩;obtain⟨b,p,rfl,r,m⟩:=i.2.2.2 ad;refine(slices_Contains_string b p _ cap (l.map fun b=>⟨b.toArray⟩) _ w (by rw[bn];simp) ad (fun j f=> ?_)).zz fun e w' ⟨c,d⟩=>⟨?_,d⟩;rw[bn]at f;apply m j _;rw[bR,cV f];simp[f];rw[c];apply bJ;rw[bI (by rw[bn];simp),ft,Lib.containsS_iff];constructor;intro g;obtain⟨a,h,e⟩:=dL.1 g;rw[LX e]at h;simpa using h;intro g;exact dL.2 ⟨k,by simpa using g,rfl⟩
def LZ{w S X o cap l}(h:w.heap[S]?=some (.cells #[.slice o l cap] 24 (0,0)))(c:cw w o cap l)(e:ep l) x
 (a:w.heap[X]?=some (.cells (typeRow x) 55 (0,0))) j (p:j<l.length):
 cX 127 #[.int .i64 j,.pointer (some ⟨S,0,none⟩),.pointer (some ⟨X,0,none⟩)] w (.bool ((gS (l.map ai.t) j).contains x.t.key)):=by
 obtain⟨y,d⟩:=aT p;have g:=aK d;have f:gS (l.map ai.t) j=y.t.zx:=Eg (by rw[bR,d];rfl);rw[f];have D:=e.len;have m:=c.1.2.2.1;unfold maxLen at m;obtain⟨b,F,rfl,C,q,r,G,s,t,u⟩:=c.at d;have i:=fun n=>LY _ _ _ _ ((c.2 y g).1.O (ee (aA _ w) n)) (e.zx y g) x.t.key;have cs:=bj w S 0 _ _ _ h;obtain⟨⟨name,label,attrs,key,text,nodes⟩,v,ac,no,E⟩:=x;unfold typeRow at a;simp only at a i⊢;have B:=bj w X 3 _ _ _ a;have z:=aL j;have A:(j:Int)<l:=ad;clear a h c f d q r s t u
 go_in
 go_wp2
 go_quiet((go_at_call 128;exact zI (i _)))
 go_wp2
 go_ret;exact⟨rfl,ee (aA _ w) _⟩
end Go.Proofs.YtfeidcmojcijpaaGreatDoor
