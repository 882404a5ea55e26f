import Derived.Test.YtfeidcmojcijpaaGreatDoorQbm
set_option linter.all false
set_option maxRecDepth 100000
set_option maxHeartbeats 0
namespace Go.Proofs.YtfeidcmojcijpaaGreatDoor
open Go.RowKit Tryz
def pg(w:World)(a:Addr)(v:Value):(w.setCell a v).os=w.os:=rfl
def ph(w:World)(a:Addr)(v:Value):(w.setCell a v).tape=w.tape:=rfl
def pi(w:World)(a:Addr)(v:Value):(w.setCell a v).output=w.output:=rfl
def UJ(W:World)(Q b d k g:Nat)(f h:Value)(L:List WI)(a:fk W Q b d f h k g L):
 Calls prog 308 #[.pointer (some ⟨Q,0,none⟩)] W fun e w'=>e=.returned (.int .i64 (L.length:Nat))/\w'=W:=by
 obtain⟨o,c,rfl⟩:=bs a.zt;have i:=ak 0 a.box;clear a;go_enter func308,ntmps308
 go_wp2
 go_ret;exact⟨rfl,rfl⟩
def JG(v:Value)(W:World):(Instr.typeAssert (.iface 257 v) 20 257 true).run prog W=.ok (.tuple #[v,.bool true]) W:=az
def UK(W:World)(Q l a k b:Nat)(f d:Value)(L:List WI)(x:WI)(g:fk W Q l a f d k b L)(E:L.length<=1048576):
 Calls prog 311 #[.pointer (some ⟨Q,0,none⟩),.iface 257 (.agg (ld x).toArray)] W fun e w'=>e=.returned (.tuple #[])/\(∃y,fk w' Q l a y d k b (L++[x]))/\cF Q W w':=by
 obtain⟨J,D,F,G,I⟩:=cZ UC;obtain⟨s,t,V,j,h,m⟩:=x;unfold ld;simp only[List.toArray];obtain⟨i,a⟩:=am V.length;rw[<-a];have A:=ah a;clear a;obtain⟨n,w⟩:=am L.length;obtain⟨o,c,rfl⟩:=bs g.zt;obtain⟨H,f⟩:=aC g w;obtain⟨a,v,p,b⟩:=dy W (.cells #[.int .i64 (s:Nat),.int .i64 (t:Nat),.slice j i h,.int .u64 (m:Nat)] 257);have K:=fH v;have r:=g.O p;have q:=ak 0 r.box;obtain⟨d,B,C,M⟩:=dC b;obtain⟨B,d,C⟩:=bm p r b;clear g r b p;rw[<-w]at q E;clear w;have g:=JG (.agg #[.int .i64 (s:Nat),.int .i64 (t:Nat),.slice j i h,.int .u64 (m:Nat)]) W;go_enter func311,ntmps311
 go_wp2_with(first
  |(rw[<-v];clear v)
  |fail)
 have v:some Q≠(Value.slice o n c).ownBlock:=fun e=>by have:=(aV d.o.zt (by rw[<-f.o];exact e.zy)).1;have:=d.o.low;omega
 have g:some W.heap.size≠(Value.slice o n c).ownBlock:=fun e=>by have:=(aV H.o.zt (by rw[<-f.o];exact e.zy)).2;omega
 have g:=aS H.o.box;have r:∀w',Below a.heap.size a w'->w'.cell? ⟨Q,0,none⟩=some (.slice o n c)/\w'.frozen? ⟨Q,0,none⟩=false/\w'.cell? ⟨W.heap.size,0,none⟩=some (.int .i64 (s:Nat))/\w'.cell? ⟨W.heap.size,1,none⟩=some (.int .i64 (t:Nat)):=fun w' g=>by have p:=(g.J Q ad).Z d.o.box;have b:=(g.J W.heap.size ad).Z C.o;rw[<-f.o]at p;exact⟨ak 0 p,aJ p 0,ak 0 b,ak 1 b⟩
 have w:∀u b:World,Below a.heap.size a u->u.grownBy b (Value.slice o n c).ownBlock->b.cell? ⟨Q,0,none⟩=some (.slice o n c)/\b.frozen? ⟨Q,0,none⟩=false:=by intro u b g p;have b:=g.size;obtain⟨q,b,C,E⟩:=r u g;exact⟨(p.cell_far ⟨Q,0,none⟩ (by show Q<_;omega) v).Z q,(p.frozen_far ⟨Q,0,none⟩ (by show Q<_;omega) v).Z b⟩
 have b:=(aA a.heap.size a).drew;obtain⟨b,g,p,q⟩:=r a (aA _ _);have g:=d.o.zt;rw[<-f.o]at g;have b:l<=a.heap.size:=d.o.lowB
 go_region_law (first
  |((refine nG _ (by rfl) _ _ _ (by rfl) l 257 J _ 4 48 underlying259 D F G I rfl ad (.slice o n c) n (ip L) (by rfl) (by(first|exact dp g.drew _|exact(dp g _).drew)) ⟨W.heap.size+1,0,none⟩ 1 1 [.int .i64 (s:Nat),.int .i64 (t:Nat),.slice j i h,.int .u64 (m:Nat)] (by rfl) (by rfl) (by exact eq a.drew [.int .i64 (s:Nat),.int .i64 (t:Nat),.slice j i h,.int .u64 (m:Nat)] _ _ K.zy) (fun z b=>by simp at b;rcases b with rfl|rfl|rfl|rfl<;>rfl) ad bO ad aO _ rfl ?_);intro r gc M q d p v;obtain⟨C,E⟩:=w _ _ (by first|exact aP.drew|exact((aA _ a).drew).alloc aj _) d))
 all_goals go_wp2_with fail
 all_goals go_end0
 all_goals(have l:=f.o;subst l;have b:=GJ (ys:=[.int .i64 (s:Nat),.int .i64 (t:Nat),.slice j i h,.int .u64 (m:Nat)]) H.o B.o (by first|exact aP.drew|exact((aA _ a).drew).alloc aj _) d q (by simpa using p);refine⟨rfl,?_,b.2⟩;obtain⟨y,g⟩:=b.1;exact⟨y,by unfold fk;rw[ck,UF];rw[A.o]at g;exact g⟩)
def UL(n:Nat)(x y:WI)(w:World)(q:w.heap[n]?=some (.cells #[.func (.func 83) #[] #[]] 175))(j:cI w x.o x.c x.V)(l:cI w y.o y.c y.V)(A:x.V.length<=1048576)(B:y.V.length<=1048576):
 Calls prog 167 #[.agg (ld x).toArray,.agg (ld y).toArray,.pointer (some ⟨n,0,none⟩)] w fun e w'=>e=.returned (.bool (kC x y))/\Below w.heap.size w w':=by
 obtain⟨s,t,V,g,f,m⟩:=x;obtain⟨d,t2,b,i,h,a⟩:=y;unfold ld;simp only[List.toArray]at j l⊢;have D:=aS q;have r:=fun w' (o:Below w.heap.size w w')=>CE s t d t2 V b g i f h w' (j.O o) (l.O o) A B;obtain⟨v,p⟩:=am V.length;obtain⟨z,u⟩:=am b.length;obtain⟨c,o⟩:=am (k8 t t2 V b);rw[<-o,<-p,<-u]at r;rw[<-p,<-u];have C:kC ⟨s,t,V,g,f,m⟩ ⟨d,t2,b,i,h,a⟩=(decide (c<0)||(decide (c=0)&&decide (m<a))):=by unfold kC;rw[o]
 rw[C];clear j l A B p u o C;obtain⟨l,b⟩:=am ((w.alloc (.cells #[.int .i64 (s:Nat),.int .i64 (t:Nat),.slice g v f,.int .u64 (m:Nat)] 257)).alloc (.cells #[.int .i64 (d:Nat),.int .i64 (t2:Nat),.slice i z h,.int .u64 (a:Nat)] 257));have j:Below w.heap.size w l:=by rw[b];exact aP.alloc aj _
 have o:l.heap[w.heap.size]?=some (.cells #[.int .i64 (s:Nat),.int .i64 (t:Nat),.slice g v f,.int .u64 (m:Nat)] 257):=by rw[b];exact(br _ _ _ aj).Z (aN w _)
 have p:l.heap[w.heap.size+1]?=some (.cells #[.int .i64 (d:Nat),.int .i64 (t2:Nat),.slice i z h,.int .u64 (a:Nat)] 257):=by rw[b];have:=aN (w.alloc (.cells #[.int .i64 (s:Nat),.int .i64 (t:Nat),.slice g v f,.int .u64 (m:Nat)] 257)) (.cells #[.int .i64 (d:Nat),.int .i64 (t2:Nat),.slice i z h,.int .u64 (a:Nat)] 257);rwa[bP]at this
 have u:=ak 0 ((j.J n D).Z q);obtain⟨n,v,z⟩:=dP o;obtain⟨A,B,C⟩:=dP p;have f:∀args (d:World),(callFunc 83 args).run prog d=.ok (.enter 83 args) d:=fun _ _=>rfl;obtain⟨i,h,f,g⟩:=dE (r l j) j o p;clear r q j o p;go_enter func167,ntmps167
 go_wp2_with(first|(rw[<-b];clear b)|fail)
 refine ar i.o ?_;intro b d;have b:=ak 3 ((d.J _ (aS f.out)).Z f.out);have b:=ak 3 ((d.J _ (aS g.out)).Z g.out);have b:=ah (aE h.out d);clear d n A u v z B C i h f g;by_cases d:c=0;subst d;cases f:decide (m<a)with
 |true=>
  go_wp2
  go_ret;exact⟨by rfl,b.o⟩
 |false=>
  go_wp2
  go_ret;exact⟨by rfl,b.o⟩
 have d0:(c==0)=false:=dF.2 d;cases f:decide (c<0)with
 |true=>
  go_wp2
  go_ret;exact⟨by rw[f];rfl,b.o⟩
 |false=>
  have d1:decide (c=0)=false:=qD d
  go_wp2
  go_ret;exact⟨by rw[f,d1];rfl,b.o⟩
def UM(W:World)(Q d o k l i j:Nat)(h v:Value)(L:List WI)(a b:WI)(f:fk W Q d o h v k l L)(r:L[i]?=some a)(u:L[j]?=some b)(w:L.length<=1048577)(A:cI W a.o a.c a.V)(B:cI W b.o b.c b.V)(D:a.V.length<=1048576)(E:b.V.length<=1048576):
 Calls prog 309 #[.pointer (some ⟨Q,0,none⟩),.int .i64 (i:Nat),.int .i64 (j:Nat)] W fun e w'=>e=.returned (.bool (kC a b))/\Below W.heap.size W w':=by
 have af:=(aF.1 r).1;have ag:=(aF.1 u).1;obtain⟨g,c,rfl⟩:=f.iv_form ad;obtain⟨n,F⟩:=am L.length;have y:=ak 0 f.box;have z:=ak 2 f.box;obtain⟨M,N,v,O⟩:=f.cells rfl r;obtain⟨T,X,w,Y⟩:=f.cells rfl u;have l:=fun w' (d:Below W.heap.size W w')=>UL o a b w' ((d.J o (aS f.ob)).Z f.ob) (A.O d) (B.O d) D E;have h:=(aV f.zt (g:=g) rfl).2;have C:=aS f.box;obtain⟨q,G⟩:=am (kC a b);rw[<-G]at l⊢;obtain⟨s,t,V,S,P,m⟩:=a;obtain⟨K,t2,x,ab,Z,J⟩:=b;unfold ld at l;simp only[List.toArray]at M N v O T X w Y l;obtain⟨R,H⟩:=am V.length;obtain⟨aa,I⟩:=am x.length;rw[<-H]at v l;rw[<-I]at w l;have ae:=ah l;have x:=aL i;have x:=aL j;have x:(i:Int)<n:=ad;have x:(j:Int)<n:=ad;have x:i<n:=ad;have x:j<n:=ad;rw[<-F]at y;have al:∀args (x:World),(callFunc 167 args).run prog x=.ok (.enter 167 args) x:=fun _ _=>rfl;unfold tT at z;have x:Hid (∀w',Below W.heap.size W w'->(w'.cell? ⟨Q,0,none⟩=some (.slice (some ⟨g,0,none⟩) n c)/\w'.cell? ⟨Q,2,none⟩=some (.func (.func 167) #[] #[.pointer (some ⟨o,0,none⟩)]))/\(w'.cell? ⟨g,i*4,none⟩=some (.int .i64 (s:Nat))/\w'.cell? ⟨g,i*4+1,none⟩=some (.int .i64 (t:Nat))/\w'.cell? ⟨g,i*4+2,none⟩=some (.slice S R P)/\w'.cell? ⟨g,i*4+3,none⟩=some (.int .u64 (m:Nat)))/\(w'.cell? ⟨g,j*4,none⟩=some (.int .i64 (K:Nat))/\w'.cell? ⟨g,j*4+1,none⟩=some (.int .i64 (t2:Nat))/\w'.cell? ⟨g,j*4+2,none⟩=some (.slice ab aa Z)/\w'.cell? ⟨g,j*4+3,none⟩=some (.int .u64 (J:Nat)))/\Below W.heap.size W w'):=ah fun w' d=>
  ⟨⟨(d.cell (p:=⟨Q,0,none⟩) C).Z y,(d.cell (p:=⟨Q,2,none⟩) C).Z z⟩,⟨(d.cell (p:=⟨g,i*4,none⟩) h).Z M,(d.cell (p:=⟨g,i*4+1,none⟩) h).Z N,(d.cell (p:=⟨g,i*4+2,none⟩) h).Z v,(d.cell (p:=⟨g,i*4+3,none⟩) h).Z O⟩,
    ⟨(d.cell (p:=⟨g,j*4,none⟩) h).Z T,(d.cell (p:=⟨g,j*4+1,none⟩) h).Z X,(d.cell (p:=⟨g,j*4+2,none⟩) h).Z w,(d.cell (p:=⟨g,j*4+3,none⟩) h).Z Y⟩,d⟩
 clear f l G F r u A B D E H I af ag;go_enter func309,ntmps309
 go_wp2_with fail
 go_region_held3(fun w'=>(w'.cell? ⟨Q,0,none⟩=some (.slice (some ⟨g,0,none⟩) n c)/\w'.cell? ⟨Q,2,none⟩=some (.func (.func 167) #[] #[.pointer (some ⟨o,0,none⟩)]))/\(w'.cell? ⟨g,i*4,none⟩=some (.int .i64 (s:Nat))/\w'.cell? ⟨g,i*4+1,none⟩=some (.int .i64 (t:Nat))/\w'.cell? ⟨g,i*4+2,none⟩=some (.slice S R P)/\w'.cell? ⟨g,i*4+3,none⟩=some (.int .u64 (m:Nat)))/\(w'.cell? ⟨g,j*4,none⟩=some (.int .i64 (K:Nat))/\w'.cell? ⟨g,j*4+1,none⟩=some (.int .i64 (t2:Nat))/\w'.cell? ⟨g,j*4+2,none⟩=some (.slice ab aa Z)/\w'.cell? ⟨g,j*4+3,none⟩=some (.int .u64 (J:Nat)))/\Below W.heap.size W w')
  (first|exact x.o _ (aA _ W).drew|exact x.o _ (aE (aA _ W).drew d))
  (first|(go_at_call 167;refine(ae.o _ ?_).zz ?_;(focus(exact(aA _ W).drew));rintro e f ⟨rfl,d⟩))
 go_wp2
 go_ret;exact⟨rfl,aE (aA _ W).drew d⟩
def UN{W:World}{Q m p g c k r i j:Nat}{s:Value}{L:List WI}{a b:WI}(d:fk W Q m p (.slice (some ⟨g,0,none⟩) L.length c) s k r L)(y:L[i]?=some a)(A:L[j]?=some b):
 fk ((((((((W.setCell ⟨g,i*4,none⟩ (.int .i64 (b.s:Nat))).setCell ⟨g,i*4+1,none⟩ (.int .i64 (b.n:Nat))).setCell ⟨g,i*4+2,none⟩ (.slice b.o b.V.length b.c)).setCell ⟨g,i*4+3,none⟩ (.int .u64 (b.p:Nat))).setCell ⟨g,j*4,none⟩ (.int .i64 (a.s:Nat))).setCell ⟨g,j*4+1,none⟩ (.int .i64 (a.n:Nat))).setCell ⟨g,j*4+2,none⟩ (.slice a.o a.V.length a.c)).setCell ⟨g,j*4+3,none⟩ (.int .u64 (a.p:Nat))) Q m p (.slice (some ⟨g,0,none⟩) L.length c) s k r (swapL L i j)/\
 cF Q W ((((((((W.setCell ⟨g,i*4,none⟩ (.int .i64 (b.s:Nat))).setCell ⟨g,i*4+1,none⟩ (.int .i64 (b.n:Nat))).setCell ⟨g,i*4+2,none⟩ (.slice b.o b.V.length b.c)).setCell ⟨g,i*4+3,none⟩ (.int .u64 (b.p:Nat))).setCell ⟨g,j*4,none⟩ (.int .i64 (a.s:Nat))).setCell ⟨g,j*4+1,none⟩ (.int .i64 (a.n:Nat))).setCell ⟨g,j*4+2,none⟩ (.slice a.o a.V.length a.c)).setCell ⟨g,j*4+3,none⟩ (.int .u64 (a.p:Nat))):=by
 obtain⟨n,l⟩:=am (((((((((W.setCell ⟨g,i*4,none⟩ (.int .i64 (b.s:Nat))).setCell ⟨g,i*4+1,none⟩ (.int .i64 (b.n:Nat))).setCell ⟨g,i*4+2,none⟩ (.slice b.o b.V.length b.c)).setCell ⟨g,i*4+3,none⟩ (.int .u64 (b.p:Nat))).setCell ⟨g,j*4,none⟩ (.int .i64 (a.s:Nat))).setCell ⟨g,j*4+1,none⟩ (.int .i64 (a.n:Nat))).setCell ⟨g,j*4+2,none⟩ (.slice a.o a.V.length a.c)).setCell ⟨g,j*4+3,none⟩ (.int .u64 (a.p:Nat))));rw[<-l];have C:=(aV d.zt (g:=g) rfl).1;have x:Q≠g:=fun e=>by have:=d.low;omega
 have o:∀b,b≠g->n.heap[b]?=W.heap[b]?:=fun b f=>by rw[l,aU _ _ _ _ _ f,aU _ _ _ _ _ f,aU _ _ _ _ _ f,aU _ _ _ _ _ f,aU _ _ _ _ _ f,aU _ _ _ _ _ f,aU _ _ _ _ _ f,aU _ _ _ _ _ f]
 have D:n.heap.size=W.heap.size:=by rw[l];simp only[eF]
 have z:n.ownsRow m 257 4 (.slice (some ⟨g,0,none⟩) L.length c) L.length (ip (swapL L i j)):=by
  have e:swapL L i j=(L.set i b).set j a:=by simp[swapL,y,A]
  rw[l,e,JF,JF];exact iN (iN (iN (iN (iN (iN (iN (iN d.zt)))))))
 obtain⟨zs,B⟩:=d.zk;have w:=(o Q x).Z d.box;have t:fk n Q m p (.slice (some ⟨g,0,none⟩) L.length c) s k r (swapL L i j):=
  d.turned _ _ w (by rw[oT];exact z) ⟨zs,aX B (fun u h=>o u (fun e=>d.apart g rfl (e▸h)))⟩ ad (fun b h v q _=>o b (fun e=>q (by rw[e];rfl))) d.apart
 exact⟨t,oU d.box t.box (by rw[l,pg,pg,pg,pg,pg,pg,pg,pg]) (by rw[l,ph,ph,ph,ph,ph,ph,ph,ph]) (by rw[l,pi,pi,pi,pi,pi,pi,pi,pi]) ad (fun b h v q _=>o b (fun e=>q (by rw[e];rfl))) (fun g h=>.inl h) (fun g h=>.inr (.inl h))⟩
def UO(W:World)(Q p B k J i j:Nat)(h l:Value)(L:List WI)(a b:WI)(d:fk W Q p B h l k J L)(A:L[i]?=some a)(f:L[j]?=some b)(r:L.length<=1048577)(q:k<=1048576):
 Calls prog 312 #[.pointer (some ⟨Q,0,none⟩),.int .i64 (i:Nat),.int .i64 (j:Nat)] W fun e w'=>e=.returned (.tuple #[])/\(∃I y,fk w' Q p B I y (k+1) J (swapL L i j))/\cF Q W w':=by
 have h:=(aF.1 A).1;have h:=(aF.1 f).1;obtain⟨g,c,rfl⟩:=d.iv_form ad;obtain⟨bf,ba,bc,bd,be⟩:=cZ GE;have w:=d.O (aA _ W).drew;obtain⟨h,l⟩:=UN d A f;have r:=h.O (aA _ _).drew;have D:=l.Z (im h (aA _ _).drew);obtain⟨C,q⟩:=am (((((((((W.setCell ⟨g,i*4,none⟩ (.int .i64 (b.s:Nat))).setCell ⟨g,i*4+1,none⟩ (.int .i64 (b.n:Nat))).setCell ⟨g,i*4+2,none⟩ (.slice b.o b.V.length b.c)).setCell ⟨g,i*4+3,none⟩ (.int .u64 (b.p:Nat))).setCell ⟨g,j*4,none⟩ (.int .i64 (a.s:Nat))).setCell ⟨g,j*4+1,none⟩ (.int .i64 (a.n:Nat))).setCell ⟨g,j*4+2,none⟩ (.slice a.o a.V.length a.c)).setCell ⟨g,j*4+3,none⟩ (.int .u64 (a.p:Nat))).drew);rw[<-q]at r D;clear h l w;have hv:∀(u:World) (o:Nat),(∃v,u.cell? ⟨g,o,none⟩=some v)->∀h x,∃v,(u.setCell ⟨g,h,none⟩ x).cell? ⟨g,o,none⟩=some v:=fun u o ⟨v,hv⟩ h x=>by by_cases e:o=h;subst e;exact⟨x,sm _ _ _ (by rw[hv];rfl)⟩;exact⟨v,(li _ _ _ _ (fun h=>e (by injection h with _ h;exact h.zy))).Z hv⟩
 obtain⟨h,E⟩:=(hv (((W.setCell ⟨g,i*4,none⟩ (.int .i64 (b.s:Nat))).setCell ⟨g,i*4+1,none⟩ (.int .i64 (b.n:Nat))).setCell ⟨g,i*4+2,none⟩ (.slice b.o b.V.length b.c)) (j*4) (hv ((W.setCell ⟨g,i*4,none⟩ (.int .i64 (b.s:Nat))).setCell ⟨g,i*4+1,none⟩ (.int .i64 (b.n:Nat))) (j*4) (hv (W.setCell ⟨g,i*4,none⟩ (.int .i64 (b.s:Nat))) (j*4) (hv W (j*4) ⟨_,(d.cells rfl f).1⟩ (i*4) (.int .i64 (b.s:Nat))) (i*4+1) (.int .i64 (b.n:Nat))) (i*4+2) (.slice b.o b.V.length b.c)) (i*4+3) (.int .u64 (b.p:Nat)));obtain⟨h,F⟩:=(hv (((W.setCell ⟨g,i*4,none⟩ (.int .i64 (b.s:Nat))).setCell ⟨g,i*4+1,none⟩ (.int .i64 (b.n:Nat))).setCell ⟨g,i*4+2,none⟩ (.slice b.o b.V.length b.c)) (j*4+1) (hv ((W.setCell ⟨g,i*4,none⟩ (.int .i64 (b.s:Nat))).setCell ⟨g,i*4+1,none⟩ (.int .i64 (b.n:Nat))) (j*4+1) (hv (W.setCell ⟨g,i*4,none⟩ (.int .i64 (b.s:Nat))) (j*4+1) (hv W (j*4+1) ⟨_,(d.cells rfl f).2.1⟩ (i*4) (.int .i64 (b.s:Nat))) (i*4+1) (.int .i64 (b.n:Nat))) (i*4+2) (.slice b.o b.V.length b.c)) (i*4+3) (.int .u64 (b.p:Nat)));obtain⟨h,G⟩:=(hv (((W.setCell ⟨g,i*4,none⟩ (.int .i64 (b.s:Nat))).setCell ⟨g,i*4+1,none⟩ (.int .i64 (b.n:Nat))).setCell ⟨g,i*4+2,none⟩ (.slice b.o b.V.length b.c)) (j*4+2) (hv ((W.setCell ⟨g,i*4,none⟩ (.int .i64 (b.s:Nat))).setCell ⟨g,i*4+1,none⟩ (.int .i64 (b.n:Nat))) (j*4+2) (hv (W.setCell ⟨g,i*4,none⟩ (.int .i64 (b.s:Nat))) (j*4+2) (hv W (j*4+2) ⟨_,(d.cells rfl f).2.2.1⟩ (i*4) (.int .i64 (b.s:Nat))) (i*4+1) (.int .i64 (b.n:Nat))) (i*4+2) (.slice b.o b.V.length b.c)) (i*4+3) (.int .u64 (b.p:Nat)));obtain⟨h,H⟩:=(hv (((W.setCell ⟨g,i*4,none⟩ (.int .i64 (b.s:Nat))).setCell ⟨g,i*4+1,none⟩ (.int .i64 (b.n:Nat))).setCell ⟨g,i*4+2,none⟩ (.slice b.o b.V.length b.c)) (j*4+3) (hv ((W.setCell ⟨g,i*4,none⟩ (.int .i64 (b.s:Nat))).setCell ⟨g,i*4+1,none⟩ (.int .i64 (b.n:Nat))) (j*4+3) (hv (W.setCell ⟨g,i*4,none⟩ (.int .i64 (b.s:Nat))) (j*4+3) (hv W (j*4+3) ⟨_,(d.cells rfl f).2.2.2⟩ (i*4) (.int .i64 (b.s:Nat))) (i*4+1) (.int .i64 (b.n:Nat))) (i*4+2) (.slice b.o b.V.length b.c)) (i*4+3) (.int .u64 (b.p:Nat)));clear hv;obtain⟨n,N⟩:=am L.length;obtain⟨ys,w⟩:=r.zk;obtain⟨l,h,rfl⟩:=bs w;have O:=ak 0 d.box;have K:=ak 1 r.box;obtain⟨S,T,K,X⟩:=d.cells rfl A;obtain⟨Y,Z,M,aa⟩:=d.cells rfl f;have ao:W.frozen? ⟨g,i*4,none⟩=false:=d.zt.frozenAt (i*4);have av:W.frozen? ⟨g,i*4+1,none⟩=false:=d.zt.frozenAt (i*4+1);have aw:W.frozen? ⟨g,i*4+2,none⟩=false:=d.zt.frozenAt (i*4+2);have a0:W.frozen? ⟨g,i*4+3,none⟩=false:=d.zt.frozenAt (i*4+3);have a1:W.frozen? ⟨g,j*4,none⟩=false:=d.zt.frozenAt (j*4);have a2:W.frozen? ⟨g,j*4+1,none⟩=false:=d.zt.frozenAt (j*4+1);have a3:W.frozen? ⟨g,j*4+2,none⟩=false:=d.zt.frozenAt (j*4+2);have a4:W.frozen? ⟨g,j*4+3,none⟩=false:=d.zt.frozenAt (j*4+3);have P:Q≠g:=fun e=>by have:=(aV d.zt (g:=g) rfl).1;have:=d.low;omega
 obtain⟨s,t,V,R,P,m⟩:=a;obtain⟨R,t2,an,bu,bq,P⟩:=b;simp only at S T K X Y Z M aa q E F G H;obtain⟨R,P⟩:=am V.length;obtain⟨bt,R⟩:=am an.length;rw[<-P]at K q;rw[<-R]at M q E F G H;have bg:=aL i;have bl:=aL j;have bi:(i:Int)<n:=ad;have bo:(j:Int)<n:=ad;rw[<-N]at O;obtain⟨al,ag,af⟩:=bm r D q;clear d N A f r D q P R;go_enter func312,ntmps312
 go_wp2_with fail
 go_region
 rw[<-af.o];have q:=al.o;have a9:=aS q.box;have d:=q.lowB;obtain⟨r,A,D⟩:=fQ C (.cells #[.int .i64 (i:Nat),.int .i64 (j:Nat)] 307);have d:=fH A;have R:r.ownsRow p 307 2 (.slice l k h) k ys:=by rw[A];exact dp w _
 have bb:=eq C [.int .i64 (i:Nat),.int .i64 (j:Nat)] 307 _ rfl;have N:some Q≠(Value.slice l k h).ownBlock:=fun e=>by have:=(aV w e.zy).1;have:=q.low;omega
 have P:∀d:World,r.grownBy d (Value.slice l k h).ownBlock->d.cell? ⟨Q,1,none⟩=some (.slice l k h)/\d.frozen? ⟨Q,1,none⟩=false:=fun d f=>by have d:=(D.J Q a9).Z q.box;exact⟨(f.cell_far ⟨Q,1,none⟩ (by show Q<_;omega) N).Z (ak 1 d),(f.frozen_far ⟨Q,1,none⟩ (by show Q<_;omega) N).Z (aJ d 1)⟩
 obtain⟨ae,ab,d⟩:=bm P D w;have N:∀d gc f,r.grownBy f (Value.slice l k h).ownBlock->f.ownsRow p 307 2 (.slice (some ⟨d,0,none⟩) (k+1) gc) (k+1) (ys++[.int .i64 (i:Nat),.int .i64 (j:Nat)])->((Value.slice l k h).ownBlock=some d∨d=r.heap.size)->(∃I y,fk (f.setCell ⟨Q,1,none⟩ (.slice (some ⟨d,0,none⟩) (k+1) gc)) Q p B I y (k+1) J (swapL L i j))/\cF Q W (f.setCell ⟨Q,1,none⟩ (.slice (some ⟨d,0,none⟩) (k+1) gc)):=fun d gc f a5 a6 a7=>by obtain⟨⟨y,r⟩,B⟩:=GM q ab.o a5 a6 a7;exact⟨⟨_,y,r⟩,ag.o.Z B⟩
 have y:=ah N;rw[A]at R;clear N P D w q E F G H S T K X Y Z M aa ao av aw a0 a1 a2 a3 a4 O;go_wp2_with(first
  |(at_builtin;go_must (refine kI _ rfl _ _ 260 rfl p 307 bf _ 2 16 underlying260 ba bc bd be rfl ad (.slice l k h) k ys rfl R ⟨C.heap.size,0,none⟩ 1 1 [.int .i64 (i:Nat),.int .i64 (j:Nat)] rfl rfl bb (fun z w=>by simp at w;rcases w with rfl|rfl<;>rfl) ad bO ad aO _ rfl ?_);intro d gc f D q r E;rw[<-A]at q r;obtain⟨B,F⟩:=ae.o _ q)
  |fail)
 go_end0
 exact⟨rfl,y.o d gc f q D r⟩
def UP{W u:World}{Q p q g c k w:Nat}{x:Value}{L:List WI}{a:WI}(f:fk W Q p q (.slice (some ⟨g,0,none⟩) (L.length+1) c) x k w (L++[a]))(i:Below W.heap.size W u):
 (∃G,fk (((((u.setCell ⟨g,L.length*4,none⟩ (.int .i64 0)).setCell ⟨g,L.length*4+1,none⟩ (.int .i64 0)).setCell ⟨g,L.length*4+2,none⟩ (.slice none 0 0)).setCell ⟨g,L.length*4+3,none⟩ (.int .u64 0)).setCell ⟨Q,0,none⟩ (.slice (some ⟨g,0,none⟩) L.length c)) Q p q G x k w L)/\
 cF Q W (((((u.setCell ⟨g,L.length*4,none⟩ (.int .i64 0)).setCell ⟨g,L.length*4+1,none⟩ (.int .i64 0)).setCell ⟨g,L.length*4+2,none⟩ (.slice none 0 0)).setCell ⟨g,L.length*4+3,none⟩ (.int .u64 0)).setCell ⟨Q,0,none⟩ (.slice (some ⟨g,0,none⟩) L.length c)):=by
 obtain⟨h,n⟩:=am (((((u.setCell ⟨g,L.length*4,none⟩ (.int .i64 0)).setCell ⟨g,L.length*4+1,none⟩ (.int .i64 0)).setCell ⟨g,L.length*4+2,none⟩ (.slice none 0 0)).setCell ⟨g,L.length*4+3,none⟩ (.int .u64 0)));rw[<-n];have H:=aV f.zt (g:=g) rfl;have z:Q≠g:=fun e=>by have:=f.low;omega
 have D:=aS f.box;have I:=i.size;have J:h.heap.size=u.heap.size:=by rw[n];simp only[eF]
 have y:∀b,b<W.heap.size->b≠g->h.heap[b]?=W.heap[b]?:=fun b d j=>by rw[n,aU _ _ _ _ _ j,aU _ _ _ _ _ j,aU _ _ _ _ _ j,aU _ _ _ _ _ j];exact i.J b d
 have s:∀b,b<W.heap.size->b≠g->b≠Q->(h.setCell ⟨Q,0,none⟩ (.slice (some ⟨g,0,none⟩) L.length c)).heap[b]?=W.heap[b]?:=fun b d j m=>(aU _ _ _ _ _ m).Z (y b d j);have E:=a8 h Q 0 (.slice (some ⟨g,0,none⟩) L.length c) ((y Q D z).Z f.box);have A:=aX f.zt (W':=u) (fun l d=>i.J l (aV f.zt d).2);rw[ck]at A;have B:=GH (iN (o:=L.length*4+3) (u:=.int .u64 0) (iN (o:=L.length*4+2) (u:=.slice none 0 0) (iN (o:=L.length*4+1) (u:=.int .i64 0) (iN (o:=L.length*4) (u:=.int .i64 0) A))));have F:(((((ip (L++[a])).set (L.length*4) (.int .i64 0)).set (L.length*4+1) (.int .i64 0)).set (L.length*4+2) (.slice none 0 0)).set (L.length*4+3) (.int .u64 0)).take (L.length*4)=ip L:=by rw[uj,uj,uj,uj,UH,C6];rw[wV (by simp only[l6,zk];omega),wV (by simp only[l6,zk];omega),wV (by simp only[l6,zk];omega),wV (by rw[zk];omega)]
 rw[F,<-n]at B;obtain⟨zs,v⟩:=f.zk;have C:fk (h.setCell ⟨Q,0,none⟩ (.slice (some ⟨g,0,none⟩) L.length c)) Q p q (.slice (some ⟨g,0,none⟩) L.length c) x k w L:=
  f.turned _ _ E (aX B (fun l d=>aU _ _ _ _ _ (by cases d;exact z.zy)))
   ⟨zs,aX v (fun l d=>s l (aV v d).2 (fun e=>f.apart g rfl (e▸d)) (fun e=>by have:=(aV v d).1;have:=f.low;omega))⟩ (by rw[eF];omega) (fun b d m r _=>s b d (fun e=>r (by rw[e];rfl)) m) (fun l d=>by cases d;exact f.apart g rfl)
 have t:(h.setCell ⟨Q,0,none⟩ (.slice (some ⟨g,0,none⟩) L.length c)).os=u.os/\(h.setCell ⟨Q,0,none⟩ (.slice (some ⟨g,0,none⟩) L.length c)).tape=u.tape/\(h.setCell ⟨Q,0,none⟩ (.slice (some ⟨g,0,none⟩) L.length c)).output=u.output:=by rw[n];exact⟨by simp only[pg],by simp only[ph],by simp only[pi]⟩
 exact⟨⟨_,C⟩,oU f.box C.box (t.1.Z i.os) (t.2.1.Z i.tape) (t.2.2.Z i.output) (by rw[eF];omega) (fun b d m r _=>s b d (fun e=>r (by rw[e];rfl)) m) (fun g d=>.inl (by cases d;rfl)) (fun g d=>.inr (.inl d))⟩
def UQ(W:World)(Q b f k h:Nat)(l j:Value)(L:List WI)(a:WI)(d:fk W Q b f l j k h (L++[a]))(o:L.length<=1048577):
 Calls prog 310 #[.pointer (some ⟨Q,0,none⟩)] W fun e w'=>e=.returned (.iface 257 (.agg (ld a).toArray))/\(∃l,fk w' Q b f l j k h L)/\cF Q W w':=by
 obtain⟨g,c,rfl⟩:=d.iv_form aj;simp only[ck,ef,gN,cH]at d;obtain⟨n,v⟩:=am L.length;have q:=ak 0 d.box;obtain⟨j,l,h,o⟩:=d.cells aj (i:=L.length) (a:=a) aj;have b:=d.zt;rw[ck]at b;have y:W.frozen? ⟨g,n*4,none⟩=false:=wW b (n*4);have z:W.frozen? ⟨g,n*4+1,none⟩=false:=wW b (n*4+1);have A:W.frozen? ⟨g,n*4+2,none⟩=false:=wW b (n*4+2);have B:W.frozen? ⟨g,n*4+3,none⟩=false:=wW b (n*4+3);have f:=GI (n:=L.length+1) (c:=c) b;unfold maxLen at f;have r:n<=c:=ad;have r:c<=9223372036854775807:=ad;clear b f;have b:Q≠g:=fun e=>by have:=(aV d.zt (g:=g) rfl).1;have:=d.low;omega
 have f:=(aV d.zt (g:=g) rfl).2;have r:=aS d.box;have f0:=aJ d.box 0;obtain⟨s,t,V,E,u,m⟩:=a;unfold ld;simp only[List.toArray]at j l h o⊢;obtain⟨w,D⟩:=am V.length;rw[<-D]at h⊢;rw[<-v]at q j l h o;obtain⟨F,C,b,x⟩:=dy W (.cells #[.int .i64 (s:Nat),.int .i64 (t:Nat),.slice E w u,.int .u64 (m:Nat)] 257);have u:=UP d b;rw[<-v]at u;have w:=ah u;obtain⟨E,F,G,H⟩:=dC x;have E:=(b.cell (p:=⟨Q,0,none⟩) r).Z q;have E:=(b.frozen (p:=⟨Q,0,none⟩) r).Z f0;have E:=(b.frozen (p:=⟨g,n*4,none⟩) f).Z y;have E:=(b.cell (p:=⟨g,n*4,none⟩) f).Z j;have E:=(b.frozen (p:=⟨g,n*4+1,none⟩) f).Z z;have E:=(b.cell (p:=⟨g,n*4+1,none⟩) f).Z l;have E:=(b.frozen (p:=⟨g,n*4+2,none⟩) f).Z A;have E:=(b.cell (p:=⟨g,n*4+2,none⟩) f).Z h;have E:=(b.frozen (p:=⟨g,n*4+3,none⟩) f).Z B;have E:=(b.cell (p:=⟨g,n*4+3,none⟩) f).Z o;have E:n<=1048577:=ad;have E:W.heap.size≠g:=ad;have E:W.heap.size≠Q:=ad;clear u d v x b y z A B f0 f r D;go_enter func310,ntmps310
 go_wp2_with(first|(rw[<-C];clear C q j l h o)|fail)
 go_ret;exact⟨rfl,w.o.1,w.o.2⟩
end Go.Proofs.YtfeidcmojcijpaaGreatDoor
