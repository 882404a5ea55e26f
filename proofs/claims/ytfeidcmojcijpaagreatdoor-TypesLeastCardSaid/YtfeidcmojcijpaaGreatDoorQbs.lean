import Derived.Test.YtfeidcmojcijpaaGreatDoorQbr
set_option linter.all false
set_option maxRecDepth 100000
set_option maxHeartbeats 0
namespace Go.Proofs.YtfeidcmojcijpaaGreatDoor
open Go.RowKit Tryz
section
open Wey
structure vU(w:World)(l:List ax)(keys:List St)(rows:List (List Nat))(so:Option Addr)(sc ng fg:Nat):Prop where
 nl:ng<w.heap.size
 fl:fg<w.heap.size
 sym:cI w so sc (unionB (symsS l))
 next:∀(s:Nat) (row:List Nat),rows[s]?=some row->∃ro rc,w.cell? ⟨ng,s,none⟩=some (.slice ro row.length rc)/\gX w ro rc row
 fin:∀(s:Nat) (k:St),keys[s]?=some k->w.cell? ⟨fg,s,none⟩=some (.bool (finM l k))
def vU.O{w w':World}{l:List ax}{keys:List St}{e:List (List Nat)}{g:Option Addr}{f d c:Nat}(a:vU w l keys e g f d c)(b:Below w.heap.size w w'):vU w' l keys e g f d c:=
 ⟨eU a.nl b.size,eU a.fl b.size,a.sym.O b,fun s row m=>by obtain⟨o,n,h,i⟩:=a.next s row m;exact⟨o,n,(b.cell (p:=⟨d,s,none⟩) a.nl).Z h,cn.O i b⟩,fun s k j=>(b.cell (p:=⟨c,s,none⟩) a.fl).Z (a.fin s k j)⟩
def UZ{w:World}{q:Nat}{v:Value}{l:List ax}(r:kB w q v l):∃keys a e d c i b f,ev l keys a/\v=.agg #[.slice e (unionB (symsS l)).length d,.slice (some ⟨c,0,none⟩) keys.length i,.slice (some ⟨b,0,none⟩) keys.length f]/\vU w l keys a e d c b:=by obtain⟨n,keys,a,H,nv,E,p,d1,d2,rfl,d4,d5,d6,d7,d8⟩:=r;subst d2;have g:ev l keys a:=d1;have x:0<keys.length:=(aF.1 g.start).1;have A:a.length=keys.length:=g.ok.len;obtain⟨e,d,rfl⟩:=bs d4;have B:0<p.length:=ad;obtain⟨c,i,rfl,G,y,z⟩:=yY d5 B;obtain⟨b,f,rfl,F,t,u⟩:=yY d8 x;refine⟨keys,a,e,d,c,i,b,f,g,by rw[d6,A],y,t,dY d4,fun s row o=> ?_,fun s k m=> ?_⟩;obtain⟨v,hv⟩:=df p s (by rw[d6];exact(aF.1 o).1);have j:=d7 s v row hv o;obtain⟨D,C,rfl⟩:=bs j;have h:=(aF.1 hv).1;exact⟨D,C,z s _ (by simpa using h) hv,dY j⟩;have h:=(aF.1 m).1;exact u s _ (by simpa using h) (by rw[bR,m];rfl)
def vV{c:Bytes->Nat}:∀{V:List Bytes},(∀a∈V,0<c a)->V.length<=wt c V
 |[],_=>aH _
 |a::V,d=>by have g:=d a aj;have e:=vV (V:=V) (fun b f=>d b (by simp[f]));simp only[wt,dZ,fm,ef]at e⊢;omega
def JM{l:List ax}{keys:List St}{b:List (List Nat)}{nx:Nat->Bytes->Nat}(c:ev l keys b)(f:nx=nxA l b){W:List Bytes}(e:∀a∈W,a∈unionB (symsS l)):st nx W<keys.length:=by subst f;have d:keys[st (nxA l b) W]?=_:=IX c _ W rfl e;exact(aF.1 d).1
def U1{h:List Bytes}{c:Bytes->Nat}{nx:Nat->Bytes->Nat}{f:Nat->Prop}{Q:List (List Bytes)}{b:Nat->Option (List Bytes)}{d:List Nat}{i:Nat}(g:Inv bM h c nx f Q b d i []):Inv bM h c nx f Q b d 0 []:=
 {g with e:=fun s m W j a l=>(g.e s m W j a l).imp (fun k=>absurd k.2 aj) id}
def JN:gx kC [] ([]:List WI).length:=by intro i;simp
def g6.sq_way{W:World}{Q d f X i Y:Nat}{L:List WI}{cs:Array Value}{g:Nat×Nat}(h:g6 Q d f X i L W)(b:W.heap[Y]?=some (.cells cs 171 g)):SQ Q W Y:=by
 obtain⟨k,j,⟨⟨n,o,c⟩,_⟩,_,_⟩:=h;refine c.sq (fun e=> ?_) (aI b) (fun l e m a=> ?_);have:=c.box;rw[<-e,b]at this;injection this with this
 injection this with _ this
 exact absurd this aq;rw[b]at a;injection a with a
 injection a with _ a
 subst a;exact⟨aq,aq⟩
def JO{c:Bytes->Nat}{nx:Nat->Bytes->Nat}{b f n:World}{h d B q i g gc Y:Nat}{r:List WI}{p:Nat->Option (List Bytes)}{f14:Lit->Option Value}{V:List Bytes}{a:Bytes}{cs:Array Value}{xV:WI}
 (w:iG c nx b h d d r p f) (l:tU f b.heap.size c f14 p) (I:B<=d) (A:eN f b.heap.size ⟨q,i,V++[a],some ⟨g,0,none⟩,gc,d⟩) (K:i=wt c (V++[a])) (J:q=st nx (V++[a])) (P:d<=1000000) (Q:V.length<=1000000)
 (H:bV n prog 3 h (B+1) (il f14 (.int .i64 (q:Nat)) (.agg #[.int .i64 (q:Nat),.int .i64 (i:Nat),.slice (some ⟨g,0,none⟩) (V.length+1) gc]))) (m:f.grownBy n (some h)) (u:f.heap[Y]?=some (.cells cs 171)) (E:eN f b.heap.size xV):
 Calls prog 88 #[.pointer (some ⟨b.heap.size+1,0,none⟩),.agg #[.int .i64 (q:Nat),.int .i64 (i:Nat),.slice (some ⟨g,0,none⟩) (V.length+1) gc]] n fun e w'=>e=.returned (.int .i64 0)/\iG c nx b h (d+1) (d+1) (r++[⟨q,i,V++[a],some ⟨g,0,none⟩,gc,d⟩]) (upd p q (V++[a])) w'/\w'.heap[Y]?=some (.cells cs 171)/\eN w' b.heap.size xV:=by
 have y:(V++[a]).length=V.length+1:=aj;subst K;have v:=w.J;have G:Y≠h:=fun e=>by obtain⟨O,N,l⟩:=v;rw[<-e,u]at l;cases l
 have j:=w.best l I (s:=q) (V:=V++[a]) (o:=some ⟨g,0,none⟩) (cp:=gc) A (by rw[y];exact H) m;have M:=A.map m v;have x:=(m.J _ (aI u) (fun e=>G (by injection e with e))).Z u;have F:=E.map m v;have z:=JI n (b.heap.size+1) (b.heap.size+2) b.heap.size b.heap.size d r ⟨q,wt c (V++[a]),V++[a],some ⟨g,0,none⟩,gc,d⟩ rfl j.q ⟨M,by show(V++[a]).length<=_;omega⟩ (aQ w.len) (by omega);simp only[y]at z;refine z.zz ?_;rintro e w' ⟨C,D,t⟩;exact⟨C,j.add ⟨J,rfl⟩ D t,((t.kp.same Y (j.q.sq_way x)).2).Z x,j.q.kp F t⟩
def JP(m:World)(f:Nat->Prop)(g h i j:Nat)(o:Option Addr)(cap:Nat)(l:List ai)(x:ai)(nd:List Nat)(w:World)(e:Ending)(w':World):Prop:=
 (∃keys d V c b,ev x.t.E keys d/\e=.returned (.tuple #[.slice c V.length b,.int .i64 0])/\Opt bM (unionB (symsS x.t.E)) (fun a=>nd.getD (kidOf (l.map ai.t) a) 0) (nxA x.t.E d) (finA x.t.E keys) V/\bN w' w.heap.size (.slice c V.length b) V)/\kD m f g h i j o cap l w w'
def zm(c:Bytes->Nat)(d:List Bytes)(nx:Nat->Bytes->Nat)(i:Nat->Prop)(n:Nat)(h:World)(f:Nat)(g:Nat)(wr:World):Prop:=
 ∃b L e a,iG c nx h f b b L e wr/\Inv bM d c nx i (L.map WI.V) e a 0 []/\b<=1+a.length*d.length/\a.length<=n/\g=(d.length+1)*(n-a.length)+L.length
def vW(c:Bytes->Nat)(a:List Bytes)(nx:Nat->Bytes->Nat)(n:Nat->Prop)(g:World)(m:Nat)(e:List Nat)(l Y d:Nat)(V:List Bytes)(j:Option Addr)(h:Nat)(o:Value)(wr:World):Prop:=
 ∃(i f:Nat) (L:List WI) (b:Nat->Option (List Bytes)),o=.int .i64 (i:Nat)/\i<=a.length/\iG c nx g m f f L b wr/\Inv bM a c nx n (L.map WI.V) b e d (a.drop i)/\Wey.Low bM c b e V/\b d=some V/\f+a.length<=1+e.length*a.length+i/\L.length<=l+i/\wr.heap[Y]?=some (.cells #[.int .i64 (d:Nat),.int .i64 (wt c V:Nat),.slice j V.length h] 171)/\eN wr g.heap.size ⟨d,wt c V,V,j,h,0⟩
def U2(l:List ai)(o:Option Addr)(cap:Nat)(T:World)(C:Gl T)(f:cw T o cap l)(G:l.length<=64)(bl:Nat->Prop)(D B N b5:Nat)(h:bl N)(k:Nat)(x:ai)(ab:l[k]?=some x)(H:x.t.text=false)(m:bK x.t.E=0)(bE:x.t.E.length<=20)
 (nd:List Nat) (r:nd.length=l.length) (I:∀a∈nd,1<=a/\a<=4097) (E:∀a∈unionB (symsS x.t.E),kidOf (l.map ai.t) a<l.length/\a.length<=1048576) (hw:(unionB (symsS x.t.E)).length<=64)
 (A:∀keys bi,ev x.t.E keys bi->∃P,Acc (unionB (symsS x.t.E)) (fun a=>nd.getD (kidOf (l.map ai.t) a) 0) (nxA x.t.E bi) (finA x.t.E keys) P)
 (no:Option Addr) (c6:Nat) (w:World) (Z:eQ T bl w D B N b5 o cap l) (r:jX w T.heap.size N l) (t:gX w no c6 nd):
 Calls prog 51 #[.pointer (some ⟨D,0,none⟩),.int .i64 (k:Nat),.slice no nd.length c6] w (JP T bl D B N b5 o cap l x nd w):=by
 have F:=IK l o cap T C f G bl D B N b5 h k x ab m ad w Z r;have Q:=ak 0 Z.blk;have h:=(aF.1 ab).1;have h:(k:Int)<l.length:=ad;obtain⟨b,c8,h,C,R,X,k4,k5,J,k7⟩:=(f.O Z.base).at ab;subst h;rw[H]at J;obtain⟨C,h,G,H,h9,ds,g0,O⟩:=rx F t r f A E I m;obtain⟨H,a6,fu,_,_⟩:=t.2.2.2 ad;subst fu;clear Z r F t f A E I m;go_enter func51,ntmps51
 go_wp2_with fail
 refine C.o.zz ?_;rintro e w1 ⟨⟨K,M,E⟩,f⟩;clear C Q R X k4 k5 J k7;rcases f with⟨v,rfl,hm⟩|⟨⟨n',t,I,C,m,F,r⟩,rfl⟩
 rotate_left;exact absurd r (SK O.o bE n' t I C m F);obtain⟨keys,bi,c9,gb,a5,c7,O,hf,J,rfl,R⟩:=UZ hm;have X:kD T bl D B N b5 (some ⟨b,c8,none⟩) cap l w w1:=⟨K,M,E⟩;have Q:gX w1 (some ⟨H,a6,none⟩) c6 nd:=by
  refine⟨h.o.1,h.o.2.1,h.o.2.2.1,fun bE=> ?_⟩;obtain⟨fN,fO,f,c4,m⟩:=h.o.2.2.2 bE;obtain⟨rfl,rfl⟩:H=fN/\a6=fO:=by injection f with f;injection f with f C;exact⟨f,C⟩
  refine⟨H,a6,rfl,eU c4 E.size,fun j u t=> ?_⟩;have cg:some H≠some N:=fun e=>by
   injection e with e
   subst e;obtain⟨I,r,f,_⟩:=G.o;obtain⟨ls,I,r⟩:=f.J;have f:=m 0 _ (cV (by simpa using bE));simp[World.cell?,r]at f
  exact(E.cell_far ⟨H,a6+j,none⟩ c4 cg).Z (m j u t)
 obtain⟨m,F,r,C⟩:=dy w1 (.cells #[.slice c9 (unionB (symsS x.t.E)).length gb,.slice (some ⟨a5,0,none⟩) keys.length c7,.slice (some ⟨O,0,none⟩) keys.length hf] 108);obtain⟨du,dr,h8,gs,t⟩:=iz (R.O r) (X.O r) (cn.O Q r) C J;have hA:=US m;have I:=ah hA;clear K M E hm R X Q r C hA h J G;go_wp2_with(first|(rw[<-F];clear F)|fail)
 refine ar I.o ?_;rintro G ⟨h,E⟩;clear I;have F:=JI G (m.heap.size+1) (m.heap.size+2) m.heap.size m.heap.size 0 [] ⟨0,0,[],none,0,0⟩ rfl ⟨0,[],⟨⟨_,_,h⟩,fun y r=>by simp at r⟩,JN,zW _⟩ ⟨cW _ _ _ _,aj⟩ aj ad;obtain⟨C,M⟩:=aC F E;have Q:Hid (g6 (m.heap.size+1) (m.heap.size+2) m.heap.size m.heap.size 0 [] G):=ah ⟨0,[],⟨⟨_,_,h⟩,fun y r=>by simp at r⟩,JN,zW _⟩;clear F h E;go_wp2_with fail
 refine ar C.o ?_;rintro h ⟨hI,ht⟩;clear C;have C:=Q.o.base M.out ad ad ht;obtain⟨h3,J,F⟩:=fQ h (.map #[] 0);have K:bV h3 prog 3 h.heap.size 0 (fun _=>none):=by rw[J];exact bV.made h _ _
 have bB:∀a:Nat,a<=1024->keyOf prog 3 (.int .i64 (a:Nat))=some (.int .i64 (a:Nat)):=fun a G=>wT ei (oI ad);obtain⟨I,j3,hx,hq,j6⟩:=K.set (iY ei) xi bO (key:=.int .i64 0) (val:=.agg #[.int .i64 0,.int .i64 0,.slice none 0 0]) (kl:=.int .i64 0) eY (bB 0 ad);have E:= @pq prog;obtain⟨c,R⟩:∃c:Bytes->Nat,c=fun a=>nd.getD (kidOf (l.map ai.t) a) 0:=⟨_,rfl⟩;obtain⟨nx,hE⟩:∃q,q=nxA x.t.E bi:=⟨_,rfl⟩;obtain⟨aa,X⟩:∃q,q=finA x.t.E keys:=⟨_,rfl⟩;have E:Hid (zm c (unionB (symsS x.t.E)) nx aa keys.length m h.heap.size (((unionB (symsS x.t.E)).length+1)*keys.length+1) I):=ah (by have i5:iG c nx m h.heap.size 0 1 [⟨0,0,[],none,0,0⟩] (fun _=>none) h3:=⟨aE C F,C.size,hI.O F,⟨0,_,K,ay _,fun s=>⟨fun V I=>(by cases I),fun _=>rfl⟩⟩,fun y r=>(by simp at r;subst r;exact⟨rfl,rfl⟩),aj⟩;exact⟨1,_,_,[],i5.best (s:=0) (V:=[]) (o:=none) (cp:=0) (fun s=>⟨fun V I=>(by cases I),fun _=>rfl⟩) (ay _) (cW _ _ _ _) hx hq,Inv.begin,aj,aj,aj⟩)
 obtain⟨b1,b2,cG⟩:=bm R hE X;clear R hE X;have R:Hid (m.heap.size<=h.heap.size):=ah C.size;clear hI ht C F K hx hq j6 Q M;go_wp2_with(first|(rw[<-J];clear J)|fail)
 clear j3;have r:Hid (m.heap.size<=h.heap.size):=ah R.o;generalize h.heap.size=X at E r;go_loopg [] (((unionB (symsS x.t.E)).length+1)*keys.length+1) (fun g wr=>zm c (unionB (symsS x.t.E)) nx aa keys.length m X g wr)
 case atStart=>exact E.o
 case round=>
 clear E;obtain⟨fS,L,dq,E,h,C,R,aw,F⟩:=hrel;have M:keys.length<=256:=t.o.ok.most;have r:∀a∈unionB (symsS x.t.E),0<c a:=fun a G=>by
  have f:=(ds.o a G).1;rw[b1.o];show 0<nd.getD (kidOf (l.map ai.t) a) 0
  rw[cB,cV ad];have:=(g0.o _ (wv (l:=nd) (n:=kidOf (l.map ai.t) a) ad)).1;simp only[gM];omega
 have i9:E.length*(unionB (symsS x.t.E)).length<=256*64:=Nat.mul_le_mul ad hw;obtain⟨K,J⟩:∃K,L.length=K+1:=by
  cases L with
  |nil=>
   exfalso;obtain⟨P,A⟩:=h9.o keys bi t.o;rw[<-b1.o,<-b2.o,<-cG.o]at A;exact C.none dw r P A
  |cons y L=>exact⟨L.length,rfl⟩
 have Q:=h.len;have hP:=UW wr (m.heap.size+1) (m.heap.size+2) m.heap.size m.heap.size fS K L h.q J ad;obtain⟨A,K,ii,bt,g9,b0,g5,lc,ed,lb⟩:=jB hP h C r R aw F J M Q;clear hP h C r R aw F J M Q i9;go_wp2_with fail
 refine A.o.zz ?_;rintro e M ⟨y,R,rfl,hz,hJ,ci,⟨hU,hV⟩,hu⟩;clear A;obtain⟨hN,hW,h⟩:=K.o.take hJ ci hu;have cb:Inv bM (unionB (symsS x.t.E)) c nx aa (y.V::R.map WI.V) dq E 0 []:=ii.o.perm (ci.zy.map WI.V);have fq:∀V∈R.map WI.V,¬bef bM c V y.V:=fun V I C=>by obtain⟨z,Q,rfl⟩:=dL.1 I;have r:z∈L:=ci.mem_iff.1 (by simp[Q]);have f:=hz z r;have A:kC z y=true:=vS.2 (.inl (by rw[(K.o.own z r).2,h];exact C));rw[f]at A;cases A
 obtain⟨fL,hX,V,K,fg⟩:=cb.q y.V aj;obtain⟨ys,lU,r,J,I,l0⟩:=y;simp only at hW h cb fq fL hX K fg hV;subst hW h;obtain⟨b6,e5,ez,eZ⟩:=dy M (.cells #[.int .i64 (st nx r:Nat),.int .i64 (wt c r:Nat),.slice J r.length I] 171);have c5:=hN.O ez;have fG:=hU.O ez;have co:st nx r<keys.length:=JM t.o b2.o fL;obtain⟨kk,fc⟩:=aT co;obtain⟨h,hK,hL,j4⟩:=t.o.row co;have cv:Hid (∀h,Below m.heap.size m h->vU h x.t.E keys bi c9 gb a5 O/\(h.cell? ⟨w1.heap.size,0,none⟩=some (.slice c9 (unionB (symsS x.t.E)).length gb)/\h.cell? ⟨w1.heap.size,1,none⟩=some (.slice (some ⟨a5,0,none⟩) keys.length c7)/\h.cell? ⟨w1.heap.size,2,none⟩=some (.slice (some ⟨O,0,none⟩) keys.length hf))/\
  h.cell? ⟨D,1,none⟩=some (.map (some B))/\fA h B (l.map ai.t)/\gX h (some ⟨H,a6,none⟩) c6 nd):=ah (fun h O=>by
  have d:=(O.J _ (aI gs.out)).Z gs.out;have hg:=dr.o.1.zw (bL O none) (fun q e=>by cases e);exact⟨du.o.O O,⟨ak 0 d,ak 1 d,ak 2 d⟩,ak 1 hg.blk,hg.places,cn.O h8.o O⟩)
 obtain⟨hT,⟨d0,d1,d2⟩,bZ,j0,jp⟩:=cv.o b6 c5.base;obtain⟨h4,h5,h6⟩:=dP eZ;have c0:=hT.fin _ _ fc;have kb:((st nx r:Nat):Int)<((keys.length:Nat):Int):=ad;obtain⟨O,f8,hy,js,hk⟩:=c5.map;obtain⟨i0,iT,hp,hl⟩:=(hk (st nx r)).1 V K;have Q:(zeroValue 171).run prog b6=.ok (.agg #[.int .i64 0,.int .i64 0,.slice none 0 0]) b6:=az;have bc:=hy.look (iY ei) xi Q eY (bB (st nx r) (aQ ed.o));rw[hp]at bc;simp only[gM]at bc;have e7:∀(args:Array Value) (h:World),(callFunc 83 args).run prog h=.ok (.enter 83 args) h:=fun _ _=>rfl;have je:=bt.o;have jc:V.length<=1048576:=by obtain⟨f,_,O⟩:=cb.bg _ _ K;have:=vV (c:=c) (fun a G=>je a (f a G));omega
 have bF:=CE (st nx r) (wt c V) (st nx r) (wt c r) V r i0 J iT I b6 hl.at fG.at jc hV;obtain⟨hb,g4⟩:=aC bF e5;rw[e5]at d0 d1 d2 h4 h5 h6 bZ c0 bc;obtain⟨hc,eb,g8,hd,gv,cu,is,g7,lg,lo⟩:=jB c5 cb fq fG eZ K fg fc hK hL;have iv:=ah ci;clear hJ hU hu hN ez eZ c5 fG hT j0 jp hy js hk hp hl Q bF e5 cb fq fL hX K fg fc hK hL j4 hz ci;cases c1:finM x.t.E kk with
 |true=>
  rw[c1]at c0;have K:Hid (JP T bl D B N b5 (some ⟨b,c8,none⟩) cap l x nd w (.returned (.tuple #[.slice J r.length I,.int .i64 0])) b6):=ah (by refine⟨⟨keys,bi,r,J,I,t.o,rfl,?_,eR hd.o dr.o.2.2.size⟩,dr.o.O hc.o.base⟩;rw[<-b1.o,<-b2.o,<-cG.o];exact eb.o.end dw bt.o g8.o (by rw[cG.o];show finM x.t.E (keys.getD (st nx r) (true,0))=true;rw[cB,g7.o];exact c1))
  rw[g4.o]at K
  go_wp2
  go_ret2
  exact K.o
 |false=>
  rw[c1]at c0;go_wp2_with fail
  rw[<-g4.o];refine ar hb.o ?_;intro gg N;have hO:=hc.o.O N;have T:L.length=R.length+1:=by have:=iv.o.length_eq;simp at this;omega
  obtain⟨g3,gG,es⟩:=bm T N hO;clear hb bc e7 d0 d1 d2 h4 h5 h6 bZ c0 N hO T;obtain⟨fP,ag⟩:∃q,q=k8 (wt c V) (wt c r) V r:=⟨_,rfl⟩;rw[<-ag];by_cases N:fP<0
  ·have C:bef bM c V r:=CI.1 (by rw[<-ag];exact N)
   have K:Hid (zm c (unionB (symsS x.t.E)) nx aa keys.length m X (((unionB (symsS x.t.E)).length+1)*(keys.length-E.length)+R.length) gg):=ah ⟨fS,R,dq,E,es.o,eb.o.stale dw cu.o C,g9.o,b0.o,rfl⟩;clear ag C
   go_wp2
   go_roundg(((unionB (symsS x.t.E)).length+1)*(keys.length-E.length)+R.length)
   case rel=>exact K.o
   case measure=>have:=g3.o;have:=g5.o;omega
  ·have C:¬bef bM c V r:=fun C=>N (by rw[ag];exact CI.2 C)
   obtain rfl:V=r:=by
    rcases is.o with e|e
    exact e;exact absurd e C
   obtain⟨N,hi,fl⟩:=eb.o.go dw g8.o (by rw[cG.o];show¬(finM x.t.E (keys.getD (st nx V) (true,0))=true);rw[cB,g7.o];simp[c1]) cu.o;obtain⟨r,T⟩:∃q,q=st nx V:=⟨_,rfl⟩;rw[<-T]at N hi fl co kb cu;have i7:E.length+1<=keys.length:=by
    have f:=nodup_len (L:=List.range keys.length) N.n (fun s j5=>by obtain⟨_,W,jd⟩:=N.f s j5;obtain⟨A,O,_⟩:=N.bg s W jd;rw[eT,<-O];exact JM t.o b2.o A)
    simpa using f
   have g2:Hid (vW c (unionB (symsS x.t.E)) nx aa m X (r::E) R.length M.heap.size r V J I (.int .i64 0) gg):=ah
    ⟨0,fS,R,dq,rfl,aH _,es.o,by rw[Du];exact N,fl,cu.o,by rw[ef,zZ];have:=g9.o;omega,ad,(gG.o.J _ (aI gv.out)).Z (by rw[T];exact gv.out),by rw[T];exact hd.o.O gG.o⟩
   obtain⟨kg,⟨d0,d1,d2⟩,bZ,j1,jv⟩:=cv.o gg es.o.base;have ic:=ah T;clear C ag N hi fl T kg j1 jv d1 d2 bZ;go_wp2_with fail
   clear d0;obtain⟨T,N⟩:=am wr;subst N;go_loopw [76] (fun N wr=>vW c (unionB (symsS x.t.E)) nx aa m X (r::E) R.length M.heap.size r V J I N wr) (fun N _=>(unionB (symsS x.t.E)).length-(intOf N).toNat)
   case atStart=>exact g2.o
   case round=>
   clear g2;obtain⟨i,al,bu,bo,rfl,N,a0,ca,fo,e2,fv,c3,bz,fF⟩:=hrel;by_cases c2:i<(unionB (symsS x.t.E)).length
   ·have N:(i:Int)<(((unionB (symsS x.t.E)).length:Nat):Int):=ad
    obtain⟨a,G⟩:=aT c2;have b7:=aK G;obtain⟨row,bF,cl,N⟩:=zb t.o co b7;rw[<-b2.o]at cl N;obtain⟨q,fx⟩:=am (nx r a);rw[<-fx]at cl N;have j2:row.length=(unionB (symsS x.t.E)).length:=by obtain⟨N,f,A,_⟩:=t.o.row co;rw[bF]at f;injection f with f;rw[f,A]
    have hs:(unionB (symsS x.t.E)).idxOf a=i:=by
     have t:(unionB (symsS x.t.E)).Nodup:=by rw[zz];exact(vr _).imp fun Z=>Z.2
     obtain⟨f,A⟩:=aF.1 G;rw[<-A];exact t.idxOf_getElem i f
    rw[hs]at cl;obtain⟨ks,h2,hC,hD⟩:=du.o.next _ _ bF;obtain⟨N,T,t⟩:∃N T,ks=some ⟨N,T,none⟩:=by obtain⟨N,T,f,_⟩:=hD.2.2.2 ad;exact⟨N,T,f⟩
    subst t;obtain⟨a4,cc⟩:=am (kidOf (l.map ai.t) a);obtain⟨bw,e8⟩:=am (c a);have t:a4<l.length:=by rw[cc];exact(ds.o a b7).1
    have e4:∀h,Below m.heap.size m h->h.heap[M.heap.size]?=some (.cells #[.int .i64 (r:Nat),.int .i64 (wt c V:Nat),.slice J V.length I] 171)->(h.cell? ⟨w1.heap.size,1,none⟩=some (.slice (some ⟨a5,0,none⟩) keys.length c7)/\(h.cell? ⟨M.heap.size,0,none⟩=some (.int .i64 (r:Nat))/\h.cell? ⟨M.heap.size,1,none⟩=some (.int .i64 (wt c V:Nat)))/\(h.cell? ⟨a5,r,none⟩=some (.slice (some ⟨N,T,none⟩) (unionB (symsS x.t.E)).length h2)/\h.cell? ⟨N,T+i,none⟩=some (.int .i64 (q:Nat)))/\h.cell? ⟨D,1,none⟩=some (.map (some B))/\h.cell? ⟨H,a6+a4,none⟩=some (.int .i64 (bw:Nat))/\(Instr.lookup 72 (.map (some B)) (.string ⟨a.toArray⟩) false).run prog h=.ok (.int .i64 (a4:Nat)) h):=fun h C t=>by
     obtain⟨ab,⟨_,d1,_⟩,bZ,jy,bE⟩:=cv.o h C;have bc:=yN (b:=a) jy (ds.o a b7).2;rw[<-cc]at bc;refine⟨d1,⟨ak 0 t,ak 1 t⟩,⟨?_,?_⟩,bZ,?_,bc⟩;rw[<-j2];exact(C.cell (p:=⟨a5,r,none⟩) du.o.nl).Z hC;obtain⟨fT,t,f,A,O⟩:=(cn.O hD C).2.2.2 ad;obtain⟨rfl,rfl⟩:N=fT/\T=t:=by injection f with f;injection f with f A;exact⟨f,A⟩
     exact O i (nV q) (by rw[bR,cl];rfl);obtain⟨fN,fO,f,A,O⟩:=bE.2.2.2 ad;obtain⟨rfl,rfl⟩:H=fN/\a6=fO:=by injection f with f;injection f with f A;exact⟨f,A⟩
     refine O a4 (nV bw) ?_;rw[bR,cV ad,e8,b1.o];show _=some (nV (nd.getD (kidOf (l.map ai.t) a) 0))
     rw[<-cc,cB,cV ad];rfl
    have t:=e4 wr.drew a0.base.drew bz;have hh:=e4 (wr.drew.alloc (.cells #[.int .i64 0,.int .i64 0,.slice none 0 0] 171)) (a0.base.drew.alloc a0.base.size _) ((br _ _ _ (aI bz)).Z bz);have lF:(a4:Int)<((l.length:Nat):Int):=ad;have kd:∃ga gf,c9=some ⟨ga,gf,none⟩/\wr.cell? ⟨ga,gf+i,none⟩=some (.string ⟨a.toArray⟩):=by obtain⟨g,c8,f,_,O⟩:=(cv.o wr a0.base).1.sym.at G;exact⟨g,c8,f,O⟩
    obtain⟨ga,gf,kc,j7⟩:=kd;subst kc;have lP:(q:Int)<=256:=aQ ed.o;obtain⟨b3,cL,ek,ao,cO,eg,av,b4,ia,em⟩:=jB a0 ca fo e2 fv c3 bz fF G fx;obtain⟨io,cx⟩:=aC cc e8;clear a0 ca fo e2 fv c3 bz fF G fx cc e8 bF cl hs hC e4;go_wp2_with fail
    refine tF (S:=(fun h=>(h.cell? ⟨w1.heap.size,1,none⟩=some (.slice (some ⟨a5,0,none⟩) keys.length c7)/\(h.cell? ⟨M.heap.size,0,none⟩=some (.int .i64 (r:Nat))/\h.cell? ⟨M.heap.size,1,none⟩=some (.int .i64 (wt c V:Nat)))/\(h.cell? ⟨a5,r,none⟩=some (.slice (some ⟨N,T,none⟩) (unionB (symsS x.t.E)).length h2)/\h.cell? ⟨N,T+i,none⟩=some (.int .i64 (q:Nat)))/\h.cell? ⟨D,1,none⟩=some (.map (some B))/\h.cell? ⟨H,a6+a4,none⟩=some (.int .i64 (bw:Nat))/\(Instr.lookup 72 (.map (some B)) (.string ⟨a.toArray⟩) false).run prog h=.ok (.int .i64 (a4:Nat)) h))) (last:=23) az ?_;refine cj (i:=0) rfl t ?_;refine cj (i:=1) rfl t ?_;refine cj (i:=2) rfl t ?_;refine cj (i:=3) rfl t ?_;refine cj (i:=4) rfl t ?_;refine cj (i:=5) rfl t ?_;refine cj (i:=6) rfl t ?_;refine cj (i:=7) rfl t ?_;refine cj (i:=8) rfl t ?_;refine cj (i:=9) rfl t ?_;refine cj (i:=10) rfl t ?_;refine cj (i:=11) rfl t ?_;refine cj (i:=12) rfl t ?_;refine cj (i:=13) rfl t ?_;refine cj (i:=14) rfl t ?_;refine cj (i:=15) rfl t ?_;refine cj (i:=16) rfl t ?_;refine cj (i:=17) rfl t ?_;refine cj (i:=18) rfl t ?_;refine cj (i:=19) rfl t ?_;refine cj (i:=20) rfl t ?_;refine cj (i:=21) rfl t ?_;refine gy (i:=22) az rfl (fun H B=> ?_);go_simp;refine B.out _ _ (fun _=>hh) (fun _=> ?_);try simp only[Act.put,cK,cR,ct]
    refine gy (i:=23) az rfl (fun N D=> ?_);go_simp;refine D.out _ _ (fun Z=>absurd rfl Z) (fun _=> ?_);try simp only[Act.put,cK,cR,ct]
    refine ql az ?_ _;clear B D H N;have hS:wt c V<=4096/\∀a∈V,a∈unionB (symsS x.t.E):=⟨(cL.o.bg _ _ ao.o).2.2,(cL.o.bg _ _ ao.o).1⟩;have B:bw<=4097:=by
     rw[cx.o,b1.o];show nd.getD (kidOf (l.map ai.t) a) 0<=4097
     rw[cB,<-io.o,cV ad];exact(g0.o _ (wv (l:=nd) (n:=a4) ad)).2
    obtain⟨H,hM⟩:=am (wt c V+bw);have hR:IntKind.i64.wrap ((wt c V:Int)+(bw:Int))=(H:Int):=by rw[K7];omega
    rw[hR];obtain⟨D,N⟩:=am ((wr.alloc (.cells #[.int .i64 (q:Nat),.int .i64 (H:Nat),.slice none 0 0] 171)).drew);rw[<-N];have Z:Below wr.heap.size wr D:=by rw[N];exact aP.drew
    have e0:D.heap[wr.heap.size]?=some (.cells #[.int .i64 (q:Nat),.int .i64 (H:Nat),.slice none 0 0] 171):=by rw[N];exact aN wr _
    obtain⟨i1,i2⟩:=ku e0;have eB:=(Z.J _ (aI av.o)).Z av.o;have la:=ak 2 eB;have hn:(unionB (symsS x.t.E)).drop i=a::(unionB (symsS x.t.E)).drop (i+1):=by obtain⟨f,A⟩:=aF.1 ia.o;rw[mT f,A]
    have fb:=cL.o;rw[hn]at fb;obtain⟨ec,B,T,h7,en⟩:=iz fb Z e0 eB hM;clear N Z e0 eB hn fb t hh j7 hR hM;by_cases N:4097<=H
    ·have t:(4097:Int)<=H:=ad
     have K:Hid (vW c (unionB (symsS x.t.E)) nx aa m X (r::E) R.length M.heap.size r V J I (.int .i64 ((i:Int)+1)) D):=ah
      ⟨i+1,al,bu,bo,aD,c2,b3.o.O B.out,ec.o.skip ao.o (jO en.o cx.o),ek.o,ao.o,by have:=cO.o;omega,by have:=eg.o;omega,h7.out,b4.o.O B.out⟩
     clear N;go_wp2_with fail
     exact⟨K.o,by simp[intOf];omega⟩
    ·have t:¬((4097:Int)<=H):=ad
     have t:=G9 V J I D (b4.o.O B.out).at (by have:=vV (c:=c) (fun a G=>bt.o a (hS.2 a G));omega);have N:=ah t;clear t;go_wp2_with fail
     refine N.o.zz ?_;rintro e dc ⟨⟨v,rfl,hv⟩,et⟩;obtain⟨cs,cq,rfl⟩:=bs hv;have t:V.length<=4096:=by have:=vV (c:=c) (fun a G=>bt.o a (hS.2 a G));omega
     have ex:=aE B.out et;have eD:=(et.J _ (aI T.out)).Z T.out;obtain⟨h1,hr,hY,hZ,h0⟩:=cZ pB;obtain⟨Z,N⟩:=am (dc.alloc (.cells #[.string ⟨a.toArray⟩] 9));have cS:Below wr.heap.size wr Z:=by rw[N];exact ex.alloc ex.size _
     have eE:Z.heap[wr.heap.size]?=some (.cells #[.int .i64 (q:Nat),.int .i64 (H:Nat),.slice none 0 0] 171):=by rw[N];exact(br _ _ _ (aI eD)).Z eD
     have hB:=eq dc [.string ⟨a.toArray⟩] 9 _ rfl;have t:m.heap.size<=D.heap.size:=aW b3.o.base.size B.out.size;have fy:Z.ownsRow m.heap.size 9 1 (.slice cs V.length cq) V.length (V.map encStr):=by rw[N];exact eR (aX hv (fun g F=>br _ _ _ (aV hv F).2)) t
     have fz:∀g,(Value.slice cs V.length cq).ownBlock=some g->wr.heap.size<g:=fun g F=>by have f:=(aV hv F).1;have A:=aI T.out;omega
     have b0:Hid (∀B gc T,T.ownsRow m.heap.size 9 1 (.slice (some ⟨B,0,none⟩) (V.length+1) gc) (V.length+1) (V.map encStr++[.string ⟨a.toArray⟩])->Z.grownBy T (Value.slice cs V.length cq).ownBlock->
      (T.cell? ⟨wr.heap.size,2,none⟩=some (.slice none 0 0)/\T.frozen? ⟨wr.heap.size,2,none⟩=false)/\∀t,t=T.setCell ⟨wr.heap.size,2,none⟩ (.slice (some ⟨B,0,none⟩) (V.length+1) gc)->
        t.heap[wr.heap.size]?=some (.cells #[.int .i64 (q:Nat),.int .i64 (H:Nat),.slice (some ⟨B,0,none⟩) (V.length+1) gc] 171)/\Below wr.heap.size wr t/\eN t m.heap.size ⟨q,H,V++[a],some ⟨B,0,none⟩,gc,al⟩):=ah (fun B gc T hG F=>by
      have D:=(F.J _ (aI eE) (fun e=>by have:=fz _ e.zy;omega)).Z eE;refine⟨⟨ak 2 D,aJ D 2⟩,fun t e1=> ?_⟩;have cg:∀g,(Value.slice (some ⟨B,0,none⟩) (V.length+1) gc).ownBlock=some g->g≠wr.heap.size:=fun g e9 e=>iP hG D aq (by rw[e9,e]);have bf:t.ownsRow m.heap.size 9 1 (.slice (some ⟨B,0,none⟩) (V.length+1) gc) (V.length+1) (V.map encStr++[.string ⟨a.toArray⟩]):=by rw[e1];exact aX hG (fun g e9=>aU _ _ _ _ _ (cg g e9))
      refine⟨by rw[e1];exact a8 _ _ 2 _ D,by rw[e1];exact(cS.zu F cS.size (fun q e=>DJ (fz q e))).setCell (ay _) _,?_⟩;unfold eN;rw[ck,gL];exact bf)
     have e3:m.heap.size<=Z.heap.size:=aW b3.o.base.size cS.size;rw[N]at b0 e3 fy;have Q:∀h,(zeroValue 171).run prog h=.ok (.agg #[.int .i64 0,.int .i64 0,.slice none 0 0]) h:=fun h=>az;clear eD ex N cS eE et hv i1 i2 la fz;have hH:al<=1000000:=by have f:(r::E).length*(unionB (symsS x.t.E)).length<=256*64:=Nat.mul_le_mul (by have:=ed.o;simp only[ef];omega) hw;have:=cO.o;omega
     have Z:H=wt c (V++[a]):=by rw[wt_snoc,en.o,cx.o]
     have F:q=st nx (V++[a]):=by rw[st_snoc,<-ic.o,em.o]
     have g1:Hid (∀B gc an,(∀D,bo q=some D->¬le bM c D (V++[a]))->iG c nx m X (al+1) (al+1) (bu++[⟨q,H,V++[a],some ⟨B,0,none⟩,gc,al⟩]) (upd bo q (V++[a])) an->
      an.heap[M.heap.size]?=some (.cells #[.int .i64 (r:Nat),.int .i64 (wt c V:Nat),.slice J V.length I] 171)->eN an m.heap.size ⟨r,wt c V,V,J,I,0⟩->vW c (unionB (symsS x.t.E)) nx aa m X (r::E) R.length M.heap.size r V J I (.int .i64 ((i:Int)+1)) an):=ah (fun B gc an fu f A O=>by
      have N:=em.o;obtain⟨a1,a2,a3⟩:=ec.o.put dw (bt.o a b7) b7 aj ao.o (jO en.o cx.o) ek.o (by rw[<-N];exact fu);rw[<-N]at a1 a2 a3;have cg:r≠q:=fun e=>a2 (by rw[<-e];simp);exact⟨i+1,al+1,_,_,aD,c2,f,by rw[gL];exact a1,a3,by show(if r=q then _ else _)=_;rw[ap cg];exact ao.o,by have:=cO.o;omega,by have:=eg.o;rw[ck];simp;omega,A,O⟩)
     obtain⟨cP,ha⟩:=aC Z F;clear Z F;cases bA:bo q with
     |none=>
      go_wp2_with(first
       |(at_builtin;go_must (refine kI _ rfl _ _ 53 rfl m.heap.size 9 h1 _ 1 16 jM hr hY hZ h0 rfl ad (.slice cs V.length cq) V.length (V.map encStr) rfl fy ⟨dc.heap.size,0,none⟩ 1 1 [.string ⟨a.toArray⟩] rfl rfl hB (fun z Q=>by simp at Q;subst Q;rfl) ad bO ad e3 _ rfl ?_);intro B gc T ch b9 e6 c4;obtain⟨⟨t0,t1⟩,aw⟩:=b0.o B gc T ch b9;obtain⟨t,a9⟩:=am (T.setCell ⟨wr.heap.size,2,none⟩ (.slice (some ⟨B,0,none⟩) (V.length+1) gc));obtain⟨N,a7,bf⟩:=aw t a9;have u0:=ak 0 N;have u1:=ak 1 N;have u2:=ak 2 N;have bg:=b3.o.O a7;obtain⟨km,f13,af,fr,ba⟩:=bg.map;have bd:=af.look_ok (iY ei) xi (Q t) eY (bB q ad);rw[(ba q).2 bA]at bd;simp only[K1,K2]at bd;have F:Below t.heap.size t (t.alloc (.cells #[.int .i64 0,.int .i64 0,.slice none 0 0] 171)):=aP;have Z:=(F.J _ (aI N)).Z N;have gl:=ak 0 Z;have gn:=ak 1 Z;have gr:=ak 2 Z;have be:=af.of_block (F.J _ af.lt);have b8:=ba.zz (fun x ab=>eN.O ab F);have bq:=ah Z;have dm:=ah a7;have dn:=ah F;have cN:=ah (bf.O F);have er:=ah (bg.O F);have dz:=ah b8;clear aw ch b9 e6 N a7 bf bg ba af F Z b8)
       |(rw[<-a9];clear a9 t0 t1)
       |(at_mapUpdate;go_must (refine tf be rfl _ _ _ 180 rfl 171 (iY ei) xi rfl bO _ _ _ rfl rfl eY (bB q ad) ?_);intro dl cd bb;have fs:wr.heap.size≠X:=(fun e=>by obtain⟨i4,i3,C⟩:=be.J;rw[<-e,bq.out]at C;cases C);have ae:=(bb.J _ (aI bq.out) (fun e=>fs (by injection e with e))).Z bq.out;have kv:=ak 0 ae;have ky:=ak 1 ae;have k0:=ak 2 ae;have ea:=ah bb;have el:=ah cd;clear cd bb ae u0 u1 u2 bd gl gn gr be)
       |fail)
      have ey:Below wr.heap.size wr _:=aE dm.out dn.out;refine ar (JO er.o dz.o fr cN.o cP.o ha.o hH ad el.o ea.o (Y:=M.heap.size) ((ey.J _ (aI av.o)).Z av.o) (xV:=⟨r,wt c V,V,J,I,0⟩) (b4.o.O ey)) ?_;rintro an ⟨a1,a2,a3⟩;have K:=ah (g1.o B gc an (fun D hj=>by rw[bA]at hj;cases hj) a1 a2 a3);clear ey a1 a2 a3;go_wp2_with fail
      exact⟨K.o,by simp[intOf];omega⟩
     |some D=>
      have e7:∀(args:Array Value) (h:World),(callFunc 83 args).run prog h=.ok (.enter 83 args) h:=fun _ _=>rfl;have jb:D.length<=1048576:=by obtain⟨f,_,O⟩:=cL.o.bg _ _ bA;have:=vV (c:=c) (fun a G=>bt.o a (f a G));omega
      have ji:(V++[a]).length=V.length+1:=aj;go_wp2_with(first
       |(at_builtin;go_must (refine kI _ rfl _ _ 53 rfl m.heap.size 9 h1 _ 1 16 jM hr hY hZ h0 rfl ad (.slice cs V.length cq) V.length (V.map encStr) rfl fy ⟨dc.heap.size,0,none⟩ 1 1 [.string ⟨a.toArray⟩] rfl rfl hB (fun z Q=>by simp at Q;subst Q;rfl) ad bO ad e3 _ rfl ?_);intro B gc T ch b9 e6 c4;obtain⟨⟨t0,t1⟩,aw⟩:=b0.o B gc T ch b9;obtain⟨t,a9⟩:=am (T.setCell ⟨wr.heap.size,2,none⟩ (.slice (some ⟨B,0,none⟩) (V.length+1) gc));obtain⟨N,a7,bf⟩:=aw t a9;have u0:=ak 0 N;have u1:=ak 1 N;have u2:=ak 2 N;have bg:=b3.o.O a7;obtain⟨km,f13,af,fr,ba⟩:=bg.map;have bd:=af.look_ok (iY ei) xi (Q t) eY (bB q ad);obtain⟨o',G,ho,hQ⟩:=(ba q).1 D bA;rw[ho]at bd;simp only[gM,DF]at bd;have F:Below t.heap.size t (t.alloc (.cells #[.int .i64 (q:Nat),.int .i64 (wt c D:Nat),.slice o' D.length G] 171)):=aP;have Z:=(F.J _ (aI N)).Z N;have gl:=ak 0 Z;have gn:=ak 1 Z;have gr:=ak 2 Z;have be:=af.of_block (F.J _ af.lt);have b8:=ba.zz (fun x ab=>eN.O ab F);have iw:=ah (hQ.O F);have h:=(aN t (.cells #[.int .i64 (q:Nat),.int .i64 (wt c D:Nat),.slice o' D.length G] 171));have fT:=ak 0 h;have ko:=ak 1 h;have kp:=ak 2 h;have bq:=ah Z;have dm:=ah a7;have dn:=ah F;have cN:=ah (bf.O F);have er:=ah (bg.O F);have dz:=ah b8;clear aw ch b9 e6 N a7 bf bg ba af F Z b8 ho hQ h)
       |(rw[<-a9];clear a9 t0 t1)
       |fail)
      have T:=CE q (wt c D) q H D (V++[a]) o' (some ⟨B,0,none⟩) G gc _ iw.o.at cN.o.at jb ad;simp only[ji]at T;refine ar T ?_;intro dl h;obtain⟨fP,ag⟩:=am (k8 (wt c D) H D (V++[a]));rw[<-ag];have G:=ah ag;have N:=(h.J _ (aI bq.out)).Z bq.out;obtain⟨k1,k2,k3⟩:=dP N;have F:=ah N;have Q:=be.of_block (h.J _ be.lt);obtain⟨Z,ib,iu⟩:=bm (er.o.O h) (dz.o.zz (fun x ab=>eN.O ab h)) (cN.o.O h);have he:Below wr.heap.size wr dl:=aE (aE dm.out dn.out) h;have t:=ah he;clear ag N T h he bd gl gn gr u0 u1 u2 fT ko kp e7 be;by_cases h:fP<=0
      ·have K:Hid (vW c (unionB (symsS x.t.E)) nx aa m X (r::E) R.length M.heap.size r V J I (.int .i64 ((i:Int)+1)) dl):=ah
        ⟨i+1,al,bu,bo,aD,c2,Z.o,ec.o.old ao.o (by rw[<-em.o];exact bA) (by
          rcases vR (wt c D) H D (V++[a])with⟨f,_⟩|⟨f,_⟩|⟨_,f⟩
          refine .inr ?_;rw[cP.o]at f;exact f;exact .inl f.2;rw[<-G.o]at f;omega),ek.o,ao.o,by have:=cO.o;omega,by have:=eg.o;omega,(t.out.J _ (aI av.o)).Z av.o,b4.o.O t.out⟩
       go_wp2_with fail
       exact⟨K.o,by simp[intOf];omega⟩
      ·go_wp2_with(first
       |(at_mapUpdate;go_must (refine tf Q rfl _ _ _ 180 rfl 171 (iY ei) xi rfl bO _ _ _ rfl rfl eY (bB q ad) ?_);intro dl cd bb;have fs:wr.heap.size≠X:=(fun e=>by obtain⟨i4,i3,C⟩:=Q.J;rw[<-e,F.out]at C;cases C);have ae:=(bb.J _ (aI F.out) (fun e=>fs (by injection e with e))).Z F.out;have kv:=ak 0 ae;have ky:=ak 1 ae;have k0:=ak 2 ae;have ea:=ah bb;have el:=ah cd;clear cd bb ae Q k1 k2 k3)
       |fail)
       refine ar (JO Z.o ib.o fr iu.o cP.o ha.o hH ad el.o ea.o (Y:=M.heap.size) ((t.out.J _ (aI av.o)).Z av.o) (xV:=⟨r,wt c V,V,J,I,0⟩) (b4.o.O t.out)) ?_;rintro an ⟨a1,a2,a3⟩;have K:=ah (g1.o B gc an (fun C h t=>by
        rw[bA]at h;injection h with h;subst h
        rcases vR (wt c D) H D (V++[a])with⟨_,f⟩|⟨_,f⟩|⟨f,_⟩
        rw[<-G.o]at f;omega;rw[<-G.o]at f;omega;rw[cP.o]at f;exact le_not dw t f) a1 a2 a3)
       clear a1 a2 a3;go_wp2_with fail
       exact⟨K.o,by simp[intOf];omega⟩
   ·obtain rfl:i=(unionB (symsS x.t.E)).length:=ad
    have K:Hid (zm c (unionB (symsS x.t.E)) nx aa keys.length m X (((unionB (symsS x.t.E)).length+1)*(keys.length-(E.length+1))+bu.length) wr):=ah
     ⟨al,bu,bo,r::E,a0,U1 (by rw[Dk]at ca;exact ca),ad,i7,rfl⟩
    have h:=ah c3;clear a0 ca fo e2 fv c3 bz fF
    go_wp2
    go_roundg(((unionB (symsS x.t.E)).length+1)*(keys.length-(E.length+1))+bu.length)
    case rel=>exact K.o
    case measure=>
     have f:=h.o;have A:=g3.o;have O:=g5.o;have f:keys.length-E.length=(keys.length-(E.length+1))+1:=ad;rw[f,Nat.mul_succ]at O;omega
end
end Go.Proofs.YtfeidcmojcijpaaGreatDoor
