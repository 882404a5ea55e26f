import Derived.Test.YtfeidcmojcijpaaGreatDoorQbi
import Derived.Test.YtfeidcmojcijpaaGreatDoorQbq
set_option linter.all false
set_option maxRecDepth 100000
set_option maxHeartbeats 0
namespace Go.Proofs.YtfeidcmojcijpaaGreatDoor
open Go.RowKit Tryz
def PW(Q a b d X:Nat)(k:Nat)(L:List WI)(W:World):Prop:=(∃c e,fk W Q a b c e k d L)/\∀x∈L,eN W X x/\x.V.length<=1048576
def fk.sq{W:World}{Q f g n k b:Nat}{m o:Value}{L:List WI}(a:fk W Q f g m o k n L)(j:b≠Q)(i:b<W.heap.size)(d:∀cs e h,W.heap[b]?=some (.cells cs e h)->e≠257/\e≠307):SQ Q W b:=by obtain⟨ys,l⟩:=a.zk;refine QG.sq a (fun e=> ?_) (fun e=> ?_) j i;obtain⟨cs,c⟩:=nk a.zt e;exact(d _ _ _ c).1 rfl;obtain⟨cs,c⟩:=nk l e;exact(d _ _ _ c).2 rfl
def UR{W Q B OB put k X g iv sv v L n xs}(c:fk W Q B OB iv sv k put L)(f:W.ownsRow X 9 1 v n xs)(d:v.ownBlock=some g):SQ Q W g:=by
 obtain⟨cs,a⟩:=nk f d;refine c.sq (fun e=> ?_) (aV f d).2 (fun h e i b=> ?_);subst e;rw[c.box]at a;injection a with a
 injection a with _ a
 exact absurd a aq;rw[a]at b;injection b with b
 injection b with _ b
 subst b;simp
def mI{W W' Q B OB put k X iv sv L x}(b:fk W Q B OB iv sv k put L)(a:eN W X x)(d:cF Q W W'):eN W' X x:=
 aX a fun g c=>(d.kp.2 g (UR b a c)).2
def vT k args w(a:k=309∨k=308∨k=312∨k=311∨k=310):(callFunc k args).run prog w=.ok (.enter k args) w:=by rcases a with rfl|rfl|rfl|rfl|rfl<;>rfl
def JH(Q o p q X:Nat):tn kC (fun x=>.agg (ld x).toArray) (fun x W=>eN W X x/\x.V.length<=1048576) Q 267 257
 309 308 312 311 310 (PW Q o p q X)where
 ahead:=UD
 self:=UE
 mL _ _:=az
 mN _ _:=az
 mS _ _:=az
 mP _ _:=az
 mO _ _:=az
 cL args w:=vT _ args w aj
 cN args w:=vT _ args w aj
 cS args w:=vT _ args w aj
 cP args w:=vT _ args w aj
 cO args w:=vT _ args w aj
 O:=by rintro k L W W' ⟨⟨g,f,c⟩,d⟩ s;have z:=im c s;exact⟨⟨⟨g,f,c.O s⟩,fun x h=>⟨mI c (d x h).1 z,(d x h).2⟩⟩,z⟩
 len:=by rintro k L W ⟨⟨g,f,c⟩,d⟩;exact UJ W Q o p k q g f L c
 less:=by rintro k L W i j a b ⟨⟨g,f,c⟩,d⟩ u v n;have B:=d a (aK u);have s:=d b (aK v);exact UM W Q o p k q i j g f L a b c u v n B.1.at s.1.at B.2 s.2
 swap:=by rintro k L W i j a b ⟨⟨g,f,c⟩,d⟩ u v n z;refine(UO W Q o p k q i j g f L a b c u v n z).zz ?_;rintro e w' ⟨t,r,m⟩;exact⟨t,⟨r,fun x h=>by have h:=(tk L i j).mem_iff.1 h;exact⟨mI c (d x h).1 m,(d x h).2⟩⟩,m⟩
 push:=by
  rintro k L W x ⟨⟨g,f,c⟩,d⟩ n h;refine(UK W Q o p k q g f L x c n).zz ?_;rintro e w' ⟨t,⟨A,r⟩,m⟩;refine⟨t,⟨⟨A,f,r⟩,fun y l=> ?_⟩,m⟩;rcases dk.1 l with l|l
  exact⟨mI c (d y l).1 m,(d y l).2⟩;simp at l;subst l;exact⟨mI c h.1 m,h.2⟩
 pop:=by rintro k L W a ⟨⟨g,f,c⟩,d⟩ n;refine(UQ W Q o p k q g f L a c n).zz ?_;rintro e w' ⟨t,⟨A,r⟩,m⟩;exact⟨t,⟨⟨A,f,r⟩,fun y l=>⟨mI c (d y (by simp[l])).1 m,(d y (by simp[l])).2⟩⟩,m⟩
def g6(Q b c X d:Nat)(L:List WI)(W:World):Prop:=∃k a,PW Q b c d X k a W/\gx kC a a/\a.Perm L
def US W:de 87 #[.func (.func 83) #[] #[]] W (.tuple #[.pointer (some ⟨W+1,0,none⟩),.int .i64 0]) fun w'=>fk w' (W+1) (W+2) W () () 0 0 []/\aR W w':=by
 obtain⟨b,a⟩:=am ((W.alloc (.cells #[.func (.func 83) #[] #[]] 175)).alloc (.cells #[.slice none 0 0,.slice none 0 0,tT W,.int .u64 (0:Nat)] 264));have c:Below W.heap.size W b:=by rw[a];exact aP.alloc aj _
 have d:b.heap[W.heap.size]?=some (.cells #[.func (.func 83) #[] #[]] 175):=by rw[a];exact(br _ _ _ aj).Z (aN W _)
 have e:b.heap[W.heap.size+1]?=some (.cells #[.slice none 0 0,.slice none 0 0,tT W.heap.size,.int .u64 ((0:Nat):Int)] 264):=by rw[a];have:=aN (cT W #[.func (.func 83) #[] #[]] 175) (.cells #[.slice none 0 0,.slice none 0 0,tT W,.int .u64 (0:Nat)] 264);rwa[bP]at this
 have j:b.heap.size=W.heap.size+2:=by rw[a];simp
 have h:Hid (fk b (W.heap.size+1) (W.heap.size+2) W.heap.size (.slice none 0 0) (.slice none 0 0) 0 0 []/\Below W.heap.size W b):=
  ah ⟨⟨e,cW _ _ _ _,⟨[],cW _ _ _ _⟩,(fun g i=>by cases i),ad,ad,d,ad,ad⟩,c⟩
 have l:=qd;have m:∀w,(binOp BinOp.eql 175 (.func (.func 83) #[] #[]) .nilFunc).run prog w=.ok false w:=fun _=>rfl;unfold tT at a;clear c d e j
 go_in
 go_wp2_with(first|(rw[<-a];clear a)|fail)
 go_ret2
 have f:=h.o;rw[a]at f;exact⟨rfl,f⟩
def UT a b c w:CallsD prog 168 #[a,b,c] .returning w fun e g w'=>e=.returned (.tuple #[])/\g=.returning/\w'=w:=by
 refine DB func168 rfl fun d cs f=> ?_;apply wpS_seq;apply wpS_region;simp[wpOpsS,go_sem,recoverD,f,Exit.thenS];apply wpS_cond (t:=false) (by simp[Act.eval,Array.replicate]);simp only[iW,iy];refine wpS_of_wp (wp_skip ?_);cases d
 simp_all[bodyPostS,results,results168]
def UU a b c d e w:CallsD prog 171 #[a,b,c,d,e] .returning w fun e h w'=>e=.returned (.tuple #[])/\h=.returning/\w'=w:=by
 refine DB func171 rfl fun f cs g=> ?_;apply wpS_seq;apply wpS_region;simp[wpOpsS,go_sem,recoverD,g,Exit.thenS];apply wpS_cond (t:=false) (by simp[Act.eval,Array.replicate]);simp only[iW,iy];refine wpS_of_wp (wp_skip ?_);cases f
 simp_all[bodyPostS,results,results171]
def CJ(W:World)(Q a b X c:Nat)(L:List WI)(e:Ending)(w':World):Prop:=e=.returned (0:Int)/\g6 Q a b X (c+1) L w'/\cF Q W w'
def JI W Q B OB X c L x(v:x.p=c)(a:g6 Q B OB X c L W)(d:eN W X x/\x.V.length<=1048576)(J:L.length<=1048575)(h:c<=1048576):
 dB 88 #[Q,.agg #[.int .i64 x.s,.int .i64 x.n,.slice x.o x.V x.c]] W (CJ W Q B OB X c (L++[x])):=by
 obtain⟨k,E,⟨⟨i,A,a⟩,z⟩,ab,h⟩:=a;have J:=h.length_eq▸J;have⟨S,i,a0,R⟩:=dE d v h z;have j:Hid (∀w',aR W w'->eN w' X x):=ah fun w' i=>aX d.1 (fun g I=>i.J g (aV d.1 I).2);have⟨s,m⟩:=am x.s;have⟨t,o⟩:=am x.n;have⟨l,u⟩:∃s,s=x.o:=⟨_,rfl⟩;have⟨j,r⟩:∃s,s=x.V.length:=⟨_,rfl⟩;have⟨i,q⟩:∃s,s=x.c:=⟨_,rfl⟩;rw[<-m,<-o,<-u,<-r,<-q];have a2:Hid (.agg #[.int .i64 s,.int .i64 t,.slice l j i,.int .u64 c]=Value.agg (ld x)):=ah (by rw[m,o,u,r,q,<-v];rfl);clear d v h z m o u r q;obtain⟨C,u,rfl⟩:∃C u,A=.slice C k u:=by obtain⟨ys,q⟩:=a.zk;exact bs q
 obtain⟨h,d,rfl⟩:=bs a.zt;have⟨n,A⟩:=am E.length;have h:=aS a.box;have d:=aS a.ob;have⟨m,d⟩:=am ((((W.alloc (.cells #[Q] 176)).alloc (.cells #[.int .i64 s,.int .i64 t,.slice l j i] 171)).alloc (.cells #[.int .i64 0] 30)).alloc (.cells #[.int .i64 n] 3));have v:Below W.heap.size W m:=by rw[d];exact((aP.alloc dj _).alloc dj _).alloc dj _
 have af:m.heap.size=W.heap.size+4:=by rw[d];simp
 have M:m.heap[W.heap.size]?=some (.cells #[.pointer (some ⟨Q,0,none⟩)] 176):=by rw[d];exact(br _ _ _ dj).Z ((br _ _ _ dj).Z ((br _ _ _ dj).Z (aN W _)))
 have N:m.heap[W.heap.size+1]?=some (.cells #[.int .i64 (s:Nat),.int .i64 (t:Nat),.slice l j i] 171):=by rw[d];have:=aN (cT W #[Q] 176) (.cells #[.int .i64 s,.int .i64 t,.slice l j i] 171);rw[bP]at this;exact(br _ _ _ dj).Z ((br _ _ _ dj).Z this)
 have O:m.heap[W.heap.size+2]?=some (.cells #[.int .i64 0] 30):=by rw[d];have:=aN (cT (W.alloc (.cells #[Q] 176)) #[.int .i64 s,.int .i64 t,.slice l j i] 171) (.cells #[.int .i64 0] 30);rw[bP,bP]at this;exact(br _ _ _ dj).Z this
 have⟨r,o⟩:=am (((W.alloc (.cells #[Q] 176)).alloc (.cells #[.int .i64 s,.int .i64 t,.slice l j i] 171)).alloc (.cells #[.int .i64 0] 30));have Y:Below W.heap.size W r:=by rw[o];exact(aP.alloc dj _).alloc dj _
 have ag:r=W.heap.size+3:=by rw[o];simp
 have al:r.heap[W.heap.size]?=some (.cells #[.pointer (some ⟨Q,0,none⟩)] 176):=by rw[o];exact(br _ _ _ dj).Z ((br _ _ _ dj).Z (aN W _))
 rw[<-o]at d;have bd:=ak 0 al;have an:=ak 0 ((Y.J _ h).Z a.box);rw[<-A]at an;have h:=a.O v;have⟨z,ae⟩:=h.reset;have G:=z.O (aA _ _).drew;have K:=((im a v).Z ae).Z (im z (aA _ _).drew);have a7:=ak 0 M;have⟨a9,ba,bb⟩:=dP N;have bc:=ak 0 O;have Z:=ak 0 h.box;have a5:=ak 1 h.box;have f1:=aJ h.box 1;have aa:=ak 0 a.box;have⟨F,H⟩:=am ((m.setCell ⟨Q,1,none⟩ (.slice C 0 u)).drew);rw[<-H]at G K;have u:=qd;rw[<-A]at Z aa;have⟨be,D,T,ao,V,u,a4,a3,P,C⟩:=jB ag G K h M N O af H A;have⟨aw,C,av⟩:=bm ab a v;have a6:=fun w=>yD a.zk.choose_spec w;clear a h z ae G K M N O af H A ab v Y ag al
 go_enter_defers func88,ntmps88
 go_wp2_with(first|(rw[<-o];clear o)|(rw[<-d];clear d)|fail)
 go_region
 rw[<-P.o];have G:=D.o.O (aA _ _).drew;have v:=T.out.Z (im D.o (aA _ _).drew);have A:=GN (JH Q B OB c X) _ E x ⟨mI C.o S.o.1 v,S.o.2⟩ ⟨⟨_,_,G⟩,fun y q=>⟨mI C.o (R.o y q).1 v,(R.o y q).2⟩⟩ aw.o J;rw[<-a2.o]at A;have d:∀b,W.heap.size<=b->b<W.heap.size+4->SQ Q F.drew b/\F.drew.heap[b]?=m.heap[b]?:=fun b h z=>by have:=(ao.o.reset.2.kp.same b (C.o.sq_new av.o h (aQ a3.out)));rw[P.o];exact this
 have N:=G.box;have O:=T.out.Z (im D.o (aA _ _).drew);have D:=ak 0 ((d _ (ay _) ad).2.Z V.out);have H:=ak 0 ((d (W.heap.size+1) ad ad).2.Z u.out);have J:=ak 1 ((d _ ad ad).2.Z u.out);have K:=ak 2 ((d _ ad ad).2.Z u.out);have M:=ak 3 N;have z:Hid (∀a,tp (PW Q B OB c X) kC Q F.drew (E++[x]) (.returned (.tuple #[])) a->a.heap[W.heap.size]?=some (.cells #[.pointer (some ⟨Q,0,none⟩)] 176)/\a.heap[W.heap.size+1]?=some (.cells #[.int .i64 (s:Nat),.int .i64 (t:Nat),.slice l j i] 171)/\a.heap[W.heap.size+2]?=some (.cells #[.int .i64 0] 30)/\SQ Q a (W.heap.size+2)):=fun a h=>by have o:=h.2.2.kp.same _ (d _ (ay _) ad).1;have a1:=h.2.2.kp.same _ (d (W+1) ad ad).1;have m:=h.2.2.kp.same _ (d (W.heap.size+2) ad ad).1;exact⟨o.2.Z ((d _ (ay _) ad).2.Z V.out),a1.2.Z ((d _ ad ad).2.Z u.out),m.2.Z ((d _ ad ad).2.Z a4.out),m.1⟩
 have⟨C,P⟩:=aC A O;clear A O v G d N a7 a9 ba bb bc Z a5 f1 aa bd an a6;go_wp2_with fail
 go_region_held3(fun w'=>w'.cell? ⟨W.heap.size,0,none⟩=some (.pointer (some ⟨Q,0,none⟩))/\(w'.cell? ⟨W.heap.size+1,0,none⟩=some (.int .i64 (s:Nat))/\w'.cell? ⟨W.heap.size+1,1,none⟩=some (.int .i64 (t:Nat))/\w'.cell? ⟨W.heap.size+1,2,none⟩=some (.slice l j i))/\w'.cell? ⟨Q,3,none⟩=some (.int .u64 (c:Nat)))
  (first|exact⟨D,⟨H,J,K⟩,M⟩|exact E)
  (first|(go_at_call 170;apply C.o.zz;rintro e a h;have E:a.cell? ⟨W.heap.size,0,none⟩=some (.pointer (some ⟨Q,0,none⟩))/\(a.cell? ⟨W.heap.size+1,0,none⟩=some (.int .i64 (s:Nat))/\a.cell? ⟨W.heap.size+1,1,none⟩=some (.int .i64 (t:Nat))/\a.cell? ⟨W.heap.size+1,2,none⟩=some (.slice l j i))/\a.cell? ⟨Q,3,none⟩=some (.int .u64 (c:Nat)):=(by obtain⟨rfl,d,F⟩:=h;obtain⟨o,a1,m,u⟩:=z.o a ⟨rfl,d,F⟩;obtain⟨_,_,⟨⟨_,_,d⟩,_⟩,_⟩:=d;exact⟨ak 0 o,⟨ak 0 a1,ak 1 a1,ak 2 a1⟩,ak 3 d.box⟩);obtain⟨rfl,A,v⟩:=h))
 obtain⟨o,a1,m,u⟩:=z.o a ⟨rfl,A,v⟩;obtain⟨R,i,⟨⟨G,S,d⟩,z⟩,F,h⟩:=A;obtain⟨N,j⟩:=d.number (p:=c+1);have O:=(j.kp.same _ u).1;have A:W+2≠Q:=ad;have l:fk ((a.setCell ⟨Q,3,none⟩ (.int .u64 (c+1:Nat))).setCell ⟨_,0,none⟩ (0:Int)) Q B OB G S R (c+1) i:=N.far O ad;have G:cF Q W ((a.setCell ⟨Q,3,none⟩ (.int .u64 (c+1:Nat))).setCell ⟨_,0,none⟩ (0:Int)):=((P.o.Z v).Z j).far ad A;have P:∀y∈i,eN ((a.setCell ⟨Q,3,none⟩ (.int .u64 ((c+1:Nat):Int))).setCell ⟨W.heap.size+2,0,none⟩ (.int .i64 0)) X y/\y.V.length<=1048576:=fun y q=>by
  have R:=mI d (z y q).1 j;refine⟨aX R (fun g I=>aU _ _ _ _ _ (fun e=> ?_)),(z y q).2⟩;obtain⟨cs,i⟩:=nk R I;rw[e,(j.kp.same _ u).2,m]at i;injection i with i
  injection i with _ i
  exact absurd i aq
 have i:Hid (CJ W Q B OB X c (L++[x]) (.returned (.int .i64 0)) ((a.setCell ⟨Q,3,none⟩ (.int .u64 (c+1:Nat))).setCell ⟨W.heap.size+2,0,none⟩ (.int .i64 0))):=ah ⟨rfl,⟨_,_,⟨⟨_,_,l⟩,P⟩,F,h.Z (a0.o.append_right _)⟩,G⟩;have q:=ak 0 o;have q:=ak 0 m;have I:=ak 3 d.box;have I:=aJ m 0;have I:=aJ d.box 3;have I:a.heap.size≠0:=aQ (aS o);clear d z P F h N j O l G o a1 m u v E D H J K M C;go_wp2_with fail
 refine DC (f:=168) (args:=#[.pointer (some ⟨W.heap.size,0,none⟩),.pointer (some ⟨r.heap.size,0,none⟩),.pointer (some ⟨W.heap.size+1+1,0,none⟩)]) aj (by rfl) ?_;apply(UT _ _ _ _).zz;rintro e d h ⟨rfl,rfl,rfl⟩;have l:CJ W Q B OB X c (L++[x]) (.returned (0:Int)) ((a.setCell ⟨Q,3,none⟩ (.int .u64 (c+1))).setCell ⟨W+1+1,0,none⟩ (0:Int)):=i.o;have d:((a.setCell ⟨Q,3,none⟩ (.int .u64 ((c:Int)+1))).setCell ⟨W.heap.size+1+1,0,none⟩ (.int .i64 0)).cell? ⟨W.heap.size+1+1,0,none⟩=some (.int .i64 0):=sm _ _ _ (by rw[li _ _ _ _ (fun e=>A (by injection e with e;exact e.zy)),q];rfl);exact⟨_,by simp[results,go_sem,d],l⟩
def pj(W:World)(Q n:Nat):World:=cT ((((W.alloc (.cells #[Q] 176)).alloc (.cells #[.int .i64 0,.int .i64 0,.slice none 0 0] 171)).alloc (.cells #[.int .i64 0] 30)).alloc (.cells #[.int .i64 0,.int .i64 0,.slice none 0 0] 171)) #[.int .i64 n] 3
def nA(W:World)(Q:Nat):World:=cT (((W.alloc (.cells #[Q] 176)).alloc (.cells #[.int .i64 0,.int .i64 0,.slice none 0 0] 171)).alloc (.cells #[.int .i64 0] 30)) #[.int .i64 0,.int .i64 0,.slice none 0 0] 171
def JJ W Q:aR W (nA W Q)/\(nA W Q)=W.heap.size+4/\(nA W Q).heap[W.heap.size]?=some (.cells #[Q] 176)/\(nA W Q).heap[W.heap.size+1]?=some (.cells #[.int .i64 0,.int .i64 0,.slice none 0 0] 171)/\(nA W Q).heap[W.heap.size+2]?=some (.cells #[.int .i64 0] 30)/\(nA W Q).heap[W.heap.size+3]?=some (.cells #[.int .i64 0,.int .i64 0,.slice none 0 0] 171):=by unfold nA;refine⟨((aP.alloc dj _).alloc dj _).alloc dj _,by simp,?_,?_,?_,?_⟩;exact(br _ _ _ dj).Z ((br _ _ _ dj).Z ((br _ _ _ dj).Z (aN W _)));have:=aN (cT W #[Q] 176) (.cells #[.int .i64 0,.int .i64 0,.slice none 0 0] 171);rw[bP]at this;exact(br _ _ _ dj).Z ((br _ _ _ dj).Z this);have:=aN (cT (W.alloc (.cells #[Q] 176)) #[.int .i64 0,.int .i64 0,.slice none 0 0] 171) (.cells #[.int .i64 0] 30);rw[bP,bP]at this;exact(br _ _ _ dj).Z this;have:=aN (cT ((W.alloc (.cells #[Q] 176)).alloc (.cells #[.int .i64 0,.int .i64 0,.slice none 0 0] 171)) #[.int .i64 0] 30) (.cells #[.int .i64 0,.int .i64 0,.slice none 0 0] 171);rwa[bP,bP,bP]at this
def UV W Q n:aR W (pj W Q n)/\(pj W Q n)=W.heap.size+5/\(pj W Q n).heap[W.heap.size]?=some (.cells #[Q] 176)/\(pj W Q n).heap[W.heap.size+1]?=some (.cells #[.int .i64 0,.int .i64 0,.slice none 0 0] 171)/\(pj W Q n).heap[W.heap.size+2]?=some (.cells #[.int .i64 0] 30)/\(pj W Q n).heap[W.heap.size+3]?=some (.cells #[.int .i64 0,.int .i64 0,.slice none 0 0] 171)/\(pj W Q n).heap[W.heap.size+4]?=some (.cells #[.int .i64 n] 3):=by obtain⟨c,a,d,f,g,h⟩:=JJ W Q;have e:pj W Q n=cT (nA W Q) #[.int .i64 n] 3:=rfl;rw[e];have b:=aN (nA W Q) (.cells #[.int .i64 n] 3);rw[a]at b;exact⟨c.alloc ad _,by rw[bP,a],(br _ _ _ ad).Z d,(br _ _ _ ad).Z f,(br _ _ _ ad).Z g,(br _ _ _ ad).Z h,b⟩
def JK(W:World)(Q b c X d:Nat)(L:List WI)(e:Ending)(w':World):Prop:=
 ∃(x:WI) (a:List WI),e=.returned (.tuple #[.agg #[.int .i64 x.s,.int .i64 x.n,.slice x.o x.V x.c],.int .i64 0])/\(∀y∈L,kC y x=false)/\g6 Q b c X d a w'/\(x::a).Perm L/\(eN w' X x/\x.V.length<=1048576)/\cF Q W w'
def UW W Q B OB X put n L(a:g6 Q B OB X put L W)(r:L.length=n+1)(S:n<=1048575):
 dB 89 #[Q] W (JK W Q B OB X put L):=by
 obtain⟨k,T,⟨⟨g,i,a⟩,d⟩,ab,c⟩:=a;have r:=c.length_eq▸r;have⟨R,j,E⟩:=bm c d a;clear c d;obtain⟨g,c,rfl⟩:∃g c,i=.slice g k c:=by obtain⟨ys,h⟩:=a.zk;exact bs h
 obtain⟨i,d,rfl⟩:=bs a.zt;have p:=aS a.box;have d:=aS a.ob;have⟨I,J,K,aw,a0,a2⟩:=JJ W Q;have⟨i,Z,A,M,q,aa,N⟩:=UV W Q (n+1);have⟨F,l⟩:=am (nA W Q);have⟨d,O⟩:=am (F.alloc (.cells #[.int .i64 (n+1)] 3));have Y:d=pj W Q (n+1):=by rw[O,l];rfl
 rw[<-l]at I J K;rw[<-Y]at i Z A M q aa N;have a6:=ak 0 K;have af:=ak 0 ((I.J _ p).Z a.box);rw[r]at af;have z:=a.O i;have⟨G,P⟩:=z.reset;have H:=G.O (aA _ _).drew;have D:=((im a i).Z P).Z (im G (aA _ _).drew);have a4:=ak 0 A;have a5:d.cell? ⟨F.heap.size,0,none⟩=some (.int .i64 ((n:Int)+1)):=by rw[J];exact ak 0 N
 have d4:((n:Int)+1==0)=false:=aO;have ao:=ak 1 z.box;have f1:=aJ z.box 1;have⟨u,C⟩:=am ((d.setCell ⟨Q,1,none⟩ (.slice g 0 c)).drew);rw[<-C]at H D;have c:=qd;have a3:=fun w=>yD a.zk.choose_spec w;have ae:=GP (JH Q B OB put X) u n T ⟨⟨_,_,H⟩,fun y h=>⟨mI E.o (j.o y h).1 D,(j.o y h).2⟩⟩ ab r S;have c:∀b,W.heap.size<=b->b<W.heap.size+5->SQ Q u b/\u.heap[b]?=d.heap[b]?:=fun b a1 p=>by have:=(P.kp.same b (a.sq_new i a1 ad));rw[C];exact this
 have S:Hid (∀g,cF Q u g->g.heap[W.heap.size+1]?=some (.cells #[.int .i64 0,.int .i64 0,.slice none 0 0] 171)/\g.heap[W.heap.size+2]?=some (.cells #[.int .i64 0] 30)/\SQ Q g (W.heap.size+1)/\SQ Q g (W.heap.size+2)):=fun g d=>by have a1:=d.kp.same _ (c (W.heap.size+1) ad ad).1;have p:=d.kp.same _ (c (W.heap.size+2) ad ad).1;exact⟨a1.2.Z ((c _ ad ad).2.Z M),p.2.Z ((c _ ad ad).2.Z q),a1.1,p.1⟩
 have av:=ak 0 ((c _ (ay _) ad).2.Z A);have⟨an,u,al⟩:=bm D C ae;unfold nA at l;clear I J K aw a0 a2 i Z A M q aa N Y a z G P H D ab r C ae c
 go_enter_defers func89,ntmps89
 go_wp2_with(first|(rw[<-l];clear l)|(rw[<-O];clear O)|fail)
 go_region
 rw[<-u.o];clear a6 af a4 a5 ao f1 a3;go_wp2_with fail
 apply al.o.zz;rintro e g ⟨x,rfl,c,⟨u,I,⟨⟨i,z,r⟩,l⟩,a,d⟩,G⟩;have i:x∈T:=d.mem_iff.1 aj;have⟨H,Z,A,Y⟩:=dE i c d a;clear i c d a l;obtain⟨s,t,V,c,a,m⟩:=x;unfold ld;simp only[List.toArray];obtain⟨d,i⟩:=am V.length;rw[<-i];have ag:=ah i;clear i;have⟨l,q,i,T⟩:=dy g (.cells #[.int .i64 s,.int .i64 t,.slice c d a,.int .u64 m] 257);have⟨a1,p,C,D⟩:=S.o g G;have u:=C.2.2;have z:=D.2.2;have u1:=(i.J _ u).Z a1;have u2:=(i.J _ z).Z p;have M:=r.O i;have K:=(an.out.Z G).Z (im r i);have z:=(im r i).kp.same _ C;have P:=(im r i).kp.same _ D;have N:=((M.far (o:=0) (v:=.int .i64 (s:Nat)) z.1 ad).far (o:=1) (v:=.int .i64 (t:Nat)) (z.1.far ad) ad).far (o:=2) (v:=.slice c d a) ((z.1.far ad).far ad) ad;have O:=N.far (o:=0) (v:=.int .i64 0) (((P.1.far ad).far ad).far ad) ad;have u:cF Q W ((((l.setCell ⟨W.heap.size+1,0,none⟩ (.int .i64 (s:Nat))).setCell ⟨W.heap.size+1,1,none⟩ (.int .i64 (t:Nat))).setCell ⟨W.heap.size+1,2,none⟩ (.slice c d a)).setCell ⟨W.heap.size+2,0,none⟩ (.int .i64 0)):=(((K.far ad ad).far ad ad).far ad ad).far ad ad;have J:JK W Q B OB X put L (.returned (.tuple #[.agg #[.int .i64 (s:Nat),.int .i64 (t:Nat),.slice c d a],.int .i64 0])) ((((l.setCell ⟨W.heap.size+1,0,none⟩ (.int .i64 (s:Nat))).setCell ⟨W.heap.size+1,1,none⟩ (.int .i64 (t:Nat))).setCell ⟨W.heap.size+1,2,none⟩ (.slice c d a)).setCell ⟨W.heap.size+1+1,0,none⟩ (.int .i64 0)):=
  ⟨⟨s,t,V,c,a,m⟩,I,by rw[ag.o],fun y h=>Z.o y (R.o.mem_iff.2 h),⟨_,I,⟨⟨_,_,O⟩,fun y h=>⟨mI E.o (j.o y (A.o.mem_iff.1 (by simp[h]))).1 u,(j.o y (A.o.mem_iff.1 (by simp[h]))).2⟩⟩,Y.o,zW _⟩,A.o.Z R.o,⟨mI E.o (j.o _ H.o).1 u,(j.o _ H.o).2⟩,u⟩
 have⟨h,j⟩:=aC J u1;have A:Hid (kq l (W+1+1) #[.int .i64 0] 30):=ah u2;have⟨E,H,I,R⟩:=dC T;have⟨E,H,I⟩:=dP u1;have E:=ak 0 u2;have E:=aJ u1 0;have E:=aJ u1 1;have E:=aJ u1 2;have E:=aJ u2 0;have E:=fun w=>JG (.agg #[.int .i64 s,.int .i64 t,.slice c d a,.int .u64 m]) w;have E:g≠W.heap.size+1:=ad;have E:g≠W.heap.size+1+1:=ad;clear r G i T a1 p C D u1 u2 M K z P N O u J av S;go_wp2_with(first|(rw[<-q];clear q)|fail)
 refine DC (f:=171) (args:=#[.pointer (some ⟨W.heap.size,0,none⟩),.pointer (some ⟨F.heap.size,0,none⟩),.pointer (some ⟨W.heap.size+1+1+1,0,none⟩),.pointer (some ⟨W.heap.size+1,0,none⟩),.pointer (some ⟨W.heap.size+1+1,0,none⟩)]) aj (by rfl) ?_;apply(UU _ _ _ _ _ _).zz;rintro e g i ⟨rfl,rfl,rfl⟩;have u5:(((l.setCell _ (.int .i64 s)).setCell ⟨_,1,none⟩ (.int .i64 t)).setCell ⟨_,2,none⟩ (.slice c d a)).heap[W.heap.size+1]?=some (.cells #[.int .i64 s,.int .i64 t,.slice c d a] 171):=a8 _ _ 2 _ (a8 _ _ 1 _ (a8 _ _ 0 _ j.o));have u6:((((l.setCell _ (.int .i64 s)).setCell ⟨_,1,none⟩ (.int .i64 t)).setCell ⟨_,2,none⟩ (.slice c d a)).setCell ⟨W+1+1,0,none⟩ (0:Int)).heap[W.heap.size+1]?=some (.cells #[.int .i64 s,.int .i64 t,.slice c d a] 171):=(aU _ _ _ _ _ ad).Z u5;have u7:((((l.setCell ⟨W+1,0,none⟩ (.int .i64 s)).setCell ⟨W+1,1,none⟩ (.int .i64 t)).setCell ⟨W+1,2,none⟩ (.slice c d a)).setCell _ (0:Int)).heap[W.heap.size+1+1]?=some (.cells #[.int .i64 0] 30):=a8 _ _ 0 _ ((aU _ _ _ _ _ ad).Z ((aU _ _ _ _ _ ad).Z ((aU _ _ _ _ _ ad).Z A.o)));have⟨g,i,j⟩:=dP u6;have l:=ak 0 u7;exact⟨.tuple #[.agg #[.int .i64 s,.int .i64 t,.slice c d a],.int .i64 0],by simp[results,go_sem,g,i,j,l],h.o⟩
section
open Wey
section
variable{W W':World} {Q B OB X put k n M:Nat} {iv sv:Value} {L:List WI} {x:WI}
def eN.O(a:eN W X x)(b:Below W.heap.size W W'):eN W' X x:=aX a (fun g c=>b.J g (aV a c).2)
def eN.map(a:eN W X x)(h:W.grownBy W' (some M))(b:∃d c,W.heap[M]?=some (Obj.map d c)):eN W' X x:=by obtain⟨d,c,b⟩:=b;exact aX a (fun g f=>h.J g (aV a f).2 (fun e=>by injection e with e;exact mv a b (by rw[f,e])))
def fk.map(a:fk W Q B OB iv sv k put L)(n:W.grownBy W' (some M))(f:∃l c,W.heap[M]?=some (Obj.map l c)):fk W' Q B OB iv sv k put L:=by obtain⟨l,c,f⟩:=f;obtain⟨ys,o⟩:=a.zk;have d:∀b,(∃cs t m,W.heap[b]?=some (Obj.cells cs t m))->W'.heap[b]?=W.heap[b]?:=fun b ⟨cs,t,m,h⟩=>n.J b (aI h) (fun e=>by injection e with e;rw[e,f]at h;cases h);exact⟨(d _ ⟨_,_,_,a.box⟩).Z a.box,aX a.zt (fun g j=>by obtain⟨cs,i⟩:=nk a.zt j;exact d _ ⟨_,_,_,i⟩),⟨ys,aX o (fun g j=>by obtain⟨cs,i⟩:=nk o j;exact d _ ⟨_,_,_,i⟩)⟩,a.apart,a.low,aW a.lowB n.size,(d _ ⟨_,_,_,a.ob⟩).Z a.ob,a.obB,a.obQ⟩
def g6.O(e:g6 Q B OB X put L W)(b:Below W.heap.size W W'):g6 Q B OB X put L W':=by obtain⟨k,d,⟨⟨iv,sv,f⟩,a⟩,g,h⟩:=e;exact⟨k,d,⟨⟨iv,sv,QG.O f b⟩,fun x c=>⟨(a x c).1.O b,(a x c).2⟩⟩,g,h⟩
def g6.map(h:g6 Q B OB X put L W)(d:W.grownBy W' (some M))(b:∃g c,W.heap[M]?=some (Obj.map g c)):g6 Q B OB X put L W':=by obtain⟨k,f,⟨⟨iv,sv,i⟩,a⟩,j,l⟩:=h;exact⟨k,f,⟨⟨iv,sv,i.map d b⟩,fun x e=>⟨(a x e).1.map d b,(a x e).2⟩⟩,j,l⟩
def g6.sq_map(g:g6 Q B OB X put L W)(a:∃b c,W.heap[M]?=some (Obj.map b c)):SQ Q W M:=by obtain⟨k,h,⟨⟨iv,sv,d⟩,_⟩,_,_⟩:=g;obtain⟨b,c,a⟩:=a;exact d.sq (fun e=>by have:=d.box;rw[<-e,a]at this;cases this) (aI a) (fun cs e i f=>by rw[a]at f;cases f)
def g6.kp(a:g6 Q B OB X put L W)(d:eN W X x)(c:cF Q W W'):eN W' X x:=by obtain⟨k,e,⟨⟨iv,sv,b⟩,_⟩,_,_⟩:=a;exact mI b d c
def g6.base{W2:World}(d:g6 Q B OB X put L W)(a:Below W2.heap.size W2 W)(i:W2.heap.size<=Q)(h:W2.heap.size<=B)(c:cF Q W W'):Below W2.heap.size W2 W':=by obtain⟨k,g,⟨⟨iv,sv,e⟩,_⟩,_,_⟩:=d;exact⟨c.os.Z a.os,c.tape.Z a.tape,c.output.Z a.output,aW a.size c.kp.size,fun b f=>((c.kp.same b (e.sq_low ad ad (aQ a.size))).2).Z (a.J b f)⟩
end
def tU(W:World)(X:Nat)(c:Bytes->Nat)(f:Lit->Option Value)(BM:Nat->Option (List Bytes)):Prop:=
 ∀s,(∀V,BM s=some V->∃o cp,f (.int .i64 s)=some (.agg #[.int .i64 s,.int .i64 (wt c V),.slice o V cp])/\eN W X ⟨s,wt c V,V,o,cp,0⟩)/\(BM s=none->f (.int .i64 s)=none)
structure iG(c:Bytes->Nat)(nx:Nat->Bytes->Nat)(W2:World)(M m put:Nat)(L:List WI)(BM:Nat->Option (List Bytes))(wr:World):Prop where
 base:Below W2.heap.size W2 wr
 low:W2.heap.size<=M
 q:g6 (W2.heap.size+1) (W2.heap.size+2) W2.heap.size W2.heap.size put L wr
 map:∃n f,bV wr prog 3 M n f/\n<=m/\tU wr W2.heap.size c f BM
 own:∀x∈L,x.s=st nx x.V/\x.n=wt c x.V
 len:L.length<=put
section
variable{c:Bytes->Nat} {nx:Nat->Bytes->Nat} {W2 wr w':World} {M m put:Nat} {L L2:List WI} {BM:Nat->Option (List Bytes)} {x:WI}
def tU.zz{X:Nat}{f:Lit->Option Value}(a:tU wr X c f BM)(g:∀x,eN wr X x->eN w' X x):tU w' X c f BM:=fun s=>
 ⟨fun V e=>by obtain⟨o,cp,b,d⟩:=(a s).1 V e;exact⟨o,cp,b,g _ d⟩,(a s).2⟩
def iG.O(a:iG c nx W2 M m put L BM wr)(b:Below wr.heap.size wr w'):iG c nx W2 M m put L BM w':=by obtain⟨n,f,d,e,g⟩:=a.map;exact⟨aE a.base b,a.low,a.q.O b,⟨n,f,d.of_block (b.J _ d.lt),e,g.zz fun x h=>h.O b⟩,a.own,a.len⟩
def iG.take(a:iG c nx W2 M m put L BM wr)(j:g6 (W2.heap.size+1) (W2.heap.size+2) W2.heap.size W2.heap.size put L2 w')(d:(x::L2).Perm L)(b:cF (W2.heap.size+1) wr w'):
 iG c nx W2 M m put L2 BM w'/\x.s=st nx x.V/\x.n=wt c x.V:=by
 obtain⟨n,f,g,h,i⟩:=a.map;refine⟨⟨a.q.base a.base ad ad b,a.low,j,⟨n,f,g.of_block (b.kp.same M (a.q.sq_map g.J)).2,h,i.zz fun y e=>a.q.kp e b⟩,fun y e=>a.own y (d.mem_iff.1 (by simp[e])),?_⟩,a.own x (d.mem_iff.1 aj)⟩;have:=d.length_eq;have:=a.len;simp at*;omega
def iG.J(b:iG c nx W2 M m put L BM wr):∃a c,wr.heap[M]?=some (Obj.map a c):=by obtain⟨n,f,d,_⟩:=b.map;exact d.J
def iG.best(a:iG c nx W2 M m put L BM wr){n:Nat}{f:Lit->Option Value}{s cp:Nat}{V:List Bytes}{o:Option Addr}(i:tU wr W2.heap.size c f BM)(w:n<=m)
 (v:eN wr W2.heap.size ⟨s,wt c V,V,o,cp,0⟩) (p:bV w' prog 3 M (n+1) (il f (.int .i64 (s:Nat)) (.agg #[.int .i64 (s:Nat),.int .i64 (wt c V:Nat),.slice o V.length cp]))) (d:wr.grownBy w' (some M)):
 iG c nx W2 M (m+1) put L (upd BM s V) w':=by
 refine⟨a.base.zu d a.base.size (fun q e=>by cases e;exact a.low),a.low,a.q.map d a.J,⟨_,_,p,ad,fun t=> ?_⟩,a.own,a.len⟩;by_cases e:t=s;subst e;refine⟨fun g b=> ?_,fun b=>by simp[upd]at b⟩;obtain rfl:=by simpa[upd]using b
 exact⟨o,cp,kt _ _ _,v.map d a.J⟩;have j:(Lit.int .i64 (t:Nat))≠Lit.int .i64 (s:Nat):=fun h=>by injection h with _ h;omega
 refine⟨fun g b=> ?_,fun b=> ?_⟩;obtain⟨o',l,r,u⟩:=(i t).1 g (by simpa[upd,e]using b);exact⟨o',l,by rw[mj _ _ j];exact r,u.map d a.J⟩;rw[mj _ _ j];exact(i t).2 (by simpa[upd,e]using b)
def iG.add(a:iG c nx W2 M m put L BM wr){x:WI}(j:x.s=st nx x.V/\x.n=wt c x.V)(i:g6 (W2.heap.size+1) (W2.heap.size+2) W2.heap.size W2.heap.size (put+1) (L++[x]) w')(b:cF (W2.heap.size+1) wr w'):
 iG c nx W2 M m (put+1) (L++[x]) BM w':=by
 obtain⟨n,f,e,g,h⟩:=a.map;refine⟨a.q.base a.base ad ad b,a.low,i,⟨n,f,e.of_block (b.kp.same M (a.q.sq_map e.J)).2,g,h.zz fun y d=>a.q.kp d b⟩,fun y d=> ?_,by have:=a.len;simp;omega⟩;rcases dk.1 d with k|k
 exact a.own y k;simp at k;subst k;exact j
end
end
end Go.Proofs.YtfeidcmojcijpaaGreatDoor
