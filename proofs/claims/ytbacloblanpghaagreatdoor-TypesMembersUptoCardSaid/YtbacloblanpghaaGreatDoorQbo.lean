import Derived.Test.YtbacloblanpghaaGreatDoorQbl
import Derived.Test.YtbacloblanpghaaGreatDoorQbn
set_option linter.unusedVariables false
set_option linter.unusedSimpArgs false
set_option maxRecDepth 100000
set_option maxHeartbeats 0
namespace Go.Proofs.YtbacloblanpghaaGreatDoor
open Go.RowKit Tryz
theorem yE:(prog.info? 264).map (fun i=>(i.zero,i.size,i.bytes))=some (some (.agg #[.bool false,.int .u64 0,.int .u64 0,.int .u64 0,.int .u64 0,.int .u64 0,.int .u64 0,.int .u64 0,.int .u64 0,.int .u64 0,.int .u64 0,.int .u64 0,.int .u64 0,.int .u64 0,.int .u64 0,.int .u64 0,.int .u64 0]),17,136):=ay
theorem N1:(prog.info? 317).map (fun i=>(i.zero,i.size,i.bytes))=some (some (.agg #[.int .i64 0,.int .i64 0]),2,16):=ay
theorem N3:(prog.info? 53).map (fun i=>(i.zero,i.size,i.bytes))=some (some (.slice none 0 0),1,24):=ay
theorem bn.set{w:World}{P:Program}{k:TypeId}{M n:Nat}{f:Lit->Option Value}(l:bn w P k M n f){t j:TypeId}(b:Maps.Keyed P k)(i:P.underlying t=some (.map k j))(g:n<maxLen){key val:Value}{kl:Lit}(o:WideAt.IsKeyLit kl)(e:keyOf P k key=some kl):
 ∃w',(Instr.mapUpdate t (.map (some M)) key val).run P w=.ok () w'/\bn w' P k M (n+1) (eO f kl val)/\w.grownBy w' (some M)/\w'.heap.size=w.heap.size:=by
 obtain⟨x,c,p,q⟩:=l;obtain⟨w',h,u,v⟩:=c.update b i g e (d:=.held val) (ps:=[]) (val:=val) rfl;refine⟨w',h,bn.put_of o p q u,v,?_⟩;obtain⟨z,clock,m,F,r,rfl⟩:=c;obtain⟨A,y,a,_⟩:=Maps.fit_store (R':=pl) b i m F (E7 r g) (fun _ _ _ _ s=>s) (val:=val) e rfl;rw[h]at a;injection a with _ a
 rw[a];simp[ChangeMaps.setBlock]
theorem uT(s:St)(w:World):(Instr.buildSlice 265 1 #[(0,.agg (bk s).toArray)]).run prog w=.ok (.slice (some ⟨w.heap.size,0,none⟩) 1 1) (w.alloc (.cells (bk s).toArray 264)):=by obtain⟨b,m⟩:=s;kernel_rfl
theorem D0{c:Array Oper}{rest:List Oper}{b:Oper}{a:Act}{w:World}{Q:Exit->Act->World->Prop}(s:St)(g:b.guard=none)(y:Operand)(h:b.op=.buildSlice 265 1 #[(0,y)])(i:a.eval y=.agg (bk s).toArray)
 (e:wpList prog c Q rest (a.put b.dst (.slice (some ⟨w.heap.size,0,none⟩) 1 1)) (w.alloc (.cells (bk s).toArray 264))):wpList prog c Q (b::rest) a w:=
 wpList_plain g fun _ f=>by
  unfold Oper.wp execOp;simp only[h,zV,sW,zW];have d:(#[(0,y)]:Array (Nat×Operand)).map (fun p=>(p.1,a.eval p.2))=#[(0,.agg (bk s).toArray)]:=by simp[i]
  rw[d,uT];exact f _ _ e
def uU(b:Nat)(Inv:World->Prop)(a:St->List St)(s:St)(w:World)(c:Ending)(w':World):Prop:=
 (∃v,c=.returned v/\w'.ownsRow w.heap.size 264 17 v (a s).length (flatS (a s)))/\w.grownBy w' (some b)/\Inv w'
def yF(b:World)(h:Nat)(Inv:World->Prop)(i:St->Prop)(d:St->List St)(first:St)(e:Ending)(w':World):Prop:=
 (b.grownBy w' (some h)/\Inv w')/\
 ((∃n keys a g nv f c,fD first 256 d n=some (keys,a)/\keys.length=n/\(∀s∈keys,i s)/\e=.returned (.tuple #[.agg #[g,nv,f],.bool true])/\(∃m l,f=.slice m keys.length l)/\w'.ownsRow (b.heap.size+3) 264 17 g keys.length (flatS keys)/\w'.ownsRow (b.heap.size+3) 53 1 nv c.length c/\c.length=a.length/\
    ∀(j:Nat) (v:Value) (r:List Nat),c[j]?=some v->a[j]?=some r->cO w' (b.heap.size+3) v r)∨
  (∃n keys a k,fD first 256 d n=some (keys,a)/\keys[n]?=some k/\fp 256 keys (d k)=none/\e=.returned (.tuple #[.agg #[.slice none 0 0,.slice none 0 0,.slice none 0 0],.bool false])))
def yG(b:World)(d:Nat)(Inv:World->Prop)(e:St->Prop)(i:St->List St)(first:St)(g:Nat)(wr:World):Prop:=
 ∃n keys c h nv f j a,g=256-n/\fD first 256 i n=some (keys,c)/\ck b a keys keys keys.length n keys.length c h nv f j (.slice none 0 0) [] (.slice none 0 0) [] wr/\b.grownBy a (some d)/\Inv a/\∀s∈keys,e s
theorem N6{c:Nat}{keys a b:List St}(d:fp c keys a=none):fp c keys (a++b)=none:=by unfold fp at*;rw[List.foldlM_append,d];rfl
theorem N9{a e w:World}{j c:List St}{fn l m:Nat}{o:List (List Nat)}{d nv f:Value}{r:List Value}{h:Value}{g:List Nat}{q:Value}{p:List St}{X n:Nat}(s:ck a e j c fn l m o d nv f r h g q p w)(i:w.heap[X]?=some (.cells #[.int .i64 (n:Nat)] 322))(t:St):
 Hid (ck a e j c fn l m o d nv f r h g q p (w.alloc (.cells (bk t).toArray 264)))/\Hid ((w.alloc (.cells (bk t).toArray 264)).heap[X]?=some (.cells #[.int .i64 (n:Nat)] 322))/\
 (w.alloc (.cells (bk t).toArray 264)).ownsRow (a.heap.size+3) 264 17 d c.length (flatS c)/\a.heap.size+3<=(w.alloc (.cells (bk t).toArray 264)).heap.size:=by
 have b:Below w.heap.size w (w.alloc (.cells (bk t).toArray 264)):=az;have T:=s.below b;exact⟨ah T,ah ((b.block _ (aN i)).trans i),T.krow,by have:=T.size;omega⟩
theorem Oa{a o w e:World}{r b:List St}{fn s t:Nat}{u:List (List Nat)}{g nv i:Value}{y:List Value}{q:Value}{p:List Nat}{x:Value}{v:List St}{X n c gc:Nat}{k:St}(d:ck a o r b fn s t u g nv i y q p x v w)(l:w.heap[X]?=some (.cells #[.int .i64 (n:Nat)] 322))
 (j:w.grownBy e g.ownBlock) (C:e.ownsRow (a.heap.size+3) 264 17 (.slice (some ⟨c,0,none⟩) (b.length+1) gc) (b.length+1) (flatS b++bk k)) (B:g.ownBlock=some c∨c=w.heap.size):
 e.cell? ⟨a.heap.size+5,0,none⟩=some g/\e.frozen? ⟨a.heap.size+5,0,none⟩=false/\∃f,Hid (f=e.setCell ⟨a.heap.size+5,0,none⟩ (.slice (some ⟨c,0,none⟩) (b.length+1) gc))/\
  Hid (ck a o r (b++[k]) fn s t u (.slice (some ⟨c,0,none⟩) (b.length+1) gc) nv i y q p x v f)/\Hid (f.heap[X]?=some (.cells #[.int .i64 (n:Nat)] 322))/\f.cell? ⟨a.heap.size+5,2,none⟩=some i/\f.cell? ⟨X,0,none⟩=some (.int .i64 (n:Nat)):=by
 have h:=(j.block _ (by have:=d.size;omega) (gT d.krow d.box aw)).trans d.box;have m:=(j.block _ (aN l) (gT d.krow l aw)).trans l;have T:=d.setKeys j C B;have z:(e.setCell ⟨a.heap.size+5,0,none⟩ (.slice (some ⟨c,0,none⟩) (b.length+1) gc)).heap[X]?=some (.cells #[.int .i64 (n:Nat)] 322):=(aX _ _ _ _ _ (fun A=>by rw[A,h]at m;cases m)).trans m;exact⟨ai 0 h,aQ h 0,_,ah rfl,ah T,ah z,ai 2 T.box,ai 0 z⟩
theorem Ob{a d w:World}{i h:List St}{fn m o:Nat}{p:List (List Nat)}{l nv c:Value}{s:List Value}{f:Value}{e:List Nat}{r:Value}{q:List St}{X n:Nat}(t:ck a d i h fn m o p l nv c s f e r q w)(g:w.heap[X]?=some (.cells #[.int .i64 (n:Nat)] 322))(j:Nat):
 Hid (ck a d i h fn m o p l nv c s f e r q (w.alloc (.cells #[.int .i64 (n:Nat),.int .i64 (j:Nat)] 317)))/\Hid ((w.alloc (.cells #[.int .i64 (n:Nat),.int .i64 (j:Nat)] 317)).heap[X]?=some (.cells #[.int .i64 (n:Nat)] 322))/\
 (∃ys,(w.alloc (.cells #[.int .i64 (n:Nat),.int .i64 (j:Nat)] 317)).ownsRow (a.heap.size+3) 317 2 c fn ys)/\a.heap.size+3<=(w.alloc (.cells #[.int .i64 (n:Nat),.int .i64 (j:Nat)] 317)).heap.size:=by
 have b:Below w.heap.size w (w.alloc (.cells #[.int .i64 (n:Nat),.int .i64 (j:Nat)] 317)):=az;have T:=t.below b;exact⟨ah T,ah ((b.block _ (aN g)).trans g),T.frow,by have:=T.size;omega⟩
theorem Oc{a l w b:World}{r q:List St}{fn t u:Nat}{v:List (List Nat)}{s nv f:Value}{z:List Value}{o:Value}{m:List Nat}{y:Value}{x:List St}{X n d gc:Nat}{zs:List Value}(c:ck a l r q fn t u v s nv f z o m y x w)(h:w.heap[X]?=some (.cells #[.int .i64 (n:Nat)] 322))
 (g:w.grownBy b f.ownBlock) (B:b.ownsRow (a.heap.size+3) 317 2 (.slice (some ⟨d,0,none⟩) (fn+1) gc) (fn+1) zs):
 b.cell? ⟨a.heap.size+5,2,none⟩=some f/\b.frozen? ⟨a.heap.size+5,2,none⟩=false/\∃i,Hid (i=b.setCell ⟨a.heap.size+5,2,none⟩ (.slice (some ⟨d,0,none⟩) (fn+1) gc))/\
  Hid (ck a l r q (fn+1) t u v s nv (.slice (some ⟨d,0,none⟩) (fn+1) gc) z o m y x i)/\Hid (i.heap[X]?=some (.cells #[.int .i64 (n:Nat)] 322)):=by
 obtain⟨ys,p⟩:=c.frow;have e:=(g.block _ (by have:=c.size;omega) (gT p c.box aw)).trans c.box;have j:=(g.block _ (aN h) (gT p h aw)).trans h;have T:=c.setFrom g B;have C:(b.setCell ⟨a.heap.size+5,2,none⟩ (.slice (some ⟨d,0,none⟩) (fn+1) gc)).heap[X]?=some (.cells #[.int .i64 (n:Nat)] 322):=(aX _ _ _ _ _ (fun A=>by rw[A,e]at j;cases j)).trans j;exact⟨ai 2 e,aQ e 2,_,ah rfl,ah T,ah C⟩
theorem D1{a e w:World}{i h:List St}{fn l m:Nat}{o:List (List Nat)}{j nv f:Value}{s:List Value}{d:Value}{c:List Nat}{r:Value}{p:List St}{X n:Nat}(t:ck a e i h fn l m o j nv f s d c r p w)(g:w.heap[X]?=some (.cells #[.int .i64 (n:Nat)] 322))(q:Nat):
 Hid (ck a e i h fn l m o j nv f s d c r p (w.alloc (.cells #[.int .i64 (q:Nat)] 3)))/\Hid ((w.alloc (.cells #[.int .i64 (q:Nat)] 3)).heap[X]?=some (.cells #[.int .i64 (n:Nat)] 322))/\
 (w.alloc (.cells #[.int .i64 (q:Nat)] 3)).ownsRow (a.heap.size+3) 3 1 d c.length (fj c)/\a.heap.size+3<=(w.alloc (.cells #[.int .i64 (q:Nat)] 3)).heap.size:=by
 have b:Below w.heap.size w (w.alloc (.cells #[.int .i64 (q:Nat)] 3)):=az;have T:=t.below b;exact⟨ah T,ah ((b.block _ (aN g)).trans g),T.cur,by have:=T.size;omega⟩
def uV(c o:World)(b:St->Prop)(a:St->List St)(s:St)(n X:Nat)(keys:List St)(i:List (List Nat))(nv:Value)(m:List Value)(l:Value)(g:Nat)(f e:Value)(wr:World):Prop:=
 ∃j ks rs h d,g=(a s).length-j/\f=.int .i64 (j:Nat)/\j<=(a s).length/\fp 256 keys ((a s).take j)=some (ks,rs)/\ck c o ks ks ks.length (n+1) ks.length i h nv d m e rs l (a s) wr/\
  wr.heap[X]?=some (.cells #[.int .i64 (n:Nat)] 322)/\∀t∈ks,b t
theorem Od(a:World)(M:Nat)(Inv:World->Prop)(C:St->Prop)(d:St->List St)(first:St)(ia ib ic ii:Value)(hF:M<a.heap.size)(ho:Inv a)(h2:∀w w',Inv w->Below a.heap.size w w'->Inv w')
 (d3:∀s,C s->iS s) (hP:∀s w,C s->Inv w->a.heap.size<=w.heap.size->Calls prog 182 #[.agg (bk s).toArray,ia,ib,ic,ii] w (uU M Inv d s w))
 (dz:C first) (hJ:∀s,C s->∀t∈d s,C t) (hI:∀s,(d s).length<=64):
 Calls prog 187 #[.agg (bk first).toArray,.int .i64 256,.func (.func 182) #[] #[ia,ib,ic,ii]] a (yF a M Inv C d first):=by
 obtain⟨R,bz⟩:=aj ((a.alloc (.cells (bk first).toArray 264)).alloc (.cells #[.slice none 0 0,.slice none 0 0,.slice none 0 0] 271));have b6:Below a.heap.size a R:=by rw[bz];exact az.alloc ak _
 have fz:R.heap.size=a.heap.size+2:=by rw[bz];simp
 have f2:R.heap[a.heap.size]?=some (.cells (bk first).toArray 264):=by rw[bz];exact(bH _ _ _ ak).trans (aC a _)
 have i2:R.heap[a.heap.size+1]?=some (.cells #[.slice none 0 0,.slice none 0 0,.slice none 0 0] 271):=by rw[bz];have:=aC (a.alloc (.cells (bk first).toArray 264)) (.cells #[.slice none 0 0,.slice none 0 0,.slice none 0 0] 271);rwa[bI]at this
 obtain⟨c6,ce⟩:=aj (R.alloc (.map #[] 0));have h9:bn c6 prog 264 R.heap.size 0 (fun _=>none):=by rw[ce];exact bn.made R _ _
 have b7:Below R.heap.size R c6:=by rw[ce];exact az
 have io:c6.heap.size=a.heap.size+3:=by rw[ce];simp[fz]
 have o2:c6.rangeAt a.heap.size 0 (bk first):=nQ ((b7.block _ ad).trans f2);have cl:=r8 (d3 _ dz);have co:=DS (d3 _ dz);have gG:=ah d3;obtain⟨o,e9,d2,a1,mE⟩:=h9.set qu z8 bN (val:=.int .i64 0) co cl;have b0:o.heap[a.heap.size]?=some (.cells (bk first).toArray 264):=(a1.block _ ad aO).trans ((b7.block _ ad).trans f2);have i1:o.heap[a.heap.size+1]?=some (.cells #[.slice none 0 0,.slice none 0 0,.slice none 0 0] 271):=(a1.block _ ad aO).trans ((b7.block _ ad).trans i2);have hb:Below a.heap.size a o:=od ad (b6.trans (b7.mono ad)) a1 (fun b y=>by injection y with y;omega);have S:o.heap.size=a.heap.size+3:=ad;have fv:=nQ b0;obtain⟨ex,j4,i7,ez,j1,jy,gr,gl,gs,kb⟩:=kB fz io ho h2 hP hJ hI dz d2 b0;obtain⟨g5,gf,es⟩:=bO i1 hb S;clear d3 b6 fz f2 i2 b7 io ho h2 hP hJ hI dz co cl h9 d2 a1 b0 i1 hb mE S;have l7:= @mY prog;go_enter func187,ntmps187
 go_wp2_with(first
  |(rw[<-bz];clear bz)
  |fail)
 go_step3
 go_wp2_with(first
  |(rw[<-ce];clear ce)
  |((with_reducible apply dL (ty:=264));exact rfl;exact rfl;exact rfl;assumption;exact mg;exact rfl;exact ld)
  |((with_reducible apply D0);exact rfl;exact rfl;exact rfl)
  |fail)
 obtain⟨be,bi⟩:=aj ((((o.alloc (.cells (bk first).toArray 264)).alloc (.cells #[.int .i64 0,.int .i64 0] 317)).alloc (.cells #[.slice (some ⟨o.heap.size,0,none⟩) 1 1,.slice none 0 0,.slice (some ⟨o.heap.size+1,0,none⟩) 1 1] 271)));rw[<-bi];have S:=es.o;have hc:Below o.heap.size o be:=by rw[bi];exact(az.alloc cz _).alloc cz _
 have fy:be.heap.size=a.heap.size+6:=by rw[bi];simp only[bI];omega
 have h7:be.heap[a.heap.size+3]?=some (.cells (bk first).toArray 264):=by rw[bi,<-S];exact(bH _ _ _ cz).trans ((bH _ _ _ cz).trans (aC o _))
 have hk:be.heap[a.heap.size+4]?=some (.cells #[.int .i64 0,.int .i64 0] 317):=by have:=aC (o.alloc (.cells (bk first).toArray 264)) (.cells #[.int .i64 0,.int .i64 0] 317);rw[bI,S]at this;rw[bi];exact(bH _ _ _ cz).trans this
 have iv:be.heap[a.heap.size+5]?=some (.cells #[.slice (some ⟨a.heap.size+3,0,none⟩) 1 1,.slice none 0 0,.slice (some ⟨a.heap.size+4,0,none⟩) 1 1] 271):=by have:=aC ((o.alloc (.cells (bk first).toArray 264)).alloc (.cells #[.int .i64 0,.int .i64 0] 317)) (.cells #[.slice (some ⟨o.heap.size,0,none⟩) 1 1,.slice none 0 0,.slice (some ⟨o.heap.size+1,0,none⟩) 1 1] 271);rw[bI,bI,S]at this;rw[bi,S];exact this
 have hN:=No be;rw[S];obtain⟨d7,c0,f7,f5,gd,j0⟩:=gR fy hc h7 hk iv hN;clear hN S hc fy h7 hk iv bi e9 fv l7;refine j0.o.mono ?_;rintro y c5 ⟨rfl,d4,hu⟩;rw[d7.o]at d4⊢;have cu:=DM c5 _ _ _ 0 0 d4 ad;obtain⟨b1,ec,en⟩:=bO cu hu d4;clear cu hu d4;go_wp2_with fail
 refine b1.o.mono ?_;rintro y kc ⟨rfl,hY,hG⟩;have g8:ck a a [first] [first] 1 0 0 [] (.slice (some ⟨a.heap.size+3,0,none⟩) 1 1) (.slice none 0 0) (.slice (some ⟨a.heap.size+4,0,none⟩) 1 1) [] (.slice none 0 0) [] (.slice none 0 0) [] c5:=by
  have S:=es.o;have fy:=d7.o;have l2:a.heap.size+8<=c5.heap.size:=by obtain⟨_,_,_,_,_,Z,_⟩:=en.o;exact Z.lowB
  have b8:∀b,b<a.heap.size+6->c5.heap[b]?=be.heap[b]?:=fun b N=>ec.o.block b ad;refine⟨(gf.o.trans (c0.o.mono ad)).trans (ec.o.mono ad),l2,?_,(b8 _ ad).trans gd.o,(b8 _ ad).trans ((c0.o.block _ ad).trans g5.o),?_,cR _ _ _ _,⟨[.int .i64 0,.int .i64 0],rfl,.inr ⟨_,1,_,rfl,ad,(b8 _ ad).trans f5.o,aB _,bN,rfl,rfl⟩⟩,
   cR _ _ _ _,cR _ _ _ _,rfl,(fun j v r I=>by simp at I),(fun v I=>by simp at I),(fun b I=>by cases I),en.o⟩
  ·have a2:=gs.o
   rw[ex.o]at a2;exact kG.put (w:=o) (keys:=[]) (gG.o _ gl.o) (fun t P=>ak) ak (a2.of_block ((b8 _ ad).trans (c0.o.block _ ad)))
  ·refine⟨rfl,.inr ⟨_,1,_,rfl,ad,(b8 _ ad).trans f7.o,aB _,bN,rfl,?_⟩⟩
   simp[flatS];exact bx (by rw[qt];exact aB _)
 have h3:Hid (yG a M Inv C d first 256 kc):=ah ⟨0,[first],[],_,_,_,[],a,rfl,rfl,g8.queue hG hY,bP (aA _ _) _,i7.o,fun s bA=>by simp at bA;subst bA;exact gl.o⟩;have g4:Hid (R.heap.size=a.heap.size+2):=ex;clear g8 hY hG b1 en ec gd f5 f7 c0 d7 gs kb g5 gf es j4;rw[g4.o];clear g4 ex;go_wp2_with fail
 go_step3
 go_wp2_with fail
 rw[show a.heap.size+3+1+1=a.heap.size+5 from rfl,show a.heap.size+6+1=a.heap.size+7 from rfl,show a.heap.size+3+1=a.heap.size+4 from rfl];go_loopg [] 256 (fun g wr=>yG a M Inv C d first g wr)
 case atStart=>exact h3.out
 case round=>
 clear h3;obtain⟨n,keys,F,nm,nv,e1,h,kd,hw,P,p,c9,c8,cp⟩:=hrel;have jp:=ah hw;clear hw;have cc:=yy ad _ _ P;have l0:=cc.le;have lU:=cc.most;simp only at l0 lU;obtain⟨bF,cG,rfl⟩:=cC p.krow;obtain⟨no,D,rfl⟩:=cC p.nrow;obtain⟨Y,W,rfl⟩:∃Y W,e1=.slice Y keys.length W:=by obtain⟨ys,fl⟩:=p.frow;exact cC fl
 by_cases du:n=keys.length
 ·have bm:=p.q
  rw[<-du]at bm;have cx:=Nk wr _ _ _ n bm;obtain⟨b3,bb,i4,b2,el,c1,H⟩:=xL cx p du P cp c8 c9;clear cx bm p cc du P cp c8 c9;go_wp2_with fail
  refine b3.o.mono ?_;rintro y w1 ⟨rfl,c7⟩;obtain⟨T,aa⟩:=aj (w1.alloc (.cells #[.int .i64 0] 322));have l:=(bb.o.below c7).below (w':=T) (by rw[aa];exact az);have bw:=ai 0 l.box;have eZ:=ai 1 l.box;have kg:=ai 2 l.box;have he:=ai 0 l.res;have hf:=ai 1 l.res;have hg:=ai 2 l.res;have hh:=aQ l.res 0;have hi:=aQ l.res 1;have hj:=aQ l.res 2;have gb:=ah l;have n1:w1.heap.size≠a.heap.size+5:=by have:=(bb.o.below c7).size;omega
  have hl:w1.heap.size≠a.heap.size+1:=by have:=(bb.o.below c7).size;omega
  rw[aa]at bw eZ kg he hf hg hh hi hj;have j7:=ah aa;clear l c7 b3 bb aa;go_wp2_with fail
  rw[l8];rw[<-j7.o];have l:=gb.o;have V:(((T.setCell ⟨a.heap.size+1,0,none⟩ (.slice bF keys.length cG)).setCell ⟨a.heap.size+1,1,none⟩ (.slice no h.length D)).setCell ⟨a.heap.size+1,2,none⟩ (.slice Y keys.length W)).heap[a.heap.size+1]?=some (.cells #[.slice bF keys.length cG,.slice no h.length D,.slice Y keys.length W] 271):=
   bL _ _ 2 _ (bL _ _ 1 _ (bL _ _ 0 _ l.res))
  obtain⟨x,bB⟩:=aj ((((T.setCell ⟨a.heap.size+1,0,none⟩ (.slice bF keys.length cG)).setCell ⟨a.heap.size+1,1,none⟩ (.slice no h.length D)).setCell ⟨a.heap.size+1,2,none⟩ (.slice Y keys.length W)));have ds:∀b,b≠a.heap.size+1->x.heap[b]?=T.heap[b]?:=fun b N=>by rw[bB,aX _ _ _ _ _ N,aX _ _ _ _ _ N,aX _ _ _ _ _ N]
  have fg:∀{B y size n:Nat} {v:Value} {xs:List Value},y≠271->T.ownsRow B y size v n xs->x.ownsRow B y size v n xs:=fun lb hR=>aY hR (fun g ci=>ds g (fun ko=>iD hR l.res lb (by rw[ci,ko])));rw[<-bB]at V⊢;have fb:x.heap.size=T.heap.size:=by rw[bB];simp only[dK]
  have G:Below a.heap.size kd x:=⟨by rw[bB];exact l.base.os,by rw[bB];exact l.base.tape,by rw[bB];exact l.base.output,by rw[fb];exact l.base.size,fun k e5=>(ds k ad).trans (l.base.block k e5)⟩;have e4:a.grownBy x (some M):=⟨G.os.trans H.o.os,G.tape.trans H.o.tape,G.output.trans H.o.output,aR H.o.size G.size,fun k A J=>(G.block k A).trans (H.o.block k A J)⟩;have e2:yF a M Inv C d first (.returned (.tuple #[.agg #[.slice bF keys.length cG,.slice no h.length D,.slice Y keys.length W],.bool true])) x:=
   ⟨⟨e4,ez.o _ _ c1.o G⟩,.inl ⟨n,keys,F,_,_,_,h,b2.o,i4.o.symm,el.o,rfl,⟨_,_,rfl⟩,fg aw l.krow,fg aw l.nrow,l.len,fun j v r A J=>fg aw (l.done j v r A J)⟩⟩
  have fr:=ai 0 V;have fs:=ai 1 V;have fu:=ai 2 V;exact bS (v:=.tuple #[.agg #[.slice bF keys.length cG,.slice no h.length D,.slice Y keys.length W],.bool true]) (by simp[results,results187,go_sem,fr,fs,fu,underlying271]) rfl e2
 ·have hM:n<keys.length:=ad
  obtain⟨s,bA⟩:∃s,keys[n]?=some s:=⟨_,aF hM⟩;obtain⟨h8,rfl⟩:∃h8,bF=some ⟨h8,0,none⟩:=by
   rcases p.krow.2 with⟨A,J⟩|⟨g,cap,km,E,_⟩
   ·omega
   ·injection E with E
    exact⟨_,E⟩
  have h0:C s:=cp s (aU bA);have cx:=Nm wr _ _ _ n keys.length p.q hM ad;have oi:∀(args:Array Value) (iT:World),(callFunc 182 args).run prog iT=.ok (.enter 182 args) iT:=fun _ _=>rfl;have o0:(0:Int)<=n:=ad;have o1:(n:Int)<keys.length:=ad;obtain⟨b3,bb,b2,el,c1,H,gb,er,g0⟩:=CV cx p P cp c8 c9 cc bA h0;clear cx p cc P cp c8 c9 bA h0 du;go_wp2_with fail
  refine b3.o.mono ?_;rintro y w1 ⟨rfl,hW,hE⟩;have eD:=bb.o.queue hE hW;obtain⟨T,aa⟩:=aj (w1.alloc (.cells #[.int .i64 (n:Nat)] 322));have ha:Below w1.heap.size w1 T:=by rw[aa];exact az
  have f0:T.heap[w1.heap.size]?=some (.cells #[.int .i64 (n:Nat)] 322):=by rw[aa];exact aC _ _
  have l:=eD.below ha;have bw:=ai 0 l.box;have ns:=ai 0 f0;have nn:=yC l.krow er.o;have hp:=ez.o _ _ c1.o l.base;have hQ:=j1.o s T g0.o hp (by have:=l.size;omega);obtain⟨gv,eb,ag⟩:=bO hQ f0 l;have k4:a.heap.size+8<=w1.heap.size:=eD.size;clear hQ eD l ha f0 hW hE b3 bb hp;go_wp2_with(first|(rw[<-aa];clear aa)|((with_reducible apply dL (ty:=264));exact rfl;exact rfl;exact rfl;assumption;exact mg;exact rfl;exact ld)|fail)
  refine gv.o.mono ?_;rintro y x ⟨⟨o3,rfl,fc⟩,a0,hq⟩;obtain⟨fG,ae,rfl⟩:=cC fc;have g7:=ag.o.succs a0 hF fc;have hr:a.grownBy x (some M):=⟨a0.os.trans (ag.o.base.os.trans H.o.os),a0.tape.trans (ag.o.base.tape.trans H.o.tape),a0.output.trans (ag.o.base.output.trans H.o.output),aR H.o.size (aR ag.o.base.size a0.size),fun k A J=>(a0.block k (by have:=ag.o.size;omega) J).trans ((ag.o.base.block k A).trans (H.o.block k A J))⟩;have f1:x.heap[w1.heap.size]?=some (.cells #[.int .i64 (n:Nat)] 322):=(a0.block _ (aN eb.o) (fun y=>by injection y with y;omega)).trans eb.o;have l1:=gr.o s;obtain⟨bt,f6⟩:=aE hr hq;obtain⟨X,hs⟩:=aj (w1.heap.size);rw[<-hs]at f1 k4⊢;have hA:Hid (uV a x C d s n X keys F (.slice no h.length D) h (.slice fG (d s).length ae) (d s).length (.int .i64 0) (.slice none 0 0) x):=
   ah ⟨0,keys,[],_,_,rfl,rfl,aK _,rfl,g7,f1,el.o⟩
  clear g7 fc a0 hq hr f1 gv eb ag bw ns nn hs c1 H
  go_wp2
  go_loopg [50,14] (d s).length (fun g fo k0 nr=>uV a x C d s n X keys F (.slice no h.length D) h (.slice fG (d s).length ae) g fo k0 nr)
  case atStart=>exact hA.out
  case round=>
  clear hA;obtain⟨j,ks,rs,nm,e1,ci,rfl,oj,E,p,dr,d0⟩:=hrel;obtain⟨a9,a7,rfl⟩:=cC p.krow;obtain⟨aq,ao,rfl⟩:∃Y W,e1=.slice Y ks.length W:=by obtain⟨ys,fl⟩:=p.frow;exact cC fl
  obtain⟨go,gc,rfl⟩:=cC p.cur;have bq:=yy ad _ _ b2.o;have b5:=DO bq.nodup bq.most _ _ _ rfl E;have op:ks.length<=256:=b5.most;have on:keys.length<=ks.length:=b5.pre.length_le;have l1:=gr.o s;have gg:=ah ci;have oq:rs.length<=64:=by have:=b5.len;simp at this;omega
  by_cases lF:j=(d s).length
  ·subst lF
   rw[pH]at E;obtain⟨fo,ls,m4,m5,na⟩:=cL N3;have h4:fD first 256 d (n+1)=some (ks,F++[rs]):=by
    show(fD first 256 d n).bind _=_
    rw[b2.o];simp only[FO,er.o,E,Option.map_some]
   have os:h.length<=256:=by have A:=p.len;have J:=bq.len;have k1:=bq.le;simp only at J k1;omega
   have eZ:=ai 1 p.box;have b6:Below wr.heap.size wr (wr.alloc (.cells #[.slice go rs.length gc] 53)):=az;have al:=p.below b6;have a5:=al.nrow;have a4:=dt wr [.slice go rs.length gc] 53 _ rfl;have av:a.heap.size+3<=(wr.alloc (.cells #[.slice go rs.length gc] 53)).heap.size:=by have:=al.size;omega
   have i5:Hid (∀e,(wr.alloc (.cells #[.slice go rs.length gc] 53)).grownBy e (Value.slice no h.length D).ownBlock->e.heap[a.heap.size+5]?=some (.cells #[.slice a9 ks.length a7,.slice no h.length D,.slice aq ks.length ao] 271)):=fun e lc=>(lc.block _ (by have:=al.size;omega) (gT al.nrow al.box aw)).trans al.box;obtain⟨bc,c3,j5⟩:=bO al d0 h4;clear p dr E b5 bq d0 ci al b6 h4;go_wp2_with(first
    |(at_builtin;go_must (refine mc _ rfl _ _ 141 rfl (a.heap.size+3) 53 fo _ 1 24 underlying141 ls m4 m5 na rfl ad (.slice no h.length D) h.length h rfl a5 ⟨wr.heap.size,0,none⟩ 1 1 [.slice go rs.length gc] rfl rfl a4 (fun z Q=>by simp at Q;subst Q;rfl) ad bN ad av _ rfl ?_);intro bf bg bo a6 O bl cq;have e0:=i5.o bo O;have ng:=ai 1 e0;have hl:=aQ e0 1;have an:=ah (bc.o.setNext O a6);clear a6 O bl a4 av a5 cq e0)
    |fail)
   have g9:ck a x ks ks ks.length (n+1) ks.length (F++[rs]) (.slice a9 ks.length a7) (.slice (some ⟨bf,0,none⟩) (h.length+1) bg) (.slice aq ks.length ao) (h++[.slice go rs.length gc]) (.slice none 0 0) [] (.slice none 0 0) [] (bo.setCell ⟨a.heap.size+5,1,none⟩ (.slice (some ⟨bf,0,none⟩) (h.length+1) bg)):=
    {an.out with succ:=cR _ _ _ _,sgap:=fun b I=>by cases I}
   have b9:Hid (yG a M Inv C d first (256-(n+1)) (bo.setCell ⟨a.heap.size+5,1,none⟩ (.slice (some ⟨bf,0,none⟩) (h.length+1) bg))):=
    ah ⟨n+1,ks,F++[rs],_,_,_,_,x,rfl,j5.o,g9,bt.o,f6.o,c3.o⟩
   clear g9 an ng hl eZ;go_roundg(256-(n+1))
   case measure=>have:=jp.o;omega
   case rel=>exact b9.out
  ·have lP:j<(d s).length:=ad
   obtain⟨t,P⟩:∃t,(d s)[j]?=some t:=⟨_,aF lP⟩;have e8:C t:=jy.o s g0.o t (aU P);have d1:iS t:=gG.o _ e8;have j2:=ah e8;obtain⟨af,rfl⟩:∃af,fG=some ⟨af,0,none⟩:=by
    rcases p.succ.2 with⟨A,J⟩|⟨g,cap,km,E,_⟩
    ·omega
    ·injection E with E
     exact⟨_,E⟩
   have h5:fp 256 keys ((d s).take (j+1))=oa 256 (ks,rs) t:=by rw[bG,P];simp only[dR];rw[DN,E];rfl
   obtain⟨d5,ab⟩:=aj (wr.alloc (.cells #[.bool false,.int .u64 0,.int .u64 0,.int .u64 0,.int .u64 0,.int .u64 0,.int .u64 0,.int .u64 0,.int .u64 0,.int .u64 0,.int .u64 0,.int .u64 0,.int .u64 0,.int .u64 0,.int .u64 0,.int .u64 0,.int .u64 0] 264));have hd:Below wr.heap.size wr d5:=by rw[ab];exact az
   have fN:d5.there wr.heap.size 0 17:=by rw[ab];exact mI (cs:=bk (false,0)) (ty:=264) (aC wr _) (aB _)
   have fx:=yC p.succ P;have nb:wr.heap.size<d5.heap.size:=by rw[ab];simp
   have k7:wr.heap.size≠a.heap.size+2:=by have:=p.size;omega
   have ot:(0:Int)<=j:=ad;have ov:(j:Int)<((d s).length:Int):=ad;have cl:=r8 d1;have co:=DS d1;obtain⟨h6,hz,hB,hC,hD⟩:=cL lu;have d6:Hid (∀e,eX d5 e wr.heap.size 0 (bk t)->ck a x ks ks ks.length (n+1) ks.length F (.slice a9 ks.length a7) (.slice no h.length D) (.slice aq ks.length ao) h (.slice go rs.length gc) rs (.slice (some ⟨af,0,none⟩) (d s).length ae) (d s) e/\e.heap[X]?=some (.cells #[.int .i64 (n:Nat)] 322)):=fun e k3=>by have N:=k3.below hd (aB _);exact⟨p.below N,(N.block X (aN dr)).trans dr⟩
   obtain⟨eB,c3,em,eg,ed⟩:=ku h5 d0 d1 co cl;clear e8 p dr E b5 bq h5 d0 d1 co cl P hd ci;by_cases a3:t∈ks
   ·have b4:Hid (fp 256 keys ((d s).take (j+1))=some (ks,rs++[lX ks t])):=ah (by rw[eB.o];simp[oa,a3])
    obtain⟨q,bm⟩:=aj (lX ks t);rw[<-bm]at b4;obtain⟨j3,c4⟩:=aE bm a3;clear bm a3;have cN:Hid (∀e,ck a x ks ks ks.length (n+1) ks.length F (.slice a9 ks.length a7) (.slice no h.length D) (.slice aq ks.length ao) h (.slice go rs.length gc) rs (.slice (some ⟨af,0,none⟩) (d s).length ae) (d s) e->(Instr.lookup 315 (.map (some (a.heap.size+2))) (.agg (bk t).toArray) true).run prog e=.ok (.tuple #[.int .i64 (q:Nat),.bool true]) e):=fun e Z=>by obtain⟨f,a2,ch⟩:=Z.map;have A:=a2.look_ok qu z8 (z:=.int .i64 0) ay eg.o ed.o;rw[ch t em.o,au c4.o,<-j3.o]at A;exact A
    go_wp2_with(first
     |(rw[<-ab];clear ab)
     |((with_reducible apply dL (ty:=264));exact rfl;exact rfl;exact rfl;assumption;exact mg;exact rfl;exact ld)
     |(((with_reducible apply cT (ty:=264));exact rfl;exact rfl;exact rfl;exact rfl;assumption;exact ld;exact pw _);intro e K;have bZ:=K.here;obtain⟨m,L⟩:=d6.o e K;have e7:=cN.o e m;obtain⟨bc,bd,a5,av⟩:=D1 m L q;have a4:=dt e [.int .i64 (q:Nat)] 3 _ rfl;clear fN fx m L K)
     |(at_builtin;go_must (refine mc _ rfl _ _ 53 rfl (a.heap.size+3) 3 h6 _ 1 8 ke hz hB hC hD rfl ad (.slice go rs.length gc) rs.length (fj rs) rfl a5 ⟨e.heap.size,0,none⟩ 1 1 [.int .i64 (q:Nat)] rfl rfl a4 (fun z Q=>by simp at Q;subst Q;rfl) ad bN ad av _ rfl ?_);intro bf bg bo a6 O bl cq;have an:=bc.o.goes O a6 bl;have f4:=ah ((O.block X (aN bd.o) (gT bc.o.cur bd.o aw)).trans bd.o);have d8:=ah an;clear an a6 O bl a4 av a5 cq)
     |fail)
    have b9:Hid (uV a x C d s n X keys F (.slice no h.length D) h (.slice (some ⟨af,0,none⟩) (d s).length ae) ((d s).length-(j+1)) (.int .i64 ((j:Int)+1)) (.slice (some ⟨bf,0,none⟩) (rs.length+1) bg) bo):=
     ah ⟨j+1,ks,rs++[q],_,_,rfl,rfl,ad,b4.o,d8.o,f4.out,c3.o⟩
    go_roundg((d s).length-(j+1))
    case measure=>have:=gg.o;omega
    case rel=>exact b9.out
   ·have c4:=ah a3
    have cN:Hid (∀e,ck a x ks ks ks.length (n+1) ks.length F (.slice a9 ks.length a7) (.slice no h.length D) (.slice aq ks.length ao) h (.slice go rs.length gc) rs (.slice (some ⟨af,0,none⟩) (d s).length ae) (d s) e->(Instr.lookup 315 (.map (some (a.heap.size+2))) (.agg (bk t).toArray) true).run prog e=.ok (.tuple #[.int .i64 0,.bool false]) e):=fun e Z=>by obtain⟨f,a2,ch⟩:=Z.map;have A:=a2.look_ok qu z8 (z:=.int .i64 0) ay eg.o ed.o;rw[ch t em.o,ap c4.o]at A;exact A
    by_cases e3:256<=ks.length
    ·have j6:Hid (fp 256 keys ((d s).take (j+1))=none):=ah (by rw[eB.o];simp[oa,a3,e3])
     have hv:(256:Int)<=ks.length:=ad;clear a3;go_wp2_with(first
      |(rw[<-ab];clear ab)
      |((with_reducible apply dL (ty:=264));exact rfl;exact rfl;exact rfl;assumption;exact mg;exact rfl;exact ld)
      |(((with_reducible apply cT (ty:=264));exact rfl;exact rfl;exact rfl;exact rfl;assumption;exact ld;exact pw _);intro e K;have bZ:=K.here;obtain⟨m,L⟩:=d6.o e K;have e7:=cN.o e m;have bw:=ai 0 m.box;have he:=ai 0 m.res;have hf:=ai 1 m.res;have hg:=ai 2 m.res;have hh:=aQ m.res 0;have hi:=aQ m.res 1;have hj:=aQ m.res 2;have i9:=ah m;clear fN fx m L K)
      |fail)
     rw[l8];have m:=i9.o;have V:(((e.setCell ⟨a.heap.size+1,0,none⟩ (.slice none 0 0)).setCell ⟨a.heap.size+1,1,none⟩ (.slice none 0 0)).setCell ⟨a.heap.size+1,2,none⟩ (.slice none 0 0)).heap[a.heap.size+1]?=some (.cells #[.slice none 0 0,.slice none 0 0,.slice none 0 0] 271):=
      bL _ _ 2 _ (bL _ _ 1 _ (bL _ _ 0 _ m.res))
     obtain⟨ba,bE⟩:=aj ((((e.setCell ⟨a.heap.size+1,0,none⟩ (.slice none 0 0)).setCell ⟨a.heap.size+1,1,none⟩ (.slice none 0 0)).setCell ⟨a.heap.size+1,2,none⟩ (.slice none 0 0)));have ds:∀b,b≠a.heap.size+1->ba.heap[b]?=e.heap[b]?:=fun b N=>by rw[bE,aX _ _ _ _ _ N,aX _ _ _ _ _ N,aX _ _ _ _ _ N]
     rw[<-bE]at V⊢;have fb:ba.heap.size=e.heap.size:=by rw[bE];simp only[dK]
     have G:Below a.heap.size x ba:=⟨by rw[bE];exact m.base.os,by rw[bE];exact m.base.tape,by rw[bE];exact m.base.output,by rw[fb];exact m.base.size,fun k e5=>(ds k ad).trans (m.base.block k e5)⟩;have e4:a.grownBy ba (some M):=⟨G.os.trans bt.o.os,G.tape.trans bt.o.tape,G.output.trans bt.o.output,aR bt.o.size G.size,fun k A J=>(G.block k A).trans (bt.o.block k A J)⟩;have md:fp 256 keys (d s)=none:=by have:=N6 (b:=(d s).drop (j+1)) j6.o;rwa[jC]at this
     have e2:yF a M Inv C d first (.returned (.tuple #[.agg #[.slice none 0 0,.slice none 0 0,.slice none 0 0],.bool false])) ba:=
      ⟨⟨e4,ez.o _ _ f6.o G⟩,.inr ⟨n,keys,F,s,b2.o,er.o,md,rfl⟩⟩
     have fr:=ai 0 V;have fs:=ai 1 V;have fu:=ai 2 V;exact bS (v:=.tuple #[.agg #[.slice none 0 0,.slice none 0 0,.slice none 0 0],.bool false]) (by simp[results,results187,go_sem,fr,fs,fu,underlying271]) rfl e2
    ·have b4:Hid (fp 256 keys ((d s).take (j+1))=some (ks++[t],rs++[ks.length])):=ah (by rw[eB.o];simp[oa,a3,e3])
     have hv:(ks.length:Int)<256:=ad;clear a3;obtain⟨nd,lo,mG,m1,m2⟩:=cL yE;obtain⟨nc,lg,mm,mw,mz⟩:=cL N1;have i3:Hid (∀e,ck a x ks ks ks.length (n+1) ks.length F (.slice a9 ks.length a7) (.slice no h.length D) (.slice aq ks.length ao) h (.slice go rs.length gc) rs (.slice (some ⟨af,0,none⟩) (d s).length ae) (d s) e->e.heap[X]?=some (.cells #[.int .i64 (n:Nat)] 322)->∀bu,e.rangeAt bu 0 (bk t)->bu<e.heap.size->bu≠a.heap.size+2->
      ∃o,(Instr.mapUpdate 315 (.map (some (a.heap.size+2))) (.agg (bk t).toArray) (.int .i64 (ks.length:Nat))).run prog e=.ok () o/\
       ck a x (ks++[t]) ks ks.length (n+1) ks.length F (.slice a9 ks.length a7) (.slice no h.length D) (.slice aq ks.length ao) h (.slice go rs.length gc) rs (.slice (some ⟨af,0,none⟩) (d s).length ae) (d s) o/\o.heap[X]?=some (.cells #[.int .i64 (n:Nat)] 322)/\o.rangeAt bu 0 (bk t)):=fun e Z L bu bZ k5 ob=>by
      obtain⟨f,a2,ch⟩:=Z.map;obtain⟨o,mB,d2,a1,_⟩:=a2.set qu z8 bN (val:=.int .i64 (ks.length:Nat)) eg.o ed.o;obtain⟨nP,c,k2⟩:=Z.map.block;exact⟨o,mB,Z.mapPut a1 (kG.put (w:=e) em.o ch c4.o d2),(a1.block X (aN L) (fun y=>by injection y with y;rw[y,k2]at L;cases L)).trans L,fun i v E=>(a1.cell_far ⟨bu,0+i,none⟩ k5 aO).trans (bZ i v E)⟩
     go_wp2_with(first
      |(rw[<-ab];clear ab)
      |(rw[<-g3.o];clear g3)
      |(rw[<-g2.o];clear g2)
      |((with_reducible apply dL (ty:=264));exact rfl;exact rfl;exact rfl;assumption;exact mg;exact rfl;exact ld)
      |((with_reducible apply D0);exact rfl;exact rfl;exact rfl)
      |(((with_reducible apply cT (ty:=264));exact rfl;exact rfl;exact rfl;exact rfl;assumption;exact ld;exact pw _);intro e K;have bZ:=K.here;obtain⟨m,L⟩:=d6.o e K;have e7:=cN.o e m;have bw:=ai 0 m.box;obtain⟨o,e9,eN,b0,fv⟩:=i3.o e m L wr.heap.size bZ (by rw[K.size];exact nb) k7;have kk:=ai 0 eN.box;obtain⟨jd,jj,hV,hn⟩:=N9 eN b0 t;have hL:=dt o (bk t) 264 _ rfl;clear fN fx m L eN b0 K)
      |(at_builtin;first
       |(refine mc _ rfl _ _ 265 rfl (a.heap.size+3) 264 nd _ 17 136 FP lo mG m1 m2 rfl ad (.slice a9 ks.length a7) ks.length (flatS ks) rfl hV ⟨o.heap.size,0,none⟩ 1 1 (bk t) rfl rfl hL (pw t) ad bN ad hn _ rfl ?_;intro n2 n4 o5 hT hy ht l5;obtain⟨nl,kv,ba,g3,jb,je,kl,nx⟩:=Oa jd.o jj.o hy hT ht;obtain⟨jc,ji,⟨nz,hU⟩,hm⟩:=Ob jb.o je.o j;have hK:=dt ba [.int .i64 (n:Nat),.int .i64 (j:Nat)] 317 _ rfl;clear hV hn hL hT hy ht l5 bZ fv e9 e7 bw kk)
       |(refine mc _ rfl _ _ 269 rfl (a.heap.size+3) 317 nc _ 2 16 underlying269 lg mm mw mz rfl ad (.slice aq ks.length ao) ks.length nz rfl hU ⟨ba.heap.size,0,none⟩ 1 1 [.int .i64 (n:Nat),.int .i64 (j:Nat)] rfl rfl hK (fun z Q=>by simp at Q;rcases Q with rfl|rfl<;>rfl) ad bN ad hm _ rfl ?_;intro n0 n3 o4 hS hx la l3;obtain⟨nk,kp,np,g2,c2,ea⟩:=Oc jc.o ji.o hx hS;clear hU hm hK hS hx la l3 kl nx nl kv))
      |fail)
     have cu:=DM np _ _ _ (n+1) ks.length c2.o.q ad;have h1:=c2.o.cell_sq ea.o aw aw ad;obtain⟨b1,g1⟩:=aE cu h1;clear cu h1 nk kp;refine b1.o.mono ?_;rintro y fT ⟨rfl,hX,e6⟩;have eE:=c2.o.queue e6 hX;have i0:fT.heap[X]?=some (.cells #[.int .i64 (n:Nat)] 322):=(e6.kp.same X g1.o).2.trans ea.o;have hH:ks.length+1=(ks++[t]).length:=ak;rw[hH]at eE;obtain⟨q,hZ⟩:=aj (ks.length);rw[<-hZ]at b4⊢;obtain⟨bc,bd,a5,av⟩:=D1 eE i0 q;have a4:=dt fT [.int .i64 (q:Nat)] 3 _ rfl;have jv:Hid (∀u∈ks++[t],C u):=ah fun u m3=>by
      rcases fe.1 m3 with I|I
      ·exact c3.o u I
      ·simp at I;subst I;exact j2.o
     clear eE i0 hX e6 b1 c2 ea g1 hH hZ hv e3;go_wp2_with(first
      |(at_builtin;(refine mc _ rfl _ _ 53 rfl (a.heap.size+3) 3 h6 _ 1 8 ke hz hB hC hD rfl ad (.slice go rs.length gc) rs.length (fj rs) rfl a5 ⟨fT.heap.size,0,none⟩ 1 1 [.int .i64 (q:Nat)] rfl rfl a4 (fun z Q=>by simp at Q;subst Q;rfl) ad bN ad av _ rfl ?_;intro bf bg bo a6 O bl cq;have an:=bc.o.goes O a6 bl;have f4:=ah ((O.block X (aN bd.o) (gT bc.o.cur bd.o aw)).trans bd.o);have d8:=ah an;clear an a6 O bl a4 av a5 cq))
      |fail)
     have b9:Hid (uV a x C d s n X keys F (.slice no h.length D) h (.slice (some ⟨af,0,none⟩) (d s).length ae) ((d s).length-(j+1)) (.int .i64 ((j:Int)+1)) (.slice (some ⟨bf,0,none⟩) (rs.length+1) bg) bo):=
      ah ⟨j+1,ks++[t],rs++[q],_,_,rfl,rfl,ad,b4.o,d8.o,f4.out,jv.o⟩
     go_roundg((d s).length-(j+1))
     case measure=>have:=gg.o;omega
     case rel=>exact b9.out
def ofN(l:List ar)(x:Bytes):Nat->Nat
 |0=>0
 |n+1=>match l[n]? with
  |none=>ofN l x n
  |some a=>if a.op=2/\a.sym=x then ofN l x n|||dV [n]else ofN l x n
def fE(l:List ar):Nat->Nat
 |0=>0
 |n+1=>match l[n]? with
  |none=>fE l n
  |some a=>if a.op=2/\(dO (aS l (l.length-1))).testBit n=true then fE l n|||dV [n]else fE l n
def gp(l:List ar)(b:Bool)(ps:List Nat):Nat:=ps.foldl (fun c p=>c|||dV (aI (db l p))) (if b then dV (aI (cB (aS l (l.length-1))))else 0)
def cV(l:List ar)(a:List Bytes)(s:St):List St:=a.map fun x=>(false,gp l s.1 (aI s.2)&&&ofN l x l.length)
def uX(l:List ar)(s:St):Bool:=(s.1&&(factN l (l.length-1)).empty)|| !(s.2&&&fE l l.length==0)
def uY(l:List ar)(s:St):Prop:=iS s/\∀p,s.2.testBit p=true->∃a,l[p]?=some a/\a.op=2
theorem qw{m p:Nat}(a:p∈aI m):p<64/\m.testBit p=true:=by unfold aI at a;rw[E5,l6]at a;exact a
theorem sk{ps:List Nat}(a:∀p∈ps,p<64):dV ps<18446744073709551616:=C9 a 0 ad
theorem Om(ps:List Nat)(j:Nat):(dV ps).testBit j=decide (j∈ps):=by unfold dV;rw[L1];simp
theorem yI{a b:Nat}(c:a<18446744073709551616)(k:b<18446744073709551616):a|||b<18446744073709551616:=y7 (n:=64) c k
theorem On{a b:Nat}(k:b<18446744073709551616):a&&&b<18446744073709551616:=E7 FH k
theorem px(l:List ar)(x:Bytes):∀n,n<=64->ofN l x n<18446744073709551616
 |0,_=>by unfold ofN;omega
 |n+1,b=>by
  unfold ofN;split
  ·exact px l x n ad
  ·split
   ·exact yI (px l x n ad) (sk (fun p a=>by simp at a;omega))
   ·exact px l x n ad
theorem uZ(l:List ar)(x:Bytes)(p:Nat):∀n,(ofN l x n).testBit p=true->p<n/\∃c,l[p]?=some c/\c.op=2/\c.sym=x
 |0,a=>by simp[ofN]at a
 |n+1,a=>by
  unfold ofN at a;split at a
  ·obtain⟨d,b⟩:=uZ l x p n a
   exact⟨ad,b⟩
  ·rename_i c f
   split at a
   ·rename_i e
    rw[y9,Om]at a;rcases cM _ _▸a with a|a
    ·obtain⟨d,b⟩:=uZ l x p n a
     exact⟨ad,b⟩
    ·simp at a
     subst a;exact⟨ad,c,f,e⟩
   ·obtain⟨d,b⟩:=uZ l x p n a
    exact⟨ad,b⟩
theorem sm(l:List ar):∀n,n<=64->fE l n<18446744073709551616
 |0,_=>by unfold fE;omega
 |n+1,b=>by
  unfold fE;split
  ·exact sm l n ad
  ·split
   ·exact yI (sm l n ad) (sk (fun p a=>by simp at a;omega))
   ·exact sm l n ad
theorem vd(m:Nat):dV (aI m)<18446744073709551616:=sk (fun p a=>(qw a).1)
theorem ve(l:List ar)(b:Bool)(ps:List Nat):gp l b ps<18446744073709551616:=by
 unfold gp;have a:(if b then dV (aI (cB (aS l (l.length-1))))else 0)<18446744073709551616:=by
  split
  ·exact vd _
  ·omega
 generalize(if b then dV (aI (cB (aS l (l.length-1))))else 0)=c at a;induction ps generalizing c with
 |nil=>exact a
 |cons p ps ih=>exact ih _ (yI a (vd _))
theorem vf(l:List ar)(b:Bool)(ps:List Nat)(p:Nat):gp l b (ps++[p])=gp l b ps|||dV (aI (db l p)):=by unfold gp;rw[FA];rfl
theorem Oo(l:List ar):uY l (true,0):=⟨by unfold iS;show(0:Nat)<_;omega,fun p a=>by simp at a⟩
theorem Oq{l:List ar}{f:List Bytes}(g:l.length<=60){s t:St}(a:t∈cV l f s):uY l t:=by unfold cV at a;rw[kO]at a;obtain⟨x,_,rfl⟩:=a;refine⟨On (px l x _ ad),fun p b=> ?_⟩;simp only[Nat.testBit_and,dg]at b;obtain⟨_,e,c,d,_⟩:=uZ l x p _ b.2;exact⟨e,c,d⟩
end Go.Proofs.YtbacloblanpghaaGreatDoor
