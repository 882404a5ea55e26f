import Derived.Test.YtnadadbndcdolaaGreatDoorQbe
import Derived.Test.YtnadadbndcdolaaGreatDoorQbf
set_option linter.unusedVariables false
set_option linter.unusedSimpArgs false
set_option maxRecDepth 100000
set_option maxHeartbeats 0
namespace Go.Proofs.YtnadadbndcdolaaGreatDoor
open Go.RowKit Tryz
theorem z6:(prog.info? 325).map (fun i=>(i.zero,i.size,i.bytes))=some (some (.agg #[.bool false,.int .u64 0,.int .u64 0,.int .u64 0,.int .u64 0,.int .u64 0,.int .u64 0,.int .u64 0,.int .u64 0,.int .u64 0,.int .u64 0,.int .u64 0,.int .u64 0,.int .u64 0,.int .u64 0,.int .u64 0,.int .u64 0]),17,136):=aA
theorem O8:(prog.info? 367).map (fun i=>(i.zero,i.size,i.bytes))=some (some (.agg #[.int .i64 0,.int .i64 0]),2,16):=aA
theorem O9:(prog.info? 125).map (fun i=>(i.zero,i.size,i.bytes))=some (some (.slice none 0 0),1,24):=aA
theorem bp.set{w:World}{P:Program}{k:TypeId}{M n:Nat}{f:Lit->Option Value}(l:bp w P k M n f){t j:TypeId}(b:Maps.Keyed P k)(i:P.underlying t=some (.map k j))(g:n<maxLen){key val:Value}{kl:Lit}(o:WideAt.IsKeyLit kl)(e:keyOf P k key=some kl):
 ∃w',(Instr.mapUpdate t (.map (some M)) key val).run P w=.ok () w'/\bp w' P k M (n+1) (eW f kl val)/\w.grownBy w' (some M)/\w'.heap.size=w.heap.size:=by
 obtain⟨x,c,p,q⟩:=l;obtain⟨w',h,u,v⟩:=c.update b i g e (d:=.held val) (ps:=[]) (val:=val) rfl;refine⟨w',h,bp.put_of o p q u,v,?_⟩;obtain⟨z,clock,m,F,r,rfl⟩:=c;obtain⟨A,y,a,_⟩:=Maps.fit_store (R':=pW) b i m F (Ie r g) (fun _ _ _ _ s=>s) (val:=val) e rfl;rw[h]at a;injection a with _ a
 rw[a];simp[ChangeMaps.setBlock]
theorem wQ(s:St)(w:World):(Instr.buildSlice 326 1 #[(0,.agg (bx s).toArray)]).run prog w=.ok (.slice (some ⟨w.heap.size,0,none⟩) 1 1) (w.alloc (.cells (bx s).toArray 325)):=by obtain⟨b,m⟩:=s;kernel_rfl
theorem Fw{c:Array Oper}{rest:List Oper}{b:Oper}{a:Act}{w:World}{Q:Exit->Act->World->Prop}(s:St)(g:b.guard=none)(y:Operand)(h:b.op=.buildSlice 326 1 #[(0,y)])(i:a.eval y=.agg (bx s).toArray)
 (e:wpList prog c Q rest (a.put b.dst (.slice (some ⟨w.heap.size,0,none⟩) 1 1)) (w.alloc (.cells (bx s).toArray 325))):wpList prog c Q (b::rest) a w:=
 wpList_plain g fun _ f=>by
  unfold Oper.wp execOp;simp only[h,BF,uF,BG];have d:(#[(0,y)]:Array (Nat×Operand)).map (fun p=>(p.1,a.eval p.2))=#[(0,.agg (bx s).toArray)]:=by simp[i]
  rw[d,wQ];exact f _ _ e
def wR(b:Nat)(Inv:World->Prop)(a:St->List St)(s:St)(w:World)(c:Ending)(w':World):Prop:=
 (∃v,c=.returned v/\w'.ownsRow w.heap.size 325 17 v (a s).length (flatS (a s)))/\w.grownBy w' (some b)/\Inv w'
def z7(b:World)(i:Nat)(Inv:World->Prop)(l:St->Prop)(d:St->List St)(first:St)(e:Ending)(w':World):Prop:=
 (b.grownBy w' (some i)/\Inv w')/\
 ((∃n keys a g nv f c,eL first 256 d n=some (keys,a)/\keys.length=n/\(∀s∈keys,l s)/\e=.returned (.tuple #[.agg #[g,nv,f],.bool true])/\(∃o m,f=.slice o keys.length m)/\w'.ownsRow (b.heap.size+3) 325 17 g keys.length (flatS keys)/\w'.ownsRow (b.heap.size+3) 125 1 nv c.length c/\c.length=a.length/\
    ∀(j:Nat) (v:Value) (h:List Nat),c[j]?=some v->a[j]?=some h->cW w' (b.heap.size+3) v h)∨
  (∃n keys a k,eL first 256 d n=some (keys,a)/\keys[n]?=some k/\eK 256 keys (d k)=none/\e=.returned (.tuple #[.agg #[.slice none 0 0,.slice none 0 0,.slice none 0 0],.bool false])))
def z8(b:World)(d:Nat)(Inv:World->Prop)(e:St->Prop)(i:St->List St)(first:St)(g:Nat)(wr:World):Prop:=
 ∃n keys c h nv f j a,g=256-n/\eL first 256 i n=some (keys,c)/\cw b a keys keys keys.length n keys.length c h nv f j (.slice none 0 0) [] (.slice none 0 0) [] wr/\b.grownBy a (some d)/\Inv a/\∀s∈keys,e s
theorem Pa{c:Nat}{keys a b:List St}(d:eK c keys a=none):eK c keys (a++b)=none:=by unfold eK at*;rw[List.foldlM_append,d];rfl
theorem Pb{a e w:World}{j c:List St}{fn l m:Nat}{o:List (List Nat)}{d nv f:Value}{r:List Value}{h:Value}{g:List Nat}{q:Value}{p:List St}{X n:Nat}(s:cw a e j c fn l m o d nv f r h g q p w)(i:w.heap[X]?=some (.cells #[.int .i64 (n:Nat)] 372))(t:St):
 Hid (cw a e j c fn l m o d nv f r h g q p (w.alloc (.cells (bx t).toArray 325)))/\Hid ((w.alloc (.cells (bx t).toArray 325)).heap[X]?=some (.cells #[.int .i64 (n:Nat)] 372))/\
 (w.alloc (.cells (bx t).toArray 325)).ownsRow (a.heap.size+3) 325 17 d c.length (flatS c)/\a.heap.size+3<=(w.alloc (.cells (bx t).toArray 325)).heap.size:=by
 have b:Below w.heap.size w (w.alloc (.cells (bx t).toArray 325)):=aG;have T:=s.below b;exact⟨ah T,ah ((b.block _ (aU i)).trans i),T.krow,by have:=T.size;omega⟩
theorem Pc{a o w e:World}{r b:List St}{fn s t:Nat}{u:List (List Nat)}{g nv i:Value}{y:List Value}{q:Value}{p:List Nat}{x:Value}{v:List St}{X n c gc:Nat}{k:St}(d:cw a o r b fn s t u g nv i y q p x v w)(l:w.heap[X]?=some (.cells #[.int .i64 (n:Nat)] 372))
 (j:w.grownBy e g.ownBlock) (C:e.ownsRow (a.heap.size+3) 325 17 (.slice (some ⟨c,0,none⟩) (b.length+1) gc) (b.length+1) (flatS b++bx k)) (B:g.ownBlock=some c∨c=w.heap.size):
 e.cell? ⟨a.heap.size+5,0,none⟩=some g/\e.frozen? ⟨a.heap.size+5,0,none⟩=false/\∃f,Hid (f=e.setCell ⟨a.heap.size+5,0,none⟩ (.slice (some ⟨c,0,none⟩) (b.length+1) gc))/\
  Hid (cw a o r (b++[k]) fn s t u (.slice (some ⟨c,0,none⟩) (b.length+1) gc) nv i y q p x v f)/\Hid (f.heap[X]?=some (.cells #[.int .i64 (n:Nat)] 372))/\f.cell? ⟨a.heap.size+5,2,none⟩=some i/\f.cell? ⟨X,0,none⟩=some (.int .i64 (n:Nat)):=by
 have h:=(j.block _ (by have:=d.size;omega) (ie d.krow d.box ap)).trans d.box;have m:=(j.block _ (aU l) (ie d.krow l ap)).trans l;have T:=d.setKeys j C B;have z:(e.setCell ⟨a.heap.size+5,0,none⟩ (.slice (some ⟨c,0,none⟩) (b.length+1) gc)).heap[X]?=some (.cells #[.int .i64 (n:Nat)] 372):=(aS _ _ _ _ _ (fun A=>by rw[A,h]at m;cases m)).trans m;exact⟨ai 0 h,aT h 0,_,ah rfl,ah T,ah z,ai 2 T.box,ai 0 z⟩
theorem Pe{a d w:World}{i h:List St}{fn m o:Nat}{p:List (List Nat)}{l nv c:Value}{s:List Value}{f:Value}{e:List Nat}{r:Value}{q:List St}{X n:Nat}(t:cw a d i h fn m o p l nv c s f e r q w)(g:w.heap[X]?=some (.cells #[.int .i64 (n:Nat)] 372))(j:Nat):
 Hid (cw a d i h fn m o p l nv c s f e r q (w.alloc (.cells #[.int .i64 (n:Nat),.int .i64 (j:Nat)] 367)))/\Hid ((w.alloc (.cells #[.int .i64 (n:Nat),.int .i64 (j:Nat)] 367)).heap[X]?=some (.cells #[.int .i64 (n:Nat)] 372))/\
 (∃ys,(w.alloc (.cells #[.int .i64 (n:Nat),.int .i64 (j:Nat)] 367)).ownsRow (a.heap.size+3) 367 2 c fn ys)/\a.heap.size+3<=(w.alloc (.cells #[.int .i64 (n:Nat),.int .i64 (j:Nat)] 367)).heap.size:=by
 have b:Below w.heap.size w (w.alloc (.cells #[.int .i64 (n:Nat),.int .i64 (j:Nat)] 367)):=aG;have T:=t.below b;exact⟨ah T,ah ((b.block _ (aU g)).trans g),T.frow,by have:=T.size;omega⟩
theorem Pf{a l w b:World}{r q:List St}{fn t u:Nat}{v:List (List Nat)}{s nv f:Value}{z:List Value}{o:Value}{m:List Nat}{y:Value}{x:List St}{X n d gc:Nat}{zs:List Value}(c:cw a l r q fn t u v s nv f z o m y x w)(h:w.heap[X]?=some (.cells #[.int .i64 (n:Nat)] 372))
 (g:w.grownBy b f.ownBlock) (B:b.ownsRow (a.heap.size+3) 367 2 (.slice (some ⟨d,0,none⟩) (fn+1) gc) (fn+1) zs):
 b.cell? ⟨a.heap.size+5,2,none⟩=some f/\b.frozen? ⟨a.heap.size+5,2,none⟩=false/\∃i,Hid (i=b.setCell ⟨a.heap.size+5,2,none⟩ (.slice (some ⟨d,0,none⟩) (fn+1) gc))/\
  Hid (cw a l r q (fn+1) t u v s nv (.slice (some ⟨d,0,none⟩) (fn+1) gc) z o m y x i)/\Hid (i.heap[X]?=some (.cells #[.int .i64 (n:Nat)] 372)):=by
 obtain⟨ys,p⟩:=c.frow;have e:=(g.block _ (by have:=c.size;omega) (ie p c.box ap)).trans c.box;have j:=(g.block _ (aU h) (ie p h ap)).trans h;have T:=c.setFrom g B;have C:(b.setCell ⟨a.heap.size+5,2,none⟩ (.slice (some ⟨d,0,none⟩) (fn+1) gc)).heap[X]?=some (.cells #[.int .i64 (n:Nat)] 372):=(aS _ _ _ _ _ (fun A=>by rw[A,e]at j;cases j)).trans j;exact⟨ai 2 e,aT e 2,_,ah rfl,ah T,ah C⟩
theorem Fx{a e w:World}{i h:List St}{fn l m:Nat}{o:List (List Nat)}{j nv f:Value}{s:List Value}{d:Value}{c:List Nat}{r:Value}{p:List St}{X n:Nat}(t:cw a e i h fn l m o j nv f s d c r p w)(g:w.heap[X]?=some (.cells #[.int .i64 (n:Nat)] 372))(q:Nat):
 Hid (cw a e i h fn l m o j nv f s d c r p (w.alloc (.cells #[.int .i64 (q:Nat)] 3)))/\Hid ((w.alloc (.cells #[.int .i64 (q:Nat)] 3)).heap[X]?=some (.cells #[.int .i64 (n:Nat)] 372))/\
 (w.alloc (.cells #[.int .i64 (q:Nat)] 3)).ownsRow (a.heap.size+3) 3 1 d c.length (fi c)/\a.heap.size+3<=(w.alloc (.cells #[.int .i64 (q:Nat)] 3)).heap.size:=by
 have b:Below w.heap.size w (w.alloc (.cells #[.int .i64 (q:Nat)] 3)):=aG;have T:=t.below b;exact⟨ah T,ah ((b.block _ (aU g)).trans g),T.cur,by have:=T.size;omega⟩
def wS(c o:World)(b:St->Prop)(a:St->List St)(s:St)(n X:Nat)(keys:List St)(i:List (List Nat))(nv:Value)(m:List Value)(l:Value)(g:Nat)(f e:Value)(wr:World):Prop:=
 ∃j ks rs h d,g=(a s).length-j/\f=.int .i64 (j:Nat)/\j<=(a s).length/\eK 256 keys ((a s).take j)=some (ks,rs)/\cw c o ks ks ks.length (n+1) ks.length i h nv d m e rs l (a s) wr/\
  wr.heap[X]?=some (.cells #[.int .i64 (n:Nat)] 372)/\∀t∈ks,b t
theorem Pg(a:World)(L:Nat)(Inv:World->Prop)(A:St->Prop)(d:St->List St)(first:St)(h1 h2 h3 h4:Value)(hF:L<a.heap.size)(hf:Inv a)(hT:∀w w',Inv w->Below a.heap.size w w'->Inv w')
 (c9:∀s,A s->jz s) (hE:∀s w,A s->Inv w->a.heap.size<=w.heap.size->Calls prog 241 #[.agg (bx s).toArray,h1,h2,h3,h4] w (wR L Inv d s w))
 (c5:A first) (hz:∀s,A s->∀t∈d s,A t) (hy:∀s,(d s).length<=64):
 Calls prog 246 #[.agg (bx first).toArray,.int .i64 256,.func (.func 241) #[] #[h1,h2,h3,h4]] a (z7 a L Inv A d first):=by
 obtain⟨Q,bA⟩:=ar ((a.alloc (.cells (bx first).toArray 325)).alloc (.cells #[.slice none 0 0,.slice none 0 0,.slice none 0 0] 330));have b3:Below a.heap.size a Q:=by rw[bA];exact aG.alloc ak _
 have fo:Q.heap.size=a.heap.size+2:=by rw[bA];simp
 have fx:Q.heap[a.heap.size]?=some (.cells (bx first).toArray 325):=by rw[bA];exact(bk _ _ _ ak).trans (aB a _)
 have ia:Q.heap[a.heap.size+1]?=some (.cells #[.slice none 0 0,.slice none 0 0,.slice none 0 0] 330):=by rw[bA];have:=aB (a.alloc (.cells (bx first).toArray 325)) (.cells #[.slice none 0 0,.slice none 0 0,.slice none 0 0] 330);rwa[bj]at this
 obtain⟨cG,b8⟩:=ar (Q.alloc (.map #[] 0));have h0:bp cG prog 325 Q.heap.size 0 (fun _=>none):=by rw[b8];exact bp.made Q _ _
 have b4:Below Q.heap.size Q cG:=by rw[b8];exact aG
 have h6:cG.heap.size=a.heap.size+3:=by rw[b8];simp[fo]
 have ns:cG.rangeAt a.heap.size 0 (bx first):=ol ((b4.block _ ad).trans fx);have cb:=tu (c9 _ c5);have cc:=Fv (c9 _ c5);have gu:=ah c9;obtain⟨o,e3,c8,aq,lx⟩:=h0.set qW BU bI (val:=.int .i64 0) cc cb;have bN:o.heap[a.heap.size]?=some (.cells (bx first).toArray 325):=(aq.block _ ad aR).trans ((b4.block _ ad).trans fx);have h9:o.heap[a.heap.size+1]?=some (.cells #[.slice none 0 0,.slice none 0 0,.slice none 0 0] 330):=(aq.block _ ad aR).trans ((b4.block _ ad).trans ia);have g9:Below a.heap.size a o:=oI ad (b3.trans (b4.mono ad)) aq (fun b x=>by injection x with x;omega);have R:o.heap.size=a.heap.size+3:=ad;have fd:=ol bN;obtain⟨ev,jd,io,ew,i9,i5,gl,gg,gr,jp⟩:=ju fo h6 hf hT hE hz hy c5 c8 bN;obtain⟨g3,gb,es⟩:=bH h9 g9 R;clear c9 b3 fo fx ia b4 h6 hf hT hE hz hy c5 cc cb h0 c8 aq bN h9 g9 lx R;have lb:= @l8 prog;go_enter func246,ntmps246
 go_wp2_with(first
  |(rw[<-bA];clear bA)
  |fail)
 go_step3
 go_wp2_with(first
  |(rw[<-b8];clear b8)
  |((with_reducible apply dj (ty:=325));exact rfl;exact rfl;exact rfl;assumption;exact mY;exact rfl;exact lL)
  |((with_reducible apply Fw);exact rfl;exact rfl;exact rfl)
  |fail)
 obtain⟨bd,bg⟩:=ar ((((o.alloc (.cells (bx first).toArray 325)).alloc (.cells #[.int .i64 0,.int .i64 0] 367)).alloc (.cells #[.slice (some ⟨o.heap.size,0,none⟩) 1 1,.slice none 0 0,.slice (some ⟨o.heap.size+1,0,none⟩) 1 1] 330)));rw[<-bg];have R:=es.o;have ha:Below o.heap.size o bd:=by rw[bg];exact(aG.alloc cL _).alloc cL _
 have fl:bd.heap.size=a.heap.size+6:=by rw[bg];simp only[bj];omega
 have hY:bd.heap[a.heap.size+3]?=some (.cells (bx first).toArray 325):=by rw[bg,<-R];exact(bk _ _ _ cL).trans ((bk _ _ _ cL).trans (aB o _))
 have f7:bd.heap[a.heap.size+4]?=some (.cells #[.int .i64 0,.int .i64 0] 367):=by have:=aB (o.alloc (.cells (bx first).toArray 325)) (.cells #[.int .i64 0,.int .i64 0] 367);rw[bj,R]at this;rw[bg];exact(bk _ _ _ cL).trans this
 have t7:bd.heap[a.heap.size+5]?=some (.cells #[.slice (some ⟨a.heap.size+3,0,none⟩) 1 1,.slice none 0 0,.slice (some ⟨a.heap.size+4,0,none⟩) 1 1] 330):=by have:=aB ((o.alloc (.cells (bx first).toArray 325)).alloc (.cells #[.int .i64 0,.int .i64 0] 367)) (.cells #[.slice (some ⟨o.heap.size,0,none⟩) 1 1,.slice none 0 0,.slice (some ⟨o.heap.size+1,0,none⟩) 1 1] 330);rw[bj,bj,R]at this;rw[bg,R];exact this
 have hD:=OU bd;rw[R];obtain⟨ea,cp,fN,fz,ga,i7⟩:=g6 fl ha hY f7 t7 hD;clear hD R ha fl hY f7 t7 bg e3 fd lb;refine i7.o.mono ?_;rintro x cF ⟨rfl,dr,hl⟩;rw[ea.o]at dr⊢;have ch:=Fl cF _ _ _ 0 0 dr ad;obtain⟨bZ,eg,eo⟩:=bH ch hl dr;clear ch hl dr;go_wp2_with fail
 refine bZ.o.mono ?_;rintro x js ⟨rfl,hP,hw⟩;have g5:cw a a [first] [first] 1 0 0 [] (.slice (some ⟨a.heap.size+3,0,none⟩) 1 1) (.slice none 0 0) (.slice (some ⟨a.heap.size+4,0,none⟩) 1 1) [] (.slice none 0 0) [] (.slice none 0 0) [] cF:=by
  have R:=es.o;have fl:=ea.o;have k5:a.heap.size+8<=cF.heap.size:=by obtain⟨_,_,_,_,_,Y,_⟩:=eo.o;exact Y.lowB
  have b5:∀b,b<a.heap.size+6->cF.heap[b]?=bd.heap[b]?:=fun b M=>eg.o.block b ad;refine⟨(gb.o.trans (cp.o.mono ad)).trans (eg.o.mono ad),k5,?_,(b5 _ ad).trans ga.o,(b5 _ ad).trans ((cp.o.block _ ad).trans g3.o),?_,dc _ _ _ _,⟨[.int .i64 0,.int .i64 0],rfl,.inr ⟨_,1,_,rfl,ad,(b5 _ ad).trans fz.o,az _,bI,rfl,rfl⟩⟩,
   dc _ _ _ _,dc _ _ _ _,rfl,(fun j v h5 H=>by simp at H),(fun v H=>by simp at H),(fun b H=>by cases H),eo.o⟩
  ·have av:=gr.o
   rw[ev.o]at av;exact kW.put (w:=o) (keys:=[]) (gu.o _ gg.o) (fun t O=>ak) ak (av.of_block ((b5 _ ad).trans (cp.o.block _ ad)))
  ·refine⟨rfl,.inr ⟨_,1,_,rfl,ad,(b5 _ ad).trans fN.o,az _,bI,rfl,?_⟩⟩
   simp[flatS];exact dh (by rw[qV];exact az _)
 have hU:Hid (z8 a L Inv A d first 256 js):=ah ⟨0,[first],[],_,_,_,[],a,rfl,rfl,g5.queue hw hP,bJ (aE _ _) _,io.o,fun s bB=>by simp at bB;subst bB;exact gg.o⟩;have g2:Hid (Q.heap.size=a.heap.size+2):=ev;clear g5 hP hw bZ eo eg ga fz fN cp ea gr jp g3 gb es jd;rw[g2.o];clear g2 ev;go_wp2_with fail
 go_step3
 go_wp2_with fail
 rw[show a.heap.size+3+1+1=a.heap.size+5 from rfl,show a.heap.size+6+1=a.heap.size+7 from rfl,show a.heap.size+3+1=a.heap.size+4 from rfl];go_loopg [] 256 (fun g wr=>z8 a L Inv A d first g wr)
 case atStart=>exact hU.out
 case round=>
 clear hU;obtain⟨n,keys,E,mo,nv,eE,h,jv,hn,O,p,c1,c0,cd⟩:=hrel;have i3:=ah hn;clear hn;have b7:=qU ad _ _ O;have k3:=b7.le;have k2:=b7.most;simp only at k3 k2;obtain⟨bE,cl,rfl⟩:=bL p.krow;obtain⟨no,C,rfl⟩:=bL p.nrow;obtain⟨W,T,rfl⟩:∃W T,eE=.slice W keys.length T:=by obtain⟨ys,e7⟩:=p.frow;exact bL e7
 by_cases c4:n=keys.length
 ·have bl:=p.q
  rw[<-c4]at bl;have ci:=OQ wr _ _ _ n bl;obtain⟨b1,ba,ic,b0,em,cq,G⟩:=zm ci p c4 O cd c0 c1;clear ci bl p b7 c4 O cd c0 c1;go_wp2_with fail
  refine b1.o.mono ?_;rintro x a7 ⟨rfl,cN⟩;obtain⟨a8,bo⟩:=ar (a7.alloc (.cells #[.int .i64 0] 372));have l:=(ba.o.below cN).below (w':=a8) (by rw[bo];exact aG);have bz:=ai 0 l.box;have eC:=ai 1 l.box;have jy:=ai 2 l.box;have d0:=ai 0 l.res;have d1:=ai 1 l.res;have d2:=ai 2 l.res;have f0:=aT l.res 0;have f1:=aT l.res 1;have f2:=aT l.res 2;have fT:=ah l;have m3:a7.heap.size≠a.heap.size+5:=by have:=(ba.o.below cN).size;omega
  have hc:a7.heap.size≠a.heap.size+1:=by have:=(ba.o.below cN).size;omega
  rw[bo]at bz eC jy d0 d1 d2 f0 f1 f2;have jj:=ah bo;clear l cN b1 ba bo;go_wp2_with fail
  rw[lp];rw[<-jj.o];have l:=fT.o;have S:(((a8.setCell ⟨a.heap.size+1,0,none⟩ (.slice bE keys.length cl)).setCell ⟨a.heap.size+1,1,none⟩ (.slice no h.length C)).setCell ⟨a.heap.size+1,2,none⟩ (.slice W keys.length T)).heap[a.heap.size+1]?=some (.cells #[.slice bE keys.length cl,.slice no h.length C,.slice W keys.length T] 330):=
   bn _ _ 2 _ (bn _ _ 1 _ (bn _ _ 0 _ l.res))
  obtain⟨r,bC⟩:=ar ((((a8.setCell ⟨a.heap.size+1,0,none⟩ (.slice bE keys.length cl)).setCell ⟨a.heap.size+1,1,none⟩ (.slice no h.length C)).setCell ⟨a.heap.size+1,2,none⟩ (.slice W keys.length T)));have c3:∀b,b≠a.heap.size+1->r.heap[b]?=a8.heap[b]?:=fun b M=>by rw[bC,aS _ _ _ _ _ M,aS _ _ _ _ _ M,aS _ _ _ _ _ M]
  have e6:∀{B x size n:Nat} {v:Value} {xs:List Value},x≠330->a8.ownsRow B x size v n xs->r.ownsRow B x size v n xs:=fun kl hH=>aP hH (fun g ca=>c3 g (fun j3=>gR hH l.res kl (by rw[ca,j3])));rw[<-bC]at S⊢;have e4:r.heap.size=a8.heap.size:=by rw[bC];simp only[dE]
  have F:Below a.heap.size jv r:=⟨by rw[bC];exact l.base.os,by rw[bC];exact l.base.tape,by rw[bC];exact l.base.output,by rw[e4];exact l.base.size,fun k eZ=>(c3 k ad).trans (l.base.block k eZ)⟩;have eV:a.grownBy r (some L):=⟨F.os.trans G.o.os,F.tape.trans G.o.tape,F.output.trans G.o.output,aJ G.o.size F.size,fun k y I=>(F.block k y).trans (G.o.block k y I)⟩;have eN:z7 a L Inv A d first (.returned (.tuple #[.agg #[.slice bE keys.length cl,.slice no h.length C,.slice W keys.length T],.bool true])) r:=
   ⟨⟨eV,ew.o _ _ cq.o F⟩,.inl ⟨n,keys,E,_,_,_,h,b0.o,ic.o.symm,em.o,rfl,⟨_,_,rfl⟩,e6 ap l.krow,e6 ap l.nrow,l.len,fun j v h5 y I=>e6 ap (l.done j v h5 y I)⟩⟩
  have e9:=ai 0 S;have fb:=ai 1 S;have fc:=ai 2 S;exact cg (v:=.tuple #[.agg #[.slice bE keys.length cl,.slice no h.length C,.slice W keys.length T],.bool true]) (by simp[results,results246,go_sem,e9,fb,fc,underlying330]) rfl eN
 ·have hC:n<keys.length:=ad
  obtain⟨s,bB⟩:∃s,keys[n]?=some s:=⟨_,aH hC⟩;obtain⟨hZ,rfl⟩:∃hZ,bE=some ⟨hZ,0,none⟩:=by
   rcases p.krow.2 with⟨y,I⟩|⟨g,cap,j2,D,_⟩
   ·omega
   ·injection D with D
    exact⟨_,D⟩
  have hR:A s:=cd s (aX bB);have ci:=OS wr _ _ _ n keys.length p.q hC ad;have nb:∀(args:Array Value) (h7:World),(callFunc 241 args).run prog h7=.ok (.enter 241 args) h7:=fun _ _=>rfl;have np:(0:Int)<=n:=ad;have nr:(n:Int)<keys.length:=ad;obtain⟨b1,ba,b0,em,cq,G,fT,er,gv⟩:=qM ci p O cd c0 c1 b7 bB hR;clear ci p b7 O cd c0 c1 bB hR c4;go_wp2_with fail
  refine b1.o.mono ?_;rintro x a7 ⟨rfl,hM,hv⟩;have ez:=ba.o.queue hv hM;obtain⟨a8,bo,g8,fv⟩:=cm a7 (.cells #[.int .i64 (n:Nat)] 372);have l:=ez.below g8;have bz:=ai 0 l.box;have mE:=ai 0 fv;have mv:=zZ l.krow er.o;have hg:=ew.o _ _ cq.o l.base;have hG:=i9.o s a8 gv.o hg (by have:=l.size;omega);obtain⟨gs,ed,ab⟩:=bH hG fv l;have kb:a.heap.size+8<=a7.heap.size:=ez.size;clear hG ez l g8 fv hM hv b1 ba hg;go_wp2_with(first|(rw[<-bo];clear bo)|((with_reducible apply dj (ty:=325));exact rfl;exact rfl;exact rfl;assumption;exact mY;exact rfl;exact lL)|fail)
  refine gs.o.mono ?_;rintro x r ⟨⟨nx,rfl,e5⟩,ao,hh⟩;obtain⟨fq,Z,rfl⟩:=bL e5;have g4:=ab.o.succs ao hF e5;have hi:a.grownBy r (some L):=⟨ao.os.trans (ab.o.base.os.trans G.o.os),ao.tape.trans (ab.o.base.tape.trans G.o.tape),ao.output.trans (ab.o.base.output.trans G.o.output),aJ G.o.size (aJ ab.o.base.size ao.size),fun k y I=>(ao.block k (by have:=ab.o.size;omega) I).trans ((ab.o.base.block k y).trans (G.o.block k y I))⟩;have fw:r.heap[a7.heap.size]?=some (.cells #[.int .i64 (n:Nat)] 372):=(ao.block _ (aU ed.o) (fun x=>by injection x with x;omega)).trans ed.o;have k4:=gl.o s;obtain⟨bu,fG⟩:=aD hi hh;obtain⟨X,hj⟩:=ar (a7.heap.size);rw[<-hj]at fw kb⊢;have hr:Hid (wS a r A d s n X keys E (.slice no h.length C) h (.slice fq (d s).length Z) (d s).length (.int .i64 0) (.slice none 0 0) r):=
   ah ⟨0,keys,[],_,_,rfl,rfl,aZ _,rfl,g4,fw,em.o⟩
  clear g4 e5 ao hh hi fw gs ed ab bz mE mv hj cq G
  go_wp2
  go_loopg [50,14] (d s).length (fun g e8 j4 mB=>wS a r A d s n X keys E (.slice no h.length C) h (.slice fq (d s).length Z) g e8 j4 mB)
  case atStart=>exact hr.out
  case round=>
  clear hr;obtain⟨j,ks,rs,mo,eE,ca,rfl,nc,D,p,c2,c6⟩:=hrel;obtain⟨a6,a5,rfl⟩:=bL p.krow;obtain⟨al,ag,rfl⟩:∃W T,eE=.slice W ks.length T:=by obtain⟨ys,e7⟩:=p.frow;exact bL e7
  obtain⟨go,gc,rfl⟩:=bL p.cur;have bt:=qU ad _ _ b0.o;have V:=wO bt.nodup bt.most _ _ _ rfl D;have ng:ks.length<=256:=V.most;have nd:keys.length<=ks.length:=V.pre.length_le;have k4:=gl.o s;have gf:=ah ca;have nk:rs.length<=64:=by have:=V.len;simp at this;omega
  by_cases k0:j=(d s).length
  ·subst k0
   rw[kH]at D;obtain⟨e8,kv,l0,l1,l2⟩:=cY O9;have hV:eL first 256 d (n+1)=some (ks,E++[rs]):=by
    show(eL first 256 d n).bind _=_
    rw[b0.o];simp only[x8,er.o,D,Option.map_some]
   have nl:h.length<=256:=by have y:=p.len;have I:=bt.len;have j5:=bt.le;simp only at I j5;omega
   have eC:=ai 1 p.box;have b3:Below wr.heap.size wr (wr.alloc (.cells #[.slice go rs.length gc] 125)):=aG;have ae:=p.below b3;have a2:=ae.nrow;have a1:=dK wr [.slice go rs.length gc] 125 _ rfl;have an:a.heap.size+3<=(wr.alloc (.cells #[.slice go rs.length gc] 125)).heap.size:=by have:=ae.size;omega
   have ii:Hid (∀e,(wr.alloc (.cells #[.slice go rs.length gc] 125)).grownBy e (Value.slice no h.length C).ownBlock->e.heap[a.heap.size+5]?=some (.cells #[.slice a6 ks.length a5,.slice no h.length C,.slice al ks.length ag] 330)):=fun e km=>(km.block _ (by have:=ae.size;omega) (ie ae.nrow ae.box ap)).trans ae.box;obtain⟨bb,cv,je⟩:=bH ae c6 hV;clear p c2 D V bt c6 ca ae b3 hV;go_wp2_with(first
    |(at_builtin;go_must (refine is _ rfl _ _ 172 rfl (a.heap.size+3) 125 e8 _ 1 24 underlying172 kv l0 l1 l2 rfl ad (.slice no h.length C) h.length h rfl a2 ⟨wr.heap.size,0,none⟩ 1 1 [.slice go rs.length gc] rfl rfl a1 (fun z P=>by simp at P;subst P;rfl) ad bI ad an _ rfl ?_);intro be bf bq a3 N bi ce;have eD:=ii.o bq N;have mc:=ai 1 eD;have hc:=aT eD 1;have af:=ah (bb.o.setNext N a3);clear a3 N bi a1 an a2 ce eD)
    |fail)
   have g7:cw a r ks ks ks.length (n+1) ks.length (E++[rs]) (.slice a6 ks.length a5) (.slice (some ⟨be,0,none⟩) (h.length+1) bf) (.slice al ks.length ag) (h++[.slice go rs.length gc]) (.slice none 0 0) [] (.slice none 0 0) [] (bq.setCell ⟨a.heap.size+5,1,none⟩ (.slice (some ⟨be,0,none⟩) (h.length+1) bf)):=
    {af.out with succ:=dc _ _ _ _,sgap:=fun b H=>by cases H}
   have b6:Hid (z8 a L Inv A d first (256-(n+1)) (bq.setCell ⟨a.heap.size+5,1,none⟩ (.slice (some ⟨be,0,none⟩) (h.length+1) bf))):=
    ah ⟨n+1,ks,E++[rs],_,_,_,_,r,rfl,je.o,g7,bu.o,fG.o,cv.o⟩
   clear g7 af mc hc eC;go_roundg(256-(n+1))
   case measure=>have:=i3.o;omega
   case rel=>exact b6.out
  ·have k1:j<(d s).length:=ad
   obtain⟨t,O⟩:∃t,(d s)[j]?=some t:=⟨_,aH k1⟩;have e2:A t:=i5.o s gv.o t (aX O);have c7:jz t:=gu.o _ e2;have jb:=ah e2;obtain⟨aa,rfl⟩:∃aa,fq=some ⟨aa,0,none⟩:=by
    rcases p.succ.2 with⟨y,I⟩|⟨g,cap,j2,D,_⟩
    ·omega
    ·injection D with D
     exact⟨_,D⟩
   have hW:eK 256 keys ((d s).take (j+1))=nI 256 (ks,rs) t:=by rw[bV,O];simp only[fF];rw[zX,D];rfl
   obtain⟨fu,a4,hb⟩:=dF wr (.cells #[.bool false,.int .u64 0,.int .u64 0,.int .u64 0,.int .u64 0,.int .u64 0,.int .u64 0,.int .u64 0,.int .u64 0,.int .u64 0,.int .u64 0,.int .u64 0,.int .u64 0,.int .u64 0,.int .u64 0,.int .u64 0,.int .u64 0] 325);have fr:fu.there wr.heap.size 0 17:=by rw[a4];exact jt (cs:=bx (false,0)) (ty:=325) (aB wr _) (az _)
   have fg:=zZ p.succ O;have l3:wr.heap.size<fu.heap.size:=by rw[a4];simp
   have kg:wr.heap.size≠a.heap.size+2:=by have:=p.size;omega
   have nm:(0:Int)<=j:=ad;have nn:(j:Int)<((d s).length:Int):=ad;have cb:=tu c7;have cc:=Fv c7;obtain⟨hX,hq,hs,ht,hu⟩:=cY pq;have ds:Hid (∀e,dU fu e wr.heap.size 0 (bx t)->cw a r ks ks ks.length (n+1) ks.length E (.slice a6 ks.length a5) (.slice no h.length C) (.slice al ks.length ag) h (.slice go rs.length gc) rs (.slice (some ⟨aa,0,none⟩) (d s).length Z) (d s) e/\e.heap[X]?=some (.cells #[.int .i64 (n:Nat)] 372)):=fun e j7=>by have M:=j7.below hb (az _);exact⟨p.below M,(M.block X (aU c2)).trans c2⟩
   obtain⟨ex,cv,en,el,ek⟩:=jJ hW c6 c7 cc cb;clear e2 p c2 D V bt hW c6 c7 cc cb O hb ca;by_cases a0:t∈ks
   ·have b2:Hid (eK 256 keys ((d s).take (j+1))=some (ks,rs++[mJ ks t])):=ah (by rw[ex.o];simp[nI,a0])
    obtain⟨q,bl⟩:=ar (mJ ks t);rw[<-bl]at b2;obtain⟨jc,cx⟩:=aD bl a0;clear bl a0;have co:Hid (∀e,cw a r ks ks ks.length (n+1) ks.length E (.slice a6 ks.length a5) (.slice no h.length C) (.slice al ks.length ag) h (.slice go rs.length gc) rs (.slice (some ⟨aa,0,none⟩) (d s).length Z) (d s) e->(Instr.lookup 389 (.map (some (a.heap.size+2))) (.agg (bx t).toArray) true).run prog e=.ok (.tuple #[.int .i64 (q:Nat),.bool true]) e):=fun e Y=>by obtain⟨f,av,b9⟩:=Y.map;have y:=av.look_ok qW BU (z:=.int .i64 0) aA el.o ek.o;rw[b9 t en.o,ay cx.o,<-jc.o]at y;exact y
    go_wp2_with(first
     |(rw[<-a4];clear a4)
     |((with_reducible apply dj (ty:=325));exact rfl;exact rfl;exact rfl;assumption;exact mY;exact rfl;exact lL)
     |(((with_reducible apply cQ (ty:=325));exact rfl;exact rfl;exact rfl;exact rfl;assumption;exact lL;exact pZ _);intro e J;have bF:=J.here;obtain⟨m,K⟩:=ds.o e J;have e1:=co.o e m;obtain⟨bb,bc,a2,an⟩:=Fx m K q;have a1:=dK e [.int .i64 (q:Nat)] 3 _ rfl;clear fr fg m K J)
     |(at_builtin;go_must (refine is _ rfl _ _ 125 rfl (a.heap.size+3) 3 hX _ 1 8 mR hq hs ht hu rfl ad (.slice go rs.length gc) rs.length (fi rs) rfl a2 ⟨e.heap.size,0,none⟩ 1 1 [.int .i64 (q:Nat)] rfl rfl a1 (fun z P=>by simp at P;subst P;rfl) ad bI ad an _ rfl ?_);intro be bf bq a3 N bi ce;have af:=bb.o.goes N a3 bi;have fy:=ah ((N.block X (aU bc.o) (ie bb.o.cur bc.o ap)).trans bc.o);have eb:=ah af;clear af a3 N bi a1 an a2 ce)
     |fail)
    have b6:Hid (wS a r A d s n X keys E (.slice no h.length C) h (.slice (some ⟨aa,0,none⟩) (d s).length Z) ((d s).length-(j+1)) (.int .i64 ((j:Int)+1)) (.slice (some ⟨be,0,none⟩) (rs.length+1) bf) bq):=
     ah ⟨j+1,ks,rs++[q],_,_,rfl,rfl,ad,b2.o,eb.o,fy.out,cv.o⟩
    go_roundg((d s).length-(j+1))
    case measure=>have:=gf.o;omega
    case rel=>exact b6.out
   ·have cx:=ah a0
    have co:Hid (∀e,cw a r ks ks ks.length (n+1) ks.length E (.slice a6 ks.length a5) (.slice no h.length C) (.slice al ks.length ag) h (.slice go rs.length gc) rs (.slice (some ⟨aa,0,none⟩) (d s).length Z) (d s) e->(Instr.lookup 389 (.map (some (a.heap.size+2))) (.agg (bx t).toArray) true).run prog e=.ok (.tuple #[.int .i64 0,.bool false]) e):=fun e Y=>by obtain⟨f,av,b9⟩:=Y.map;have y:=av.look_ok qW BU (z:=.int .i64 0) aA el.o ek.o;rw[b9 t en.o,au cx.o]at y;exact y
    by_cases eU:256<=ks.length
    ·have ji:Hid (eK 256 keys ((d s).take (j+1))=none):=ah (by rw[ex.o];simp[nI,a0,eU])
     have hm:(256:Int)<=ks.length:=ad;clear a0;go_wp2_with(first
      |(rw[<-a4];clear a4)
      |((with_reducible apply dj (ty:=325));exact rfl;exact rfl;exact rfl;assumption;exact mY;exact rfl;exact lL)
      |(((with_reducible apply cQ (ty:=325));exact rfl;exact rfl;exact rfl;exact rfl;assumption;exact lL;exact pZ _);intro e J;have bF:=J.here;obtain⟨m,K⟩:=ds.o e J;have e1:=co.o e m;have bz:=ai 0 m.box;have d0:=ai 0 m.res;have d1:=ai 1 m.res;have d2:=ai 2 m.res;have f0:=aT m.res 0;have f1:=aT m.res 1;have f2:=aT m.res 2;have ip:=ah m;clear fr fg m K J)
      |fail)
     rw[lp];have m:=ip.o;have S:(((e.setCell ⟨a.heap.size+1,0,none⟩ (.slice none 0 0)).setCell ⟨a.heap.size+1,1,none⟩ (.slice none 0 0)).setCell ⟨a.heap.size+1,2,none⟩ (.slice none 0 0)).heap[a.heap.size+1]?=some (.cells #[.slice none 0 0,.slice none 0 0,.slice none 0 0] 330):=
      bn _ _ 2 _ (bn _ _ 1 _ (bn _ _ 0 _ m.res))
     obtain⟨a9,bD⟩:=ar ((((e.setCell ⟨a.heap.size+1,0,none⟩ (.slice none 0 0)).setCell ⟨a.heap.size+1,1,none⟩ (.slice none 0 0)).setCell ⟨a.heap.size+1,2,none⟩ (.slice none 0 0)));have c3:∀b,b≠a.heap.size+1->a9.heap[b]?=e.heap[b]?:=fun b M=>by rw[bD,aS _ _ _ _ _ M,aS _ _ _ _ _ M,aS _ _ _ _ _ M]
     rw[<-bD]at S⊢;have e4:a9.heap.size=e.heap.size:=by rw[bD];simp only[dE]
     have F:Below a.heap.size r a9:=⟨by rw[bD];exact m.base.os,by rw[bD];exact m.base.tape,by rw[bD];exact m.base.output,by rw[e4];exact m.base.size,fun k eZ=>(c3 k ad).trans (m.base.block k eZ)⟩;have eV:a.grownBy a9 (some L):=⟨F.os.trans bu.o.os,F.tape.trans bu.o.tape,F.output.trans bu.o.output,aJ bu.o.size F.size,fun k y I=>(F.block k y).trans (bu.o.block k y I)⟩;have lc:eK 256 keys (d s)=none:=by have:=Pa (b:=(d s).drop (j+1)) ji.o;rwa[mQ]at this
     have eN:z7 a L Inv A d first (.returned (.tuple #[.agg #[.slice none 0 0,.slice none 0 0,.slice none 0 0],.bool false])) a9:=
      ⟨⟨eV,ew.o _ _ fG.o F⟩,.inr ⟨n,keys,E,s,b0.o,er.o,lc,rfl⟩⟩
     have e9:=ai 0 S;have fb:=ai 1 S;have fc:=ai 2 S;exact cg (v:=.tuple #[.agg #[.slice none 0 0,.slice none 0 0,.slice none 0 0],.bool false]) (by simp[results,results246,go_sem,e9,fb,fc,underlying330]) rfl eN
    ·have b2:Hid (eK 256 keys ((d s).take (j+1))=some (ks++[t],rs++[ks.length])):=ah (by rw[ex.o];simp[nI,a0,eU])
     have hm:(ks.length:Int)<256:=ad;clear a0;obtain⟨l7,kp,ly,lF,lP⟩:=cY z6;obtain⟨l5,ko,lg,lo,ls⟩:=cY O8;have ib:Hid (∀e,cw a r ks ks ks.length (n+1) ks.length E (.slice a6 ks.length a5) (.slice no h.length C) (.slice al ks.length ag) h (.slice go rs.length gc) rs (.slice (some ⟨aa,0,none⟩) (d s).length Z) (d s) e->e.heap[X]?=some (.cells #[.int .i64 (n:Nat)] 372)->∀bw,e.rangeAt bw 0 (bx t)->bw<e.heap.size->bw≠a.heap.size+2->
      ∃o,(Instr.mapUpdate 389 (.map (some (a.heap.size+2))) (.agg (bx t).toArray) (.int .i64 (ks.length:Nat))).run prog e=.ok () o/\
       cw a r (ks++[t]) ks ks.length (n+1) ks.length E (.slice a6 ks.length a5) (.slice no h.length C) (.slice al ks.length ag) h (.slice go rs.length gc) rs (.slice (some ⟨aa,0,none⟩) (d s).length Z) (d s) o/\o.heap[X]?=some (.cells #[.int .i64 (n:Nat)] 372)/\o.rangeAt bw 0 (bx t)):=fun e Y K bw bF kc na=>by
      obtain⟨f,av,b9⟩:=Y.map;obtain⟨o,lv,c8,aq,_⟩:=av.set qW BU bI (val:=.int .i64 (ks.length:Nat)) el.o ek.o;obtain⟨m1,c,j6⟩:=Y.map.block;exact⟨o,lv,Y.mapPut aq (kW.put (w:=e) en.o b9 cx.o c8),(aq.block X (aU K) (fun x=>by injection x with x;rw[x,j6]at K;cases K)).trans K,fun i v D=>(aq.cell_far ⟨bw,0+i,none⟩ kc aR).trans (bF i v D)⟩
     go_wp2_with(first
      |(rw[<-a4];clear a4)
      |(rw[<-g1.o];clear g1)
      |(rw[<-g0.o];clear g0)
      |((with_reducible apply dj (ty:=325));exact rfl;exact rfl;exact rfl;assumption;exact mY;exact rfl;exact lL)
      |((with_reducible apply Fw);exact rfl;exact rfl;exact rfl)
      |(((with_reducible apply cQ (ty:=325));exact rfl;exact rfl;exact rfl;exact rfl;assumption;exact lL;exact pZ _);intro e J;have bF:=J.here;obtain⟨m,K⟩:=ds.o e J;have e1:=co.o e m;have bz:=ai 0 m.box;obtain⟨o,e3,eB,bN,fd⟩:=ib.o e m K wr.heap.size bF (by rw[J.size];exact l3) kg;have j0:=ai 0 eB.box;obtain⟨iT,i2,hL,he⟩:=Pb eB bN t;have hB:=dK o (bx t) 325 _ rfl;clear fr fg m K eB bN J)
      |(at_builtin;first
       |(refine is _ rfl _ _ 326 rfl (a.heap.size+3) 325 l7 _ 17 136 IR kp ly lF lP rfl ad (.slice a6 ks.length a5) ks.length (flatS ks) rfl hL ⟨o.heap.size,0,none⟩ 1 1 (bx t) rfl rfl hB (pZ t) ad bI ad he _ rfl ?_;intro m4 m6 nP hJ hp hk la;obtain⟨mm,f80,a9,g1,iv,i0,j1,mG⟩:=Pc iT.o i2.o hp hJ hk;obtain⟨iw,i1,⟨m0,hK⟩,hd⟩:=Pe iv.o i0.o j;have hA:=dK a9 [.int .i64 (n:Nat),.int .i64 (j:Nat)] 367 _ rfl;clear hL he hB hJ hp hk la bF fd e3 e1 bz j0)
       |(refine is _ rfl _ _ 299 rfl (a.heap.size+3) 367 l5 _ 2 16 underlying299 ko lg lo ls rfl ad (.slice al ks.length ag) ks.length m0 rfl hK ⟨a9.heap.size,0,none⟩ 1 1 [.int .i64 (n:Nat),.int .i64 (j:Nat)] rfl rfl hA (fun z P=>by simp at P;rcases P with rfl|rfl<;>rfl) ad bI ad hd _ rfl ?_;intro m2 m5 nz hI ho kk k7;obtain⟨md,f102,mw,g0,cu,ec⟩:=Pf iw.o i1.o ho hI;clear hK hd hA hI ho kk k7 j1 mG mm f80))
      |fail)
     have ch:=Fl mw _ _ _ (n+1) ks.length cu.o.q ad;have hS:=cu.o.cell_sq ec.o ap ap ad;obtain⟨bZ,gG⟩:=aD ch hS;clear ch hS md f102;refine bZ.o.mono ?_;rintro x fs ⟨rfl,hN,e0⟩;have eA:=cu.o.queue e0 hN;have h8:fs.heap[X]?=some (.cells #[.int .i64 (n:Nat)] 372):=(e0.kp.same X gG.o).2.trans ec.o;have hx:ks.length+1=(ks++[t]).length:=ak;rw[hx]at eA;obtain⟨q,hQ⟩:=ar (ks.length);rw[<-hQ]at b2⊢;obtain⟨bb,bc,a2,an⟩:=Fx eA h8 q;have a1:=dK fs [.int .i64 (q:Nat)] 3 _ rfl;have i4:Hid (∀u∈ks++[t],A u):=ah fun u lU=>by
      rcases fA.1 lU with H|H
      ·exact cv.o u H
      ·simp at H;subst H;exact jb.o
     clear eA h8 hN e0 bZ cu ec gG hx hQ hm eU;go_wp2_with(first
      |(at_builtin;(refine is _ rfl _ _ 125 rfl (a.heap.size+3) 3 hX _ 1 8 mR hq hs ht hu rfl ad (.slice go rs.length gc) rs.length (fi rs) rfl a2 ⟨fs.heap.size,0,none⟩ 1 1 [.int .i64 (q:Nat)] rfl rfl a1 (fun z P=>by simp at P;subst P;rfl) ad bI ad an _ rfl ?_;intro be bf bq a3 N bi ce;have af:=bb.o.goes N a3 bi;have fy:=ah ((N.block X (aU bc.o) (ie bb.o.cur bc.o ap)).trans bc.o);have eb:=ah af;clear af a3 N bi a1 an a2 ce))
      |fail)
     have b6:Hid (wS a r A d s n X keys E (.slice no h.length C) h (.slice (some ⟨aa,0,none⟩) (d s).length Z) ((d s).length-(j+1)) (.int .i64 ((j:Int)+1)) (.slice (some ⟨be,0,none⟩) (rs.length+1) bf) bq):=
      ah ⟨j+1,ks++[t],rs++[q],_,_,rfl,rfl,ad,b2.o,eb.o,fy.out,i4.o⟩
     go_roundg((d s).length-(j+1))
     case measure=>have:=gf.o;omega
     case rel=>exact b6.out
def ofN(l:List aj)(x:Bytes):Nat->Nat
 |0=>0
 |n+1=>match l[n]? with
  |none=>ofN l x n
  |some a=>if a.op=2/\a.sym=x then ofN l x n|||dq [n]else ofN l x n
def eM(l:List aj):Nat->Nat
 |0=>0
 |n+1=>match l[n]? with
  |none=>eM l n
  |some a=>if a.op=2/\(dJ (aQ l (l.length-1))).testBit n=true then eM l n|||dq [n]else eM l n
def df(l:List aj)(b:Bool)(ps:List Nat):Nat:=ps.foldl (fun c p=>c|||dq (aC (cK l p))) (if b then dq (aC (cE (aQ l (l.length-1))))else 0)
def cB(l:List aj)(a:List Bytes)(s:St):List St:=a.map fun x=>(false,df l s.1 (aC s.2)&&&ofN l x l.length)
def kX(l:List aj)(s:St):Bool:=(s.1&&(factN l (l.length-1)).empty)|| !(s.2&&&eM l l.length==0)
def lM(l:List aj)(s:St):Prop:=jz s/\∀p,s.2.testBit p=true->∃a,l[p]?=some a/\a.op=2
theorem iA{m p:Nat}(a:p∈aC m):p<64/\m.testBit p=true:=by unfold aC at a;rw[nR,gt]at a;exact a
theorem tA{ps:List Nat}(a:∀p∈ps,p<64):dq ps<18446744073709551616:=Ey a 0 ad
theorem qY(ps:List Nat)(j:Nat):(dq ps).testBit j=decide (j∈ps):=by unfold dq;rw[Nl];simp
theorem Ab{a b:Nat}(c:a<18446744073709551616)(k:b<18446744073709551616):a|||b<18446744073709551616:=AT (n:=64) c k
theorem tC{a b:Nat}(k:b<18446744073709551616):a&&&b<18446744073709551616:=Ie IK k
theorem lN(l:List aj)(x:Bytes):∀n,n<=64->ofN l x n<18446744073709551616
 |0,_=>by unfold ofN;omega
 |n+1,b=>by
  unfold ofN;split
  ·exact lN l x n ad
  ·split
   ·exact Ab (lN l x n ad) (tA (fun p a=>by simp at a;omega))
   ·exact lN l x n ad
theorem nJ(l:List aj)(x:Bytes)(p:Nat):∀n,(ofN l x n).testBit p=true->p<n/\∃c,l[p]?=some c/\c.op=2/\c.sym=x
 |0,a=>by simp[ofN]at a
 |n+1,a=>by
  unfold ofN at a;split at a
  ·obtain⟨d,b⟩:=nJ l x p n a
   exact⟨ad,b⟩
  ·rename_i c f
   split at a
   ·rename_i e
    rw[oY,qY]at a;rcases di _ _▸a with a|a
    ·obtain⟨d,b⟩:=nJ l x p n a
     exact⟨ad,b⟩
    ·simp at a
     subst a;exact⟨ad,c,f,e⟩
   ·obtain⟨d,b⟩:=nJ l x p n a
    exact⟨ad,b⟩
theorem tD(l:List aj):∀n,n<=64->eM l n<18446744073709551616
 |0,_=>by unfold eM;omega
 |n+1,b=>by
  unfold eM;split
  ·exact tD l n ad
  ·split
   ·exact Ab (tD l n ad) (tA (fun p a=>by simp at a;omega))
   ·exact tD l n ad
theorem tE(m:Nat):dq (aC m)<18446744073709551616:=tA (fun p a=>(iA a).1)
theorem oK(l:List aj)(b:Bool)(ps:List Nat):df l b ps<18446744073709551616:=by
 unfold df;have a:(if b then dq (aC (cE (aQ l (l.length-1))))else 0)<18446744073709551616:=by
  split
  ·exact tE _
  ·omega
 generalize(if b then dq (aC (cE (aQ l (l.length-1))))else 0)=c at a;induction ps generalizing c with
 |nil=>exact a
 |cons p ps ih=>exact ih _ (Ab a (tE _))
theorem wW(l:List aj)(b:Bool)(ps:List Nat)(p:Nat):df l b (ps++[p])=df l b ps|||dq (aC (cK l p)):=by unfold df;rw[List.foldl_append];rfl
theorem Ac(l:List aj):lM l (true,0):=⟨by unfold jz;show(0:Nat)<_;omega,fun p a=>by simp at a⟩
theorem Pn{l:List aj}{f:List Bytes}(g:l.length<=60){s t:St}(a:t∈cB l f s):lM l t:=by unfold cB at a;rw[fH]at a;obtain⟨x,_,rfl⟩:=a;refine⟨tC (lN l x _ ad),fun p b=> ?_⟩;simp only[mP,cS]at b;obtain⟨_,e,c,d,_⟩:=nJ l x p _ b.2;exact⟨e,c,d⟩
end Go.Proofs.YtnadadbndcdolaaGreatDoor
