import Derived.Test.YtfeidcmojcijpaaGreatDoorQba
import Derived.Test.YtfeidcmojcijpaaGreatDoorQbb
set_option linter.all false
set_option maxRecDepth 100000
set_option maxHeartbeats 0
namespace Go.Proofs.YtfeidcmojcijpaaGreatDoor
open Go.RowKit Tryz
def BQ:(prog.info? 239).map (fun i=>(i.zero,i.size,i.bytes))=some (some (.agg #[.bool false,.int .u64 0,.int .u64 0,.int .u64 0,.int .u64 0,.int .u64 0,.int .u64 0,.int .u64 0,.int .u64 0,.int .u64 0,.int .u64 0,.int .u64 0,.int .u64 0,.int .u64 0,.int .u64 0,.int .u64 0,.int .u64 0]),17,136):=az
def RT:(prog.info? 296).map (fun i=>(i.zero,i.size,i.bytes))=some (some (.agg #[.int .i64 0,.int .i64 0]),2,16):=az
def BS:(prog.info? 41).map (fun i=>(i.zero,i.size,i.bytes))=some (some (.slice none 0 0),1,24):=az
def bV.set{w:World}{P:Program}{k:TypeId}{a n:Nat}{f:Lit->Option Value}(m:bV w P k a n f){t e:TypeId}(c:Maps.Keyed P k)(l:P.underlying t=some (.map k e))(i:n<maxLen){key val:Value}{kl:Lit}(p:WideAt.IsKeyLit kl)(h:keyOf P k key=some kl):
 ∃w',(Instr.mapUpdate t (.map (some a)) key val).run P w=.ok () w'/\bV w' P k a (n+1) (il f kl val)/\w.grownBy w' (some a)/\w'.heap.size=w.heap.size:=by
 obtain⟨D,g,q,r⟩:=m;obtain⟨w',j,v,x⟩:=g.update c l i h (d:=.held val) (ps:=[]) (val:=val) rfl;refine⟨w',j,bV.put_of p q r v,x,?_⟩;obtain⟨z,clock,o,F,s,rfl⟩:=g;obtain⟨A,y,b,_⟩:=Maps.fit_store (R':=rH) c l o F (Ki s i) (fun _ _ _ _ u=>u) (val:=val) h rfl;rw[j]at b;injection b with _ b
 rw[b];simp[ChangeMaps.setBlock]
def yG(s:St)(w:World):(Instr.buildSlice 240 1 #[(0,.agg (bx s).toArray)]).run prog w=.ok (.slice (some ⟨w.heap.size,0,none⟩) 1 1) (w.alloc (.cells (bx s).toArray 239)):=by obtain⟨b,m⟩:=s;kernel_rfl
def G1{c:Array Oper}{rest:List Oper}{b:Oper}{a:Act}{w:World}{Q:Exit->Act->World->Prop}(s:St)(g:b.guard=none)(y:Operand)(h:b.op=.buildSlice 240 1 #[(0,y)])(i:a.eval y=.agg (bx s).toArray)
 (d:wpList prog c Q rest (a.put b.dst (.slice (some ⟨w.heap.size,0,none⟩) 1 1)) (w.alloc (.cells (bx s).toArray 239))):wpList prog c Q (b::rest) a w:=
 wpList_plain g fun _ f=>by
  unfold Oper.wp execOp;simp only[h,Dq,wR,Dr];have e:(#[(0,y)]:Array (Nat×Operand)).map (fun p=>(p.1,a.eval p.2))=#[(0,.agg (bx s).toArray)]:=by simp[i]
  rw[e,yG];exact f _ _ d
def yH(a:Nat)(Inv:World->Prop)(nx:St->List St)(s:St)(w:World)(e:Ending)(w':World):Prop:=
 (∃v,e=.returned v/\w'.ownsRow w.heap.size 239 17 v (nx s).length (flatS (nx s)))/\w.grownBy w' (some a)/\Inv w'
def BT(b:World)(g:Nat)(Inv:World->Prop)(h:St->Prop)(nx:St->List St)(first:St)(e:Ending)(w':World):Prop:=
 (b.grownBy w' (some g)/\Inv w')/\
 ((∃n keys a f nv d c,fR first 256 nx n=some (keys,a)/\keys.length=n/\(∀s∈keys,h s)/\e=.returned (.tuple #[.agg #[f,nv,d],.bool true])/\(∃l i,d=.slice l keys.length i)/\w'.ownsRow (b.heap.size+3) 239 17 f keys.length (flatS keys)/\w'.ownsRow (b.heap.size+3) 41 1 nv c.length c/\c.length=a.length/\
    ∀(j:Nat) (v:Value) (r:List Nat),c[j]?=some v->a[j]?=some r->bW w' (b.heap.size+3) v r)∨
  (∃n keys a k,fR first 256 nx n=some (keys,a)/\keys[n]?=some k/\eu 256 keys (nx k)=none/\e=.returned (.tuple #[.agg dx,.bool false])))
def BU(b:World)(d:Nat)(Inv:World->Prop)(e:St->Prop)(nx:St->List St)(first:St)(g:Nat)(wr:World):Prop:=
 ∃n keys c h nv f i a,g=256-n/\fR first 256 nx n=some (keys,c)/\cU b a keys keys keys.length n keys.length c h nv f i (.slice none 0 0) [] (.slice none 0 0) [] wr/\b.grownBy a (some d)/\Inv a/\∀s∈keys,e s
def RU{most:Nat}{keys a b:List St}(c:eu most keys a=none):eu most keys (a++b)=none:=by unfold eu at*;rw[KX,c];rfl
def RV{a f w:World}{l c:List St}{fn m o:Nat}{p:List (List Nat)}{e nv g:Value}{s:List Value}{i:Value}{h:List Nat}{r:Value}{q:List St}{X n:Nat}(u:cU a f l c fn m o p e nv g s i h r q w)(j:w.heap[X]?=some (.cells #[.int .i64 (n:Nat)] 301))(t:St):
 Hid (cU a f l c fn m o p e nv g s i h r q (w.alloc (.cells (bx t).toArray 239)))/\Hid ((w.alloc (.cells (bx t).toArray 239)).heap[X]?=some (.cells #[.int .i64 (n:Nat)] 301))/\
 (w.alloc (.cells (bx t).toArray 239)).ownsRow (a.heap.size+3) 239 17 e c.length (flatS c)/\a.heap.size+3<=(w.alloc (.cells (bx t).toArray 239)).heap.size:=by
 have b:Below w.heap.size w (w.alloc (.cells (bx t).toArray 239)):=aP;have d:=u.O b;exact⟨ah d,ah ((b.J _ (aS j)).Z j),d.zi,by have:=d.size;omega⟩
def RW{a q w f:World}{t b:List St}{fn u v:Nat}{x:List (List Nat)}{h nv j:Value}{A:List Value}{s:Value}{r:List Nat}{z:Value}{y:List St}{X n c gc:Nat}{k:St}(d:cU a q t b fn u v x h nv j A s r z y w)(m:w.heap[X]?=some (.cells #[.int .i64 (n:Nat)] 301))
 (l:w.grownBy f h.ownBlock) (D:f.ownsRow (a.heap.size+3) 239 17 (.slice (some ⟨c,0,none⟩) (b.length+1) gc) (b.length+1) (flatS b++bx k)) (C:h.ownBlock=some c∨c=w.heap.size):
 f.cell? ⟨a.heap.size+5,0,none⟩=some h/\f.frozen? ⟨a.heap.size+5,0,none⟩=false/\∃g,Hid (g=f.setCell ⟨a.heap.size+5,0,none⟩ (.slice (some ⟨c,0,none⟩) (b.length+1) gc))/\
  Hid (cU a q t (b++[k]) fn u v x (.slice (some ⟨c,0,none⟩) (b.length+1) gc) nv j A s r z y g)/\Hid (g.heap[X]?=some (.cells #[.int .i64 (n:Nat)] 301))/\g.cell? ⟨a.heap.size+5,2,none⟩=some j/\g.cell? ⟨X,0,none⟩=some (.int .i64 (n:Nat)):=by
 have i:=(l.J _ (aQ d.size) (jn d.zi d.box aq)).Z d.box;have o:=(l.J _ (aS m) (jn d.zi m aq)).Z m;have p:=d.setKeys l D C;have B:(f.setCell ⟨a.heap.size+5,0,none⟩ (.slice (some ⟨c,0,none⟩) (b.length+1) gc)).heap[X]?=some (.cells #[.int .i64 (n:Nat)] 301):=(aU _ _ _ _ _ (fun e=>by rw[e,i]at o;cases o)).Z o;exact⟨ak 0 i,aJ i 0,_,ah rfl,ah p,ah B,ak 2 p.box,ak 0 B⟩
def RX{a e w:World}{l i:List St}{fn o p:Nat}{q:List (List Nat)}{m nv d:Value}{t:List Value}{g:Value}{f:List Nat}{s:Value}{r:List St}{X n:Nat}(u:cU a e l i fn o p q m nv d t g f s r w)(h:w.heap[X]?=some (.cells #[.int .i64 (n:Nat)] 301))(j:Nat):
 Hid (cU a e l i fn o p q m nv d t g f s r (w.alloc (.cells #[.int .i64 (n:Nat),.int .i64 (j:Nat)] 296)))/\Hid ((w.alloc (.cells #[.int .i64 (n:Nat),.int .i64 (j:Nat)] 296)).heap[X]?=some (.cells #[.int .i64 (n:Nat)] 301))/\
 (∃ys,(w.alloc (.cells #[.int .i64 (n:Nat),.int .i64 (j:Nat)] 296)).ownsRow (a.heap.size+3) 296 2 d fn ys)/\a.heap.size+3<=(w.alloc (.cells #[.int .i64 (n:Nat),.int .i64 (j:Nat)] 296)).heap.size:=by
 have b:Below w.heap.size w (w.alloc (.cells #[.int .i64 (n:Nat),.int .i64 (j:Nat)] 296)):=aP;have c:=u.O b;exact⟨ah c,ah ((b.J _ (aS h)).Z h),c.frow,by have:=c.size;omega⟩
def RY{a m w b:World}{s r:List St}{fn u v:Nat}{x:List (List Nat)}{t nv g:Value}{A:List Value}{p:Value}{o:List Nat}{z:Value}{y:List St}{X n d gc:Nat}{zs:List Value}(c:cU a m s r fn u v x t nv g A p o z y w)(i:w.heap[X]?=some (.cells #[.int .i64 (n:Nat)] 301))
 (h:w.grownBy b g.ownBlock) (C:b.ownsRow (a.heap.size+3) 296 2 (.slice (some ⟨d,0,none⟩) (fn+1) gc) (fn+1) zs):
 b.cell? ⟨a.heap.size+5,2,none⟩=some g/\b.frozen? ⟨a.heap.size+5,2,none⟩=false/\∃j,Hid (j=b.setCell ⟨a.heap.size+5,2,none⟩ (.slice (some ⟨d,0,none⟩) (fn+1) gc))/\
  Hid (cU a m s r (fn+1) u v x t nv (.slice (some ⟨d,0,none⟩) (fn+1) gc) A p o z y j)/\Hid (j.heap[X]?=some (.cells #[.int .i64 (n:Nat)] 301)):=by
 obtain⟨ys,q⟩:=c.frow;have f:=(h.J _ (aQ c.size) (jn q c.box aq)).Z c.box;have l:=(h.J _ (aS i) (jn q i aq)).Z i;have B:=c.setFrom h C;have D:(b.setCell ⟨a.heap.size+5,2,none⟩ (.slice (some ⟨d,0,none⟩) (fn+1) gc)).heap[X]?=some (.cells #[.int .i64 (n:Nat)] 301):=(aU _ _ _ _ _ (fun e=>by rw[e,f]at l;cases l)).Z l;exact⟨ak 2 f,aJ f 2,_,ah rfl,ah B,ah D⟩
def G2{a f w:World}{j i:List St}{fn m o:Nat}{p:List (List Nat)}{l nv g:Value}{t:List Value}{e:Value}{c:List Nat}{s:Value}{r:List St}{X n:Nat}(u:cU a f j i fn m o p l nv g t e c s r w)(h:w.heap[X]?=some (.cells #[.int .i64 (n:Nat)] 301))(q:Nat):
 Hid (cU a f j i fn m o p l nv g t e c s r (w.alloc (.cells #[.int .i64 (q:Nat)] 3)))/\Hid ((w.alloc (.cells #[.int .i64 (q:Nat)] 3)).heap[X]?=some (.cells #[.int .i64 (n:Nat)] 301))/\
 (w.alloc (.cells #[.int .i64 (q:Nat)] 3)).ownsRow (a.heap.size+3) 3 1 e c.length (fB c)/\a.heap.size+3<=(w.alloc (.cells #[.int .i64 (q:Nat)] 3)).heap.size:=by
 have b:Below w.heap.size w (w.alloc (.cells #[.int .i64 (q:Nat)] 3)):=aP;have d:=u.O b;exact⟨ah d,ah ((b.J _ (aS h)).Z h),d.cur,by have:=d.size;omega⟩
def yI(b m:World)(a:St->Prop)(nx:St->List St)(s:St)(n X:Nat)(keys:List St)(h:List (List Nat))(nv:Value)(l:List Value)(i:Value)(g:Nat)(e d:Value)(wr:World):Prop:=
 ∃j ks rs f c,g=(nx s).length-j/\e=.int .i64 (j:Nat)/\j<=(nx s).length/\eu 256 keys ((nx s).take j)=some (ks,rs)/\cU b m ks ks ks.length (n+1) ks.length h f nv c l d rs i (nx s) wr/\
  wr.heap[X]?=some (.cells #[.int .i64 (n:Nat)] 301)/\∀t∈ks,a t
def RZ(a:World)(G:Nat)(Inv:World->Prop)(x:St->Prop)(nx:St->List St)(first:St)(d h l m:Value)(hF:G<a.heap.size)(F:Inv a)(M:∀w w',Inv w->Below a.heap.size w w'->Inv w')
 (A:∀s,x s->Low s) (K:∀s w,x s->Inv w->a.heap.size<=w.heap.size->Calls prog 154 #[.agg (bx s).toArray,d,h,l,m] w (yH G Inv nx s w))
 (y:x first) (J:∀s,x s->∀t∈nx s,x t) (H:∀s,(nx s).length<=64):
 Calls prog 159 #[.agg (bx first).toArray,.int .i64 256,.func (.func 154) #[] #[d,h,l,m]] a (BT a G Inv x nx first):=by
 obtain⟨h,l⟩:=am ((a.alloc (.cells (bx first).toArray 239)).alloc (.cells dx 246));have bc:Below a.heap.size a h:=by rw[l];exact aP.alloc aj _
 have B:h.heap.size=a.heap.size+2:=by rw[l];simp
 have C:h.heap[a.heap.size]?=some (.cells (bx first).toArray 239):=by rw[l];exact(br _ _ _ aj).Z (aN a _)
 have Z:h.heap[a.heap.size+1]?=some (.cells dx 246):=by rw[l];have:=aN (a.alloc (.cells (bx first).toArray 239)) (.cells dx 246);rwa[bP]at this
 obtain⟨d,p⟩:=am (h.alloc (.map #[] 0));have N:bV d prog 239 h.heap.size 0 (fun _=>none):=by rw[p];exact bV.made h _ _
 have o:=kj p;have O:d.heap.size=a.heap.size+3:=by rw[p];simp[B]
 have m:d.rangeAt a.heap.size 0 (bx first):=pX ((o.J _ ad).Z C);have bi:=vm (A _ y);have bl:=G0 (A _ y);have c9:=ah A;obtain⟨m,cu,b3,S,gv⟩:=N.set tw DE bO (val:=.int .i64 0) bl bi;have a7:m.heap[a.heap.size]?=some (.cells (bx first).toArray 239):=(S.J _ ad aO).Z ((o.J _ ad).Z C);have T:m.heap[a.heap.size+1]?=some (.cells dx 246):=(S.J _ ad aO).Z ((o.J _ ad).Z Z);have D:Below a.heap.size a m:=qf ad (bc.Z (o.zz ad)) S (fun b e=>by injection e with e;omega);have d:m.heap.size=a.heap.size+3:=ad;have cP:=pX a7;obtain⟨I,fq,e3,cb,fl,fg,c7,Q,R,fu⟩:=jB B O F M K J H y b3 a7;obtain⟨W,P,E⟩:=bm T D d;clear A bc B C Z o O F M K J H y bl bi N b3 S a7 T D gv d;have H:= @pq prog;go_enter func159,ntmps159
 go_wp2_with(first
  |(rw[<-l];clear l)
  |fail)
 go_step3
 go_wp2_with(first
  |(rw[<-p];clear p)
  |(refine vn ?_)
  |((with_reducible apply G1);exact rfl;exact rfl;exact rfl)
  |fail)
 obtain⟨l,o⟩:=am ((((m.alloc (.cells (bx first).toArray 239)).alloc (.cells #[.int .i64 0,.int .i64 0] 296)).alloc (.cells #[.slice (some ⟨m.heap.size,0,none⟩) 1 1,.slice none 0 0,.slice (some ⟨m.heap.size+1,0,none⟩) 1 1] 246)));rw[<-o];have d:=E.o;have y:Below m.heap.size m l:=by rw[o];exact(aP.alloc dj _).alloc dj _
 have D:l.heap.size=a.heap.size+6:=by rw[o];simp only[bP];omega
 have C:l.heap[a.heap.size+3]?=some (.cells (bx first).toArray 239):=by rw[o,<-d];exact(br _ _ _ dj).Z ((br _ _ _ dj).Z (aN m _))
 have f7:l.heap[a.heap.size+4]?=some (.cells #[.int .i64 0,.int .i64 0] 296):=by have:=aN (m.alloc (.cells (bx first).toArray 239)) (.cells #[.int .i64 0,.int .i64 0] 296);rw[bP,d]at this;rw[o];exact(br _ _ _ dj).Z this
 have t7:l.heap[a.heap.size+5]?=some (.cells #[.slice (some ⟨a.heap.size+3,0,none⟩) 1 1,.slice none 0 0,.slice (some ⟨a.heap.size+4,0,none⟩) 1 1] 246):=by have:=aN ((m.alloc (.cells (bx first).toArray 239)).alloc (.cells #[.int .i64 0,.int .i64 0] 296)) (.cells #[.slice (some ⟨m.heap.size,0,none⟩) 1 1,.slice none 0 0,.slice (some ⟨m.heap.size+1,0,none⟩) 1 1] 246);rw[bP,bP,d]at this;rw[o,d];exact this
 have B:=RC l;rw[d];obtain⟨A,p,M,J,O,F⟩:=iL D y C f7 t7 B;clear B d y D C f7 t7 o cu cP H;refine ar F.o ?_;rintro o ⟨y,F⟩;rw[A.o]at y⊢;have bq:=GV o _ _ _ 0 0 y ad;obtain⟨a9,B,C⟩:=bm bq F y;clear bq F y;go_wp2_with fail
 refine ar a9.o ?_;rintro fv ⟨ez,Z⟩;have y:cU a a [first] [first] 1 0 0 [] (.slice (some ⟨a.heap.size+3,0,none⟩) 1 1) (.slice none 0 0) (.slice (some ⟨a.heap.size+4,0,none⟩) 1 1) [] (.slice none 0 0) [] (.slice none 0 0) [] o:=by
  have d:=E.o;have D:=A.o;have D:a.heap.size+8<=o.heap.size:=by obtain⟨_,_,_,_,_,K,_⟩:=C.o;exact K.lowB
  have d:∀b,b<a.heap.size+6->o.heap[b]?=l.heap[b]?:=fun b H=>B.o.J b ad;refine⟨(P.o.Z (p.o.zz ad)).Z (B.o.zz ad),D,?_,(d _ ad).Z O.o,(d _ ad).Z ((p.o.J _ ad).Z W.o),?_,cW _ _ _ _,⟨[.int .i64 0,.int .i64 0],rfl,.inr ⟨_,1,_,rfl,ad,(d _ ad).Z J.o,ay _,bO,rfl,rfl⟩⟩,
   cW _ _ _ _,cW _ _ _ _,rfl,(fun j v r D=>by simp at D),(fun v D=>by simp at D),(fun b D=>by cases D),C.o⟩
  have T:=R.o;rw[I.o]at T;exact mu.put (w:=m) (keys:=[]) (c9.o _ Q.o) (fun t F=>aj) aj (T.of_block ((d _ ad).Z (p.o.J _ ad)));refine⟨rfl,.inr ⟨_,1,_,rfl,ad,(d _ ad).Z M.o,ay _,bO,rfl,?_⟩⟩;simp[flatS];exact bI (by rw[tu];exact ay _)
 have l:Hid (BU a G Inv x nx first 256 fv):=ah ⟨0,[first],[],_,_,_,[],a,rfl,rfl,y.queue Z ez,bL (aA _ _) _,e3.o,fun s N=>by simp at N;subst N;exact Q.o⟩;have d:Hid (h.heap.size=a.heap.size+2):=I;clear y ez Z a9 C B O J M p A R fu W P E fq;rw[d.o];clear d I;go_wp2_with fail
 go_step3
 go_wp2_with fail
 rw[show a.heap.size+3+1+1=a.heap.size+5 from rfl,show a.heap.size+6+1=a.heap.size+7 from rfl,show a.heap.size+3+1=a.heap.size+4 from rfl];go_loopg [] 256 (fun g wr=>BU a G Inv x nx first g wr)
 case atStart=>exact l.out
 case round=>
 clear l;obtain⟨n,keys,A,hc,nv,cg,h,fx,d,F,l,bF,bE,Z⟩:=hrel;have fc:=ah d;clear d;have W:=rK ad _ _ F;have o:=W.le;have d:=W.most;simp only at o d;obtain⟨Q,bu,rfl⟩:=bs l.zi;obtain⟨no,y,rfl⟩:=bs l.nrow;obtain⟨J,I,rfl⟩:∃J I,cg=.slice J keys.length I:=by obtain⟨ys,cG⟩:=l.frow;exact bs cG
 by_cases b1:n=keys.length
 ·have a1:=l.q
  rw[<-b1]at a1;have bt:=Rx wr _ _ _ n a1;obtain⟨R,O,e1,ba,b8,bz,C⟩:=td bt l b1 F Z bE bF;clear bt a1 l W b1 F Z bE bF;go_wp2_with fail
  refine ar R.o ?_;intro w1 o;obtain⟨M,P⟩:=am (w1.alloc (.cells #[.int .i64 0] 301));have d:=(O.o.O o).O (w':=M) (by rw[P];exact aP);have a4:=ak 0 d.box;have cd:=ak 1 d.box;have p:=ak 2 d.box;have d0:=ak 0 d.res;have d1:=ak 1 d.res;have d2:=ak 2 d.res;have f0:=aJ d.res 0;have f1:=aJ d.res 1;have f2:=aJ d.res 2;have c5:=ah d;have B:w1.heap.size≠a.heap.size+5:=aQ ((O.o.O o).size);have dn:w1.heap.size≠a.heap.size+1:=aQ ((O.o.O o).size);rw[P]at a4 cd p d0 d1 d2 f0 f1 f2;have p:=ah P;clear d o R O P;go_wp2_with fail
  rw[sf];rw[<-p.o];have d:=c5.o;have bd:(((M.setCell ⟨a.heap.size+1,0,none⟩ (.slice Q keys.length bu)).setCell ⟨a.heap.size+1,1,none⟩ (.slice no h.length y)).setCell ⟨a.heap.size+1,2,none⟩ (.slice J keys.length I)).heap[a.heap.size+1]?=some (.cells #[.slice Q keys.length bu,.slice no h.length y,.slice J keys.length I] 246):=
   a8 _ _ 2 _ (a8 _ _ 1 _ (a8 _ _ 0 _ d.res))
  obtain⟨o,p⟩:=am ((((M.setCell ⟨a.heap.size+1,0,none⟩ (.slice Q keys.length bu)).setCell ⟨a.heap.size+1,1,none⟩ (.slice no h.length y)).setCell ⟨a.heap.size+1,2,none⟩ (.slice J keys.length I)));have b0:∀b,b≠a.heap.size+1->o.heap[b]?=M.heap[b]?:=fun b H=>by rw[p,aU _ _ _ _ _ H,aU _ _ _ _ _ H,aU _ _ _ _ _ H]
  have cx:∀{B e size n:Nat} {v:Value} {xs:List Value},e≠246->M.ownsRow B e size v n xs->o.ownsRow B e size v n xs:=fun fS E=>aX E (fun g bg=>b0 g (fun fG=>iP E d.res fS (by rw[bg,fG])));rw[<-p]at bd⊢;have cv:o.heap.size=M.heap.size:=by rw[p];simp only[eF]
  have B:Below a.heap.size fx o:=⟨by rw[p];exact d.base.os,by rw[p];exact d.base.tape,by rw[p];exact d.base.output,by rw[cv];exact d.base.size,fun k co=>(b0 k ad).Z (d.base.J k co)⟩;have cl:a.grownBy o (some G):=⟨B.os.Z C.o.os,B.tape.Z C.o.tape,B.output.Z C.o.output,aW C.o.size B.size,fun k p E=>(B.J k p).Z (C.o.J k p E)⟩;have ch:BT a G Inv x nx first (.returned (.tuple #[.agg #[.slice Q keys.length bu,.slice no h.length y,.slice J keys.length I],.bool true])) o:=
   ⟨⟨cl,cb.o _ _ bz.o B⟩,.inl ⟨n,keys,A,_,_,_,h,ba.o,e1.o.zy,b8.o,rfl,⟨_,_,rfl⟩,cx aq d.zi,cx aq d.nrow,d.len,fun j v r p E=>cx aq (d.done j v r p E)⟩⟩
  obtain⟨cL,cN,cO⟩:=dP bd;exact cQ (v:=.tuple #[.agg #[.slice Q keys.length bu,.slice no h.length y,.slice J keys.length I],.bool true]) (by simp[results,results159,go_sem,cL,cN,cO,underlying246]) rfl ch
 ·have em:n<keys.length:=ad
  obtain⟨s,N⟩:=aT em;obtain⟨eE,rfl⟩:∃eE,Q=some ⟨eE,0,none⟩:=by
   rcases l.zi.2 with⟨p,E⟩|⟨g,cap,fF,hv,_⟩
   omega;injection hv with hv
   exact⟨_,hv⟩
  have Q:x s:=Z s (aK N);have bt:=Rz wr _ _ _ n keys.length l.q em ad;have hm:∀(args:Array Value) (eZ:World),(callFunc 154 args).run prog eZ=.ok (.enter 154 args) eZ:=fun _ _=>rfl;have hp:=aL n;have hq:(n:Int)<keys.length:=ad;obtain⟨R,O,ba,b8,bz,C,c5,ca,dc⟩:=BV bt l F Z bE bF W N Q;clear bt l W F Z bE bF N Q b1;go_wp2_with fail
  refine ar R.o ?_;rintro w1 ⟨ey,eg⟩;have W:=O.o.queue eg ey;obtain⟨M,P,dl,Z⟩:=dy w1 (.cells #[.int .i64 (n:Nat)] 301);have d:=W.O dl;have a4:=ak 0 d.box;have hf:=ak 0 Z;have hd:=BP d.zi ca.o;have dq:=cb.o _ _ bz.o d.base;have en:=fl.o s M dc.o dq (aQ d.size);obtain⟨c8,Q,N⟩:=bm en Z d;have fN:a.heap.size+8<=w1.heap.size:=W.size;clear en W d dl Z ey eg R O dq;go_wp2_with(first|(rw[<-P];clear P)|(refine vn ?_)|fail)
  refine c8.o.zz ?_;rintro e o ⟨⟨M,rfl,O⟩,d,W⟩;obtain⟨c0,M,rfl⟩:=bs O;have R:=N.o.succs d hF O;have Z:a.grownBy o (some G):=⟨d.os.Z (N.o.base.os.Z C.o.os),d.tape.Z (N.o.base.tape.Z C.o.tape),d.output.Z (N.o.base.output.Z C.o.output),aW C.o.size (aW N.o.base.size d.size),fun k p E=>(d.J k (aQ N.o.size) E).Z ((N.o.base.J k p).Z (C.o.J k p E))⟩;have P:o.heap[w1.heap.size]?=some (.cells #[.int .i64 (n:Nat)] 301):=(d.J _ (aS Q.o) (fun e=>by injection e with e;omega)).Z Q.o;have gf:=c7.o s;obtain⟨a3,c4⟩:=aC Z W;obtain⟨X,dr⟩:=am w1.heap.size;rw[<-dr]at P fN⊢;have ea:Hid (yI a o x nx s n X keys A (.slice no h.length y) h (.slice c0 (nx s).length M) (nx s).length (.int .i64 0) (.slice none 0 0) o):=
   ah ⟨0,keys,[],_,_,rfl,rfl,aH _,rfl,R,P,b8.o⟩
  clear R O d W Z P c8 Q N a4 hf hd dr bz C
  go_wp2
  go_loopg [50,14] (nx s).length (fun g N d C=>yI a o x nx s n X keys A (.slice no h.length y) h (.slice c0 (nx s).length M) g N d C)
  case atStart=>exact ea.out
  case round=>
  clear ea;obtain⟨j,ks,rs,hc,cg,bg,rfl,d,hv,l,bZ,b2⟩:=hrel;obtain⟨ag,af,rfl⟩:=bs l.zi;obtain⟨Q,P,rfl⟩:∃J I,cg=.slice J ks.length I:=by obtain⟨ys,cG⟩:=l.frow;exact bs cG
  obtain⟨go,gc,rfl⟩:=bs l.cur;have W:=rK ad _ _ ba.o;have V:=tq W.nodup W.most _ _ _ rfl hv;have d:ks.length<=256:=V.most;have d:keys.length<=ks.length:=V.pre.length_le;have gf:=c7.o s;have c6:=ah bg;have d:rs.length<=64:=by have:=V.len;simp at this;omega
  by_cases d:j=(nx s).length
  ·subst d
   rw[ol]at hv;obtain⟨N,gb,g2,g3,g4⟩:=cZ BS;have I:fR first 256 nx (n+1)=some (ks,A++[rs]):=by
    show(fR first 256 nx n).bind _=_
    rw[ba.o];simp only[wX,ca.o,hv,qJ]
   have d:h.length<=256:=by have p:=l.len;have E:=W.len;have d:=W.le;simp only at E d;omega
   have cd:=ak 1 l.box;have bc:Below wr.heap.size wr (wr.alloc (.cells #[.slice go rs.length gc] 41)):=aP;have C:=l.O bc;have aa:=C.nrow;have Z:=eq wr [.slice go rs.length gc] 41 _ rfl;have R:a.heap.size+3<=(wr.alloc (.cells #[.slice go rs.length gc] 41)).heap.size:=aQ C.size;have e2:Hid (∀d,(wr.alloc (.cells #[.slice go rs.length gc] 41)).grownBy d (Value.slice no h.length y).ownBlock->d.heap[a.heap.size+5]?=some (.cells #[.slice ag ks.length af,.slice no h.length y,.slice Q ks.length P] 246)):=fun d J=>(J.J _ (aQ C.size) (jn C.nrow C.box aq)).Z C.box;obtain⟨an,bA,fr⟩:=bm C b2 I;clear l bZ hv V W b2 bg C bc I;go_wp2_with(first
    |(at_builtin;go_must (refine kI _ rfl _ _ 106 rfl (a.heap.size+3) 41 N _ 1 24 KY gb g2 g3 g4 rfl ad (.slice no h.length y) h.length h rfl aa ⟨wr.heap.size,0,none⟩ 1 1 [.slice go rs.length gc] rfl rfl Z (fun z J=>by simp at J;subst J;rfl) ad bO ad R _ rfl ?_);intro av aw a2 ab I a0 bo;have C:=e2.o a2 I;have g9:=ak 1 C;have dn:=aJ C 1;have O:=ah (an.o.setNext I ab);clear ab I a0 Z R aa bo C)
    |fail)
   have C:cU a o ks ks ks.length (n+1) ks.length (A++[rs]) (.slice ag ks.length af) (.slice (some ⟨av,0,none⟩) (h.length+1) aw) (.slice Q ks.length P) (h++[.slice go rs.length gc]) (.slice none 0 0) [] (.slice none 0 0) [] (a2.setCell ⟨a.heap.size+5,1,none⟩ (.slice (some ⟨av,0,none⟩) (h.length+1) aw)):=
    {O.out with succ:=cW _ _ _ _,sgap:=fun b D=>by cases D}
   have be:Hid (BU a G Inv x nx first (256-(n+1)) (a2.setCell ⟨a.heap.size+5,1,none⟩ (.slice (some ⟨av,0,none⟩) (h.length+1) aw))):=
    ah ⟨n+1,ks,A++[rs],_,_,_,_,o,rfl,fr.o,C,a3.o,c4.o,bA.o⟩
   clear C O g9 dn cd;go_roundg(256-(n+1))
   case measure=>have:=fc.o;omega
   case rel=>exact be.out
  ·have C:j<(nx s).length:=ad
   obtain⟨t,F⟩:=aT C;have cq:x t:=fg.o s dc.o t (aK F);have C:Low t:=c9.o _ cq;have fo:=ah cq;obtain⟨N,rfl⟩:∃N,c0=some ⟨N,0,none⟩:=by
    rcases l.succ.2 with⟨p,E⟩|⟨g,cap,fF,hv,_⟩
    omega;injection hv with hv
    exact⟨_,hv⟩
   have eB:eu 256 keys ((nx s).take (j+1))=mr 256 (ks,rs) t:=by rw[bH,F];simp only[fp];rw[yE,hv];rfl
   obtain⟨c2,ae,dm⟩:=fQ wr (.cells #[.bool false,.int .u64 0,.int .u64 0,.int .u64 0,.int .u64 0,.int .u64 0,.int .u64 0,.int .u64 0,.int .u64 0,.int .u64 0,.int .u64 0,.int .u64 0,.int .u64 0,.int .u64 0,.int .u64 0,.int .u64 0,.int .u64 0] 239);have c1:c2.there wr.heap.size 0 17:=by rw[ae];exact oO (cs:=bx (false,0)) (ty:=239) (aN wr _) (ay _)
   have cS:=BP l.succ F;have g5:wr.heap.size<c2.heap.size:=by rw[ae];simp
   have fO:wr.heap.size≠a.heap.size+2:=aQ l.size;have hn:=aL j;have ho:(j:Int)<((nx s).length:Int):=ad;have bi:=vm C;have bl:=G0 C;obtain⟨eD,dz,eb,ec,ed⟩:=cZ lm;have b4:Hid (∀d,gV c2 d wr.heap.size 0 (bx t)->cU a o ks ks ks.length (n+1) ks.length A (.slice ag ks.length af) (.slice no h.length y) (.slice Q ks.length P) h (.slice go rs.length gc) rs (.slice (some ⟨N,0,none⟩) (nx s).length M) (nx s) d/\d.heap[X]?=some (.cells #[.int .i64 (n:Nat)] 301)):=fun d fL=>by have H:=fL.O dm (ay _);exact⟨l.O H,(H.J X (aS bZ)).Z bZ⟩
   obtain⟨cc,bA,b9,b7,b6⟩:=iz eB b2 C bl bi;clear cq l bZ hv V W eB b2 C bl bi F dm bg;by_cases W:t∈ks
   ·have bb:Hid (eu 256 keys ((nx s).take (j+1))=some (ks,rs++[lM ks t])):=ah (by rw[cc.o];simp[mr,W])
    obtain⟨q,a1⟩:=am (lM ks t);rw[<-a1]at bb;obtain⟨l,bB⟩:=aC a1 W;clear a1 W;have bw:Hid (∀d,cU a o ks ks ks.length (n+1) ks.length A (.slice ag ks.length af) (.slice no h.length y) (.slice Q ks.length P) h (.slice go rs.length gc) rs (.slice (some ⟨N,0,none⟩) (nx s).length M) (nx s) d->(Instr.lookup 294 (.map (some (a.heap.size+2))) (.agg (bx t).toArray) true).run prog d=.ok (.tuple #[.int .i64 (q:Nat),.bool true]) d):=fun d K=>by obtain⟨f,T,bf⟩:=K.map;have p:=T.look_ok tw DE (z:=.int .i64 0) az b7.o b6.o;rw[bf t b9.o,au bB.o,<-l.o]at p;exact p
    go_wp2_with(first
     |(rw[<-ae];clear ae)
     |(refine vn ?_)
     |((refine BW ?_);intro d C;have a6:=C.zn;obtain⟨l,F⟩:=b4.o d C;have cp:=bw.o d l;obtain⟨an,ao,aa,R⟩:=G2 l F q;have Z:=eq d [.int .i64 (q:Nat)] 3 _ rfl;clear c1 cS l F C)
     |(at_builtin;go_must (refine kI _ rfl _ _ 41 rfl (a.heap.size+3) 3 eD _ 1 8 j9 dz eb ec ed rfl ad (.slice go rs.length gc) rs.length (fB rs) rfl aa ⟨d.heap.size,0,none⟩ 1 1 [.int .i64 (q:Nat)] rfl rfl Z (fun z J=>by simp at J;subst J;rfl) ad bO ad R _ rfl ?_);intro av aw a2 ab I a0 bo;have O:=an.o.goes I ab a0;have c3:=ah ((I.J X (aS ao.o) (jn an.o.cur ao.o aq)).Z ao.o);have b5:=ah O;clear O ab I a0 Z R aa bo)
     |fail)
    have be:Hid (yI a o x nx s n X keys A (.slice no h.length y) h (.slice (some ⟨N,0,none⟩) (nx s).length M) ((nx s).length-(j+1)) (.int .i64 ((j:Int)+1)) (.slice (some ⟨av,0,none⟩) (rs.length+1) aw) a2):=
     ah ⟨j+1,ks,rs++[q],_,_,rfl,rfl,ad,bb.o,b5.o,c3.out,bA.o⟩
    go_roundg((nx s).length-(j+1))
    case measure=>have:=c6.o;omega
    case rel=>exact be.out
   ·have bB:=ah W
    have bw:Hid (∀d,cU a o ks ks ks.length (n+1) ks.length A (.slice ag ks.length af) (.slice no h.length y) (.slice Q ks.length P) h (.slice go rs.length gc) rs (.slice (some ⟨N,0,none⟩) (nx s).length M) (nx s) d->(Instr.lookup 294 (.map (some (a.heap.size+2))) (.agg (bx t).toArray) true).run prog d=.ok (.tuple #[.int .i64 0,.bool false]) d):=fun d K=>by obtain⟨f,T,bf⟩:=K.map;have p:=T.look_ok tw DE (z:=.int .i64 0) az b7.o b6.o;rw[bf t b9.o,ap bB.o]at p;exact p
    by_cases ci:256<=ks.length
    ·have fs:Hid (eu 256 keys ((nx s).take (j+1))=none):=ah (by rw[cc.o];simp[mr,W,ci])
     have ds:(256:Int)<=ks.length:=ad;clear W;go_wp2_with(first
      |(rw[<-ae];clear ae)
      |(refine vn ?_)
      |((refine BW ?_);intro d C;have a6:=C.zn;obtain⟨l,F⟩:=b4.o d C;have cp:=bw.o d l;have a4:=ak 0 l.box;have d0:=ak 0 l.res;have d1:=ak 1 l.res;have d2:=ak 2 l.res;have f0:=aJ l.res 0;have f1:=aJ l.res 1;have f2:=aJ l.res 2;have e4:=ah l;clear c1 cS l F C)
      |fail)
     rw[sf];have l:=e4.o;have bd:(((d.setCell ⟨a.heap.size+1,0,none⟩ (.slice none 0 0)).setCell ⟨a.heap.size+1,1,none⟩ (.slice none 0 0)).setCell ⟨a.heap.size+1,2,none⟩ (.slice none 0 0)).heap[a.heap.size+1]?=some (.cells dx 246):=
      a8 _ _ 2 _ (a8 _ _ 1 _ (a8 _ _ 0 _ l.res))
     obtain⟨al,a5⟩:=am ((((d.setCell ⟨a.heap.size+1,0,none⟩ (.slice none 0 0)).setCell ⟨a.heap.size+1,1,none⟩ (.slice none 0 0)).setCell ⟨a.heap.size+1,2,none⟩ (.slice none 0 0)));have b0:∀b,b≠a.heap.size+1->al.heap[b]?=d.heap[b]?:=fun b H=>by rw[a5,aU _ _ _ _ _ H,aU _ _ _ _ _ H,aU _ _ _ _ _ H]
     rw[<-a5]at bd⊢;have cv:al.heap.size=d.heap.size:=by rw[a5];simp only[eF]
     have B:Below a.heap.size o al:=⟨by rw[a5];exact l.base.os,by rw[a5];exact l.base.tape,by rw[a5];exact l.base.output,by rw[cv];exact l.base.size,fun k co=>(b0 k ad).Z (l.base.J k co)⟩;have cl:a.grownBy al (some G):=⟨B.os.Z a3.o.os,B.tape.Z a3.o.tape,B.output.Z a3.o.output,aW a3.o.size B.size,fun k p E=>(B.J k p).Z (a3.o.J k p E)⟩;have p:eu 256 keys (nx s)=none:=by have:=RU (b:=(nx s).drop (j+1)) fs.o;rwa[ig]at this
     have ch:BT a G Inv x nx first (.returned (.tuple #[.agg dx,.bool false])) al:=
      ⟨⟨cl,cb.o _ _ c4.o B⟩,.inr ⟨n,keys,A,s,ba.o,ca.o,p,rfl⟩⟩
     obtain⟨cL,cN,cO⟩:=dP bd;exact cQ (v:=.tuple #[.agg dx,.bool false]) (by simp[results,results159,go_sem,cL,cN,cO,underlying246]) rfl ch
    ·have bb:Hid (eu 256 keys ((nx s).take (j+1))=some (ks++[t],rs++[ks.length])):=ah (by rw[cc.o];simp[mr,W,ci])
     have ds:(ks.length:Int)<256:=ad;clear W;obtain⟨g8,ga,gG,g0,g1⟩:=cZ BQ;obtain⟨g7,fT,gn,gr,gs⟩:=cZ RT;have e0:Hid (∀d,cU a o ks ks ks.length (n+1) ks.length A (.slice ag ks.length af) (.slice no h.length y) (.slice Q ks.length P) h (.slice go rs.length gc) rs (.slice (some ⟨N,0,none⟩) (nx s).length M) (nx s) d->d.heap[X]?=some (.cells #[.int .i64 (n:Nat)] 301)->∀Y,d.rangeAt Y 0 (bx t)->Y<d.heap.size->Y≠a.heap.size+2->
      ∃m,(Instr.mapUpdate 294 (.map (some (a.heap.size+2))) (.agg (bx t).toArray) (.int .i64 (ks.length:Nat))).run prog d=.ok () m/\
       cU a o (ks++[t]) ks ks.length (n+1) ks.length A (.slice ag ks.length af) (.slice no h.length y) (.slice Q ks.length P) h (.slice go rs.length gc) rs (.slice (some ⟨N,0,none⟩) (nx s).length M) (nx s) m/\m.heap[X]?=some (.cells #[.int .i64 (n:Nat)] 301)/\m.rangeAt Y 0 (bx t)):=fun d K F Y a6 B p=>by
      obtain⟨f,T,bf⟩:=K.map;obtain⟨m,E,b3,S,_⟩:=T.set tw DE bO (val:=.int .i64 (ks.length:Nat)) b7.o b6.o;obtain⟨G,c,p⟩:=K.map.J;exact⟨m,E,K.mapPut S (mu.put (w:=d) b9.o bf bB.o b3),(S.J X (aS F) (fun e=>by injection e with e;rw[e,p]at F;cases F)).Z F,fun i v hv=>(S.cell_far ⟨Y,0+i,none⟩ B aO).Z (a6 i v hv)⟩
     go_wp2_with(first
      |(rw[<-ae];clear ae)
      |(rw[<-H.o];clear H)
      |(rw[<-G.o];clear G)
      |(refine vn ?_)
      |((with_reducible apply G1);exact rfl;exact rfl;exact rfl)
      |((refine BW ?_);intro d C;have a6:=C.zn;obtain⟨l,F⟩:=b4.o d C;have cp:=bw.o d l;have a4:=ak 0 l.box;obtain⟨m,cu,E,a7,cP⟩:=e0.o d l F wr.heap.size a6 (by rw[C.size];exact g5) fO;have fy:=ak 0 E.box;obtain⟨e7,fb,ex,S⟩:=RV E a7 t;have el:=eq m (bx t) 239 _ rfl;clear c1 cS l F E a7 C)
      |(at_builtin;first
       |(refine kI _ rfl _ _ 240 rfl (a.heap.size+3) 239 g8 _ 17 136 KZ ga gG g0 g1 rfl ad (.slice ag ks.length af) ks.length (flatS ks) rfl ex ⟨m.heap.size,0,none⟩ 1 1 (bx t) rfl rfl el (BO t) ad bO ad S _ rfl ?_;intro hj hl hs es du T gl;obtain⟨hb,f80,al,H,e5,e8,fz,hg⟩:=RW e7.o fb.o du es T;obtain⟨e6,e9,⟨hh,et⟩,K⟩:=RX e5.o e8.o j;have ek:=eq al [.int .i64 (n:Nat),.int .i64 (j:Nat)] 296 _ rfl;clear ex S el es du T gl a6 cP cu cp a4 fy)
       |(refine kI _ rfl _ _ 244 rfl (a.heap.size+3) 296 g7 _ 2 16 underlying244 fT gn gr gs rfl ad (.slice Q ks.length P) ks.length hh rfl et ⟨al.heap.size,0,none⟩ 1 1 [.int .i64 (n:Nat),.int .i64 (j:Nat)] rfl rfl ek (fun z J=>by simp at J;rcases J with rfl|rfl<;>rfl) ad bO ad K _ rfl ?_;intro hi hk hr er W fP gg;obtain⟨ha,f102,he,G,p,B⟩:=RY e6.o e9.o W er;clear et K ek er W fP gg fz hg hb f80))
      |fail)
     have bq:=GV he _ _ _ (n+1) ks.length p.o.q ad;have d:=p.o.cell_sq B.o aq aq ad;obtain⟨a9,C⟩:=aC bq d;clear bq d ha f102;refine ar a9.o ?_;rintro m ⟨F,l⟩;have d:=p.o.queue l F;have H:m.heap[X]?=some (.cells #[.int .i64 (n:Nat)] 301):=(l.kp.same X C.o).2.Z B.o;have E:ks.length+1=(ks++[t]).length:=aj;rw[E]at d;obtain⟨q,G⟩:=am ks.length;rw[<-G]at bb⊢;obtain⟨an,ao,aa,R⟩:=G2 d H q;have Z:=eq m [.int .i64 (q:Nat)] 3 _ rfl;have K:Hid (∀u∈ks++[t],x u):=ah fun u P=>by
      rcases dk.1 P with D|D
      exact bA.o u D;simp at D;subst D;exact fo.o
     clear d H F l a9 p B C E G ds ci;go_wp2_with(first
      |(at_builtin;(refine kI _ rfl _ _ 41 rfl (a.heap.size+3) 3 eD _ 1 8 j9 dz eb ec ed rfl ad (.slice go rs.length gc) rs.length (fB rs) rfl aa ⟨m.heap.size,0,none⟩ 1 1 [.int .i64 (q:Nat)] rfl rfl Z (fun z J=>by simp at J;subst J;rfl) ad bO ad R _ rfl ?_;intro av aw a2 ab I a0 bo;have O:=an.o.goes I ab a0;have c3:=ah ((I.J X (aS ao.o) (jn an.o.cur ao.o aq)).Z ao.o);have b5:=ah O;clear O ab I a0 Z R aa bo))
      |fail)
     have be:Hid (yI a o x nx s n X keys A (.slice no h.length y) h (.slice (some ⟨N,0,none⟩) (nx s).length M) ((nx s).length-(j+1)) (.int .i64 ((j:Int)+1)) (.slice (some ⟨av,0,none⟩) (rs.length+1) aw) a2):=
      ah ⟨j+1,ks++[t],rs++[q],_,_,rfl,rfl,ad,bb.o,b5.o,c3.out,K.o⟩
     go_roundg((nx s).length-(j+1))
     case measure=>have:=c6.o;omega
     case rel=>exact be.out
def ofN(l:List ax)(x:Bytes):Nat->Nat
 |0=>0
 |n+1=>match l[n]? with
  |none=>ofN l x n
  |some nd=>if nd.op=2/\nd.sym=x then ofN l x n|||dS [n]else ofN l x n
def fj(l:List ax):Nat->Nat
 |0=>0
 |n+1=>match l[n]? with
  |none=>fj l n
  |some nd=>if nd.op=2/\(eH (trN l (l-1))).testBit n=true then fj l n|||dS [n]else fj l n
def dH(l:List ax)(b:Bool)(ps:List Nat):Nat:=ps.foldl (fun c p=>c|||dS (aG (dO l p))) (if b then dS (aG (dt (trN l (l-1))))else 0)
def cD(l:List ax)(ws:List Bytes)(s:St):List St:=ws.map fun x=>(false,dH l s.1 (aG s.2)&&&ofN l x l)
def finM(l:List ax)(s:St):Bool:=(s.1&&(factN l (l-1)).empty)|| !(s.2&&&fj l l==0)
def mx(l:List ax)(s:St):Prop:=Low s/\∀p,s.2.testBit p=true->∃nd,l[p]?=some nd/\nd.op=2
def iQ{m p}(a:p∈aG m):p<64/\m.testBit p=true:=by unfold aG at a;rwa[jJ,eT]at a
def vu{ps}(a:∀p∈ps,p<64):dS ps<18446744073709551616:=Gg a 0 ad
def tC ps j:(dS ps).testBit j=decide (j∈ps):=by unfold dS;rw[Qg];simp
def BX{a b}(c:a<18446744073709551616)(k:b<18446744073709551616):a|||b<18446744073709551616:=C2 (n:=64) c k
def vw{a b}(k:b<18446744073709551616):a&&&b<18446744073709551616:=Ki KM k
def nt l x:∀n,n<=64->ofN l x n<18446744073709551616
 |0,_=>by unfold ofN;omega
 |n+1,b=>by unfold ofN;split;exact nt l x n ad;split;exact BX (nt l x n ad) (vu (fun p a=>by simp at a;omega));exact nt l x n ad
def oV l x p:∀n,(ofN l x n).testBit p=true->p<n/\∃nd,l[p]?=some nd/\nd.op=2/\nd.sym=x
 |0,a=>by simp[ofN]at a
 |n+1,a=>by
  unfold ofN at a;split at a;obtain⟨c,b⟩:=oV l x p n a;exact⟨ad,b⟩;rename_i nd e;split at a;rename_i d;rw[qz,tC]at a;rcases dA _ _▸a with a|a
  obtain⟨c,b⟩:=oV l x p n a;exact⟨ad,b⟩;simp at a;subst a;exact⟨ad,nd,e,d⟩;obtain⟨c,b⟩:=oV l x p n a;exact⟨ad,b⟩
def vx l:∀n,n<=64->fj l n<18446744073709551616
 |0,_=>by unfold fj;omega
 |n+1,b=>by unfold fj;split;exact vx l n ad;split;exact BX (vx l n ad) (vu (fun p a=>by simp at a;omega));exact vx l n ad
def vy m:dS (aG m)<18446744073709551616:=vu (fun p a=>(iQ a).1)
def qh l b ps:dH l b ps<18446744073709551616:=by
 unfold dH;have a:(if b then dS (aG (dt (trN l (l.length-1))))else 0)<18446744073709551616:=by split;exact vy _;omega
 generalize(if b then dS (aG (dt (trN l (l-1))))else 0)=c at a;induction ps generalizing c with
 |nil=>exact a
 |cons p ps ih=>exact ih _ (BX a (vy _))
def yJ l b ps p:dH l b (ps++[p])=dH l b ps|||dS (aG (dO l p)):=by unfold dH;rw[KJ];rfl
def yK l:mx l (true,0):=⟨by unfold Low;show 0<_;omega,fun p a=>by simp at a⟩
def Sa{l ws}(e:l.length<=60){s t}(a:t∈cD l ws s):mx l t:=by unfold cD at a;rw[dL]at a;obtain⟨x,_,rfl⟩:=a;refine⟨vw (nt l x _ ad),fun p b=> ?_⟩;simp only[oh,cM]at b;obtain⟨_,nd,c,d,_⟩:=oV l x p _ b.2;exact⟨nd,c,d⟩
end Go.Proofs.YtfeidcmojcijpaaGreatDoor
