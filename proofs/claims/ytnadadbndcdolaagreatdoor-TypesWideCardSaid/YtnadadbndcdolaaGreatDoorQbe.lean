import Derived.Test.YtnadadbndcdolaaGreatDoorQbd
set_option linter.unusedVariables false
set_option linter.unusedSimpArgs false
set_option maxRecDepth 100000
set_option maxHeartbeats 0
namespace Go.Proofs.YtnadadbndcdolaaGreatDoor
open Go.RowKit Tryz
def kC(a m:Nat):List It:=(List.range' a (m-a)).map fun b=>(b,b)
theorem OM{a m:Nat}(b:a<=m):kC a (m+1)=kC a m++[(m,m)]:=by unfold kC;rw[show m+1-a=(m-a)+1 by omega,List.range'_concat,iH];simp;omega
theorem Fk{a m:Nat}(b:a<m):kC a m=(a,a)::kC (a+1) m:=by unfold kC;rw[show m-a=(m-(a+1))+1 by omega,List.range'_succ,gd]
theorem zW(a m:Nat):(kC a m).length=m-a:=by simp[kC]
theorem ON{a m:Nat}{x:It}(b:x∈kC a m):a<=x.1/\x=(x.1,x.1):=by unfold kC at b;rw[fH]at b;obtain⟨d,c,rfl⟩:=b;rw[List.mem_range'_1]at c;exact⟨c.1,rfl⟩
def gQ(W:World)(Q B b a m:Nat):Prop:=a<=m/\∃c d k L,dx W Q B b c d k m L/\gP de L L.length/\L.Perm (kC a m)
theorem gQ.sq{W:World}{Q B j a m b:Nat}(o:gQ W Q B j a m)(r:b≠Q)(q:b<W.heap.size)(i:∀cs c n,W.heap[b]?=some (.cells cs c n)->c≠414/\c≠105):SQ Q W b:=by
 obtain⟨_,t,u,k,L,d,_⟩:=o;refine d.sq (fun c=> ?_) (fun c=> ?_) r q
 ·rcases d.items.2 with⟨e,_⟩|⟨g,cap,l,h,p,f,_⟩
  ·subst e;cases c
  ·subst h
   cases c
   exact(i _ _ _ f).1 rfl
 ·obtain⟨ys,s⟩:=d.swaps
  rcases s.2 with⟨e,_⟩|⟨g,cap,l,h,p,f,_⟩
  ·subst e;cases c
  ·subst h
   cases c
   exact(i _ _ _ f).2 rfl
theorem gQ.box{W:World}{Q B b a m:Nat}(c:gQ W Q B b a m):∃cs,W.heap[Q]?=some (.cells cs 420):=by obtain⟨_,e,f,k,L,d,_⟩:=c;exact⟨_,d.box⟩
def OP(W:World)(Q B b a m:Nat)(c:Ending)(w':World):Prop:=c=.returned (.int .i64 0)/\gQ w' Q B b a (m+1)/\bY Q W w'
theorem Fl(W:World)(Q B b a m:Nat)(e:gQ W Q B b a m)(w:m<=1048575):Calls prog 278 #[.pointer (some ⟨Q,0,none⟩),.agg #[.int .i64 (m:Nat)]] W (OP W Q B b a m):=by obtain⟨f,n,t,k,L,g,h,c⟩:=e;have l:=c.length_eq;rw[zW]at l;refine(OJ W Q B b k m m n t L g h ad ad).mono ?_;rintro v w' ⟨i,⟨o,u,p,d,q,r,s⟩,j⟩;exact⟨i,⟨ad,o,u,p,d,q,r,by rw[OM f];exact s.trans (c.append_right _)⟩,j⟩
theorem OQ(W:World)(Q B a m:Nat)(b:gQ W Q B a m m):Calls prog 279 #[.pointer (some ⟨Q,0,none⟩)] W (zU W Q):=by obtain⟨h,f,g,k,L,c,i,d⟩:=b;have e:=d.length_eq;rw[zW]at e;obtain rfl:=rF.1 (show L.length=0 by omega);exact OK W Q B a k m f g c
def OR(W:World)(Q B b a m:Nat)(c:Ending)(w':World):Prop:=c=.returned (.tuple #[.agg #[.int .i64 (a:Nat)],.int .i64 0])/\gQ w' Q B b (a+1) m/\bY Q W w'
theorem OS(W:World)(Q B c a m:Nat)(h:gQ W Q B c a m)(e:a<m)(G:m<=1048575):Calls prog 279 #[.pointer (some ⟨Q,0,none⟩)] W (OR W Q B c a m):=by
 obtain⟨E,u,A,k,L,i,j,b⟩:=h;have p:=b.length_eq;rw[zW]at p;refine(OL W Q B c k m (m-a-1) u A L i j ad ad).mono ?_;rintro D w' ⟨x,n,q,⟨v,C,w,g,y,z,f⟩,o⟩;have r:x=(a,a):=by have s:x∈kC a m:=b.subset (f.subset (dM ..));have t:(a,a)∈L:=b.symm.subset (by rw[Fk e];exact dM ..);have d:=q _ t;obtain⟨F,l⟩:=ON s;rw[l]at d⊢;simp[de]at d;have:x.1=a:=ad;rw[this]
 subst r;refine⟨n,⟨ad,v,C,w,g,y,z,?_⟩,o⟩;rw[Fk e]at b;exact(f.trans b).cons_inv
def OT(W:World)(a:Ending)(w':World):Prop:=a=.returned (.tuple #[.pointer (some ⟨W.heap.size+1,0,none⟩),.int .i64 0])/\gQ w' (W.heap.size+1) (W.heap.size+2) W.heap.size 0 0/\Below W.heap.size W w'
theorem OU(W:World):Calls prog 276 #[.func (.func 277) #[] #[]] W (OT W):=by refine(OG W).mono ?_;rintro e w' ⟨d,a,b⟩;exact⟨d,⟨az _,_,_,_,[],a,fun k x y f c=>by simp at c,by simp[kC]⟩,b⟩
abbrev St:=Bool×Nat
def bx(s:St):List Value:=.bool s.1::setRow s.2
def flatS(L:List St):List Value:=L.flatMap bx
theorem qV(s:St):(bx s).length=17:=rfl
theorem OY{s t:St}(a:bx s=bx t):s=t:=by obtain⟨b,m⟩:=s;obtain⟨c,n⟩:=t;unfold bx setRow at a;simp only[xM,Value.bool.injEq,Value.int.injEq]at a;obtain⟨d,⟨_,e⟩,_⟩:=a;have:m=n:=ad;rw[d,this]
theorem zY(L M:List St):flatS (L++M)=flatS L++flatS M:=by simp[flatS]
theorem OZ{L:List St}{i:Nat}{s:St}(a:L[i]?=some s){j:Nat}(c:j<17):(flatS L)[i*17+j]?=(bx s)[j]?:=by
 induction L generalizing i with
 |nil=>simp at a
 |cons x L ih=>
  have b:flatS (x::L)=bx x++flatS L:=rfl;rw[b];cases i with
  |zero=>
   simp at a;subst a;rw[eP (by rw[qV];omega)];simp
  |succ i=>
   rw[fZ (by rw[qV];omega),qV,show(i+1)*17+j-17=i*17+j by omega];exact ih (by simpa using a)
theorem pZ(s:St):∀v∈bx s,v.oneCell'=true:=by
 intro v a;unfold bx at a;rcases du.1 a with rfl|a
 ·rfl
 ·exact fa _ v a
theorem lL:(prog.info? 325).map (·.size)=some 17:=aA
theorem zZ{w:World}{B e g c:Nat}{L:List St}(f:w.ownsRow B e 17 (.slice (some ⟨g,0,none⟩) L.length c) L.length (flatS L)){i:Nat}{s:St}(b:L[i]?=some s):w.rangeAt g (i*17) (bx s):=by intro j v d;have a:=(aL.1 d).1;rw[qV]at a;have h:=(aL.1 b).1;exact(f.cellAt (i*17+j) ad).trans ((OZ b a).trans d)
theorem O0:prog.cellsOf 220=1:=aA
theorem O1:prog.cellsOf 4=1:=aA
theorem Fq:prog.cellsOf 320=16:=aA
theorem Fs:prog.cellsOf 325=17:=aA
theorem O2:prog.keyType 325=true:=aA
theorem Ft(d n:Nat)(a:n<18446744073709551616):prog.keyLits (d+1) 220 [.int .u64 (n:Nat)]=some [.int .u64 (n:Nat)]:=by unfold Program.keyLits;rw[underlying220];simp only;rw[ay ⟨trivial,by simp[Lit.wf,IntKind.min,IntKind.max,IntKind.signed,IntKind.bits];omega⟩]
theorem O3(d m:Nat)(c:m<18446744073709551616):∃f,prog.keyLits (d+2) 320 (setRow m)=some f:=by unfold Program.keyLits;rw[eY];simp only;rw[ay (by rw[Fq];rfl)];rw[O0];have a:=Ft d 0 ad;have e:=Ft d m c;have b:prog.keyLits (d+1) 220 [.int .u64 0]=some [.int .u64 0]:=a;simp[List.range,List.range.loop,setRow,b,e]
theorem O4(d:Nat)(s:St)(e:s.2<18446744073709551616):∃a,prog.keyLits (d+3) 325 (bx s)=some a:=by
 obtain⟨a,c⟩:=O3 d s.2 e;unfold Program.keyLits;rw[mY];simp only;rw[ay ⟨by rw[Fs];rfl,aA⟩];have b:prog.keyLits (d+2) 4 [.bool s.1]=some [.bool s.1]:=by unfold Program.keyLits;rw[underlying4]
 simp[O1,Fq,bx,b];rw[show List.take 16 (setRow s.2)=setRow s.2 from rfl,c];simp
theorem Fu:2<=prog.types.size:=by rw[<-Nat.ble_eq];kernel_rfl
theorem O5(s:St)(e:s.2<18446744073709551616):∃l,keyOf prog 325 (.agg (bx s).toArray)=some l:=by
 obtain⟨d,a⟩:∃d,prog.types.size+1=d+3:=⟨prog.types.size-2,by have:=Fu;omega⟩;obtain⟨f,c⟩:=O4 d s e;unfold keyOf;rw[mY];simp only;rw[O2,a];have b:(Value.agg (bx s).toArray).formed prog 325=true:=by simp[Value.formed,mY,Fs,qV]
 rw[b];simp only[Bool.and_self,iG,Value.cells];rw[c];exact⟨_,rfl⟩
theorem qW:Maps.Keyed prog 325:=Maps.Keyed.of_law (deep_law_laid aA (m:=5) ad (by rw[<-Nat.blt_eq];kernel_rfl) aA (by rw[mY]))
noncomputable def oH(s:St):Lit:=(keyOf prog 325 (.agg (bx s).toArray)).getD (.bool false)
def jz(s:St):Prop:=s.2<18446744073709551616
theorem tu{s:St}(a:jz s):keyOf prog 325 (.agg (bx s).toArray)=some (oH s):=by obtain⟨l,b⟩:=O5 s a;unfold oH;rw[b];rfl
theorem O6{s t:St}(c:jz s)(k:jz t)(b:oH s=oH t):s=t:=by
 have a:=tu c;have d:=tu k;rw[b]at a;have:=qW.inj a d;injection this with this
 exact OY (by simpa using jk Array.toList this)
theorem Fv{s:St}(a:jz s):WideAt.IsKeyLit (oH s):=qW.key (tu a)
def kW(w:World)(M:Nat)(keys:List St):Prop:=
 ∃f,bp w prog 325 M keys.length f/\∀s,jz s->f (oH s)=if s∈keys then some (.int .i64 ((mJ keys s:Nat):Int))else none
theorem bp.of_block{w w':World}{P:Program}{k:TypeId}{M n:Nat}{f:Lit->Option Value}(c:bp w P k M n f)(e:w'.heap[M]?=w.heap[M]?):bp w' P k M n f:=by obtain⟨a,⟨b,clock,g,F,i,d⟩,h⟩:=c;exact⟨a,⟨b,clock,e.trans g,F,i,d⟩,h⟩
theorem kW.of_block{w w':World}{M:Nat}{keys:List St}(a:kW w M keys)(d:w'.heap[M]?=w.heap[M]?):kW w' M keys:=by obtain⟨f,b,c⟩:=a;exact⟨f,b.of_block d,c⟩
theorem kW.put{w w':World}{M:Nat}{keys:List St}{f:Lit->Option Value}{s:St}(i:jz s)(g:∀t,jz t->f (oH t)=if t∈keys then some (.int .i64 ((mJ keys t:Nat):Int))else none)(h:s∉keys)
 (e:bp w' prog 325 M (keys.length+1) (eW f (oH s) (.int .i64 ((keys.length:Nat):Int)))):kW w' M (keys++[s]):=by
 refine⟨_,by rw[cR];exact e,fun t c=> ?_⟩;by_cases b:t=s
 ·subst b
  rw[jw,ay ak,OW h]
 ·rw[jS _ _ (fun d=>b (O6 c i d)),g t c]
  by_cases a:t∈keys
  ·rw[ay a,ay (by simp[a]),OV a]
  ·rw[au a,au (by simp[a,b])]
theorem kW.block{w:World}{M:Nat}{keys:List St}(b:kW w M keys):∃a c,w.heap[M]?=some (.map a c):=by obtain⟨f,d,_⟩:=b;exact d.block
theorem jV{w:World}{B a size n g:Nat}{v:Value}{xs:List Value}(c:w.ownsRow B a size v n xs)(b:v.ownBlock=some g):∃cs,w.heap[g]?=some (.cells cs a (0,0)):=by
 rcases c.2 with⟨d,_⟩|⟨i,cap,h,f,j,e,_⟩
 ·subst d;cases b
 ·subst f
  cases b
  exact⟨_,e⟩
theorem gR{w:World}{B b c size n X:Nat}{v:Value}{xs:List Value}{cs:Array Value}{d:Nat×Nat}(e:w.ownsRow B b size v n xs)(f:w.heap[X]?=some (.cells cs c d))(h:b≠c):v.ownBlock≠some X:=fun g=>by
 obtain⟨i,a⟩:=jV e g;rw[f]at a;injection a with a
 injection a with _ a
 exact h a.symm
theorem kD{w:World}{B b size n X:Nat}{v:Value}{xs:List Value}{d:Array MapEntry}{c:Nat}(e:w.ownsRow B b size v n xs)(f:w.heap[X]?=some (.map d c)):v.ownBlock≠some X:=fun g=>by obtain⟨h,a⟩:=jV e g;rw[f]at a;cases a
structure cw(W0 WL:World)(km kk:List St)(fn qa qm:Nat)(rows:List (List Nat))(kv nv fv:Value)(vs:List Value)(gv:Value)(gr:List Nat)(sv:Value)(sl:List St)(w:World):Prop where
 base:Below W0.heap.size WL w
 size:W0.heap.size+8<=w.heap.size
 map:kW w (W0.heap.size+2) km
 box:w.heap[W0.heap.size+5]?=some (.cells #[kv,nv,fv] 330)
 res:w.heap[W0.heap.size+1]?=some (.cells #[.slice none 0 0,.slice none 0 0,.slice none 0 0] 330)
 krow:w.ownsRow (W0.heap.size+3) 325 17 kv kk.length (flatS kk)
 nrow:w.ownsRow (W0.heap.size+3) 125 1 nv vs.length vs
 frow:∃ys,w.ownsRow (W0.heap.size+3) 367 2 fv fn ys
 cur:cW w (W0.heap.size+3) gv gr
 succ:w.ownsRow (W0.heap.size+3) 325 17 sv sl.length (flatS sl)
 len:vs.length=rows.length
 done:∀(j:Nat) (v:Value) (r:List Nat),vs[j]?=some v->rows[j]?=some r->cW w (W0.heap.size+3) v r
 gap:∀v∈vs,∀b,gv.ownBlock=some b->v.ownBlock≠some b
 sgap:∀b,sv.ownBlock=some b->kv.ownBlock≠some b
 q:gQ w (W0.heap.size+7) (W0.heap.size+8) (W0.heap.size+6) qa qm
section
variable{W0 WL w w':World} {km kk:List St} {fn qa qm:Nat} {rows:List (List Nat)} {kv nv fv:Value} {vs:List Value} {gv:Value} {gr:List Nat} {sv:Value} {sl:List St}
theorem gQ.move{Q B f a m X:Nat}(n:gQ w Q B f a m)(s:SQ Q w X)(r:X≠f)(t:w.heap.size<=w'.heap.size)(h:∀b,B<=b∨b=Q∨b=f->b<w.heap.size->b≠X->w'.heap[b]?=w.heap[b]?):gQ w' Q B f a m:=by
 obtain⟨o,u,sv,k,L,c,p,q⟩:=n;obtain⟨a1,j,l,v⟩:=s.apart c;obtain⟨ys,i⟩:=c.swaps;refine⟨o,u,sv,k,L,⟨?_,?_,⟨ys,?_⟩,c.apart,c.low,aJ c.lowB t,?_,c.obB,c.obQ⟩,p,q⟩
 ·exact(h Q (.inr (.inl rfl)) (aU c.box) (fun d=>l d.symm)).trans c.box
 ·exact aP c.items (fun g e=>h g (.inl (aF c.items e).1) (aF c.items e).2 (fun d=>a1 (d▸e)))
 ·exact aP i (fun g e=>h g (.inl (aF i e).1) (aF i e).2 (fun d=>j (d▸e)))
 ·exact(h f (.inr (.inr rfl)) (aU c.ob) (fun d=>r d.symm)).trans c.ob
theorem gQ.still{Q B e a m:Nat}(i:gQ w Q B e a m)(o:w.heap.size<=w'.heap.size)(f:∀b,B<=b∨b=Q∨b=e->b<w.heap.size->w'.heap[b]?=w.heap[b]?):gQ w' Q B e a m:=by
 obtain⟨j,p,sv,k,L,c,l,n⟩:=i;obtain⟨ys,h⟩:=c.swaps;refine⟨j,p,sv,k,L,⟨?_,?_,⟨ys,?_⟩,c.apart,c.low,aJ c.lowB o,?_,c.obB,c.obQ⟩,l,n⟩
 ·exact(f Q (.inr (.inl rfl)) (aU c.box)).trans c.box
 ·exact aP c.items (fun g d=>f g (.inl (aF c.items d).1) (aF c.items d).2)
 ·exact aP h (fun g d=>f g (.inl (aF h d).1) (aF h d).2)
 ·exact(f e (.inr (.inr rfl)) (aU c.ob)).trans c.ob
theorem cw.over(a:cw W0 WL km kk fn qa qm rows kv nv fv vs gv gr sv sl w)(m:w.heap.size<=w'.heap.size)(e:∀b,W0.heap.size<=b->b<w.heap.size->w'.heap[b]?=w.heap[b]?)(h:World)(o:Below W0.heap.size h w'):cw W0 h km kk fn qa qm rows kv nv fv vs gv gr sv sl w':=by
 have p:=a.size;have d:∀{B i size n:Nat} {v:Value} {xs:List Value},W0.heap.size<=B->w.ownsRow B i size v n xs->w'.ownsRow B i size v n xs:=fun s c=>aP c (fun g l=>e g (by have:=(aF c l).1;omega) (aF c l).2);obtain⟨ys,q⟩:=a.frow;exact⟨o,aJ p m,a.map.of_block (e _ ad ad),(e _ ad ad).trans a.box,(e _ ad ad).trans a.res,d ad a.krow,d ad a.nrow,⟨ys,d ad q⟩,d ad a.cur,d ad a.succ,a.len,
  fun j v r c f=>d ad (a.done j v r c f),a.gap,a.sgap,a.q.still m (fun b c f=>e b ad f)⟩
theorem cw.below(a:cw W0 WL km kk fn qa qm rows kv nv fv vs gv gr sv sl w)(c:Below w.heap.size w w'):cw W0 WL km kk fn qa qm rows kv nv fv vs gv gr sv sl w':=
 a.over c.size (fun b _ d=>c.block b d) WL (a.base.trans (c.mono (by have:=a.size;omega)))
theorem oI{WL w w':World}{d:Nat}{row:Option Nat}(h:d<=w.heap.size)(a:Below d WL w)(c:w.grownBy w' row)(g:∀b,row=some b->d<=b):Below d WL w':=
 ⟨c.os.trans a.os,c.tape.trans a.tape,c.output.trans a.output,aJ a.size c.size,fun k f=>(c.block k ad (fun e=>by have:=g k e.symm;omega)).trans (a.block k f)⟩
structure O7(W0 WL:World)(km:List St)(qa qm:Nat)(row:Option Nat)(w w':World):Prop where
 base:Below W0.heap.size WL w'
 size:W0.heap.size+8<=w'.heap.size
 map:some (W0.heap.size+2)≠row->kW w' (W0.heap.size+2) km
 box:some (W0.heap.size+5)≠row->w'.heap[W0.heap.size+5]?=w.heap[W0.heap.size+5]?
 res:some (W0.heap.size+1)≠row->w'.heap[W0.heap.size+1]?=w.heap[W0.heap.size+1]?
 rows:∀(B e size n:Nat) (v:Value) (xs:List Value),w.ownsRow B e size v n xs->(∀b,v.ownBlock=some b->some b≠row)->w'.ownsRow B e size v n xs
 q:gQ w' (W0.heap.size+7) (W0.heap.size+8) (W0.heap.size+6) qa qm
theorem cw.carry(c:cw W0 WL km kk fn qa qm rows kv nv fv vs gv gr sv sl w){row:Option Nat}(a:w.grownBy w' row)(j:∀b,row=some b->W0.heap.size<=b/\b≠W0.heap.size+6/\SQ (W0.heap.size+7) w b):O7 W0 WL km qa qm row w w':=by
 have o:=c.size;refine⟨oI ad c.base a (fun b f=>(j b f).1),aJ o a.size,fun e=>c.map.of_block (a.block _ ad e),fun e=>a.block _ ad e,fun e=>a.block _ ad e,fun B f size n v xs i d=>aP i (fun g h=>a.block g (aF i h).2 (d g h)),?_⟩;cases row with
 |none=>exact c.q.still a.size (fun b _ d=>a.block b d ak)
 |some X=>
  obtain⟨_,d,h⟩:=j X rfl;exact c.q.move h d a.size (fun b _ l m=>a.block b l (fun f=>m (by injection f)))
theorem oJ{w:World}{B a size n d c j n':Nat}{v u:Value}{xs ys:List Value}(e:w.ownsRow B a size v n xs)(k:w.ownsRow d c j u n' ys)(i:a≠c):∀b,v.ownBlock=some b->some b≠u.ownBlock:=fun b f g=>by obtain⟨cs,h⟩:=jV k g.symm;exact gR e h i f
theorem ie{w:World}{B a b size n X:Nat}{u:Value}{xs:List Value}{cs:Array Value}{c:Nat×Nat}(k:w.ownsRow B a size u n xs)(e:w.heap[X]?=some (.cells cs b c))(f:a≠b):some X≠u.ownBlock:=fun d=>gR k e f d.symm
theorem wP{w:World}{B a size n X:Nat}{u:Value}{xs:List Value}{b:Array MapEntry}{c:Nat}(k:w.ownsRow B a size u n xs)(e:w.heap[X]?=some (.map b c)):some X≠u.ownBlock:=fun d=>kD k e d.symm
theorem cw.row_sq(f:cw W0 WL km kk fn qa qm rows kv nv fv vs gv gr sv sl w){B c size n:Nat}{v:Value}{xs:List Value}(y:W0.heap.size<=B)(e:w.ownsRow B c size v n xs)(i:c≠414)(j:c≠105)(l:c≠420)(m:c≠373):
 ∀b,v.ownBlock=some b->W0.heap.size<=b/\b≠W0.heap.size+6/\SQ (W0.heap.size+7) w b:=fun b h=>by
 obtain⟨cs,a⟩:=jV e h;obtain⟨s,q⟩:=f.q.box;obtain⟨z,r⟩:=aF e h;have e:∃g,w.heap[W0.heap.size+6]?=some (.cells g 373):=by obtain⟨_,_,_,_,_,o,_⟩:=f.q;exact⟨_,o.ob⟩
 obtain⟨g,p⟩:=e;refine⟨ad,fun c=> ?_,f.q.sq (fun c=> ?_) r (fun t u x d=> ?_)⟩
 ·subst c
  rw[p]at a;injection a with a
  injection a with _ a
  exact m a.symm
 ·subst c
  rw[q]at a;injection a with a
  injection a with _ a
  exact l a.symm
 ·rw[a]at d
  injection d with d
  injection d with _ d
  subst d;exact⟨i,j⟩
theorem cw.cell_sq(e:cw W0 WL km kk fn qa qm rows kv nv fv vs gv gr sv sl w){X b:Nat}{cs:Array Value}{d:Nat×Nat}(c:w.heap[X]?=some (.cells cs b d))(f:b≠414)(g:b≠105)(h:X≠W0.heap.size+7):SQ (W0.heap.size+7) w X:=
 e.q.sq h (aU c) (fun i j l a=>by
  rw[c]at a;injection a with a
  injection a with _ a
  subst a;exact⟨f,g⟩)
theorem iz(w:World)(X o:Nat)(v:Value):w.grownBy (w.setCell ⟨X,o,none⟩ v) (some X):=⟨rfl,rfl,rfl,by rw[dE];exact az _,fun k _ b=>aS _ _ _ _ _ (fun a=>b (by rw[a]))⟩
theorem cw.mapPut(a:cw W0 WL km kk fn qa qm rows kv nv fv vs gv gr sv sl w)(p:w.grownBy w' (some (W0.heap.size+2))){i:List St}(q:kW w' (W0.heap.size+2) i):cw W0 WL i kk fn qa qm rows kv nv fv vs gv gr sv sl w':=by
 obtain⟨t,c,f⟩:=a.map.block;have C:=a.carry p (fun b d=>by
  injection d with d
  subst d;exact⟨ad,ad,a.q.sq ad (aU f) (fun cs d u h=>by rw[f]at h;cases h)⟩)
 have e:∀{B d size n:Nat} {v:Value} {xs:List Value},w.ownsRow B d size v n xs->w'.ownsRow B d size v n xs:=fun g=>C.rows _ _ _ _ _ _ g (fun b o d=>kD g f (by rw[o];exact d));obtain⟨ys,r⟩:=a.frow;exact⟨C.base,C.size,q,(C.box ak).trans a.box,(C.res ak).trans a.res,e a.krow,e a.nrow,⟨ys,e r⟩,e a.cur,e a.succ,a.len,fun j v s l m=>e (a.done j v s l m),a.gap,a.sgap,C.q⟩
theorem cw.queue(a:cw W0 WL km kk fn qa qm rows kv nv fv vs gv gr sv sl w)(d:bY (W0.heap.size+7) w w'){m o:Nat}(u:gQ w' (W0.heap.size+7) (W0.heap.size+8) (W0.heap.size+6) m o):cw W0 WL km kk fn m o rows kv nv fv vs gv gr sv sl w':=by
 have x:=a.size;have i:∀b,b<W0.heap.size+8->b≠W0.heap.size+7->w'.heap[b]?=w.heap[b]?:=fun b c h=>by obtain⟨_,_,_,_,_,r,_⟩:=a.q;exact(d.kp.same b (r.sq_low c h ad)).2
 have f:∀{B e size n:Nat} {v:Value} {xs:List Value},W0.heap.size<=B->e≠414->e≠105->e≠420->e≠373->w.ownsRow B e size v n xs->w'.ownsRow B e size v n xs:=fun s c h p q l=>aP l (fun g t=>(d.kp.same g (a.row_sq s l c h p q g t).2.2).2);obtain⟨ys,y⟩:=a.frow;refine⟨⟨d.os.trans a.base.os,d.tape.trans a.base.tape,d.output.trans a.base.output,aJ a.base.size d.kp.size,fun k c=>(i k ad ad).trans (a.base.block k c)⟩,aJ x d.kp.size,a.map.of_block (i _ ad ad),(i _ ad ad).trans a.box,(i _ ad ad).trans a.res,
  f ad ap ap ap ap a.krow,f ad ap ap ap ap a.nrow,⟨ys,f ad ap ap ap ap y⟩,f ad ap ap ap ap a.cur,f ad ap ap ap ap a.succ,a.len,fun j v z c h=>f ad ap ap ap ap (a.done j v z c h),a.gap,a.sgap,u⟩
theorem cw.setKeys(a:cw W0 WL km kk fn qa qm rows kv nv fv vs gv gr sv sl w){f:World}(o:w.grownBy f kv.ownBlock){i gc:Nat}{k:St}(E:f.ownsRow (W0.heap.size+3) 325 17 (.slice (some ⟨i,0,none⟩) (kk.length+1) gc) (kk.length+1) (flatS kk++bx k))(A:kv.ownBlock=some i∨i=w.heap.size):
 cw W0 WL km (kk++[k]) fn qa qm rows (.slice (some ⟨i,0,none⟩) (kk.length+1) gc) nv fv vs gv gr sv sl (f.setCell ⟨W0.heap.size+5,0,none⟩ (.slice (some ⟨i,0,none⟩) (kk.length+1) gc)):=by
 obtain⟨L,c,z⟩:=a.map.block;obtain⟨ys,t⟩:=a.frow;have C:=a.carry o (fun b h=>a.row_sq ad a.krow ap ap ap ap b h);have p:=(C.box (ie a.krow a.box ap)).trans a.box;have sgap:∀b,sv.ownBlock=some b->some b≠kv.ownBlock:=fun b e d=>a.sgap b e d.symm;have I:=C.rows _ _ _ _ _ _ a.nrow (oJ a.nrow a.krow ap);have K:=C.rows _ _ _ _ _ _ t (oJ t a.krow ap);have u:=C.rows _ _ _ _ _ _ a.cur (oJ a.cur a.krow ap);have J:=C.rows _ _ _ _ _ _ a.succ sgap;have d3:∀(j:Nat) (v:Value) (l:List Nat),vs[j]?=some v->rows[j]?=some l->cW f (W0.heap.size+3) v l:=fun j v l e d=>C.rows _ _ _ _ _ _ (a.done j v l e d) (oJ (a.done j v l e d) a.krow ap);have H:∀b,sv.ownBlock=some b->(Value.slice (some ⟨i,0,none⟩) (kk.length+1) gc).ownBlock≠some b:=fun b e d=>by
  injection d with d
  subst d;rcases A with q|q
  ·exact a.sgap _ e q
  ·have:=(aF a.succ e).2
   simp only at this;omega
 have m:∀{B h size n:Nat} {v:Value} {xs:List Value},h≠330->f.ownsRow B h size v n xs->(f.setCell ⟨W0.heap.size+5,0,none⟩ (.slice (some ⟨i,0,none⟩) (kk.length+1) gc)).ownsRow B h size v n xs:=fun D s=>aP s (fun g o=>aS _ _ _ _ _ (fun x=>gR s p D (by rw[o,x])));have G:=C.size;refine⟨oI ad C.base (iz f _ 0 _) (fun b h=>by injection h with h;omega),by rw[dE];exact G,(C.map (wP a.krow z)).of_block (aS _ _ _ _ _ ad),bn f _ 0 _ p,(aS _ _ _ _ _ ad).trans ((C.res (ie a.krow a.res ap)).trans a.res),
  ?_,m ap I,⟨ys,m ap K⟩,m ap u,m ap J,a.len,fun j v l e d=>m ap (d3 j v l e d),a.gap,H,?_⟩
 ·rw[cR,zY]
  have:=m ap E;simpa[flatS]using this
 ·have F:SQ (W0.heap.size+7) f (W0.heap.size+5):=by obtain⟨_,_,_,_,_,r,_⟩:=C.q;exact r.sq_low ad ad ad
  exact C.q.move F ad (by rw[dE];exact az _) (fun b _ r y=>aS _ _ _ _ _ y)
theorem cw.setFrom(a:cw W0 WL km kk fn qa qm rows kv nv fv vs gv gr sv sl w){e:World}(p:w.grownBy e fv.ownBlock){m gc:Nat}{zs:List Value}(z:e.ownsRow (W0.heap.size+3) 367 2 (.slice (some ⟨m,0,none⟩) (fn+1) gc) (fn+1) zs):
 cw W0 WL km kk (fn+1) qa qm rows kv nv (.slice (some ⟨m,0,none⟩) (fn+1) gc) vs gv gr sv sl (e.setCell ⟨W0.heap.size+5,2,none⟩ (.slice (some ⟨m,0,none⟩) (fn+1) gc)):=by
 obtain⟨F,c,y⟩:=a.map.block;obtain⟨ys,l⟩:=a.frow;have C:=a.carry p (fun b d=>a.row_sq ad l ap ap ap ap b d);have q:=(C.box (ie l a.box ap)).trans a.box;have i:∀{B d size n:Nat} {v:Value} {xs:List Value},d≠367->w.ownsRow B d size v n xs->e.ownsRow B d size v n xs:=fun o h=>C.rows _ _ _ _ _ _ h (oJ h l o);have f:∀{B d size n:Nat} {v:Value} {xs:List Value},d≠330->e.ownsRow B d size v n xs->(e.setCell ⟨W0.heap.size+5,2,none⟩ (.slice (some ⟨m,0,none⟩) (fn+1) gc)).ownsRow B d size v n xs:=fun o h=>aP h (fun g p=>aS _ _ _ _ _ (fun s=>gR h q o (by rw[p,s])));have D:=C.size;refine⟨oI ad C.base (iz e _ 2 _) (fun b d=>by injection d with d;omega),by rw[dE];exact D,(C.map (wP l y)).of_block (aS _ _ _ _ _ ad),bn e _ 2 _ q,(aS _ _ _ _ _ ad).trans ((C.res (ie l a.res ap)).trans a.res),
  f ap (i ap a.krow),f ap (i ap a.nrow),⟨zs,f ap z⟩,f ap (i ap a.cur),f ap (i ap a.succ),a.len,fun j v E t u=>f ap (i ap (a.done j v E t u)),a.gap,a.sgap,?_⟩
 have A:SQ (W0.heap.size+7) e (W0.heap.size+5):=by obtain⟨_,_,_,_,_,r,_⟩:=C.q;exact r.sq_low ad ad ad
 exact C.q.move A ad (by rw[dE];exact az _) (fun b _ r x=>aS _ _ _ _ _ x)
theorem cw.setNext(a:cw W0 WL km kk fn qa qm rows kv nv fv vs gv gr sv sl w){h:World}(r:w.grownBy h nv.ownBlock){o gc:Nat}(F:h.ownsRow (W0.heap.size+3) 125 1 (.slice (some ⟨o,0,none⟩) (vs.length+1) gc) (vs.length+1) (vs++[gv])):
 cw W0 WL km kk fn qa qm (rows++[gr]) kv (.slice (some ⟨o,0,none⟩) (vs.length+1) gc) fv (vs++[gv]) (.slice none 0 0) [] sv sl (h.setCell ⟨W0.heap.size+5,1,none⟩ (.slice (some ⟨o,0,none⟩) (vs.length+1) gc)):=by
 obtain⟨J,c,z⟩:=a.map.block;obtain⟨ys,I⟩:=a.frow;have C:=a.carry r (fun b d=>a.row_sq ad a.nrow ap ap ap ap b d);have t:=(C.box (ie a.nrow a.box ap)).trans a.box;have p:∀{B d size n:Nat} {v:Value} {xs:List Value},d≠125->w.ownsRow B d size v n xs->h.ownsRow B d size v n xs:=fun q l=>C.rows _ _ _ _ _ _ l (oJ l a.nrow q);have m:∀{B d size n:Nat} {v:Value} {xs:List Value},d≠330->h.ownsRow B d size v n xs->(h.setCell ⟨W0.heap.size+5,1,none⟩ (.slice (some ⟨o,0,none⟩) (vs.length+1) gc)).ownsRow B d size v n xs:=fun q l=>aP l (fun g r=>aS _ _ _ _ _ (fun x=>gR l t q (by rw[r,x])));have H:=C.size;have D:∀(j:Nat) (v:Value) (i:List Nat),(vs++[gv])[j]?=some v->(rows++[gr])[j]?=some i->cW w (W0.heap.size+3) v i:=fun j v i e f=>by
  have K:=a.len;rcases jg j vs.length with s|s
  ·rw[eP s]at e
   rw[eP ad]at f;exact a.done j v i e f
  ·have E:j=vs.length:=by
    have:=(aL.1 e).1;simp at this;omega
   rw[fZ s]at e;rw[fZ ad]at f;rw[E]at e f;simp at e;rw[show vs.length-rows.length=0 by omega]at f;simp at f;subst e;subst f;exact a.cur
 refine⟨oI ad C.base (iz h _ 1 _) (fun b d=>by injection d with d;omega),by rw[dE];exact H,(C.map (wP a.nrow z)).of_block (aS _ _ _ _ _ ad),bn h _ 1 _ t,(aS _ _ _ _ _ ad).trans ((C.res (ie a.nrow a.res ap)).trans a.res),
  m ap (p ap a.krow),by rw[cR];exact m ap F,⟨ys,m ap (p ap I)⟩,dc _ _ _ _,m ap (p ap a.succ),by simp[a.len],fun j v i e f=>m ap (p ap (D j v i e f)),(fun v L b A=>by cases A),a.sgap,?_⟩
 have G:SQ (W0.heap.size+7) h (W0.heap.size+5):=by obtain⟨_,_,_,_,_,u,_⟩:=C.q;exact u.sq_low ad ad ad
 exact C.q.move G ad (by rw[dE];exact az _) (fun b _ u y=>aS _ _ _ _ _ y)
theorem cw.goes(a:cw W0 WL km kk fn qa qm rows kv nv fv vs gv gr sv sl w){i:World}(x:w.grownBy i gv.ownBlock){g gc n:Nat}(y:i.ownsRow (W0.heap.size+3) 3 1 (.slice (some ⟨g,0,none⟩) (gr.length+1) gc) (gr.length+1) (fi gr++[.int .i64 ((n:Nat):Int)]))(t:gv.ownBlock=some g∨g=w.heap.size):
 cw W0 WL km kk fn qa qm rows kv nv fv vs (.slice (some ⟨g,0,none⟩) (gr.length+1) gc) (gr++[n]) sv sl i:=by
 obtain⟨E,c,s⟩:=a.map.block;obtain⟨ys,D⟩:=a.frow;have C:=a.carry x (fun b d=>a.row_sq ad a.cur ap ap ap ap b d);have h:∀{B d size n:Nat} {v:Value} {xs:List Value},d≠3->w.ownsRow B d size v n xs->i.ownsRow B d size v n xs:=fun u p=>C.rows _ _ _ _ _ _ p (oJ p a.cur u);refine⟨C.base,C.size,C.map (wP a.cur s),(C.box (ie a.cur a.box ap)).trans a.box,(C.res (ie a.cur a.res ap)).trans a.res,h ap a.krow,h ap a.nrow,⟨ys,h ap D⟩,?_,h ap a.succ,a.len,fun j v f l r=>C.rows _ _ _ _ _ _ (a.done j v f l r) (fun b e d=>a.gap v (aX l) b d.symm e),?_,a.sgap,C.q⟩
 ·unfold cW
  rw[cR];have d:fi (gr++[n])=fi gr++[.int .i64 ((n:Nat):Int)]:=by simp[fi]
  rw[d];exact y
 ·intro v q b e
  injection e with e
  subst e;rcases t with m|m
  ·exact a.gap v q _ m
  ·intro A
   obtain⟨j,o⟩:=xZ q;obtain⟨f,z⟩:∃f,rows[j]?=some f:=⟨_,aH (by rw[<-a.len];exact(aL.1 o).1)⟩;have:=(aF (a.done j v f o z) A).2;simp only at this;omega
theorem cw.succs(c:cw W0 WL km kk fn qa qm rows kv nv fv vs gv gr sv sl w){e:Nat}(g:w.grownBy w' (some e))(hF:e<W0.heap.size){i:Value}{d:List St}(h:w'.ownsRow w.heap.size 325 17 i d.length (flatS d)):cw W0 w' km kk fn qa qm rows kv nv fv vs gv gr i d w':=by have a:=c.over g.size (fun b m a=>g.block b a (fun f=>by injection f with f;omega)) w' (aE _ _);have n:=c.size;exact⟨a.base,a.size,a.map,a.box,a.res,a.krow,a.nrow,a.frow,a.cur,dR h ad,a.len,a.done,a.gap,fun b j l=>by have:=(aF h j).1;have:=(aF c.krow l).2;omega,a.q⟩
end
end Go.Proofs.YtnadadbndcdolaaGreatDoor
