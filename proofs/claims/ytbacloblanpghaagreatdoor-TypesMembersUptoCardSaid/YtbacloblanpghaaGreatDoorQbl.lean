import Derived.Test.YtbacloblanpghaaGreatDoorQbk
set_option linter.unusedVariables false
set_option linter.unusedSimpArgs false
set_option maxRecDepth 100000
set_option maxHeartbeats 0
namespace Go.Proofs.YtbacloblanpghaaGreatDoor
open Go.RowKit Tryz
def j8(a m:Nat):List It:=(List.range' a (m-a)).map fun r=>(r,r)
theorem Nh{a m:Nat}(b:a<=m):j8 a (m+1)=j8 a m++[(m,m)]:=by unfold j8;rw[show m+1-a=(m-a)+1 by omega,List.range'_concat,fd];simp;omega
theorem DL{a m:Nat}(b:a<m):j8 a m=(a,a)::j8 (a+1) m:=by unfold j8;rw[show m-a=(m-(a+1))+1 by omega,List.range'_succ,gX]
theorem yx(a m:Nat):(j8 a m).length=m-a:=by simp[j8]
theorem Ni{a m:Nat}{x:It}(b:x∈j8 a m):a<=x.1/\x=(x.1,x.1):=by unfold j8 at b;rw[kO]at b;obtain⟨r,c,rfl⟩:=b;rw[List.mem_range'_1]at c;exact⟨c.1,rfl⟩
def gE(W:World)(Q B b a m:Nat):Prop:=a<=m/\∃c d k L,dq W Q B b c d k m L/\gD cU L L.length/\L.Perm (j8 a m)
theorem gE.sq{W:World}{Q B j a m b:Nat}(o:gE W Q B j a m)(r:b≠Q)(q:b<W.heap.size)(i:∀cs c n,W.heap[b]?=some (.cells cs c n)->c≠368/\c≠328):SQ Q W b:=by
 obtain⟨_,t,u,k,L,d,_⟩:=o;refine d.sq (fun c=> ?_) (fun c=> ?_) r q
 ·rcases d.items.2 with⟨e,_⟩|⟨g,cap,l,h,p,f,_⟩
  ·subst e;cases c
  ·subst h
   cases c
   exact(i _ _ _ f).1 rfl
 ·obtain⟨ys,s⟩:=d.swaps
  rcases s.2 with⟨e,_⟩|⟨g,cap,l,h,p,f,_⟩
  ·subst e;cases c
  ·subst h
   cases c
   exact(i _ _ _ f).2 rfl
theorem gE.box{W:World}{Q B b a m:Nat}(c:gE W Q B b a m):∃cs,W.heap[Q]?=some (.cells cs 374):=by obtain⟨_,e,f,k,L,d,_⟩:=c;exact⟨_,d.box⟩
def Nj(W:World)(Q B b a m:Nat)(c:Ending)(w':World):Prop:=c=.returned (.int .i64 0)/\gE w' Q B b a (m+1)/\ca Q W w'
theorem DM(W:World)(Q B b a m:Nat)(e:gE W Q B b a m)(w:m<=1048575):Calls prog 230 #[.pointer (some ⟨Q,0,none⟩),.agg #[.int .i64 (m:Nat)]] W (Nj W Q B b a m):=by obtain⟨f,n,t,k,L,g,h,c⟩:=e;have l:=c.length_eq;rw[yx]at l;refine(Nd W Q B b k m m n t L g h ad ad).mono ?_;rintro v w' ⟨i,⟨o,u,p,d,q,r,s⟩,j⟩;exact⟨i,⟨ad,o,u,p,d,q,r,by rw[Nh f];exact s.trans (c.append_right _)⟩,j⟩
theorem Nk(W:World)(Q B a m:Nat)(b:gE W Q B a m m):Calls prog 231 #[.pointer (some ⟨Q,0,none⟩)] W (yv W Q):=by obtain⟨h,f,g,k,L,c,i,d⟩:=b;have e:=d.length_eq;rw[yx]at e;obtain rfl:=vr.1 (show L.length=0 by omega);exact Nf W Q B a k m f g c
def Nl(W:World)(Q B b a m:Nat)(c:Ending)(w':World):Prop:=c=.returned (.tuple #[.agg #[.int .i64 (a:Nat)],.int .i64 0])/\gE w' Q B b (a+1) m/\ca Q W w'
theorem Nm(W:World)(Q B c a m:Nat)(h:gE W Q B c a m)(e:a<m)(G:m<=1048575):Calls prog 231 #[.pointer (some ⟨Q,0,none⟩)] W (Nl W Q B c a m):=by
 obtain⟨E,u,A,k,L,i,j,b⟩:=h;have p:=b.length_eq;rw[yx]at p;refine(Ng W Q B c k m (m-a-1) u A L i j ad ad).mono ?_;rintro D w' ⟨x,n,q,⟨v,C,w,g,y,z,f⟩,o⟩;have r:x=(a,a):=by have s:x∈j8 a m:=b.subset (f.subset (f9 ..));have t:(a,a)∈L:=b.symm.subset (by rw[DL e];exact f9 ..);have d:=q _ t;obtain⟨F,l⟩:=Ni s;rw[l]at d⊢;simp[cU]at d;have:x.1=a:=ad;rw[this]
 subst r;refine⟨n,⟨ad,v,C,w,g,y,z,?_⟩,o⟩;rw[DL e]at b;exact(f.trans b).cons_inv
def Nn(W:World)(a:Ending)(w':World):Prop:=a=.returned (.tuple #[.pointer (some ⟨W.heap.size+1,0,none⟩),.int .i64 0])/\gE w' (W.heap.size+1) (W.heap.size+2) W.heap.size 0 0/\Below W.heap.size W w'
theorem No(W:World):Calls prog 228 #[.func (.func 229) #[] #[]] W (Nn W):=by refine(Na W).mono ?_;rintro e w' ⟨d,a,b⟩;exact⟨d,⟨aB _,_,_,_,[],a,fun k x y f c=>by simp at c,by simp[j8]⟩,b⟩
abbrev St:=Bool×Nat
def bk(s:St):List Value:=.bool s.1::setRow s.2
def flatS(L:List St):List Value:=L.flatMap bk
theorem qt(s:St):(bk s).length=17:=rfl
theorem Nu{s t:St}(a:bk s=bk t):s=t:=by obtain⟨b,m⟩:=s;obtain⟨c,n⟩:=t;unfold bk setRow at a;simp only[zq,Value.bool.injEq,Value.int.injEq]at a;obtain⟨d,⟨_,e⟩,_⟩:=a;have:m=n:=ad;rw[d,this]
theorem yz(L M:List St):flatS (L++M)=flatS L++flatS M:=by simp[flatS]
theorem Nv{L:List St}{i:Nat}{s:St}(a:L[i]?=some s){j:Nat}(c:j<17):(flatS L)[i*17+j]?=(bk s)[j]?:=by
 induction L generalizing i with
 |nil=>simp at a
 |cons x L ih=>
  have b:flatS (x::L)=bk x++flatS L:=rfl;rw[b];cases i with
  |zero=>
   simp at a;subst a;rw[eF (by rw[qt];omega)];simp
  |succ i=>
   rw[gH (by rw[qt];omega),qt,show(i+1)*17+j-17=i*17+j by omega];exact ih (by simpa using a)
theorem pw(s:St):∀v∈bk s,v.oneCell'=true:=by
 intro v a;unfold bk at a;rcases eH.1 a with rfl|a
 ·rfl
 ·exact eM _ v a
theorem ld:(prog.info? 264).map (·.size)=some 17:=ay
theorem yC{w:World}{B e g c:Nat}{L:List St}(f:w.ownsRow B e 17 (.slice (some ⟨g,0,none⟩) L.length c) L.length (flatS L)){i:Nat}{s:St}(b:L[i]?=some s):w.rangeAt g (i*17) (bk s):=by intro j v d;have a:=(aP.1 d).1;rw[qt]at a;have h:=(aP.1 b).1;exact(f.cellAt (i*17+j) ad).trans ((Nv b a).trans d)
theorem Nw:prog.cellsOf 188=1:=ay
theorem Nx:prog.cellsOf 4=1:=ay
theorem DP:prog.cellsOf 258=16:=ay
theorem DQ:prog.cellsOf 264=17:=ay
theorem Ny:prog.keyType 264=true:=ay
theorem DR(d n:Nat)(a:n<18446744073709551616):prog.keyLits (d+1) 188 [.int .u64 (n:Nat)]=some [.int .u64 (n:Nat)]:=by unfold Program.keyLits;rw[underlying188];simp only;rw[au ⟨trivial,by simp[Lit.wf,IntKind.min,IntKind.max,IntKind.signed,IntKind.bits];omega⟩]
theorem Nz(d m:Nat)(c:m<18446744073709551616):∃f,prog.keyLits (d+2) 258 (setRow m)=some f:=by unfold Program.keyLits;rw[eI];simp only;rw[au (by rw[DP];rfl)];rw[Nw];have a:=DR d 0 ad;have e:=DR d m c;have b:prog.keyLits (d+1) 188 [.int .u64 0]=some [.int .u64 0]:=a;simp[List.range,List.range.loop,setRow,b,e]
theorem NA(d:Nat)(s:St)(e:s.2<18446744073709551616):∃a,prog.keyLits (d+3) 264 (bk s)=some a:=by
 obtain⟨a,c⟩:=Nz d s.2 e;unfold Program.keyLits;rw[mg];simp only;rw[au ⟨by rw[DQ];rfl,ay⟩];have b:prog.keyLits (d+2) 4 [.bool s.1]=some [.bool s.1]:=by unfold Program.keyLits;rw[underlying4]
 simp[Nx,DP,bk,b];rw[show List.take 16 (setRow s.2)=setRow s.2 from rfl,c];simp
theorem NC:2<=prog.types.size:=by rw[<-Nat.ble_eq];kernel_rfl
theorem ND(s:St)(e:s.2<18446744073709551616):∃l,keyOf prog 264 (.agg (bk s).toArray)=some l:=by
 obtain⟨d,a⟩:∃d,prog.types.size+1=d+3:=⟨prog.types.size-2,by have:=NC;omega⟩;obtain⟨f,c⟩:=NA d s e;unfold keyOf;rw[mg];simp only;rw[Ny,a];have b:(Value.agg (bk s).toArray).formed prog 264=true:=by simp[Value.formed,mg,DQ,qt]
 rw[b];simp only[Bool.and_self,kf,Value.cells];rw[c];exact⟨_,rfl⟩
theorem qu:Maps.Keyed prog 264:=Maps.Keyed.of_law (deep_law_laid ay (m:=5) ad (by rw[<-Nat.blt_eq];kernel_rfl) ay (by rw[mg]))
noncomputable def oc(s:St):Lit:=(keyOf prog 264 (.agg (bk s).toArray)).getD (.bool false)
def iS(s:St):Prop:=s.2<18446744073709551616
theorem r8{s:St}(a:iS s):keyOf prog 264 (.agg (bk s).toArray)=some (oc s):=by obtain⟨l,b⟩:=ND s a;unfold oc;rw[b];rfl
theorem NE{s t:St}(c:iS s)(k:iS t)(b:oc s=oc t):s=t:=by
 have a:=r8 c;have d:=r8 k;rw[b]at a;have:=qu.inj a d;injection this with this
 exact Nu (by simpa using iK Array.toList this)
theorem DS{s:St}(a:iS s):WideAt.IsKeyLit (oc s):=qu.key (r8 a)
def kG(w:World)(M:Nat)(keys:List St):Prop:=
 ∃f,bn w prog 264 M keys.length f/\∀s,iS s->f (oc s)=if s∈keys then some (.int .i64 ((lX keys s:Nat):Int))else none
theorem bn.of_block{w w':World}{P:Program}{k:TypeId}{M n:Nat}{f:Lit->Option Value}(c:bn w P k M n f)(e:w'.heap[M]?=w.heap[M]?):bn w' P k M n f:=by obtain⟨a,⟨b,clock,g,F,i,d⟩,h⟩:=c;exact⟨a,⟨b,clock,e.trans g,F,i,d⟩,h⟩
theorem kG.of_block{w w':World}{M:Nat}{keys:List St}(a:kG w M keys)(d:w'.heap[M]?=w.heap[M]?):kG w' M keys:=by obtain⟨f,b,c⟩:=a;exact⟨f,b.of_block d,c⟩
theorem kG.put{w w':World}{M:Nat}{keys:List St}{f:Lit->Option Value}{s:St}(i:iS s)(g:∀t,iS t->f (oc t)=if t∈keys then some (.int .i64 ((lX keys t:Nat):Int))else none)(h:s∉keys)
 (e:bn w' prog 264 M (keys.length+1) (eO f (oc s) (.int .i64 ((keys.length:Nat):Int)))):kG w' M (keys++[s]):=by
 refine⟨_,by rw[cm];exact e,fun t c=> ?_⟩;by_cases b:t=s
 ·subst b
  rw[jz,au ak,Nq h]
 ·rw[jX _ _ (fun d=>b (NE c i d)),g t c]
  by_cases a:t∈keys
  ·rw[au a,au (by simp[a]),Np a]
  ·rw[ap a,ap (by simp[a,b])]
theorem kG.block{w:World}{M:Nat}{keys:List St}(b:kG w M keys):∃a c,w.heap[M]?=some (.map a c):=by obtain⟨f,d,_⟩:=b;exact d.block
theorem mP{w:World}{B a size n g:Nat}{v:Value}{xs:List Value}(c:w.ownsRow B a size v n xs)(b:v.ownBlock=some g):∃cs,w.heap[g]?=some (.cells cs a (0,0)):=by
 rcases c.2 with⟨d,_⟩|⟨i,cap,h,f,j,e,_⟩
 ·subst d;cases b
 ·subst f
  cases b
  exact⟨_,e⟩
theorem iD{w:World}{B b c size n X:Nat}{v:Value}{xs:List Value}{cs:Array Value}{d:Nat×Nat}(e:w.ownsRow B b size v n xs)(f:w.heap[X]?=some (.cells cs c d))(h:b≠c):v.ownBlock≠some X:=fun g=>by
 obtain⟨i,a⟩:=mP e g;rw[f]at a;injection a with a
 injection a with _ a
 exact h a.symm
theorem mQ{w:World}{B b size n X:Nat}{v:Value}{xs:List Value}{d:Array MapEntry}{c:Nat}(e:w.ownsRow B b size v n xs)(f:w.heap[X]?=some (.map d c)):v.ownBlock≠some X:=fun g=>by obtain⟨h,a⟩:=mP e g;rw[f]at a;cases a
structure ck(W0 WL:World)(km kk:List St)(fn qa qm:Nat)(rows:List (List Nat))(kv nv fv:Value)(vs:List Value)(gv:Value)(gr:List Nat)(sv:Value)(sl:List St)(w:World):Prop where
 base:Below W0.heap.size WL w
 size:W0.heap.size+8<=w.heap.size
 map:kG w (W0.heap.size+2) km
 box:w.heap[W0.heap.size+5]?=some (.cells #[kv,nv,fv] 271)
 res:w.heap[W0.heap.size+1]?=some (.cells #[.slice none 0 0,.slice none 0 0,.slice none 0 0] 271)
 krow:w.ownsRow (W0.heap.size+3) 264 17 kv kk.length (flatS kk)
 nrow:w.ownsRow (W0.heap.size+3) 53 1 nv vs.length vs
 frow:∃ys,w.ownsRow (W0.heap.size+3) 317 2 fv fn ys
 cur:cO w (W0.heap.size+3) gv gr
 succ:w.ownsRow (W0.heap.size+3) 264 17 sv sl.length (flatS sl)
 len:vs.length=rows.length
 done:∀(j:Nat) (v:Value) (r:List Nat),vs[j]?=some v->rows[j]?=some r->cO w (W0.heap.size+3) v r
 gap:∀v∈vs,∀b,gv.ownBlock=some b->v.ownBlock≠some b
 sgap:∀b,sv.ownBlock=some b->kv.ownBlock≠some b
 q:gE w (W0.heap.size+7) (W0.heap.size+8) (W0.heap.size+6) qa qm
section
variable{W0 WL w w':World} {km kk:List St} {fn qa qm:Nat} {rows:List (List Nat)} {kv nv fv:Value} {vs:List Value} {gv:Value} {gr:List Nat} {sv:Value} {sl:List St}
theorem gE.move{Q B f a m X:Nat}(n:gE w Q B f a m)(s:SQ Q w X)(r:X≠f)(t:w.heap.size<=w'.heap.size)(h:∀b,B<=b∨b=Q∨b=f->b<w.heap.size->b≠X->w'.heap[b]?=w.heap[b]?):gE w' Q B f a m:=by
 obtain⟨o,u,sv,k,L,c,p,q⟩:=n;obtain⟨a1,j,l,v⟩:=s.apart c;obtain⟨ys,i⟩:=c.swaps;refine⟨o,u,sv,k,L,⟨?_,?_,⟨ys,?_⟩,c.apart,c.low,aR c.lowB t,?_,c.obB,c.obQ⟩,p,q⟩
 ·exact(h Q (.inr (.inl rfl)) (aN c.box) (fun d=>l d.symm)).trans c.box
 ·exact aY c.items (fun g e=>h g (.inl (aV c.items e).1) (aV c.items e).2 (fun d=>a1 (d▸e)))
 ·exact aY i (fun g e=>h g (.inl (aV i e).1) (aV i e).2 (fun d=>j (d▸e)))
 ·exact(h f (.inr (.inr rfl)) (aN c.ob) (fun d=>r d.symm)).trans c.ob
theorem gE.still{Q B e a m:Nat}(i:gE w Q B e a m)(o:w.heap.size<=w'.heap.size)(f:∀b,B<=b∨b=Q∨b=e->b<w.heap.size->w'.heap[b]?=w.heap[b]?):gE w' Q B e a m:=by
 obtain⟨j,p,sv,k,L,c,l,n⟩:=i;obtain⟨ys,h⟩:=c.swaps;refine⟨j,p,sv,k,L,⟨?_,?_,⟨ys,?_⟩,c.apart,c.low,aR c.lowB o,?_,c.obB,c.obQ⟩,l,n⟩
 ·exact(f Q (.inr (.inl rfl)) (aN c.box)).trans c.box
 ·exact aY c.items (fun g d=>f g (.inl (aV c.items d).1) (aV c.items d).2)
 ·exact aY h (fun g d=>f g (.inl (aV h d).1) (aV h d).2)
 ·exact(f e (.inr (.inr rfl)) (aN c.ob)).trans c.ob
theorem ck.over(a:ck W0 WL km kk fn qa qm rows kv nv fv vs gv gr sv sl w)(m:w.heap.size<=w'.heap.size)(e:∀b,W0.heap.size<=b->b<w.heap.size->w'.heap[b]?=w.heap[b]?)(h:World)(o:Below W0.heap.size h w'):ck W0 h km kk fn qa qm rows kv nv fv vs gv gr sv sl w':=by
 have p:=a.size;have d:∀{B i size n:Nat} {v:Value} {xs:List Value},W0.heap.size<=B->w.ownsRow B i size v n xs->w'.ownsRow B i size v n xs:=fun s c=>aY c (fun g l=>e g (by have:=(aV c l).1;omega) (aV c l).2);obtain⟨ys,q⟩:=a.frow;exact⟨o,aR p m,a.map.of_block (e _ ad ad),(e _ ad ad).trans a.box,(e _ ad ad).trans a.res,d ad a.krow,d ad a.nrow,⟨ys,d ad q⟩,d ad a.cur,d ad a.succ,a.len,
  fun j v r c f=>d ad (a.done j v r c f),a.gap,a.sgap,a.q.still m (fun b c f=>e b ad f)⟩
theorem ck.below(a:ck W0 WL km kk fn qa qm rows kv nv fv vs gv gr sv sl w)(c:Below w.heap.size w w'):ck W0 WL km kk fn qa qm rows kv nv fv vs gv gr sv sl w':=
 a.over c.size (fun b _ d=>c.block b d) WL (a.base.trans (c.mono (by have:=a.size;omega)))
theorem od{WL w w':World}{d:Nat}{row:Option Nat}(h:d<=w.heap.size)(a:Below d WL w)(c:w.grownBy w' row)(g:∀b,row=some b->d<=b):Below d WL w':=
 ⟨c.os.trans a.os,c.tape.trans a.tape,c.output.trans a.output,aR a.size c.size,fun k f=>(c.block k ad (fun e=>by have:=g k e.symm;omega)).trans (a.block k f)⟩
structure NF(W0 WL:World)(km:List St)(qa qm:Nat)(row:Option Nat)(w w':World):Prop where
 base:Below W0.heap.size WL w'
 size:W0.heap.size+8<=w'.heap.size
 map:some (W0.heap.size+2)≠row->kG w' (W0.heap.size+2) km
 box:some (W0.heap.size+5)≠row->w'.heap[W0.heap.size+5]?=w.heap[W0.heap.size+5]?
 res:some (W0.heap.size+1)≠row->w'.heap[W0.heap.size+1]?=w.heap[W0.heap.size+1]?
 rows:∀(B e size n:Nat) (v:Value) (xs:List Value),w.ownsRow B e size v n xs->(∀b,v.ownBlock=some b->some b≠row)->w'.ownsRow B e size v n xs
 q:gE w' (W0.heap.size+7) (W0.heap.size+8) (W0.heap.size+6) qa qm
theorem ck.carry(c:ck W0 WL km kk fn qa qm rows kv nv fv vs gv gr sv sl w){row:Option Nat}(a:w.grownBy w' row)(j:∀b,row=some b->W0.heap.size<=b/\b≠W0.heap.size+6/\SQ (W0.heap.size+7) w b):NF W0 WL km qa qm row w w':=by
 have o:=c.size;refine⟨od ad c.base a (fun b f=>(j b f).1),aR o a.size,fun e=>c.map.of_block (a.block _ ad e),fun e=>a.block _ ad e,fun e=>a.block _ ad e,fun B f size n v xs i d=>aY i (fun g h=>a.block g (aV i h).2 (d g h)),?_⟩;cases row with
 |none=>exact c.q.still a.size (fun b _ d=>a.block b d ak)
 |some X=>
  obtain⟨_,d,h⟩:=j X rfl;exact c.q.move h d a.size (fun b _ l m=>a.block b l (fun f=>m (by injection f)))
theorem oe{w:World}{B a size n B' c i n':Nat}{v u:Value}{xs ys:List Value}(d:w.ownsRow B a size v n xs)(k:w.ownsRow B' c i u n' ys)(h:a≠c):∀b,v.ownBlock=some b->some b≠u.ownBlock:=fun b e f=>by obtain⟨cs,g⟩:=mP k f.symm;exact iD d g h e
theorem gT{w:World}{B a b size n X:Nat}{u:Value}{xs:List Value}{cs:Array Value}{c:Nat×Nat}(k:w.ownsRow B a size u n xs)(e:w.heap[X]?=some (.cells cs b c))(f:a≠b):some X≠u.ownBlock:=fun d=>iD k e f d.symm
theorem uS{w:World}{B a size n X:Nat}{u:Value}{xs:List Value}{b:Array MapEntry}{c:Nat}(k:w.ownsRow B a size u n xs)(e:w.heap[X]?=some (.map b c)):some X≠u.ownBlock:=fun d=>mQ k e d.symm
theorem ck.row_sq(f:ck W0 WL km kk fn qa qm rows kv nv fv vs gv gr sv sl w){B c size n:Nat}{v:Value}{xs:List Value}(y:W0.heap.size<=B)(e:w.ownsRow B c size v n xs)(i:c≠368)(j:c≠328)(l:c≠374)(m:c≠323):
 ∀b,v.ownBlock=some b->W0.heap.size<=b/\b≠W0.heap.size+6/\SQ (W0.heap.size+7) w b:=fun b h=>by
 obtain⟨cs,a⟩:=mP e h;obtain⟨s,q⟩:=f.q.box;obtain⟨z,r⟩:=aV e h;have e:∃g,w.heap[W0.heap.size+6]?=some (.cells g 323):=by obtain⟨_,_,_,_,_,o,_⟩:=f.q;exact⟨_,o.ob⟩
 obtain⟨g,p⟩:=e;refine⟨ad,fun c=> ?_,f.q.sq (fun c=> ?_) r (fun t u x d=> ?_)⟩
 ·subst c
  rw[p]at a;injection a with a
  injection a with _ a
  exact m a.symm
 ·subst c
  rw[q]at a;injection a with a
  injection a with _ a
  exact l a.symm
 ·rw[a]at d
  injection d with d
  injection d with _ d
  subst d;exact⟨i,j⟩
theorem ck.cell_sq(e:ck W0 WL km kk fn qa qm rows kv nv fv vs gv gr sv sl w){X b:Nat}{cs:Array Value}{d:Nat×Nat}(c:w.heap[X]?=some (.cells cs b d))(f:b≠368)(g:b≠328)(h:X≠W0.heap.size+7):SQ (W0.heap.size+7) w X:=
 e.q.sq h (aN c) (fun i j l a=>by
  rw[c]at a;injection a with a
  injection a with _ a
  subst a;exact⟨f,g⟩)
theorem yD(w:World)(X o:Nat)(v:Value):w.grownBy (w.setCell ⟨X,o,none⟩ v) (some X):=⟨rfl,rfl,rfl,by rw[dK];exact aB _,fun k _ b=>aX _ _ _ _ _ (fun a=>b (by rw[a]))⟩
theorem ck.mapPut(a:ck W0 WL km kk fn qa qm rows kv nv fv vs gv gr sv sl w)(p:w.grownBy w' (some (W0.heap.size+2))){i:List St}(q:kG w' (W0.heap.size+2) i):ck W0 WL i kk fn qa qm rows kv nv fv vs gv gr sv sl w':=by
 obtain⟨t,c,f⟩:=a.map.block;have C:=a.carry p (fun b d=>by
  injection d with d
  subst d;exact⟨ad,ad,a.q.sq ad (aN f) (fun cs d u h=>by rw[f]at h;cases h)⟩)
 have e:∀{B d size n:Nat} {v:Value} {xs:List Value},w.ownsRow B d size v n xs->w'.ownsRow B d size v n xs:=fun g=>C.rows _ _ _ _ _ _ g (fun b o d=>mQ g f (by rw[o];exact d));obtain⟨ys,s⟩:=a.frow;exact⟨C.base,C.size,q,(C.box ak).trans a.box,(C.res ak).trans a.res,e a.krow,e a.nrow,⟨ys,e s⟩,e a.cur,e a.succ,a.len,fun j v r l m=>e (a.done j v r l m),a.gap,a.sgap,C.q⟩
theorem ck.queue(a:ck W0 WL km kk fn qa qm rows kv nv fv vs gv gr sv sl w)(d:ca (W0.heap.size+7) w w'){m o:Nat}(x:gE w' (W0.heap.size+7) (W0.heap.size+8) (W0.heap.size+6) m o):ck W0 WL km kk fn m o rows kv nv fv vs gv gr sv sl w':=by
 have y:=a.size;have i:∀b,b<W0.heap.size+8->b≠W0.heap.size+7->w'.heap[b]?=w.heap[b]?:=fun b c h=>by obtain⟨_,_,_,_,_,s,_⟩:=a.q;exact(d.kp.same b (s.sq_low c h ad)).2
 have f:∀{B e size n:Nat} {v:Value} {xs:List Value},W0.heap.size<=B->e≠368->e≠328->e≠374->e≠323->w.ownsRow B e size v n xs->w'.ownsRow B e size v n xs:=fun t c h p q l=>aY l (fun g u=>(d.kp.same g (a.row_sq t l c h p q g u).2.2).2);obtain⟨ys,z⟩:=a.frow;refine⟨⟨d.os.trans a.base.os,d.tape.trans a.base.tape,d.output.trans a.base.output,aR a.base.size d.kp.size,fun k c=>(i k ad ad).trans (a.base.block k c)⟩,aR y d.kp.size,a.map.of_block (i _ ad ad),(i _ ad ad).trans a.box,(i _ ad ad).trans a.res,
  f ad aw aw aw aw a.krow,f ad aw aw aw aw a.nrow,⟨ys,f ad aw aw aw aw z⟩,f ad aw aw aw aw a.cur,f ad aw aw aw aw a.succ,a.len,fun j v r c h=>f ad aw aw aw aw (a.done j v r c h),a.gap,a.sgap,x⟩
theorem ck.setKeys(a:ck W0 WL km kk fn qa qm rows kv nv fv vs gv gr sv sl w){f:World}(m:w.grownBy f kv.ownBlock){i gc:Nat}{k:St}(F:f.ownsRow (W0.heap.size+3) 264 17 (.slice (some ⟨i,0,none⟩) (kk.length+1) gc) (kk.length+1) (flatS kk++bk k))(D:kv.ownBlock=some i∨i=w.heap.size):
 ck W0 WL km (kk++[k]) fn qa qm rows (.slice (some ⟨i,0,none⟩) (kk.length+1) gc) nv fv vs gv gr sv sl (f.setCell ⟨W0.heap.size+5,0,none⟩ (.slice (some ⟨i,0,none⟩) (kk.length+1) gc)):=by
 obtain⟨M,c,A⟩:=a.map.block;obtain⟨ys,t⟩:=a.frow;have C:=a.carry m (fun b h=>a.row_sq ad a.krow aw aw aw aw b h);have o:=(C.box (gT a.krow a.box aw)).trans a.box;have sgap:∀b,sv.ownBlock=some b->some b≠kv.ownBlock:=fun b e d=>a.sgap b e d.symm;have J:=C.rows _ _ _ _ _ _ a.nrow (oe a.nrow a.krow aw);have L:=C.rows _ _ _ _ _ _ t (oe t a.krow aw);have u:=C.rows _ _ _ _ _ _ a.cur (oe a.cur a.krow aw);have K:=C.rows _ _ _ _ _ _ a.succ sgap;have x:∀(j:Nat) (v:Value) (r:List Nat),vs[j]?=some v->rows[j]?=some r->cO f (W0.heap.size+3) v r:=fun j v r e d=>C.rows _ _ _ _ _ _ (a.done j v r e d) (oe (a.done j v r e d) a.krow aw);have I:∀b,sv.ownBlock=some b->(Value.slice (some ⟨i,0,none⟩) (kk.length+1) gc).ownBlock≠some b:=fun b e d=>by
  injection d with d
  subst d;rcases D with p|p
  ·exact a.sgap _ e p
  ·have:=(aV a.succ e).2
   simp only at this;omega
 have l:∀{B h size n:Nat} {v:Value} {xs:List Value},h≠271->f.ownsRow B h size v n xs->(f.setCell ⟨W0.heap.size+5,0,none⟩ (.slice (some ⟨i,0,none⟩) (kk.length+1) gc)).ownsRow B h size v n xs:=fun E s=>aY s (fun g m=>aX _ _ _ _ _ (fun y=>iD s o E (by rw[m,y])));have H:=C.size;refine⟨od ad C.base (yD f _ 0 _) (fun b h=>by injection h with h;omega),by rw[dK];exact H,(C.map (uS a.krow A)).of_block (aX _ _ _ _ _ ad),bL f _ 0 _ o,(aX _ _ _ _ _ ad).trans ((C.res (gT a.krow a.res aw)).trans a.res),
  ?_,l aw J,⟨ys,l aw L⟩,l aw u,l aw K,a.len,fun j v r e d=>l aw (x j v r e d),a.gap,I,?_⟩
 ·rw[cm,yz]
  have:=l aw F;simpa[flatS]using this
 ·have G:SQ (W0.heap.size+7) f (W0.heap.size+5):=by obtain⟨_,_,_,_,_,q,_⟩:=C.q;exact q.sq_low ad ad ad
  exact C.q.move G ad (by rw[dK];exact aB _) (fun b _ q z=>aX _ _ _ _ _ z)
theorem ck.setFrom(a:ck W0 WL km kk fn qa qm rows kv nv fv vs gv gr sv sl w){e:World}(p:w.grownBy e fv.ownBlock){m gc:Nat}{zs:List Value}(A:e.ownsRow (W0.heap.size+3) 317 2 (.slice (some ⟨m,0,none⟩) (fn+1) gc) (fn+1) zs):
 ck W0 WL km kk (fn+1) qa qm rows kv nv (.slice (some ⟨m,0,none⟩) (fn+1) gc) vs gv gr sv sl (e.setCell ⟨W0.heap.size+5,2,none⟩ (.slice (some ⟨m,0,none⟩) (fn+1) gc)):=by
 obtain⟨F,c,z⟩:=a.map.block;obtain⟨ys,l⟩:=a.frow;have C:=a.carry p (fun b d=>a.row_sq ad l aw aw aw aw b d);have q:=(C.box (gT l a.box aw)).trans a.box;have i:∀{B d size n:Nat} {v:Value} {xs:List Value},d≠317->w.ownsRow B d size v n xs->e.ownsRow B d size v n xs:=fun o h=>C.rows _ _ _ _ _ _ h (oe h l o);have f:∀{B d size n:Nat} {v:Value} {xs:List Value},d≠271->e.ownsRow B d size v n xs->(e.setCell ⟨W0.heap.size+5,2,none⟩ (.slice (some ⟨m,0,none⟩) (fn+1) gc)).ownsRow B d size v n xs:=fun o h=>aY h (fun g p=>aX _ _ _ _ _ (fun t=>iD h q o (by rw[p,t])));have E:=C.size;refine⟨od ad C.base (yD e _ 2 _) (fun b d=>by injection d with d;omega),by rw[dK];exact E,(C.map (uS l z)).of_block (aX _ _ _ _ _ ad),bL e _ 2 _ q,(aX _ _ _ _ _ ad).trans ((C.res (gT l a.res aw)).trans a.res),
  f aw (i aw a.krow),f aw (i aw a.nrow),⟨zs,f aw A⟩,f aw (i aw a.cur),f aw (i aw a.succ),a.len,fun j v r u x=>f aw (i aw (a.done j v r u x)),a.gap,a.sgap,?_⟩
 have D:SQ (W0.heap.size+7) e (W0.heap.size+5):=by obtain⟨_,_,_,_,_,s,_⟩:=C.q;exact s.sq_low ad ad ad
 exact C.q.move D ad (by rw[dK];exact aB _) (fun b _ s y=>aX _ _ _ _ _ y)
theorem ck.setNext(a:ck W0 WL km kk fn qa qm rows kv nv fv vs gv gr sv sl w){h:World}(q:w.grownBy h nv.ownBlock){m gc:Nat}(F:h.ownsRow (W0.heap.size+3) 53 1 (.slice (some ⟨m,0,none⟩) (vs.length+1) gc) (vs.length+1) (vs++[gv])):
 ck W0 WL km kk fn qa qm (rows++[gr]) kv (.slice (some ⟨m,0,none⟩) (vs.length+1) gc) fv (vs++[gv]) (.slice none 0 0) [] sv sl (h.setCell ⟨W0.heap.size+5,1,none⟩ (.slice (some ⟨m,0,none⟩) (vs.length+1) gc)):=by
 obtain⟨J,c,z⟩:=a.map.block;obtain⟨ys,I⟩:=a.frow;have C:=a.carry q (fun b d=>a.row_sq ad a.nrow aw aw aw aw b d);have t:=(C.box (gT a.nrow a.box aw)).trans a.box;have o:∀{B d size n:Nat} {v:Value} {xs:List Value},d≠53->w.ownsRow B d size v n xs->h.ownsRow B d size v n xs:=fun p i=>C.rows _ _ _ _ _ _ i (oe i a.nrow p);have l:∀{B d size n:Nat} {v:Value} {xs:List Value},d≠271->h.ownsRow B d size v n xs->(h.setCell ⟨W0.heap.size+5,1,none⟩ (.slice (some ⟨m,0,none⟩) (vs.length+1) gc)).ownsRow B d size v n xs:=fun p i=>aY i (fun g q=>aX _ _ _ _ _ (fun x=>iD i t p (by rw[q,x])));have H:=C.size;have D:∀(j:Nat) (v:Value) (r:List Nat),(vs++[gv])[j]?=some v->(rows++[gr])[j]?=some r->cO w (W0.heap.size+3) v r:=fun j v r e f=>by
  have K:=a.len;rcases ow j vs.length with s|s
  ·rw[eF s]at e
   rw[eF ad]at f;exact a.done j v r e f
  ·have E:j=vs.length:=by
    have:=(aP.1 e).1;simp at this;omega
   rw[gH s]at e;rw[gH ad]at f;rw[E]at e f;simp at e;rw[show vs.length-rows.length=0 by omega]at f;simp at f;subst e;subst f;exact a.cur
 refine⟨od ad C.base (yD h _ 1 _) (fun b d=>by injection d with d;omega),by rw[dK];exact H,(C.map (uS a.nrow z)).of_block (aX _ _ _ _ _ ad),bL h _ 1 _ t,(aX _ _ _ _ _ ad).trans ((C.res (gT a.nrow a.res aw)).trans a.res),
  l aw (o aw a.krow),by rw[cm];exact l aw F,⟨ys,l aw (o aw I)⟩,cR _ _ _ _,l aw (o aw a.succ),by simp[a.len],fun j v r e f=>l aw (o aw (D j v r e f)),(fun v L b A=>by cases A),a.sgap,?_⟩
 have G:SQ (W0.heap.size+7) h (W0.heap.size+5):=by obtain⟨_,_,_,_,_,u,_⟩:=C.q;exact u.sq_low ad ad ad
 exact C.q.move G ad (by rw[dK];exact aB _) (fun b _ u y=>aX _ _ _ _ _ y)
theorem ck.goes(a:ck W0 WL km kk fn qa qm rows kv nv fv vs gv gr sv sl w){h:World}(x:w.grownBy h gv.ownBlock){f gc n:Nat}(y:h.ownsRow (W0.heap.size+3) 3 1 (.slice (some ⟨f,0,none⟩) (gr.length+1) gc) (gr.length+1) (fj gr++[.int .i64 ((n:Nat):Int)]))(t:gv.ownBlock=some f∨f=w.heap.size):
 ck W0 WL km kk fn qa qm rows kv nv fv vs (.slice (some ⟨f,0,none⟩) (gr.length+1) gc) (gr++[n]) sv sl h:=by
 obtain⟨E,c,s⟩:=a.map.block;obtain⟨ys,D⟩:=a.frow;have C:=a.carry x (fun b d=>a.row_sq ad a.cur aw aw aw aw b d);have g:∀{B d size n:Nat} {v:Value} {xs:List Value},d≠3->w.ownsRow B d size v n xs->h.ownsRow B d size v n xs:=fun u o=>C.rows _ _ _ _ _ _ o (oe o a.cur u);refine⟨C.base,C.size,C.map (uS a.cur s),(C.box (gT a.cur a.box aw)).trans a.box,(C.res (gT a.cur a.res aw)).trans a.res,g aw a.krow,g aw a.nrow,⟨ys,g aw D⟩,?_,g aw a.succ,a.len,fun j v r i q=>C.rows _ _ _ _ _ _ (a.done j v r i q) (fun b e d=>a.gap v (aU i) b d.symm e),?_,a.sgap,C.q⟩
 ·unfold cO
  rw[cm];have d:fj (gr++[n])=fj gr++[.int .i64 ((n:Nat):Int)]:=by simp[fj]
  rw[d];exact y
 ·intro v p b e
  injection e with e
  subst e;rcases t with l|l
  ·exact a.gap v p _ l
  ·intro A
   obtain⟨j,m⟩:=zu p;obtain⟨r,z⟩:∃r,rows[j]?=some r:=⟨_,aF (by rw[<-a.len];exact(aP.1 m).1)⟩;have:=(aV (a.done j v r m z) A).2;simp only at this;omega
theorem ck.succs(c:ck W0 WL km kk fn qa qm rows kv nv fv vs gv gr sv sl w){e:Nat}(g:w.grownBy w' (some e))(hF:e<W0.heap.size){i:Value}{d:List St}(h:w'.ownsRow w.heap.size 264 17 i d.length (flatS d)):ck W0 w' km kk fn qa qm rows kv nv fv vs gv gr i d w':=by have a:=c.over g.size (fun b m a=>g.block b a (fun f=>by injection f with f;omega)) w' (aA _ _);have n:=c.size;exact⟨a.base,a.size,a.map,a.box,a.res,a.krow,a.nrow,a.frow,a.cur,fY h ad,a.len,a.done,a.gap,fun b j l=>by have:=(aV h j).1;have:=(aV c.krow l).2;omega,a.q⟩
end
end Go.Proofs.YtbacloblanpghaaGreatDoor
