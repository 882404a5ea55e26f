import Derived.Test.YtfeidcmojcijpaaGreatDoorQaz
set_option linter.all false
set_option maxRecDepth 100000
set_option maxHeartbeats 0
namespace Go.Proofs.YtfeidcmojcijpaaGreatDoor
open Go.RowKit Tryz
def mq(a m:Nat):List It:=(List.range' a (m-a)).map fun r=>(r,r)
def Ru{a m}(b:a<=m):mq a (m+1)=mq a m++[(m,m)]:=by unfold mq;rw[show m+1-a=(m-a)+1 by omega,List.range'_concat,gL];simp;omega
def GU{a m}(b:a<m):mq a m=(a,a)::mq (a+1) m:=by unfold mq;rw[show m-a=(m-(a+1))+1 by omega,List.range'_succ,dZ]
def BK a m:(mq a m)=m-a:=by simp[mq]
def Rv{a m x}(b:x∈mq a m):a<=x.1/\x=(x.1,x.1):=by unfold mq at b;rw[dL]at b;obtain⟨r,c,rfl⟩:=b;rw[List.mem_range'_1]at c;exact⟨c.1,rfl⟩
def iO(W:World)(Q b c a m:Nat):Prop:=a<=m/\∃d e k L,eL W Q b c d e k m L/\gx gh L L/\L.Perm (mq a m)
def iO.sq{W:World}{Q i j a m b:Nat}(o:iO W Q i j a m)(r:b≠Q)(q:b<W.heap.size)(h:∀cs e n,W.heap[b]?=some (.cells cs e n)->e≠341/\e≠307):SQ Q W b:=by
 obtain⟨_,t,u,k,L,c,_⟩:=o;refine c.sq (fun e=> ?_) (fun e=> ?_) r q;rcases c.zt.2 with⟨d,_⟩|⟨g,cap,l,hv,p,f,_⟩
 subst d;cases e;subst hv;cases e
 exact(h _ _ _ f).1 rfl;obtain⟨ys,s⟩:=c.zk;rcases s.2 with⟨d,_⟩|⟨g,cap,l,hv,p,f,_⟩
 subst d;cases e;subst hv;cases e
 exact(h _ _ _ f).2 rfl
def iO.box{W:World}{Q b c a m:Nat}(d:iO W Q b c a m):∃cs,W.heap[Q]?=some (.cells cs 347):=by obtain⟨_,f,g,k,L,e,_⟩:=d;exact⟨_,e.box⟩
def Rw(W:World)(Q b c a m:Nat)(e:Ending)(w':World):Prop:=e=.returned (0:Int)/\iO w' Q b c a (m+1)/\cF Q W w'
def GV W Q B OB a m(d:iO W Q B OB a m)(v:m<=1048575):dB 212 #[Q,.agg #[.int .i64 m]] W (Rw W Q B OB a m):=by obtain⟨f,n,t,k,L,g,h,b⟩:=d;have l:=b.length_eq;rw[BK]at l;apply(Rr W Q B OB k m m n t L g h ad ad).zz;rintro e w' ⟨i,⟨o,u,p,c,q,r,s⟩,j⟩;exact⟨i,⟨ad,o,u,p,c,q,r,by rw[Ru f];exact s.Z (b.append_right _)⟩,j⟩
def Rx W Q B OB m(a:iO W Q B OB m m):dB 213 #[Q] W (BI W Q):=by obtain⟨g,e,f,k,L,b,h,c⟩:=a;have d:=c.length_eq;rw[BK]at d;obtain rfl:=zX.1 (show L.length=0 by omega);exact Rs W Q B OB k m e f b
def Ry(W:World)(Q b c a m:Nat)(e:Ending)(w':World):Prop:=e=.returned (.tuple #[.agg #[.int .i64 a],.int .i64 0])/\iO w' Q b c (a+1) m/\cF Q W w'
def Rz W Q B OB a m(h:iO W Q B OB a m)(d:a<m)(F:m<=1048575):dB 213 #[Q] W (Ry W Q B OB a m):=by
 obtain⟨D,u,A,k,L,i,j,b⟩:=h;have p:=b.length_eq;rw[BK]at p;apply(Rt W Q B OB k m (m-a-1) u A L i j ad ad).zz;rintro e w' ⟨x,n,q,⟨v,C,w,g,y,z,f⟩,o⟩;have r:x=(a,a):=by have s:=b.subset (f.subset (eV ..));have t:(a,a)∈L:=b.zy.subset (by rw[GU d];simp);have c:=q _ t;have⟨E,l⟩:=Rv s;rw[l]at c⊢;simp[gh]at c;have:x.1=a:=ad;rw[this]
 subst r;refine⟨n,⟨ad,v,C,w,g,y,z,?_⟩,o⟩;rw[GU d]at b;exact(f.Z b).cons_inv
def RA(W:World)(e:Ending)(w':World):Prop:=e=.returned (.tuple #[.pointer (some ⟨W+1,0,none⟩),.int .i64 0])/\iO w' (W+1) (W+2) W 0 0/\aR W w'
def RC W:dB 210 #[.func (.func 211) #[] #[]] W (RA W):=by apply(Ro W).zz;rintro e w' ⟨d,a,b⟩;exact⟨d,⟨ay _,_,_,_,[],a,fun k x y f c=>by simp at c,by simp[mq]⟩,b⟩
abbrev St:=Bool×Nat
def bx(s:St):List Value:=.bool s.1::setRow s.2
def flatS(L:List St):List Value:=L.flatMap bx
def tu(s:St):(bx s).length=17:=rfl
def RG{s t:St}(a:bx s=bx t):s=t:=by obtain⟨b,m⟩:=s;obtain⟨c,n⟩:=t;unfold bx setRow at a;simp only[Kv,Value.bool.injEq,Value.int.injEq]at a;obtain⟨d,⟨_,e⟩,_⟩:=a;have:m=n:=ad;rw[d,this]
def BN(L a:List St):flatS (L++a)=flatS L++flatS a:=by simp[flatS]
def RH{L:List St}{i:Nat}{s:St}(a:L[i]?=some s){j:Nat}(b:j<17):(flatS L)[i*17+j]?=(bx s)[j]?:=by
 induction L generalizing i with
 |nil=>simp at a
 |cons x L ih=>
  have e:flatS (x::L)=bx x++flatS L:=rfl;rw[e];cases i with
  |zero=>
   simp at a;subst a;rw[eC (by rw[tu];omega)];simp
  |succ i=>
   rw[gp (by rw[tu];omega),tu,show(i+1)*17+j-17=i*17+j by omega];exact ih (by simpa using a)
def BO(s:St):∀v∈bx s,v.oneCell'=true:=by
 intro v hv;unfold bx at hv;rcases bX.1 hv with rfl|hv
 rfl;exact uX _ v hv
def RI:(prog.info? 239).map (·.size)=some 17:=az
def BP{w:World}{d e g c:Nat}{L:List St}(f:w.ownsRow d e 17 (.slice (some ⟨g,0,none⟩) L.length c) L.length (flatS L)){i:Nat}{s:St}(b:L[i]?=some s):w.rangeAt g (i*17) (bx s):=by intro j v hv;have a:=(aF.1 hv).1;rw[tu]at a;have h:=(aF.1 b).1;exact(f.cellAt (i*17+j) ad).Z ((RH b a).Z hv)
def RJ:prog.cellsOf 219=1:=az
def RK:prog.cellsOf 4=1:=az
def GX:prog.cellsOf 233=16:=az
def GY:prog.cellsOf 239=17:=az
def RL:prog.keyType 239=true:=az
def GZ(d n:Nat)(a:n<18446744073709551616):prog.keyLits (d+1) 219 [.int .u64 (n:Nat)]=some [.int .u64 (n:Nat)]:=by unfold Program.keyLits;rw[underlying219];simp only;rw[au ⟨trivial,by simp[Lit.wf,IntKind.min,IntKind.max,IntKind.signed,IntKind.bits];omega⟩]
def RN(d m:Nat)(c:m<18446744073709551616):∃f,prog.keyLits (d+2) 233 (setRow m)=some f:=by unfold Program.keyLits;rw[l4];simp only;rw[au (by rw[GX];rfl)];rw[RJ];have a:=GZ d 0 ad;have e:=GZ d m c;have b:prog.keyLits (d+1) 219 [.int .u64 0]=some [.int .u64 0]:=a;simp[List.range,List.range.loop,setRow,b,e]
def RO(d:Nat)(s:St)(e:s.2<18446744073709551616):∃a,prog.keyLits (d+3) 239 (bx s)=some a:=by
 obtain⟨a,c⟩:=RN d s.2 e;unfold Program.keyLits;rw[zY];simp only;rw[au ⟨by rw[GY];rfl,az⟩];have b:prog.keyLits (d+2) 4 [.bool s.1]=some [.bool s.1]:=by unfold Program.keyLits;rw[underlying4]
 simp[RK,GX,bx,b];rw[show List.take 16 (setRow s.2)=setRow s.2 from rfl,c];simp
def RP:2<=prog.types.size:=by rw[<-Nat.ble_eq];kernel_rfl
def RQ(s:St)(e:s.2<18446744073709551616):∃l,keyOf prog 239 (.agg (bx s).toArray)=some l:=by
 obtain⟨d,a⟩:∃d,prog.types.size+1=d+3:=⟨prog.types.size-2,by have:=RP;omega⟩;obtain⟨f,c⟩:=RO d s e;unfold keyOf;rw[zY];simp only;rw[RL,a];have b:(Value.agg (bx s).toArray).formed prog 239=true:=by simp[Value.formed,zY,GY,tu]
 rw[b];simp only[Bool.and_self,ix,Value.cells];rw[c];exact⟨_,rfl⟩
def tw:Maps.Keyed prog 239:=Maps.Keyed.of_law (deep_law_laid az (m:=5) ad (by rw[<-Nat.blt_eq];kernel_rfl) az (by rw[zY]))
noncomputable def qe(s:St):Lit:=(keyOf prog 239 (.agg (bx s))).getD (.bool false)
def Low(s:St):Prop:=s.2<18446744073709551616
def vm{s}(a:Low s):keyOf prog 239 (.agg (bx s))=(qe s):=by obtain⟨l,b⟩:=RQ s a;unfold qe;rw[b];rfl
def RR{s t}(b:Low s)(k:Low t)(e:qe s=qe t):s=t:=by
 have a:=vm b;have c:=vm k;rw[e]at a;have:=tw.inj a c;injection this with this
 exact RG (by simpa using gA Array.toList this)
def G0{s}(a:Low s):WideAt.IsKeyLit (qe s):=tw.key (vm a)
def mu(w:World)(a:Nat)(keys:List St):Prop:=
 ∃f,bV w prog 239 a keys f/\∀s,Low s->f (qe s)=if s∈keys then some (.int .i64 (lM keys s:Nat))else none
def bV.of_block{w w':World}{P:Program}{k:TypeId}{a n:Nat}{f:Lit->Option Value}(c:bV w P k a n f)(e:w'.heap[a]?=w.heap[a]?):bV w' P k a n f:=by obtain⟨D,⟨b,clock,g,F,i,d⟩,h⟩:=c;exact⟨D,⟨b,clock,e.Z g,F,i,d⟩,h⟩
def mu.of_block{w w':World}{a:Nat}{keys:List St}(b:mu w a keys)(e:w'.heap[a]?=w.heap[a]?):mu w' a keys:=by obtain⟨f,c,d⟩:=b;exact⟨f,c.of_block e,d⟩
def mu.put{w w':World}{b:Nat}{keys:List St}{f:Lit->Option Value}{s:St}(j:Low s)(h:∀t,Low t->f (qe t)=if t∈keys then some (.int .i64 ((lM keys t:Nat):Int))else none)(i:s∉keys)
 (g:bV w' prog 239 b (keys.length+1) (il f (qe s) (.int .i64 ((keys.length:Nat):Int)))):mu w' b (keys++[s]):=by
 refine⟨_,by rw[ck];exact g,fun t c=> ?_⟩;by_cases e:t=s;subst e;rw[kt,au aj,RE i];rw[mj _ _ (fun d=>e (RR c j d)),h t c];by_cases a:t∈keys;rw[au a,au (by simp[a]),RD a];rw[ap a,ap (by simp[a,e])]
def mu.J{w:World}{a:Nat}{keys:List St}(d:mu w a keys):∃b c,w.heap[a]?=some (.map b c):=by obtain⟨f,e,_⟩:=d;exact e.J
def nk{w:World}{b e size n g:Nat}{v xs}(c:w.ownsRow b e size v n xs)(a:v.ownBlock=g):∃cs,w.heap[g]?=some (.cells cs e (0,0)):=by
 rcases c.2 with⟨d,_⟩|⟨i,cap,h,hv,j,f,_⟩
 subst d;cases a;subst hv;cases a
 exact⟨_,f⟩
def iP{w:World}{c e b size n X:Nat}{v xs cs fz}(d:w.ownsRow c e size v n xs)(f:w.heap[X]?=some (.cells cs b fz))(h:e≠b):v.ownBlock≠X:=fun g=>by
 obtain⟨i,a⟩:=nk d g;rw[f]at a;injection a with a
 injection a with _ a
 exact h a.zy
def mv{w:World}{b e size n X:Nat}{v xs es c}(d:w.ownsRow b e size v n xs)(f:w.heap[X]?=some (.map es c)):v.ownBlock≠X:=fun g=>by obtain⟨h,a⟩:=nk d g;rw[f]at a;cases a
structure cU(W0 WL:World)(km kk:List St)(fn qa qm:Nat)(rows:List (List Nat))(kv nv fv:Value)(vs:List Value)(gv:Value)(gr:List Nat)(sv:Value)(sl:List St)(w:World):Prop where
 base:Below W0.heap.size WL w
 size:W0.heap.size+8<=w.heap.size
 map:mu w (W0.heap.size+2) km
 box:w.heap[W0.heap.size+5]?=some (.cells #[kv,nv,fv] 246)
 res:w.heap[W0.heap.size+1]?=some (.cells dx 246)
 zi:w.ownsRow (W0.heap.size+3) 239 17 kv kk.length (flatS kk)
 nrow:w.ownsRow (W0.heap.size+3) 41 1 nv vs.length vs
 frow:∃ys,w.ownsRow (W0.heap.size+3) 296 2 fv fn ys
 cur:bW w (W0.heap.size+3) gv gr
 succ:w.ownsRow (W0.heap.size+3) 239 17 sv sl.length (flatS sl)
 len:vs.length=rows.length
 done:∀(j:Nat) (v:Value) (r:List Nat),vs[j]?=some v->rows[j]?=some r->bW w (W0.heap.size+3) v r
 gap:∀v∈vs,∀b,gv.ownBlock=some b->v.ownBlock≠some b
 sgap:∀b,sv.ownBlock=some b->kv.ownBlock≠some b
 q:iO w (W0.heap.size+7) (W0.heap.size+8) (W0.heap.size+6) qa qm
section
variable{W0 WL w w':World} {km kk:List St} {fn qa qm:Nat} {rows:List (List Nat)} {kv nv fv:Value} {vs:List Value} {gv:Value} {gr:List Nat} {sv:Value} {sl:List St}
def iO.move{Q i f a m X:Nat}(o:iO w Q i f a m)(t:SQ Q w X)(s:X≠f)(u:w.heap.size<=w'.heap.size)(h:∀b,i<=b∨b=Q∨b=f->b<w.heap.size->b≠X->w'.heap[b]?=w.heap[b]?):iO w' Q i f a m:=by obtain⟨p,v,sv,k,L,c,q,r⟩:=o;obtain⟨a1,l,n,x⟩:=t.apart c;obtain⟨ys,j⟩:=c.zk;refine⟨p,v,sv,k,L,⟨?_,?_,⟨ys,?_⟩,c.apart,c.low,aW c.lowB u,?_,c.obB,c.obQ⟩,q,r⟩;exact(h Q (.inr (.inl rfl)) (aS c.box) (fun e=>n e.zy)).Z c.box;exact aX c.zt (fun g d=>h g (.inl (aV c.zt d).1) (aV c.zt d).2 (fun e=>a1 (e▸d)));exact aX j (fun g d=>h g (.inl (aV j d).1) (aV j d).2 (fun e=>l (e▸d)));exact(h f (.inr (.inr rfl)) (aS c.ob) (fun e=>s e.zy)).Z c.ob
def iO.still{Q h e a m:Nat}(j:iO w Q h e a m)(p:w.heap.size<=w'.heap.size)(f:∀b,h<=b∨b=Q∨b=e->b<w.heap.size->w'.heap[b]?=w.heap[b]?):iO w' Q h e a m:=by obtain⟨l,q,sv,k,L,c,n,o⟩:=j;obtain⟨ys,i⟩:=c.zk;refine⟨l,q,sv,k,L,⟨?_,?_,⟨ys,?_⟩,c.apart,c.low,aW c.lowB p,?_,c.obB,c.obQ⟩,n,o⟩;exact(f Q (.inr (.inl rfl)) (aS c.box)).Z c.box;exact aX c.zt (fun g d=>f g (.inl (aV c.zt d).1) (aV c.zt d).2);exact aX i (fun g d=>f g (.inl (aV i d).1) (aV i d).2);exact(f e (.inr (.inr rfl)) (aS c.ob)).Z c.ob
def cU.over(a:cU W0 WL km kk fn qa qm rows kv nv fv vs gv gr sv sl w)(o:w.heap.size<=w'.heap.size)(f:∀b,W0.heap.size<=b->b<w.heap.size->w'.heap[b]?=w.heap[b]?)(l:World)(p:Below W0.heap.size l w'):cU W0 l km kk fn qa qm rows kv nv fv vs gv gr sv sl w':=by
 have q:=a.size;have d:∀{h e size n:Nat} {v} {xs},W0<=h->w.ownsRow h e size v n xs->w'.ownsRow h e size v n xs:=fun t c=>aX c (fun g m=>f g (aQ ((aV c m).1)) (aV c m).2);have⟨ys,s⟩:=a.frow;exact⟨p,aW q o,a.map.of_block (f _ ad ad),(f _ ad ad).Z a.box,(f _ ad ad).Z a.res,d ad a.zi,d ad a.nrow,⟨ys,d ad s⟩,d ad a.cur,d ad a.succ,a.len,
  fun j v r c i=>d ad (a.done j v r c i),a.gap,a.sgap,a.q.still o (fun b c i=>f b ad i)⟩
def cU.O(a:cU W0 WL km kk fn qa qm rows kv nv fv vs gv gr sv sl w)(c:Below w.heap.size w w'):cU W0 WL km kk fn qa qm rows kv nv fv vs gv gr sv sl w':=
 a.over c.size (fun b _ d=>c.J b d) WL (a.base.Z (c.zz (aQ a.size)))
def qf{WL w w' N row}(g:N<=w.heap.size)(a:Below N WL w)(c:w.grownBy w' row)(f:∀b,row=some b->N<=b):Below N WL w':=
 ⟨c.os.Z a.os,c.tape.Z a.tape,c.output.Z a.output,aW a.size c.size,fun k d=>(c.J k ad (fun e=>by have:=f k e.zy;omega)).Z (a.J k d)⟩
structure RS(W0 WL:World)(km:List St)(qa qm:Nat)(row:Option Nat)(w w':World):Prop where
 base:Below W0.heap.size WL w'
 size:W0.heap.size+8<=w'.heap.size
 map:some (W0.heap.size+2)≠row->mu w' (W0.heap.size+2) km
 box:some (W0.heap.size+5)≠row->w'.heap[W0.heap.size+5]?=w.heap[W0.heap.size+5]?
 res:some (W0.heap.size+1)≠row->w'.heap[W0.heap.size+1]?=w.heap[W0.heap.size+1]?
 rows:∀(B e size n:Nat) (v:Value) (xs:List Value),w.ownsRow B e size v n xs->(∀b,v.ownBlock=some b->some b≠row)->w'.ownsRow B e size v n xs
 q:iO w' (W0.heap.size+7) (W0.heap.size+8) (W0.heap.size+6) qa qm
def cU.carry(c:cU W0 WL km kk fn qa qm rows kv nv fv vs gv gr sv sl w){row:Option Nat}(a:w.grownBy w' row)(j:∀b,row=some b->W0.heap.size<=b/\b≠W0.heap.size+6/\SQ (W0.heap.size+7) w b):RS W0 WL km qa qm row w w':=by
 have o:=c.size;refine⟨qf ad c.base a (fun b e=>(j b e).1),aW o a.size,fun f=>c.map.of_block (a.J _ ad f),fun f=>a.J _ ad f,fun f=>a.J _ ad f,fun p e size n v xs i d=>aX i (fun g h=>a.J g (aV i h).2 (d g h)),?_⟩;cases row with
 |none=>exact c.q.still a.size (fun b _ d=>a.J b d aj)
 |some X=>
  obtain⟨_,d,h⟩:=j X rfl;exact c.q.move h d a.size (fun b _ l m=>a.J b l (fun e=>m (by injection e)))
def qg{w:World}{c e size n B' a j n':Nat}{v u xs ys}(d:w.ownsRow c e size v n xs)(k:w.ownsRow B' a j u n' ys)(i:e≠a):∀b,v.ownBlock=some b->b≠u.ownBlock:=fun b f g=>by obtain⟨cs,h⟩:=nk k g.zy;exact iP d h i f
def jn{w:World}{b e a size n X:Nat}{u xs cs fz}(k:w.ownsRow b e size u n xs)(d:w.heap[X]?=some (.cells cs a fz))(f:e≠a):X≠u.ownBlock:=fun c=>iP k d f c.zy
def yF{w:World}{a e size n X:Nat}{u xs es c}(k:w.ownsRow a e size u n xs)(d:w.heap[X]?=some (.map es c)):X≠u.ownBlock:=fun b=>mv k d b.zy
def cU.row_sq(f:cU W0 WL km kk fn qa qm rows kv nv fv vs gv gr sv sl w){g e size n:Nat}{v:Value}{xs:List Value}(z:W0.heap.size<=g)(d:w.ownsRow g e size v n xs)(j:e≠341)(l:e≠307)(m:e≠347)(o:e≠302):
 ∀b,v.ownBlock=some b->W0.heap.size<=b/\b≠W0.heap.size+6/\SQ (W0.heap.size+7) w b:=fun b i=>by
 obtain⟨cs,a⟩:=nk d i;obtain⟨t,r⟩:=f.q.box;obtain⟨A,s⟩:=aV d i;have d:∃h,w.heap[W0.heap.size+6]?=some (.cells h 302):=by obtain⟨_,_,_,_,_,p,_⟩:=f.q;exact⟨_,p.ob⟩
 obtain⟨h,q⟩:=d;refine⟨ad,fun e=> ?_,f.q.sq (fun e=> ?_) s (fun u x y c=> ?_)⟩;subst e;rw[q]at a;injection a with a
 injection a with _ a
 exact o a.zy;subst e;rw[r]at a;injection a with a
 injection a with _ a
 exact m a.zy;rw[a]at c;injection c with c
 injection c with _ c
 subst c;exact⟨j,l⟩
def cU.cell_sq(d:cU W0 WL km kk fn qa qm rows kv nv fv vs gv gr sv sl w){X e:Nat}{cs:Array Value}{c:Nat×Nat}(b:w.heap[X]?=some (.cells cs e c))(f:e≠341)(g:e≠307)(h:X≠W0.heap.size+7):SQ (W0.heap.size+7) w X:=
 d.q.sq h (aS b) (fun i j l a=>by
  rw[b]at a;injection a with a
  injection a with _ a
  subst a;exact⟨f,g⟩)
def gi(w:World) X o v:w.grownBy (w.setCell ⟨X,o,none⟩ v) X:=⟨rfl,rfl,rfl,by rw[eF];simp,fun k _ a=>aU _ _ _ _ _ (fun e=>a (by rw[e]))⟩
def cU.mapPut(a:cU W0 WL km kk fn qa qm rows kv nv fv vs gv gr sv sl w)(q:w.grownBy w' (some (W0.heap.size+2))){l:List St}(s:mu w' (W0.heap.size+2) l):cU W0 WL l kk fn qa qm rows kv nv fv vs gv gr sv sl w':=by
 obtain⟨u,c,f⟩:=a.map.J;have C:=a.carry q (fun b e=>by
  cases e
  exact⟨ad,ad,a.q.sq ad (aS f) (fun cs e x i=>by rw[f]at i;cases i)⟩)
 have d:∀{g e size n:Nat} {v} {xs},w.ownsRow g e size v n xs->w'.ownsRow g e size v n xs:=fun h=>C.rows _ _ _ _ _ _ h (fun b p e=>mv h f (by rw[p];exact e));have⟨ys,t⟩:=a.frow;exact⟨C.base,C.size,s,(C.box aj).Z a.box,(C.res aj).Z a.res,d a.zi,d a.nrow,⟨ys,d t⟩,d a.cur,d a.succ,a.len,fun j v r m o=>d (a.done j v r m o),a.gap,a.sgap,C.q⟩
def cU.queue(a:cU W0 WL km kk fn qa qm rows kv nv fv vs gv gr sv sl w)(d:cF (W0.heap.size+7) w w'){o p:Nat}(y:iO w' (W0.heap.size+7) (W0.heap.size+8) (W0.heap.size+6) o p):cU W0 WL km kk fn o p rows kv nv fv vs gv gr sv sl w':=by
 have z:=a.size;have i:∀b,b<W0.heap.size+8->b≠W0.heap.size+7->w'.heap[b]?=w.heap[b]?:=fun b c h=>by obtain⟨_,_,_,_,_,t,_⟩:=a.q;exact(d.kp.same b (t.sq_low c h ad)).2
 have f:∀{l e size n:Nat} {v} {xs},W0<=l->e≠341->e≠307->e≠347->e≠302->w.ownsRow l e size v n xs->w'.ownsRow l e size v n xs:=fun u c h q s m=>aX m (fun g x=>(d.kp.same g (a.row_sq u m c h q s g x).2.2).2);have⟨ys,A⟩:=a.frow;refine⟨⟨d.os.Z a.base.os,d.tape.Z a.base.tape,d.output.Z a.base.output,aW a.base.size d.kp.size,fun k c=>(i k ad ad).Z (a.base.J k c)⟩,aW z d.kp.size,a.map.of_block (i _ ad ad),(i _ ad ad).Z a.box,(i _ ad ad).Z a.res,
  f ad aq aq aq aq a.zi,f ad aq aq aq aq a.nrow,⟨ys,f ad aq aq aq aq A⟩,f ad aq aq aq aq a.cur,f ad aq aq aq aq a.succ,a.len,fun j v r c h=>f ad aq aq aq aq (a.done j v r c h),a.gap,a.sgap,y⟩
def cU.setKeys(a:cU W0 WL km kk fn qa qm rows kv nv fv vs gv gr sv sl w){f:World}(m:w.grownBy f kv.ownBlock){i gc:Nat}{k:St}(E:f.ownsRow (W0.heap.size+3) 239 17 (.slice (some ⟨i,0,none⟩) (kk.length+1) gc) (kk.length+1) (flatS kk++bx k))(B:kv.ownBlock=some i∨i=w.heap.size):
 cU W0 WL km (kk++[k]) fn qa qm rows (.slice (some ⟨i,0,none⟩) (kk.length+1) gc) nv fv vs gv gr sv sl (f.setCell ⟨W0.heap.size+5,0,none⟩ (.slice (some ⟨i,0,none⟩) (kk.length+1) gc)):=by
 obtain⟨M,c,A⟩:=a.map.J;obtain⟨ys,u⟩:=a.frow;have C:=a.carry m (fun b e=>a.row_sq ad a.zi aq aq aq aq b e);have p:=(C.box (jn a.zi a.box aq)).Z a.box;have sgap:∀b,sv.ownBlock=some b->b≠kv.ownBlock:=fun b d h=>a.sgap b d h.zy;have I:=C.rows _ _ _ _ _ _ a.nrow (qg a.nrow a.zi aq);have K:=C.rows _ _ _ _ _ _ u (qg u a.zi aq);have x:=C.rows _ _ _ _ _ _ a.cur (qg a.cur a.zi aq);have J:=C.rows _ _ _ _ _ _ a.succ sgap;have d3:∀j v r,vs[j]?=some v->rows[j]?=some r->bW f (W0+3) v r:=fun j v r d h=>C.rows _ _ _ _ _ _ (a.done j v r d h) (qg (a.done j v r d h) a.zi aq);have H:∀b,sv.ownBlock=some b->(Value.slice (some ⟨i,0,none⟩) (kk.length+1) gc).ownBlock≠some b:=fun b d h=>by
  cases h
  rcases B with q|q
  exact a.sgap _ d q;have:=(aV a.succ d).2;simp only at this;omega
 have l:∀{o e size n:Nat} {v} {xs},e≠246->f.ownsRow o e size v n xs->(f.setCell ⟨_,0,none⟩ (.slice i (kk+1) gc)).ownsRow o e size v n xs:=fun D t=>aX t (fun g m=>aU _ _ _ _ _ (fun y=>iP t p D (by rw[m,y])));have G:=C.size;refine⟨qf ad C.base (gi f _ 0 _) (fun b e=>by injection e with e;omega),by rw[eF];exact G,(C.map (yF a.zi A)).of_block (aU _ _ _ _ _ ad),a8 f _ 0 _ p,(aU _ _ _ _ _ ad).Z ((C.res (jn a.zi a.res aq)).Z a.res),
  ?_,l aq I,⟨ys,l aq K⟩,l aq x,l aq J,a.len,fun j v r d h=>l aq (d3 j v r d h),a.gap,H,?_⟩
 rw[ck,BN];have:=l aq E;assumption;have F:SQ (W0.heap.size+7) f (W0.heap.size+5):=by obtain⟨_,_,_,_,_,s,_⟩:=C.q;exact s.sq_low ad ad ad
 exact C.q.move F ad (by rw[eF];simp) (fun b _ s z=>aU _ _ _ _ _ z)
def cU.setFrom(a:cU W0 WL km kk fn qa qm rows kv nv fv vs gv gr sv sl w){d:World}(q:w.grownBy d fv.ownBlock){o gc:Nat}{zs:List Value}(B:d.ownsRow (W0.heap.size+3) 296 2 (.slice (some ⟨o,0,none⟩) (fn+1) gc) (fn+1) zs):
 cU W0 WL km kk (fn+1) qa qm rows kv nv (.slice (some ⟨o,0,none⟩) (fn+1) gc) vs gv gr sv sl (d.setCell ⟨W0.heap.size+5,2,none⟩ (.slice (some ⟨o,0,none⟩) (fn+1) gc)):=by
 obtain⟨F,c,A⟩:=a.map.J;obtain⟨ys,m⟩:=a.frow;have C:=a.carry q (fun b e=>a.row_sq ad m aq aq aq aq b e);have s:=(C.box (jn m a.box aq)).Z a.box;have l:∀{h e size n:Nat} {v} {xs},e≠296->w.ownsRow h e size v n xs->d.ownsRow h e size v n xs:=fun p i=>C.rows _ _ _ _ _ _ i (qg i m p);have f:∀{h e size n:Nat} {v:Value} {xs:List Value},e≠246->d.ownsRow h e size v n xs->(d.setCell ⟨W0.heap.size+5,2,none⟩ (.slice (some ⟨o,0,none⟩) (fn+1) gc)).ownsRow h e size v n xs:=fun p i=>aX i (fun g q=>aU _ _ _ _ _ (fun u=>iP i s p (by rw[q,u])));have E:=C.size;refine⟨qf ad C.base (gi d _ 2 _) (fun b e=>by injection e with e;omega),by rw[eF];exact E,(C.map (yF m A)).of_block (aU _ _ _ _ _ ad),a8 d _ 2 _ s,(aU _ _ _ _ _ ad).Z ((C.res (jn m a.res aq)).Z a.res),
  f aq (l aq a.zi),f aq (l aq a.nrow),⟨zs,f aq B⟩,f aq (l aq a.cur),f aq (l aq a.succ),a.len,fun j v r x y=>f aq (l aq (a.done j v r x y)),a.gap,a.sgap,?_⟩
 have D:SQ (W0.heap.size+7) d (W0.heap.size+5):=by obtain⟨_,_,_,_,_,t,_⟩:=C.q;exact t.sq_low ad ad ad
 exact C.q.move D ad (by rw[eF];simp) (fun b _ t z=>aU _ _ _ _ _ z)
def cU.setNext(a:cU W0 WL km kk fn qa qm rows kv nv fv vs gv gr sv sl w){h:World}(s:w.grownBy h nv.ownBlock){o gc:Nat}(F:h.ownsRow (W0.heap.size+3) 41 1 (.slice (some ⟨o,0,none⟩) (vs.length+1) gc) (vs.length+1) (vs++[gv])):
 cU W0 WL km kk fn qa qm (rows++[gr]) kv (.slice (some ⟨o,0,none⟩) (vs.length+1) gc) fv (vs++[gv]) (.slice none 0 0) [] sv sl (h.setCell ⟨W0.heap.size+5,1,none⟩ (.slice (some ⟨o,0,none⟩) (vs.length+1) gc)):=by
 obtain⟨J,c,A⟩:=a.map.J;obtain⟨ys,I⟩:=a.frow;have C:=a.carry s (fun b e=>a.row_sq ad a.nrow aq aq aq aq b e);have u:=(C.box (jn a.nrow a.box aq)).Z a.box;have p:∀{i e size n:Nat} {v} {xs},e≠41->w.ownsRow i e size v n xs->h.ownsRow i e size v n xs:=fun q l=>C.rows _ _ _ _ _ _ l (qg l a.nrow q);have m:∀{i e size n:Nat} {v} {xs},e≠246->h.ownsRow i e size v n xs->(h.setCell ⟨_,1,none⟩ (.slice o (vs+1) gc)).ownsRow i e size v n xs:=fun q l=>aX l (fun g s=>aU _ _ _ _ _ (fun y=>iP l u q (by rw[s,y])));have H:=C.size;have D:∀(j:Nat) (v:Value) (r:List Nat),(vs++[gv])[j]?=some v->(rows++[gr])[j]?=some r->bW w (W0.heap.size+3) v r:=fun j v r d f=>by
  have K:=a.len;rcases kF j vs with t|t
  ·rw[eC t]at d
   rw[eC ad]at f;exact a.done j v r d f
  have E:j=vs.length:=by have:=(aF.1 d).1;simp at this;omega
  rw[gp t]at d;rw[gp ad]at f;rw[E]at d f;simp at d;rw[show vs-rows.length=0 by omega]at f;simp at f;subst d;subst f;exact a.cur
 refine⟨qf ad C.base (gi h _ 1 _) (fun b e=>by injection e with e;omega),by rw[eF];exact H,(C.map (yF a.nrow A)).of_block (aU _ _ _ _ _ ad),a8 h _ 1 _ u,(aU _ _ _ _ _ ad).Z ((C.res (jn a.nrow a.res aq)).Z a.res),
  m aq (p aq a.zi),ck▸m aq F,⟨ys,m aq (p aq I)⟩,cW _ _ _ _,m aq (p aq a.succ),by simp[a.len],fun j v r d f=>m aq (p aq (D j v r d f)),(fun v hv b B=>by cases B),a.sgap,?_⟩
 have G:SQ (W0.heap.size+7) h (W0.heap.size+5):=by obtain⟨_,_,_,_,_,x,_⟩:=C.q;exact x.sq_low ad ad ad
 exact C.q.move G ad (by rw[eF];simp) (fun b _ x z=>aU _ _ _ _ _ z)
def cU.goes(a:cU W0 WL km kk fn qa qm rows kv nv fv vs gv gr sv sl w){g:World}(x:w.grownBy g gv.ownBlock){d gc n:Nat}(y:g.ownsRow (W0.heap.size+3) 3 1 (.slice (some ⟨d,0,none⟩) (gr.length+1) gc) (gr.length+1) (fB gr++[.int .i64 ((n:Nat):Int)]))(t:gv.ownBlock=some d∨d=w.heap.size):
 cU W0 WL km kk fn qa qm rows kv nv fv vs (.slice (some ⟨d,0,none⟩) (gr.length+1) gc) (gr++[n]) sv sl g:=by
 obtain⟨D,c,s⟩:=a.map.J;obtain⟨ys,B⟩:=a.frow;have C:=a.carry x (fun b e=>a.row_sq ad a.cur aq aq aq aq b e);have f:∀{i e size n:Nat} {v} {xs},e≠3->w.ownsRow i e size v n xs->g.ownsRow i e size v n xs:=fun u p=>C.rows _ _ _ _ _ _ p (qg p a.cur u);refine⟨C.base,C.size,C.map (yF a.cur s),(C.box (jn a.cur a.box aq)).Z a.box,(C.res (jn a.cur a.res aq)).Z a.res,f aq a.zi,f aq a.nrow,⟨ys,f aq B⟩,?_,f aq a.succ,a.len,fun j v r l q=>C.rows _ _ _ _ _ _ (a.done j v r l q) (fun b h e=>a.gap v (aK l) b e.zy h),?_,a.sgap,C.q⟩;unfold bW;rw[ck];have e:fB (gr++[n])=fB gr++[.int .i64 ((n:Nat):Int)]:=by simp[fB]
 rw[e];exact y
 ·intro v hv b h
  cases h
  rcases t with m|m
  exact a.gap v hv _ m
  ·intro A
   obtain⟨j,o⟩:=mU hv;obtain⟨r,z⟩:=df rows j (a.len▸(aF.1 o).1);have:=(aV (a.done j v r o z) A).2;simp only at this;omega
def cU.succs(c:cU W0 WL km kk fn qa qm rows kv nv fv vs gv gr sv sl w){f:Nat}(g:w.grownBy w' (some f))(hF:f<W0.heap.size){i:Value}{d:List St}(h:w'.ownsRow w.heap.size 239 17 i d.length (flatS d)):cU W0 w' km kk fn qa qm rows kv nv fv vs gv gr i d w':=by have a:=c.over g.size (fun b m a=>g.J b a (fun e=>by injection e with e;omega)) w' (aA _ _);have n:=c.size;exact⟨a.base,a.size,a.map,a.box,a.res,a.zi,a.nrow,a.frow,a.cur,eR h ad,a.len,a.done,a.gap,fun b j l=>by have:=(aV h j).1;have:=(aV c.zi l).2;omega,a.q⟩
end
end Go.Proofs.YtfeidcmojcijpaaGreatDoor
