import Derived.Test.YtnadadbndcdolaaGreatDoorQay
import Derived.Test.YtnadadbndcdolaaGreatDoorQbb
set_option linter.unusedVariables false
set_option linter.unusedSimpArgs false
set_option maxRecDepth 100000
set_option maxHeartbeats 0
namespace Go.Proofs.YtnadadbndcdolaaGreatDoor
open Go.RowKit Tryz
theorem Om:(prog.info? 414).map (fun i=>(i.zero,i.size,i.bytes))=some (some (.agg #[.int .i64 0,.int .u64 0]),2,16):=aA
theorem EX:(prog.info? 105).map (fun i=>(i.zero,i.size,i.bytes))=some (some (.agg #[.int .i64 0,.int .i64 0]),2,16):=aA
abbrev It:=Nat×Nat
def zP(x:It):List Value:=[.int .i64 (x.1:Nat),.int .u64 (x.2:Nat)]
def fX(L:List It):List Value:=L.flatMap zP
def de(a b:It):Bool:=decide (a.1<b.1)||(a.1==b.1&&decide (a.2<b.2))
theorem nH:qQ de:=by
 refine⟨fun a b d=> ?_,fun a b c d k=> ?_⟩
 ·simp[de]at d⊢
  omega
 ·simp[de]at d k⊢
  omega
theorem wM(a:It):de a a=false:=by simp[de]
theorem EY(L:List It):(fX L).length=L.length*2:=by
 induction L with
 |nil=>rfl
 |cons a L ih=>simp[fX,zP]at ih⊢;omega
theorem tj(a:It)(L:List It):fX (a::L)=.int .i64 (a.1:Nat)::.int .u64 (a.2:Nat)::fX L:=rfl
theorem On(L M:List It):fX (L++M)=fX L++fX M:=by simp[fX]
theorem Oo{L:List It}{i:Nat}{a:It}(b:L[i]?=some a):(fX L)[i*2]?=some (.int .i64 (a.1:Nat))/\(fX L)[i*2+1]?=some (.int .u64 (a.2:Nat)):=by
 induction L generalizing i with
 |nil=>simp at b
 |cons x L ih=>
  cases i with
  |zero=>
   simp at b;subst b;exact⟨rfl,rfl⟩
  |succ i=>
   have:=ih (i:=i) (by simpa using b);rw[tj,show(i+1)*2=i*2+1+1 by omega];exact this
theorem E3(L:List It)(i:Nat)(a:It):fX (L.set i a)=((fX L).set (i*2) (.int .i64 (a.1:Nat))).set (i*2+1) (.int .u64 (a.2:Nat)):=by
 induction L generalizing i with
 |nil=>simp[fX]
 |cons x L ih=>
  cases i with
  |zero=>rfl
  |succ i=>
   rw[aK,tj,tj,ih,show(i+1)*2=i*2+1+1 by omega];rfl
theorem Oq(L:List It)(n:Nat):(fX L).take (n*2)=fX (L.take n):=by
 induction L generalizing n with
 |nil=>simp[fX]
 |cons x L ih=>
  cases n with
  |zero=>simp[fX]
  |succ n=>
   rw[BH,tj,tj,<-ih,show(n+1)*2=n*2+1+1 by omega];rfl
def qR(a:Nat):Value:=.func (.func 312) #[] #[.pointer (some ⟨a,0,none⟩)]
structure QG(iT qT fT:TypeId)(sz:Nat)(av fv:Value)(W:World)(Q B OB:Nat)(iv sv:Value)(k put n:Nat)(xs:List Value):Prop where
 box:W.heap[Q]?=some (.cells #[iv,sv,av,.int .u64 (put:Nat)] qT)
 items:W.ownsRow B iT sz iv n xs
 swaps:∃ys,W.ownsRow B 105 2 sv k ys
 apart:∀g,iv.ownBlock=some g->sv.ownBlock≠some g
 low:Q<B
 lowB:B<=W.heap.size
 ob:W.heap[OB]?=some (.cells #[fv] fT)
 obB:OB<B
 obQ:OB≠Q
abbrev dx(W:World)(Q B a:Nat)(b d:Value)(k c:Nat)(L:List It):Prop:=QG 414 420 373 2 (qR a) (.func (.func 277) #[] #[]) W Q B a b d k c L.length (fX L)
def SQ(Q:Nat)(W:World)(b:Nat):Prop:=(∃a c av p d,W.heap[Q]?=some (.cells #[a,c,av,p] d)/\a.ownBlock≠some b/\c.ownBlock≠some b)/\b≠Q/\b<W.heap.size
structure bY(Q:Nat)(W W':World):Prop where
 os:W'.os=W.os
 tape:W'.tape=W.tape
 output:W'.output=W.output
 kp:Kp (SQ Q) W W'
theorem bY.trans{Q:Nat}{a b c:World}(d:bY Q a b)(k:bY Q b c):bY Q a c:=⟨k.os.trans d.os,k.tape.trans d.tape,k.output.trans d.output,d.kp.trans k.kp⟩
theorem oF{W W':World}{Q:Nat}{d e av p l m n v:Value}{a o:TypeId}(q:W.heap[Q]?=some (.cells #[d,e,av,p] a))(k:W'.heap[Q]?=some (.cells #[l,m,n,v] o))(os:W'.os=W.os)(w:W'.tape=W.tape)(output:W'.output=W.output)
 (size:W.heap.size<=W'.heap.size) (s:∀b,b<W.heap.size->b≠Q->d.ownBlock≠some b->e.ownBlock≠some b->W'.heap[b]?=W.heap[b]?)
 (t:∀g,l.ownBlock=some g->d.ownBlock=some g∨e.ownBlock=some g∨W.heap.size<=g) (u:∀g,m.ownBlock=some g->d.ownBlock=some g∨e.ownBlock=some g∨W.heap.size<=g):bY Q W W':=
 ⟨os,w,output,size,fun b r=>by
   obtain⟨⟨z,B,x,A,y,c,f,h⟩,i,j⟩:=r;rw[q]at c;injection c with c
   injection c with c
   simp at c;obtain⟨rfl,rfl,rfl,rfl⟩:=c;refine⟨⟨⟨_,_,_,_,_,k,fun a=> ?_,fun a=> ?_⟩,i,dn j size⟩,s b j i f h⟩
   ·rcases t b a with a|a|a
    ·exact f a
    ·exact h a
    ·omega
   ·rcases u b a with a|a|a
    ·exact f a
    ·exact h a
    ·omega⟩
theorem QG.below{i m e:TypeId}{p n:Nat}{av f:Value}{xs:List Value}{W W':World}{Q B d:Nat}{j o:Value}{k l:Nat}(a:QG i m e p av f W Q B d j o k l n xs)(b:Below W.heap.size W W'):QG i m e p av f W' Q B d j o k l n xs:=
 ⟨(b.block _ (aU a.box)).trans a.box,aP a.items (fun g c=>b.block g (aF a.items c).2),by obtain⟨ys,h⟩:=a.swaps;exact⟨ys,aP h (fun g c=>b.block g (aF h c).2)⟩,a.apart,a.low,aJ a.lowB b.size,(b.block _ (aU a.ob)).trans a.ob,a.obB,a.obQ⟩
theorem fj{j o f:TypeId}{q n:Nat}{av h:Value}{xs:List Value}{W W':World}{Q B e:Nat}{l p:Value}{k m:Nat}(d:QG j o f q av h W Q B e l p k m n xs)(a:Below W.heap.size W W'):bY Q W W':=
 oF d.box (d.below a).box a.os a.tape a.output a.size (fun b i _ _ _=>a.block b i) (fun g c=>.inl c) (fun g c=>.inr (.inl c))
theorem QG.iv_form{i l d:TypeId}{o n:Nat}{av e:Value}{xs:List Value}{W:World}{Q B b:Nat}{a m:Value}{k j:Nat}(f:QG i l d o av e W Q B b a m k j n xs)(s:0<n):∃g c,a=.slice (some ⟨g,0,none⟩) n c:=by
 rcases f.items.2 with⟨q,r⟩|⟨g,cap,p,h,_⟩
 ·omega
 ·exact⟨g,cap,h⟩
theorem dx.cells{W:World}{Q B e g c:Nat}{m:Value}{k l n:Nat}{L:List It}(b:dx W Q B e (.slice (some ⟨g,0,none⟩) n c) m k l L)(j:n=L.length){i:Nat}{a:It}(d:L[i]?=some a):
 W.cell? ⟨g,i*2,none⟩=some (.int .i64 (a.1:Nat))/\W.cell? ⟨g,i*2+1,none⟩=some (.int .u64 (a.2:Nat)):=by
 have o:=(aL.1 d).1;subst j;obtain⟨f,h⟩:=Oo d;exact⟨(b.items.cellAt (i*2) ad).trans f,(b.items.cellAt (i*2+1) ad).trans h⟩
theorem E6(W:World)(Q B b k f:Nat)(e g:Value)(L:List It)(a:dx W Q B b e g k f L):
 Calls prog 360 #[.pointer (some ⟨Q,0,none⟩)] W fun d w'=>d=.returned (.int .i64 (L.length:Nat))/\w'=W:=by
 obtain⟨o,c,rfl⟩:=bL a.items;have h:=ai 0 a.box;clear a;go_enter func360,ntmps360
 go_wp2
 go_ret;exact⟨rfl,rfl⟩
theorem mH{W:World}{B b size n g c o:Nat}{xs:List Value}{u:Value}(d:W.ownsRow B b size (.slice (some ⟨g,0,none⟩) n c) n xs):(W.setCell ⟨g,o,none⟩ u).ownsRow B b size (.slice (some ⟨g,0,none⟩) n c) n (xs.set o u):=by
 refine⟨by rw[mX];exact d.1,?_⟩;rcases d.2 with⟨a,_⟩|⟨p,cap,e,m,j,l,a,f,h,i⟩
 ·cases a
 ·cases m
  refine .inr ⟨g,c,e.setIfInBounds o u,rfl,j,bn W g o u l,a,f,by simpa using h,?_⟩;rw[BO,<-i,List.take_set]
theorem E9{W:World}{B a size n g c:Nat}{xs:List Value}(b:W.ownsRow B a size (.slice (some ⟨g,0,none⟩) (n+1) c) (n+1) xs):W.ownsRow B a size (.slice (some ⟨g,0,none⟩) n c) n (xs.take (n*size)):=by
 have m:n*size<=(n+1)*size:=xU _ (Nat.le_succ n);refine⟨by rw[fm,b.1];omega,?_⟩;rcases b.2 with⟨d,_⟩|⟨p,cap,e,o,j,l,d,f,h,i⟩
 ·cases d
 ·cases o
  refine .inr ⟨g,c,e,rfl,j,l,ad,f,h,?_⟩;rw[<-i,List.take_take,AV m]
theorem Fa{W:World}{B b size n g c:Nat}{xs:List Value}(d:W.ownsRow B b size (.slice (some ⟨g,0,none⟩) n c) n xs):n<=c/\c<=maxLen:=by
 rcases d.2 with⟨a,_⟩|⟨i,cap,h,f,m,o,a,e,j,l⟩
 ·cases a
 ·cases f
  exact⟨a,e⟩
theorem QG.turned{i j m:TypeId}{l n:Nat}{av o:Value}{xs:List Value}{W c:World}{Q B f r s q:Nat}{p t:Value}{k z:Nat}{u:List Value}(a:QG i j m l av o W Q B f p t k z n xs)(d e:Value)
 (box:c.heap[Q]?=some (.cells #[d,e,av,.int .u64 (s:Nat)] j)) (y:c.ownsRow B i l d r u) (A:∃ys,c.ownsRow B 105 2 e q ys)
 (size:W.heap.size<=c.heap.size) (w:∀b,b<W.heap.size->b≠Q->p.ownBlock≠some b->t.ownBlock≠some b->c.heap[b]?=W.heap[b]?)
 (x:∀g,d.ownBlock=some g->e.ownBlock≠some g):QG i j m l av o c Q B f d e q s r u:=
 ⟨box,y,A,x,a.low,aJ a.lowB size,(w f (aU a.ob) a.obQ (fun h=>by have:=(aF a.items h).1;have:=a.obB;omega) (fun h=>by obtain⟨ys,v⟩:=a.swaps;have:=(aF v h).1;have:=a.obB;omega)).trans a.ob,a.obB,a.obQ⟩
theorem Fc{p r w:TypeId}{s n:Nat}{av x:Value}{xs:List Value}{W v u h:World}{Q B t k q c gc:Nat}{j l:Value}{ys:List Value}(f:QG p r w s av x W Q B t j l k q n xs)(C:Below W.heap.size W v)(H:Below v.heap.size v u)(e:u.grownBy h j.ownBlock)
 (N:h.ownsRow B p s (.slice (some ⟨c,0,none⟩) (n+1) gc) (n+1) (xs++ys)) (y:j.ownBlock=some c∨c=u.heap.size):
 (∃O,QG p r w s av x (h.setCell ⟨Q,0,none⟩ (.slice (some ⟨c,0,none⟩) (n+1) gc)) Q B t O l k q (n+1) (xs++ys))/\bY Q W (h.setCell ⟨Q,0,none⟩ (.slice (some ⟨c,0,none⟩) (n+1) gc)):=by
 have I:=aU f.box;have m:Below W.heap.size W u:=C.trans (H.mono C.size);have R:=m.size;have P:=e.size;have D:j.ownBlock≠some Q:=fun d=>by have:=(aF f.items d).1;have:=f.low;omega
 have K:h.heap[Q]?=some (.cells #[j,l,av,.int .u64 (q:Nat)] r):=(e.block Q ad D.symm).trans ((m.block Q I).trans f.box);obtain⟨zs,G⟩:=f.swaps;have A:=fun g (e:l.ownBlock=some g)=>aF G e;have F:∀g,l.ownBlock=some g->j.ownBlock≠some g:=fun g a i=>f.apart g i a;have L:l.ownBlock≠some c:=fun d=>by
  rcases y with a|a
  ·exact F _ d a
  ·have:=(A _ d).2;omega
 have M:c≠Q:=by
  rcases y with a|a
  ·exact fun d=>D (d▸a)
  ·omega
 have z:∀b,b<W.heap.size->b≠Q->j.ownBlock≠some b->(h.setCell ⟨Q,0,none⟩ (.slice (some ⟨c,0,none⟩) (n+1) gc)).heap[b]?=W.heap[b]?:=fun b a i o=>
  (aS h Q 0 b _ i).trans ((e.block b ad (fun d=>o d.symm)).trans (m.block b a))
 have J:=bn h Q 0 (.slice (some ⟨c,0,none⟩) (n+1) gc) K;have E:QG p r w s av x (h.setCell ⟨Q,0,none⟩ (.slice (some ⟨c,0,none⟩) (n+1) gc)) Q B t (.slice (some ⟨c,0,none⟩) (n+1) gc) l k q (n+1) (xs++ys):=by refine f.turned _ _ J ?_ ⟨zs,aP G (fun g a=>z g (A g a).2 (fun d=>by have:=(A g a).1;have:=f.low;omega) (fun d=>F g a d))⟩ (by rw[dE];omega) (fun b a i o _=>z b a i o) (fun g a=>by cases a;exact L);exact aP N (fun g e=>aS _ _ _ _ _ (by cases e;exact M))
 refine⟨⟨_,E⟩,oF f.box E.box (e.os.trans m.os) (e.tape.trans m.tape) (e.output.trans m.output) (by rw[dE];omega) (fun b a i o _=>z b a i o) (fun g a=> ?_) (fun g a=>.inr (.inl a))⟩;cases a
 rcases y with a|a
 ·exact .inl a
 ·exact .inr (.inr (show W.heap.size<=c by omega))
theorem Fd(v:Value)(W:World):(Instr.typeAssert (.iface 414 v) 20 414 true).run prog W=.ok (.tuple #[v,.bool true]) W:=aA
theorem Ot(W:World)(Q B A k G:Nat)(ab I:Value)(L:List It)(x:It)(j:dx W Q B A ab I k G L)(R:L.length<=1048576):
 Calls prog 363 #[.pointer (some ⟨Q,0,none⟩),.iface 414 (.agg #[.int .i64 (x.1:Nat),.int .u64 (x.2:Nat)])] W fun g w'=>g=.returned (.tuple #[])/\(∃y,dx w' Q B A y I k G (L++[x]))/\bY Q W w':=by
 obtain⟨aa,P,X,Y,Z⟩:=cY Om;obtain⟨d,m⟩:=x;simp only;obtain⟨n,v⟩:=ar (L.length);obtain⟨o,c,rfl⟩:=bL j.items;obtain⟨H,f⟩:=aD j v;obtain⟨a,t,p,b⟩:=cm W (.cells #[.int .i64 (d:Nat),.int .u64 (m:Nat)] 414);have ae:a.heap.size=W.heap.size+1:=by rw[t];simp
 have s:=j.below p;have q:=ai 0 s.box;have ba:=ai 0 b;have bb:=ai 1 b;obtain⟨J,e,K⟩:=bH p s b;clear j s b p;rw[<-v]at q R;clear v;have a2:=Fd (.agg #[.int .i64 (d:Nat),.int .u64 (m:Nat)]) W;go_enter func363,ntmps363
 go_wp2_with(first
  |(rw[<-t];clear t)
  |fail)
 have F:some Q≠(Value.slice o n c).ownBlock:=fun g=>by have:=(aF e.o.items (by rw[<-f.o];exact g.symm)).1;have:=e.o.low;omega
 have a5:some W.heap.size≠(Value.slice o n c).ownBlock:=fun g=>by have:=(aF H.o.items (by rw[<-f.o];exact g.symm)).2;omega
 have a1:=aU H.o.box;have C:∀w',Below a.heap.size a w'->w'.cell? ⟨Q,0,none⟩=some (.slice o n c)/\w'.frozen? ⟨Q,0,none⟩=false/\w'.cell? ⟨W.heap.size,0,none⟩=some (.int .i64 (d:Nat))/\w'.cell? ⟨W.heap.size,1,none⟩=some (.int .u64 (m:Nat)):=fun w' h=>by have r:=(h.block Q ad).trans e.o.box;have b:=(h.block W.heap.size ad).trans K.o;rw[<-f.o]at r;exact⟨ai 0 r,aT r 0,ai 0 b,ai 1 b⟩
 have N:∀u l:World,Below a.heap.size a u->u.grownBy l (Value.slice o n c).ownBlock->l.cell? ⟨Q,0,none⟩=some (.slice o n c)/\l.frozen? ⟨Q,0,none⟩=false:=by intro u l h D;have a6:=h.size;obtain⟨q,M,af,ag⟩:=C u h;exact⟨(D.cell_far ⟨Q,0,none⟩ (by show Q<_;omega) F).trans q,(D.frozen_far ⟨Q,0,none⟩ (by show Q<_;omega) F).trans M⟩
 have a3:=(aE a.heap.size a).drew;obtain⟨al,an,ao,aq⟩:=C a (aE _ _);have w:=e.o.items;rw[<-f.o]at w;have a0:B<=a.heap.size:=e.o.lowB
 go_region_law (first
  |((refine xY _ (by rfl) _ _ _ (by rfl) B 414 aa _ 2 16 underlying416 P X Y Z rfl ad (.slice o n c) n (fX L) (by rfl) (by(first|exact f9 w.drew _|exact(f9 w _).drew)) ⟨W.heap.size+1,0,none⟩ 1 1 [.int .i64 (d:Nat),.int .u64 (m:Nat)] (by rfl) (by rfl) (by exact dK a.drew [.int .i64 (d:Nat),.int .u64 (m:Nat)] _ _ ae.symm) (fun z i=>by simp at i;rcases i with rfl|rfl<;>rfl) ad bI ad aR _ rfl ?_);intro av gc a9 S E O a4;obtain⟨a7,a8⟩:=N _ _ (by first|exact aG.drew|exact((aE _ a).drew).alloc ak _) E))
 all_goals go_wp2_with fail
 all_goals go_end0
 all_goals(have T:=f.o;subst T;have i:=Fc (ys:=zP (d,m)) H.o J.o (by first|exact aG.drew|exact((aE _ a).drew).alloc ak _) E S (by simpa using O);refine⟨rfl,?_,i.2⟩;obtain⟨y,V⟩:=i.1;exact⟨y,by unfold dx;rw[cR,On];exact V⟩)
def qS(a b:Nat):Int:=if a<b then-1 else if b<a then 1 else 0
theorem Fe(a b:Nat)(w:World):Calls prog 191 #[.int .i64 (a:Nat),.int .i64 (b:Nat)] w fun d w'=>d=.returned (.int .i64 (qS a b))/\w=w':=by
 unfold qS;rcases xN a b with c|c|c
 ·have d0:decide (a<b)=true:=by simpa using c
  rw[ay c];go_enter func191,ntmps191
  go_wp2
  go_ret;exact⟨rfl,rfl⟩
 ·subst c
  rw[au ad,au ad];go_enter func191,ntmps191
  go_wp2
  go_ret;exact⟨rfl,rfl⟩
 ·have d0:decide (a<b)=false:=aR
  have d1:decide (b<a)=true:=by simpa using c
  rw[au ad,ay c];go_enter func191,ntmps191
  go_wp2
  go_ret;exact⟨rfl,rfl⟩
theorem Ou(a b:Nat)(w:World):Calls prog 277 #[.agg #[.int .i64 (a:Nat)],.agg #[.int .i64 (b:Nat)]] w fun e w'=>e=.returned (.int .i64 (qS a b))/\Below w.heap.size w w':=by
 obtain⟨c,f⟩:=ar (qS a b);have d:=fun w=>Fe a b w;rw[<-f]at d⊢;have g:=ah d;clear f d;go_enter func277,ntmps277
 go_wp2_with fail
 refine(g.o _).mono ?_;rintro e w' ⟨rfl,rfl⟩
 go_wp2
 go_ret;exact⟨rfl,aG.alloc ak _⟩
theorem Ov(n:Nat)(x y:It)(w:World)(u:w.heap[n]?=some (.cells #[.func (.func 277) #[] #[]] 373)):
 Calls prog 312 #[.agg #[.int .i64 (x.1:Nat),.int .u64 (x.2:Nat)],.agg #[.int .i64 (y.1:Nat),.int .u64 (y.2:Nat)],.pointer (some ⟨n,0,none⟩)] w fun z w'=>z=.returned (.bool (de x y))/\Below w.heap.size w w':=by
 obtain⟨e,m⟩:=x;obtain⟨f,l⟩:=y;simp only;have K:=aU u;obtain⟨g,d⟩:=ar ((w.alloc (.cells #[.int .i64 (e:Nat),.int .u64 (m:Nat)] 414)).alloc (.cells #[.int .i64 (f:Nat),.int .u64 (l:Nat)] 414));have p:Below w.heap.size w g:=by rw[d];exact aG.alloc ak _
 have q:g.heap[w.heap.size]?=some (.cells #[.int .i64 (e:Nat),.int .u64 (m:Nat)] 414):=by rw[d];exact(bk _ _ _ ak).trans (aB w _)
 have r:g.heap[w.heap.size+1]?=some (.cells #[.int .i64 (f:Nat),.int .u64 (l:Nat)] 414):=by rw[d];have:=aB (w.alloc (.cells #[.int .i64 (e:Nat),.int .u64 (m:Nat)] 414)) (.cells #[.int .i64 (f:Nat),.int .u64 (l:Nat)] 414);rwa[bj]at this
 have A:g.heap.size=w.heap.size+2:=by rw[d];simp
 have L:=ai 0 ((p.block n K).trans u);have M:=ai 0 q;have N:=ai 0 r;have O:=fun args (C:World)=>(rfl:(callFunc 277 args).run prog C=.ok (.enter 277 args) C);have t:=Ou e f g;obtain⟨c,s⟩:=ar (qS e f);rw[<-s]at t;obtain⟨J,I,F,G,H,o⟩:=g6 t s p q r A;clear s t u p q r A;go_enter func312,ntmps312
 go_wp2_with(first|(rw[<-d];clear d)|fail)
 refine J.o.mono ?_;rintro z B ⟨rfl,h⟩;have D:B.heap[w.heap.size]?=_:=(h.block _ (by have:=o.out;omega)).trans G.out;have E:B.heap[w.heap.size+1]?=_:=(h.block _ (by have:=o.out;omega)).trans H.out;have P:=ai 1 D;have Q:=ai 1 E;have i:=ah (F.out.trans (h.mono (by have:=o.out;omega)));clear h D E M N L;have b:=I.o;unfold qS at b;rcases xN e f with a|a|a
 ·rw[ay a]at b
  subst b
  go_wp2
  go_ret;exact⟨by simp[de,a],i.out⟩
 ·rw[au ad,au ad]at b
  subst b;have v:=ah a;clear a;cases j:decide (m<l)with
  |true=>
   go_wp2
   go_ret;exact⟨by have:=v.o;simp at j;simp[de,this,j],i.out⟩
  |false=>
   go_wp2
   go_ret;exact⟨by have:=v.o;simp at j;simp[de,this,j],i.out⟩
 ·rw[au ad,ay a]at b
  subst b
  go_wp2
  go_ret;exact⟨by simp[de];omega,i.out⟩
theorem tk(W:World)(Q B f k V i j:Nat)(T X:Value)(L:List It)(a b:It)(e:dx W Q B f T X k V L)(o:L[i]?=some a)(r:L[j]?=some b)(ab:L.length<=1048577):
 Calls prog 361 #[.pointer (some ⟨Q,0,none⟩),.int .i64 (i:Nat),.int .i64 (j:Nat)] W fun z w'=>z=.returned (.bool (de a b))/\Below W.heap.size W w':=by
 have Z:=(aL.1 o).1;have aa:=(aL.1 r).1;obtain⟨g,c,rfl⟩:=e.iv_form ad;obtain⟨n,D⟩:=ar (L.length);have x:=ai 0 e.box;have y:=ai 2 e.box;obtain⟨G,H⟩:=e.cells rfl o;obtain⟨I,J⟩:=e.cells rfl r;have h:=fun w' (d:Below W.heap.size W w')=>Ov f a b w' ((d.block f (aU e.ob)).trans e.ob);have l:=(aF e.items (g:=g) rfl).2;have A:=aU e.box;obtain⟨t,m⟩:=a;obtain⟨u,s⟩:=b;simp only at G H I J h;have C:∀w',Below W.heap.size W w'->w'.cell? ⟨Q,0,none⟩=W.cell? ⟨Q,0,none⟩/\w'.cell? ⟨Q,2,none⟩=W.cell? ⟨Q,2,none⟩/\w'.cell? ⟨g,i*2,none⟩=W.cell? ⟨g,i*2,none⟩/\w'.cell? ⟨g,i*2+1,none⟩=W.cell? ⟨g,i*2+1,none⟩/\w'.cell? ⟨g,j*2,none⟩=W.cell? ⟨g,j*2,none⟩/\w'.cell? ⟨g,j*2+1,none⟩=W.cell? ⟨g,j*2+1,none⟩:=fun w' d=>
  ⟨d.cell (p:=⟨Q,0,none⟩) A,d.cell (p:=⟨Q,2,none⟩) A,d.cell (p:=⟨g,i*2,none⟩) l,d.cell (p:=⟨g,i*2+1,none⟩) l,d.cell (p:=⟨g,j*2,none⟩) l,d.cell (p:=⟨g,j*2+1,none⟩) l⟩
 obtain⟨q,E⟩:=ar (de (t,m) (u,s));rw[<-E]at h⊢;have M:=ah h;have ae:(0:Int)<=i:=ad;have al:(0:Int)<=j:=ad;have af:(i:Int)<n:=ad;have an:(j:Int)<n:=ad;have ag:i<n:=ad;have ao:j<n:=ad;rw[<-D]at x;have K:=ah C;have Y:=fun args (F:World)=>(rfl:(callFunc 312 args).run prog F=.ok (.enter 312 args) F);unfold qR at y;clear e h E D o r C;go_enter func361,ntmps361
 go_wp2_with fail
 have v:Hid (∀w',Below W.heap.size W w'->w'.cell? ⟨Q,0,none⟩=some (.slice (some ⟨g,0,none⟩) n c)/\w'.cell? ⟨Q,2,none⟩=some (.func (.func 312) #[] #[.pointer (some ⟨f,0,none⟩)])/\w'.cell? ⟨g,i*2,none⟩=some (.int .i64 (t:Nat))/\w'.cell? ⟨g,i*2+1,none⟩=some (.int .u64 (m:Nat))/\w'.cell? ⟨g,j*2,none⟩=some (.int .i64 (u:Nat))/\w'.cell? ⟨g,j*2+1,none⟩=some (.int .u64 (s:Nat))/\Below W.heap.size W w'):=fun w' d=>by obtain⟨a1,N,O,P,R,S⟩:=K.o w' d;exact⟨a1.trans x,N.trans y,O.trans G,P.trans H,R.trans I,S.trans J,d⟩
 go_region_held3(fun w'=>w'.cell? ⟨Q,0,none⟩=some (.slice (some ⟨g,0,none⟩) n c)/\w'.cell? ⟨Q,2,none⟩=some (.func (.func 312) #[] #[.pointer (some ⟨f,0,none⟩)])/\w'.cell? ⟨g,i*2,none⟩=some (.int .i64 (t:Nat))/\w'.cell? ⟨g,i*2+1,none⟩=some (.int .u64 (m:Nat))/\w'.cell? ⟨g,j*2,none⟩=some (.int .i64 (u:Nat))/\w'.cell? ⟨g,j*2+1,none⟩=some (.int .u64 (s:Nat))/\Below W.heap.size W w')
  (first|exact v.o _ (aE _ W).drew|exact v.o _ (aO (aE _ W).drew w))
  (first|(go_at_call 312;refine(M.o _ ?_).mono ?_;(focus(exact(aE _ W).drew));rintro z aq ⟨rfl,w⟩))
 go_wp2
 go_ret;exact⟨rfl,aO (aE _ W).drew w⟩
theorem Ow{W:World}{Q B o g c k q i j:Nat}{r:Value}{L:List It}{a b:It}(d:dx W Q B o (.slice (some ⟨g,0,none⟩) L.length c) r k q L)(x:L[i]?=some a)(z:L[j]?=some b):
 dx ((((W.setCell ⟨g,i*2,none⟩ (.int .i64 (b.1:Nat))).setCell ⟨g,i*2+1,none⟩ (.int .u64 (b.2:Nat))).setCell ⟨g,j*2,none⟩ (.int .i64 (a.1:Nat))).setCell ⟨g,j*2+1,none⟩ (.int .u64 (a.2:Nat))) Q B o (.slice (some ⟨g,0,none⟩) L.length c) r k q (fW L i j)/\
 bY Q W ((((W.setCell ⟨g,i*2,none⟩ (.int .i64 (b.1:Nat))).setCell ⟨g,i*2+1,none⟩ (.int .u64 (b.2:Nat))).setCell ⟨g,j*2,none⟩ (.int .i64 (a.1:Nat))).setCell ⟨g,j*2+1,none⟩ (.int .u64 (a.2:Nat))):=by
 obtain⟨l,h⟩:=ar (((((W.setCell ⟨g,i*2,none⟩ (.int .i64 (b.1:Nat))).setCell ⟨g,i*2+1,none⟩ (.int .u64 (b.2:Nat))).setCell ⟨g,j*2,none⟩ (.int .i64 (a.1:Nat))).setCell ⟨g,j*2+1,none⟩ (.int .u64 (a.2:Nat))));rw[<-h];have C:=(aF d.items (g:=g) rfl).1;have w:Q≠g:=fun e=>by have:=d.low;omega
 have n:∀b,b≠g->l.heap[b]?=W.heap[b]?:=fun b m=>by rw[h,aS _ _ _ _ _ m,aS _ _ _ _ _ m,aS _ _ _ _ _ m,aS _ _ _ _ _ m]
 have D:l.heap.size=W.heap.size:=by rw[h];simp only[dE]
 have y:l.ownsRow B 414 2 (.slice (some ⟨g,0,none⟩) L.length c) L.length (fX (fW L i j)):=by
  have e:fW L i j=(L.set i b).set j a:=by simp[fW,x,z]
  rw[h,e,E3,E3];exact mH (mH (mH (mH d.items)))
 obtain⟨zs,A⟩:=d.swaps;have v:=(n Q w).trans d.box;have s:dx l Q B o (.slice (some ⟨g,0,none⟩) L.length c) r k q (fW L i j):=
  d.turned _ _ v (by rw[oC];exact y) ⟨zs,aP A (fun t f=>n t (fun e=>d.apart g rfl (e▸f)))⟩ ad (fun b f u p _=>n b (fun e=>p (by rw[e];rfl))) d.apart
 exact⟨s,oF d.box s.box (by rw[h];rfl) (by rw[h];rfl) (by rw[h];rfl) ad (fun b f u p _=>n b (fun e=>p (by rw[e];rfl))) (fun g f=>.inl f) (fun g f=>.inr (.inl f))⟩
theorem Ff{y q s:TypeId}{z n:Nat}{av t:Value}{xs:List Value}{W u h:World}{Q B r k p d gc:Nat}{j l:Value}{ys:List Value}(e:QG y q s z av t W Q B r j l k p n xs)(i:Below W.heap.size W u)(f:u.grownBy h l.ownBlock)
 (I:h.ownsRow B 105 2 (.slice (some ⟨d,0,none⟩) (k+1) gc) (k+1) ys) (v:l.ownBlock=some d∨d=u.heap.size):
 (∃K,QG y q s z av t (h.setCell ⟨Q,1,none⟩ (.slice (some ⟨d,0,none⟩) (k+1) gc)) Q B r j K (k+1) p n xs)/\bY Q W (h.setCell ⟨Q,1,none⟩ (.slice (some ⟨d,0,none⟩) (k+1) gc)):=by
 have D:=aU e.box;have M:=i.size;have L:=f.size;obtain⟨zs,J⟩:=e.swaps;have C:l.ownBlock≠some Q:=fun c=>by have:=(aF J c).1;have:=e.low;omega
 have F:h.heap[Q]?=some (.cells #[j,l,av,.int .u64 (p:Nat)] q):=(f.block Q ad C.symm).trans ((i.block Q D).trans e.box);have x:=fun g (f:j.ownBlock=some g)=>aF e.items f;have G:j.ownBlock≠some d:=fun c=>by
  rcases v with a|a
  ·exact e.apart _ c a
  ·have:=(x _ c).2;omega
 have H:d≠Q:=by
  rcases v with a|a
  ·exact fun c=>C (c▸a)
  ·omega
 have w:∀b,b<W.heap.size->b≠Q->l.ownBlock≠some b->(h.setCell ⟨Q,1,none⟩ (.slice (some ⟨d,0,none⟩) (k+1) gc)).heap[b]?=W.heap[b]?:=fun b a m o=>
  (aS h Q 1 b _ m).trans ((f.block b ad (fun c=>o c.symm)).trans (i.block b a))
 have E:=bn h Q 1 (.slice (some ⟨d,0,none⟩) (k+1) gc) F;have A:QG y q s z av t (h.setCell ⟨Q,1,none⟩ (.slice (some ⟨d,0,none⟩) (k+1) gc)) Q B r j (.slice (some ⟨d,0,none⟩) (k+1) gc) (k+1) p n xs:=
  e.turned _ _ E (aP e.items (fun g a=>w g (x g a).2 (fun c=>by have:=(x g a).1;have:=e.low;omega) (fun c=>e.apart g a c)))
   ⟨ys,aP I (fun g f=>aS _ _ _ _ _ (by cases f;exact H))⟩ (by rw[dE];omega) (fun b a m _ o=>w b a m o) (fun g a c=>by cases c;exact G a)
 refine⟨⟨_,A⟩,oF e.box A.box (f.os.trans i.os) (f.tape.trans i.tape) (f.output.trans i.output) (by rw[dE];omega) (fun b a m _ o=>w b a m o) (fun g a=>.inl a) (fun g a=> ?_)⟩;cases a
 rcases v with a|a
 ·exact .inr (.inl a)
 ·exact .inr (.inr (show W.heap.size<=d by omega))
theorem tm(W:World)(Q B H k R i j:Nat)(bz bB:Value)(L:List It)(a b:It)(d:dx W Q B H bz bB k R L)(F:L[i]?=some a)(s:L[j]?=some b)(b2:L.length<=1048577)(b0:k<=1048576):
 Calls prog 364 #[.pointer (some ⟨Q,0,none⟩),.int .i64 (i:Nat),.int .i64 (j:Nat)] W fun h w'=>h=.returned (.tuple #[])/\(∃O A,dx w' Q B H O A (k+1) R (fW L i j))/\bY Q W w':=by
 have bN:=(aL.1 F).1;have bZ:=(aL.1 s).1;obtain⟨g,c,rfl⟩:=d.iv_form ad;obtain⟨bw,bi,bq,bt,bu⟩:=cY EX;have bg:=d.below (aE _ W).drew;obtain⟨N,aa⟩:=Ow d F s;have w:=N.below (aE _ _).drew;have M:=aa.trans (fj N (aE _ _).drew);obtain⟨C,D⟩:=ar (((((W.setCell ⟨g,i*2,none⟩ (.int .i64 (b.1:Nat))).setCell ⟨g,i*2+1,none⟩ (.int .u64 (b.2:Nat))).setCell ⟨g,j*2,none⟩ (.int .i64 (a.1:Nat))).setCell ⟨g,j*2+1,none⟩ (.int .u64 (a.2:Nat))).drew);rw[<-D]at w M;clear N aa bg;have f:∀(u:World) (o:Nat),(∃v,u.cell? ⟨g,o,none⟩=some v)->∀P x,∃v,(u.setCell ⟨g,P,none⟩ x).cell? ⟨g,o,none⟩=some v:=fun u o ⟨v,f⟩ P x=>by
  by_cases h:o=P
  ·subst h
   exact⟨x,rR _ _ _ (by rw[f];rfl)⟩
  ·exact⟨v,(kd _ _ _ _ (fun J=>h (by injection J with _ J;exact J.symm))).trans f⟩
 obtain⟨cc,ag⟩:=f (W.setCell ⟨g,i*2,none⟩ (.int .i64 (b.1:Nat))) (j*2) (f W (j*2) ⟨_,(d.cells rfl s).1⟩ _ _) (i*2+1) (.int .u64 (b.2:Nat));obtain⟨cd,al⟩:=f (W.setCell ⟨g,i*2,none⟩ (.int .i64 (b.1:Nat))) (j*2+1) (f W (j*2+1) ⟨_,(d.cells rfl s).2⟩ _ _) (i*2+1) (.int .u64 (b.2:Nat));clear f;obtain⟨n,ae⟩:=ar (L.length);obtain⟨ys,y⟩:=w.swaps;obtain⟨p,l,rfl⟩:=bL y;have T:=ai 0 d.box;have bD:=ai 1 w.box;obtain⟨aq,av⟩:=d.cells rfl F;obtain⟨a0,a1⟩:=d.cells rfl s;have a8:W.frozen? ⟨g,i*2,none⟩=false:=d.items.frozenAt (i*2);have a9:W.frozen? ⟨g,i*2+1,none⟩=false:=d.items.frozenAt (i*2+1);have ba:W.frozen? ⟨g,j*2,none⟩=false:=d.items.frozenAt (j*2);have bb:W.frozen? ⟨g,j*2+1,none⟩=false:=d.items.frozenAt (j*2+1);have bF:Q≠g:=fun h=>by have:=(aF d.items (g:=g) rfl).1;have:=d.low;omega
 obtain⟨b9,m⟩:=a;obtain⟨ca,b7⟩:=b;simp only at aq av a0 a1 D ag al;have b3:(0:Int)<=i:=ad;have b5:(0:Int)<=j:=ad;have b4:(i:Int)<n:=ad;have b6:(j:Int)<n:=ad;rw[<-ae]at T;obtain⟨a7,a6,a5⟩:=bH w M D;clear d ae F s w M D;go_enter func364,ntmps364
 go_wp2_with fail
 go_region
 rw[<-a5.o];have r:=a7.o;have bf:=aU r.box;have bE:=r.lowB;obtain⟨t,E,I⟩:=dF C (.cells #[.int .i64 (i:Nat),.int .i64 (j:Nat)] 105);have cb:t.heap.size=C.heap.size+1:=by rw[E];simp
 have af:t.ownsRow B 105 2 (.slice p k l) k ys:=by rw[E];exact f9 y _
 have bl:=dK C [.int .i64 (i:Nat),.int .i64 (j:Nat)] 105 _ rfl;have ab:some Q≠(Value.slice p k l).ownBlock:=fun h=>by have:=(aF y h.symm).1;have:=r.low;omega
 have X:∀G:World,t.grownBy G (Value.slice p k l).ownBlock->G.cell? ⟨Q,1,none⟩=some (.slice p k l)/\G.frozen? ⟨Q,1,none⟩=false:=fun G Z=>by have V:=(I.block Q bf).trans r.box;exact⟨(Z.cell_far ⟨Q,1,none⟩ (by show Q<_;omega) ab).trans (ai 1 V),(Z.frozen_far ⟨Q,1,none⟩ (by show Q<_;omega) ab).trans (aT V 1)⟩
 obtain⟨a4,a2,bC⟩:=bH X I y;have S:∀e gc q,t.grownBy q (Value.slice p k l).ownBlock->q.ownsRow B 105 2 (.slice (some ⟨e,0,none⟩) (k+1) gc) (k+1) (ys++[.int .i64 (i:Nat),.int .i64 (j:Nat)])->((Value.slice p k l).ownBlock=some e∨e=t.heap.size)->(∃O A,dx (q.setCell ⟨Q,1,none⟩ (.slice (some ⟨e,0,none⟩) (k+1) gc)) Q B H O A (k+1) R (fW L i j))/\bY Q W (q.setCell ⟨Q,1,none⟩ (.slice (some ⟨e,0,none⟩) (k+1) gc)):=fun e gc q bc bd be=>by obtain⟨⟨A,bA⟩,ao⟩:=Ff r a2.o bc bd be;exact⟨⟨_,A,bA⟩,a6.o.trans ao⟩
 have a3:=ah S;rw[E]at af;clear S X I y r ag al aq av a0 a1 a8 a9 ba bb T;go_wp2_with(first
  |(at_builtin;go_must (refine is _ rfl _ _ 298 rfl B 105 bw _ 2 16 BP bi bq bt bu rfl ad (.slice p k l) k ys rfl af ⟨C.heap.size,0,none⟩ 1 1 [.int .i64 (i:Nat),.int .i64 (j:Nat)] rfl rfl bl (fun z an=>by simp at an;rcases an with rfl|rfl<;>rfl) ad bI ad aR _ rfl ?_);intro e gc q bo K Y b1;rw[<-E]at K Y;obtain⟨ao,b8⟩:=a4.o _ K)
  |fail)
 go_end0
 exact⟨rfl,a3.o e gc q K bo Y⟩
theorem Ox{W u:World}{Q B p g c k v:Nat}{w:Value}{L:List It}{a:It}(e:dx W Q B p (.slice (some ⟨g,0,none⟩) (L.length+1) c) w k v (L++[a]))(i:Below W.heap.size W u):
 (∃G,dx (((u.setCell ⟨g,L.length*2,none⟩ (.int .i64 0)).setCell ⟨g,L.length*2+1,none⟩ (.int .u64 0)).setCell ⟨Q,0,none⟩ (.slice (some ⟨g,0,none⟩) L.length c)) Q B p G w k v L)/\
 bY Q W (((u.setCell ⟨g,L.length*2,none⟩ (.int .i64 0)).setCell ⟨g,L.length*2+1,none⟩ (.int .u64 0)).setCell ⟨Q,0,none⟩ (.slice (some ⟨g,0,none⟩) L.length c)):=by
 obtain⟨f,m⟩:=ar (((u.setCell ⟨g,L.length*2,none⟩ (.int .i64 0)).setCell ⟨g,L.length*2+1,none⟩ (.int .u64 0)));rw[<-m];have H:=aF e.items (g:=g) rfl;have y:Q≠g:=fun h=>by have:=e.low;omega
 have D:=aU e.box;have I:=i.size;have J:f.heap.size=u.heap.size:=by rw[m];simp only[dE]
 have x:∀b,b<W.heap.size->b≠g->f.heap[b]?=W.heap[b]?:=fun b d n=>by rw[m,aS _ _ _ _ _ n,aS _ _ _ _ _ n];exact i.block b d
 have r:∀b,b<W.heap.size->b≠g->b≠Q->(f.setCell ⟨Q,0,none⟩ (.slice (some ⟨g,0,none⟩) L.length c)).heap[b]?=W.heap[b]?:=fun b d n l=>(aS _ _ _ _ _ l).trans (x b d n);have E:=bn f Q 0 (.slice (some ⟨g,0,none⟩) L.length c) ((x Q D y).trans e.box);have z:=aP e.items (W':=u) (fun j d=>i.block j (aF e.items d).2);rw[cR]at z;have A:=E9 (mH (o:=L.length*2+1) (u:=.int .u64 0) (mH (o:=L.length*2) (u:=.int .i64 0) z));have F:(((fX (L++[a])).set (L.length*2) (.int .i64 0)).set (L.length*2+1) (.int .u64 0)).take (L.length*2)=fX L:=by rw[List.take_set,List.take_set,Oq,List.take_left];rw[List.set_eq_of_length_le (by rw[mX,EY];omega),List.set_eq_of_length_le (by rw[EY];omega)]
 rw[F,<-m]at A;obtain⟨zs,t⟩:=e.swaps;have C:dx (f.setCell ⟨Q,0,none⟩ (.slice (some ⟨g,0,none⟩) L.length c)) Q B p (.slice (some ⟨g,0,none⟩) L.length c) w k v L:=
  e.turned _ _ E (aP A (fun j d=>aS _ _ _ _ _ (by cases d;exact y.symm)))
   ⟨zs,aP t (fun j d=>r j (aF t d).2 (fun h=>e.apart g rfl (h▸d)) (fun h=>by have:=(aF t d).1;have:=e.low;omega))⟩ (by rw[dE];omega) (fun b d l q _=>r b d (fun h=>q (by rw[h];rfl)) l) (fun j d=>by cases d;exact e.apart g rfl)
 have s:(f.setCell ⟨Q,0,none⟩ (.slice (some ⟨g,0,none⟩) L.length c)).os=u.os/\(f.setCell ⟨Q,0,none⟩ (.slice (some ⟨g,0,none⟩) L.length c)).tape=u.tape/\(f.setCell ⟨Q,0,none⟩ (.slice (some ⟨g,0,none⟩) L.length c)).output=u.output:=by rw[m];exact⟨rfl,rfl,rfl⟩
 exact⟨⟨_,C⟩,oF e.box C.box (s.1.trans i.os) (s.2.1.trans i.tape) (s.2.2.trans i.output) (by rw[dE];omega) (fun b d l q _=>r b d (fun h=>q (by rw[h];rfl)) l) (fun g d=>.inl (by cases d;rfl)) (fun g d=>.inr (.inl d))⟩
theorem Oy(W:World)(Q B u k A:Nat)(D C:Value)(L:List It)(a:It)(b:dx W Q B u D C k A (L++[a]))(P:L.length<=1048577):
 Calls prog 362 #[.pointer (some ⟨Q,0,none⟩)] W fun v w'=>v=.returned (.iface 414 (.agg #[.int .i64 (a.1:Nat),.int .u64 (a.2:Nat)]))/\(∃E,dx w' Q B u E C k A L)/\bY Q W w':=by
 obtain⟨g,c,rfl⟩:=b.iv_form ak;simp only[cR,db,ge,cD]at b;obtain⟨n,s⟩:=ar (L.length);have l:=ai 0 b.box;obtain⟨h,j⟩:=b.cells ak (i:=L.length) (a:=a) ak;have f:=b.items;rw[cR]at f;have w:W.frozen? ⟨g,n*2,none⟩=false:=uH f (n*2);have x:W.frozen? ⟨g,n*2+1,none⟩=false:=uH f (n*2+1);have z:=Fa (n:=L.length+1) (c:=c) f;unfold maxLen at z;have O:n<=c:=ad;have N:c<=9223372036854775807:=ad;clear f z;have M:Q≠g:=fun v=>by have:=(aF b.items (g:=g) rfl).1;have:=b.low;omega
 have e:=(aF b.items (g:=g) rfl).2;have q:=aU b.box;have f0:=aT b.box 0;obtain⟨F,m⟩:=a;simp only at h j;rw[<-s]at l h j;obtain⟨G,y,d,o⟩:=cm W (.cells #[.int .i64 (F:Nat),.int .u64 (m:Nat)] 414);have r:=Ox b d;rw[<-s]at r;have t:=ah r;have Y:=ai 0 o;have Z:=ai 1 o;have H:=(d.cell (p:=⟨Q,0,none⟩) q).trans l;have I:=(d.frozen (p:=⟨Q,0,none⟩) q).trans f0;have J:=(d.frozen (p:=⟨g,n*2,none⟩) e).trans w;have K:=(d.frozen (p:=⟨g,n*2+1,none⟩) e).trans x;have V:=(d.cell (p:=⟨g,n*2,none⟩) e).trans h;have X:=(d.cell (p:=⟨g,n*2+1,none⟩) e).trans j;have R:n<=1048577:=ad;have T:W.heap.size≠g:=ad;have S:W.heap.size≠Q:=ad;clear r b s o d w x f0 e q;go_enter func362,ntmps362
 go_wp2_with(first|(rw[<-y];clear y l h j)|fail)
 go_ret;exact⟨rfl,t.o.1,t.o.2⟩
end Go.Proofs.YtnadadbndcdolaaGreatDoor
