import Derived.Test.YtbacloblanpghaaGreatDoorQbe
import Derived.Test.YtbacloblanpghaaGreatDoorQbh
import Derived.Test.YtbacloblanpghaaGreatDoorQbi
set_option linter.unusedVariables false
set_option linter.unusedSimpArgs false
set_option maxRecDepth 100000
set_option maxHeartbeats 0
namespace Go.Proofs.YtbacloblanpghaaGreatDoor
open Go.RowKit Tryz
theorem MP:(prog.info? 368).map (fun i=>(i.zero,i.size,i.bytes))=some (some (.agg #[.int .i64 0,.int .u64 0]),2,16):=ay
theorem Dx:(prog.info? 328).map (fun i=>(i.zero,i.size,i.bytes))=some (some (.agg #[.int .i64 0,.int .i64 0]),2,16):=ay
abbrev It:=Nat×Nat
def yp(x:It):List Value:=[.int .i64 (x.1:Nat),.int .u64 (x.2:Nat)]
def fQ(L:List It):List Value:=L.flatMap yp
def cU(a b:It):Bool:=decide (a.1<b.1)||(a.1==b.1&&decide (a.2<b.2))
theorem mO:qq cU:=by
 refine⟨fun a b d=> ?_,fun a b c d k=> ?_⟩
 ·simp[cU]at d⊢
  omega
 ·simp[cU]at d k⊢
  omega
theorem uQ(a:It):cU a a=false:=by simp[cU]
theorem Dy(L:List It):(fQ L).length=L.length*2:=by
 induction L with
 |nil=>rfl
 |cons a L ih=>simp[fQ,yp]at ih⊢;omega
theorem rT(a:It)(L:List It):fQ (a::L)=.int .i64 (a.1:Nat)::.int .u64 (a.2:Nat)::fQ L:=rfl
theorem MQ(L M:List It):fQ (L++M)=fQ L++fQ M:=by simp[fQ]
theorem MR{L:List It}{i:Nat}{a:It}(b:L[i]?=some a):(fQ L)[i*2]?=some (.int .i64 (a.1:Nat))/\(fQ L)[i*2+1]?=some (.int .u64 (a.2:Nat)):=by
 induction L generalizing i with
 |nil=>simp at b
 |cons x L ih=>
  cases i with
  |zero=>
   simp at b;subst b;exact⟨rfl,rfl⟩
  |succ i=>
   have:=ih (i:=i) (by simpa using b);rw[rT,show(i+1)*2=i*2+1+1 by omega];exact this
theorem Dz(L:List It)(i:Nat)(a:It):fQ (L.set i a)=((fQ L).set (i*2) (.int .i64 (a.1:Nat))).set (i*2+1) (.int .u64 (a.2:Nat)):=by
 induction L generalizing i with
 |nil=>simp[fQ]
 |cons x L ih=>
  cases i with
  |zero=>rfl
  |succ i=>
   rw[bj,rT,rT,ih,show(i+1)*2=i*2+1+1 by omega];rfl
theorem MS(L:List It)(n:Nat):(fQ L).take (n*2)=fQ (L.take n):=by
 induction L generalizing n with
 |nil=>simp[fQ]
 |cons x L ih=>
  cases n with
  |zero=>simp[fQ]
  |succ n=>
   rw[lr,rT,rT,<-ih,show(n+1)*2=n*2+1+1 by omega];rfl
def qr(a:Nat):Value:=.func (.func 271) #[] #[.pointer (some ⟨a,0,none⟩)]
structure QG(iT qT fT:TypeId)(sz:Nat)(av fv:Value)(W:World)(Q B OB:Nat)(iv sv:Value)(k put n:Nat)(xs:List Value):Prop where
 box:W.heap[Q]?=some (.cells #[iv,sv,av,.int .u64 (put:Nat)] qT)
 items:W.ownsRow B iT sz iv n xs
 swaps:∃ys,W.ownsRow B 328 2 sv k ys
 apart:∀g,iv.ownBlock=some g->sv.ownBlock≠some g
 low:Q<B
 lowB:B<=W.heap.size
 ob:W.heap[OB]?=some (.cells #[fv] fT)
 obB:OB<B
 obQ:OB≠Q
abbrev dq(W:World)(Q B a:Nat)(b d:Value)(k c:Nat)(L:List It):Prop:=QG 368 374 323 2 (qr a) (.func (.func 229) #[] #[]) W Q B a b d k c L.length (fQ L)
def SQ(Q:Nat)(W:World)(b:Nat):Prop:=(∃a c av p d,W.heap[Q]?=some (.cells #[a,c,av,p] d)/\a.ownBlock≠some b/\c.ownBlock≠some b)/\b≠Q/\b<W.heap.size
structure ca(Q:Nat)(W W':World):Prop where
 os:W'.os=W.os
 tape:W'.tape=W.tape
 output:W'.output=W.output
 kp:Kp (SQ Q) W W'
theorem ca.trans{Q:Nat}{a b c:World}(d:ca Q a b)(k:ca Q b c):ca Q a c:=⟨k.os.trans d.os,k.tape.trans d.tape,k.output.trans d.output,d.kp.trans k.kp⟩
theorem n8{W W':World}{Q:Nat}{d e av p l m n v:Value}{a o:TypeId}(q:W.heap[Q]?=some (.cells #[d,e,av,p] a))(k:W'.heap[Q]?=some (.cells #[l,m,n,v] o))(os:W'.os=W.os)(w:W'.tape=W.tape)(output:W'.output=W.output)
 (size:W.heap.size<=W'.heap.size) (s:∀b,b<W.heap.size->b≠Q->d.ownBlock≠some b->e.ownBlock≠some b->W'.heap[b]?=W.heap[b]?)
 (t:∀g,l.ownBlock=some g->d.ownBlock=some g∨e.ownBlock=some g∨W.heap.size<=g) (u:∀g,m.ownBlock=some g->d.ownBlock=some g∨e.ownBlock=some g∨W.heap.size<=g):ca Q W W':=
 ⟨os,w,output,size,fun b r=>by
   obtain⟨⟨z,B,x,A,y,c,f,h⟩,i,j⟩:=r;rw[q]at c;injection c with c
   injection c with c
   simp at c;obtain⟨rfl,rfl,rfl,rfl⟩:=c;refine⟨⟨⟨_,_,_,_,_,k,fun a=> ?_,fun a=> ?_⟩,i,eR j size⟩,s b j i f h⟩
   ·rcases t b a with a|a|a
    ·exact f a
    ·exact h a
    ·omega
   ·rcases u b a with a|a|a
    ·exact f a
    ·exact h a
    ·omega⟩
theorem QG.below{i m e:TypeId}{p n:Nat}{av f:Value}{xs:List Value}{W W':World}{Q B d:Nat}{j o:Value}{k l:Nat}(a:QG i m e p av f W Q B d j o k l n xs)(b:Below W.heap.size W W'):QG i m e p av f W' Q B d j o k l n xs:=
 ⟨(b.block _ (aN a.box)).trans a.box,aY a.items (fun g c=>b.block g (aV a.items c).2),by obtain⟨ys,h⟩:=a.swaps;exact⟨ys,aY h (fun g c=>b.block g (aV h c).2)⟩,a.apart,a.low,aR a.lowB b.size,(b.block _ (aN a.ob)).trans a.ob,a.obB,a.obQ⟩
theorem eY{j o f:TypeId}{q n:Nat}{av h:Value}{xs:List Value}{W W':World}{Q B e:Nat}{l p:Value}{k m:Nat}(d:QG j o f q av h W Q B e l p k m n xs)(a:Below W.heap.size W W'):ca Q W W':=
 n8 d.box (d.below a).box a.os a.tape a.output a.size (fun b i _ _ _=>a.block b i) (fun g c=>.inl c) (fun g c=>.inr (.inl c))
theorem QG.iv_form{i l d:TypeId}{o n:Nat}{av e:Value}{xs:List Value}{W:World}{Q B b:Nat}{a m:Value}{k j:Nat}(f:QG i l d o av e W Q B b a m k j n xs)(s:0<n):∃g c,a=.slice (some ⟨g,0,none⟩) n c:=by
 rcases f.items.2 with⟨q,r⟩|⟨g,cap,p,h,_⟩
 ·omega
 ·exact⟨g,cap,h⟩
theorem dq.cells{W:World}{Q B e g c:Nat}{m:Value}{k l n:Nat}{L:List It}(b:dq W Q B e (.slice (some ⟨g,0,none⟩) n c) m k l L)(j:n=L.length){i:Nat}{a:It}(d:L[i]?=some a):
 W.cell? ⟨g,i*2,none⟩=some (.int .i64 (a.1:Nat))/\W.cell? ⟨g,i*2+1,none⟩=some (.int .u64 (a.2:Nat)):=by
 have o:=(aP.1 d).1;subst j;obtain⟨f,h⟩:=MR d;exact⟨(b.items.cellAt (i*2) ad).trans f,(b.items.cellAt (i*2+1) ad).trans h⟩
theorem DA(W:World)(Q B b k f:Nat)(e g:Value)(L:List It)(a:dq W Q B b e g k f L):
 Calls prog 328 #[.pointer (some ⟨Q,0,none⟩)] W fun d w'=>d=.returned (.int .i64 (L.length:Nat))/\w'=W:=by
 obtain⟨o,c,rfl⟩:=cC a.items;have h:=ai 0 a.box;clear a;go_enter func328,ntmps328
 go_wp2
 go_ret;exact⟨rfl,rfl⟩
theorem lV{W:World}{B b size n g c o:Nat}{xs:List Value}{u:Value}(d:W.ownsRow B b size (.slice (some ⟨g,0,none⟩) n c) n xs):(W.setCell ⟨g,o,none⟩ u).ownsRow B b size (.slice (some ⟨g,0,none⟩) n c) n (xs.set o u):=by
 refine⟨by rw[s8];exact d.1,?_⟩;rcases d.2 with⟨a,_⟩|⟨p,cap,e,m,j,l,a,f,h,i⟩
 ·cases a
 ·cases m
  refine .inr ⟨g,c,e.setIfInBounds o u,rfl,j,bL W g o u l,a,f,by simpa using h,?_⟩;rw[zY,<-i,List.take_set]
theorem DB{W:World}{B a size n g c:Nat}{xs:List Value}(b:W.ownsRow B a size (.slice (some ⟨g,0,none⟩) (n+1) c) (n+1) xs):W.ownsRow B a size (.slice (some ⟨g,0,none⟩) n c) n (xs.take (n*size)):=by
 have m:n*size<=(n+1)*size:=Nat.mul_le_mul_right _ (Nat.le_succ n);refine⟨by rw[dx,b.1];omega,?_⟩;rcases b.2 with⟨d,_⟩|⟨p,cap,e,o,j,l,d,f,h,i⟩
 ·cases d
 ·cases o
  refine .inr ⟨g,c,e,rfl,j,l,ad,f,h,?_⟩;rw[<-i,List.take_take,vt m]
theorem DC{W:World}{B b size n g c:Nat}{xs:List Value}(d:W.ownsRow B b size (.slice (some ⟨g,0,none⟩) n c) n xs):n<=c/\c<=maxLen:=by
 rcases d.2 with⟨a,_⟩|⟨i,cap,h,f,m,o,a,e,j,l⟩
 ·cases a
 ·cases f
  exact⟨a,e⟩
theorem QG.turned{i j m:TypeId}{l n:Nat}{av o:Value}{xs:List Value}{W c:World}{Q B f r s q:Nat}{p t:Value}{k z:Nat}{u:List Value}(a:QG i j m l av o W Q B f p t k z n xs)(d e:Value)
 (box:c.heap[Q]?=some (.cells #[d,e,av,.int .u64 (s:Nat)] j)) (y:c.ownsRow B i l d r u) (A:∃ys,c.ownsRow B 328 2 e q ys)
 (size:W.heap.size<=c.heap.size) (w:∀b,b<W.heap.size->b≠Q->p.ownBlock≠some b->t.ownBlock≠some b->c.heap[b]?=W.heap[b]?)
 (x:∀g,d.ownBlock=some g->e.ownBlock≠some g):QG i j m l av o c Q B f d e q s r u:=
 ⟨box,y,A,x,a.low,aR a.lowB size,(w f (aN a.ob) a.obQ (fun h=>by have:=(aV a.items h).1;have:=a.obB;omega) (fun h=>by obtain⟨ys,v⟩:=a.swaps;have:=(aV v h).1;have:=a.obB;omega)).trans a.ob,a.obB,a.obQ⟩
theorem DD{p r w:TypeId}{s n:Nat}{av x:Value}{xs:List Value}{W v u h:World}{Q B t k q c gc:Nat}{j l:Value}{ys:List Value}(f:QG p r w s av x W Q B t j l k q n xs)(C:Below W.heap.size W v)(H:Below v.heap.size v u)(e:u.grownBy h j.ownBlock)
 (N:h.ownsRow B p s (.slice (some ⟨c,0,none⟩) (n+1) gc) (n+1) (xs++ys)) (y:j.ownBlock=some c∨c=u.heap.size):
 (∃O,QG p r w s av x (h.setCell ⟨Q,0,none⟩ (.slice (some ⟨c,0,none⟩) (n+1) gc)) Q B t O l k q (n+1) (xs++ys))/\ca Q W (h.setCell ⟨Q,0,none⟩ (.slice (some ⟨c,0,none⟩) (n+1) gc)):=by
 have I:=aN f.box;have m:Below W.heap.size W u:=C.trans (H.mono C.size);have R:=m.size;have P:=e.size;have D:j.ownBlock≠some Q:=fun d=>by have:=(aV f.items d).1;have:=f.low;omega
 have K:h.heap[Q]?=some (.cells #[j,l,av,.int .u64 (q:Nat)] r):=(e.block Q ad D.symm).trans ((m.block Q I).trans f.box);obtain⟨zs,G⟩:=f.swaps;have A:=fun g (e:l.ownBlock=some g)=>aV G e;have F:∀g,l.ownBlock=some g->j.ownBlock≠some g:=fun g a i=>f.apart g i a;have L:l.ownBlock≠some c:=fun d=>by
  rcases y with a|a
  ·exact F _ d a
  ·have:=(A _ d).2;omega
 have M:c≠Q:=by
  rcases y with a|a
  ·exact fun d=>D (d▸a)
  ·omega
 have z:∀b,b<W.heap.size->b≠Q->j.ownBlock≠some b->(h.setCell ⟨Q,0,none⟩ (.slice (some ⟨c,0,none⟩) (n+1) gc)).heap[b]?=W.heap[b]?:=fun b a i o=>
  (aX h Q 0 b _ i).trans ((e.block b ad (fun d=>o d.symm)).trans (m.block b a))
 have J:=bL h Q 0 (.slice (some ⟨c,0,none⟩) (n+1) gc) K;have E:QG p r w s av x (h.setCell ⟨Q,0,none⟩ (.slice (some ⟨c,0,none⟩) (n+1) gc)) Q B t (.slice (some ⟨c,0,none⟩) (n+1) gc) l k q (n+1) (xs++ys):=by refine f.turned _ _ J ?_ ⟨zs,aY G (fun g a=>z g (A g a).2 (fun d=>by have:=(A g a).1;have:=f.low;omega) (fun d=>F g a d))⟩ (by rw[dK];omega) (fun b a i o _=>z b a i o) (fun g a=>by cases a;exact L);exact aY N (fun g e=>aX _ _ _ _ _ (by cases e;exact M))
 refine⟨⟨_,E⟩,n8 f.box E.box (e.os.trans m.os) (e.tape.trans m.tape) (e.output.trans m.output) (by rw[dK];omega) (fun b a i o _=>z b a i o) (fun g a=> ?_) (fun g a=>.inr (.inl a))⟩;cases a
 rcases y with a|a
 ·exact .inl a
 ·exact .inr (.inr (show W.heap.size<=c by omega))
theorem DE(v:Value)(W:World):(Instr.typeAssert (.iface 368 v) 20 368 true).run prog W=.ok (.tuple #[v,.bool true]) W:=ay
theorem MT(W:World)(Q B A k G:Nat)(ab I:Value)(L:List It)(x:It)(j:dq W Q B A ab I k G L)(R:L.length<=1048576):
 Calls prog 331 #[.pointer (some ⟨Q,0,none⟩),.iface 368 (.agg #[.int .i64 (x.1:Nat),.int .u64 (x.2:Nat)])] W fun f w'=>f=.returned (.tuple #[])/\(∃y,dq w' Q B A y I k G (L++[x]))/\ca Q W w':=by
 obtain⟨aa,P,X,Y,Z⟩:=cL MP;obtain⟨r,m⟩:=x;simp only;obtain⟨n,v⟩:=aj (L.length);obtain⟨o,c,rfl⟩:=cC j.items;obtain⟨H,e⟩:=aE j v;obtain⟨a,g⟩:=aj (W.alloc (.cells #[.int .i64 (r:Nat),.int .u64 (m:Nat)] 368));have p:Below W.heap.size W a:=by rw[g];exact az
 have b:a.heap[W.heap.size]?=some (.cells #[.int .i64 (r:Nat),.int .u64 (m:Nat)] 368):=by rw[g];exact aC W _
 have ae:a.heap.size=W.heap.size+1:=by rw[g];simp
 have t:=j.below p;have q:=ai 0 t.box;have bb:=ai 0 b;have bc:=ai 1 b;obtain⟨J,d,K⟩:=bO p t b;clear j t b p;rw[<-v]at q R;clear v;have a2:=DE (.agg #[.int .i64 (r:Nat),.int .u64 (m:Nat)]) W;go_enter func331,ntmps331
 go_wp2_with(first
  |(rw[<-g];clear g)
  |fail)
 have F:some Q≠(Value.slice o n c).ownBlock:=fun f=>by have:=(aV d.o.items (by rw[<-e.o];exact f.symm)).1;have:=d.o.low;omega
 have a5:some W.heap.size≠(Value.slice o n c).ownBlock:=fun f=>by have:=(aV H.o.items (by rw[<-e.o];exact f.symm)).2;omega
 have a1:=aN H.o.box;have C:∀w',Below a.heap.size a w'->w'.cell? ⟨Q,0,none⟩=some (.slice o n c)/\w'.frozen? ⟨Q,0,none⟩=false/\w'.cell? ⟨W.heap.size,0,none⟩=some (.int .i64 (r:Nat))/\w'.cell? ⟨W.heap.size,1,none⟩=some (.int .u64 (m:Nat)):=fun w' h=>by have s:=(h.block Q ad).trans d.o.box;have b:=(h.block W.heap.size ad).trans K.o;rw[<-e.o]at s;exact⟨ai 0 s,aQ s 0,ai 0 b,ai 1 b⟩
 have N:∀u l:World,Below a.heap.size a u->u.grownBy l (Value.slice o n c).ownBlock->l.cell? ⟨Q,0,none⟩=some (.slice o n c)/\l.frozen? ⟨Q,0,none⟩=false:=by intro u l h D;have a6:=h.size;obtain⟨q,M,af,ag⟩:=C u h;exact⟨(D.cell_far ⟨Q,0,none⟩ (by show Q<_;omega) F).trans q,(D.frozen_far ⟨Q,0,none⟩ (by show Q<_;omega) F).trans M⟩
 have a3:=(aA a.heap.size a).drew;obtain⟨al,an,ao,aq⟩:=C a (aA _ _);have w:=d.o.items;rw[<-e.o]at w;have a0:B<=a.heap.size:=d.o.lowB
 go_region_law (first
  |((refine pO _ (by rfl) _ _ _ (by rfl) B 368 aa _ 2 16 underlying370 P X Y Z rfl ad (.slice o n c) n (fQ L) (by rfl) (by(first|exact dA w.drew _|exact(dA w _).drew)) ⟨W.heap.size+1,0,none⟩ 1 1 [.int .i64 (r:Nat),.int .u64 (m:Nat)] (by rfl) (by rfl) (by exact dt a.drew [.int .i64 (r:Nat),.int .u64 (m:Nat)] _ _ ae.symm) (fun z i=>by simp at i;rcases i with rfl|rfl<;>rfl) ad bN ad aO _ rfl ?_);intro av gc ba S E O a4;obtain⟨a7,a9⟩:=N _ _ (by first|exact az.drew|exact((aA _ a).drew).alloc ak _) E))
 all_goals go_wp2_with fail
 all_goals go_end0
 all_goals(have T:=e.o;subst T;have i:=DD (ys:=yp (r,m)) H.o J.o (by first|exact az.drew|exact((aA _ a).drew).alloc ak _) E S (by simpa using O);refine⟨rfl,?_,i.2⟩;obtain⟨y,V⟩:=i.1;exact⟨y,by unfold dq;rw[cm,MQ];exact V⟩)
def qs(a b:Nat):Int:=if a<b then-1 else if b<a then 1 else 0
theorem DF(a b:Nat)(w:World):Calls prog 122 #[.int .i64 (a:Nat),.int .i64 (b:Nat)] w fun e w'=>e=.returned (.int .i64 (qs a b))/\w=w':=by
 unfold qs;rcases zt a b with c|c|c
 ·have d:decide (a<b)=true:=by simpa using c
  rw[au c];go_enter func122,ntmps122
  go_wp2
  go_ret;exact⟨rfl,rfl⟩
 ·subst c
  rw[ap ad,ap ad];go_enter func122,ntmps122
  go_wp2
  go_ret;exact⟨rfl,rfl⟩
 ·have d:decide (a<b)=false:=aO
  have f:decide (b<a)=true:=by simpa using c
  rw[ap ad,au c];go_enter func122,ntmps122
  go_wp2
  go_ret;exact⟨rfl,rfl⟩
theorem MU(a b:Nat)(w:World):Calls prog 229 #[.agg #[.int .i64 (a:Nat)],.agg #[.int .i64 (b:Nat)]] w fun e w'=>e=.returned (.int .i64 (qs a b))/\Below w.heap.size w w':=by
 obtain⟨c,f⟩:=aj (qs a b);have d:=fun w=>DF a b w;rw[<-f]at d⊢;have g:=ah d;clear f d;go_enter func229,ntmps229
 go_wp2_with fail
 refine(g.o _).mono ?_;rintro e w' ⟨rfl,rfl⟩
 go_wp2
 go_ret;exact⟨rfl,az.alloc ak _⟩
theorem MV(l:Nat)(x y:It)(w:World)(u:w.heap[l]?=some (.cells #[.func (.func 229) #[] #[]] 323)):
 Calls prog 271 #[.agg #[.int .i64 (x.1:Nat),.int .u64 (x.2:Nat)],.agg #[.int .i64 (y.1:Nat),.int .u64 (y.2:Nat)],.pointer (some ⟨l,0,none⟩)] w fun z w'=>z=.returned (.bool (cU x y))/\Below w.heap.size w w':=by
 obtain⟨r,m⟩:=x;obtain⟨e,j⟩:=y;simp only;have K:=aN u;obtain⟨f,d⟩:=aj ((w.alloc (.cells #[.int .i64 (r:Nat),.int .u64 (m:Nat)] 368)).alloc (.cells #[.int .i64 (e:Nat),.int .u64 (j:Nat)] 368));have o:Below w.heap.size w f:=by rw[d];exact az.alloc ak _
 have p:f.heap[w.heap.size]?=some (.cells #[.int .i64 (r:Nat),.int .u64 (m:Nat)] 368):=by rw[d];exact(bH _ _ _ ak).trans (aC w _)
 have q:f.heap[w.heap.size+1]?=some (.cells #[.int .i64 (e:Nat),.int .u64 (j:Nat)] 368):=by rw[d];have:=aC (w.alloc (.cells #[.int .i64 (r:Nat),.int .u64 (m:Nat)] 368)) (.cells #[.int .i64 (e:Nat),.int .u64 (j:Nat)] 368);rwa[bI]at this
 have A:f.heap.size=w.heap.size+2:=by rw[d];simp
 have L:=ai 0 ((o.block l K).trans u);have M:=ai 0 p;have N:=ai 0 q;have O:=fun args (C:World)=>(rfl:(callFunc 229 args).run prog C=.ok (.enter 229 args) C);have t:=MU r e f;obtain⟨c,s⟩:=aj (qs r e);rw[<-s]at t;obtain⟨J,I,F,G,H,n⟩:=gR t s o p q A;clear s t u o p q A;go_enter func271,ntmps271
 go_wp2_with(first|(rw[<-d];clear d)|fail)
 refine J.o.mono ?_;rintro z B ⟨rfl,g⟩;have D:B.heap[w.heap.size]?=_:=(g.block _ (by have:=n.out;omega)).trans G.out;have E:B.heap[w.heap.size+1]?=_:=(g.block _ (by have:=n.out;omega)).trans H.out;have P:=ai 1 D;have Q:=ai 1 E;have h:=ah (F.out.trans (g.mono (by have:=n.out;omega)));clear g D E M N L;have b:=I.o;unfold qs at b;rcases zt r e with a|a|a
 ·rw[au a]at b
  subst b
  go_wp2
  go_ret;exact⟨by simp[cU,a],h.out⟩
 ·rw[ap ad,ap ad]at b
  subst b;have v:=ah a;clear a;cases i:decide (m<j)with
  |true=>
   go_wp2
   go_ret;exact⟨by have:=v.o;simp at i;simp[cU,this,i],h.out⟩
  |false=>
   go_wp2
   go_ret;exact⟨by have:=v.o;simp at i;simp[cU,this,i],h.out⟩
 ·rw[ap ad,au a]at b
  subst b
  go_wp2
  go_ret;exact⟨by simp[cU];omega,h.out⟩
theorem rU(W:World)(Q B f k V i j:Nat)(T X:Value)(L:List It)(a b:It)(e:dq W Q B f T X k V L)(o:L[i]?=some a)(s:L[j]?=some b)(ab:L.length<=1048577):
 Calls prog 329 #[.pointer (some ⟨Q,0,none⟩),.int .i64 (i:Nat),.int .i64 (j:Nat)] W fun z w'=>z=.returned (.bool (cU a b))/\Below W.heap.size W w':=by
 have Z:=(aP.1 o).1;have aa:=(aP.1 s).1;obtain⟨g,c,rfl⟩:=e.iv_form ad;obtain⟨n,D⟩:=aj (L.length);have x:=ai 0 e.box;have y:=ai 2 e.box;obtain⟨G,H⟩:=e.cells rfl o;obtain⟨I,J⟩:=e.cells rfl s;have h:=fun w' (d:Below W.heap.size W w')=>MV f a b w' ((d.block f (aN e.ob)).trans e.ob);have l:=(aV e.items (g:=g) rfl).2;have A:=aN e.box;obtain⟨r,m⟩:=a;obtain⟨u,t⟩:=b;simp only at G H I J h;have C:∀w',Below W.heap.size W w'->w'.cell? ⟨Q,0,none⟩=W.cell? ⟨Q,0,none⟩/\w'.cell? ⟨Q,2,none⟩=W.cell? ⟨Q,2,none⟩/\w'.cell? ⟨g,i*2,none⟩=W.cell? ⟨g,i*2,none⟩/\w'.cell? ⟨g,i*2+1,none⟩=W.cell? ⟨g,i*2+1,none⟩/\w'.cell? ⟨g,j*2,none⟩=W.cell? ⟨g,j*2,none⟩/\w'.cell? ⟨g,j*2+1,none⟩=W.cell? ⟨g,j*2+1,none⟩:=fun w' d=>
  ⟨d.cell (p:=⟨Q,0,none⟩) A,d.cell (p:=⟨Q,2,none⟩) A,d.cell (p:=⟨g,i*2,none⟩) l,d.cell (p:=⟨g,i*2+1,none⟩) l,d.cell (p:=⟨g,j*2,none⟩) l,d.cell (p:=⟨g,j*2+1,none⟩) l⟩
 obtain⟨q,E⟩:=aj (cU (r,m) (u,t));rw[<-E]at h⊢;have M:=ah h;have ae:(0:Int)<=i:=ad;have al:(0:Int)<=j:=ad;have af:(i:Int)<n:=ad;have an:(j:Int)<n:=ad;have ag:i<n:=ad;have ao:j<n:=ad;rw[<-D]at x;have K:=ah C;have Y:=fun args (F:World)=>(rfl:(callFunc 271 args).run prog F=.ok (.enter 271 args) F);unfold qr at y;clear e h E D o s C;go_enter func329,ntmps329
 go_wp2_with fail
 have v:Hid (∀w',Below W.heap.size W w'->w'.cell? ⟨Q,0,none⟩=some (.slice (some ⟨g,0,none⟩) n c)/\w'.cell? ⟨Q,2,none⟩=some (.func (.func 271) #[] #[.pointer (some ⟨f,0,none⟩)])/\w'.cell? ⟨g,i*2,none⟩=some (.int .i64 (r:Nat))/\w'.cell? ⟨g,i*2+1,none⟩=some (.int .u64 (m:Nat))/\w'.cell? ⟨g,j*2,none⟩=some (.int .i64 (u:Nat))/\w'.cell? ⟨g,j*2+1,none⟩=some (.int .u64 (t:Nat))/\Below W.heap.size W w'):=fun w' d=>by obtain⟨a1,N,O,P,R,S⟩:=K.o w' d;exact⟨a1.trans x,N.trans y,O.trans G,P.trans H,R.trans I,S.trans J,d⟩
 go_region_held3(fun w'=>w'.cell? ⟨Q,0,none⟩=some (.slice (some ⟨g,0,none⟩) n c)/\w'.cell? ⟨Q,2,none⟩=some (.func (.func 271) #[] #[.pointer (some ⟨f,0,none⟩)])/\w'.cell? ⟨g,i*2,none⟩=some (.int .i64 (r:Nat))/\w'.cell? ⟨g,i*2+1,none⟩=some (.int .u64 (m:Nat))/\w'.cell? ⟨g,j*2,none⟩=some (.int .i64 (u:Nat))/\w'.cell? ⟨g,j*2+1,none⟩=some (.int .u64 (t:Nat))/\Below W.heap.size W w')
  (first|exact v.o _ (aA _ W).drew|exact v.o _ (aD (aA _ W).drew w))
  (first|(go_at_call 271;refine(M.o _ ?_).mono ?_;(focus(exact(aA _ W).drew));rintro z aq ⟨rfl,w⟩))
 go_wp2
 go_ret;exact⟨rfl,aD (aA _ W).drew w⟩
theorem MX{W:World}{Q B o g c k q i j:Nat}{r:Value}{L:List It}{a b:It}(d:dq W Q B o (.slice (some ⟨g,0,none⟩) L.length c) r k q L)(x:L[i]?=some a)(z:L[j]?=some b):
 dq ((((W.setCell ⟨g,i*2,none⟩ (.int .i64 (b.1:Nat))).setCell ⟨g,i*2+1,none⟩ (.int .u64 (b.2:Nat))).setCell ⟨g,j*2,none⟩ (.int .i64 (a.1:Nat))).setCell ⟨g,j*2+1,none⟩ (.int .u64 (a.2:Nat))) Q B o (.slice (some ⟨g,0,none⟩) L.length c) r k q (fP L i j)/\
 ca Q W ((((W.setCell ⟨g,i*2,none⟩ (.int .i64 (b.1:Nat))).setCell ⟨g,i*2+1,none⟩ (.int .u64 (b.2:Nat))).setCell ⟨g,j*2,none⟩ (.int .i64 (a.1:Nat))).setCell ⟨g,j*2+1,none⟩ (.int .u64 (a.2:Nat))):=by
 obtain⟨l,h⟩:=aj (((((W.setCell ⟨g,i*2,none⟩ (.int .i64 (b.1:Nat))).setCell ⟨g,i*2+1,none⟩ (.int .u64 (b.2:Nat))).setCell ⟨g,j*2,none⟩ (.int .i64 (a.1:Nat))).setCell ⟨g,j*2+1,none⟩ (.int .u64 (a.2:Nat))));rw[<-h];have C:=(aV d.items (g:=g) rfl).1;have w:Q≠g:=fun e=>by have:=d.low;omega
 have n:∀b,b≠g->l.heap[b]?=W.heap[b]?:=fun b m=>by rw[h,aX _ _ _ _ _ m,aX _ _ _ _ _ m,aX _ _ _ _ _ m,aX _ _ _ _ _ m]
 have D:l.heap.size=W.heap.size:=by rw[h];simp only[dK]
 have y:l.ownsRow B 368 2 (.slice (some ⟨g,0,none⟩) L.length c) L.length (fQ (fP L i j)):=by
  have e:fP L i j=(L.set i b).set j a:=by simp[fP,x,z]
  rw[h,e,Dz,Dz];exact lV (lV (lV (lV d.items)))
 obtain⟨zs,A⟩:=d.swaps;have v:=(n Q w).trans d.box;have s:dq l Q B o (.slice (some ⟨g,0,none⟩) L.length c) r k q (fP L i j):=
  d.turned _ _ v (by rw[n5];exact y) ⟨zs,aY A (fun t f=>n t (fun e=>d.apart g rfl (e▸f)))⟩ ad (fun b f u p _=>n b (fun e=>p (by rw[e];rfl))) d.apart
 exact⟨s,n8 d.box s.box (by rw[h];rfl) (by rw[h];rfl) (by rw[h];rfl) ad (fun b f u p _=>n b (fun e=>p (by rw[e];rfl))) (fun g f=>.inl f) (fun g f=>.inr (.inl f))⟩
theorem DG{y q s:TypeId}{z n:Nat}{av t:Value}{xs:List Value}{W u h:World}{Q B r k p d gc:Nat}{j l:Value}{ys:List Value}(e:QG y q s z av t W Q B r j l k p n xs)(i:Below W.heap.size W u)(f:u.grownBy h l.ownBlock)
 (I:h.ownsRow B 328 2 (.slice (some ⟨d,0,none⟩) (k+1) gc) (k+1) ys) (v:l.ownBlock=some d∨d=u.heap.size):
 (∃K,QG y q s z av t (h.setCell ⟨Q,1,none⟩ (.slice (some ⟨d,0,none⟩) (k+1) gc)) Q B r j K (k+1) p n xs)/\ca Q W (h.setCell ⟨Q,1,none⟩ (.slice (some ⟨d,0,none⟩) (k+1) gc)):=by
 have D:=aN e.box;have M:=i.size;have L:=f.size;obtain⟨zs,J⟩:=e.swaps;have C:l.ownBlock≠some Q:=fun c=>by have:=(aV J c).1;have:=e.low;omega
 have F:h.heap[Q]?=some (.cells #[j,l,av,.int .u64 (p:Nat)] q):=(f.block Q ad C.symm).trans ((i.block Q D).trans e.box);have x:=fun g (f:j.ownBlock=some g)=>aV e.items f;have G:j.ownBlock≠some d:=fun c=>by
  rcases v with a|a
  ·exact e.apart _ c a
  ·have:=(x _ c).2;omega
 have H:d≠Q:=by
  rcases v with a|a
  ·exact fun c=>C (c▸a)
  ·omega
 have w:∀b,b<W.heap.size->b≠Q->l.ownBlock≠some b->(h.setCell ⟨Q,1,none⟩ (.slice (some ⟨d,0,none⟩) (k+1) gc)).heap[b]?=W.heap[b]?:=fun b a m o=>
  (aX h Q 1 b _ m).trans ((f.block b ad (fun c=>o c.symm)).trans (i.block b a))
 have E:=bL h Q 1 (.slice (some ⟨d,0,none⟩) (k+1) gc) F;have A:QG y q s z av t (h.setCell ⟨Q,1,none⟩ (.slice (some ⟨d,0,none⟩) (k+1) gc)) Q B r j (.slice (some ⟨d,0,none⟩) (k+1) gc) (k+1) p n xs:=
  e.turned _ _ E (aY e.items (fun g a=>w g (x g a).2 (fun c=>by have:=(x g a).1;have:=e.low;omega) (fun c=>e.apart g a c)))
   ⟨ys,aY I (fun g f=>aX _ _ _ _ _ (by cases f;exact H))⟩ (by rw[dK];omega) (fun b a m _ o=>w b a m o) (fun g a c=>by cases c;exact G a)
 refine⟨⟨_,A⟩,n8 e.box A.box (f.os.trans i.os) (f.tape.trans i.tape) (f.output.trans i.output) (by rw[dK];omega) (fun b a m _ o=>w b a m o) (fun g a=>.inl a) (fun g a=> ?_)⟩;cases a
 rcases v with a|a
 ·exact .inr (.inl a)
 ·exact .inr (.inr (show W.heap.size<=d by omega))
theorem rV(W:World)(Q B I k S i j:Nat)(bA bE:Value)(L:List It)(a b:It)(d:dq W Q B I bA bE k S L)(G:L[i]?=some a)(y:L[j]?=some b)(b6:L.length<=1048577)(b4:k<=1048576):
 Calls prog 332 #[.pointer (some ⟨Q,0,none⟩),.int .i64 (i:Nat),.int .i64 (j:Nat)] W fun h w'=>h=.returned (.tuple #[])/\(∃P E,dq w' Q B I P E (k+1) S (fP L i j))/\ca Q W w':=by
 have b2:=(aP.1 G).1;have b3:=(aP.1 y).1;obtain⟨g,c,rfl⟩:=d.iv_form ad;obtain⟨bz,bm,bt,bu,bw⟩:=cL Dx;have bl:=d.below (aA _ W).drew;obtain⟨O,ab⟩:=MX d G y;have C:=O.below (aA _ _).drew;have N:=ab.trans (eY O (aA _ _).drew);obtain⟨t,F⟩:=aj (((((W.setCell ⟨g,i*2,none⟩ (.int .i64 (b.1:Nat))).setCell ⟨g,i*2+1,none⟩ (.int .u64 (b.2:Nat))).setCell ⟨g,j*2,none⟩ (.int .i64 (a.1:Nat))).setCell ⟨g,j*2+1,none⟩ (.int .u64 (a.2:Nat))).drew);rw[<-F]at C N;clear O ab bl;have f:∀(u:World) (o:Nat),(∃v,u.cell? ⟨g,o,none⟩=some v)->∀R x,∃v,(u.setCell ⟨g,R,none⟩ x).cell? ⟨g,o,none⟩=some v:=fun u o ⟨v,f⟩ R x=>by
  by_cases h:o=R
  ·subst h
   exact⟨x,qU _ _ _ (by rw[f];rfl)⟩
  ·exact⟨v,(kj _ _ _ _ (fun K=>h (by injection K with _ K;exact K.symm))).trans f⟩
 obtain⟨co,al⟩:=f (W.setCell ⟨g,i*2,none⟩ (.int .i64 (b.1:Nat))) (j*2) (f W (j*2) ⟨_,(d.cells rfl y).1⟩ _ _) (i*2+1) (.int .u64 (b.2:Nat));obtain⟨cp,an⟩:=f (W.setCell ⟨g,i*2,none⟩ (.int .i64 (b.1:Nat))) (j*2+1) (f W (j*2+1) ⟨_,(d.cells rfl y).2⟩ _ _) (i*2+1) (.int .u64 (b.2:Nat));clear f;obtain⟨n,af⟩:=aj (L.length);obtain⟨ys,D⟩:=C.swaps;obtain⟨p,l,rfl⟩:=cC D;have V:=ai 0 d.box;have bZ:=ai 1 C.box;obtain⟨av,a0⟩:=d.cells rfl G;obtain⟨a1,a2⟩:=d.cells rfl y;have ba:W.frozen? ⟨g,i*2,none⟩=false:=d.items.frozenAt (i*2);have bb:W.frozen? ⟨g,i*2+1,none⟩=false:=d.items.frozenAt (i*2+1);have bc:W.frozen? ⟨g,j*2,none⟩=false:=d.items.frozenAt (j*2);have bd:W.frozen? ⟨g,j*2+1,none⟩=false:=d.items.frozenAt (j*2+1);have b1:Q≠g:=fun h=>by have:=(aV d.items (g:=g) rfl).1;have:=d.low;omega
 obtain⟨r,m⟩:=a;obtain⟨ci,ce⟩:=b;simp only at av a0 a1 a2 F al an;have b7:(0:Int)<=i:=ad;have b9:(0:Int)<=j:=ad;have b8:(i:Int)<n:=ad;have cc:(j:Int)<n:=ad;rw[<-af]at V;obtain⟨a9,a7,a6⟩:=bO C N F;clear d af G y C N F;go_enter func332,ntmps332
 go_wp2_with fail
 go_region
 rw[<-a6.o];have s:=a9.o;have bi:=aN s.box;have b0:=s.lowB;obtain⟨w,A⟩:=aj (t.alloc (.cells #[.int .i64 (i:Nat),.int .i64 (j:Nat)] 328));have J:Below t.heap.size t w:=by rw[A];exact az
 have cl:w.heap.size=t.heap.size+1:=by rw[A];simp
 have ag:w.ownsRow B 328 2 (.slice p k l) k ys:=by rw[A];exact dA D _
 have bo:=dt t [.int .i64 (i:Nat),.int .i64 (j:Nat)] 328 _ rfl;have ae:some Q≠(Value.slice p k l).ownBlock:=fun h=>by have:=(aV D h.symm).1;have:=s.low;omega
 have Y:∀H:World,w.grownBy H (Value.slice p k l).ownBlock->H.cell? ⟨Q,1,none⟩=some (.slice p k l)/\H.frozen? ⟨Q,1,none⟩=false:=fun H aa=>by have X:=(J.block Q bi).trans s.box;exact⟨(aa.cell_far ⟨Q,1,none⟩ (by show Q<_;omega) ae).trans (ai 1 X),(aa.frozen_far ⟨Q,1,none⟩ (by show Q<_;omega) ae).trans (aQ X 1)⟩
 obtain⟨a5,a3,bF⟩:=bO Y J D;have T:∀e gc q,w.grownBy q (Value.slice p k l).ownBlock->q.ownsRow B 328 2 (.slice (some ⟨e,0,none⟩) (k+1) gc) (k+1) (ys++[.int .i64 (i:Nat),.int .i64 (j:Nat)])->((Value.slice p k l).ownBlock=some e∨e=w.heap.size)->(∃P E,dq (q.setCell ⟨Q,1,none⟩ (.slice (some ⟨e,0,none⟩) (k+1) gc)) Q B I P E (k+1) S (fP L i j))/\ca Q W (q.setCell ⟨Q,1,none⟩ (.slice (some ⟨e,0,none⟩) (k+1) gc)):=fun e gc q be bf bg=>by obtain⟨⟨E,bB⟩,aq⟩:=DG s a3.o be bf bg;exact⟨⟨_,E,bB⟩,a7.o.trans aq⟩
 have a4:=ah T;rw[A]at ag;clear T Y J D s al an av a0 a1 a2 ba bb bc bd V;go_wp2_with(first
  |(at_builtin;go_must (refine mc _ rfl _ _ 285 rfl B 328 bz _ 2 16 zZ bm bt bu bw rfl ad (.slice p k l) k ys rfl ag ⟨t.heap.size,0,none⟩ 1 1 [.int .i64 (i:Nat),.int .i64 (j:Nat)] rfl rfl bo (fun z ao=>by simp at ao;rcases ao with rfl|rfl<;>rfl) ad bN ad aO _ rfl ?_);intro e gc q bq M Z b5;rw[<-A]at M Z;obtain⟨aq,ch⟩:=a5.o _ M)
  |fail)
 go_end0
 exact⟨rfl,a4.o e gc q M bq Z⟩
theorem MY{W u:World}{Q B p g c k v:Nat}{w:Value}{L:List It}{a:It}(e:dq W Q B p (.slice (some ⟨g,0,none⟩) (L.length+1) c) w k v (L++[a]))(i:Below W.heap.size W u):
 (∃G,dq (((u.setCell ⟨g,L.length*2,none⟩ (.int .i64 0)).setCell ⟨g,L.length*2+1,none⟩ (.int .u64 0)).setCell ⟨Q,0,none⟩ (.slice (some ⟨g,0,none⟩) L.length c)) Q B p G w k v L)/\
 ca Q W (((u.setCell ⟨g,L.length*2,none⟩ (.int .i64 0)).setCell ⟨g,L.length*2+1,none⟩ (.int .u64 0)).setCell ⟨Q,0,none⟩ (.slice (some ⟨g,0,none⟩) L.length c)):=by
 obtain⟨f,m⟩:=aj (((u.setCell ⟨g,L.length*2,none⟩ (.int .i64 0)).setCell ⟨g,L.length*2+1,none⟩ (.int .u64 0)));rw[<-m];have H:=aV e.items (g:=g) rfl;have y:Q≠g:=fun h=>by have:=e.low;omega
 have D:=aN e.box;have I:=i.size;have J:f.heap.size=u.heap.size:=by rw[m];simp only[dK]
 have x:∀b,b<W.heap.size->b≠g->f.heap[b]?=W.heap[b]?:=fun b d n=>by rw[m,aX _ _ _ _ _ n,aX _ _ _ _ _ n];exact i.block b d
 have r:∀b,b<W.heap.size->b≠g->b≠Q->(f.setCell ⟨Q,0,none⟩ (.slice (some ⟨g,0,none⟩) L.length c)).heap[b]?=W.heap[b]?:=fun b d n l=>(aX _ _ _ _ _ l).trans (x b d n);have E:=bL f Q 0 (.slice (some ⟨g,0,none⟩) L.length c) ((x Q D y).trans e.box);have z:=aY e.items (W':=u) (fun j d=>i.block j (aV e.items d).2);rw[cm]at z;have A:=DB (lV (o:=L.length*2+1) (u:=.int .u64 0) (lV (o:=L.length*2) (u:=.int .i64 0) z));have F:(((fQ (L++[a])).set (L.length*2) (.int .i64 0)).set (L.length*2+1) (.int .u64 0)).take (L.length*2)=fQ L:=by rw[List.take_set,List.take_set,MS,List.take_left];rw[List.set_eq_of_length_le (by rw[s8,Dy];omega),List.set_eq_of_length_le (by rw[Dy];omega)]
 rw[F,<-m]at A;obtain⟨zs,t⟩:=e.swaps;have C:dq (f.setCell ⟨Q,0,none⟩ (.slice (some ⟨g,0,none⟩) L.length c)) Q B p (.slice (some ⟨g,0,none⟩) L.length c) w k v L:=
  e.turned _ _ E (aY A (fun j d=>aX _ _ _ _ _ (by cases d;exact y.symm)))
   ⟨zs,aY t (fun j d=>r j (aV t d).2 (fun h=>e.apart g rfl (h▸d)) (fun h=>by have:=(aV t d).1;have:=e.low;omega))⟩ (by rw[dK];omega) (fun b d l q _=>r b d (fun h=>q (by rw[h];rfl)) l) (fun j d=>by cases d;exact e.apart g rfl)
 have s:(f.setCell ⟨Q,0,none⟩ (.slice (some ⟨g,0,none⟩) L.length c)).os=u.os/\(f.setCell ⟨Q,0,none⟩ (.slice (some ⟨g,0,none⟩) L.length c)).tape=u.tape/\(f.setCell ⟨Q,0,none⟩ (.slice (some ⟨g,0,none⟩) L.length c)).output=u.output:=by rw[m];exact⟨rfl,rfl,rfl⟩
 exact⟨⟨_,C⟩,n8 e.box C.box (s.1.trans i.os) (s.2.1.trans i.tape) (s.2.2.trans i.output) (by rw[dK];omega) (fun b d l q _=>r b d (fun h=>q (by rw[h];rfl)) l) (fun g d=>.inl (by cases d;rfl)) (fun g d=>.inr (.inl d))⟩
theorem MZ(W:World)(Q B w k E:Nat)(G F:Value)(L:List It)(a:It)(b:dq W Q B w G F k E (L++[a]))(R:L.length<=1048577):
 Calls prog 330 #[.pointer (some ⟨Q,0,none⟩)] W fun y w'=>y=.returned (.iface 368 (.agg #[.int .i64 (a.1:Nat),.int .u64 (a.2:Nat)]))/\(∃H,dq w' Q B w H F k E L)/\ca Q W w':=by
 obtain⟨g,c,rfl⟩:=b.iv_form ak;simp only[cm,de,ga,cE]at b;obtain⟨n,u⟩:=aj (L.length);have o:=ai 0 b.box;obtain⟨j,l⟩:=b.cells ak (i:=L.length) (a:=a) ak;have f:=b.items;rw[cm]at f;have A:W.frozen? ⟨g,n*2,none⟩=false:=s9 f (n*2);have C:W.frozen? ⟨g,n*2+1,none⟩=false:=s9 f (n*2+1);have D:=DC (n:=L.length+1) (c:=c) f;unfold maxLen at D;have P:n<=c:=ad;have O:c<=9223372036854775807:=ad;clear f D;have N:Q≠g:=fun y=>by have:=(aV b.items (g:=g) rfl).1;have:=b.low;omega
 have e:=(aV b.items (g:=g) rfl).2;have s:=aN b.box;have z:=aQ b.box 0;obtain⟨r,m⟩:=a;simp only at j l;rw[<-u]at o j l;obtain⟨x,h⟩:=aj (W.alloc (.cells #[.int .i64 (r:Nat),.int .u64 (m:Nat)] 368));have d:Below W.heap.size W x:=by rw[h];exact az
 have q:x.heap[W.heap.size]?=some (.cells #[.int .i64 (r:Nat),.int .u64 (m:Nat)] 368):=by rw[h];exact aC W _
 have t:=MY b d;rw[<-u]at t;have v:=ah t;have Z:=ai 0 q;have aa:=ai 1 q;have I:=(d.cell (p:=⟨Q,0,none⟩) s).trans o;have J:=(d.frozen (p:=⟨Q,0,none⟩) s).trans z;have K:=(d.frozen (p:=⟨g,n*2,none⟩) e).trans A;have M:=(d.frozen (p:=⟨g,n*2+1,none⟩) e).trans C;have X:=(d.cell (p:=⟨g,n*2,none⟩) e).trans j;have Y:=(d.cell (p:=⟨g,n*2+1,none⟩) e).trans l;have S:n<=1048577:=ad;have V:W.heap.size≠g:=ad;have T:W.heap.size≠Q:=ad;clear t b u q d A C z e s;go_enter func330,ntmps330
 go_wp2_with(first|(rw[<-h];clear h o j l)|fail)
 go_ret;exact⟨rfl,v.o.1,v.o.2⟩
end Go.Proofs.YtbacloblanpghaaGreatDoor
