import Derived.Test.YtnadadbndcdolaaGreatDoorQbe
set_option linter.unusedVariables false
set_option linter.unusedSimpArgs false
set_option maxRecDepth 100000
set_option maxHeartbeats 0
namespace Go.Proofs.YtnadadbndcdolaaGreatDoor
open Go.RowKit Tryz
theorem QN:(prog.info? 341).map (fun i=>(i.zero,i.size,i.bytes))=some (some (.agg #[.int .i64 0,.int .i64 0,.slice none 0 0,.int .u64 0]),4,48):=aA
structure Wy where
 s:Nat
 n:Nat
 o:Option Addr
 l:Nat
 c:Nat
def wyC(x:Wy)(m:Nat):List Value:=[.int .i64 (x.s:Nat),.int .i64 (x.n:Nat),.slice x.o x.l x.c,.int .u64 (m:Nat)]
def tR(a:Nat):Value:=.func (.func 254) #[] #[.pointer (some ⟨a,0,none⟩)]
abbrev dL(W:World)(Q B a:Nat)(b d:Value)(k c n:Nat)(xs:List Value):Prop:=QG 341 347 273 4 (tR a) (.func (.func 189) #[] #[]) W Q B a b d k c n xs
theorem lR{w:World}{b o:Nat}{cs:Array Value}{t:TypeId}{g:Nat×Nat}{v:Value}(a:w.heap[b]?=some (.cells cs t g))(e:cs[o]?=some v):w.setCell ⟨b,o,none⟩ v=w:=by
 have c:(w.setCell ⟨b,o,none⟩ v).heap=w.heap:=by
  apply Array.ext_getElem?;intro k;by_cases d:k=b
  ·subst d
   rw[bn _ _ _ _ a,a];congr 2
   apply Array.ext_getElem?;intro j;rw[Array.getElem?_setIfInBounds];split
   ·rename_i f;subst f
    have:=(iq.1 e).1;rw[e];simp[this]
   ·rfl
  ·exact aS _ _ _ _ _ d
 cases w
 simp only[World.setCell]at c⊢;rw[c]
theorem Gp(W:World)(Q B b k f n:Nat)(e g:Value)(xs:List Value)(a:dL W Q B b e g k f n xs):
 Calls prog 354 #[.pointer (some ⟨Q,0,none⟩)] W fun d w'=>d=.returned (.int .i64 (n:Nat))/\w'=W:=by
 obtain⟨o,c,rfl⟩:=bL a.items;have h:=ai 0 a.box;clear a;go_enter func354,ntmps354
 go_wp2
 go_ret;exact⟨rfl,rfl⟩
theorem Gq(v:Value)(W:World):(Instr.typeAssert (.iface 341 v) 20 341 true).run prog W=.ok (.tuple #[v,.bool true]) W:=aA
theorem QO(W:World)(Q B v k F m:Nat)(V G:Value)(x:Wy)(i:dL W Q B v V G k F 0 []):
 Calls prog 357 #[.pointer (some ⟨Q,0,none⟩),.iface 341 (.agg (wyC x m).toArray)] W fun e w'=>e=.returned (.tuple #[])/\(∃X,dL w' Q B v X G k F 1 (wyC x m))/\bY Q W w':=by
 obtain⟨T,N,P,R,S⟩:=cY QN;obtain⟨s,t,h,g,f⟩:=x;obtain⟨o,c,rfl⟩:=bL i.items;have H:=ah i;unfold wyC;simp only[List.toArray];obtain⟨a,r,p,b⟩:=cm W (.cells #[.int .i64 (s:Nat),.int .i64 (t:Nat),.slice h g f,.int .u64 (m:Nat)] 341);have Y:a.heap.size=W.heap.size+1:=by rw[r];simp
 have q:=i.below p;have w:=ai 0 q.box;have a0:=ai 0 b;have a1:=ai 1 b;have a2:=ai 2 b;have a3:=ai 3 b;obtain⟨I,d,Z⟩:=bH p q b;clear i q b p;have af:=Gq (.agg #[.int .i64 (s:Nat),.int .i64 (t:Nat),.slice h g f,.int .u64 (m:Nat)]) W;go_enter func357,ntmps357
 go_wp2_with(first
  |(rw[<-r];clear r)
  |fail)
 have D:some Q≠(Value.slice o 0 c).ownBlock:=fun e=>by have:=(aF d.o.items e.symm).1;have:=d.o.low;omega
 have al:some W.heap.size≠(Value.slice o 0 c).ownBlock:=fun e=>by have:=(aF H.o.items e.symm).2;omega
 have ae:=aU H.o.box;have L:∀w',Below a.heap.size a w'->w'.cell? ⟨Q,0,none⟩=some (.slice o 0 c)/\w'.frozen? ⟨Q,0,none⟩=false:=fun w' j=>by have y:=(j.block Q ad).trans d.o.box;exact⟨ai 0 y,aT y 0⟩
 have K:∀u n:World,Below a.heap.size a u->u.grownBy n (Value.slice o 0 c).ownBlock->n.cell? ⟨Q,0,none⟩=some (.slice o 0 c)/\n.frozen? ⟨Q,0,none⟩=false:=by intro u n j A;have an:=j.size;obtain⟨w,J⟩:=L u j;exact⟨(A.cell_far ⟨Q,0,none⟩ (by show Q<_;omega) D).trans w,(A.frozen_far ⟨Q,0,none⟩ (by show Q<_;omega) D).trans J⟩
 have E:=d.o.items;have ab:B<=a.heap.size:=d.o.lowB
 go_region_law (first
  |((refine xY _ (by rfl) _ _ _ (by rfl) B 341 T _ 4 48 underlying343 N P R S rfl ad (.slice o 0 c) 0 [] (by rfl) (by(first|exact f9 E.drew _|exact(f9 E _).drew)) ⟨W.heap.size+1,0,none⟩ 1 1 [.int .i64 (s:Nat),.int .i64 (t:Nat),.slice h g f,.int .u64 (m:Nat)] (by rfl) (by rfl) (by exact dK a.drew [.int .i64 (s:Nat),.int .i64 (t:Nat),.slice h g f,.int .u64 (m:Nat)] _ _ Y.symm) (fun z l=>by simp at l;rcases l with rfl|rfl|rfl|rfl<;>rfl) ad bI ad aR _ rfl ?_);intro aa gc av O C M ag;obtain⟨ao,aq⟩:=K _ _ (by first|exact aG.drew|exact((aE _ a).drew).alloc ak _) C))
 all_goals go_wp2_with fail
 all_goals go_end0
 all_goals(have l:=Fc (ys:=[.int .i64 (s:Nat),.int .i64 (t:Nat),.slice h g f,.int .u64 (m:Nat)]) H.o I.o (by first|exact aG.drew|exact((aE _ a).drew).alloc ak _) C O (by simpa using M);exact⟨rfl,l⟩)
theorem QP(W:World)(Q B u k J m:Nat)(Y a8:Value)(x:Wy)(i:dL W Q B u Y a8 k J 1 (wyC x m))(bl:k<=1048576):
 Calls prog 358 #[.pointer (some ⟨Q,0,none⟩),.int .i64 0,.int .i64 0] W fun w w'=>w=.returned (.tuple #[])/\(∃K,dL w' Q B u Y K (k+1) J 1 (wyC x m))/\bY Q W w':=by
 obtain⟨g,c,rfl⟩:=i.iv_form ak;obtain⟨a6,aq,a3,a4,a5⟩:=cY EX;obtain⟨ys,a1⟩:=i.swaps;obtain⟨f,e,rfl⟩:=bL a1;obtain⟨s,t,bb,ba,a9⟩:=x;have a:=i.items;have E:=a.cellAt 0 ad;have F:=a.cellAt 1 ad;have G:=a.cellAt 2 ad;have I:=a.cellAt 3 ad;have f0:W.frozen? ⟨g,0,none⟩=false:=a.frozenAt 0;have f1:W.frozen? ⟨g,1,none⟩=false:=a.frozenAt 1;have f2:W.frozen? ⟨g,2,none⟩=false:=a.frozenAt 2;have f3:W.frozen? ⟨g,3,none⟩=false:=a.frozenAt 3;simp only[wyC,jZ,gI]at E F G I;obtain⟨af,j⟩:=jV a (g:=g) rfl;have p:∀o v,W.cell? ⟨g,o,none⟩=some v->af[o]?=some v:=fun o v a2=>by simpa[World.cell?,j]using a2
 have bc:=lR j (p 0 _ E);have bd:=lR j (p 1 _ F);have be:=lR j (p 2 _ G);have bf:=lR j (p 3 _ I);have ae:=ai 0 i.box;have H:=ah i;clear i p a j;go_enter func358,ntmps358
 go_wp2_with fail
 go_region
 obtain⟨l,y⟩:=ar (W.drew);rw[<-y];have M:Below W.heap.size W l:=by rw[y];exact(aE _ _).drew
 have b:=H.o.below M;have S:=fj H.o M;clear y;obtain⟨L,D⟩:∃ys,l.ownsRow B 105 2 (.slice f k e) k ys:=b.swaps;have ao:=aU b.box;have bi:=b.lowB;have bg:=ai 1 b.box;obtain⟨q,A,n⟩:=dF l (.cells #[.int .i64 0,.int .i64 0] 105);have V:q.ownsRow B 105 2 (.slice f k e) k L:=by rw[A];exact f9 D _
 have av:=dK l [.int .i64 0,.int .i64 0] 105 _ rfl;have T:some Q≠(Value.slice f k e).ownBlock:=fun w=>by have:=(aF D w.symm).1;have:=b.low;omega
 have O:∀r:World,q.grownBy r (Value.slice f k e).ownBlock->r.cell? ⟨Q,1,none⟩=some (.slice f k e)/\r.frozen? ⟨Q,1,none⟩=false:=fun r R=>by have N:=(n.block Q ao).trans b.box;exact⟨(R.cell_far ⟨Q,1,none⟩ (by show Q<_;have:=n.size;omega) T).trans (ai 1 N),(R.frozen_far ⟨Q,1,none⟩ (by show Q<_;have:=n.size;omega) T).trans (aT N 1)⟩
 have ab:=ah O;have aa:Hid (∀d gc h,q.grownBy h (Value.slice f k e).ownBlock->h.ownsRow B 105 2 (.slice (some ⟨d,0,none⟩) (k+1) gc) (k+1) (L++[.int .i64 0,.int .i64 0])->((Value.slice f k e).ownBlock=some d∨d=q.heap.size)->(∃K,dL (h.setCell ⟨Q,1,none⟩ (.slice (some ⟨d,0,none⟩) (k+1) gc)) Q B u (.slice (some ⟨g,0,none⟩) 1 c) K (k+1) J 1 (wyC ⟨s,t,bb,ba,a9⟩ m))/\bY Q W (h.setCell ⟨Q,1,none⟩ (.slice (some ⟨d,0,none⟩) (k+1) gc))):=ah (fun d gc h ag al an=>by obtain⟨a7,Z⟩:=Ff b n ag al an;exact⟨a7,S.trans Z⟩)
 rw[A]at V;clear O n D b E F G I f0 f1 f2 f3 bc bd be bf ae S;go_wp2_with(first
  |(at_builtin;go_must (refine is _ rfl _ _ 298 rfl B 105 a6 _ 2 16 BP aq a3 a4 a5 rfl ad (.slice f k e) k L rfl V ⟨l.heap.size,0,none⟩ 1 1 [.int .i64 0,.int .i64 0] rfl rfl av (fun z X=>by simp at X;subst X;rfl) ad bI ad aR _ rfl ?_);intro d gc h a0 C P bo;rw[<-A]at C P;obtain⟨Z,bq⟩:=ab.o _ C)
  |fail)
 go_end0
 exact⟨rfl,aa.o d gc h C a0 P⟩
theorem QR{W u:World}{Q B q g c k w m:Nat}{y:Value}{x:Wy}(d:dL W Q B q (.slice (some ⟨g,0,none⟩) 1 c) y k w 1 (wyC x m))(h:Below W.heap.size W u):
 (∃H,dL (((((u.setCell ⟨g,0,none⟩ (.int .i64 0)).setCell ⟨g,1,none⟩ (.int .i64 0)).setCell ⟨g,2,none⟩ (.slice none 0 0)).setCell ⟨g,3,none⟩ (.int .u64 0)).setCell ⟨Q,0,none⟩ (.slice (some ⟨g,0,none⟩) 0 c)) Q B q H y k w 0 [])/\
 bY Q W (((((u.setCell ⟨g,0,none⟩ (.int .i64 0)).setCell ⟨g,1,none⟩ (.int .i64 0)).setCell ⟨g,2,none⟩ (.slice none 0 0)).setCell ⟨g,3,none⟩ (.int .u64 0)).setCell ⟨Q,0,none⟩ (.slice (some ⟨g,0,none⟩) 0 c)):=by
 obtain⟨e,p⟩:=ar (((((u.setCell ⟨g,0,none⟩ (.int .i64 0)).setCell ⟨g,1,none⟩ (.int .i64 0)).setCell ⟨g,2,none⟩ (.slice none 0 0)).setCell ⟨g,3,none⟩ (.int .u64 0)));rw[<-p];have I:=aF d.items (g:=g) rfl;have A:Q≠g:=fun f=>by have:=d.low;omega
 have E:=aU d.box;have J:=h.size;have K:e.heap.size=u.heap.size:=by rw[p];simp only[dE]
 have z:∀b,b<W.heap.size->b≠g->e.heap[b]?=W.heap[b]?:=fun b a i=>by rw[p,aS _ _ _ _ _ i,aS _ _ _ _ _ i,aS _ _ _ _ _ i,aS _ _ _ _ _ i];exact h.block b a
 have s:∀b,b<W.heap.size->b≠g->b≠Q->(e.setCell ⟨Q,0,none⟩ (.slice (some ⟨g,0,none⟩) 0 c)).heap[b]?=W.heap[b]?:=fun b a i l=>(aS _ _ _ _ _ l).trans (z b a i);have F:=bn e Q 0 (.slice (some ⟨g,0,none⟩) 0 c) ((z Q E A).trans d.box);have G:=aP d.items (W':=u) (fun j a=>h.block j (aF d.items a).2);have C:=E9 (n:=0) (mH (o:=3) (u:=.int .u64 0) (mH (o:=2) (u:=.slice none 0 0) (mH (o:=1) (u:=.int .i64 0) (mH (o:=0) (u:=.int .i64 0) G))));rw[<-p,ui,BI]at C;obtain⟨zs,v⟩:=d.swaps;have D:dL (e.setCell ⟨Q,0,none⟩ (.slice (some ⟨g,0,none⟩) 0 c)) Q B q (.slice (some ⟨g,0,none⟩) 0 c) y k w 0 []:=
  d.turned _ _ F (aP C (fun j a=>aS _ _ _ _ _ (by cases a;exact A.symm)))
   ⟨zs,aP v (fun j a=>s j (aF v a).2 (fun f=>d.apart g rfl (f▸a)) (fun f=>by have:=(aF v a).1;have:=d.low;omega))⟩ (by rw[dE];omega) (fun b a l r _=>s b a (fun f=>r (by rw[f];rfl)) l) (fun j a=>by cases a;exact d.apart g rfl)
 have t:(e.setCell ⟨Q,0,none⟩ (.slice (some ⟨g,0,none⟩) 0 c)).os=u.os/\(e.setCell ⟨Q,0,none⟩ (.slice (some ⟨g,0,none⟩) 0 c)).tape=u.tape/\(e.setCell ⟨Q,0,none⟩ (.slice (some ⟨g,0,none⟩) 0 c)).output=u.output:=by rw[p];exact⟨rfl,rfl,rfl⟩
 exact⟨⟨_,D⟩,oF d.box D.box (t.1.trans h.os) (t.2.1.trans h.tape) (t.2.2.trans h.output) (by rw[dE];omega) (fun b a l r _=>s b a (fun f=>r (by rw[f];rfl)) l) (fun g a=>.inl (by cases a;rfl)) (fun g a=>.inr (.inl a))⟩
theorem QS(W:World)(Q B r k E m:Nat)(J F:Value)(x:Wy)(b:dL W Q B r J F k E 1 (wyC x m)):
 Calls prog 356 #[.pointer (some ⟨Q,0,none⟩)] W fun v w'=>v=.returned (.iface 341 (.agg (wyC x m).toArray))/\(∃K,dL w' Q B r K F k E 0 [])/\bY Q W w':=by
 obtain⟨g,c,rfl⟩:=b.iv_form ak;have d:=b.items;have i:=d.cellAt 0 ad;have j:=d.cellAt 1 ad;have l:=d.cellAt 2 ad;have o:=d.cellAt 3 ad;have u:=ai 0 b.box;have w:W.frozen? ⟨g,0,none⟩=false:=uH d 0;have y:W.frozen? ⟨g,1,none⟩=false:=uH d 1;have z:W.frozen? ⟨g,2,none⟩=false:=uH d 2;have A:W.frozen? ⟨g,3,none⟩=false:=uH d 3;have D:=Fa (n:=1) (c:=c) d;unfold maxLen at D;have X:1<=c:=ad;have V:c<=9223372036854775807:=ad;clear d D;have T:Q≠g:=fun v=>by have:=(aF b.items (g:=g) rfl).1;have:=b.low;omega
 have e:=(aF b.items (g:=g) rfl).2;have h:=aU b.box;have f0:=aT b.box 0;obtain⟨s,t,I,H,G⟩:=x;simp only[wyC,jZ,gI]at i j l o;unfold wyC at b⊢;obtain⟨L,C,a,f⟩:=cm W (.cells #[.int .i64 (s:Nat),.int .i64 (t:Nat),.slice I H G,.int .u64 (m:Nat)] 341);have q:=ah (QR (x:=⟨s,t,I,H,G⟩) b a);have ag:=ai 0 f;have al:=ai 1 f;have an:=ai 2 f;have ao:=ai 3 f;have M:=(a.cell (p:=⟨Q,0,none⟩) h).trans u;have N:=(a.frozen (p:=⟨Q,0,none⟩) h).trans f0;have O:=(a.frozen (p:=⟨g,0,none⟩) e).trans w;have P:=(a.frozen (p:=⟨g,1,none⟩) e).trans y;have R:=(a.frozen (p:=⟨g,2,none⟩) e).trans z;have S:=(a.frozen (p:=⟨g,3,none⟩) e).trans A;have aa:=(a.cell (p:=⟨g,0,none⟩) e).trans i;have ab:=(a.cell (p:=⟨g,1,none⟩) e).trans j;have ae:=(a.cell (p:=⟨g,2,none⟩) e).trans l;have af:=(a.cell (p:=⟨g,3,none⟩) e).trans o;have Z:W.heap.size≠g:=ad;have Y:W.heap.size≠Q:=ad;clear b f a w y z A f0 e h;go_enter func356,ntmps356
 go_wp2_with(first|(rw[<-C];clear C u i j l o)|fail)
 go_ret;exact⟨rfl,q.o.1,q.o.2⟩
theorem GC(v:Value)(w:World):(method 551 349 v "Len").run prog w=.ok (354,v) w:=aA
theorem Ri(v:Value)(w:World):(method 551 349 v "Swap").run prog w=.ok (358,v) w:=aA
theorem Rj(v:Value)(w:World):(method 551 349 v "Push").run prog w=.ok (357,v) w:=aA
theorem Rk(v:Value)(w:World):(method 551 349 v "Pop").run prog w=.ok (356,v) w:=aA
theorem tV(k:FuncId)(args:Array Value)(w:World)(a:k=354∨k=358∨k=357∨k=356):(callFunc k args).run prog w=.ok (.enter k args) w:=by rcases a with rfl|rfl|rfl|rfl<;>rfl
theorem Rl(v:Value)(W:World):Calls prog 296 #[v,.int .i64 0] W fun b w'=>b=.returned (.tuple #[])/\w'=W:=by
 go_enter func296,ntmps296
 go_wp2
 go_loopw [1] (fun c wr=>c=.int .i64 0/\wr=W) (fun _ _=>0)
 case atStart=>exact⟨rfl,rfl⟩
 case round=>
 obtain⟨rfl,a⟩:=hrel;rw[a];clear a wr
 go_wp2
 go_end0
 exact⟨rfl,rfl⟩
theorem Rm(v:Value)(W:World):Calls prog 297 #[v,.int .i64 0,.int .i64 0] W fun b w'=>(∃q:Bool,b=.returned (.bool q))/\w'=W:=by
 go_enter func297,ntmps297
 go_wp2
 go_loopw [7] (fun c wr=>c=.int .i64 0/\wr=W) (fun _ _=>0)
 case atStart=>exact⟨rfl,rfl⟩
 case round=>
 obtain⟨rfl,a⟩:=hrel;rw[a];clear a wr
 go_wp2
 go_ret;exact⟨⟨_,rfl⟩,rfl⟩
theorem Rn(W:World)(Q B a k c m:Nat)(u d:Value)(x:Wy)(q:dL W Q B a u d k c 0 []):
 Calls prog 257 #[.iface 349 (.pointer (some ⟨Q,0,none⟩)),.iface 341 (.agg (wyC x m).toArray)] W fun f w'=>f=.returned (.tuple #[])/\(∃j,dL w' Q B a j d k c 1 (wyC x m))/\bY Q W w':=by
 have h:=QO W Q B a k c m u d x q;obtain⟨cs,g⟩:=ar (wyC x m);rw[<-g]at h⊢;have z:=Rj (.pointer (some ⟨Q,0,none⟩)) W;have v:=fun args w=>tV 357 args w ak;obtain⟨o,F⟩:=aD h g;clear h q g;go_enter func257,ntmps257
 go_wp2_with fail
 refine o.o.mono ?_;rintro f e ⟨rfl,⟨C,i⟩,r⟩;have s:=Gp e Q B a k c 1 C d _ i;have t:=Rl (.iface 349 (.pointer (some ⟨Q,0,none⟩))) e;have A:=GC (.pointer (some ⟨Q,0,none⟩)) e;have y:=fun args w=>tV 354 args w ak;obtain⟨n,p⟩:=aD s t;have l:Hid ((∃j,dL e Q B a j d k c 1 cs)/\bY Q W e):=ah ⟨⟨_,i⟩,r⟩;clear s t i r z v o;go_wp2_with fail
 refine n.o.mono ?_;rintro f D ⟨rfl,b⟩;rw[b];clear b n A y D;go_wp2_with fail
 refine p.o.mono ?_;rintro f E ⟨rfl,b⟩;rw[b];clear b p E
 go_wp2
 go_end0
 exact⟨rfl,l.o.1,l.o.2⟩
theorem Ro(W:World)(Q B a k b m:Nat)(e n:Value)(x:Wy)(f:dL W Q B a e n k b 1 (wyC x m))(H:k<=1048576):
 Calls prog 259 #[.iface 349 (.pointer (some ⟨Q,0,none⟩))] W fun c w'=>c=.returned (.iface 341 (.agg (wyC x m).toArray))/\(∃l o,dL w' Q B a l o (k+1) b 0 [])/\bY Q W w':=by
 have D:=Gp W Q B a k b 1 e n _ f;have j:=QP W Q B a k b m e n x f H;obtain⟨cs,g⟩:=ar (wyC x m);rw[<-g]at j⊢;have I:=GC (.pointer (some ⟨Q,0,none⟩)) W;have J:=Ri (.pointer (some ⟨Q,0,none⟩)) W;have O:=fun args w=>tV 354 args w ak;have P:=fun args w=>tV 358 args w ak;have R:=fun args w=>tV 356 args w ak;obtain⟨u,y,s⟩:=bH D j g;clear D j f g;go_enter func259,ntmps259
 go_wp2_with fail
 refine u.o.mono ?_;rintro c M ⟨rfl,d⟩;rw[d];clear u I d M;go_wp2_with fail
 refine y.o.mono ?_;rintro c p ⟨rfl,⟨L,i⟩,A⟩;have z:=Rm (.iface 349 (.pointer (some ⟨Q,0,none⟩))) p;have K:=Rk (.pointer (some ⟨Q,0,none⟩)) p;rw[s.o]at i;have h:=QS p Q B a (k+1) b m e L x i;rw[<-s.o]at h;obtain⟨t,v,G⟩:=bH z h A;clear z i A J y h;go_wp2_with fail
 refine t.o.mono ?_;rintro c N ⟨⟨q,rfl⟩,d⟩;rw[d];clear t d N;go_wp2_with fail
 refine v.o.mono ?_;rintro c F ⟨rfl,⟨S,E⟩,C⟩;have r:Hid ((∃l o,dL F Q B a l o (k+1) b 0 [])/\bY Q W F):=ah ⟨⟨_,_,E⟩,G.o.trans C⟩;clear E C v K
 go_wp2
 go_ret;exact⟨rfl,r.o.1,r.o.2⟩
theorem Rp(w:World):Calls prog 192 #[.slice none 0 0,.slice none 0 0] w fun b w'=>b=.returned (.int .i64 0)/\w'=w:=by
 go_enter func192,ntmps192
 go_wp2
 go_loopw [11] (fun c wr=>c=.int .i64 0/\wr=w) (fun _ _=>0)
 case atStart=>exact⟨rfl,rfl⟩
 case round=>
 obtain⟨rfl,a⟩:=hrel;rw[a];clear a wr
 go_wp2
 go_ret;exact⟨rfl,rfl⟩
theorem or_zero(g:Nat)(w:World)(b:w.cell? ⟨g,0,none⟩=some (.int .i64 0))(c:w.cell? ⟨g,1,none⟩=some (.int .i64 0))(d:w.cell? ⟨g,2,none⟩=some (.int .i64 0)):Calls prog 190 #[.slice (some ⟨g,0,none⟩) 3 3] w fun f w'=>f=.returned (.int .i64 0)/\w'=w:=by
 go_enter func190,ntmps190
 go_wp2
 go_loopw [8] (fun a wr=>∃k:Nat,a=.int .i64 k/\k<=3/\wr=w) (fun a _=>3-(intOf a).toNat)
 case atStart=>exact⟨0,rfl,ad,rfl⟩
 case round=>
 obtain⟨k,rfl,j,e⟩:=hrel;rw[e];clear e wr;by_cases h:k<3
 ·have l:(0:Int)<=k:=ad
  have m:(k:Int)<3:=ad;have i:w.cell? ⟨g,k,none⟩=some (.int .i64 0):=by
   match k,h with
   |0,_=>exact b
   |1,_=>exact c
   |2,_=>exact d
  clear b c d
  go_wp2
  go_roundw
  case rel=>exact⟨k+1,aV,ad,ak⟩
  case measure=>exact bh
 ·obtain rfl:k=3:=ad
  go_wp2
  go_ret;exact⟨rfl,ak⟩
theorem Rq(w:World):Calls prog 189 #[.agg #[.int .i64 0,.int .i64 0,.slice none 0 0],.agg #[.int .i64 0,.int .i64 0,.slice none 0 0]] w fun b w'=>b=.returned (.int .i64 0)/\Below w.heap.size w w':=by
 obtain⟨a,c⟩:=ar ((w.alloc (.cells #[.int .i64 0,.int .i64 0,.slice none 0 0] 269)).alloc (.cells #[.int .i64 0,.int .i64 0,.slice none 0 0] 269));have d:Below w.heap.size w a:=by rw[c];exact aG.alloc ak _
 have g:a.heap[w.heap.size]?=some (.cells #[.int .i64 0,.int .i64 0,.slice none 0 0] 269):=by rw[c];exact(bk _ _ _ ak).trans (aB w _)
 have h:a.heap[w.heap.size+1]?=some (.cells #[.int .i64 0,.int .i64 0,.slice none 0 0] 269):=by rw[c];have:=aB (w.alloc (.cells #[.int .i64 0,.int .i64 0,.slice none 0 0] 269)) (.cells #[.int .i64 0,.int .i64 0,.slice none 0 0] 269);rwa[bj]at this
 have u:a.heap.size=w.heap.size+2:=by rw[c];simp
 have i:∀w',Below a.heap.size a w'->(w'.cell? ⟨w.heap.size,1,none⟩=some (.int .i64 0)/\w'.cell? ⟨w.heap.size,2,none⟩=some (.slice none 0 0))/\w'.cell? ⟨w.heap.size+1,1,none⟩=some (.int .i64 0)/\w'.cell? ⟨w.heap.size+1,2,none⟩=some (.slice none 0 0):=fun w' j=>by have n:=(j.block _ (aU g)).trans g;have o:=(j.block _ (aU h)).trans h;exact⟨⟨ai 1 n,ai 2 n⟩,ai 1 o,ai 2 o⟩
 have s:=i a.drew (aE _ a).drew;have t:=i (a.alloc (.cells #[.int .i64 0,.int .i64 0,.int .i64 0] 3)).drew aG.drew;have l:∀f,Calls prog 191 #[.int .i64 0,.int .i64 0] f fun b w'=>b=.returned (.int .i64 0)/\f=w':=fun f=>Fe 0 0 f;obtain⟨q,v⟩:=aD l d;have e:(a.alloc (.cells #[.int .i64 0,.int .i64 0,.int .i64 0] 3)).drew.heap[w.heap.size+2]?=some (.cells #[.int .i64 0,.int .i64 0,.int .i64 0] 3):=by rw[<-u];exact aB a _
 have m:=or_zero (w.heap.size+2) (a.alloc (.cells #[.int .i64 0,.int .i64 0,.int .i64 0] 3)).drew (ai 0 e) (ai 1 e) (ai 2 e);have p:Hid (Below w.heap.size w (a.alloc (.cells #[.int .i64 0,.int .i64 0,.int .i64 0] 3)).drew):=ah (d.alloc d.size _).drew;have r:=ah m;clear i g h e d l m;go_enter func189,ntmps189
 go_wp2_with(first|(rw[<-c];clear c)|fail)
 go_region_held3(fun w'=>(w'.cell? ⟨w.heap.size,1,none⟩=some (.int .i64 0)/\w'.cell? ⟨w.heap.size,2,none⟩=some (.slice none 0 0))/\w'.cell? ⟨w.heap.size+1,1,none⟩=some (.int .i64 0)/\w'.cell? ⟨w.heap.size+1,2,none⟩=some (.slice none 0 0))
  (first|exact s|exact t)
  (first
    |(go_at_call 191;refine(q.o _).mono ?_;rintro b w' ⟨rfl,rfl⟩)
    |(go_at_call 192;refine(Rp _).mono ?_;rintro b w' ⟨rfl,rfl⟩)
    |(go_at_call 190;refine r.o.mono ?_;rintro b w' ⟨rfl,rfl⟩))
 go_wp2
 go_ret;exact⟨rfl,p.o⟩
theorem Rr(W:World):Calls prog 193 #[.func (.func 189) #[] #[]] W fun i w'=>i=.returned (.tuple #[.pointer (some ⟨W.heap.size+1,0,none⟩),.int .i64 0])/\dL w' (W.heap.size+1) (W.heap.size+2) W.heap.size (.slice none 0 0) (.slice none 0 0) 0 0 0 []/\Below W.heap.size W w':=by
 obtain⟨b,a⟩:=ar ((W.alloc (.cells #[.func (.func 189) #[] #[]] 273)).alloc (.cells #[.slice none 0 0,.slice none 0 0,tR W.heap.size,.int .u64 ((0:Nat):Int)] 347));have c:Below W.heap.size W b:=by rw[a];exact aG.alloc ak _
 have d:b.heap[W.heap.size]?=some (.cells #[.func (.func 189) #[] #[]] 273):=by rw[a];exact(bk _ _ _ ak).trans (aB W _)
 have e:b.heap[W.heap.size+1]?=some (.cells #[.slice none 0 0,.slice none 0 0,tR W.heap.size,.int .u64 ((0:Nat):Int)] 347):=by rw[a];have:=aB (W.alloc (.cells #[.func (.func 189) #[] #[]] 273)) (.cells #[.slice none 0 0,.slice none 0 0,tR W.heap.size,.int .u64 ((0:Nat):Int)] 347);rwa[bj]at this
 have l:b.heap.size=W.heap.size+2:=by rw[a];simp
 have h:Hid (dL b (W.heap.size+1) (W.heap.size+2) W.heap.size (.slice none 0 0) (.slice none 0 0) 0 0 0 []/\Below W.heap.size W b):=
  ah ⟨⟨e,dc _ _ _ _,⟨[],dc _ _ _ _⟩,(fun g j=>by cases j),ad,ad,d,ad,ad⟩,c⟩
 have m:=oG;have n:∀w:World,(binOp BinOp.eql 273 (.func (.func 189) #[] #[]) .nilFunc).run prog w=.ok (.bool false) w:=fun _=>rfl;unfold tR at a;clear c d e l;go_enter func193,ntmps193
 go_wp2_with(first|(rw[<-a];clear a)|fail)
 go_ret2
 have f:=h.o;rw[a]at f;exact⟨rfl,f⟩
theorem Rs(a b c:Value)(w:World):CallsD prog 255 #[a,b,c] .returning w fun e g w'=>e=.returned (.tuple #[])/\g=.returning/\w'=w:=by
 refine BS func255 rfl fun d cs f=> ?_;apply wpS_seq;apply wpS_region;simp[wpOpsS,go_sem,recoverD,f,ntmps255,Exit.thenS];refine wpS_cond (t:=false) (by simp[Act.eval,Array.replicate]) ?_;simp only[j8,jl];refine wpS_of_wp (wp_skip ?_);cases d
 simp_all[bodyPostS,results,results255]
theorem Rt(a b c d e:Value)(w:World):CallsD prog 258 #[a,b,c,d,e] .returning w fun e h w'=>e=.returned (.tuple #[])/\h=.returning/\w'=w:=by
 refine BS func258 rfl fun f cs g=> ?_;apply wpS_seq;apply wpS_region;simp[wpOpsS,go_sem,recoverD,g,ntmps258,Exit.thenS];refine wpS_cond (t:=false) (by simp[Act.eval,Array.replicate]) ?_;simp only[j8,jl];refine wpS_of_wp (wp_skip ?_);cases f
 simp_all[bodyPostS,results,results258]
def tW(W:World)(Q B b a:Nat)(x:Wy)(c:Ending)(w':World):Prop:=c=.returned (.int .i64 0)/\(∃d e k,dL w' Q B b d e k (a+1) 1 (wyC x a))/\bY Q W w'
def GD(W:World)(Q B a d:Nat)(x:Wy)(b:Ending)(w':World):Prop:=
 b=.returned (.tuple #[.agg #[.int .i64 (x.s:Nat),.int .i64 (x.n:Nat),.slice x.o x.l x.c],.int .i64 0])/\(∃c e k,dL w' Q B a c e k d 0 [])/\bY Q W w'
def Ru(W:World)(Q B b a:Nat)(e:Value)(x:Wy)(c:Ending)(w':World):Prop:=c=.returned (.tuple #[])/\(∃d,dL w' Q B b d e 0 a 1 (wyC x a))/\bY Q W w'
theorem GE(W:World)(Q B q k c:Nat)(bF bc:Value)(x:Wy)(h:dL W Q B q bF bc k c 0 [])(cc:c<=1048576):
 Calls prog 194 #[.pointer (some ⟨Q,0,none⟩),.agg #[.int .i64 (x.s:Nat),.int .i64 (x.n:Nat),.slice x.o x.l x.c]] W (tW W Q B q c x):=by
 obtain⟨L,K,rfl⟩:∃L K,bc=.slice L k K:=by obtain⟨ys,bE⟩:=h.swaps;exact bL bE
 obtain⟨ch,ce,rfl⟩:=bL h.items;obtain⟨s,t,g,e,d⟩:=x;simp only;have bA:=aU h.box;have ca:=aU h.ob;obtain⟨m,j⟩:=ar ((((W.alloc (.cells #[.pointer (some ⟨Q,0,none⟩)] 274)).alloc (.cells #[.int .i64 (s:Nat),.int .i64 (t:Nat),.slice g e d] 269)).alloc (.cells #[.int .i64 0] 36)).alloc (.cells #[.int .i64 0] 3));have G:Below W.heap.size W m:=by rw[j];exact((aG.alloc cL _).alloc cL _).alloc cL _
 have ba:m.heap.size=W.heap.size+4:=by rw[j];simp
 have V:m.heap[W.heap.size]?=some (.cells #[.pointer (some ⟨Q,0,none⟩)] 274):=by rw[j];exact(bk _ _ _ cL).trans ((bk _ _ _ cL).trans ((bk _ _ _ cL).trans (aB W _)))
 have D:m.heap[W.heap.size+1]?=some (.cells #[.int .i64 (s:Nat),.int .i64 (t:Nat),.slice g e d] 269):=by rw[j];have:=aB (W.alloc (.cells #[.pointer (some ⟨Q,0,none⟩)] 274)) (.cells #[.int .i64 (s:Nat),.int .i64 (t:Nat),.slice g e d] 269);rw[bj]at this;exact(bk _ _ _ cL).trans ((bk _ _ _ cL).trans this)
 have X:m.heap[W.heap.size+2]?=some (.cells #[.int .i64 0] 36):=by rw[j];have:=aB ((W.alloc (.cells #[.pointer (some ⟨Q,0,none⟩)] 274)).alloc (.cells #[.int .i64 (s:Nat),.int .i64 (t:Nat),.slice g e d] 269)) (.cells #[.int .i64 0] 36);rw[bj,bj]at this;exact(bk _ _ _ cL).trans this
 obtain⟨y,z⟩:=ar (((W.alloc (.cells #[.pointer (some ⟨Q,0,none⟩)] 274)).alloc (.cells #[.int .i64 (s:Nat),.int .i64 (t:Nat),.slice g e d] 269)).alloc (.cells #[.int .i64 0] 36));have af:Below W.heap.size W y:=by rw[z];exact(aG.alloc cL _).alloc cL _
 have bb:y.heap.size=W.heap.size+3:=by rw[z];simp
 have bd:y.heap[W.heap.size]?=some (.cells #[.pointer (some ⟨Q,0,none⟩)] 274):=by rw[z];exact(bk _ _ _ cL).trans ((bk _ _ _ cL).trans (aB W _))
 rw[<-z]at j;have b5:=ai 0 bd;have b6:=ai 0 ((af.block _ bA).trans h.box);have n:=h.below G;obtain⟨I,a9⟩:=n.reset;have N:=I.below (aE _ _).drew;have T:=((fj h G).trans a9).trans (fj I (aE _ _).drew);have b0:=ai 0 V;have b1:=ai 0 D;have b2:=ai 1 D;have b3:=ai 2 D;have b4:=ai 0 X;have bu:=ai 0 n.box;have bz:=ai 1 n.box;have f1:=aT n.box 1;have bw:=ai 0 h.box;obtain⟨E,O⟩:=ar ((m.setCell ⟨Q,1,none⟩ (.slice L 0 K)).drew);rw[<-O]at N T;have cb:=oG;obtain⟨b7,Y,bo,bf,ae,F,bt,bq,Z,be⟩:=ju bb N T n V D X ba O h;have bg:=ah G;have bD:=fun w=>wN h.swaps.choose_spec w;have H:m.heap[y.heap.size]?=some (.cells #[.int .i64 0] 3):=by rw[j];exact aB y _
 have b8:=ai 0 H;have b9:=aT H 0;have cq:=lR (o:=0) (v:=.int .i64 0) H rfl;clear H h n I a9 N T V D X ba O G af bb bd
 go_enter_defers func194,ntmps194
 go_wp2_with(first|(rw[<-z];clear z)|(rw[<-j];clear j)|fail)
 go_region
 rw[<-Z.o];have S:=Y.o.below (aE _ _).drew;have a6:=Rn E.drew Q B q 0 c c _ _ ⟨s,t,g,e,d⟩ S;have i:∀b,W.heap.size<=b->b<W.heap.size+4->SQ Q E.drew b/\E.drew.heap[b]?=m.heap[b]?:=fun b n I=>by have:=(bf.o.reset.2.kp.same b (be.o.sq_new bg.o n (by have:=bq.out;omega)));rw[Z.o];exact this
 have a2:=S.box;have a3:=bo.out.trans (fj Y.o (aE _ _).drew);have ag:=ai 0 ((i W.heap.size (az _) ad).2.trans ae.out);have al:=ai 0 ((i (W.heap.size+1) ad ad).2.trans F.out);have an:=ai 1 ((i (W.heap.size+1) ad ad).2.trans F.out);have ao:=ai 2 ((i (W.heap.size+1) ad ad).2.trans F.out);have aq:=ai 3 a2;have aa:Hid (∀a,Ru E.drew Q B q c (.slice L 0 K) ⟨s,t,g,e,d⟩ (.returned (.tuple #[])) a->a.heap[W.heap.size]?=some (.cells #[.pointer (some ⟨Q,0,none⟩)] 274)/\a.heap[W.heap.size+1]?=some (.cells #[.int .i64 (s:Nat),.int .i64 (t:Nat),.slice g e d] 269)/\a.heap[W.heap.size+2]?=some (.cells #[.int .i64 0] 36)/\SQ Q a (W.heap.size+2)):=fun a A=>by have r:=A.2.2.kp.same _ (i W.heap.size (az _) ad).1;have a1:=A.2.2.kp.same _ (i (W.heap.size+1) ad ad).1;have u:=A.2.2.kp.same _ (i (W.heap.size+2) ad ad).1;exact⟨r.2.trans ((i W.heap.size (az _) ad).2.trans ae.out),a1.2.trans ((i (W.heap.size+1) ad ad).2.trans F.out),u.2.trans ((i (W.heap.size+2) ad ad).2.trans bt.out),u.1⟩
 obtain⟨ab,bl⟩:=aD a6 a3;clear a6 a3 S i a2 b0 b1 b2 b3 b4 bu bz f1 bw b5 b6 bD;go_wp2_with fail
 go_region_held3(fun w'=>w'.cell? ⟨W.heap.size,0,none⟩=some (.pointer (some ⟨Q,0,none⟩))/\(w'.cell? ⟨W.heap.size+1,0,none⟩=some (.int .i64 (s:Nat))/\w'.cell? ⟨W.heap.size+1,1,none⟩=some (.int .i64 (t:Nat))/\w'.cell? ⟨W.heap.size+1,2,none⟩=some (.slice g e d))/\w'.cell? ⟨Q,3,none⟩=some (.int .u64 (c:Nat)))
  (first|exact⟨ag,⟨al,an,ao⟩,aq⟩|exact a0)
  (first|(go_at_call 257;refine ab.o.mono ?_;rintro C a A;have a0:a.cell? ⟨W.heap.size,0,none⟩=some (.pointer (some ⟨Q,0,none⟩))/\(a.cell? ⟨W.heap.size+1,0,none⟩=some (.int .i64 (s:Nat))/\a.cell? ⟨W.heap.size+1,1,none⟩=some (.int .i64 (t:Nat))/\a.cell? ⟨W.heap.size+1,2,none⟩=some (.slice g e d))/\a.cell? ⟨Q,3,none⟩=some (.int .u64 (c:Nat)):=(by obtain⟨rfl,l,bC⟩:=A;obtain⟨r,a1,u,M⟩:=aa.o a ⟨rfl,l,bC⟩;obtain⟨_,l⟩:=l;exact⟨ai 0 r,⟨ai 0 a1,ai 1 a1,ai 2 a1⟩,ai 3 l.box⟩);obtain⟨rfl,a7,P⟩:=A))
 obtain⟨r,a1,u,M⟩:=aa.o a ⟨rfl,a7,P⟩;obtain⟨bN,l⟩:=a7;obtain⟨a5,R⟩:=l.number (p:=c+1);have a8:=(R.kp.same _ M).1;have av:W.heap.size+2≠Q:=ad;have J:dL ((a.setCell ⟨Q,3,none⟩ (.int .u64 ((c+1:Nat):Int))).setCell ⟨W.heap.size+2,0,none⟩ (.int .i64 0)) Q B q bN _ 0 (c+1) 1 (wyC ⟨s,t,g,e,d⟩ c):=a5.far a8 ad;have a4:bY Q W ((a.setCell ⟨Q,3,none⟩ (.int .u64 ((c+1:Nat):Int))).setCell ⟨W.heap.size+2,0,none⟩ (.int .i64 0)):=((bl.o.trans P).trans R).far ad av;have bi:Hid (tW W Q B q c ⟨s,t,g,e,d⟩ (.returned (.int .i64 0)) ((a.setCell ⟨Q,3,none⟩ (.int .u64 ((c+1:Nat):Int))).setCell ⟨W.heap.size+2,0,none⟩ (.int .i64 0))):=ah ⟨rfl,⟨_,_,_,J⟩,a4⟩;have co:=ai 0 r;have bZ:=ai 0 u;have cp:=ai 3 l.box;have ci:=aT u 0;have cl:=aT l.box 3;have cd:a.heap.size≠0:=by have:=aU r;omega
 clear l a5 R a8 J a4 r a1 u M P a0 ag al an ao aq ab;go_wp2_with fail
 refine BT (f:=255) (args:=#[.pointer (some ⟨W.heap.size,0,none⟩),.pointer (some ⟨y.heap.size,0,none⟩),.pointer (some ⟨W.heap.size+1+1,0,none⟩)]) ak (by simp[go_sem]) ?_;refine(Rs _ _ _ _).mono ?_;rintro C cs cu ⟨rfl,rfl,rfl⟩;have J:tW W Q B q c ⟨s,t,g,e,d⟩ (.returned (.int .i64 0)) ((a.setCell ⟨Q,3,none⟩ (.int .u64 ((c:Int)+1))).setCell ⟨W.heap.size+1+1,0,none⟩ (.int .i64 0)):=bi.o;have bB:((a.setCell ⟨Q,3,none⟩ (.int .u64 ((c:Int)+1))).setCell ⟨W.heap.size+1+1,0,none⟩ (.int .i64 0)).cell? ⟨W.heap.size+1+1,0,none⟩=some (.int .i64 0):=rR _ _ _ (by rw[kd _ _ _ _ (fun C=>av (by injection C with C;exact C.symm)),bZ];rfl);exact⟨.int .i64 0,by simp[results,results194,go_sem,bB],J⟩
def nO(W:World)(Q n:Nat):World:=((((W.alloc (.cells #[.pointer (some ⟨Q,0,none⟩)] 274)).alloc (.cells #[.int .i64 0,.int .i64 0,.slice none 0 0] 269)).alloc (.cells #[.int .i64 0] 36)).alloc (.cells #[.int .i64 0,.int .i64 0,.slice none 0 0] 269)).alloc (.cells #[.int .i64 (n:Nat)] 3)
def lT(W:World)(Q:Nat):World:=(((W.alloc (.cells #[.pointer (some ⟨Q,0,none⟩)] 274)).alloc (.cells #[.int .i64 0,.int .i64 0,.slice none 0 0] 269)).alloc (.cells #[.int .i64 0] 36)).alloc (.cells #[.int .i64 0,.int .i64 0,.slice none 0 0] 269)
theorem GF(W:World)(Q:Nat):Below W.heap.size W (lT W Q)/\(lT W Q).heap.size=W.heap.size+4/\(lT W Q).heap[W.heap.size]?=some (.cells #[.pointer (some ⟨Q,0,none⟩)] 274)/\(lT W Q).heap[W.heap.size+1]?=some (.cells #[.int .i64 0,.int .i64 0,.slice none 0 0] 269)/\(lT W Q).heap[W.heap.size+2]?=some (.cells #[.int .i64 0] 36)/\(lT W Q).heap[W.heap.size+3]?=some (.cells #[.int .i64 0,.int .i64 0,.slice none 0 0] 269):=by
 unfold lT;refine⟨((aG.alloc cL _).alloc cL _).alloc cL _,by simp only[bj],?_,?_,?_,?_⟩
 ·exact(bk _ _ _ cL).trans ((bk _ _ _ cL).trans ((bk _ _ _ cL).trans (aB W _)))
 ·have:=aB (W.alloc (.cells #[.pointer (some ⟨Q,0,none⟩)] 274)) (.cells #[.int .i64 0,.int .i64 0,.slice none 0 0] 269)
  rw[bj]at this;exact(bk _ _ _ cL).trans ((bk _ _ _ cL).trans this)
 ·have:=aB ((W.alloc (.cells #[.pointer (some ⟨Q,0,none⟩)] 274)).alloc (.cells #[.int .i64 0,.int .i64 0,.slice none 0 0] 269)) (.cells #[.int .i64 0] 36)
  rw[bj,bj]at this;exact(bk _ _ _ cL).trans this
 ·have:=aB (((W.alloc (.cells #[.pointer (some ⟨Q,0,none⟩)] 274)).alloc (.cells #[.int .i64 0,.int .i64 0,.slice none 0 0] 269)).alloc (.cells #[.int .i64 0] 36)) (.cells #[.int .i64 0,.int .i64 0,.slice none 0 0] 269)
  rw[bj,bj,bj]at this;exact this
theorem Rv(W:World)(Q n:Nat):Below W.heap.size W (nO W Q n)/\(nO W Q n).heap.size=W.heap.size+5/\(nO W Q n).heap[W.heap.size]?=some (.cells #[.pointer (some ⟨Q,0,none⟩)] 274)/\(nO W Q n).heap[W.heap.size+1]?=some (.cells #[.int .i64 0,.int .i64 0,.slice none 0 0] 269)/\(nO W Q n).heap[W.heap.size+2]?=some (.cells #[.int .i64 0] 36)/\(nO W Q n).heap[W.heap.size+3]?=some (.cells #[.int .i64 0,.int .i64 0,.slice none 0 0] 269)/\(nO W Q n).heap[W.heap.size+4]?=some (.cells #[.int .i64 (n:Nat)] 3):=by obtain⟨d,a,e,f,g,h⟩:=GF W Q;have c:nO W Q n=(lT W Q).alloc (.cells #[.int .i64 (n:Nat)] 3):=rfl;rw[c];have b:=aB (lT W Q) (.cells #[.int .i64 (n:Nat)] 3);rw[a]at b;exact⟨d.alloc ad _,by rw[bj,a],(bk _ _ _ ad).trans e,(bk _ _ _ ad).trans f,(bk _ _ _ ad).trans g,(bk _ _ _ ad).trans h,b⟩
theorem GG(W:World)(Q B y k F m:Nat)(bz a4:Value)(x:Wy)(g:dL W Q B y bz a4 k F 1 (wyC x m)):
 Calls prog 195 #[.pointer (some ⟨Q,0,none⟩)] W (GD W Q B y F x):=by
 obtain⟨Z,Y,rfl⟩:∃Z Y,a4=.slice Z k Y:=by obtain⟨ys,bw⟩:=g.swaps;exact bL bw
 obtain⟨b4,b3,rfl⟩:=bL g.items;have bi:=aU g.box;have bN:=aU g.ob;obtain⟨M,N,O,be,bf,bg⟩:=GF W Q;obtain⟨p,ae,D,P,n,af,R⟩:=Rv W Q 1;obtain⟨H,q⟩:=ar (lT W Q);obtain⟨z,S⟩:=ar (H.alloc (.cells #[.int .i64 1] 3));have ab:z=nO W Q 1:=by rw[S,q];rfl
 rw[<-q]at M N O;rw[<-ab]at p ae D P n af R;have bE:=ai 0 O;have bF:=ai 0 ((M.block _ bi).trans g.box);have C:=g.below p;obtain⟨K,V⟩:=C.reset;have L:=K.below (aE _ _).drew;have X:=((fj g p).trans V).trans (fj K (aE _ _).drew);have bC:=ai 0 D;have bD:z.cell? ⟨H.heap.size,0,none⟩=some (.int .i64 1):=by rw[N];exact ai 0 R
 have bb:=ai 1 C.box;have f1:=aT C.box 1;obtain⟨A,E⟩:=ar ((z.setCell ⟨Q,1,none⟩ (.slice Z 0 Y)).drew);rw[<-E]at L X;have b0:=oG;have bu:=fun w=>wN g.swaps.choose_spec w;have aq:=Ro A Q B y 0 F m _ _ x L ad;have l:∀b,W.heap.size<=b->b<W.heap.size+5->SQ Q A b/\A.heap[b]?=z.heap[b]?:=fun b a1 j=>by have:=(V.kp.same b (g.sq_new p a1 ad));rw[E];exact this
 have aa:Hid (∀e,bY Q A e->e.heap[W.heap.size+1]?=some (.cells #[.int .i64 0,.int .i64 0,.slice none 0 0] 269)/\e.heap[W.heap.size+2]?=some (.cells #[.int .i64 0] 36)/\SQ Q e (W.heap.size+1)/\SQ Q e (W.heap.size+2)):=fun e ao=>by have a1:=ao.kp.same _ (l (W.heap.size+1) ad ad).1;have j:=ao.kp.same _ (l (W.heap.size+2) ad ad).1;exact⟨a1.2.trans ((l (W.heap.size+1) ad ad).2.trans P),j.2.trans ((l (W.heap.size+2) ad ad).2.trans n),a1.1,j.1⟩
 have bd:=ai 0 ((l W.heap.size (az _) ad).2.trans D);obtain⟨ba,a8,a9⟩:=bH X E aq;unfold lT at q;clear M N O be bf bg p ae D P n af R ab g C K V L X E aq l
 go_enter_defers func195,ntmps195
 go_wp2_with(first|(rw[<-q];clear q)|(rw[<-S];clear S)|fail)
 go_region
 rw[<-a8.o];clear bE bF bC bD bb f1 bu;go_wp2_with fail
 refine a9.o.mono ?_;rintro bc e ⟨rfl,⟨b5,ce,r⟩,T⟩;obtain⟨s,t,d,c,a⟩:=x;unfold wyC;obtain⟨i,n,h,u⟩:=cm e (.cells #[.int .i64 (s:Nat),.int .i64 (t:Nat),.slice d c a,.int .u64 (m:Nat)] 341);obtain⟨a1,j,I,J⟩:=aa.o e T;have bA:=I.2.2;have bB:=J.2.2;have u1:=(h.block _ bA).trans a1;have u2:=(h.block _ bB).trans j;have av:=r.below h;have al:=(ba.out.trans T).trans (fj r h);have G:=(fj r h).kp.same _ I;have a3:=(fj r h).kp.same _ J;have a0:=((av.far (o:=0) (v:=.int .i64 (s:Nat)) G.1 ad).far (o:=1) (v:=.int .i64 (t:Nat)) (G.1.far ad) ad).far (o:=2) (v:=.slice d c a) ((G.1.far ad).far ad) ad;have a2:=a0.far (o:=0) (v:=.int .i64 0) (((a3.1.far ad).far ad).far ad) ad;have an:bY Q W ((((i.setCell ⟨W.heap.size+1,0,none⟩ (.int .i64 (s:Nat))).setCell ⟨W.heap.size+1,1,none⟩ (.int .i64 (t:Nat))).setCell ⟨W.heap.size+1,2,none⟩ (.slice d c a)).setCell ⟨W.heap.size+2,0,none⟩ (.int .i64 0)):=(((al.far ad ad).far ad ad).far ad ad).far ad ad;have ag:GD W Q B y F ⟨s,t,d,c,a⟩ (.returned (.tuple #[.agg #[.int .i64 (s:Nat),.int .i64 (t:Nat),.slice d c a],.int .i64 0])) ((((i.setCell ⟨W.heap.size+1,0,none⟩ (.int .i64 (s:Nat))).setCell ⟨W.heap.size+1,1,none⟩ (.int .i64 (t:Nat))).setCell ⟨W.heap.size+1,2,none⟩ (.slice d c a)).setCell ⟨W.heap.size+1+1,0,none⟩ (.int .i64 0)):=⟨rfl,⟨_,_,_,a2⟩,an⟩;obtain⟨a5,a6⟩:=aD ag u1;have a7:Hid (i.heap[W.heap.size+1+1]?=some (.cells #[.int .i64 0] 36)):=ah u2;have ci:=ai 0 u;have cl:=ai 1 u;have co:=ai 2 u;have cp:=ai 3 u;have ca:=ai 0 u1;have cb:=ai 1 u1;have cc:=ai 2 u1;have cd:=ai 0 u2;have b6:=aT u1 0;have b7:=aT u1 1;have b8:=aT u1 2;have b9:=aT u2 0;have bZ:=fun(w:World)=>Gq (.agg #[.int .i64 (s:Nat),.int .i64 (t:Nat),.slice d c a,.int .u64 (m:Nat)]) w;have b1:e.heap.size≠W.heap.size+1:=ad;have b2:e.heap.size≠W.heap.size+1+1:=ad;clear r T h u a1 j I J u1 u2 av al G a3 a0 a2 an ag bd aa;go_wp2_with(first|(rw[<-n];clear n)|fail)
 refine BT (f:=258) (args:=#[.pointer (some ⟨W.heap.size,0,none⟩),.pointer (some ⟨H.heap.size,0,none⟩),.pointer (some ⟨W.heap.size+1+1+1,0,none⟩),.pointer (some ⟨W.heap.size+1,0,none⟩),.pointer (some ⟨W.heap.size+1+1,0,none⟩)]) ak (by simp[go_sem]) ?_;refine(Rt _ _ _ _ _ _).mono ?_;rintro bc ch cq ⟨rfl,rfl,rfl⟩;have u5:(((i.setCell ⟨W.heap.size+1,0,none⟩ (.int .i64 (s:Nat))).setCell ⟨W.heap.size+1,1,none⟩ (.int .i64 (t:Nat))).setCell ⟨W.heap.size+1,2,none⟩ (.slice d c a)).heap[W.heap.size+1]?=some (.cells #[.int .i64 (s:Nat),.int .i64 (t:Nat),.slice d c a] 269):=bn _ _ 2 _ (bn _ _ 1 _ (bn _ _ 0 _ a6.o));have u6:((((i.setCell ⟨W.heap.size+1,0,none⟩ (.int .i64 (s:Nat))).setCell ⟨W.heap.size+1,1,none⟩ (.int .i64 (t:Nat))).setCell ⟨W.heap.size+1,2,none⟩ (.slice d c a)).setCell ⟨W.heap.size+1+1,0,none⟩ (.int .i64 0)).heap[W.heap.size+1]?=some (.cells #[.int .i64 (s:Nat),.int .i64 (t:Nat),.slice d c a] 269):=(aS _ _ _ _ _ ad).trans u5;have u7:((((i.setCell ⟨W.heap.size+1,0,none⟩ (.int .i64 (s:Nat))).setCell ⟨W.heap.size+1,1,none⟩ (.int .i64 (t:Nat))).setCell ⟨W.heap.size+1,2,none⟩ (.slice d c a)).setCell ⟨W.heap.size+1+1,0,none⟩ (.int .i64 0)).heap[W.heap.size+1+1]?=some (.cells #[.int .i64 0] 36):=bn _ _ 0 _ ((aS _ _ _ _ _ ad).trans ((aS _ _ _ _ _ ad).trans ((aS _ _ _ _ _ ad).trans a7.o)));have bl:=ai 0 u6;have bo:=ai 1 u6;have bq:=ai 2 u6;have bt:=ai 0 u7;exact⟨.tuple #[.agg #[.int .i64 (s:Nat),.int .i64 (t:Nat),.slice d c a],.int .i64 0],by simp[results,results195,go_sem,bl,bo,bq,bt,underlying269],a5.o⟩
end Go.Proofs.YtnadadbndcdolaaGreatDoor
