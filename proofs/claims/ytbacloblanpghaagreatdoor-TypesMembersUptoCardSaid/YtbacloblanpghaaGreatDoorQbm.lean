import Derived.Test.YtbacloblanpghaaGreatDoorQbl
set_option linter.unusedVariables false
set_option linter.unusedSimpArgs false
set_option maxRecDepth 100000
set_option maxHeartbeats 0
namespace Go.Proofs.YtbacloblanpghaaGreatDoor
open Go.RowKit Tryz
theorem NG:(prog.info? 282).map (fun i=>(i.zero,i.size,i.bytes))=some (some (.agg #[.int .i64 0,.int .i64 0,.slice none 0 0,.int .u64 0]),4,48):=ay
structure Wy where
 s:Nat
 n:Nat
 o:Option Addr
 l:Nat
 c:Nat
def wyC(x:Wy)(m:Nat):List Value:=[.int .i64 (x.s:Nat),.int .i64 (x.n:Nat),.slice x.o x.l x.c,.int .u64 (m:Nat)]
def r9(a:Nat):Value:=.func (.func 195) #[] #[.pointer (some ⟨a,0,none⟩)]
abbrev dI(W:World)(Q B a:Nat)(b d:Value)(k c n:Nat)(xs:List Value):Prop:=QG 282 289 216 4 (r9 a) (.func (.func 120) #[] #[]) W Q B a b d k c n xs
theorem se{w:World}{b o:Nat}{cs:Array Value}{t:TypeId}{g:Nat×Nat}{v:Value}(a:w.heap[b]?=some (.cells cs t g))(e:cs[o]?=some v):w.setCell ⟨b,o,none⟩ v=w:=by
 have c:(w.setCell ⟨b,o,none⟩ v).heap=w.heap:=by
  apply Array.ext_getElem?;intro k;by_cases d:k=b
  ·subst d
   rw[bL _ _ _ _ a,a];congr 2
   apply Array.ext_getElem?;intro j;rw[Array.getElem?_setIfInBounds];split
   ·rename_i f;subst f
    have:=(gW.1 e).1;rw[e];simp[this]
   ·rfl
  ·exact aX _ _ _ _ _ d
 cases w
 simp only[World.setCell]at c⊢;rw[c]
theorem DT(W:World)(Q B b k f n:Nat)(e g:Value)(xs:List Value)(a:dI W Q B b e g k f n xs):
 Calls prog 322 #[.pointer (some ⟨Q,0,none⟩)] W fun d w'=>d=.returned (.int .i64 (n:Nat))/\w'=W:=by
 obtain⟨o,c,rfl⟩:=cC a.items;have h:=ai 0 a.box;clear a;go_enter func322,ntmps322
 go_wp2
 go_ret;exact⟨rfl,rfl⟩
theorem DU(v:Value)(W:World):(Instr.typeAssert (.iface 282 v) 20 282 true).run prog W=.ok (.tuple #[v,.bool true]) W:=ay
theorem NH(W:World)(Q B v k F m:Nat)(V G:Value)(x:Wy)(j:dI W Q B v V G k F 0 []):
 Calls prog 325 #[.pointer (some ⟨Q,0,none⟩),.iface 282 (.agg (wyC x m).toArray)] W fun h w'=>h=.returned (.tuple #[])/\(∃X,dI w' Q B v X G k F 1 (wyC x m))/\ca Q W w':=by
 obtain⟨T,N,P,R,S⟩:=cL NG;obtain⟨s,t,f,e,d⟩:=x;obtain⟨o,c,rfl⟩:=cC j.items;have H:=ah j;unfold wyC;simp only[List.toArray];obtain⟨a,i⟩:=aj (W.alloc (.cells #[.int .i64 (s:Nat),.int .i64 (t:Nat),.slice f e d,.int .u64 (m:Nat)] 282));have q:Below W.heap.size W a:=by rw[i];exact az
 have b:a.heap[W.heap.size]?=some (.cells #[.int .i64 (s:Nat),.int .i64 (t:Nat),.slice f e d,.int .u64 (m:Nat)] 282):=by rw[i];exact aC W _
 have Y:a.heap.size=W.heap.size+1:=by rw[i];simp
 have r:=j.below q;have w:=ai 0 r.box;have a0:=ai 0 b;have a1:=ai 1 b;have a2:=ai 2 b;have a3:=ai 3 b;obtain⟨I,g,Z⟩:=bO q r b;clear j r b q;have af:=DU (.agg #[.int .i64 (s:Nat),.int .i64 (t:Nat),.slice f e d,.int .u64 (m:Nat)]) W;go_enter func325,ntmps325
 go_wp2_with(first
  |(rw[<-i];clear i)
  |fail)
 have D:some Q≠(Value.slice o 0 c).ownBlock:=fun h=>by have:=(aV g.o.items h.symm).1;have:=g.o.low;omega
 have al:some W.heap.size≠(Value.slice o 0 c).ownBlock:=fun h=>by have:=(aV H.o.items h.symm).2;omega
 have ae:=aN H.o.box;have L:∀w',Below a.heap.size a w'->w'.cell? ⟨Q,0,none⟩=some (.slice o 0 c)/\w'.frozen? ⟨Q,0,none⟩=false:=fun w' l=>by have y:=(l.block Q ad).trans g.o.box;exact⟨ai 0 y,aQ y 0⟩
 have K:∀u p:World,Below a.heap.size a u->u.grownBy p (Value.slice o 0 c).ownBlock->p.cell? ⟨Q,0,none⟩=some (.slice o 0 c)/\p.frozen? ⟨Q,0,none⟩=false:=by intro u p l A;have an:=l.size;obtain⟨w,J⟩:=L u l;exact⟨(A.cell_far ⟨Q,0,none⟩ (by show Q<_;omega) D).trans w,(A.frozen_far ⟨Q,0,none⟩ (by show Q<_;omega) D).trans J⟩
 have E:=g.o.items;have ab:B<=a.heap.size:=g.o.lowB
 go_region_law (first
  |((refine pO _ (by rfl) _ _ _ (by rfl) B 282 T _ 4 48 underlying284 N P R S rfl ad (.slice o 0 c) 0 [] (by rfl) (by(first|exact dA E.drew _|exact(dA E _).drew)) ⟨W.heap.size+1,0,none⟩ 1 1 [.int .i64 (s:Nat),.int .i64 (t:Nat),.slice f e d,.int .u64 (m:Nat)] (by rfl) (by rfl) (by exact dt a.drew [.int .i64 (s:Nat),.int .i64 (t:Nat),.slice f e d,.int .u64 (m:Nat)] _ _ Y.symm) (fun z n=>by simp at n;rcases n with rfl|rfl|rfl|rfl<;>rfl) ad bN ad aO _ rfl ?_);intro aa gc av O C M ag;obtain⟨ao,aq⟩:=K _ _ (by first|exact az.drew|exact((aA _ a).drew).alloc ak _) C))
 all_goals go_wp2_with fail
 all_goals go_end0
 all_goals(have n:=DD (ys:=[.int .i64 (s:Nat),.int .i64 (t:Nat),.slice f e d,.int .u64 (m:Nat)]) H.o I.o (by first|exact az.drew|exact((aA _ a).drew).alloc ak _) C O (by simpa using M);exact⟨rfl,n⟩)
theorem NI(W:World)(Q B w k J m:Nat)(Y bc:Value)(x:Wy)(j:dI W Q B w Y bc k J 1 (wyC x m))(bt:k<=1048576):
 Calls prog 326 #[.pointer (some ⟨Q,0,none⟩),.int .i64 0,.int .i64 0] W fun y w'=>y=.returned (.tuple #[])/\(∃K,dI w' Q B w Y K (k+1) J 1 (wyC x m))/\ca Q W w':=by
 obtain⟨g,c,rfl⟩:=j.iv_form ak;obtain⟨ba,a1,a6,a7,a9⟩:=cL Dx;obtain⟨ys,a4⟩:=j.swaps;obtain⟨f,e,rfl⟩:=cC a4;obtain⟨s,t,bf,be,bd⟩:=x;have a:=j.items;have E:=a.cellAt 0 ad;have F:=a.cellAt 1 ad;have G:=a.cellAt 2 ad;have I:=a.cellAt 3 ad;have ag:W.frozen? ⟨g,0,none⟩=false:=a.frozenAt 0;have al:W.frozen? ⟨g,1,none⟩=false:=a.frozenAt 1;have an:W.frozen? ⟨g,2,none⟩=false:=a.frozenAt 2;have f3:W.frozen? ⟨g,3,none⟩=false:=a.frozenAt 3;simp only[wyC,jD,gq]at E F G I;obtain⟨af,l⟩:=mP a (g:=g) rfl;have q:∀o v,W.cell? ⟨g,o,none⟩=some v->af[o]?=some v:=fun o v a5=>by simpa[World.cell?,l]using a5
 have bg:=se l (q 0 _ E);have bi:=se l (q 1 _ F);have bl:=se l (q 2 _ G);have bm:=se l (q 3 _ I);have ae:=ai 0 j.box;have H:=ah j;clear j q a l;go_enter func326,ntmps326
 go_wp2_with fail
 go_region
 obtain⟨h,A⟩:=aj (W.drew);rw[<-A];have M:Below W.heap.size W h:=by rw[A];exact(aA _ _).drew
 have b:=H.o.below M;have S:=eY H.o M;clear A;obtain⟨L,D⟩:∃ys,h.ownsRow B 328 2 (.slice f k e) k ys:=b.swaps;have a0:=aN b.box;have bq:=b.lowB;have bo:=ai 1 b.box;obtain⟨n,r⟩:=aj (h.alloc (.cells #[.int .i64 0,.int .i64 0] 328));have p:Below h.heap.size h n:=by rw[r];exact az
 have V:n.ownsRow B 328 2 (.slice f k e) k L:=by rw[r];exact dA D _
 have a2:=dt h [.int .i64 0,.int .i64 0] 328 _ rfl;have T:some Q≠(Value.slice f k e).ownBlock:=fun y=>by have:=(aV D y.symm).1;have:=b.low;omega
 have O:∀u:World,n.grownBy u (Value.slice f k e).ownBlock->u.cell? ⟨Q,1,none⟩=some (.slice f k e)/\u.frozen? ⟨Q,1,none⟩=false:=fun u R=>by have N:=(p.block Q a0).trans b.box;exact⟨(R.cell_far ⟨Q,1,none⟩ (by show Q<_;have:=p.size;omega) T).trans (ai 1 N),(R.frozen_far ⟨Q,1,none⟩ (by show Q<_;have:=p.size;omega) T).trans (aQ N 1)⟩
 have ab:=ah O;have aa:Hid (∀d gc i,n.grownBy i (Value.slice f k e).ownBlock->i.ownsRow B 328 2 (.slice (some ⟨d,0,none⟩) (k+1) gc) (k+1) (L++[.int .i64 0,.int .i64 0])->((Value.slice f k e).ownBlock=some d∨d=n.heap.size)->(∃K,dI (i.setCell ⟨Q,1,none⟩ (.slice (some ⟨d,0,none⟩) (k+1) gc)) Q B w (.slice (some ⟨g,0,none⟩) 1 c) K (k+1) J 1 (wyC ⟨s,t,bf,be,bd⟩ m))/\ca Q W (i.setCell ⟨Q,1,none⟩ (.slice (some ⟨d,0,none⟩) (k+1) gc))):=ah (fun d gc i ao aq av=>by obtain⟨bb,Z⟩:=DG b p ao aq av;exact⟨bb,S.trans Z⟩)
 rw[r]at V;clear O p D b E F G I ag al an f3 bg bi bl bm ae S;go_wp2_with(first
  |(at_builtin;go_must (refine mc _ rfl _ _ 285 rfl B 328 ba _ 2 16 zZ a1 a6 a7 a9 rfl ad (.slice f k e) k L rfl V ⟨h.heap.size,0,none⟩ 1 1 [.int .i64 0,.int .i64 0] rfl rfl a2 (fun z X=>by simp at X;subst X;rfl) ad bN ad aO _ rfl ?_);intro d gc i a3 C P bu;rw[<-r]at C P;obtain⟨Z,bw⟩:=ab.o _ C)
  |fail)
 go_end0
 exact⟨rfl,aa.o d gc i C a3 P⟩
theorem NJ{W u:World}{Q B q g c k w m:Nat}{y:Value}{x:Wy}(d:dI W Q B q (.slice (some ⟨g,0,none⟩) 1 c) y k w 1 (wyC x m))(h:Below W.heap.size W u):
 (∃H,dI (((((u.setCell ⟨g,0,none⟩ (.int .i64 0)).setCell ⟨g,1,none⟩ (.int .i64 0)).setCell ⟨g,2,none⟩ (.slice none 0 0)).setCell ⟨g,3,none⟩ (.int .u64 0)).setCell ⟨Q,0,none⟩ (.slice (some ⟨g,0,none⟩) 0 c)) Q B q H y k w 0 [])/\
 ca Q W (((((u.setCell ⟨g,0,none⟩ (.int .i64 0)).setCell ⟨g,1,none⟩ (.int .i64 0)).setCell ⟨g,2,none⟩ (.slice none 0 0)).setCell ⟨g,3,none⟩ (.int .u64 0)).setCell ⟨Q,0,none⟩ (.slice (some ⟨g,0,none⟩) 0 c)):=by
 obtain⟨e,p⟩:=aj (((((u.setCell ⟨g,0,none⟩ (.int .i64 0)).setCell ⟨g,1,none⟩ (.int .i64 0)).setCell ⟨g,2,none⟩ (.slice none 0 0)).setCell ⟨g,3,none⟩ (.int .u64 0)));rw[<-p];have I:=aV d.items (g:=g) rfl;have A:Q≠g:=fun f=>by have:=d.low;omega
 have E:=aN d.box;have J:=h.size;have K:e.heap.size=u.heap.size:=by rw[p];simp only[dK]
 have z:∀b,b<W.heap.size->b≠g->e.heap[b]?=W.heap[b]?:=fun b a i=>by rw[p,aX _ _ _ _ _ i,aX _ _ _ _ _ i,aX _ _ _ _ _ i,aX _ _ _ _ _ i];exact h.block b a
 have s:∀b,b<W.heap.size->b≠g->b≠Q->(e.setCell ⟨Q,0,none⟩ (.slice (some ⟨g,0,none⟩) 0 c)).heap[b]?=W.heap[b]?:=fun b a i l=>(aX _ _ _ _ _ l).trans (z b a i);have F:=bL e Q 0 (.slice (some ⟨g,0,none⟩) 0 c) ((z Q E A).trans d.box);have G:=aY d.items (W':=u) (fun j a=>h.block j (aV d.items a).2);have C:=DB (n:=0) (lV (o:=3) (u:=.int .u64 0) (lV (o:=2) (u:=.slice none 0 0) (lV (o:=1) (u:=.int .i64 0) (lV (o:=0) (u:=.int .i64 0) G))));rw[<-p,sK,mf]at C;obtain⟨zs,v⟩:=d.swaps;have D:dI (e.setCell ⟨Q,0,none⟩ (.slice (some ⟨g,0,none⟩) 0 c)) Q B q (.slice (some ⟨g,0,none⟩) 0 c) y k w 0 []:=
  d.turned _ _ F (aY C (fun j a=>aX _ _ _ _ _ (by cases a;exact A.symm)))
   ⟨zs,aY v (fun j a=>s j (aV v a).2 (fun f=>d.apart g rfl (f▸a)) (fun f=>by have:=(aV v a).1;have:=d.low;omega))⟩ (by rw[dK];omega) (fun b a l r _=>s b a (fun f=>r (by rw[f];rfl)) l) (fun j a=>by cases a;exact d.apart g rfl)
 have t:(e.setCell ⟨Q,0,none⟩ (.slice (some ⟨g,0,none⟩) 0 c)).os=u.os/\(e.setCell ⟨Q,0,none⟩ (.slice (some ⟨g,0,none⟩) 0 c)).tape=u.tape/\(e.setCell ⟨Q,0,none⟩ (.slice (some ⟨g,0,none⟩) 0 c)).output=u.output:=by rw[p];exact⟨rfl,rfl,rfl⟩
 exact⟨⟨_,D⟩,n8 d.box D.box (t.1.trans h.os) (t.2.1.trans h.tape) (t.2.2.trans h.output) (by rw[dK];omega) (fun b a l r _=>s b a (fun f=>r (by rw[f];rfl)) l) (fun g a=>.inl (by cases a;rfl)) (fun g a=>.inr (.inl a))⟩
theorem NK(W:World)(Q B y k J m:Nat)(L K:Value)(x:Wy)(b:dI W Q B y L K k J 1 (wyC x m)):
 Calls prog 324 #[.pointer (some ⟨Q,0,none⟩)] W fun C w'=>C=.returned (.iface 282 (.agg (wyC x m).toArray))/\(∃M,dI w' Q B y M K k J 0 [])/\ca Q W w':=by
 obtain⟨g,c,rfl⟩:=b.iv_form ak;have d:=b.items;have j:=d.cellAt 0 ad;have l:=d.cellAt 1 ad;have o:=d.cellAt 2 ad;have q:=d.cellAt 3 ad;have A:=ai 0 b.box;have E:W.frozen? ⟨g,0,none⟩=false:=s9 d 0;have F:W.frozen? ⟨g,1,none⟩=false:=s9 d 1;have G:W.frozen? ⟨g,2,none⟩=false:=s9 d 2;have H:W.frozen? ⟨g,3,none⟩=false:=s9 d 3;have I:=DC (n:=1) (c:=c) d;unfold maxLen at I;have Y:1<=c:=ad;have X:c<=9223372036854775807:=ad;clear d I;have V:Q≠g:=fun C=>by have:=(aV b.items (g:=g) rfl).1;have:=b.low;omega
 have e:=(aV b.items (g:=g) rfl).2;have i:=aN b.box;have D:=aQ b.box 0;obtain⟨s,t,v,u,r⟩:=x;simp only[wyC,jD,gq]at j l o q;unfold wyC at b⊢;obtain⟨z,h⟩:=aj (W.alloc (.cells #[.int .i64 (s:Nat),.int .i64 (t:Nat),.slice v u r,.int .u64 (m:Nat)] 282));have a:Below W.heap.size W z:=by rw[h];exact az
 have f:z.heap[W.heap.size]?=some (.cells #[.int .i64 (s:Nat),.int .i64 (t:Nat),.slice v u r,.int .u64 (m:Nat)] 282):=by rw[h];exact aC W _
 have w:=ah (NJ (x:=⟨s,t,v,u,r⟩) b a);have al:=ai 0 f;have an:=ai 1 f;have ao:=ai 2 f;have aq:=ai 3 f;have N:=(a.cell (p:=⟨Q,0,none⟩) i).trans A;have O:=(a.frozen (p:=⟨Q,0,none⟩) i).trans D;have P:=(a.frozen (p:=⟨g,0,none⟩) e).trans E;have R:=(a.frozen (p:=⟨g,1,none⟩) e).trans F;have S:=(a.frozen (p:=⟨g,2,none⟩) e).trans G;have T:=(a.frozen (p:=⟨g,3,none⟩) e).trans H;have ab:=(a.cell (p:=⟨g,0,none⟩) e).trans j;have ae:=(a.cell (p:=⟨g,1,none⟩) e).trans l;have af:=(a.cell (p:=⟨g,2,none⟩) e).trans o;have ag:=(a.cell (p:=⟨g,3,none⟩) e).trans q;have aa:W.heap.size≠g:=ad;have Z:W.heap.size≠Q:=ad;clear b f a E F G H D e i;go_enter func324,ntmps324
 go_wp2_with(first|(rw[<-h];clear h A j l o q)|fail)
 go_ret;exact⟨rfl,w.o.1,w.o.2⟩
theorem DV(v:Value)(w:World):(method 514 291 v "Len").run prog w=.ok (322,v) w:=ay
theorem NL(v:Value)(w:World):(method 514 291 v "Swap").run prog w=.ok (326,v) w:=ay
theorem NM(v:Value)(w:World):(method 514 291 v "Push").run prog w=.ok (325,v) w:=ay
theorem NO(v:Value)(w:World):(method 514 291 v "Pop").run prog w=.ok (324,v) w:=ay
theorem sh(k:FuncId)(args:Array Value)(w:World)(a:k=322∨k=326∨k=325∨k=324):(callFunc k args).run prog w=.ok (.enter k args) w:=by rcases a with rfl|rfl|rfl|rfl<;>rfl
theorem NP(v:Value)(W:World):Calls prog 233 #[v,.int .i64 0] W fun b w'=>b=.returned (.tuple #[])/\w'=W:=by
 go_enter func233,ntmps233
 go_wp2
 go_loopw [1] (fun c wr=>c=.int .i64 0/\wr=W) (fun _ _=>0)
 case atStart=>exact⟨rfl,rfl⟩
 case round=>
 obtain⟨rfl,a⟩:=hrel;rw[a];clear a wr
 go_wp2
 go_end0
 exact⟨rfl,rfl⟩
theorem NQ(v:Value)(W:World):Calls prog 234 #[v,.int .i64 0,.int .i64 0] W fun b w'=>(∃q:Bool,b=.returned (.bool q))/\w'=W:=by
 go_enter func234,ntmps234
 go_wp2
 go_loopw [7] (fun c wr=>c=.int .i64 0/\wr=W) (fun _ _=>0)
 case atStart=>exact⟨rfl,rfl⟩
 case round=>
 obtain⟨rfl,a⟩:=hrel;rw[a];clear a wr
 go_wp2
 go_ret;exact⟨⟨_,rfl⟩,rfl⟩
theorem NR(W:World)(Q B a k c m:Nat)(t d:Value)(x:Wy)(p:dI W Q B a t d k c 0 []):
 Calls prog 198 #[.iface 291 (.pointer (some ⟨Q,0,none⟩)),.iface 282 (.agg (wyC x m).toArray)] W fun e w'=>e=.returned (.tuple #[])/\(∃i,dI w' Q B a i d k c 1 (wyC x m))/\ca Q W w':=by
 have g:=NH W Q B a k c m t d x p;obtain⟨cs,f⟩:=aj (wyC x m);rw[<-f]at g⊢;have y:=NM (.pointer (some ⟨Q,0,none⟩)) W;have u:=fun args w=>sh 325 args w ak;obtain⟨n,E⟩:=aE g f;clear g p f;go_enter func198,ntmps198
 go_wp2_with fail
 refine n.o.mono ?_;rintro e w1 ⟨rfl,⟨A,h⟩,q⟩;have r:=DT w1 Q B a k c 1 A d _ h;have s:=NP (.iface 291 (.pointer (some ⟨Q,0,none⟩))) w1;have z:=DV (.pointer (some ⟨Q,0,none⟩)) w1;have v:=fun args w=>sh 322 args w ak;obtain⟨l,o⟩:=aE r s;have j:Hid ((∃i,dI w1 Q B a i d k c 1 cs)/\ca Q W w1):=ah ⟨⟨_,h⟩,q⟩;clear r s h q y u n;go_wp2_with fail
 refine l.o.mono ?_;rintro e C ⟨rfl,b⟩;rw[b];clear b l z v C;go_wp2_with fail
 refine o.o.mono ?_;rintro e D ⟨rfl,b⟩;rw[b];clear b o D
 go_wp2
 go_end0
 exact⟨rfl,j.o.1,j.o.2⟩
theorem NS(W:World)(Q B a k b m:Nat)(e n:Value)(x:Wy)(f:dI W Q B a e n k b 1 (wyC x m))(H:k<=1048576):
 Calls prog 200 #[.iface 291 (.pointer (some ⟨Q,0,none⟩))] W fun c w'=>c=.returned (.iface 282 (.agg (wyC x m).toArray))/\(∃l o,dI w' Q B a l o (k+1) b 0 [])/\ca Q W w':=by
 have D:=DT W Q B a k b 1 e n _ f;have j:=NI W Q B a k b m e n x f H;obtain⟨cs,g⟩:=aj (wyC x m);rw[<-g]at j⊢;have I:=DV (.pointer (some ⟨Q,0,none⟩)) W;have J:=NL (.pointer (some ⟨Q,0,none⟩)) W;have N:=fun args w=>sh 322 args w ak;have O:=fun args w=>sh 326 args w ak;have P:=fun args w=>sh 324 args w ak;obtain⟨u,y,s⟩:=bO D j g;clear D j f g;go_enter func200,ntmps200
 go_wp2_with fail
 refine u.o.mono ?_;rintro c w1 ⟨rfl,d⟩;rw[d];clear u I d w1;go_wp2_with fail
 refine y.o.mono ?_;rintro c p ⟨rfl,⟨L,i⟩,A⟩;have z:=NQ (.iface 291 (.pointer (some ⟨Q,0,none⟩))) p;have K:=NO (.pointer (some ⟨Q,0,none⟩)) p;rw[s.o]at i;have h:=NK p Q B a (k+1) b m e L x i;rw[<-s.o]at h;obtain⟨t,v,G⟩:=bO z h A;clear z i A J y h;go_wp2_with fail
 refine t.o.mono ?_;rintro c M ⟨⟨q,rfl⟩,d⟩;rw[d];clear t d M;go_wp2_with fail
 refine v.o.mono ?_;rintro c F ⟨rfl,⟨R,E⟩,C⟩;have r:Hid ((∃l o,dI F Q B a l o (k+1) b 0 [])/\ca Q W F):=ah ⟨⟨_,_,E⟩,G.o.trans C⟩;clear E C v K
 go_wp2
 go_ret;exact⟨rfl,r.o.1,r.o.2⟩
theorem NT(w:World):Calls prog 123 #[.slice none 0 0,.slice none 0 0] w fun b w'=>b=.returned (.int .i64 0)/\w'=w:=by
 go_enter func123,ntmps123
 go_wp2
 go_loopw [11] (fun c wr=>c=.int .i64 0/\wr=w) (fun _ _=>0)
 case atStart=>exact⟨rfl,rfl⟩
 case round=>
 obtain⟨rfl,a⟩:=hrel;rw[a];clear a wr
 go_wp2
 go_ret;exact⟨rfl,rfl⟩
theorem NU(g:Nat)(w:World)(b:w.cell? ⟨g,0,none⟩=some (.int .i64 0))(c:w.cell? ⟨g,1,none⟩=some (.int .i64 0))(d:w.cell? ⟨g,2,none⟩=some (.int .i64 0)):Calls prog 121 #[.slice (some ⟨g,0,none⟩) 3 3] w fun f w'=>f=.returned (.int .i64 0)/\w'=w:=by
 go_enter func121,ntmps121
 go_wp2
 go_loopw [8] (fun a wr=>∃k:Nat,a=.int .i64 k/\k<=3/\wr=w) (fun a _=>3-(intOf a).toNat)
 case atStart=>exact⟨0,rfl,ad,rfl⟩
 case round=>
 obtain⟨k,rfl,j,e⟩:=hrel;rw[e];clear e wr;by_cases h:k<3
 ·have l:(0:Int)<=k:=ad
  have m:(k:Int)<3:=ad;have i:w.cell? ⟨g,k,none⟩=some (.int .i64 0):=by
   match k,h with
   |0,_=>exact b
   |1,_=>exact c
   |2,_=>exact d
  clear b c d
  go_wp2
  go_roundw
  case rel=>exact⟨k+1,aG,ad,ak⟩
  case measure=>exact aH
 ·obtain rfl:k=3:=ad
  go_wp2
  go_ret;exact⟨rfl,ak⟩
theorem NV(w:World):Calls prog 120 #[.agg #[.int .i64 0,.int .i64 0,.slice none 0 0],.agg #[.int .i64 0,.int .i64 0,.slice none 0 0]] w fun b w'=>b=.returned (.int .i64 0)/\Below w.heap.size w w':=by
 obtain⟨a,c⟩:=aj ((w.alloc (.cells #[.int .i64 0,.int .i64 0,.slice none 0 0] 212)).alloc (.cells #[.int .i64 0,.int .i64 0,.slice none 0 0] 212));have d:Below w.heap.size w a:=by rw[c];exact az.alloc ak _
 have g:a.heap[w.heap.size]?=some (.cells #[.int .i64 0,.int .i64 0,.slice none 0 0] 212):=by rw[c];exact(bH _ _ _ ak).trans (aC w _)
 have h:a.heap[w.heap.size+1]?=some (.cells #[.int .i64 0,.int .i64 0,.slice none 0 0] 212):=by rw[c];have:=aC (w.alloc (.cells #[.int .i64 0,.int .i64 0,.slice none 0 0] 212)) (.cells #[.int .i64 0,.int .i64 0,.slice none 0 0] 212);rwa[bI]at this
 have u:a.heap.size=w.heap.size+2:=by rw[c];simp
 have i:∀w',Below a.heap.size a w'->(w'.cell? ⟨w.heap.size,1,none⟩=some (.int .i64 0)/\w'.cell? ⟨w.heap.size,2,none⟩=some (.slice none 0 0))/\w'.cell? ⟨w.heap.size+1,1,none⟩=some (.int .i64 0)/\w'.cell? ⟨w.heap.size+1,2,none⟩=some (.slice none 0 0):=fun w' j=>by have n:=(j.block _ (aN g)).trans g;have o:=(j.block _ (aN h)).trans h;exact⟨⟨ai 1 n,ai 2 n⟩,ai 1 o,ai 2 o⟩
 have s:=i a.drew (aA _ a).drew;have t:=i (a.alloc (.cells #[.int .i64 0,.int .i64 0,.int .i64 0] 3)).drew az.drew;have l:∀f,Calls prog 122 #[.int .i64 0,.int .i64 0] f fun b w'=>b=.returned (.int .i64 0)/\f=w':=fun f=>DF 0 0 f;obtain⟨q,v⟩:=aE l d;have e:(a.alloc (.cells #[.int .i64 0,.int .i64 0,.int .i64 0] 3)).drew.heap[w.heap.size+2]?=some (.cells #[.int .i64 0,.int .i64 0,.int .i64 0] 3):=by rw[<-u];exact aC a _
 have m:=NU (w.heap.size+2) (a.alloc (.cells #[.int .i64 0,.int .i64 0,.int .i64 0] 3)).drew (ai 0 e) (ai 1 e) (ai 2 e);have p:Hid (Below w.heap.size w (a.alloc (.cells #[.int .i64 0,.int .i64 0,.int .i64 0] 3)).drew):=ah (d.alloc d.size _).drew;have r:=ah m;clear i g h e d l m;go_enter func120,ntmps120
 go_wp2_with(first|(rw[<-c];clear c)|fail)
 go_region_held3(fun w'=>(w'.cell? ⟨w.heap.size,1,none⟩=some (.int .i64 0)/\w'.cell? ⟨w.heap.size,2,none⟩=some (.slice none 0 0))/\w'.cell? ⟨w.heap.size+1,1,none⟩=some (.int .i64 0)/\w'.cell? ⟨w.heap.size+1,2,none⟩=some (.slice none 0 0))
  (first|exact s|exact t)
  (first
    |(go_at_call 122;refine(q.o _).mono ?_;rintro b w' ⟨rfl,rfl⟩)
    |(go_at_call 123;refine(NT _).mono ?_;rintro b w' ⟨rfl,rfl⟩)
    |(go_at_call 121;refine r.o.mono ?_;rintro b w' ⟨rfl,rfl⟩))
 go_wp2
 go_ret;exact⟨rfl,p.o⟩
theorem NW(W:World):Calls prog 124 #[.func (.func 120) #[] #[]] W fun i w'=>i=.returned (.tuple #[.pointer (some ⟨W.heap.size+1,0,none⟩),.int .i64 0])/\dI w' (W.heap.size+1) (W.heap.size+2) W.heap.size (.slice none 0 0) (.slice none 0 0) 0 0 0 []/\Below W.heap.size W w':=by
 obtain⟨b,a⟩:=aj ((W.alloc (.cells #[.func (.func 120) #[] #[]] 216)).alloc (.cells #[.slice none 0 0,.slice none 0 0,r9 W.heap.size,.int .u64 ((0:Nat):Int)] 289));have c:Below W.heap.size W b:=by rw[a];exact az.alloc ak _
 have d:b.heap[W.heap.size]?=some (.cells #[.func (.func 120) #[] #[]] 216):=by rw[a];exact(bH _ _ _ ak).trans (aC W _)
 have e:b.heap[W.heap.size+1]?=some (.cells #[.slice none 0 0,.slice none 0 0,r9 W.heap.size,.int .u64 ((0:Nat):Int)] 289):=by rw[a];have:=aC (W.alloc (.cells #[.func (.func 120) #[] #[]] 216)) (.cells #[.slice none 0 0,.slice none 0 0,r9 W.heap.size,.int .u64 ((0:Nat):Int)] 289);rwa[bI]at this
 have l:b.heap.size=W.heap.size+2:=by rw[a];simp
 have h:Hid (dI b (W.heap.size+1) (W.heap.size+2) W.heap.size (.slice none 0 0) (.slice none 0 0) 0 0 0 []/\Below W.heap.size W b):=
  ah ⟨⟨e,cR _ _ _ _,⟨[],cR _ _ _ _⟩,(fun g j=>by cases j),ad,ad,d,ad,ad⟩,c⟩
 have m:=n9;have n:∀w:World,(binOp BinOp.eql 216 (.func (.func 120) #[] #[]) .nilFunc).run prog w=.ok (.bool false) w:=fun _=>rfl;unfold r9 at a;clear c d e l;go_enter func124,ntmps124
 go_wp2_with(first|(rw[<-a];clear a)|fail)
 go_ret2
 have f:=h.o;rw[a]at f;exact⟨rfl,f⟩
theorem NX(a b c:Value)(w:World):CallsD prog 196 #[a,b,c] .returning w fun e g w'=>e=.returned (.tuple #[])/\g=.returning/\w'=w:=by
 refine z6 func196 rfl fun d cs f=> ?_;apply wpS_seq;apply wpS_region;simp[wpOpsS,go_sem,recoverD,f,ntmps196,Exit.thenS];refine wpS_cond (t:=false) (by simp[Act.eval,Array.replicate]) ?_;simp only[kh,i6];refine wpS_of_wp (wp_skip ?_);cases d
 simp_all[bodyPostS,results,results196]
theorem NY(a b c d e:Value)(w:World):CallsD prog 199 #[a,b,c,d,e] .returning w fun e h w'=>e=.returned (.tuple #[])/\h=.returning/\w'=w:=by
 refine z6 func199 rfl fun f cs g=> ?_;apply wpS_seq;apply wpS_region;simp[wpOpsS,go_sem,recoverD,g,ntmps199,Exit.thenS];refine wpS_cond (t:=false) (by simp[Act.eval,Array.replicate]) ?_;simp only[kh,i6];refine wpS_of_wp (wp_skip ?_);cases f
 simp_all[bodyPostS,results,results199]
def si(W:World)(Q B b a:Nat)(x:Wy)(c:Ending)(w':World):Prop:=c=.returned (.int .i64 0)/\(∃d e k,dI w' Q B b d e k (a+1) 1 (wyC x a))/\ca Q W w'
def DW(W:World)(Q B a d:Nat)(x:Wy)(b:Ending)(w':World):Prop:=
 b=.returned (.tuple #[.agg #[.int .i64 (x.s:Nat),.int .i64 (x.n:Nat),.slice x.o x.l x.c],.int .i64 0])/\(∃c e k,dI w' Q B a c e k d 0 [])/\ca Q W w'
def NZ(W:World)(Q B b a:Nat)(e:Value)(x:Wy)(c:Ending)(w':World):Prop:=c=.returned (.tuple #[])/\(∃d,dI w' Q B b d e 0 a 1 (wyC x a))/\ca Q W w'
theorem DX(W:World)(Q B q k c:Nat)(b1 bd:Value)(x:Wy)(h:dI W Q B q b1 bd k c 0 [])(cp:c<=1048576):
 Calls prog 125 #[.pointer (some ⟨Q,0,none⟩),.agg #[.int .i64 (x.s:Nat),.int .i64 (x.n:Nat),.slice x.o x.l x.c]] W (si W Q B q c x):=by
 obtain⟨L,K,rfl⟩:∃L K,bd=.slice L k K:=by obtain⟨ys,b0⟩:=h.swaps;exact cC b0
 obtain⟨cu,cs,rfl⟩:=cC h.items;obtain⟨s,t,g,e,d⟩:=x;simp only;have bB:=aN h.box;have cl:=aN h.ob;obtain⟨m,j⟩:=aj ((((W.alloc (.cells #[.pointer (some ⟨Q,0,none⟩)] 217)).alloc (.cells #[.int .i64 (s:Nat),.int .i64 (t:Nat),.slice g e d] 212)).alloc (.cells #[.int .i64 0] 36)).alloc (.cells #[.int .i64 0] 3));have G:Below W.heap.size W m:=by rw[j];exact((az.alloc cz _).alloc cz _).alloc cz _
 have bb:m.heap.size=W.heap.size+4:=by rw[j];simp
 have V:m.heap[W.heap.size]?=some (.cells #[.pointer (some ⟨Q,0,none⟩)] 217):=by rw[j];exact(bH _ _ _ cz).trans ((bH _ _ _ cz).trans ((bH _ _ _ cz).trans (aC W _)))
 have D:m.heap[W.heap.size+1]?=some (.cells #[.int .i64 (s:Nat),.int .i64 (t:Nat),.slice g e d] 212):=by rw[j];have:=aC (W.alloc (.cells #[.pointer (some ⟨Q,0,none⟩)] 217)) (.cells #[.int .i64 (s:Nat),.int .i64 (t:Nat),.slice g e d] 212);rw[bI]at this;exact(bH _ _ _ cz).trans ((bH _ _ _ cz).trans this)
 have X:m.heap[W.heap.size+2]?=some (.cells #[.int .i64 0] 36):=by rw[j];have:=aC ((W.alloc (.cells #[.pointer (some ⟨Q,0,none⟩)] 217)).alloc (.cells #[.int .i64 (s:Nat),.int .i64 (t:Nat),.slice g e d] 212)) (.cells #[.int .i64 0] 36);rw[bI,bI]at this;exact(bH _ _ _ cz).trans this
 obtain⟨y,z⟩:=aj (((W.alloc (.cells #[.pointer (some ⟨Q,0,none⟩)] 217)).alloc (.cells #[.int .i64 (s:Nat),.int .i64 (t:Nat),.slice g e d] 212)).alloc (.cells #[.int .i64 0] 36));have af:Below W.heap.size W y:=by rw[z];exact(az.alloc cz _).alloc cz _
 have bc:y.heap.size=W.heap.size+3:=by rw[z];simp
 have be:y.heap[W.heap.size]?=some (.cells #[.pointer (some ⟨Q,0,none⟩)] 217):=by rw[z];exact(bH _ _ _ cz).trans ((bH _ _ _ cz).trans (aC W _))
 rw[<-z]at j;have b9:=ai 0 be;have cc:=ai 0 ((af.block _ bB).trans h.box);have n:=h.below G;obtain⟨I,ba⟩:=n.reset;have N:=I.below (aA _ _).drew;have T:=((eY h G).trans ba).trans (eY I (aA _ _).drew);have b4:=ai 0 V;have b5:=ai 0 D;have b6:=ai 1 D;have b7:=ai 2 D;have b8:=ai 0 X;have bu:=ai 0 n.box;have bz:=ai 1 n.box;have bA:=aQ n.box 1;have bw:=ai 0 h.box;obtain⟨E,O⟩:=aj ((m.setCell ⟨Q,1,none⟩ (.slice L 0 K)).drew);rw[<-O]at N T;have co:=n9;obtain⟨ce,Y,bo,bg,ae,F,bt,bq,Z,bf⟩:=kB bc N T n V D X bb O h;have bi:=ah G;have bZ:=fun w=>uR h.swaps.choose_spec w;have H:m.heap[y.heap.size]?=some (.cells #[.int .i64 0] 3):=by rw[j];exact aC y _
 have ch:=ai 0 H;have ci:=aQ H 0;have c1:=se (o:=0) (v:=.int .i64 0) H rfl;clear H h n I ba N T V D X bb O G af bc be
 go_enter_defers func125,ntmps125
 go_wp2_with(first|(rw[<-z];clear z)|(rw[<-j];clear j)|fail)
 go_region
 rw[<-Z.o];have S:=Y.o.below (aA _ _).drew;have a6:=NR E.drew Q B q 0 c c _ _ ⟨s,t,g,e,d⟩ S;have i:∀b,W.heap.size<=b->b<W.heap.size+4->SQ Q E.drew b/\E.drew.heap[b]?=m.heap[b]?:=fun b n I=>by have:=(bg.o.reset.2.kp.same b (bf.o.sq_new bi.o n (by have:=bq.out;omega)));rw[Z.o];exact this
 have a2:=S.box;have a3:=bo.out.trans (eY Y.o (aA _ _).drew);have ag:=ai 0 ((i W.heap.size (aB _) ad).2.trans ae.out);have al:=ai 0 ((i (W.heap.size+1) ad ad).2.trans F.out);have an:=ai 1 ((i (W.heap.size+1) ad ad).2.trans F.out);have ao:=ai 2 ((i (W.heap.size+1) ad ad).2.trans F.out);have aq:=ai 3 a2;have aa:Hid (∀a,NZ E.drew Q B q c (.slice L 0 K) ⟨s,t,g,e,d⟩ (.returned (.tuple #[])) a->a.heap[W.heap.size]?=some (.cells #[.pointer (some ⟨Q,0,none⟩)] 217)/\a.heap[W.heap.size+1]?=some (.cells #[.int .i64 (s:Nat),.int .i64 (t:Nat),.slice g e d] 212)/\a.heap[W.heap.size+2]?=some (.cells #[.int .i64 0] 36)/\SQ Q a (W.heap.size+2)):=fun a A=>by have r:=A.2.2.kp.same _ (i W.heap.size (aB _) ad).1;have a1:=A.2.2.kp.same _ (i (W.heap.size+1) ad ad).1;have u:=A.2.2.kp.same _ (i (W.heap.size+2) ad ad).1;exact⟨r.2.trans ((i W.heap.size (aB _) ad).2.trans ae.out),a1.2.trans ((i (W.heap.size+1) ad ad).2.trans F.out),u.2.trans ((i (W.heap.size+2) ad ad).2.trans bt.out),u.1⟩
 obtain⟨ab,bm⟩:=aE a6 a3;clear a6 a3 S i a2 b4 b5 b6 b7 b8 bu bz bA bw b9 cc bZ;go_wp2_with fail
 go_region_held3(fun w'=>w'.cell? ⟨W.heap.size,0,none⟩=some (.pointer (some ⟨Q,0,none⟩))/\(w'.cell? ⟨W.heap.size+1,0,none⟩=some (.int .i64 (s:Nat))/\w'.cell? ⟨W.heap.size+1,1,none⟩=some (.int .i64 (t:Nat))/\w'.cell? ⟨W.heap.size+1,2,none⟩=some (.slice g e d))/\w'.cell? ⟨Q,3,none⟩=some (.int .u64 (c:Nat)))
  (first|exact⟨ag,⟨al,an,ao⟩,aq⟩|exact a0)
  (first|(go_at_call 198;refine ab.o.mono ?_;rintro C a A;have a0:a.cell? ⟨W.heap.size,0,none⟩=some (.pointer (some ⟨Q,0,none⟩))/\(a.cell? ⟨W.heap.size+1,0,none⟩=some (.int .i64 (s:Nat))/\a.cell? ⟨W.heap.size+1,1,none⟩=some (.int .i64 (t:Nat))/\a.cell? ⟨W.heap.size+1,2,none⟩=some (.slice g e d))/\a.cell? ⟨Q,3,none⟩=some (.int .u64 (c:Nat)):=(by obtain⟨rfl,l,bF⟩:=A;obtain⟨r,a1,u,M⟩:=aa.o a ⟨rfl,l,bF⟩;obtain⟨_,l⟩:=l;exact⟨ai 0 r,⟨ai 0 a1,ai 1 a1,ai 2 a1⟩,ai 3 l.box⟩);obtain⟨rfl,a7,P⟩:=A))
 obtain⟨r,a1,u,M⟩:=aa.o a ⟨rfl,a7,P⟩;obtain⟨b2,l⟩:=a7;obtain⟨a5,R⟩:=l.number (p:=c+1);have a9:=(R.kp.same _ M).1;have av:W.heap.size+2≠Q:=ad;have J:dI ((a.setCell ⟨Q,3,none⟩ (.int .u64 ((c+1:Nat):Int))).setCell ⟨W.heap.size+2,0,none⟩ (.int .i64 0)) Q B q b2 _ 0 (c+1) 1 (wyC ⟨s,t,g,e,d⟩ c):=a5.far a9 ad;have a4:ca Q W ((a.setCell ⟨Q,3,none⟩ (.int .u64 ((c+1:Nat):Int))).setCell ⟨W.heap.size+2,0,none⟩ (.int .i64 0)):=((bm.o.trans P).trans R).far ad av;have bl:Hid (si W Q B q c ⟨s,t,g,e,d⟩ (.returned (.int .i64 0)) ((a.setCell ⟨Q,3,none⟩ (.int .u64 ((c+1:Nat):Int))).setCell ⟨W.heap.size+2,0,none⟩ (.int .i64 0))):=ah ⟨rfl,⟨_,_,_,J⟩,a4⟩;have cN:=ai 0 r;have b3:=ai 0 u;have c0:=ai 3 l.box;have cx:=aQ u 0;have cG:=aQ l.box 3;have cq:a.heap.size≠0:=by have:=aN r;omega
 clear l a5 R a9 J a4 r a1 u M P a0 ag al an ao aq ab;go_wp2_with fail
 refine z7 (f:=196) (args:=#[.pointer (some ⟨W.heap.size,0,none⟩),.pointer (some ⟨y.heap.size,0,none⟩),.pointer (some ⟨W.heap.size+1+1,0,none⟩)]) ak (by simp[go_sem]) ?_;refine(NX _ _ _ _).mono ?_;rintro C c2 c3 ⟨rfl,rfl,rfl⟩;have J:si W Q B q c ⟨s,t,g,e,d⟩ (.returned (.int .i64 0)) ((a.setCell ⟨Q,3,none⟩ (.int .u64 ((c:Int)+1))).setCell ⟨W.heap.size+1+1,0,none⟩ (.int .i64 0)):=bl.o;have bE:((a.setCell ⟨Q,3,none⟩ (.int .u64 ((c:Int)+1))).setCell ⟨W.heap.size+1+1,0,none⟩ (.int .i64 0)).cell? ⟨W.heap.size+1+1,0,none⟩=some (.int .i64 0):=qU _ _ _ (by rw[kj _ _ _ _ (fun C=>av (by injection C with C;exact C.symm)),b3];rfl);exact⟨.int .i64 0,by simp[results,results125,go_sem,bE],J⟩
def mR(W:World)(Q n:Nat):World:=((((W.alloc (.cells #[.pointer (some ⟨Q,0,none⟩)] 217)).alloc (.cells #[.int .i64 0,.int .i64 0,.slice none 0 0] 212)).alloc (.cells #[.int .i64 0] 36)).alloc (.cells #[.int .i64 0,.int .i64 0,.slice none 0 0] 212)).alloc (.cells #[.int .i64 (n:Nat)] 3)
def lf(W:World)(Q:Nat):World:=(((W.alloc (.cells #[.pointer (some ⟨Q,0,none⟩)] 217)).alloc (.cells #[.int .i64 0,.int .i64 0,.slice none 0 0] 212)).alloc (.cells #[.int .i64 0] 36)).alloc (.cells #[.int .i64 0,.int .i64 0,.slice none 0 0] 212)
theorem DY(W:World)(Q:Nat):Below W.heap.size W (lf W Q)/\(lf W Q).heap.size=W.heap.size+4/\(lf W Q).heap[W.heap.size]?=some (.cells #[.pointer (some ⟨Q,0,none⟩)] 217)/\(lf W Q).heap[W.heap.size+1]?=some (.cells #[.int .i64 0,.int .i64 0,.slice none 0 0] 212)/\(lf W Q).heap[W.heap.size+2]?=some (.cells #[.int .i64 0] 36)/\(lf W Q).heap[W.heap.size+3]?=some (.cells #[.int .i64 0,.int .i64 0,.slice none 0 0] 212):=by
 unfold lf;refine⟨((az.alloc cz _).alloc cz _).alloc cz _,by simp only[bI],?_,?_,?_,?_⟩
 ·exact(bH _ _ _ cz).trans ((bH _ _ _ cz).trans ((bH _ _ _ cz).trans (aC W _)))
 ·have:=aC (W.alloc (.cells #[.pointer (some ⟨Q,0,none⟩)] 217)) (.cells #[.int .i64 0,.int .i64 0,.slice none 0 0] 212)
  rw[bI]at this;exact(bH _ _ _ cz).trans ((bH _ _ _ cz).trans this)
 ·have:=aC ((W.alloc (.cells #[.pointer (some ⟨Q,0,none⟩)] 217)).alloc (.cells #[.int .i64 0,.int .i64 0,.slice none 0 0] 212)) (.cells #[.int .i64 0] 36)
  rw[bI,bI]at this;exact(bH _ _ _ cz).trans this
 ·have:=aC (((W.alloc (.cells #[.pointer (some ⟨Q,0,none⟩)] 217)).alloc (.cells #[.int .i64 0,.int .i64 0,.slice none 0 0] 212)).alloc (.cells #[.int .i64 0] 36)) (.cells #[.int .i64 0,.int .i64 0,.slice none 0 0] 212)
  rw[bI,bI,bI]at this;exact this
theorem N0(W:World)(Q n:Nat):Below W.heap.size W (mR W Q n)/\(mR W Q n).heap.size=W.heap.size+5/\(mR W Q n).heap[W.heap.size]?=some (.cells #[.pointer (some ⟨Q,0,none⟩)] 217)/\(mR W Q n).heap[W.heap.size+1]?=some (.cells #[.int .i64 0,.int .i64 0,.slice none 0 0] 212)/\(mR W Q n).heap[W.heap.size+2]?=some (.cells #[.int .i64 0] 36)/\(mR W Q n).heap[W.heap.size+3]?=some (.cells #[.int .i64 0,.int .i64 0,.slice none 0 0] 212)/\(mR W Q n).heap[W.heap.size+4]?=some (.cells #[.int .i64 (n:Nat)] 3):=by obtain⟨d,a,e,f,g,h⟩:=DY W Q;have c:mR W Q n=(lf W Q).alloc (.cells #[.int .i64 (n:Nat)] 3):=rfl;rw[c];have b:=aC (lf W Q) (.cells #[.int .i64 (n:Nat)] 3);rw[a]at b;exact⟨d.alloc ad _,by rw[bI,a],(bH _ _ _ ad).trans e,(bH _ _ _ ad).trans f,(bH _ _ _ ad).trans g,(bH _ _ _ ad).trans h,b⟩
theorem DZ(W:World)(Q B y k F m:Nat)(bA a4:Value)(x:Wy)(g:dI W Q B y bA a4 k F 1 (wyC x m)):
 Calls prog 126 #[.pointer (some ⟨Q,0,none⟩)] W (DW W Q B y F x):=by
 obtain⟨Z,Y,rfl⟩:∃Z Y,a4=.slice Z k Y:=by obtain⟨ys,bz⟩:=g.swaps;exact cC bz
 obtain⟨b8,b7,rfl⟩:=cC g.items;have bm:=aN g.box;have b2:=aN g.ob;obtain⟨M,N,O,bg,bi,bl⟩:=DY W Q;obtain⟨p,ae,D,P,i,af,R⟩:=N0 W Q 1;obtain⟨H,q⟩:=aj (lf W Q);obtain⟨z,S⟩:=aj (H.alloc (.cells #[.int .i64 1] 3));have ab:z=mR W Q 1:=by rw[S,q];rfl
 rw[<-q]at M N O;rw[<-ab]at p ae D P i af R;have b0:=ai 0 O;have b1:=ai 0 ((M.block _ bm).trans g.box);have C:=g.below p;obtain⟨K,V⟩:=C.reset;have L:=K.below (aA _ _).drew;have X:=((eY g p).trans V).trans (eY K (aA _ _).drew);have bF:=ai 0 D;have bZ:z.cell? ⟨H.heap.size,0,none⟩=some (.int .i64 1):=by rw[N];exact ai 0 R
 have bc:=ai 1 C.box;have be:=aQ C.box 1;obtain⟨A,E⟩:=aj ((z.setCell ⟨Q,1,none⟩ (.slice Z 0 Y)).drew);rw[<-E]at L X;have b4:=n9;have bw:=fun w=>uR g.swaps.choose_spec w;have aq:=NS A Q B y 0 F m _ _ x L ad;have n:∀b,W.heap.size<=b->b<W.heap.size+5->SQ Q A b/\A.heap[b]?=z.heap[b]?:=fun b a1 l=>by have:=(V.kp.same b (g.sq_new p a1 ad));rw[E];exact this
 have aa:Hid (∀a,ca Q A a->a.heap[W.heap.size+1]?=some (.cells #[.int .i64 0,.int .i64 0,.slice none 0 0] 212)/\a.heap[W.heap.size+2]?=some (.cells #[.int .i64 0] 36)/\SQ Q a (W.heap.size+1)/\SQ Q a (W.heap.size+2)):=fun a ao=>by have a1:=ao.kp.same _ (n (W.heap.size+1) ad ad).1;have l:=ao.kp.same _ (n (W.heap.size+2) ad ad).1;exact⟨a1.2.trans ((n (W.heap.size+1) ad ad).2.trans P),l.2.trans ((n (W.heap.size+2) ad ad).2.trans i),a1.1,l.1⟩
 have bf:=ai 0 ((n W.heap.size (aB _) ad).2.trans D);obtain⟨bb,a9,ba⟩:=bO X E aq;unfold lf at q;clear M N O bg bi bl p ae D P i af R ab g C K V L X E aq n
 go_enter_defers func126,ntmps126
 go_wp2_with(first|(rw[<-q];clear q)|(rw[<-S];clear S)|fail)
 go_region
 rw[<-a9.o];clear b0 b1 bF bZ bc be bw;go_wp2_with fail
 refine ba.o.mono ?_;rintro bd a ⟨rfl,⟨b9,cs,r⟩,T⟩;obtain⟨s,t,e,d,c⟩:=x;unfold wyC;obtain⟨h,i⟩:=aj (a.alloc (.cells #[.int .i64 (s:Nat),.int .i64 (t:Nat),.slice e d c,.int .u64 (m:Nat)] 282));have j:Below a.heap.size a h:=by rw[i];exact az
 have u:h.heap[a.heap.size]?=some (.cells #[.int .i64 (s:Nat),.int .i64 (t:Nat),.slice e d c,.int .u64 (m:Nat)] 282):=by rw[i];exact aC a _
 obtain⟨a1,l,I,J⟩:=aa.o a T;have bB:=I.2.2;have bE:=J.2.2;have u1:=(j.block _ bB).trans a1;have u2:=(j.block _ bE).trans l;have av:=r.below j;have al:=(bb.out.trans T).trans (eY r j);have G:=(eY r j).kp.same _ I;have a3:=(eY r j).kp.same _ J;have a0:=((av.far (o:=0) (v:=.int .i64 (s:Nat)) G.1 ad).far (o:=1) (v:=.int .i64 (t:Nat)) (G.1.far ad) ad).far (o:=2) (v:=.slice e d c) ((G.1.far ad).far ad) ad;have a2:=a0.far (o:=0) (v:=.int .i64 0) (((a3.1.far ad).far ad).far ad) ad;have an:ca Q W ((((h.setCell ⟨W.heap.size+1,0,none⟩ (.int .i64 (s:Nat))).setCell ⟨W.heap.size+1,1,none⟩ (.int .i64 (t:Nat))).setCell ⟨W.heap.size+1,2,none⟩ (.slice e d c)).setCell ⟨W.heap.size+2,0,none⟩ (.int .i64 0)):=(((al.far ad ad).far ad ad).far ad ad).far ad ad;have ag:DW W Q B y F ⟨s,t,e,d,c⟩ (.returned (.tuple #[.agg #[.int .i64 (s:Nat),.int .i64 (t:Nat),.slice e d c],.int .i64 0])) ((((h.setCell ⟨W.heap.size+1,0,none⟩ (.int .i64 (s:Nat))).setCell ⟨W.heap.size+1,1,none⟩ (.int .i64 (t:Nat))).setCell ⟨W.heap.size+1,2,none⟩ (.slice e d c)).setCell ⟨W.heap.size+1+1,0,none⟩ (.int .i64 0)):=⟨rfl,⟨_,_,_,a2⟩,an⟩;obtain⟨a5,a6⟩:=aE ag u1;have a7:Hid (h.heap[W.heap.size+1+1]?=some (.cells #[.int .i64 0] 36)):=ah u2;have cx:=ai 0 u;have cG:=ai 1 u;have cN:=ai 2 u;have c0:=ai 3 u;have cl:=ai 0 u1;have co:=ai 1 u1;have cp:=ai 2 u1;have cq:=ai 0 u2;have cc:=aQ u1 0;have ce:=aQ u1 1;have ch:=aQ u1 2;have ci:=aQ u2 0;have b3:=fun(w:World)=>DU (.agg #[.int .i64 (s:Nat),.int .i64 (t:Nat),.slice e d c,.int .u64 (m:Nat)]) w;have b5:a.heap.size≠W.heap.size+1:=ad;have b6:a.heap.size≠W.heap.size+1+1:=ad;clear r T j u a1 l I J u1 u2 av al G a3 a0 a2 an ag bf aa;go_wp2_with(first|(rw[<-i];clear i)|fail)
 refine z7 (f:=199) (args:=#[.pointer (some ⟨W.heap.size,0,none⟩),.pointer (some ⟨H.heap.size,0,none⟩),.pointer (some ⟨W.heap.size+1+1+1,0,none⟩),.pointer (some ⟨W.heap.size+1,0,none⟩),.pointer (some ⟨W.heap.size+1+1,0,none⟩)]) ak (by simp[go_sem]) ?_;refine(NY _ _ _ _ _ _).mono ?_;rintro bd cu c1 ⟨rfl,rfl,rfl⟩;have u5:(((h.setCell ⟨W.heap.size+1,0,none⟩ (.int .i64 (s:Nat))).setCell ⟨W.heap.size+1,1,none⟩ (.int .i64 (t:Nat))).setCell ⟨W.heap.size+1,2,none⟩ (.slice e d c)).heap[W.heap.size+1]?=some (.cells #[.int .i64 (s:Nat),.int .i64 (t:Nat),.slice e d c] 212):=bL _ _ 2 _ (bL _ _ 1 _ (bL _ _ 0 _ a6.o));have u6:((((h.setCell ⟨W.heap.size+1,0,none⟩ (.int .i64 (s:Nat))).setCell ⟨W.heap.size+1,1,none⟩ (.int .i64 (t:Nat))).setCell ⟨W.heap.size+1,2,none⟩ (.slice e d c)).setCell ⟨W.heap.size+1+1,0,none⟩ (.int .i64 0)).heap[W.heap.size+1]?=some (.cells #[.int .i64 (s:Nat),.int .i64 (t:Nat),.slice e d c] 212):=(aX _ _ _ _ _ ad).trans u5;have u7:((((h.setCell ⟨W.heap.size+1,0,none⟩ (.int .i64 (s:Nat))).setCell ⟨W.heap.size+1,1,none⟩ (.int .i64 (t:Nat))).setCell ⟨W.heap.size+1,2,none⟩ (.slice e d c)).setCell ⟨W.heap.size+1+1,0,none⟩ (.int .i64 0)).heap[W.heap.size+1+1]?=some (.cells #[.int .i64 0] 36):=bL _ _ 0 _ ((aX _ _ _ _ _ ad).trans ((aX _ _ _ _ _ ad).trans ((aX _ _ _ _ _ ad).trans a7.o)));have bo:=ai 0 u6;have bq:=ai 1 u6;have bt:=ai 2 u6;have bu:=ai 0 u7;exact⟨.tuple #[.agg #[.int .i64 (s:Nat),.int .i64 (t:Nat),.slice e d c],.int .i64 0],by simp[results,results126,go_sem,bo,bq,bt,bu,underlying212],a5.o⟩
end Go.Proofs.YtbacloblanpghaaGreatDoor
