import Derived.Test.YtnadadbndcdolaaGreatDoorQbj
set_option linter.unusedVariables false
set_option linter.unusedSimpArgs false
set_option maxRecDepth 100000
set_option maxHeartbeats 0
namespace Go.Proofs.YtnadadbndcdolaaGreatDoor
open Go.RowKit Tryz
theorem PZ(x:Nat)(w:World):(binOp BinOp.neq 320 (.agg (setRow x).toArray) (.agg #[.int .u64 0,.int .u64 0,.int .u64 0,.int .u64 0,.int .u64 0,.int .u64 0,.int .u64 0,.int .u64 0,.int .u64 0,.int .u64 0,.int .u64 0,.int .u64 0,.int .u64 0,.int .u64 0,.int .u64 0,.int .u64 0])).run prog w=.ok (.bool (!(x==0))) w:=by
 cases x with
 |zero=>kernel_rfl
 |succ y=>kernel_rfl
theorem F6{P:Program}{e:Array Oper}{rest:List Oper}{c:Oper}{a:Act}{w:World}{Q:Exit->Act->World->Prop}(n:Region.wanted c (yielded e a.tmps)=true)(ty:TypeId)(x:Operand)(l:c.op=.load ty x)
 (b o:Nat) (p:a.eval x=.pointer (some ⟨b,o,none⟩)) (cs:List Value) (d:TypeDesc) (h:w.rangeAt b o cs)
 (m:P.underlying ty=some d) (i:d.isRow=true) (j:(P.info? ty).map (·.size)=some cs.length)
 (f:wpList P e Q rest (a.put c.dst (.agg cs.toArray)) w):wpList P e Q (c::rest) a w:=
 wpList_step fun q g=>by rw[ay n];exact wp_load_mid ty x l b o p cs d h m i j (g _ _ f)
theorem P0(s:St)(a:Bool)(last r c:Nat)(w:World)(f:jz s)(v:last<18446744073709551616)(l:w.heap[r]?=some (.cells #[.bool a] 4))(y:w.rangeAt c 0 (setRow last))(A:c<w.heap.size):
 Calls prog 249 #[.agg (bx s).toArray,.pointer (some ⟨r,0,none⟩),.pointer (some ⟨c,0,none⟩)] w fun i w'=>i=.returned (.bool ((s.1&&a)|| !(s.2&&&last==0)))/\Below w.heap.size w w':=by
 obtain⟨o,b,d,p⟩:=cm w (.cells (bx s).toArray 325);have z:o.cell? ⟨w.heap.size,0,none⟩=some (.bool s.1):=ai 0 p;have E:=ai 0 ((d.block _ (ax l)).trans l);have C:=Al p;have F:o.rangeAt c 0 (setRow last):=oM y (d.block _ A);unfold jz at f;obtain⟨e,m⟩:=s;simp only at z C f⊢;have u:=zB m last o f v;have B:=fun w'=>PZ (m&&&last) w';obtain⟨t,g⟩:=aD u d;clear d p y l f v u;obtain⟨q,x⟩:=ar (!(m&&&last==0));rw[<-x]at B⊢;clear x;by_cases j:e=true/\a=true
 ·obtain⟨rfl,rfl⟩:=j
  go_enter func249,ntmps249
  go_wp2_with(first
   |(rw[<-b];clear b)
   |fail)
  go_ret;exact⟨ak,g.out⟩
 ·have n:(e&&a)=false:=by cases e<;>cases a<;>simp_all
  rw[n];simp only[Ba];cases e with
  |false=>
   clear j n;go_enter func249,ntmps249
   go_wp2_with(first
    |(rw[<-b];clear b)
    |((with_reducible apply F6 (ty:=320));exact rfl;exact rfl;exact rfl;assumption;exact eY;exact rfl;exact cX)
    |fail)
   refine t.o.mono ?_;rintro i D ⟨rfl,h⟩
   go_wp2
   go_ret;exact⟨rfl,aO g.out h⟩
  |true=>
   obtain rfl:a=false:=by cases a<;>simp_all
   clear j n;go_enter func249,ntmps249
   go_wp2_with(first
    |(rw[<-b];clear b)
    |((with_reducible apply F6 (ty:=320));exact rfl;exact rfl;exact rfl;assumption;exact eY;exact rfl;exact cX)
    |fail)
   refine t.o.mono ?_;rintro i D ⟨rfl,h⟩
   go_wp2
   go_ret;exact⟨rfl,aO g.out h⟩
theorem P7(ws:List Bytes)(o:Option Addr)(c:Nat)(w:World)(b:dZ w o c ws)(L:1<=ws.length)(N:ws.length<=1048576):
 Calls prog 196 #[.slice o ws.length c] w fun y w'=>(∃v,y=.returned v/\cn w' w.heap.size v ws)/\Below w.heap.size w w':=by
 obtain⟨g,d,rfl,M,q⟩:=b.2.2.2 ad;have O:=b.2.1;have A:=b.2.2.1;unfold maxLen at A;have f:∀j u,(ws.map encStr)[j]?=some u->(w.alloc (.cells #[] 9)).cell? ((⟨g,d,none⟩:Addr).add j)=some u:=by
  intro j u D;have z:(⟨g,d,none⟩:Addr).add j=⟨g,d+j,none⟩:=by
   by_cases p:j=0
   ·subst p;simp[Addr.add]
   ·simp[Addr.add,p]
  rw[z];exact IA _ (q j u D)
 have l:∀u∈ws.map encStr,u.oneCell'=true:=by intro u F;obtain⟨n,_,rfl⟩:=fH.1 F;rfl
 obtain⟨J,C,G,H,I⟩:=cY qy;have i:(ws.map encStr).length=ws.length*1:=ak;have Q:∀(w:World) (a:Option Addr) (n c n' e:Nat),(binOp .eql 48 (.slice a n c) (.slice none n' e)).run prog w=.ok (.bool a.isNone) w:=fun w a n c n' e=>xQ w _ _ a n c n' e mT;obtain⟨xs,m⟩:=ar (ws.map encStr);rw[<-m]at f l i;obtain⟨x,s,r,t⟩:=cr m i f l;clear b q m i f l;go_enter BY,B8
 go_wp2_with(first
  |(at_builtin;go_must (refine jh _ rfl _ _ 48 rfl w.heap.size 9 J (.string ⟨#[]⟩) 1 16 mT C G H I rfl ap _ _ _ rfl (Bi w #[] 0 (az _) (aZ _) rfl) ⟨g,d,none⟩ ws.length c xs rfl s.o r.o t.o bI ad ak ?_);intro K R E B P)
  |go_in)
 go_ret;refine⟨⟨K,rfl,?_⟩,?_⟩
 ·unfold cn;rw[<-x.o];simpa using E
 ·exact aG.grown B ak (by intro k h;injection h with h;subst h;exact az _)
theorem P8(a:World)(g b:Nat)(o:Option Addr)(ty:TypeId):(Builtin.append_ #[48,48] ty #[.slice (some ⟨g,0,none⟩) 0 0,.slice o 0 b]).run prog a=.ok (.slice (some ⟨g,0,none⟩) 0 0) a:=by cases o<;>simp[Builtin.append_,go_sem,Builtin.firstCells,Builtin.lenOf,storeCells]
theorem P9(o:Option Addr)(c:Nat)(w:World):
 Calls prog 196 #[.slice o 0 c] w fun e w'=>(∃v,e=.returned v/\cn w' w.heap.size v [])/\Below w.heap.size w w':=by
 have h:∀(w:World) (a:Option Addr) (n c n' b:Nat),(binOp .eql 48 (.slice a n c) (.slice none n' b)).run prog w=.ok (.bool a.isNone) w:=fun w a n c n' b=>xQ w _ _ a n c n' b mT;cases o with
 |none=>
  go_enter BY,B8
  go_wp2
  go_ret;exact⟨⟨_,rfl,dc _ _ _ _⟩,aE _ w⟩
 |some p=>
  have f:=fun d g ty=>P8 d g c (some p) ty;go_enter BY,B8
  go_wp2_with(first
   |(at_builtin;refine xX _ rfl _ _ _ _ rfl _ _ rfl rfl _ _ (f _ _ _) ?_)
   |fail)
  go_ret;exact⟨⟨_,rfl,Bi w #[] 0 (az _) (aZ _) rfl⟩,aG⟩
theorem Qa(ws:List Bytes)(o:Option Addr)(c:Nat)(w:World)(e:dZ w o c ws)(d:ws.length<=1048576):
 Calls prog 196 #[.slice o ws.length c] w fun b w'=>(∃v,b=.returned v/\cn w' w.heap.size v ws)/\Below w.heap.size w w':=by
 rcases uw ws.length with a|a
 ·obtain rfl:=qi a
  exact P9 o c w
 ·exact P7 ws o c w e a d
def F8(ws:List Bytes)(keys:List St)(fin:St->Bool)(nv:Value)(w:World)(a:Ending)(w':World):Prop:=
 (∃sv fv,a=.returned (.agg #[sv,nv,fv])/\cn w' w.heap.size sv ws/\w'.ownsRow w.heap.size 4 1 fv keys.length (keys.map fun s=>.bool (fin s)))/\Below w.heap.size w w'
structure AS(ws:List Bytes)(keys:List St)(fin:St->Bool)(tv nv sv fv:Value)(D j:Nat)(w wr:World):Prop where
 base:Below w.heap.size w wr
 size:w.heap.size+2<=wr.heap.size
 tour:wr.heap[w.heap.size]?=some (.cells #[tv,nv,fv] 330)∨True
 res:wr.heap[w.heap.size+1]?=some (.cells #[.slice none 0 0,.slice none 0 0,.slice none 0 0] 174)
 box:wr.heap[D]?=some (.cells #[sv,nv,fv] 174)
 ne:w.heap.size+2<=D
 syms:wr.ownsRow (w.heap.size+2) 9 1 sv ws.length (ws.map encStr)
 fins:wr.ownsRow (w.heap.size+2) 4 1 fv j ((keys.take j).map fun s=>.bool (fin s))
section
variable{ws:List Bytes} {keys:List St} {fin:St->Bool} {tv nv sv fv:Value} {D j:Nat} {w wr wq:World}
theorem AS.below(a:AS ws keys fin tv nv sv fv D j w wr)(b:Below wr.heap.size wr wq):AS ws keys fin tv nv sv fv D j w wq:=
 ⟨aO a.base ((b.mono (az _))),aJ a.size b.size,.inr trivial,(b.block _ (ax a.res)).trans a.res,(b.block _ (ax a.box)).trans a.box,a.ne,aP a.syms (fun g c=>b.block g (aF a.syms c).2),aP a.fins (fun g c=>b.block g (aF a.fins c).2)⟩
theorem AS.put(a:AS ws keys fin tv nv sv fv D j w wr){f:World}(e:wr.grownBy f fv.ownBlock){i gc:Nat}{s:St}(q:keys[j]?=some s)(l:f.ownsRow (w.heap.size+2) 4 1 (.slice (some ⟨i,0,none⟩) (j+1) gc) (j+1) ((keys.take j).map (fun s=>.bool (fin s))++[.bool (fin s)])):
 AS ws keys fin tv nv sv (.slice (some ⟨i,0,none⟩) (j+1) gc) D (j+1) w (f.setCell ⟨D,2,none⟩ (.slice (some ⟨i,0,none⟩) (j+1) gc)):=by
 have r:=a.size;have p:=a.ne;have h:=(e.block D (ax a.box) (ie a.fins a.box ap)).trans a.box;have n:=(e.block _ (ax a.res) (ie a.fins a.res ap)).trans a.res;have o:Below w.heap.size w f:=oI ad a.base e (fun b c=>by have:=(aF a.fins c).1;omega);have m:=aP a.syms (fun g d=>e.block g (aF a.syms d).2 (oJ a.syms a.fins ap g d));refine⟨o.setCell aR _,by rw[dE];exact aJ r e.size,.inr trivial,(aS _ _ _ _ _ ad).trans n,bn f D 2 _ h,p,aP m (fun g d=>aS _ _ _ _ _ (fun c=>gR m h ap (by rw[d,c]))),?_⟩;have c:(keys.take (j+1)).map (fun s=>Value.bool (fin s))=(keys.take j).map (fun s=>.bool (fin s))++[.bool (fin s)]:=by rw[bV,q,fF,iH];rfl
 rw[c];exact aP l (fun g d=>aS _ _ _ _ _ (fun c=>gR l h ap (by rw[d,c])))
end
def An(ws:List Bytes)(keys:List St)(fin:St->Bool)(tv nv sv:Value)(D:Nat)(w:World)(a:Value)(wr:World):Prop:=
 ∃j fv,a=.int .i64 (j:Nat)/\j<=keys.length/\AS ws keys fin tv nv sv fv D j w wr
theorem Qb:(prog.info? 4).map (fun i=>(i.zero,i.size,i.bytes))=some (some (.bool false),1,1):=aA
theorem Qc(ws:List Bytes)(o:Option Addr)(c:Nat)(keys:List St)(u t B fn V n:Nat)(W no:Option Addr)(d:Nat)(fin:St->Bool)(cu cv:Value)(w:World)(ci:dZ w o c ws)(ew:ws.length<=1048576)
 (b7:w.ownsRow B 325 17 (.slice (some ⟨u,0,none⟩) keys.length t) keys.length (flatS keys)) (e2:keys.length<=256) (Inv:World->Prop) (ce:∀a cF,Inv a->Below w.heap.size a cF->Inv cF) (b0:Inv w)
 (b5:∀s w',s∈keys->Inv w'->w.heap.size<=w'.heap.size->Calls prog 249 #[.agg (bx s).toArray,cu,cv] w' fun f eU=>f=.returned (.bool (fin s))/\Below w'.heap.size w' eU):
 Calls prog 248 #[.agg #[.slice (some ⟨u,0,none⟩) keys.length t,.slice no n d,.slice W fn V],.slice o ws.length c,.func (.func 249) #[] #[cu,cv]] w (F8 ws keys fin (.slice no n d) w):=by
 obtain⟨a,Z⟩:=ar ((w.alloc (.cells #[.slice (some ⟨u,0,none⟩) keys.length t,.slice no n d,.slice W fn V] 330)).alloc (.cells #[.slice none 0 0,.slice none 0 0,.slice none 0 0] 174));have ba:Below w.heap.size w a:=by rw[Z];exact aG.alloc ak _
 have bt:a.heap[w.heap.size]?=some (.cells #[.slice (some ⟨u,0,none⟩) keys.length t,.slice no n d,.slice W fn V] 330):=by rw[Z];exact(bk _ _ _ ak).trans (aB w _)
 have cG:a.heap[w.heap.size+1]?=some (.cells #[.slice none 0 0,.slice none 0 0,.slice none 0 0] 174):=by rw[Z];have:=aB (w.alloc (.cells #[.slice (some ⟨u,0,none⟩) keys.length t,.slice no n d,.slice W fn V] 330)) (.cells #[.slice none 0 0,.slice none 0 0,.slice none 0 0] 174);rwa[bj]at this
 have cx:a.heap.size=w.heap.size+2:=by rw[Z];simp
 have b4:=fun w' (q:Below a.heap.size a w')=>Qa ws o c w' ((ci.below ba).below q) ew;obtain⟨a7,bw,ae,af,R,bA,c8,c2,c6⟩:=qM b4 ba bt cG cx b7 ce b0 b5;have L:∀w',Below a.heap.size a w'->w'.cell? ⟨w.heap.size,1,none⟩=some (.slice no n d):=fun w' q=>ai 1 ((q.block _ ad).trans bt);have I:=ah L;have M:=L _ (aE _ a).drew;have bf:Below a.heap.size a a.drew:=(aE _ a).drew;have b2:Below a.heap.size a (a.drew.alloc (.cells #[.slice none 0 0,.slice none 0 0,.slice none 0 0] 174)):=bf.alloc (az _) _;obtain⟨a6,ao⟩:=aD bf b2;clear b4 ba bt cG cx b7 ce b0 b5 ci L bf b2;go_enter func248,ntmps248
 go_wp2_with(first
  |(rw[<-Z];clear Z)
  |fail)
 go_region_held3(fun w'=>w'.cell? ⟨w.heap.size,1,none⟩=some (.slice no n d))
  (first|exact M|exact ag|exact X|exact I.o _ ao.o|exact I.o _ (r.out.alloc r.out.size _)|exact(kd _ _ _ _ aR).trans fS)
  (first
    |(go_at_call 196;refine(a7.o (a.drew) a6.o).mono ?_;rintro f e ⟨⟨sv,rfl,P⟩,E⟩;have N:=aO a6.o E;have X:=I.o e N;obtain⟨l,h,rfl⟩:=bL P;have Q:=ah P;have r:=ah N;have a4:=ah E;clear P E N)
    |(go_at_call 196;refine(a7.o (a.drew.alloc (.cells #[.slice none 0 0,.slice none 0 0,.slice none 0 0] 174)) ao.o).mono ?_;rintro f e ⟨⟨sv,rfl,P⟩,E⟩;have N:=aO ao.o E;have X:=I.o e N;obtain⟨l,h,rfl⟩:=bL P;have Q:=ah P;have r:=ah N;have a4:=ah E;have J:e.heap[a.heap.size]?=some (.cells #[.slice none 0 0,.slice none 0 0,.slice none 0 0] 174):=(a4.out.block _ ak).trans (aB a.drew _);have d0:=ai 0 J;have d1:=ai 1 J;have d2:=ai 2 J;have f0:=aT J 0;have f1:=aT J 1;have f2:=aT J 2;have ag:(((e.setCell ⟨a.heap.size,0,none⟩ (.slice l ws.length h)).setCell ⟨a.heap.size,1,none⟩ (.slice no n d)).setCell ⟨a.heap.size,2,none⟩ (.slice none 0 0)).cell? ⟨w.heap.size,1,none⟩=some (.slice no n d):=(by rw[kd _ _ _ _ (fun f=>by injection f with f;have:=R.out;omega),kd _ _ _ _ (fun f=>by injection f with f;have:=R.out;omega),kd _ _ _ _ (fun f=>by injection f with f;have:=R.out;omega)];exact X);have bu:=ah J;clear P E N))
 all_goals(first
  |(obtain⟨C,x⟩:=ar (e.alloc (.cells #[.slice l ws.length h,.slice no n d,.slice none 0 0] 174))
    rw[<-x];have G:Hid (AS ws keys fin (.slice (some ⟨u,0,none⟩) keys.length t) (.slice no n d) (.slice l ws.length h) (.slice none 0 0) e.heap.size 0 w C):=ah (by have cd:=R.out;have ez:=r.out.size;have b:=r.out.alloc r.out.size (.cells #[.slice l ws.length h,.slice no n d,.slice none 0 0] 174);have dr:=(aE e.heap.size e).alloc (az _) (.cells #[.slice l ws.length h,.slice no n d,.slice none 0 0] 174);rw[x];exact⟨aO bw.o b,aR,.inr trivial,(b.block _ (ax af.out)).trans af.out,aB e _,ad,dR (aP Q.o (fun g O=>dr.block g (aF Q.o O).2)) aR,dc _ _ _ _⟩)
    have a9:Hid (C.heap[w.heap.size]?=some (.cells #[.slice (some ⟨u,0,none⟩) keys.length t,.slice no n d,.slice W fn V] 330)):=ah (by rw[x];exact((r.out.alloc r.out.size _).block _ (ax ae.out)).trans ae.out);generalize e.heap.size=D at G⊢;clear x)
  |(obtain⟨C,x⟩:=ar ((((e.setCell ⟨a.heap.size,0,none⟩ (.slice l ws.length h)).setCell ⟨a.heap.size,1,none⟩ (.slice no n d)).setCell ⟨a.heap.size,2,none⟩ (.slice none 0 0)))
    rw[<-x];have G:Hid (AS ws keys fin (.slice (some ⟨u,0,none⟩) keys.length t) (.slice no n d) (.slice l ws.length h) (.slice none 0 0) a.heap.size 0 w C):=ah (by
     have cd:=R.out;have ez:=r.out.size;have b3:∀b,b≠a.heap.size->C.heap[b]?=e.heap[b]?:=fun b q=>by rw[x,aS _ _ _ _ _ q,aS _ _ _ _ _ q,aS _ _ _ _ _ q]
     have b:=aO bw.o r.out;have c9:Below w.heap.size w C:=by rw[x];exact((b.setCell aR _).setCell aR _).setCell aR _
     have T:C.heap[a.heap.size]?=some (.cells #[.slice l ws.length h,.slice no n d,.slice none 0 0] 174):=by rw[x];exact bn _ _ 2 _ (bn _ _ 1 _ (bn _ _ 0 _ bu.out))
     have e3:C.heap.size=e.heap.size:=by rw[x];simp only[dE]
     exact⟨c9,ad,.inr trivial,(b3 _ ad).trans ((r.out.block _ (ax af.out)).trans af.out),T,ad,dR (aP Q.o (fun g O=>b3 g (fun f=>by subst f;exact gR Q.o bu.out ap O))) aR,dc _ _ _ _⟩)
    have a9:Hid (C.heap[w.heap.size]?=some (.cells #[.slice (some ⟨u,0,none⟩) keys.length t,.slice no n d,.slice W fn V] 330)):=ah (by have cd:=R.out;rw[x,aS _ _ _ _ _ ad,aS _ _ _ _ _ ad,aS _ _ _ _ _ ad];exact(r.out.block _ (ax ae.out)).trans ae.out);generalize a.heap.size=D at G⊢;clear x))
 all_goals
  (have bF:=ai 0 a9.out
   have b6:Hid (An ws keys fin (.slice (some ⟨u,0,none⟩) keys.length t) (.slice no n d) (.slice l ws.length h) D w (.int .i64 0) C):=ah ⟨0,_,rfl,aZ _,G.o⟩;have e1:∀(args:Array Value) (aa:World),(callFunc 249 args).run prog aa=.ok (.enter 249 args) aa:=fun _ _=>rfl;clear G a9 a7 a6 ao ae af Q r a4
   go_wp2
   go_loopw [18] (fun bo wr=>An ws keys fin (.slice (some ⟨u,0,none⟩) keys.length t) (.slice no n d) (.slice l ws.length h) D w bo wr) (fun bo _=>keys.length-(intOf bo).toNat)
   case atStart=>exact b6.out
   case round=>
   clear b6 bF;obtain⟨j,fv,rfl,ev,p⟩:=hrel;obtain⟨A,y,rfl⟩:=bL p.fins;by_cases bg:j<keys.length
   ·obtain⟨s,bi⟩:∃s,keys[j]?=some s:=⟨_,aH bg⟩
    obtain⟨eA,es,el,em,en⟩:=cY Qb;have b8:=aP bA.o (fun g O=>p.base.block g (aF bA.o O).2);have eE:=zZ b8 bi;obtain⟨aa,a2,bE⟩:=dF wr (.cells #[.bool false,.int .u64 0,.int .u64 0,.int .u64 0,.int .u64 0,.int .u64 0,.int .u64 0,.int .u64 0,.int .u64 0,.int .u64 0,.int .u64 0,.int .u64 0,.int .u64 0,.int .u64 0,.int .u64 0,.int .u64 0,.int .u64 0] 325);have eN:aa.there wr.heap.size 0 17:=by rw[a2];exact jt (cs:=bx (false,0)) (ty:=325) (aB wr _) (az _)
    have ch:wr.heap.size<aa.heap.size:=by rw[a2];simp
    have e4:(0:Int)<=j:=ad;have e5:(j:Int)<keys.length:=ad;obtain⟨an,bZ⟩:=ar (fin s);obtain⟨F,av⟩:=ar (wr.heap.size);have c5:Hid ((Value.slice A j y).ownBlock≠some F):=ah (fun f=>by have:=(aF p.fins f).2;omega);have c0:Hid (∀m,dU aa m wr.heap.size 0 (bx s)->AS ws keys fin (.slice (some ⟨u,0,none⟩) keys.length t) (.slice no n d) (.slice l ws.length h) (.slice A j y) D j w m/\m.rangeAt F 0 (bx s)/\F<m.heap.size):=fun m be=>⟨p.below (be.below bE (az _)),by rw[av];exact be.here,by rw[be.size,av];exact ch⟩;obtain⟨bD,bz,bC,c4⟩:=cr bi bZ bg av;clear p b8 bE ch bi bZ bg ev av;go_wp2_with(first
     |(rw[<-a2];clear a2)
     |((with_reducible apply dj (ty:=325));exact rfl;exact rfl;exact rfl;assumption;exact mY;exact rfl;exact lL)
     |(((with_reducible apply cQ (ty:=325));exact rfl;exact rfl;exact rfl;exact rfl;assumption;exact lL;exact pZ _);intro m b1;obtain⟨al,cN,cq⟩:=c0.o m b1;have a5:=ah al;have Y:=c6.o s m.drew (aX bD.o) (c8.o _ _ c2.o al.base.drew) al.base.size;rw[<-bz.o]at Y;have c7:=ah Y;have c3:=ah cN;have bB:=ah cq;clear al b1 eN eE Y cN cq)
     |fail)
    rw[<-c4.o];have L:∀w',Below m.heap.size m w'->w'.cell? ⟨D,2,none⟩=some (.slice A j y)/\w'.rangeAt F 0 (bx s):=fun w' q=>⟨ai 2 ((q.block _ (ax a5.o.box)).trans a5.o.box),gN c3.o q⟩;have I:=ah L;have M:=L _ (aE _ m).drew;have eV:Hid (∀e,Below m.heap.size m e->F<e.heap.size):=fun e q=>dn bB.o q.size;clear L;refine oQ (S:=(fun w'=>w'.cell? ⟨D,2,none⟩=some (.slice A j y)/\w'.rangeAt F 0 (bx s))) (last:=8) aA ?_;refine br (i:=0) rfl M ?_;simp only[Act.put,aM,aN,aK];refine br (i:=1) rfl M ?_;simp only[Act.put,aM,aN,aK];refine br (i:=2) rfl M ?_;simp only[Act.put,aM,aN,aK];refine xi (i:=3) (v:=.agg (bx s).toArray) rfl (pl (by rfl) _ _ rfl (F) (0) rfl (bx s) _ (fun _ bc=>bc.2) mY rfl lL) M ?_;simp only[Act.put,aM,aN,aK];refine gn (i:=4) aA rfl (fun a8 K=> ?_);go_simp;refine c7.o.mono ?_;rintro f e ⟨rfl,E⟩;have aq:Below m.heap.size m e:=(aE _ m).drew.trans E;have X:=I.o _ aq;have a0:Below m.heap.size m (e.alloc (.cells #[.bool an] 4)):=aq.alloc aq.size _;have ag:=I.o _ a0;obtain⟨c1,H⟩:=aD a0.size (a5.o.below a0);have cb:=H.o.fins;have b9:=dK e [.bool an] 4 _ rfl;have bN:w.heap.size+2<=(e.alloc (.cells #[.bool an] 4)).heap.size:=H.o.size;clear E aq a0;refine K.out _ _ (fun _=>X) (fun _=> ?_);try simp only[Act.put,aM,aN,aK]
    refine gn (i:=5) aA rfl (fun a8 K=> ?_);go_simp;refine K.out _ _ (fun _=>ag) (fun _=> ?_);try simp only[Act.put,aM,aN,aK]
    refine gn (i:=6) aA rfl (fun a8 K=> ?_);refine xY _ (by rfl) _ _ _ (by rfl) (w.heap.size+2) 4 eA _ 1 1 underlying109 es el em en rfl ad (.slice A j y) j ((keys.take j).map fun s=>.bool (fin s)) (by rfl) cb ⟨e.heap.size,0,none⟩ 1 1 [.bool an] (by rfl) (by rfl) b9 (fun z co=>by simp at co;subst co;rfl) ad bI ad bN _ rfl ?_;intro ea eb bq cc a1 ed ex;have bb:=(a1.block D (ax H.o.box) (ie H.o.fins H.o.box ap)).trans H.o.box;have cp:=ai 2 bb;have f72:=aT bb 2;have bd:bq.cell? ⟨D,2,none⟩=some (.slice A j y)/\bq.rangeAt F 0 (bx s):=⟨cp,oM ag.2 (a1.block F (by have:=bB.o;have:=c1.o;omega) (fun f=>c5.o f.symm))⟩;refine K.out _ _ (fun _=>bd) (fun _=> ?_);try simp only[Act.put,aM,aN,aK]
    refine br (i:=7) rfl bd ?_;simp only[Act.put,aM,aN,aK];refine gn (i:=8) aA rfl (fun a8 K=> ?_);go_simp;refine K.out _ _ (fun bc=>absurd rfl bc) (fun _=> ?_);try simp only[Act.put,aM,aN,aK]
    refine oP aA ?_ _;have ec:Hid (An ws keys fin (.slice (some ⟨u,0,none⟩) keys.length t) (.slice no n d) (.slice l ws.length h) D w (.int .i64 ((j:Int)+1)) (bq.setCell ⟨D,2,none⟩ (.slice (some ⟨ea,0,none⟩) (j+1) eb))):=ah ⟨j+1,_,rfl,by have:=bC.o;omega,H.o.put a1 bD.o (by rw[<-bz.o];exact cc)⟩;clear cc a1 ed ex bb cp f72 bd X ag M cb b9 bN
    go_wp2
    go_roundw
    case rel=>exact ec.out
    case measure=>have:=bC.o;simp[intOf];omega
   ·obtain rfl:j=keys.length:=ad
    have bF:=ai 0 p.box;have eZ:=ai 1 p.box;have e0:=ai 2 p.box;have d0:=ai 0 p.res;have d1:=ai 1 p.res;have d2:=ai 2 p.res;have f0:=aT p.res 0;have f1:=aT p.res 1;have f2:=aT p.res 2;have G:=ah p;clear p;go_wp2_with fail
    have ab:=G.o;have T:(((wr.setCell ⟨w.heap.size+1,0,none⟩ (.slice l ws.length h)).setCell ⟨w.heap.size+1,1,none⟩ (.slice no n d)).setCell ⟨w.heap.size+1,2,none⟩ (.slice A keys.length y)).heap[w.heap.size+1]?=some (.cells #[.slice l ws.length h,.slice no n d,.slice A keys.length y] 174):=
     bn _ _ 2 _ (bn _ _ 1 _ (bn _ _ 0 _ ab.res))
    obtain⟨a3,bl⟩:=ar ((((wr.setCell ⟨w.heap.size+1,0,none⟩ (.slice l ws.length h)).setCell ⟨w.heap.size+1,1,none⟩ (.slice no n d)).setCell ⟨w.heap.size+1,2,none⟩ (.slice A keys.length y)));have eg:∀b,b≠w.heap.size+1->a3.heap[b]?=wr.heap[b]?:=fun b q=>by rw[bl,aS _ _ _ _ _ q,aS _ _ _ _ _ q,aS _ _ _ _ _ q]
    have ek:Below w.heap.size w a3:=by rw[bl];exact((ab.base.setCell ak _).setCell ak _).setCell ak _
    have cl:∀{B f size n:Nat} {v:Value} {xs:List Value},f≠174->wr.ownsRow B f size v n xs->a3.ownsRow B f size v n xs:=fun eo ca=>aP ca (fun g O=>eg g (fun ds=>gR ca ab.res eo (by rw[O,ds])));rw[<-bl]at T⊢;have Y:=ab.fins;rw[kH]at Y;have er:F8 ws keys fin (.slice no n d) w (.returned (.agg #[.slice l ws.length h,.slice no n d,.slice A keys.length y])) a3:=
     ⟨⟨_,_,rfl,dR (cl ap ab.syms) (rP _ 2),dR (cl ap Y) (rP _ 2)⟩,ek⟩
    have eB:=ai 0 T;have eC:=ai 1 T;have eD:=ai 2 T;exact cg (v:=.agg #[.slice l ws.length h,.slice no n d,.slice A keys.length y]) (by simp[results,results248,go_sem,eB,eC,eD,rS]) rfl er)
end Go.Proofs.YtnadadbndcdolaaGreatDoor
