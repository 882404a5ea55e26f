import Derived.Test.YtbacloblanpghaaGreatDoorQbp
import Derived.Test.YtbacloblanpghaaGreatDoorQbq
set_option linter.unusedVariables false
set_option linter.unusedSimpArgs false
set_option maxRecDepth 100000
set_option maxHeartbeats 0
namespace Go.Proofs.YtbacloblanpghaaGreatDoor
open Go.RowKit Tryz
theorem Ow(x:Nat)(w:World):(binOp BinOp.neq 258 (.agg (setRow x).toArray) (.agg #[.int .u64 0,.int .u64 0,.int .u64 0,.int .u64 0,.int .u64 0,.int .u64 0,.int .u64 0,.int .u64 0,.int .u64 0,.int .u64 0,.int .u64 0,.int .u64 0,.int .u64 0,.int .u64 0,.int .u64 0,.int .u64 0])).run prog w=.ok (.bool (!(x==0))) w:=by
 cases x with
 |zero=>kernel_rfl
 |succ y=>kernel_rfl
theorem D7{P:Program}{e:Array Oper}{rest:List Oper}{c:Oper}{a:Act}{w:World}{Q:Exit->Act->World->Prop}(n:Region.wanted c (yielded e a.tmps)=true)(ty:TypeId)(x:Operand)(l:c.op=.load ty x)
 (b o:Nat) (p:a.eval x=.pointer (some ⟨b,o,none⟩)) (cs:List Value) (d:TypeDesc) (h:w.rangeAt b o cs)
 (m:P.underlying ty=some d) (i:d.isRow=true) (j:(P.info? ty).map (·.size)=some cs.length)
 (f:wpList P e Q rest (a.put c.dst (.agg cs.toArray)) w):wpList P e Q (c::rest) a w:=
 wpList_step fun q g=>by rw[au n];exact wp_load_mid ty x l b o p cs d h m i j (g _ _ f)
theorem Ox(s:St)(b:Bool)(last p c:Nat)(w:World)(f:iS s)(u:last<18446744073709551616)(l:w.heap[p]?=some (.cells #[.bool b] 4))(x:w.rangeAt c 0 (setRow last))(z:c<w.heap.size):
 Calls prog 190 #[.agg (bk s).toArray,.pointer (some ⟨p,0,none⟩),.pointer (some ⟨c,0,none⟩)] w fun i w'=>i=.returned (.bool ((s.1&&b)|| !(s.2&&&last==0)))/\Below w.heap.size w w':=by
 obtain⟨w1,a⟩:=aj (w.alloc (.cells (bk s).toArray 264));have d:Below w.heap.size w w1:=by rw[a];exact az
 have o:w1.heap[w.heap.size]?=some (.cells (bk s).toArray 264):=by rw[a];exact aC w _
 have y:w1.cell? ⟨w.heap.size,0,none⟩=some (.bool s.1):=ai 0 o;have D:=ai 0 ((d.block _ (aL l)).trans l);have B:=yJ o;have E:w1.rangeAt c 0 (setRow last):=og x (d.block _ z);unfold iS at f;obtain⟨e,m⟩:=s;simp only at y B f⊢;have t:=yc m last w1 f u;have A:=fun w'=>Ow (m&&&last) w';obtain⟨r,g⟩:=aE t d;clear d o x l f u t;obtain⟨q,v⟩:=aj (!(m&&&last==0));rw[<-v]at A⊢;clear v;by_cases j:e=true/\b=true
 ·obtain⟨rfl,rfl⟩:=j
  go_enter func190,ntmps190
  go_wp2_with(first
   |(rw[<-a];clear a)
   |fail)
  go_ret;exact⟨ak,g.out⟩
 ·have n:(e&&b)=false:=by cases e<;>cases b<;>simp_all
  rw[n];simp only[mW];cases e with
  |false=>
   clear j n;go_enter func190,ntmps190
   go_wp2_with(first
    |(rw[<-a];clear a)
    |((with_reducible apply D7 (ty:=258));exact rfl;exact rfl;exact rfl;assumption;exact eI;exact rfl;exact cK)
    |fail)
   refine r.o.mono ?_;rintro i C ⟨rfl,h⟩
   go_wp2
   go_ret;exact⟨rfl,aD g.out h⟩
  |true=>
   obtain rfl:b=false:=by cases b<;>simp_all
   clear j n;go_enter func190,ntmps190
   go_wp2_with(first
    |(rw[<-a];clear a)
    |((with_reducible apply D7 (ty:=258));exact rfl;exact rfl;exact rfl;assumption;exact eI;exact rfl;exact cK)
    |fail)
   refine r.o.mono ?_;rintro i C ⟨rfl,h⟩
   go_wp2
   go_ret;exact⟨rfl,aD g.out h⟩
theorem Oz(ws:List Bytes)(o:Option Addr)(c:Nat)(w:World)(b:dk w o c ws)(L:1<=ws.length)(N:ws.length<=1048576):
 Calls prog 127 #[.slice o ws.length c] w fun y w'=>(∃v,y=.returned v/\cA w' w.heap.size v ws)/\Below w.heap.size w w':=by
 obtain⟨g,d,rfl,M,q⟩:=b.2.2.2 ad;have O:=b.2.1;have A:=b.2.2.1;unfold maxLen at A;have f:∀j u,(ws.map encStr)[j]?=some u->(w.alloc (.cells #[] 9)).cell? ((⟨g,d,none⟩:Addr).add j)=some u:=by
  intro j u D;have z:(⟨g,d,none⟩:Addr).add j=⟨g,d+j,none⟩:=by
   by_cases p:j=0
   ·subst p;simp[Addr.add]
   ·simp[Addr.add,p]
  rw[z];exact Lib.cell?_alloc_some _ (q j u D)
 have l:∀u∈ws.map encStr,u.oneCell'=true:=by intro u F;obtain⟨n,_,rfl⟩:=kO.1 F;rfl
 obtain⟨J,C,G,H,I⟩:=cL oG;have i:(ws.map encStr).length=ws.length*1:=ak;have Q:∀(w:World) (a:Option Addr) (n c n' e:Nat),(binOp .eql 66 (.slice a n c) (.slice none n' e)).run prog w=.ok (.bool a.isNone) w:=fun w a n c n' e=>Fw w _ _ a n c n' e jE;obtain⟨xs,m⟩:=aj (ws.map encStr);rw[<-m]at f l i;obtain⟨x,s,r,t⟩:=cI m i f l;clear b q m i f l;go_enter func127,ntmps127
 go_wp2_with(first
  |(at_builtin;go_must (refine gY _ rfl _ _ 66 rfl w.heap.size 9 J (.string ⟨#[]⟩) 1 16 jE C G H I rfl aw _ _ _ rfl (World.ownsRow_made w #[] 0 (aB _) (aK _) rfl) ⟨g,d,none⟩ ws.length c xs rfl s.o r.o t.o bN ad ak ?_);intro K R E B P)
  |go_in)
 go_ret;refine⟨⟨K,rfl,?_⟩,?_⟩
 ·unfold cA;rw[<-x.o];simpa using E
 ·exact az.grown B ak (by intro k h;injection h with h;subst h;exact aB _)
def D9(ws:List Bytes)(keys:List St)(fin:St->Bool)(nv:Value)(w:World)(a:Ending)(w':World):Prop:=
 (∃sv fv,a=.returned (.agg #[sv,nv,fv])/\cA w' w.heap.size sv ws/\w'.ownsRow w.heap.size 4 1 fv keys.length (keys.map fun s=>.bool (fin s)))/\Below w.heap.size w w'
structure AS(ws:List Bytes)(keys:List St)(fin:St->Bool)(tv nv sv fv:Value)(D j:Nat)(w wr:World):Prop where
 base:Below w.heap.size w wr
 size:w.heap.size+2<=wr.heap.size
 tour:wr.heap[w.heap.size]?=some (.cells #[tv,nv,fv] 271)∨True
 res:wr.heap[w.heap.size+1]?=some (.cells #[.slice none 0 0,.slice none 0 0,.slice none 0 0] 143)
 box:wr.heap[D]?=some (.cells #[sv,nv,fv] 143)
 ne:w.heap.size+2<=D
 syms:wr.ownsRow (w.heap.size+2) 9 1 sv ws.length (ws.map encStr)
 fins:wr.ownsRow (w.heap.size+2) 4 1 fv j ((keys.take j).map fun s=>.bool (fin s))
section
variable{ws:List Bytes} {keys:List St} {fin:St->Bool} {tv nv sv fv:Value} {D j:Nat} {w wr wq:World}
theorem AS.below(a:AS ws keys fin tv nv sv fv D j w wr)(b:Below wr.heap.size wr wq):AS ws keys fin tv nv sv fv D j w wq:=
 ⟨aD a.base ((b.mono (aB _))),aR a.size b.size,.inr trivial,(b.block _ (aL a.res)).trans a.res,(b.block _ (aL a.box)).trans a.box,a.ne,aY a.syms (fun g c=>b.block g (aV a.syms c).2),aY a.fins (fun g c=>b.block g (aV a.fins c).2)⟩
theorem AS.put(a:AS ws keys fin tv nv sv fv D j w wr){f:World}(e:wr.grownBy f fv.ownBlock){i gc:Nat}{s:St}(q:keys[j]?=some s)(l:f.ownsRow (w.heap.size+2) 4 1 (.slice (some ⟨i,0,none⟩) (j+1) gc) (j+1) ((keys.take j).map (fun s=>.bool (fin s))++[.bool (fin s)])):
 AS ws keys fin tv nv sv (.slice (some ⟨i,0,none⟩) (j+1) gc) D (j+1) w (f.setCell ⟨D,2,none⟩ (.slice (some ⟨i,0,none⟩) (j+1) gc)):=by
 have r:=a.size;have p:=a.ne;have h:=(e.block D (aL a.box) (gT a.fins a.box aw)).trans a.box;have n:=(e.block _ (aL a.res) (gT a.fins a.res aw)).trans a.res;have o:Below w.heap.size w f:=od ad a.base e (fun b c=>by have:=(aV a.fins c).1;omega);have m:=aY a.syms (fun g d=>e.block g (aV a.syms d).2 (oe a.syms a.fins aw g d));refine⟨o.setCell aO _,by rw[dK];exact aR r e.size,.inr trivial,(aX _ _ _ _ _ ad).trans n,bL f D 2 _ h,p,aY m (fun g d=>aX _ _ _ _ _ (fun c=>iD m h aw (by rw[d,c]))),?_⟩;have c:(keys.take (j+1)).map (fun s=>Value.bool (fin s))=(keys.take j).map (fun s=>.bool (fin s))++[.bool (fin s)]:=by rw[bG,q,dR,fd];rfl
 rw[c];exact aY l (fun g d=>aX _ _ _ _ _ (fun c=>iD l h aw (by rw[d,c])))
end
def yL(ws:List Bytes)(keys:List St)(fin:St->Bool)(tv nv sv:Value)(D:Nat)(w:World)(a:Value)(wr:World):Prop:=
 ∃j fv,a=.int .i64 (j:Nat)/\j<=keys.length/\AS ws keys fin tv nv sv fv D j w wr
theorem OA:(prog.info? 4).map (fun i=>(i.zero,i.size,i.bytes))=some (some (.bool false),1,1):=ay
theorem OC(ws:List Bytes)(o:Option Addr)(c:Nat)(keys:List St)(t r B fn V n:Nat)(W no:Option Addr)(a:Nat)(fin:St->Bool)(c1 c2:Value)(w:World)(cu:dk w o c ws)(el:1<=ws.length)(e0:ws.length<=1048576)
 (b9:w.ownsRow B 264 17 (.slice (some ⟨t,0,none⟩) keys.length r) keys.length (flatS keys)) (fo:keys.length<=256) (Inv:World->Prop) (cp:∀w1 c4,Inv w1->Below w.heap.size w1 c4->Inv c4) (b2:Inv w)
 (b7:∀s w',s∈keys->Inv w'->w.heap.size<=w'.heap.size->Calls prog 190 #[.agg (bk s).toArray,c1,c2] w' fun e e9=>e=.returned (.bool (fin s))/\Below w'.heap.size w' e9):
 Calls prog 189 #[.agg #[.slice (some ⟨t,0,none⟩) keys.length r,.slice no n a,.slice W fn V],.slice o ws.length c,.func (.func 190) #[] #[c1,c2]] w (D9 ws keys fin (.slice no n a) w):=by
 obtain⟨w1,Z⟩:=aj ((w.alloc (.cells #[.slice (some ⟨t,0,none⟩) keys.length r,.slice no n a,.slice W fn V] 271)).alloc (.cells #[.slice none 0 0,.slice none 0 0,.slice none 0 0] 143));have ba:Below w.heap.size w w1:=by rw[Z];exact az.alloc ak _
 have bq:w1.heap[w.heap.size]?=some (.cells #[.slice (some ⟨t,0,none⟩) keys.length r,.slice no n a,.slice W fn V] 271):=by rw[Z];exact(bH _ _ _ ak).trans (aC w _)
 have c5:w1.heap[w.heap.size+1]?=some (.cells #[.slice none 0 0,.slice none 0 0,.slice none 0 0] 143):=by rw[Z];have:=aC (w.alloc (.cells #[.slice (some ⟨t,0,none⟩) keys.length r,.slice no n a,.slice W fn V] 271)) (.cells #[.slice none 0 0,.slice none 0 0,.slice none 0 0] 143);rwa[bI]at this
 have c3:w1.heap.size=w.heap.size+2:=by rw[Z];simp
 have b6:=fun w' (p:Below w1.heap.size w1 w')=>Oz ws o c w' ((cu.below ba).below p) el e0;obtain⟨a6,bu,ab,ae,R,bz,d1,c9,dz⟩:=CV b6 ba bq c5 c3 b9 cp b2 b7;have K:∀w',Below w1.heap.size w1 w'->w'.cell? ⟨w.heap.size,1,none⟩=some (.slice no n a):=fun w' p=>ai 1 ((p.block _ ad).trans bq);have H:=ah K;have L:=K _ (aA _ w1).drew;have bf:Below w1.heap.size w1 w1.drew:=(aA _ w1).drew;have b4:Below w1.heap.size w1 (w1.drew.alloc (.cells #[.slice none 0 0,.slice none 0 0,.slice none 0 0] 143)):=bf.alloc (aB _) _;obtain⟨a5,ao⟩:=aE bf b4;clear b6 ba bq c5 c3 b9 cp b2 b7 cu K bf b4;go_enter func189,ntmps189
 go_wp2_with(first
  |(rw[<-Z];clear Z)
  |fail)
 go_region_held3(fun w'=>w'.cell? ⟨w.heap.size,1,none⟩=some (.slice no n a))
  (first|exact L|exact af|exact X|exact H.o _ ao.o|exact H.o _ (q.out.alloc q.out.size _)|exact(kj _ _ _ _ aO).trans dQ)
  (first
    |(go_at_call 127;refine(a6.o (w1.drew) a5.o).mono ?_;rintro e d ⟨⟨sv,rfl,O⟩,C⟩;have M:=aD a5.o C;have X:=H.o d M;obtain⟨h,f,rfl⟩:=cC O;have Q:=ah O;have q:=ah M;have a3:=ah C;clear O C M)
    |(go_at_call 127;refine(a6.o (w1.drew.alloc (.cells #[.slice none 0 0,.slice none 0 0,.slice none 0 0] 143)) ao.o).mono ?_;rintro e d ⟨⟨sv,rfl,O⟩,C⟩;have M:=aD ao.o C;have X:=H.o d M;obtain⟨h,f,rfl⟩:=cC O;have Q:=ah O;have q:=ah M;have a3:=ah C;have I:d.heap[w1.heap.size]?=some (.cells #[.slice none 0 0,.slice none 0 0,.slice none 0 0] 143):=(a3.out.block _ ak).trans (aC w1.drew _);have d4:=ai 0 I;have d5:=ai 1 I;have d6:=ai 2 I;have d8:=aQ I 0;have ea:=aQ I 1;have eb:=aQ I 2;have af:(((d.setCell ⟨w1.heap.size,0,none⟩ (.slice h ws.length f)).setCell ⟨w1.heap.size,1,none⟩ (.slice no n a)).setCell ⟨w1.heap.size,2,none⟩ (.slice none 0 0)).cell? ⟨w.heap.size,1,none⟩=some (.slice no n a):=(by rw[kj _ _ _ _ (fun e=>by injection e with e;have:=R.out;omega),kj _ _ _ _ (fun e=>by injection e with e;have:=R.out;omega),kj _ _ _ _ (fun e=>by injection e with e;have:=R.out;omega)];exact X);have bt:=ah I;clear O C M))
 all_goals(first
  |(obtain⟨A,u⟩:=aj (d.alloc (.cells #[.slice h ws.length f,.slice no n a,.slice none 0 0] 143))
    rw[<-u];have F:Hid (AS ws keys fin (.slice (some ⟨t,0,none⟩) keys.length r) (.slice no n a) (.slice h ws.length f) (.slice none 0 0) d.heap.size 0 w A):=ah (by have co:=R.out;have e2:=q.out.size;have b:=q.out.alloc q.out.size (.cells #[.slice h ws.length f,.slice no n a,.slice none 0 0] 143);have d3:=(aA d.heap.size d).alloc (aB _) (.cells #[.slice h ws.length f,.slice no n a,.slice none 0 0] 143);rw[u];exact⟨aD bu.o b,aO,.inr trivial,(b.block _ (aL ae.out)).trans ae.out,aC d _,ad,fY (aY Q.o (fun g N=>d3.block g (aV Q.o N).2)) aO,cR _ _ _ _⟩)
    have a9:Hid (A.heap[w.heap.size]?=some (.cells #[.slice (some ⟨t,0,none⟩) keys.length r,.slice no n a,.slice W fn V] 271)):=ah (by rw[u];exact((q.out.alloc q.out.size _).block _ (aL ab.out)).trans ab.out);generalize d.heap.size=D at F⊢;clear u)
  |(obtain⟨A,u⟩:=aj ((((d.setCell ⟨w1.heap.size,0,none⟩ (.slice h ws.length f)).setCell ⟨w1.heap.size,1,none⟩ (.slice no n a)).setCell ⟨w1.heap.size,2,none⟩ (.slice none 0 0)))
    rw[<-u];have F:Hid (AS ws keys fin (.slice (some ⟨t,0,none⟩) keys.length r) (.slice no n a) (.slice h ws.length f) (.slice none 0 0) w1.heap.size 0 w A):=ah (by
     have co:=R.out;have e2:=q.out.size;have b5:∀b,b≠w1.heap.size->A.heap[b]?=d.heap[b]?:=fun b p=>by rw[u,aX _ _ _ _ _ p,aX _ _ _ _ _ p,aX _ _ _ _ _ p]
     have b:=aD bu.o q.out;have d2:Below w.heap.size w A:=by rw[u];exact((b.setCell aO _).setCell aO _).setCell aO _
     have T:A.heap[w1.heap.size]?=some (.cells #[.slice h ws.length f,.slice no n a,.slice none 0 0] 143):=by rw[u];exact bL _ _ 2 _ (bL _ _ 1 _ (bL _ _ 0 _ bt.out))
     have fr:A.heap.size=d.heap.size:=by rw[u];simp only[dK]
     exact⟨d2,ad,.inr trivial,(b5 _ ad).trans ((q.out.block _ (aL ae.out)).trans ae.out),T,ad,fY (aY Q.o (fun g N=>b5 g (fun e=>by subst e;exact iD Q.o bt.out aw N))) aO,cR _ _ _ _⟩)
    have a9:Hid (A.heap[w.heap.size]?=some (.cells #[.slice (some ⟨t,0,none⟩) keys.length r,.slice no n a,.slice W fn V] 271)):=ah (by have co:=R.out;rw[u,aX _ _ _ _ _ ad,aX _ _ _ _ _ ad,aX _ _ _ _ _ ad];exact(q.out.block _ (aL ab.out)).trans ab.out);generalize w1.heap.size=D at F⊢;clear u))
 all_goals
  (have bZ:=ai 0 a9.out
   have b8:Hid (yL ws keys fin (.slice (some ⟨t,0,none⟩) keys.length r) (.slice no n a) (.slice h ws.length f) D w (.int .i64 0) A):=ah ⟨0,_,rfl,aK _,F.o⟩;have fl:∀(args:Array Value) (P:World),(callFunc 190 args).run prog P=.ok (.enter 190 args) P:=fun _ _=>rfl;clear F a9 a6 a5 ao ab ae Q q a3
   go_wp2
   go_loopw [18] (fun bm wr=>yL ws keys fin (.slice (some ⟨t,0,none⟩) keys.length r) (.slice no n a) (.slice h ws.length f) D w bm wr) (fun bm _=>keys.length-(intOf bm).toNat)
   case atStart=>exact b8.out
   case round=>
   clear b8 bZ;obtain⟨j,fv,rfl,eZ,m⟩:=hrel;obtain⟨y,x,rfl⟩:=cC m.fins;by_cases bg:j<keys.length
   ·obtain⟨s,bi⟩:∃s,keys[j]?=some s:=⟨_,aF bg⟩
    obtain⟨e3,eN,ex,ez,eB⟩:=cL OA;have cc:=aY bz.o (fun g N=>m.base.block g (aV bz.o N).2);have e7:=yC cc bi;obtain⟨P,ag⟩:=aj (wr.alloc (.cells #[.bool false,.int .u64 0,.int .u64 0,.int .u64 0,.int .u64 0,.int .u64 0,.int .u64 0,.int .u64 0,.int .u64 0,.int .u64 0,.int .u64 0,.int .u64 0,.int .u64 0,.int .u64 0,.int .u64 0,.int .u64 0,.int .u64 0] 264));have bF:Below wr.heap.size wr P:=by rw[ag];exact az
    have e8:P.there wr.heap.size 0 17:=by rw[ag];exact mI (cs:=bk (false,0)) (ty:=264) (aC wr _) (aB _)
    have cq:wr.heap.size<P.heap.size:=by rw[ag];simp
    have fs:(0:Int)<=j:=ad;have fu:(j:Int)<keys.length:=ad;obtain⟨an,b1⟩:=aj (fin s);obtain⟨E,av⟩:=aj (wr.heap.size);have du:Hid ((Value.slice y j x).ownBlock≠some E):=ah (fun e=>by have:=(aV m.fins e).2;omega);have c7:Hid (∀l,eX P l wr.heap.size 0 (bk s)->AS ws keys fin (.slice (some ⟨t,0,none⟩) keys.length r) (.slice no n a) (.slice h ws.length f) (.slice y j x) D j w l/\l.rangeAt E 0 (bk s)/\E<l.heap.size):=fun l be=>⟨m.below (be.below bF (aB _)),by rw[av];exact be.here,by rw[be.size,av];exact cq⟩;obtain⟨bE,bw,bB,ds⟩:=cI bi b1 bg av;clear m cc bF cq bi b1 bg eZ av;go_wp2_with(first
     |(rw[<-ag];clear ag)
     |((with_reducible apply dL (ty:=264));exact rfl;exact rfl;exact rfl;assumption;exact mg;exact rfl;exact ld)
     |(((with_reducible apply cT (ty:=264));exact rfl;exact rfl;exact rfl;exact rfl;assumption;exact ld;exact pw _);intro l b3;obtain⟨al,c6,c0⟩:=c7.o l b3;have a4:=ah al;have Y:=dz.o s l.drew (aU bE.o) (d1.o _ _ c9.o al.base.drew) al.base.size;rw[<-bw.o]at Y;have d0:=ah Y;have dr:=ah c6;have bA:=ah c0;clear al b3 e8 e7 Y c6 c0)
     |fail)
    rw[<-ds.o];have K:∀w',Below l.heap.size l w'->w'.cell? ⟨D,2,none⟩=some (.slice y j x)/\w'.rangeAt E 0 (bk s):=fun w' p=>⟨ai 2 ((p.block _ (aL a4.o.box)).trans a4.o.box),gA dr.o p⟩;have H:=ah K;have L:=K _ (aA _ l).drew;have fb:Hid (∀d,Below l.heap.size l d->E<d.heap.size):=fun d p=>eR bA.o p.size;clear K;refine sw (S:=(fun w'=>w'.cell? ⟨D,2,none⟩=some (.slice y j x)/\w'.rangeAt E 0 (bk s))) (last:=8) ay ?_;refine dF (i:=0) rfl L ?_;simp only[Act.put,bp,bs,bj];refine dF (i:=1) rfl L ?_;simp only[Act.put,bp,bs,bj];refine dF (i:=2) rfl L ?_;simp only[Act.put,bp,bs,bj];refine Ea (i:=3) (v:=.agg (bk s).toArray) rfl (qV (by rfl) _ _ rfl (E) (0) rfl (bk s) _ (fun _ bc=>bc.2) mg rfl ld) L ?_;simp only[Act.put,bp,bs,bj];refine g6 (i:=4) ay rfl (fun a7 J=> ?_);go_simp;refine d0.o.mono ?_;rintro e d ⟨rfl,C⟩;have aq:Below l.heap.size l d:=(aA _ l).drew.trans C;have X:=H.o _ aq;have a0:Below l.heap.size l (d.alloc (.cells #[.bool an] 4)):=aq.alloc aq.size _;have af:=H.o _ a0;obtain⟨c8,G⟩:=aE a0.size (a4.o.below a0);have ci:=G.o.fins;have ce:=dt d [.bool an] 4 _ rfl;have b0:w.heap.size+2<=(d.alloc (.cells #[.bool an] 4)).heap.size:=G.o.size;clear C aq a0;refine J.out _ _ (fun _=>X) (fun _=> ?_);try simp only[Act.put,bp,bs,bj]
    refine g6 (i:=5) ay rfl (fun a7 J=> ?_);go_simp;refine J.out _ _ (fun _=>af) (fun _=> ?_);try simp only[Act.put,bp,bs,bj]
    refine g6 (i:=6) ay rfl (fun a7 J=> ?_);refine pO _ (by rfl) _ _ _ (by rfl) (w.heap.size+2) 4 e3 _ 1 1 underlying47 eN ex ez eB rfl ad (.slice y j x) j ((keys.take j).map fun s=>.bool (fin s)) (by rfl) ci ⟨d.heap.size,0,none⟩ 1 1 [.bool an] (by rfl) (by rfl) ce (fun z cG=>by simp at cG;subst cG;rfl) ad bN ad b0 _ rfl ?_;intro ed eg bo cl a1 en e1;have bb:=(a1.block D (aL G.o.box) (gT G.o.fins G.o.box aw)).trans G.o.box;have cN:=ai 2 bb;have ec:=aQ bb 2;have bd:bo.cell? ⟨D,2,none⟩=some (.slice y j x)/\bo.rangeAt E 0 (bk s):=⟨cN,og af.2 (a1.block E (by have:=bA.o;have:=c8.o;omega) (fun e=>du.o e.symm))⟩;refine J.out _ _ (fun _=>bd) (fun _=> ?_);try simp only[Act.put,bp,bs,bj]
    refine dF (i:=7) rfl bd ?_;simp only[Act.put,bp,bs,bj];refine g6 (i:=8) ay rfl (fun a7 J=> ?_);go_simp;refine J.out _ _ (fun bc=>absurd rfl bc) (fun _=> ?_);try simp only[Act.put,bp,bs,bj]
    refine su ay ?_ _;have em:Hid (yL ws keys fin (.slice (some ⟨t,0,none⟩) keys.length r) (.slice no n a) (.slice h ws.length f) D w (.int .i64 ((j:Int)+1)) (bo.setCell ⟨D,2,none⟩ (.slice (some ⟨ed,0,none⟩) (j+1) eg))):=ah ⟨j+1,_,rfl,by have:=bB.o;omega,G.o.put a1 bE.o (by rw[<-bw.o];exact cl)⟩;clear cl a1 en e1 bb cN ec bd X af L ci ce b0
    go_wp2
    go_roundw
    case rel=>exact em.out
    case measure=>have:=bB.o;simp[intOf];omega
   ·obtain rfl:j=keys.length:=ad
    have bZ:=ai 0 m.box;have fc:=ai 1 m.box;have fg:=ai 2 m.box;have d4:=ai 0 m.res;have d5:=ai 1 m.res;have d6:=ai 2 m.res;have d8:=aQ m.res 0;have ea:=aQ m.res 1;have eb:=aQ m.res 2;have F:=ah m;clear m;go_wp2_with fail
    have aa:=F.o;have T:(((wr.setCell ⟨w.heap.size+1,0,none⟩ (.slice h ws.length f)).setCell ⟨w.heap.size+1,1,none⟩ (.slice no n a)).setCell ⟨w.heap.size+1,2,none⟩ (.slice y keys.length x)).heap[w.heap.size+1]?=some (.cells #[.slice h ws.length f,.slice no n a,.slice y keys.length x] 143):=
     bL _ _ 2 _ (bL _ _ 1 _ (bL _ _ 0 _ aa.res))
    obtain⟨a2,bl⟩:=aj ((((wr.setCell ⟨w.heap.size+1,0,none⟩ (.slice h ws.length f)).setCell ⟨w.heap.size+1,1,none⟩ (.slice no n a)).setCell ⟨w.heap.size+1,2,none⟩ (.slice y keys.length x)));have er:∀b,b≠w.heap.size+1->a2.heap[b]?=wr.heap[b]?:=fun b p=>by rw[bl,aX _ _ _ _ _ p,aX _ _ _ _ _ p,aX _ _ _ _ _ p]
    have es:Below w.heap.size w a2:=by rw[bl];exact((aa.base.setCell ak _).setCell ak _).setCell ak _
    have cx:∀{B e size n:Nat} {v:Value} {xs:List Value},e≠143->wr.ownsRow B e size v n xs->a2.ownsRow B e size v n xs:=fun eD ch=>aY ch (fun g N=>er g (fun d7=>iD ch aa.res eD (by rw[N,d7])));rw[<-bl]at T⊢;have Y:=aa.fins;rw[pH]at Y;have eE:D9 ws keys fin (.slice no n a) w (.returned (.agg #[.slice h ws.length f,.slice no n a,.slice y keys.length x])) a2:=
     ⟨⟨_,_,rfl,fY (cx aw aa.syms) (qP _ 2),fY (cx aw Y) (qP _ 2)⟩,es⟩
    have e4:=ai 0 T;have e5:=ai 1 T;have e6:=ai 2 T;exact bS (v:=.agg #[.slice h ws.length f,.slice no n a,.slice y keys.length x]) (by simp[results,results189,go_sem,e4,e5,e6,th]) rfl eE)
structure gU(W0:World)(l:List ar)(ws:List Bytes)(no:Option Addr)(nc SB:Nat)(so:Option Addr)(sc k q:Nat)(w:World):Prop where
 base:Below W0.heap.size W0 w
 size:SB+4<=w.heap.size
 lo:W0.heap.size+2<=SB
 rb:w.heap[W0.heap.size]?=some (.cells #[.slice no l.length nc] 65)
 res:w.heap[W0.heap.size+1]?=some (.cells #[.slice none 0 0,.slice none 0 0,.slice none 0 0] 143)
 sb:w.heap[SB]?=some (.cells #[.slice so ws.length sc] 66)
 ob:w.heap[SB+2]?=some (.cells #[.slice (some ⟨SB+1,0,none⟩) ws.length ws.length] 257)
 words:cA w W0.heap.size (.slice so ws.length sc) ws
 wlt:∀g,(Value.slice so ws.length sc).ownBlock=some g->g<SB
 of_:∀i x,ws[i]?=some x->w.rangeAt (SB+1) (i*16) (setRow (ofN l x k))/\w.there (SB+1) (i*16) 16
 last:w.rangeAt (SB+3) 0 (setRow q)/\w.there (SB+3) 0 16
theorem Eb{w w':World}{b o n:Nat}(d:w.there b o n)(c:w'.heap[b]?=w.heap[b]?):w'.there b o n:=fun j g=>by obtain⟨e,f⟩:=d j g;exact⟨by rw[dB (a:=⟨b,o+j,none⟩) c];exact e,by rw[m8 (a:=⟨b,o+j,none⟩) c];exact f⟩
section
variable{W0 w wq:World} {l:List ar} {ws:List Bytes} {no so:Option Addr} {nc SB sc k q:Nat}
theorem gU.below(a:gU W0 l ws no nc SB so sc k q w)(b:Below w.heap.size w wq):gU W0 l ws no nc SB so sc k q wq:=by
 have e:=a.size;exact⟨a.base.trans (b.mono a.base.size),aR e b.size,a.lo,(b.block _ (aL a.rb)).trans a.rb,(b.block _ (aL a.res)).trans a.res,(b.block _ (aL a.sb)).trans a.sb,(b.block _ (aL a.ob)).trans a.ob,aY a.words (fun g d=>b.block g (aV a.words d).2),a.wlt,
  fun i x c=>⟨gA (a.of_ i x c).1 b,gn (a.of_ i x c).2 b⟩,⟨gA a.last.1 b,gn a.last.2 b⟩⟩
theorem gU.skip(a:gU W0 l ws no nc SB so sc k q w){n:ar}(d:l[k]?=some n)(e:n.op≠2):gU W0 l ws no nc SB so sc (k+1) q w:=
 ⟨a.base,a.size,a.lo,a.rb,a.res,a.sb,a.ob,a.words,a.wlt,fun i x f=>by
   have b:ofN l x (k+1)=ofN l x k:=by simp only[ofN,d];exact ap (fun c=>e c.1)
   rw[b];exact a.of_ i x f,a.last⟩
theorem gU.setOf(a:gU W0 l ws no nc SB so sc k q w)(o:qv ws){i:Nat}{n:ar}(m:l[k]?=some n)(u:n.op=2)(h:ws[i]?=some n.sym)(b:eX w wq (SB+1) (i*16) (setRow (ofN l n.sym k|||dV [k]))):
 gU W0 l ws no nc SB so sc (k+1) q wq:=by
 have v:=a.size;have s:=a.lo;refine⟨b.below a.base ad,by rw[b.size];exact v,s,(b.block _ ad).trans a.rb,(b.block _ ad).trans a.res,(b.block _ ad).trans a.sb,(b.block _ ad).trans a.ob,
  aY a.words (fun g p=>b.block g (by have:=a.wlt g p;omega)),a.wlt,fun j x d=> ?_,og a.last.1 (b.block _ ad),Eb a.last.2 (b.block _ ad)⟩
 refine⟨?_,b.there (a.of_ j x d).2⟩;by_cases r:j=i
 ·subst r
  rw[h]at d;injection d with d
  subst d;have f:ofN l n.sym (k+1)=ofN l n.sym k|||dV [k]:=by simp only[ofN,m];exact au ⟨u,trivial⟩
  rw[f];exact b.here
 ·have t:n.sym≠x:=by
   rcases ow j i with e|e
   ·exact(uW o e d h).2.symm
   ·exact(uW o (show i<j by omega) h d).2
  have f:ofN l x (k+1)=ofN l x k:=by simp only[ofN,m];exact ap (fun c=>t c.2)
  rw[f];refine b.range (a.of_ j x d).1 (.inr ?_);rw[ju,ju];rcases ow j i with e|e
  ·left;omega
  ·right;omega
theorem gU.setLast(a:gU W0 l ws no nc SB so sc k q w){d:Nat}(b:eX w wq (SB+3) 0 (setRow d)):gU W0 l ws no nc SB so sc k d wq:=by
 have h:=a.size;have f:=a.lo;exact⟨b.below a.base ad,by rw[b.size];exact h,f,(b.block _ ad).trans a.rb,(b.block _ ad).trans a.res,(b.block _ ad).trans a.sb,(b.block _ ad).trans a.ob,
  aY a.words (fun g e=>b.block g (by have:=a.wlt g e;omega)),a.wlt,fun j x c=>⟨og (a.of_ j x c).1 (b.block _ ad),Eb (a.of_ j x c).2 (b.block _ ad)⟩,b.here,b.there a.last.2⟩
end
theorem Ec{P:Program}{f:Array Oper}{o:Oper}{a:Act}{w:World}{d:Act->World->Prop}{Q:Exit->Act->World->Prop}{E:Prop}(i:o.guard=none)(ty:TypeId)(x y:Operand)(l:o.op=.store ty x y)
 (b c:Nat) (cs:List Value) (n:a.eval x=.pointer (some ⟨b,c,none⟩)) (p:a.eval y=.agg cs.toArray)
 (e:w.there b c cs.length) (j:(P.info? ty).map (·.size)=some cs.length) (h:∀v∈cs,v.oneCell'=true)
 (g:∀w',eX w w' b c cs->d (a.put o.dst undef) w'):if Region.wanted o (yielded f a.tmps)=true then Oper.wp P o a w d Q else E:=by
 have m:Region.wanted o (yielded f a.tmps)=true:=by simp[Region.wanted,i]
 rw[au m];exact wp_store_mid ty x y l b c cs.toArray n p (by simpa using e) (by simpa using j) (all_oneCell_toArray h) (g _ (by simpa using xG e))
theorem Ed(w:World)(k:Nat):jJ (w.alloc (.cells #[.int .i64 (k:Nat)] 3)) (some ⟨w.heap.size,0,none⟩) 1 [k]:=by
 refine⟨rfl,aB _,by unfold maxLen;simp,fun _=>⟨_,_,rfl,ak,fun j u a=> ?_⟩⟩;obtain rfl:j=0:=by have:=(aP.1 a).1;simp[fj]at this;omega
 rw[ai _ (aC w _)];exact a
def Ee(l:List ar)(ws:List Bytes)(w:World)(c:Ending)(w':World):Prop:=
 Below w.heap.size w w'/\
 ((∃n keys a e nv d b,fD (true,0) 256 (cV l ws) n=some (keys,a)/\keys.length=n/\c=.returned (.tuple #[.agg #[e,nv,d],.int .i64 0])/\cA w' w.heap.size e ws/\w'.ownsRow w.heap.size 53 1 nv b.length b/\b.length=a.length/\
    (∀(j:Nat) (v:Value) (r:List Nat),b[j]?=some v->a[j]?=some r->cO w' w.heap.size v r)/\w'.ownsRow w.heap.size 4 1 d keys.length (keys.map fun s=>.bool (uX l s)))∨
  (∃n keys a k,fD (true,0) 256 (cV l ws) n=some (keys,a)/\keys[n]?=some k/\fp 256 keys (cV l ws k)=none/\c=.returned (.tuple #[.agg #[.slice none 0 0,.slice none 0 0,.slice none 0 0],.int .i64 17])))
theorem OD:(prog.info? 258).map (fun i=>(i.zero,i.size,i.bytes))=some (some (.agg (setRow 0).toArray),16,128):=ay
theorem Ef(l:List Bytes):(cZ l).length<=l.length:=by rw[<-tn];exact zh l
theorem Eg(l:List ar):(symsS l).length<=l.length:=by
 unfold symsS;split
 ·refine aR (Ef _) ?_
  rw[qH];exact tt l
 ·simp
theorem OE(ws:List Bytes):(dw ws).length<=ws.length:=by unfold dw;refine aR (Ef _) ?_;rw[qH];exact aB _
theorem OF{ws:List Bytes}(a:0<ws.length):0<(dw ws).length:=by
 obtain⟨x,r,rfl⟩:∃x r,ws=x::r:=by
  cases ws with
  |nil=>cases a
  |cons x r=>exact⟨x,r,rfl⟩
 exact List.length_pos_of_mem (D2.2 (f9))
theorem OG{w a:World}{l:List ar}{ws:List Bytes}{no so:Option Addr}{nc sc:Nat}{f:Array Value}(O:Below w.heap.size w a)(Q:w.heap.size+2<=a.heap.size)
 (G:a.heap[w.heap.size]?=some (.cells #[.slice no l.length nc] 65)) (H:a.heap[w.heap.size+1]?=some (.cells #[.slice none 0 0,.slice none 0 0,.slice none 0 0] 143))
 (s:cA a w.heap.size (.slice so ws.length sc) ws) (N:f=madeCells (setRow 0).toArray (ws.length*16)):
 gU w l ws no nc a.heap.size so sc 0 0 ((((a.alloc (.cells #[.slice so ws.length sc] 66)).alloc (.cells f 258)).alloc (.cells #[.slice (some ⟨a.heap.size+1,0,none⟩) ws.length ws.length] 257)).alloc (.cells #[.int .u64 0,.int .u64 0,.int .u64 0,.int .u64 0,.int .u64 0,.int .u64 0,.int .u64 0,.int .u64 0,.int .u64 0,.int .u64 0,.int .u64 0,.int .u64 0,.int .u64 0,.int .u64 0,.int .u64 0,.int .u64 0] 258)):=by
 obtain⟨d,m⟩:=aj (a.alloc (.cells #[.slice so ws.length sc] 66));obtain⟨e,p⟩:=aj (d.alloc (.cells f 258));obtain⟨wc,q⟩:=aj (e.alloc (.cells #[.slice (some ⟨a.heap.size+1,0,none⟩) ws.length ws.length] 257));obtain⟨c,r⟩:=aj (wc.alloc (.cells #[.int .u64 0,.int .u64 0,.int .u64 0,.int .u64 0,.int .u64 0,.int .u64 0,.int .u64 0,.int .u64 0,.int .u64 0,.int .u64 0,.int .u64 0,.int .u64 0,.int .u64 0,.int .u64 0,.int .u64 0,.int .u64 0] 258));rw[<-m,<-p,<-q,<-r];have D:d.heap.size=a.heap.size+1:=by rw[m];simp
 have E:e.heap.size=a.heap.size+2:=by rw[p,bI,D]
 have F:wc.heap.size=a.heap.size+3:=by rw[q,bI,E]
 have S:c.heap.size=a.heap.size+4:=by rw[r,bI,F]
 have I:Below a.heap.size a d:=by rw[m];exact az
 have J:Below d.heap.size d e:=by rw[p];exact az
 have K:Below e.heap.size e wc:=by rw[q];exact az
 have z:Below wc.heap.size wc c:=by rw[r];exact az
 have y:=aD K z;have u:=aD J y;have h:=aD I u;have L:c.heap[a.heap.size]?=some (.cells #[.slice so ws.length sc] 66):=(u.block _ ad).trans (by rw[m];exact aC a _);have A:c.heap[a.heap.size+1]?=some (.cells f 258):=(y.block _ ad).trans (by have:=aC d (.cells f 258);rw[D]at this;rw[p];exact this);have M:c.heap[a.heap.size+2]?=some (.cells #[.slice (some ⟨a.heap.size+1,0,none⟩) ws.length ws.length] 257):=(z.block _ ad).trans (by have:=aC e (.cells #[.slice (some ⟨a.heap.size+1,0,none⟩) ws.length ws.length] 257);rw[E]at this;rw[q];exact this);have B:c.heap[a.heap.size+3]?=some (.cells (setRow 0).toArray 258):=by have:=aC wc (.cells #[.int .u64 0,.int .u64 0,.int .u64 0,.int .u64 0,.int .u64 0,.int .u64 0,.int .u64 0,.int .u64 0,.int .u64 0,.int .u64 0,.int .u64 0,.int .u64 0,.int .u64 0,.int .u64 0,.int .u64 0,.int .u64 0] 258);rw[F]at this;rw[r];exact this
 refine⟨aD O h,ad,Q,(h.block _ (aL G)).trans G,(h.block _ (aL H)).trans H,L,M,aY s (fun g t=>h.block g (aV s t).2),fun g t=>(aV s t).2,fun i x R=> ?_,?_,?_⟩
 ·have P:=(aP.1 R).1
  have C:∀j,j<16->c.cell? ⟨a.heap.size+1,i*16+j,none⟩=(setRow 0)[j]?:=fun j b=>by rw[ai _ A,N];have:=rK (setRow 0) (n:=ws.length) (i:=i) (j:=j) P (by rw[ju];exact b);rw[ju]at this;exact this
  refine⟨fun j v o=> ?_,fun j b=>⟨?_,aQ A _⟩⟩
  ·have b:=(aP.1 o).1
   rw[ju]at b;exact(C j b).trans o
  ·rw[C j b,aF (by rw[ju];exact b)]
   rfl
 ·intro j v o
  rw[cE,ai _ B];rw[ig];exact o
 ·exact mI B (by rw[ju];exact aB _)
def OH(w:World)(l:List ar)(ws:List Bytes)(no:Option Addr)(nc SB:Nat)(so:Option Addr)(sc:Nat)(a:Value)(wr:World):Prop:=∃k:Nat,a=.int .i64 (k:Nat)/\k<=l.length/\gU w l ws no nc SB so sc k (fE l k) wr
theorem OI{w wr:World}{l:List ar}{ws:List Bytes}{no so:Option Addr}{nc SB sc q:Nat}(m:gU w l ws no nc SB so sc l.length q wr)(n:Gl w)(o:di w no nc l):
 eA l ws no nc w.heap.size (wr.heap.size+1) SB (SB+2) (SB+1) wr.heap.size so sc ((wr.alloc (.map #[] 0)).alloc (.cells #[.map (some wr.heap.size)] 262)) ((wr.alloc (.map #[] 0)).alloc (.cells #[.map (some wr.heap.size)] 262))/\
 gU w l ws no nc SB so sc l.length q ((wr.alloc (.map #[] 0)).alloc (.cells #[.map (some wr.heap.size)] 262)):=by
 obtain⟨a,c⟩:=aj (wr.alloc (.map #[] 0));obtain⟨f,e⟩:=aj (a.alloc (.cells #[.map (some wr.heap.size)] 262));rw[<-c,<-e];have t:a.heap.size=wr.heap.size+1:=by rw[c];simp
 have h:Below wr.heap.size wr a:=by rw[c];exact az
 have d:Below a.heap.size a f:=by rw[e];exact az
 have j:f.heap[wr.heap.size]?=some (.map #[] 0):=(d.block _ ad).trans (by rw[c];exact aC wr _);have i:f.heap[wr.heap.size+1]?=some (.cells #[.map (some wr.heap.size)] 262):=by rw[<-t,e];exact aC a _
 have p:bn a prog 3 wr.heap.size 0 (fun _=>none):=by rw[c];exact bn.made wr _ _
 have b:=m.below (aD h d);have g:=b.base;refine⟨⟨⟨n.below g,o.below g,b.rb,i,b.sb,b.ob,fun k x s=>(b.of_ k x s).1,⟨_,_,j⟩⟩,⟨rfl,rfl,rfl,aB _,fun _ _ _=>rfl⟩,⟨0,_,p.of_block (d.block _ ad),aK _,fun q v r=>by cases r⟩⟩,b⟩
theorem OJ(l:List ar)(no:Option Addr)(nc:Nat)(w:World)(g9:Gl w)(ea:cw l=0)(bw:l.length<=60)(eg:di w no nc l)(ho:0<(symsS l).length):
 Calls prog 118 #[.agg #[.slice no l.length nc],.slice none 0 0] w (Ee l (dw (symsS l)) w):=by
 have e0:=ql ea;obtain⟨w1,a4⟩:=aj ((w.alloc (.cells #[.slice no l.length nc] 65)).alloc (.cells #[.slice none 0 0,.slice none 0 0,.slice none 0 0] 143));have d3:Below w.heap.size w w1:=by rw[a4];exact az.alloc ak _
 have a7:w1.heap[w.heap.size]?=some (.cells #[.slice no l.length nc] 65):=by rw[a4];exact(bH _ _ _ ak).trans (aC w _)
 have c6:w1.heap[w.heap.size+1]?=some (.cells #[.slice none 0 0,.slice none 0 0,.slice none 0 0] 143):=by rw[a4];have:=aC (w.alloc (.cells #[.slice no l.length nc] 65)) (.cells #[.slice none 0 0,.slice none 0 0,.slice none 0 0] 143);rwa[bI]at this
 have hC:w1.heap.size=w.heap.size+2:=by rw[a4];simp
 have ci:=ai 0 a7;have ex:=tm l no nc w1 (eg.below d3) e0;rw[ea]at ex;obtain⟨fT,hH,dz,d1,h6,b8,hM,f1,h0,b4⟩:=kB ex d3 a7 c6 hC eg g9 ho e0 ea;clear ex d3 a7 c6 hC eg g9 ho e0;go_enter func118,ntmps118
 go_wp2_with(first
  |(rw[<-a4];clear a4)
  |fail)
 refine fT.o.mono ?_;rintro f e9 ⟨rfl,N⟩;have a9:=(N.block _ (aL dz.out)).trans dz.out;have cl:=ai 0 a9;have a0:=aD hH.out N;obtain⟨c7,d0,d2⟩:=bO a0 a9 ((N.block _ (aL d1.out)).trans d1.out);have h7:Hid (w.heap.size+2<=e9.heap.size):=ah (by have:=N.size;have:=h6.out;omega);clear N a9 ci fT dz d1 a0
 go_wp2
 go_loopw [29] (fun e7 wr=>e7=.int .i64 0/\wr=e9) (fun _ _=>0)
 case atStart=>exact⟨rfl,rfl⟩
 case round=>
 obtain⟨rfl,hv⟩:=hrel;rw[hv];clear hv wr;have hr:=tu l no nc e9 (b8.o.below c7.out) h0.o;have f4:=ah hr;clear hr;go_wp2_with fail
 refine f4.o.mono ?_;rintro f jj ⟨⟨v,rfl,V⟩,gv⟩;obtain⟨jd,jc,rfl⟩:=cC V;have ht:=Ma (symsS l) jd jc jj (mp V).2 f1.o (aR (Eg l) ad);obtain⟨f6,aq⟩:=aE ht gv;clear ht gv V f4;go_wp2_with fail
 refine f6.o.mono ?_;rintro f c5 ⟨⟨v,rfl,V⟩,bg⟩;clear f6;obtain⟨ws,bz⟩:=aj (dw (symsS l));have av:ws.length<=60:=by rw[bz];exact aR (OE _) (aR (Eg l) bw)
 have ae:0<ws.length:=by rw[bz];exact OF f1.o
 rw[<-bz]at V⊢;obtain⟨so,sc,rfl⟩:=cC V;have fb:=ah (aD (aD c7.out aq.out) bg);have gd:Hid (w.heap.size+2<=c5.heap.size):=ah (by have:=bg.size;have:=aq.out.size;have:=h7.out;omega);obtain⟨fz,ce,gf,gg⟩:=cI (fY V (aR c7.out.size aq.out.size)) bz (((aD aq.out bg).block _ (aL d0.out)).trans d0.out) (((aD aq.out bg).block _ (aL d2.out)).trans d2.out);clear bg V bz d0 d2 aq cl;obtain⟨bB,eD,c3⟩:∃i,prog.info? 258=some i/\i.zero=some (.agg (setRow 0).toArray)/\i.size=16/\i.bytes=128:=by obtain⟨i,a2,bA⟩:=mb.1 OD;simp only[pD]at bA;exact⟨i,a2,bA.1,bA.2.1,bA.2.2⟩
 obtain⟨gb,ec⟩:=aj (madeCells (setRow 0).toArray (ws.length*16));have i4:∀L,(Instr.makeSlice 257 (.int .i64 (ws.length:Int)) (.int .i64 (ws.length:Int))).run prog L=.ok (.slice (some ⟨L.heap.size,0,none⟩) ws.length ws.length) (L.alloc (.cells gb 258)):=fun L=>by have:=sX (P:=prog) L 257 258 bB (.agg (setRow 0).toArray) underlying257 eD c3.1 .i64 .i64 ws.length ws.length ad ad (by rw[c3.2.2];omega) ad;simp only[iL,c3.2.1]at this;rw[this,ec];rfl
 have fo:=ah ec;clear ec eD c3;have D:=ah (OG fb.out gd.out gf.out gg.out fz.o fo.o);obtain⟨j0,em⟩:=aj (((((c5.alloc (.cells #[.slice so ws.length sc] 66)).alloc (.cells gb 258)).alloc (.cells #[.slice (some ⟨c5.heap.size+1,0,none⟩) ws.length ws.length] 257)).alloc (.cells #[.int .u64 0,.int .u64 0,.int .u64 0,.int .u64 0,.int .u64 0,.int .u64 0,.int .u64 0,.int .u64 0,.int .u64 0,.int .u64 0,.int .u64 0,.int .u64 0,.int .u64 0,.int .u64 0,.int .u64 0,.int .u64 0] 258)));rw[<-em]at D;have d4:=ai 0 D.o.rb;go_wp2_with(first
  |(rw[<-em];clear em)
  |fail)
 generalize c5.heap.size=SB at D⊢;clear fo i4 gf gg fz gd fb d4;go_loopw [48] (OH w l ws no nc SB so sc) (fun e7 _=>l.length-(intOf e7).toNat)
 case atStart=>exact⟨0,rfl,aK _,D.o⟩
 case round=>
 clear D;obtain⟨k,rfl,J,d⟩:=hrel;have hk:(k:Int)<l.length∨¬((k:Int)<l.length):=ad;by_cases bu:k<l.length
 ·have j7:(0:Int)<=k:=ad
  have i0:(k:Int)<l.length:=ad;clear hk;obtain⟨n,o⟩:∃n,l[k]?=some n:=⟨_,aF bu⟩;have hn:=aU o;obtain⟨b,e8,rfl,hg,hE,a7,a9,hG⟩:=(b8.o.below d.base).at o;obtain⟨c4,sym,a,N⟩:=n;simp only at hE a7 a9 hG;obtain⟨L,a6⟩:=aj (wr.alloc (.cells #[.int .i64 c4,.string ⟨sym.toArray⟩,.int .i64 a,.int .i64 N] 140));have g0:Below wr.heap.size wr L:=by rw[a6];exact az
  have d6:L.heap[wr.heap.size]?=some (.cells #[.int .i64 c4,.string ⟨sym.toArray⟩,.int .i64 a,.int .i64 N] 140):=by rw[a6];exact aC wr _
  have jp:=ai 0 d6;have c6:=ai 1 d6;have b7:=ah (d.below g0);have jb:=ai 0 b7.o.sb;obtain⟨hW,bf⟩:=aE hn o;have ci:=ai 0 d.rb;clear hn o d g0 d6;by_cases E:c4=2
  ·subst E
   have hq:sym∈ws:=by rw[ce.o];exact D2.2 ((yH b4.o).2 ⟨_,hW.o,rfl,rfl⟩)
   obtain⟨i,a2⟩:=zu hq;have iT:=(aP.1 a2).1;have j6:(0:Int)<=i:=ad;have eD:(i:Int)<ws.length:=ad;have eN:qv ws:=by rw[ce.o];exact Oj _
   obtain⟨fN,hZ,du⟩:=bO (Ol ws so sc i sym L (mp b7.o.words).2 eN a2 ad) eN a2;clear hq a2 eN iT;go_wp2_with(first
    |(rw[<-a6];clear a6)
    |fail)
   refine fN.o.mono ?_;rintro f h ⟨rfl,bi⟩;clear fN hE a7 a9 hG jp c6 jb ci;have ba:=ah (b7.o.below bi);clear bi;go_wp2_with fail
   obtain⟨aa,cq⟩:=aj (ofN l sym k);have af:∀w',Below h.heap.size h w'->w'.cell? ⟨SB+2,0,none⟩=some (.slice (some ⟨SB+1,0,none⟩) ws.length ws.length)/\w'.rangeAt (SB+1) (i*16) (setRow aa):=fun w' A=>⟨ai 0 ((A.block _ (aL ba.o.ob)).trans ba.o.ob),by rw[cq];exact gA (ba.o.of_ i _ du.o).1 A⟩;have fs:Hid (aa<18446744073709551616):=ah (by rw[cq];exact px l sym k ad);obtain⟨fr,I⟩:=aE cq af;have y:=af _ (aA _ h).drew;clear af cq;refine sw (S:=(fun w'=>w'.cell? ⟨SB+2,0,none⟩=some (.slice (some ⟨SB+1,0,none⟩) ws.length ws.length)/\w'.rangeAt (SB+1) (i*16) (setRow aa))) (last:=11) ay ?_;refine dF (i:=0) rfl y ?_;simp only[Act.put,bp,bs,bj];refine dF (i:=1) rfl y ?_;simp only[Act.put,bp,bs,bj];refine dF (i:=2) rfl y ?_;simp only[Act.put,bp,bs,bj];refine dF (i:=3) rfl y ?_;simp only[Act.put,bp,bs,bj];refine dF (i:=4) rfl y ?_;simp only[Act.put,bp,bs,bj];refine Ea (i:=5) (v:=.agg (setRow aa).toArray) rfl (qV (by rfl) _ _ rfl (SB+1) (i*16) rfl (setRow aa) _ (fun _ q=>q.2) eI rfl cK) y ?_;simp only[Act.put,bp,bs,bj];refine dF (i:=6) rfl y ?_;simp only[Act.put,bp,bs,bj];refine g6 (i:=7) ay rfl (fun Z d=> ?_);go_simp;have ag:Below h.heap.size h (h.drew.alloc (.cells #[.int .i64 (k:Nat)] 3)):=(aA _ h).drew.alloc (aB _) _;have bt:=I.o _ ag;obtain⟨ds,be⟩:=aE ag (rP [k] (some ⟨h.drew.heap.size,0,none⟩) 1 _ (Ed h.drew k) ak (fun x o=>by simp at o;omega));clear ag;refine d.out _ _ (fun _=>bt) (fun _=> ?_);try simp only[Act.put,bp,bs,bj]
   refine g6 (i:=8) ay rfl (fun Z d=> ?_);go_simp;refine be.o.mono ?_;rintro f al ⟨rfl,bl⟩;have er:=aD ds.o bl;have hd:=I.o _ er;obtain⟨hK,bc⟩:=aE er (uM aa (dV [k]) al fs.o (sk (fun x o=>by simp at o;omega)));clear bl er be;refine d.out _ _ (fun _=>hd) (fun _=> ?_);try simp only[Act.put,bp,bs,bj]
   refine g6 (i:=9) ay rfl (fun Z d=> ?_);go_simp;refine bc.o.mono ?_;rintro f an ⟨rfl,bm⟩;have a1:=aD hK.out bm;have el:=I.o _ a1;have dr:=ah (ba.o.below a1);clear bm a1 bc;refine d.out _ _ (fun _=>el) (fun _=> ?_);try simp only[Act.put,bp,bs,bj]
   refine dF (i:=10) rfl el ?_;simp only[Act.put,bp,bs,bj];refine g6 (i:=11) ay rfl (fun Z d=> ?_);refine Ec (by rfl) 258 _ _ rfl (SB+1) (i*16) (setRow (aa|||dV [k])) (by rfl) (by rfl) (by rw[ju];exact(dr.o.of_ i _ du.o).2) (by rw[ju];exact cK) (eM _) (fun ao a5=> ?_);refine d.out _ _ (fun q=>absurd rfl q) (fun _=> ?_);try simp only[Act.put,bp,bs,bj]
   refine su ay ?_ _;have b6:Hid (gU w l ws (some ⟨b,e8,none⟩) nc SB so sc (k+1) (fE l k) ao):=ah (dr.o.setOf hZ.o bf.o rfl du.o (by rw[<-fr.o];exact a5));clear y bt hd el a5 I dr ba fs fr;have cc:=ah (LZ l (some ⟨b,e8,none⟩) nc k ao bu b4.o bw (b8.o.below b6.o.base));have h8:=ai 0 b6.o.rb;go_wp2_with fail
   refine cc.o.mono ?_;rintro f K ⟨rfl,gl⟩;clear cc h8;have b5:=ah (b6.o.below gl);clear gl b6;rcases hf:(dO (aS l (l.length-1))).testBit k with _|_
   ·go_wp2_with fail
    go_roundw
    case rel=>exact⟨k+1,aG,ad,by rw[show fE l (k+1)=fE l k by simp only[fE,bf.o];exact ap (fun c=>by rw[hf]at c;cases c.2)];exact b5.o⟩
    case measure=>exact aH
   ·go_wp2_with fail
    obtain⟨ab,cu⟩:=aj (fE l k);have af:∀w',Below K.heap.size K w'->w'.rangeAt (SB+3) 0 (setRow ab):=fun w' A=>by rw[cu];exact gA b5.o.last.1 A
    have fv:Hid (ab<18446744073709551616):=ah (by rw[cu];exact sm l k ad);obtain⟨fu,I⟩:=aE cu af;have y:=af _ (aA _ K).drew;clear af cu;refine sw (S:=(fun w'=>w'.rangeAt (SB+3) 0 (setRow ab))) (last:=5) ay ?_;refine Ea (i:=0) (v:=.agg (setRow ab).toArray) rfl (qV (by rfl) _ _ rfl (SB+3) (0) rfl (setRow ab) _ (fun _ q=>q) eI rfl cK) y ?_;simp only[Act.put,bp,bs,bj];refine dF (i:=1) rfl y ?_;simp only[Act.put,bp,bs,bj];refine g6 (i:=2) ay rfl (fun Z d=> ?_);go_simp;have ag:Below K.heap.size K (K.drew.alloc (.cells #[.int .i64 (k:Nat)] 3)):=(aA _ K).drew.alloc (aB _) _;have bt:=I.o _ ag;obtain⟨ds,be⟩:=aE ag (rP [k] (some ⟨K.drew.heap.size,0,none⟩) 1 _ (Ed K.drew k) ak (fun x o=>by simp at o;omega));clear ag;refine d.out _ _ (fun _=>bt) (fun _=> ?_);try simp only[Act.put,bp,bs,bj]
    refine g6 (i:=3) ay rfl (fun Z d=> ?_);go_simp;refine be.o.mono ?_;rintro f je ⟨rfl,gr⟩;have en:=aD ds.o gr;have hb:=I.o _ en;obtain⟨hI,bc⟩:=aE en (uM ab (dV [k]) je fv.o (sk (fun x o=>by simp at o;omega)));clear gr en be;refine d.out _ _ (fun _=>hb) (fun _=> ?_);try simp only[Act.put,bp,bs,bj]
    refine g6 (i:=4) ay rfl (fun Z d=> ?_);go_simp;refine bc.o.mono ?_;rintro f kd ⟨rfl,gs⟩;have a0:=aD hI.out gs;have hc:=I.o _ a0;have c9:=ah (b5.o.below a0);clear gs a0 bc;refine d.out _ _ (fun _=>hc) (fun _=> ?_);try simp only[Act.put,bp,bs,bj]
    refine g6 (i:=5) ay rfl (fun Z d=> ?_);refine Ec (by rfl) 258 _ _ rfl (SB+3) 0 (setRow (ab|||dV [k])) (by rfl) (by rfl) (by rw[ju];exact c9.o.last.2) (by rw[ju];exact cK) (eM _) (fun ji hw=> ?_);refine d.out _ _ (fun q=>absurd rfl q) (fun _=> ?_);try simp only[Act.put,bp,bs,bj]
    refine su ay ?_ _;have hN:Hid (gU w l ws (some ⟨b,e8,none⟩) nc SB so sc (k+1) (fE l (k+1)) ji):=ah (by rw[show fE l (k+1)=fE l k|||dV [k] by simp only[fE,bf.o];exact au ⟨trivial,hf⟩];rw[<-fu.o];exact c9.o.setLast hw);clear y bt hb hc hw I c9 b5 fv fu
    go_wp2
    go_roundw
    case rel=>exact⟨k+1,aG,ad,hN.o⟩
    case measure=>exact aH
  ·have j1:(c4==2)=false:=by rw[cW];exact E
   go_wp2_with(first
    |(rw[<-a6];clear a6)
    |fail)
   go_roundw
   case rel=>exact⟨k+1,aG,ad,by rw[show fE l (k+1)=fE l k by simp only[fE,bf.o];exact ap (fun c=>E c.1)];exact b7.o.skip bf.o E⟩
   case measure=>exact aH
 ·obtain rfl:k=l.length:=ad
  clear hk;have ci:=ai 0 d.rb;have D:=ah d;clear d;obtain⟨M,cx⟩:=aj ((wr.alloc (.map #[] 0)).alloc (.cells #[.map (some wr.heap.size)] 262));have hi:=OI D.o hM.o b8.o;rw[<-cx]at hi;obtain⟨ed,ha⟩:=hi;obtain⟨hP,p⟩:=aE ed ha;have kb:= @mY prog;have i3:=n9;have hs:=Od M wr.heap.size (eA l ws no nc w.heap.size (wr.heap.size+1) SB (SB+2) (SB+1) wr.heap.size so sc M) (uY l) (cV l ws) (true,0) (.pointer (some ⟨w.heap.size,0,none⟩)) (.pointer (some ⟨wr.heap.size+1,0,none⟩)) (.pointer (some ⟨SB,0,none⟩)) (.pointer (some ⟨SB+2,0,none⟩)) (by rw[cx];simp;omega) ed (fun _ _ q b=>q.below b) (fun _ q=>q.1)
   (fun s w' eZ q _=>Ov l ws no nc w.heap.size (wr.heap.size+1) SB (SB+2) (SB+1) wr.heap.size so sc b4.o bw ad s eZ M w' q) (Oo l) (fun s _ t F=>Oq bw F) (fun s=>by unfold cV;rw[cd];omega)
  have f5:=ah hs;have g8:Hid (w.heap.size<=wr.heap.size):=ah D.o.base.size;have ib:Hid (SB+4<=wr.heap.size):=ah D.o.size;clear ed ha hs D;go_wp2_with(first
   |(rw[<-cx];clear cx)
   |fail)
  generalize wr.heap.size=jv at*;refine f5.o.mono ?_;rintro f u ⟨⟨e,eb⟩,ic⟩;clear f5;have gG:Below w.heap.size w u:=p.o.base.grown e p.o.base.size (fun k J=>by injection J with J;rw[<-J];exact g8.out);have hB:u.heap[w.heap.size+1]?=some (.cells #[.slice none 0 0,.slice none 0 0,.slice none 0 0] 143):=eb.cells p.o.res;have i5:w.heap.size+2<=u.heap.size:=aR (aR p.o.lo (by have:=p.o.size;omega)) e.size;obtain⟨C,bb,bd⟩:=bO eb gG hB;clear e eb gG hB g8;rcases ic with⟨n,keys,Y,i7,nv,ia,H,F,bu,hp,rfl,⟨d8,d7,rfl⟩,cN,c1,hu,e3⟩|⟨n,keys,Y,k,F,J,a3,rfl⟩
  ·have e2:=yy ad _ _ F
   have i0:0<keys.length:=(aP.1 e2.first).1;have i1:keys.length<=256:=e2.most;obtain⟨bF,bE,rfl⟩:∃bF bE,i7=.slice (some ⟨bF,0,none⟩) keys.length bE:=by
    rcases cN.2 with⟨av,ae⟩|⟨g,cap,j2,a3,_⟩
    ·omega
    ·exact⟨g,cap,a3⟩
   obtain⟨X,W,rfl⟩:=cC c1;have j5:=p.o.size;have i2:=p.o.lo;have iv:M.heap.size<=u.heap.size:=aR (aB _) C.o.grown.size;have hm:u.rangeAt (SB+3) 0 (setRow (fE l l.length)):=og p.o.last.1 (C.o.grown.block (SB+3) ad (by have:=ib.out;simp;omega));have e4:cA u w.heap.size (.slice so ws.length sc) ws:=aY p.o.words (fun g e=>by obtain⟨cs,hh⟩:=mP p.o.words e;exact(C.o.cells hh).trans hh.symm)
   have A:=C.o.nodes;obtain⟨z,G⟩:=aj (u.alloc (.cells #[.slice (some ⟨bF,0,none⟩) keys.length bE,.slice X H.length W,.slice d8 keys.length d7] 271));have m:Below u.heap.size u z:=by rw[G];exact az
   have g3:z.heap[u.heap.size]?=some (.cells #[.slice (some ⟨bF,0,none⟩) keys.length bE,.slice X H.length W,.slice d8 keys.length d7] 271):=by rw[G];exact aC u _
   have hA:=(m.block _ (aL (C.o.cells p.o.rb))).trans (C.o.cells p.o.rb);have d4:=ai 0 hA;obtain⟨cp,ez⟩:=aj ((factN l (l.length-1)).empty);have eE:=LX l no nc z b4.o bw (A.below m);rw[<-ez]at eE;obtain⟨f2,hT,jy,fl⟩:=cI eE ez m g3;have fy:=ah ((m.block _ (aL (C.o.cells p.o.sb))).trans (C.o.cells p.o.sb));obtain⟨cc,f7,f0,hX⟩:=cI (gA hm m) (aY e4 (fun g e=>m.block g (aV e4 e).2)) (aY cN (fun g e=>m.block g (aV cN e).2)) (aY c1 (fun g e=>m.block g (aV c1 e).2));have h4:Hid (∀(j:Nat) (v:Value) (r:List Nat),H[j]?=some v->Y[j]?=some r->cO z (M.heap.size+3) v r):=ah (fun j v r av ae=>aY (e3 j v r av ae) (fun g e=>m.block g (aV (e3 j v r av ae) e).2));obtain⟨fx,fg⟩:=aE ((m.block _ (aL bd.o)).trans bd.o) (bb.o.trans (m.mono (by have:=i5;omega)));have b9:Hid (SB+4<=z.heap.size/\w.heap.size+2<=SB/\M.heap.size<=z.heap.size):=ah ⟨by have:=m.size;omega,i2,by have:=m.size;omega⟩;obtain⟨hY,h2,h3,hV⟩:=cI hp F hu bu;clear eE ez m g3 hA hm e4 A cN c1 e3 hp F hu bu p hP C bb bd iv e2;go_wp2_with(first
    |(rw[<-G];clear G)
    |fail)
   refine f2.o.mono ?_;rintro f h ⟨rfl,bi⟩;clear f2 d4;obtain⟨al,c2⟩:=aj (h.alloc (.cells #[.bool cp] 4));have bl:Below h.heap.size h al:=by rw[c2];exact az
   have d5:al.heap[h.heap.size]?=some (.cells #[.bool cp] 4):=by rw[c2];exact aC h _
   have O:=aD bi bl;have co:=(O.block _ (aL fl.o)).trans fl.o;have hD:=(O.block _ (aL fy.o)).trans fy.o;have bZ:=ai 0 co;have b0:=ai 1 co;have b1:=ai 2 co;have i9:=ai 0 hD;have i3:=n9;have hl:=aY f0.o (fun g e=>O.block g (aV f0.o e).2);have hx:=aY f7.o (fun g e=>O.block g (aV f7.o e).2);have j4:=O.size;have he:=OC ws so sc keys bF bE (M.heap.size+3) keys.length d7 H.length d8 X W (uX l) (.pointer (some ⟨h.heap.size,0,none⟩)) (.pointer (some ⟨SB+1+1+1,0,none⟩)) al (mp hx).2 ae ad hl i1
    (fun w'=>w'.heap[h.heap.size]?=some (.cells #[.bool cp] 4)/\w'.rangeAt (SB+3) 0 (setRow (fE l l.length))/\SB+3<w'.heap.size/\al.heap.size<=w'.heap.size)
    (fun u1 u2 ⟨bB,e5,e6,hz⟩ cG=>by have bA:Below u1.heap.size u1 u2->True:=fun _=>trivial;exact⟨(cG.block _ (by have:=aL d5;omega)).trans bB,og e5 (cG.block _ (by have:=b9.o;omega)),eR e6 cG.size,aR hz cG.size⟩)
    ⟨d5,gA cc.o O,by have:=b9.o;omega,aB _⟩
    (fun s w' eZ ⟨bB,e5,e6,hz⟩ _=>by have hj:=Ox s cp (fE l l.length) h.heap.size (SB+3) w' (hY.o s eZ).1 (sm l l.length ad) bB e5 e6;rw[hT.o]at hj;exact hj)
   obtain⟨fG,c8⟩:=aE he O;clear he O bi bl d5 co hD hl hx;go_wp2_with(first
    |(rw[<-c2];clear c2)
    |fail)
   refine fG.o.mono ?_;rintro f an ⟨⟨kc,ia,rfl,e1,eB⟩,bm⟩;obtain⟨b3,b2,rfl⟩:=cC e1;obtain⟨bq,bo,rfl⟩:=cC eB;have ch:=c8.out.trans (bm.mono c8.out.size);have T:=(ch.block _ (aL fx.o)).trans fx.o;have a1:Below w.heap.size w an:=fg.o.trans (ch.mono fg.o.size);have cl:=ai 0 T;have g1:=ai 1 T;have g2:=ai 2 T;have g4:=aQ T 0;have g5:=aQ T 1;have g7:=aQ T 2;obtain⟨fc,hL,hJ,h1,hU⟩:=ku T a1 ch e1 eB;clear e1 eB bm ch T a1 bZ b0 b1 i9 fG;go_wp2_with fail
   have Q:(((an.setCell ⟨w.heap.size+1,0,none⟩ (.slice b3 ws.length b2)).setCell ⟨w.heap.size+1,1,none⟩ (.slice X H.length W)).setCell ⟨w.heap.size+1,2,none⟩ (.slice bq keys.length bo)).heap[w.heap.size+1]?=some (.cells #[.slice b3 ws.length b2,.slice X H.length W,.slice bq keys.length bo] 143):=
    bL _ _ 2 _ (bL _ _ 1 _ (bL _ _ 0 _ fc.out))
   obtain⟨ao,a5⟩:=aj ((((an.setCell ⟨w.heap.size+1,0,none⟩ (.slice b3 ws.length b2)).setCell ⟨w.heap.size+1,1,none⟩ (.slice X H.length W)).setCell ⟨w.heap.size+1,2,none⟩ (.slice bq keys.length bo)));have es:Below w.heap.size w ao:=by rw[a5];exact((hL.o.setCell ak _).setCell ak _).setCell ak _
   have hg:∀b,b≠w.heap.size+1->ao.heap[b]?=an.heap[b]?:=fun b A=>by rw[a5,aX _ _ _ _ _ A,aX _ _ _ _ _ A,aX _ _ _ _ _ A]
   have o:∀{B f size n:Nat} {v:Value} {xs:List Value},f≠143->an.ownsRow B f size v n xs->ao.ownsRow B f size v n xs:=fun ii E=>aY E (fun g e=>hg g (fun h9=>iD E fc.out ii (by rw[e,h9])));have hy:∀{B f size n:Nat} {v:Value} {xs:List Value},z.ownsRow B f size v n xs->an.ownsRow B f size v n xs:=fun E=>aY E (fun g e=>hJ.out.block g (aV E e).2);have c0:w.heap.size<=M.heap.size+3/\w.heap.size<=al.heap.size:=⟨by have:=b9.o;omega,by have:=b9.o;have:=c8.out.size;omega⟩;rw[<-a5]at Q⊢;have bZ:=ai 0 Q;have b0:=ai 1 Q;have b1:=ai 2 Q;have io:Ee l ws w (.returned (.tuple #[.agg #[.slice b3 ws.length b2,.slice X H.length W,.slice bq keys.length bo],.int .i64 0])) ao:=
    ⟨es,.inl ⟨n,keys,Y,_,_,_,H,h2.o,hV.o,rfl,fY (o aw h1.o) c0.2,fY (o aw (hy hX.o)) c0.1,h3.o,fun j v r av ae=>fY (o aw (hy (h4.o j v r av ae))) c0.1,fY (o aw hU.o) c0.2⟩⟩
   exact bS (v:=.tuple #[.agg #[.slice b3 ws.length b2,.slice X H.length W,.slice bq keys.length bo],.int .i64 0]) (by simp[results,results118,go_sem,bZ,b0,b1,th]) rfl (by rw[<-ce.o];exact io)
  ·have hQ:Hid (∃n keys Y k,fD (true,0) 256 (cV l ws) n=some (keys,Y)/\keys[n]?=some k/\fp 256 keys (cV l ws k)=none):=ah ⟨n,keys,Y,k,F,J,a3⟩
   clear F J a3 C p;obtain⟨z,G⟩:=aj (u.alloc (.cells #[.slice none 0 0,.slice none 0 0,.slice none 0 0] 271));have R:z.heap[w.heap.size+1]?=some (.cells #[.slice none 0 0,.slice none 0 0,.slice none 0 0] 143):=by rw[G];exact(bH _ _ _ ad).trans bd.o
   have m:Below w.heap.size w z:=by rw[G];exact bb.o.alloc bb.o.size _
   have cl:=ai 0 R;have g1:=ai 1 R;have g2:=ai 2 R;have g4:=aQ R 0;have g5:=aQ R 1;have g7:=aQ R 2;obtain⟨hS,hR⟩:=aE R m;rw[G]at cl g1 g2 g4 g5 g7;have h5:=ah G;have j3:u.heap.size≠w.heap.size+1:=ad;clear R m bd bb G;go_wp2_with fail
   rw[<-h5.o];have Q:(((z.setCell ⟨w.heap.size+1,0,none⟩ (.slice none 0 0)).setCell ⟨w.heap.size+1,1,none⟩ (.slice none 0 0)).setCell ⟨w.heap.size+1,2,none⟩ (.slice none 0 0)).heap[w.heap.size+1]?=some (.cells #[.slice none 0 0,.slice none 0 0,.slice none 0 0] 143):=
    bL _ _ 2 _ (bL _ _ 1 _ (bL _ _ 0 _ hS.o))
   have es:Below w.heap.size w (((z.setCell ⟨w.heap.size+1,0,none⟩ (.slice none 0 0)).setCell ⟨w.heap.size+1,1,none⟩ (.slice none 0 0)).setCell ⟨w.heap.size+1,2,none⟩ (.slice none 0 0)):=((hR.o.setCell ak _).setCell ak _).setCell ak _;have bZ:=ai 0 Q;have b0:=ai 1 Q;have b1:=ai 2 Q;obtain⟨n,keys,Y,k,F,J,a3⟩:=hQ.o;exact bS (v:=.tuple #[.agg #[.slice none 0 0,.slice none 0 0,.slice none 0 0],.int .i64 17]) (by simp[results,results118,go_sem,bZ,b0,b1,th]) rfl (by rw[<-ce.o];exact⟨es,.inr ⟨n,keys,Y,k,F,J,a3,rfl⟩⟩)
end Go.Proofs.YtbacloblanpghaaGreatDoor
