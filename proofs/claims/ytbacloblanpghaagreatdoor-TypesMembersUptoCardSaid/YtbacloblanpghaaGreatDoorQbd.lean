import Derived.Test.YtbacloblanpghaaGreatDoorQba
set_option linter.unusedVariables false
set_option linter.unusedSimpArgs false
set_option maxRecDepth 100000
set_option maxHeartbeats 0
namespace Go.Proofs.YtbacloblanpghaaGreatDoor
open Go.RowKit Tryz
theorem cK:(prog.info? 258).map (·.size)=some 16:=ay
theorem qo(w1:World):Below w1.heap.size w1 (w1.alloc (.cells #[.int .u64 0,.int .u64 0,.int .u64 0,.int .u64 0,.int .u64 0,.int .u64 0,.int .u64 0,.int .u64 0,.int .u64 0,.int .u64 0,.int .u64 0,.int .u64 0,.int .u64 0,.int .u64 0,.int .u64 0,.int .u64 0] 258))/\(w1.alloc (.cells #[.int .u64 0,.int .u64 0,.int .u64 0,.int .u64 0,.int .u64 0,.int .u64 0,.int .u64 0,.int .u64 0,.int .u64 0,.int .u64 0,.int .u64 0,.int .u64 0,.int .u64 0,.int .u64 0,.int .u64 0,.int .u64 0] 258)).rangeAt w1.heap.size 0 (setRow 0)/\(w1.alloc (.cells #[.int .u64 0,.int .u64 0,.int .u64 0,.int .u64 0,.int .u64 0,.int .u64 0,.int .u64 0,.int .u64 0,.int .u64 0,.int .u64 0,.int .u64 0,.int .u64 0,.int .u64 0,.int .u64 0,.int .u64 0,.int .u64 0] 258)).there w1.heap.size 0 16/\(w1.alloc (.cells #[.int .u64 0,.int .u64 0,.int .u64 0,.int .u64 0,.int .u64 0,.int .u64 0,.int .u64 0,.int .u64 0,.int .u64 0,.int .u64 0,.int .u64 0,.int .u64 0,.int .u64 0,.int .u64 0,.int .u64 0,.int .u64 0] 258)).heap.size=w1.heap.size+1:=
 mL w1 _
structure mM(w wr:World)(m:Nat):Prop where
 base:Below w.heap.size w wr
 size:w.heap.size+2<=wr.heap.size
 out:wr.rangeAt (w.heap.size+1) 0 (setRow m)
 outT:wr.there (w.heap.size+1) 0 16
 resT:wr.there w.heap.size 0 16
theorem mM.below{w wr c:World}{m:Nat}(a:mM w wr m)(b:Below wr.heap.size wr c):mM w c m:=
 ⟨a.base.trans (b.mono a.base.size),aR a.size b.size,gA a.out b,gn a.outT b,gn a.resT b⟩
theorem mM.wrote{w wr c:World}{m q:Nat}(a:mM w wr m)(b:fm wr c (w.heap.size+1) 0 (.int .u64 (q:Nat))):mM w c q:=
 ⟨b.row.below a.base ad,by rw[b.size];exact a.size,ux (b.set (ef a.out)),b.row.there a.outT,b.row.there a.resT⟩
theorem L0(w:World):mM w ((w.alloc (.cells #[.int .u64 0,.int .u64 0,.int .u64 0,.int .u64 0,.int .u64 0,.int .u64 0,.int .u64 0,.int .u64 0,.int .u64 0,.int .u64 0,.int .u64 0,.int .u64 0,.int .u64 0,.int .u64 0,.int .u64 0,.int .u64 0] 258)).alloc (.cells #[.int .u64 0,.int .u64 0,.int .u64 0,.int .u64 0,.int .u64 0,.int .u64 0,.int .u64 0,.int .u64 0,.int .u64 0,.int .u64 0,.int .u64 0,.int .u64 0,.int .u64 0,.int .u64 0,.int .u64 0,.int .u64 0] 258)) 0:=by obtain⟨a,_,e,d⟩:=qo w;obtain⟨h,g⟩:=aj (w.alloc (.cells #[.int .u64 0,.int .u64 0,.int .u64 0,.int .u64 0,.int .u64 0,.int .u64 0,.int .u64 0,.int .u64 0,.int .u64 0,.int .u64 0,.int .u64 0,.int .u64 0,.int .u64 0,.int .u64 0,.int .u64 0,.int .u64 0] 258));rw[<-g]at a e d⊢;obtain⟨b,c,f,i⟩:=qo h;rw[d]at c f;exact⟨a.trans (b.mono ad),ad,c,f,gn e b⟩
def dV(l:List Nat):Nat:=l.foldl jg 0
theorem C9{l:List Nat}(b:∀x∈l,x<64):∀m,m<18446744073709551616->l.foldl jg m<18446744073709551616:=by
 induction l with
 |nil=>intro m a;exact a
 |cons x l ih=>intro m a;exact ih (fun y c=>b y (f8 _ c)) _ (FX a (b x (f9 ..)))
theorem L1(l:List Nat):∀(m j:Nat),(l.foldl jg m).testBit j=(m.testBit j||decide (j∈l)):=by
 induction l with
 |nil=>intro m j;simp
 |cons x l ih=>
  intro m j;rw[qN,ih,FY];by_cases a:x=j
  ·subst a;simp
  ·have:¬j=x:=fun b=>a b.symm
   simp[a,this]
theorem rP(a:List Nat)(o:Option Addr)(c:Nat)(w:World)(f:jJ w o c a)(V:a.length<=1048576)(v:∀x∈a,x<64):
 Calls prog 180 #[.slice o a.length c] w fun A w'=>A=.returned (.agg (setRow (dV a)).toArray)/\Below w.heap.size w w':=by
 have B:=f.2.2.1;unfold maxLen at B;have O:=f.2.1;have h:=L0 w;obtain⟨w1,d⟩:=aj ((w.alloc (.cells #[.int .u64 0,.int .u64 0,.int .u64 0,.int .u64 0,.int .u64 0,.int .u64 0,.int .u64 0,.int .u64 0,.int .u64 0,.int .u64 0,.int .u64 0,.int .u64 0,.int .u64 0,.int .u64 0,.int .u64 0,.int .u64 0] 258)).alloc (.cells #[.int .u64 0,.int .u64 0,.int .u64 0,.int .u64 0,.int .u64 0,.int .u64 0,.int .u64 0,.int .u64 0,.int .u64 0,.int .u64 0,.int .u64 0,.int .u64 0,.int .u64 0,.int .u64 0,.int .u64 0,.int .u64 0] 258));rw[<-d]at h;obtain⟨n,l⟩:=aE h v;clear h v;go_enter func180,ntmps180
 go_wp2_with(first
  |(rw[<-d];clear d)
  |fail)
 go_loopw [5,8] (fun _ i wr=>∃k:Nat,i=.int .i64 k/\k<=a.length/\Hid (mM w wr (dV (a.take k)))) (fun _ i _=>a.length-(intOf i).toNat)
 case atStart=>exact⟨0,rfl,aK _,n.o⟩
 case round=>
 clear n;obtain⟨k,rfl,R,b⟩:=hrel;by_cases E:k<a.length
 ·have C:decide ((k:Int)<a.length)=true:=aM
  have T:(k:Int)<a.length:=ad;have S:(0:Int)<=k:=ad;obtain⟨x,e⟩:∃x,a[k]?=some x:=⟨_,aF E⟩;obtain⟨g,Z,rfl,P,Y⟩:=(f.below b.o.base).at e;have t:=l.o x (aU e);have I:(x:Int).tdiv 64=0:=by rw[zU ad];omega
  have J:(x:Int).tmod 64=(x:Int):=by rw[FG ad];omega
  have H:IntKind.i64.wrap 0=0:=rfl;have M:IntKind.i64.wrap (x:Int)=(x:Int):=lp _ ad;have N:min x 64=x:=ad;have F:dV (a.take k)<18446744073709551616:=C9 (fun y G=>l.o y (List.mem_of_mem_take G)) 0 aw;have K:=Ag t;have L:=Ah F t;have Q:(0:Int)<=x:=ad;have u:dV (a.take (k+1))=jg (dV (a.take k)) x:=by unfold dV;rw[bG,e,dR,FA];rfl
  have q:=(ef b.o.out).1;have s:=(b.o.outT 0 ad).2;have z:=ah u;clear u e;generalize dV (a.take k)=m at*;go_wp2_with fail
  go_still_tail 9,ay
  change wpList _ _ _ _ _ (World.drew wr);have r:wr.drew.cell? ⟨w.heap.size+1,0,none⟩=some (.int .u64 (m:Nat)):=q;have D:wr.drew.frozen? ⟨w.heap.size+1,0,none⟩=false:=s;have j:Hid (mM w wr.drew m):=b.o.below ((aA _ wr).drew);generalize d:wr.drew=w1 at r D j⊢;clear d q s b
  go_wp2
  go_roundw
  case rel=>exact⟨k+1,aG,ad,by rw[z.o];exact j.o.wrote (lO (k:=0) r)⟩
  case measure=>exact aH
 ·have C:decide ((k:Int)<a.length)=false:=aJ
  obtain rfl:k=a.length:=ad;rw[bx (aB _)]at b;have W:=b.o.out;have X:=b.o.resT;go_wp2_with(first
   |((with_reducible apply dL (ty:=258));exact rfl;exact rfl;exact rfl;assumption;exact eI;exact rfl;exact cK)
   |(((with_reducible apply cT (ty:=258));exact rfl;exact rfl;exact rfl;exact rfl;assumption;exact cK;exact eM _);intro aa p)
   |fail)
  (try simp only[Exit.inBlock,Exit.then])
  refine bS (gm rfl _ _ w.heap.size 0 _ _ rfl p.here eI rfl cK) rfl ?_;exact⟨rfl,p.below b.o.base ad⟩
structure nZ(w wr:World)(m2 m:Nat):Prop where
 base:Below w.heap.size w wr
 size:w.heap.size+3<=wr.heap.size
 out:wr.rangeAt w.heap.size 0 (setRow m)
 outT:wr.there w.heap.size 0 16
 two:wr.rangeAt (w.heap.size+1) 0 (setRow m2)
 resT:wr.there (w.heap.size+1+1) 0 16
theorem x8(w1:World)(m:Nat):Below w1.heap.size w1 (w1.alloc (.cells (setRow m).toArray 258))/\(w1.alloc (.cells (setRow m).toArray 258)).rangeAt w1.heap.size 0 (setRow m)/\(w1.alloc (.cells (setRow m).toArray 258)).there w1.heap.size 0 16/\(w1.alloc (.cells (setRow m).toArray 258)).heap.size=w1.heap.size+1:=
 ⟨az,nQ (ty:=258) (f:=(0,0)) (aC w1 _),mI (cs:=setRow m) (ty:=258) (aC w1 _) (aB _),ak⟩
theorem nZ.wrote{w wr c:World}{d m q k:Nat}{v:Value}(a:nZ w wr d m)(b:fm wr c w.heap.size k v)(e:c.rangeAt w.heap.size 0 (setRow q)):nZ w c d q:=
 ⟨b.row.below a.base ad,by rw[b.size];exact a.size,e,b.row.there a.outT,b.row.range a.two (.inl ad),b.row.there a.resT⟩
theorem Da(w:World)(m c:Nat):nZ w (((w.alloc (.cells (setRow m).toArray 258)).alloc (.cells (setRow c).toArray 258)).alloc (.cells #[.int .u64 0,.int .u64 0,.int .u64 0,.int .u64 0,.int .u64 0,.int .u64 0,.int .u64 0,.int .u64 0,.int .u64 0,.int .u64 0,.int .u64 0,.int .u64 0,.int .u64 0,.int .u64 0,.int .u64 0,.int .u64 0] 258)) c m:=by obtain⟨f,g,i,e⟩:=x8 w m;obtain⟨n,o⟩:=aj (w.alloc (.cells (setRow m).toArray 258));rw[<-o]at f g i e⊢;obtain⟨a,d,j,h⟩:=x8 n c;obtain⟨r,p⟩:=aj (n.alloc (.cells (setRow c).toArray 258));rw[<-p]at a d j h⊢;obtain⟨b,q,l,s⟩:=qo r;rw[e]at d j;rw[h,e]at q l;exact⟨(f.trans (a.mono ad)).trans (b.mono ad),ad,gA (gA g a) b,gn (gn i a) b,gA d b,l⟩
theorem ya(m k:Nat)(b:k<16)(a:World):(Instr.index 258 (.agg (setRow m).toArray) (.int .i64 (k:Nat))).run prog a=.ok (.int .u64 ((if k=0 then m else 0:Nat):Int)) a:=by rcases(show k=0∨k=1∨k=2∨k=3∨k=4∨k=5∨k=6∨k=7∨k=8∨k=9∨k=10∨k=11∨k=12∨k=13∨k=14∨k=15 by omega)with rfl|rfl|rfl|rfl|rfl|rfl|rfl|rfl|rfl|rfl|rfl|rfl|rfl|rfl|rfl|rfl<;>kernel_rfl
theorem uL{w wr:World}{m h e k y q:Nat}(o:k<16)(f:nZ w wr h m)(p:y=if k=0 then m else 0)(g:wr.cell? ⟨w.heap.size,k,none⟩=some (.int .u64 (y:Nat))->q=if k=0 then e else 0)(n:k≠0->e=m):
 nZ w (wr.setCell ⟨w.heap.size,k,none⟩ (.int .u64 (q:Nat))) h e:=by
 have c:=ef f.out;have d:wr.cell? ⟨w.heap.size,k,none⟩=some (.int .u64 (y:Nat)):=by
  rw[p];split
  ·rename_i a;subst a;exact c.1
  ·have:=c.2 k ad o;rwa[cE]at this
 have b:fm wr (wr.setCell ⟨w.heap.size,k,none⟩ (.int .u64 (q:Nat))) w.heap.size k (.int .u64 (q:Nat)):=lO (k:=0) d;refine f.wrote b (ux ⟨?_,fun j i l=> ?_⟩)
 ·by_cases a:k=0
  ·subst a
   rw[b.here,g d,au rfl]
  ·rw[b.other 0 ad,n a]
   exact c.1
 ·rw[cE]
  by_cases a:j=k
  ·subst a
   rw[b.here,g d,ap ad];rfl
  ·rw[b.other j a]
   have:=c.2 j i l;rwa[cE]at this
theorem uM(m b:Nat)(w:World)(E:m<18446744073709551616)(F:b<18446744073709551616):
 Calls prog 179 #[.agg (setRow m).toArray,.agg (setRow b).toArray] w fun a w'=>a=.returned (.agg (setRow (m|||b)).toArray)/\Below w.heap.size w w':=by
 have h:=Da w m b;obtain⟨w1,p⟩:=aj (((w.alloc (.cells (setRow m).toArray 258)).alloc (.cells (setRow b).toArray 258)).alloc (.cells #[.int .u64 0,.int .u64 0,.int .u64 0,.int .u64 0,.int .u64 0,.int .u64 0,.int .u64 0,.int .u64 0,.int .u64 0,.int .u64 0,.int .u64 0,.int .u64 0,.int .u64 0,.int .u64 0,.int .u64 0,.int .u64 0] 258));rw[<-p]at h;have s:=ah h;have G:=h.two;clear h;obtain⟨B,n⟩:=aj ((setRow b).toArray);have t:∀(k:Nat),k<16->∀l,(Instr.index 258 (.agg B) (.int .i64 (k:Nat))).run prog l=.ok (.int .u64 ((if k=0 then b else 0:Nat):Int)) l:=fun k v l=>by rw[n];exact ya b k v l
 have A:=ah t;clear t;go_enter func179,ntmps179
 go_wp2_with(first
  |(rw[<-p];clear p)
  |((with_reducible apply dL (ty:=258));exact rfl;exact rfl;exact rfl;assumption;exact eI;exact rfl;exact cK)
  |fail)
 simp only[<-n];clear n G;go_loopw [5,6,8] (fun _ _ q wr=>∃k:Nat,q=.int .i64 k/\k<=16/\Hid (nZ w wr b (if k=0 then m else m|||b))) (fun _ _ q _=>16-(intOf q).toNat)
 case atStart=>exact⟨0,rfl,aK _,s.o⟩
 case round=>
 clear s;obtain⟨k,rfl,v,d⟩:=hrel;by_cases f:k<16
 ·have C:decide ((k:Int)<16)=true:=aM
  have K:(k:Int)<16:=ad;have J:(0:Int)<=k:=ad;have D:=A.o k f;obtain⟨x,i⟩:=aj (if k=0 then b else 0);obtain⟨y,j⟩:=aj (if k=0 then m else 0);rw[<-i]at D;have o:=ef d.o.out;have O:wr.cell? ⟨w.heap.size,k,none⟩=some (.int .u64 (y:Nat)):=by
   rw[j];split
   ·rename_i a;subst a;exact o.1
   ·have:=o.2 k ad f;rw[cE,ap ‹_›]at*;exact this
  have P:wr.frozen? ⟨w.heap.size,k,none⟩=false:=by have:=(d.o.outT k f).2;rwa[cE]at this
  have H:x<18446744073709551616:=by rw[i];split;exact F;decide
  have I:y<18446744073709551616:=by rw[j];split;exact E;decide
  have L:bits .or .u64 (y:Int) (x:Int)=((y|||x:Nat):Int):=E9 y x I H;obtain⟨r,g⟩:=aE i j;clear i j o
  go_wp2
  go_roundw
  case rel=>
   refine⟨k+1,aG,ad,?_⟩;unfold Hid;rw[ap ad];by_cases a:k=0
   ·subst a
    have c:=d.o;rw[au rfl]at c;exact uL f c g.o (fun _=>by rw[r.o,g.o];rfl) (fun c=>absurd rfl c)
   ·have c:=d.o
    rw[ap a]at c;exact uL (y:=y) f c (by rw[g.o,ap a,ap a]) (fun _=>by rw[r.o,g.o,ap a,ap a,ap a];rfl) (fun _=>rfl)
  case measure=>exact aH
 ·have C:decide ((k:Int)<16)=false:=aJ
  have e:=d.o;rw[ap ad]at e;have z:=ah e;have M:=e.out;have N:=e.resT;clear e d;go_wp2_with(first
   |((with_reducible apply dL (ty:=258));exact rfl;exact rfl;exact rfl;assumption;exact eI;exact rfl;exact cK)
   |(((with_reducible apply cT (ty:=258));exact rfl;exact rfl;exact rfl;exact rfl;assumption;exact cK;exact eM _);intro Q u)
   |fail)
  (try simp only[Exit.inBlock,Exit.then])
  refine bS (gm rfl _ _ (w.heap.size+1+1) 0 _ _ rfl u.here eI rfl cK) rfl ?_;exact⟨rfl,u.below z.o.base ad⟩
theorem yc(m b:Nat)(w:World)(E:m<18446744073709551616)(F:b<18446744073709551616):
 Calls prog 186 #[.agg (setRow m).toArray,.agg (setRow b).toArray] w fun a w'=>a=.returned (.agg (setRow (m&&&b)).toArray)/\Below w.heap.size w w':=by
 have h:=Da w m b;obtain⟨w1,p⟩:=aj (((w.alloc (.cells (setRow m).toArray 258)).alloc (.cells (setRow b).toArray 258)).alloc (.cells #[.int .u64 0,.int .u64 0,.int .u64 0,.int .u64 0,.int .u64 0,.int .u64 0,.int .u64 0,.int .u64 0,.int .u64 0,.int .u64 0,.int .u64 0,.int .u64 0,.int .u64 0,.int .u64 0,.int .u64 0,.int .u64 0] 258));rw[<-p]at h;have s:=ah h;have G:=h.two;clear h;obtain⟨B,n⟩:=aj ((setRow b).toArray);have t:∀(k:Nat),k<16->∀l,(Instr.index 258 (.agg B) (.int .i64 (k:Nat))).run prog l=.ok (.int .u64 ((if k=0 then b else 0:Nat):Int)) l:=fun k v l=>by rw[n];exact ya b k v l
 have A:=ah t;clear t;go_enter func186,ntmps186
 go_wp2_with(first
  |(rw[<-p];clear p)
  |((with_reducible apply dL (ty:=258));exact rfl;exact rfl;exact rfl;assumption;exact eI;exact rfl;exact cK)
  |fail)
 simp only[<-n];clear n G;go_loopw [5,6,8] (fun _ _ q wr=>∃k:Nat,q=.int .i64 k/\k<=16/\Hid (nZ w wr b (if k=0 then m else m&&&b))) (fun _ _ q _=>16-(intOf q).toNat)
 case atStart=>exact⟨0,rfl,aK _,s.o⟩
 case round=>
 clear s;obtain⟨k,rfl,v,d⟩:=hrel;by_cases f:k<16
 ·have C:decide ((k:Int)<16)=true:=aM
  have K:(k:Int)<16:=ad;have J:(0:Int)<=k:=ad;have D:=A.o k f;obtain⟨x,i⟩:=aj (if k=0 then b else 0);obtain⟨y,j⟩:=aj (if k=0 then m else 0);rw[<-i]at D;have o:=ef d.o.out;have O:wr.cell? ⟨w.heap.size,k,none⟩=some (.int .u64 (y:Nat)):=by
   rw[j];split
   ·rename_i a;subst a;exact o.1
   ·have:=o.2 k ad f;rw[cE,ap ‹_›]at*;exact this
  have P:wr.frozen? ⟨w.heap.size,k,none⟩=false:=by have:=(d.o.outT k f).2;rwa[cE]at this
  have H:x<18446744073709551616:=by rw[i];split;exact F;decide
  have I:y<18446744073709551616:=by rw[j];split;exact E;decide
  have L:bits .and .u64 (y:Int) (x:Int)=((y&&&x:Nat):Int):=za y x I H;obtain⟨r,g⟩:=aE i j;clear i j o
  go_wp2
  go_roundw
  case rel=>
   refine⟨k+1,aG,ad,?_⟩;unfold Hid;rw[ap ad];by_cases a:k=0
   ·subst a
    have c:=d.o;rw[au rfl]at c;exact uL f c g.o (fun _=>by rw[r.o,g.o];rfl) (fun c=>absurd rfl c)
   ·have c:=d.o
    rw[ap a]at c;exact uL (y:=y) f c (by rw[g.o,ap a,ap a]) (fun _=>by rw[r.o,g.o,ap a,ap a,ap a];rfl) (fun _=>rfl)
  case measure=>exact aH
 ·have C:decide ((k:Int)<16)=false:=aJ
  have e:=d.o;rw[ap ad]at e;have z:=ah e;have M:=e.out;have N:=e.resT;clear e d;go_wp2_with(first
   |((with_reducible apply dL (ty:=258));exact rfl;exact rfl;exact rfl;assumption;exact eI;exact rfl;exact cK)
   |(((with_reducible apply cT (ty:=258));exact rfl;exact rfl;exact rfl;exact rfl;assumption;exact cK;exact eM _);intro Q u)
   |fail)
  (try simp only[Exit.inBlock,Exit.then])
  refine bS (gm rfl _ _ (w.heap.size+1+1) 0 _ _ rfl u.here eI rfl cK) rfl ?_;exact⟨rfl,u.below z.o.base ad⟩
theorem Db(m:Nat)(w:World)(ae:Gl w)(I:m<18446744073709551616):
 Calls prog 184 #[.agg (setRow m).toArray] w fun l w'=>(∃v,l=.returned v/\cO w' w.heap.size v (aI m))/\Below w.heap.size w w':=by
 obtain⟨a9,aq,a5,a6,a7⟩:=cL lu;obtain⟨w1,f⟩:=aj (w.alloc (.cells (setRow m).toArray 258));obtain⟨p,O,P,ba⟩:=x8 w m;rw[<-f]at p O P ba;obtain⟨Z,q⟩:=aj ((setRow m).toArray);have V:Hid (∀(k:Nat),k<16->∀e,(Instr.index 258 (.agg Z) (.int .i64 (k:Nat))).run prog e=.ok (.int .u64 ((if k=0 then m else 0:Nat):Int)) e):=fun k H e=>by rw[q];exact ya m k H e
 obtain⟨T,S⟩:=aE I p;clear I P p;go_enter func184,ntmps184
 go_wp2_with(first
  |(rw[<-f];clear f)
  |((with_reducible apply dL (ty:=258));exact rfl;exact rfl;exact rfl;assumption;exact eI;exact rfl;exact cK)
  |fail)
 simp only[<-q];clear q O;go_loopw [3,4,5,7] (fun v bo bq i wr=>∃k:Nat,i=.int .i64 k/\k<=16/\Below w.heap.size w wr/\∃s,cO wr w.heap.size v s/\Hid (s=if k=0 then []else aI m)) (fun _ _ _ i _=>16-(intOf i).toNat)
 case atStart=>exact⟨0,rfl,aK _,S.o,[],cR _ _ _ _,rfl⟩
 case round=>
 obtain⟨k,rfl,H,a,s,b,o⟩:=hrel;obtain⟨R,Q,rfl⟩:=ly b;by_cases a0:k<16
 ·have an:decide ((k:Int)<16)=true:=aM
  have be:(k:Int)<16:=ad;have bd:(0:Int)<=k:=ad;have av:=V.o k a0;obtain⟨x,g⟩:=aj (if k=0 then m else 0);rw[<-g]at av;have L:x<18446744073709551616:=by rw[g];split;exact T.o;decide
  have C:Hid (s++aI x=aI m):=by
   unfold Hid;rw[o.o,g];split
   ·rfl
   ·rw[tj,qF]
  have D:Hid (x≠0->k=0):=fun aa=>by apply fq;intro a1;exact aa (by rw[g,ap a1])
  clear g o
  go_wp2
  go_loopw [3,5] (fun v B wr=>∃(y:Nat) (s:List Nat),B=.int .u64 (y:Nat)/\y<18446744073709551616/\Below w.heap.size w wr/\cO wr w.heap.size v s/\Hid (s++aI y=aI m)/\Hid (y≠0->k=0)) (fun _ B _=>(intOf B).toNat)
  case atStart=>exact⟨x,s,rfl,L,a,b,C,D⟩
  case round=>
  clear a b L C D;obtain⟨y,s,rfl,n,a,b,h,W⟩:=hrel;obtain⟨R,Q,rfl⟩:=ly b;by_cases d:y=0
  ·obtain rfl:s=aI m:=by have:=h.o;rwa[d,tj,qF]at this
   have a4:((y:Int)==0)=true:=mq;clear d
   go_wp2
   go_roundw
   case rel=>exact⟨k+1,aG,ad,a,aI m,b,by unfold Hid;rw[ap ad]⟩
   case measure=>exact aH
  ·have a4:((y:Int)==0)=false:=dX
   have t:=W.o d;have A:=fun e (ag:Below wr.heap.size wr e)=>Cz y n d e (ae.below (a.trans (ag.mono a.size)));have r:=Af d n;have al:=(vM d n).1;have af:bits .and .u64 (y:Int) (((y-1:Nat)):Int)=((y&&&(y-1):Nat):Int):=za y (y-1) n ad;have bm:IntKind.u64.wrap ((y:Int)-1)=((y-1:Nat):Int):=by rw[show((y:Int)-1)=((y-1:Nat):Int) by omega];exact IntWalk.u64_in _ ad
   have u:y&&&(y-1)<=y-1:=FH;have bl:s.length<=64:=by
    have ab:=iK List.length h.o;rw[cm]at ab;have bc:(aI m).length<=64:=by unfold aI;have:=me m.testBit (List.range 64);simpa using this
    omega
   obtain⟨c,G⟩:=aj (Lib.ctz 64 y);rw[<-G]at A al r;have F:Hid ((s++[c])++aI (y&&&(y-1))=aI m):=by unfold Hid;rw[<-h.o,r,qG];rfl
   obtain⟨bb,M⟩:=aj (y&&&(y-1));rw[<-M]at af u F;obtain⟨Y,E,X⟩:=bO d u t;have K:=A wr (aA _ wr);have bf:(k:Int)*64=0:=by rw[t];rfl
   clear r G M h d u A t;go_wp2_with fail
   refine K.mono ?_;rintro l w1 ⟨rfl,f⟩;subst f;clear K;have J:w1.ownsRow w.heap.size 3 1 (.slice R s.length Q) s.length (fj s):=b;have a3:=dA J (.cells #[.int .i64 (c:Nat)] 3);have bi:=a.size;go_wp2_with(first
    |(at_builtin;go_must (refine gY _ rfl _ _ 53 rfl w.heap.size 3 a9 (.int .i64 0) 1 8 ke aq a5 a6 a7 rfl aw _ _ _ rfl a3 ⟨w1.heap.size,0,none⟩ 1 1 [.int .i64 (c:Nat)] rfl rfl (dt _ [.int .i64 (c:Nat)] _ _ (by first|rfl|simp)) (fun z N=>by simp at N;subst N;rfl) bN ad aO ?_);intro bt bu a2 ao bg)
    |go_in)
   go_roundw
   case rel=>
    refine⟨bb,s++[c],rfl,by have:=E.o;omega,(a.alloc a.size _).grown ao aO (fun j l=>(bX J j l).1),?_,F,fun _=>X.o⟩;unfold cO;rw[cm];show World.ownsRow _ _ _ _ _ _ ((s++[c]).map fun k=>Value.int .i64 (k:Nat))
    rw[fd];exact a2
   case measure=>have:=E.o;have:=Y.o;simp[intOf];omega
 ·have an:decide ((k:Int)<16)=false:=aJ
  obtain rfl:s=aI m:=by have:=o.o;rwa[ap ad]at this
  go_wp2
  go_ret;exact⟨⟨_,rfl,b⟩,a⟩
end Go.Proofs.YtbacloblanpghaaGreatDoor
