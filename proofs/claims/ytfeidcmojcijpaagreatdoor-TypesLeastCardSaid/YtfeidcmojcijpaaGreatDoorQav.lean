import Derived.Test.YtfeidcmojcijpaaGreatDoorQat
set_option linter.all false
set_option maxRecDepth 100000
set_option maxHeartbeats 0
namespace Go.Proofs.YtfeidcmojcijpaaGreatDoor
open Go.RowKit Tryz
def kx:(prog.info? 233).map (·.size)=some 16:=az
def ti w1:aR w1 (cT w1 fe 233)/\(w1.alloc (.cells fe 233)).rangeAt w1 0 (setRow 0)/\(w1.alloc (.cells fe 233)).there w1 0 16/\(w1.alloc (.cells fe 233))=w1.heap.size+1:=
 vd w1 _
structure oQ(w wr:World)(m:Nat):Prop where
 base:Below w.heap.size w wr
 size:w.heap.size+2<=wr.heap.size
 out:wr.rangeAt (w.heap.size+1) 0 (setRow m)
 outT:wr.there (w.heap.size+1) 0 16
 resT:wr.there w.heap.size 0 16
def oQ.O{w wr c:World}{m:Nat}(a:oQ w wr m)(b:Below wr.heap.size wr c):oQ w c m:=
 ⟨a.base.Z (b.zz a.base.size),aW a.size b.size,jA a.out b,kr a.outT b,kr a.resT b⟩
def oQ.wrote{w wr c:World}{m q:Nat}(a:oQ w wr m)(b:gF wr c (w.heap.size+1) 0 (.int .u64 (q:Nat))):oQ w c q:=
 ⟨b.row.O a.base ad,b.size▸a.size,A9 (b.set (gd a.out)),b.row.there a.outT,b.row.there a.resT⟩
def Qf w:oQ w (cT (w.alloc (.cells fe 233)) fe 233) 0:=by obtain⟨a,_,e,d⟩:=ti w;obtain⟨h,g⟩:=am (w.alloc (.cells fe 233));rw[<-g]at a e d⊢;obtain⟨b,c,f,i⟩:=ti h;rw[d]at c f;exact⟨a.Z (b.zz ad),ad,c,f,kr e b⟩
def dS(l:List Nat):Nat:=l.foldl kJ 0
def Gg{l:List Nat}(b:∀x∈l,x<64):∀m,m<18446744073709551616->l.foldl kJ m<18446744073709551616:=by
 induction l with
 |nil=>intro m a;exact a
 |cons x l ih=>intro m a;exact ih (fun y c=>b y (dM _ c)) _ (Lb a (b x (eV ..)))
def Qg(l:List Nat):∀m j,(l.foldl kJ m).testBit j=(m.testBit j||decide (j∈l)):=by
 induction l with
 |nil=>intro m j;simp
 |cons x l ih=>
  intro m j;rw[oA,ih,Lc];by_cases e:x=j;subst e;simp;have:¬j=x:=fun a=>e a.zy;simp[e,this]
def vh(a:List Nat)(o:Option Addr)(c:Nat)(w:World)(i:lp w o c a)(W:a.length<=1048576)(A:∀x∈a,x<64):
 Calls prog 152 #[.slice o a.length c] w fun e w'=>e=.returned (.agg (setRow (dS a)).toArray)/\Below w.heap.size w w':=by
 have C:=i.2.2.1;unfold maxLen at C;have P:=i.2.1;have j:=Qf w;obtain⟨w1,d⟩:=am ((w.alloc (.cells fe 233)).alloc (.cells fe 233));rw[<-d]at j;obtain⟨q,p⟩:=aC j A;clear j A;go_enter func152,ntmps152
 go_wp2_with(first
  |(rw[<-d];clear d)
  |fail)
 go_loopw [5,8] (fun _ l wr=>∃k:Nat,l=.int .i64 k/\k<=a.length/\Hid (oQ w wr (dS (a.take k)))) (fun _ l _=>a.length-(intOf l).toNat)
 case atStart=>exact⟨0,rfl,aH _,q.o⟩
 case round=>
 clear q;obtain⟨k,rfl,S,b⟩:=hrel;by_cases f:k<a.length
 ·have D:=bC f
  have V:=bk f;have T:=aL k;obtain⟨x,h⟩:=aT f;obtain⟨g,aa,rfl,Q,Z⟩:=(i.O b.o.base).at h;have v:=p.o x (aK h);have I:(x:Int).tdiv 64=0:=by rw[Dp ad];omega
  have J:(x:Int).tmod 64=(x:Int):=by rw[KL ad];omega
  have H:IntKind.i64.wrap 0=0:=rfl;have N:IntKind.i64.wrap (x:Int)=(x:Int):=ox _ ad;have O:min x 64=x:=ad;have F:dS (a.take k)<18446744073709551616:=Gg (fun y G=>p.o y (Kf G)) 0 aq;have K:=DN v;have M:=DO F v;have R:=aL x;have z:dS (a.take (k+1))=kJ (dS (a.take k)) x:=by unfold dS;rw[bH,h,fp,KJ];rfl
  have s:=(gd b.o.out).1;have u:=(b.o.outT 0 ad).2;have B:=ah z;clear z h;generalize dS (a.take k)=m at*;go_wp2_with fail
  go_still_tail 9,az
  change wpList _ _ _ _ _ (World.drew wr);have t:wr.drew.cell? ⟨w.heap.size+1,0,none⟩=some (.int .u64 (m:Nat)):=s;have E:wr.drew.frozen? ⟨w.heap.size+1,0,none⟩=false:=u;have n:Hid (oQ w wr.drew m):=b.o.O ((aA _ wr).drew);generalize d:wr.drew=w1 at t E n⊢;clear d s u b
  go_wp2
  go_roundw
  case rel=>exact⟨k+1,aD,ad,by rw[B.o];exact n.o.wrote (nW (k:=0) t)⟩
  case measure=>exact aM
 have D:=bG f;obtain rfl:k=a.length:=ad;rw[bI (ay _)]at b;have X:=b.o.out;have Y:=b.o.resT;go_wp2_with(first
  |(refine lJ ?_)
  |((refine nj ?_);intro ab r)
  |fail)
 (try simp only[Exit.inBlock,Exit.then])
 refine cQ (jm rfl _ _ w.heap.size 0 _ _ rfl r.zn l4 rfl kx) rfl ?_;exact⟨rfl,r.O b.o.base ad⟩
structure p8(w wr:World)(m2 m:Nat):Prop where
 base:Below w.heap.size w wr
 size:w.heap.size+3<=wr.heap.size
 out:wr.rangeAt w.heap.size 0 (setRow m)
 outT:wr.there w.heap.size 0 16
 two:wr.rangeAt (w.heap.size+1) 0 (setRow m2)
 resT:wr.there (w.heap.size+1+1) 0 16
def Bt w1 m:aR w1 (cT w1 (setRow m) 233)/\(w1.alloc (.cells (setRow m) 233)).rangeAt w1 0 (setRow m)/\(w1.alloc (.cells (setRow m) 233)).there w1 0 16/\(w1.alloc (.cells (setRow m) 233))=w1.heap.size+1:=
 ⟨aP,pX (aN w1 _),oO (aN w1 _) (ay _),aj⟩
def p8.wrote{w wr c:World}{d m q k:Nat}{v:Value}(a:p8 w wr d m)(b:gF wr c w.heap.size k v)(e:c.rangeAt w.heap.size 0 (setRow q)):p8 w c d q:=
 ⟨b.row.O a.base ad,b.size▸a.size,e,b.row.there a.outT,b.row.range a.two (.inl ad),b.row.there a.resT⟩
def Gh w m m2:p8 w (cT ((w.alloc (.cells (setRow m) 233)).alloc (.cells (setRow m2) 233)) fe 233) m2 m:=by obtain⟨e,f,h,d⟩:=Bt w m;obtain⟨l,n⟩:=am (w.alloc (.cells (setRow m) 233));rw[<-n]at e f h d⊢;obtain⟨a,c,i,g⟩:=Bt l m2;obtain⟨q,o⟩:=am (l.alloc (.cells (setRow m2) 233));rw[<-o]at a c i g⊢;obtain⟨b,p,j,r⟩:=ti q;rw[d]at c i;rw[g,d]at p j;exact⟨(e.Z (a.zz ad)).Z (b.zz ad),ad,jA (jA f a) b,kr (kr h a) b,jA c b,j⟩
def Bu m k(a:k<16) wz:(Instr.index 233 (.agg (setRow m)) (.int .i64 (k:Nat))).run prog wz=.ok (.int .u64 (if k=0 then m else 0:Nat)) wz:=by rcases(show k=0∨k=1∨k=2∨k=3∨k=4∨k=5∨k=6∨k=7∨k=8∨k=9∨k=10∨k=11∨k=12∨k=13∨k=14∨k=15 by omega)with rfl|rfl|rfl|rfl|rfl|rfl|rfl|rfl|rfl|rfl|rfl|rfl|rfl|rfl|rfl|rfl<;>kernel_rfl
def yw{w wr m m2 m3 k y q}(l:k<16)(d:p8 w wr m2 m)(n:y=if k=0 then m else 0)(f:gC wr w k (.int .u64 y)->q=if k=0 then m3 else 0)(i:k≠0->m3=m):
 p8 w (wr.setCell ⟨w,k,none⟩ (.int .u64 q)) m2 m3:=by
 have b:=gd d.out;have c:wr.cell? ⟨w.heap.size,k,none⟩=some (.int .u64 (y:Nat)):=by rw[n];split;rename_i e;subst e;exact b.1;have:=b.2 k ad l;rwa[cH]at this
 have a:gF wr (wr.setCell ⟨_,k,none⟩ (.int .u64 q)) w k (.int .u64 q):=nW (k:=0) c;refine d.wrote a (A9 ⟨?_,fun j g h=> ?_⟩);by_cases e:k=0;subst e;rw[a.zn,f c,au rfl];rw[a.other 0 ad,i e];exact b.1;rw[cH];by_cases e:j=k;subst e;rw[a.zn,f c,ap ad];rfl;rw[a.other j e];have:=b.2 j g h;rwa[cH]at this
def yx(m a:Nat)(w:World)(E:m<18446744073709551616)(F:a<18446744073709551616):
 Calls prog 151 #[.agg (setRow m).toArray,.agg (setRow a).toArray] w fun e w'=>e=.returned (.agg (setRow (m|||a)).toArray)/\Below w.heap.size w w':=by
 have h:=Gh w m a;obtain⟨w1,p⟩:=am (((w.alloc (.cells (setRow m).toArray 233)).alloc (.cells (setRow a).toArray 233)).alloc (.cells fe 233));rw[<-p]at h;have s:=ah h;have G:=h.two;clear h;obtain⟨B,n⟩:=am ((setRow a).toArray);have t:∀(k:Nat),k<16->∀l,(Instr.index 233 (.agg B) (.int .i64 (k:Nat))).run prog l=.ok (.int .u64 ((if k=0 then a else 0:Nat):Int)) l:=fun k v l=>by rw[n];exact Bu a k v l
 have A:=ah t;clear t;go_enter func151,ntmps151
 go_wp2_with(first
  |(rw[<-p];clear p)
  |(refine lJ ?_)
  |fail)
 simp only[<-n];clear n G;go_loopw [5,6,8] (fun _ _ q wr=>∃k:Nat,q=.int .i64 k/\k<=16/\Hid (p8 w wr a (if k=0 then m else m|||a))) (fun _ _ q _=>16-(intOf q).toNat)
 case atStart=>exact⟨0,rfl,aH _,s.o⟩
 case round=>
 clear s;obtain⟨k,rfl,v,c⟩:=hrel;by_cases f:k<16
 ·have C:decide ((k:Int)<16)=true:=bT
  have K:(k:Int)<16:=ad;have J:=aL k;have D:=A.o k f;obtain⟨x,i⟩:=am (if k=0 then a else 0);obtain⟨y,j⟩:=am (if k=0 then m else 0);rw[<-i]at D;have o:=gd c.o.out;have P:wr.cell? ⟨w.heap.size,k,none⟩=some (.int .u64 (y:Nat)):=by rw[j];split;rename_i e;subst e;exact o.1;have:=o.2 k ad f;rw[cH,ap ‹_›]at*;exact this
  have Q:wr.frozen? ⟨w.heap.size,k,none⟩=false:=by have:=(c.o.outT k f).2;rwa[cH]at this
  have H:x<18446744073709551616:=by rw[i];split;exact F;decide
  have I:y<18446744073709551616:=by rw[j];split;exact E;decide
  have M:bits .or .u64 (y:Int) (x:Int)=((y|||x:Nat):Int):=Kj y x I H;obtain⟨r,g⟩:=aC i j;clear i j o
  go_wp2
  go_roundw
  case rel=>
   refine⟨k+1,aD,ad,?_⟩;unfold Hid;rw[ap ad];by_cases e:k=0;subst e;have b:=c.o;rw[au rfl]at b;exact yw f b g.o (fun _=>by rw[r.o,g.o];rfl) (fun b=>absurd rfl b);have b:=c.o;rw[ap e]at b;exact yw (y:=y) f b (by rw[g.o,ap e,ap e]) (fun _=>by rw[r.o,g.o,ap e,ap e,ap e];rfl) (fun _=>rfl)
  case measure=>exact aM
 have C:decide ((k:Int)<16)=false:=bU;have d:=c.o;rw[ap ad]at d;have z:=ah d;have N:=d.out;have O:=d.resT;clear d c;go_wp2_with(first
  |(refine lJ ?_)
  |((refine nj ?_);intro R u)
  |fail)
 (try simp only[Exit.inBlock,Exit.then])
 refine cQ (jm rfl _ _ (w.heap.size+1+1) 0 _ _ rfl u.zn l4 rfl kx) rfl ?_;exact⟨rfl,u.O z.o.base ad⟩
def Bw(m a:Nat)(w:World)(E:m<18446744073709551616)(F:a<18446744073709551616):
 Calls prog 158 #[.agg (setRow m).toArray,.agg (setRow a).toArray] w fun e w'=>e=.returned (.agg (setRow (m&&&a)).toArray)/\Below w.heap.size w w':=by
 have h:=Gh w m a;obtain⟨w1,p⟩:=am (((w.alloc (.cells (setRow m).toArray 233)).alloc (.cells (setRow a).toArray 233)).alloc (.cells fe 233));rw[<-p]at h;have s:=ah h;have G:=h.two;clear h;obtain⟨B,n⟩:=am ((setRow a).toArray);have t:∀(k:Nat),k<16->∀l,(Instr.index 233 (.agg B) (.int .i64 (k:Nat))).run prog l=.ok (.int .u64 ((if k=0 then a else 0:Nat):Int)) l:=fun k v l=>by rw[n];exact Bu a k v l
 have A:=ah t;clear t;go_enter func158,ntmps158
 go_wp2_with(first
  |(rw[<-p];clear p)
  |(refine lJ ?_)
  |fail)
 simp only[<-n];clear n G;go_loopw [5,6,8] (fun _ _ q wr=>∃k:Nat,q=.int .i64 k/\k<=16/\Hid (p8 w wr a (if k=0 then m else m&&&a))) (fun _ _ q _=>16-(intOf q).toNat)
 case atStart=>exact⟨0,rfl,aH _,s.o⟩
 case round=>
 clear s;obtain⟨k,rfl,v,c⟩:=hrel;by_cases f:k<16
 ·have C:decide ((k:Int)<16)=true:=bT
  have K:(k:Int)<16:=ad;have J:=aL k;have D:=A.o k f;obtain⟨x,i⟩:=am (if k=0 then a else 0);obtain⟨y,j⟩:=am (if k=0 then m else 0);rw[<-i]at D;have o:=gd c.o.out;have P:wr.cell? ⟨w.heap.size,k,none⟩=some (.int .u64 (y:Nat)):=by rw[j];split;rename_i e;subst e;exact o.1;have:=o.2 k ad f;rw[cH,ap ‹_›]at*;exact this
  have Q:wr.frozen? ⟨w.heap.size,k,none⟩=false:=by have:=(c.o.outT k f).2;rwa[cH]at this
  have H:x<18446744073709551616:=by rw[i];split;exact F;decide
  have I:y<18446744073709551616:=by rw[j];split;exact E;decide
  have M:bits .and .u64 (y:Int) (x:Int)=((y&&&x:Nat):Int):=C3 y x I H;obtain⟨r,g⟩:=aC i j;clear i j o
  go_wp2
  go_roundw
  case rel=>
   refine⟨k+1,aD,ad,?_⟩;unfold Hid;rw[ap ad];by_cases e:k=0;subst e;have b:=c.o;rw[au rfl]at b;exact yw f b g.o (fun _=>by rw[r.o,g.o];rfl) (fun b=>absurd rfl b);have b:=c.o;rw[ap e]at b;exact yw (y:=y) f b (by rw[g.o,ap e,ap e]) (fun _=>by rw[r.o,g.o,ap e,ap e,ap e];rfl) (fun _=>rfl)
  case measure=>exact aM
 have C:decide ((k:Int)<16)=false:=bU;have d:=c.o;rw[ap ad]at d;have z:=ah d;have N:=d.out;have O:=d.resT;clear d c;go_wp2_with(first
  |(refine lJ ?_)
  |((refine nj ?_);intro R u)
  |fail)
 (try simp only[Exit.inBlock,Exit.then])
 refine cQ (jm rfl _ _ (w.heap.size+1+1) 0 _ _ rfl u.zn l4 rfl kx) rfl ?_;exact⟨rfl,u.O z.o.base ad⟩
def Gi(m:Nat)(w:World)(r:Gl w)(h:m<18446744073709551616):
 Calls prog 156 #[.agg (setRow m).toArray] w fun e w'=>(∃v,e=.returned v/\bW w' w.heap.size v (aG m))/\Below w.heap.size w w':=by
 obtain⟨K,G,H,I,J⟩:=cZ lm;obtain⟨w1,g⟩:=am (w.alloc (.cells (setRow m).toArray 233));obtain⟨a,l,n,b⟩:=Bt w m;rw[<-g]at a l n b;obtain⟨o,b⟩:=am ((setRow m).toArray);have q:Hid (∀(k:Nat),k<16->∀f,(Instr.index 233 (.agg o) (.int .i64 (k:Nat))).run prog f=.ok (.int .u64 ((if k=0 then m else 0:Nat):Int)) f):=fun k d f=>by rw[b];exact Bu m k d f
 obtain⟨p,o⟩:=aC h a;clear h n a;go_enter func156,ntmps156
 go_wp2_with(first
  |(rw[<-g];clear g)
  |(refine lJ ?_)
  |fail)
 simp only[<-b];clear b l;go_loopw [3,4,5,7] (fun v a b i wr=>∃k:Nat,i=.int .i64 k/\k<=16/\Below w.heap.size w wr/\∃s,bW wr w.heap.size v s/\Hid (s=if k=0 then []else aG m)) (fun _ _ _ i _=>16-(intOf i).toNat)
 case atStart=>exact⟨0,rfl,aH _,o.o,[],cW _ _ _ _,rfl⟩
 case round=>
 obtain⟨k,rfl,d,a,s,b,n⟩:=hrel;obtain⟨C,B,rfl⟩:=nK b;by_cases d:k<16
 ·have F:decide ((k:Int)<16)=true:=bT
  have h:(k:Int)<16:=ad;have h:=aL k;have h:=q.o k d;obtain⟨x,d⟩:=am (if k=0 then m else 0);rw[<-d]at h;have o:x<18446744073709551616:=by rw[d];split;exact p.o;decide
  have h:Hid (s++aG x=aG m):=by unfold Hid;rw[n.o,d];split;rfl;rw[qL,wI]
  have l:Hid (x≠0->k=0):=fun p=>by apply dU;intro q;exact p (by rw[d,ap q])
  clear d n
  go_wp2
  go_loopw [3,5] (fun v d wr=>∃(y:Nat) (s:List Nat),d=.int .u64 (y:Nat)/\y<18446744073709551616/\Below w.heap.size w wr/\bW wr w.heap.size v s/\Hid (s++aG y=aG m)/\Hid (y≠0->k=0)) (fun _ d _=>(intOf d).toNat)
  case atStart=>exact⟨x,s,rfl,o,a,b,h,l⟩
  case round=>
  clear a b o h l;obtain⟨y,s,rfl,l,a,b,h,p⟩:=hrel;obtain⟨C,B,rfl⟩:=nK b;by_cases d:y=0
  ·obtain rfl:s=aG m:=by have:=h.o;rwa[d,qL,wI]at this
   have o:((y:Int)==0)=true:=qQ;clear d
   go_wp2
   go_roundw
   case rel=>exact⟨k+1,aD,ad,a,aG m,b,by unfold Hid;rw[ap ad]⟩
   case measure=>exact aM
  ·have o:((y:Int)==0)=false:=fU
   have o:=p.o d;have p:=fun f (q:Below wr.heap.size wr f)=>FR y l d f (r.O (a.Z (q.zz a.size)));have f:=DM d l;have r:=(z8 d l).1;have u:bits .and .u64 (y:Int) (((y-1:Nat)):Int)=((y&&&(y-1):Nat):Int):=C3 y (y-1) l ad;have l:IntKind.u64.wrap ((y:Int)-1)=((y-1:Nat):Int):=by rw[show((y:Int)-1)=((y-1:Nat):Int) by omega];exact IntWalk.u64_in _ ad
   have l:y&&&(y-1)<=y-1:=KM;have q:s.length<=64:=by
    have q:=gA List.length h.o;rw[ck]at q;have q:(aG m).length<=64:=by unfold aG;have:=lf m.testBit (List.range 64);simpa using this
    omega
   obtain⟨c,t⟩:=am (Lib.ctz 64 y);rw[<-t]at p r f;have r:Hid ((s++[c])++aG (y&&&(y-1))=aG m):=by unfold Hid;rw[<-h.o,f,qF];rfl
   obtain⟨M,A⟩:=am (y&&&(y-1));rw[<-A]at u l r;obtain⟨E,q,D⟩:=bm d l o;have u:=p wr (aA _ wr);have N:(k:Int)*64=0:=by rw[o];rfl
   clear f t A h d l p o;go_wp2_with fail
   refine ar u ?_;intro w1 g;subst g;clear u;have d:w1.ownsRow w.heap.size 3 1 (.slice C s.length B) s.length (fB s):=b;have l:=dp d (.cells #[.int .i64 (c:Nat)] 3);have f:=a.size;go_wp2_with(first
    |(at_builtin;go_must (refine iV _ rfl _ _ 41 rfl w.heap.size 3 K (.int .i64 0) 1 8 j9 G H I J rfl aq _ _ _ rfl l ⟨w1.heap.size,0,none⟩ 1 1 [.int .i64 (c:Nat)] rfl rfl (eq _ [.int .i64 (c:Nat)] _ _ (by first|rfl|simp)) (fun z f=>by simp at f;subst f;rfl) bO ad aO ?_);intro p t h g o)
    |go_in)
   go_roundw
   case rel=>
    refine⟨M,s++[c],rfl,by have:=q.o;omega,(a.alloc a.size _).zu g aO (fun j e=>(aY d j e).1),?_,r,fun _=>D.o⟩;unfold bW;rw[ck];show World.ownsRow _ _ _ _ _ _ ((s++[c]).map fun k=>Value.int .i64 (k:Nat))
    rw[gL];exact h
   case measure=>have:=q.o;have:=E.o;simp[intOf];omega
 have F:decide ((k:Int)<16)=false:=bU;obtain rfl:s=aG m:=by have:=n.o;rwa[ap ad]at this
 go_wp2
 go_ret;exact⟨⟨_,rfl,b⟩,a⟩
end Go.Proofs.YtfeidcmojcijpaaGreatDoor
