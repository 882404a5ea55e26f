import Derived.Test.YtbacloblanpghaaGreatDoorQau
set_option linter.unusedVariables false
set_option linter.unusedSimpArgs false
set_option maxRecDepth 100000
set_option maxHeartbeats 0
namespace Go.Proofs.YtbacloblanpghaaGreatDoor
open Go.RowKit Tryz
theorem xF(b c m i:Nat)(w:World)(f:i<64)(g:m<18446744073709551616)(l:w.cell? ⟨b,c,none⟩=some (.int .u64 (m:Nat))):
 Calls prog 115 #[.pointer (some ⟨b,c,none⟩),.int .i64 (i:Nat)] w fun d w'=>d=.returned (.bool (m.testBit i))/\w'=w:=by
 have h:(i:Int).tdiv 64=0:=by rw[zU ad];omega
 have j:(i:Int).tmod 64=(i:Int):=by rw[FG ad];omega
 have e:=F1 g f;obtain⟨q,a⟩:=aj (m.testBit i);rw[<-a]at e⊢;clear a;have n:(0:Int)<=i:=ad;go_enter func115,ntmps115
 go_wp2
 go_ret;exact⟨rfl,rfl⟩
theorem Cy(b a m i:Nat)(w:World)(c:i<64)(j:m<18446744073709551616)(e:w.cell? ⟨b,a,none⟩=some (.int .u64 (m:Nat)))(g:w.frozen? ⟨b,a,none⟩=false):
 Calls prog 170 #[.pointer (some ⟨b,a,none⟩),.int .i64 (i:Nat)] w fun d w'=>d=.returned (.tuple #[])/\∃k,w'=(w.drewN k).setCell ⟨b,a,none⟩ (.int .u64 (jg m i:Nat)):=by
 have n:(i:Int).tdiv 64=0:=by rw[zU ad];omega
 have o:(i:Int).tmod 64=(i:Int):=by rw[FG ad];omega
 have l:IntKind.i64.wrap 0=0:=rfl;have r:IntKind.i64.wrap (i:Int)=(i:Int):=lp _ ad;have s:min i 64=i:=ad;have p:=Ag c;have q:=Ah j c;have t:(0:Int)<=i:=ad;go_enter func170,ntmps170
 go_wp2_with fail
 go_still_tail 12,ay
 change wpList _ _ _ _ _ (World.drew w);have f:w.drew.cell? ⟨b,a,none⟩=some (.int .u64 (m:Nat)):=e;have h:w.drew.frozen? ⟨b,a,none⟩=false:=g;generalize hw1:w.drew=w1 at f h⊢
 go_wp2
 go_end0
 exact⟨rfl,1,by rw[<-hw1];rfl⟩
theorem Lh(x k a:Nat)(w:World)(f:((x:Int)==0)=false)
 (key:IntKind.u64.wrap (bits BinOp.and IntKind.u64 (x:Int) (IntKind.u64.wrap (-(x:Int)))*285870213051353865)/288230376151711744=(a:Int))
 (d:a<64) (e:k<64) (c:w.cell? ⟨0,a,none⟩=some (.int .u8 (k:Nat))):
 Calls prog 173 #[.int .u64 (x:Nat)] w fun b w'=>b=.returned (.int .i64 (k:Nat))/\w'=w:=by
 go_enter func173,ntmps173
 go_wp2_with(simp only[key])
 go_ret;exact⟨rfl,rfl⟩
theorem Cz(x:Nat)(d:x<18446744073709551616)(e:x≠0)(w:World)(g:Gl w):
 Calls prog 173 #[.int .u64 (x:Nat)] w fun f w'=>f=.returned (.int .i64 (Lib.ctz 64 x:Nat))/\w'=w:=by
 obtain⟨h,c⟩:=Lib.lowest_bit 64 x e d;obtain⟨b,i⟩:=Lib.deBruijn64_at _ c;have a:=g.tab _ b;rw[i]at a;exact Lh x _ _ w (by rw[cW];omega) (tz64_key x _ d e h) b c a
def ph(w:World)(b a m:Nat):Prop:=w.cell? ⟨b,a,none⟩=some (.int .u64 (m:Nat))/\∀j,1<=j->j<16->w.cell? ⟨b,a+j,none⟩=some (.int .u64 0)
def CA(w:World)(b a:Nat):Prop:=∀j,j<16->w.frozen? ⟨b,a+j,none⟩=false
theorem uw(b r m:Nat)(w:World)(al:Gl w)(u:b<w.heap.size)(P:m<18446744073709551616)(n:ph w b r m):
 Calls prog 112 #[.pointer (some ⟨b,r,none⟩)] w fun f w'=>(∃v,f=.returned v/\cO w' w.heap.size v (aI m))/\Below w.heap.size w w':=by
 have a4:=n.1;have R:=n.2;obtain⟨bc,a0,a9,ba,bb⟩:=cL lu;obtain⟨I,be,Z⟩:=bO n R P;clear n R P;go_enter func112,ntmps112
 go_wp2
 go_loopw [3,4,5,7] (fun v bw bz i wr=>∃k:Nat,i=.int .i64 k/\k<=16/\Below w.heap.size w wr/\∃s,cO wr w.heap.size v s/\Hid (s=if k=0 then []else aI m)) (fun _ _ _ i _=>16-(intOf i).toNat)
 case atStart=>exact⟨0,rfl,aK _,aA _ _,[],cR _ _ _ _,rfl⟩
 case round=>
 obtain⟨k,rfl,bg,a,s,d,t⟩:=hrel;obtain⟨H,G,rfl⟩:=ly d;by_cases a1:k<16
 ·have aq:decide ((k:Int)<16)=true:=aM
  have bl:(k:Int)<16:=ad;have bi:(0:Int)<=k:=ad;obtain⟨x,E⟩:=aj (if k=0 then m else 0);have a6:wr.cell? ⟨b,r+k,none⟩=some (.int .u64 (x:Nat)):=by
   rw[a.cell (p:=⟨b,r+k,none⟩) u,E];split
   ·rename_i f;subst f;exact I.o.1
   ·exact I.o.2 k ad a1
  have g:=ah E;clear E
  go_wp2
  go_quiet(fail)
  obtain⟨X,o⟩:=aj (wr.drewN nq);have N:Below w.heap.size w X:=by rw[o];exact dm a nq
  have l:cO X w.heap.size (.slice H s.length G) s:=by rw[o];exact rF d (dm (aA _ wr) nq)
  rw[<-o];clear o d a a6;have T:x<18446744073709551616:=by rw[g.o];split;exact Z.o;decide
  have J:Hid (s++aI x=aI m):=by
   unfold Hid;rw[t.o,g.o];split
   ·rfl
   ·rw[tj,qF]
  have K:Hid (x≠0->k=0):=fun af=>by apply fq;intro a2;exact af (by rw[g.o,ap a2])
  clear g t a4
  go_wp2
  go_loopw [3,5] (fun v F wr=>∃(y:Nat) (s:List Nat),F=.int .u64 (y:Nat)/\y<18446744073709551616/\Below w.heap.size w wr/\cO wr w.heap.size v s/\Hid (s++aI y=aI m)/\Hid (y≠0->k=0)) (fun _ F _=>(intOf F).toNat)
  case atStart=>exact⟨x,s,rfl,T,N,l,J,K⟩
  case round=>
  clear N l T J K;obtain⟨y,s,rfl,q,a,d,h,aa⟩:=hrel;obtain⟨H,G,rfl⟩:=ly d;by_cases e:y=0
  ·obtain rfl:s=aI m:=by have:=h.o;rwa[e,tj,qF]at this
   have a7:((y:Int)==0)=true:=mq;clear e
   go_wp2
   go_roundw
   case rel=>exact⟨k+1,aG,ad,a,aI m,d,by unfold Hid;rw[ap ad]⟩
   case measure=>exact aH
  ·have a7:((y:Int)==0)=false:=dX
   have B:=aa.o e;have D:=fun Y (u:Below wr.heap.size wr Y)=>Cz y q e Y (al.below (a.trans (u.mono a.size)));have A:=Af e q;have ao:=(vM e q).1;have an:bits .and .u64 (y:Int) (((y-1:Nat)):Int)=((y&&&(y-1):Nat):Int):=za y (y-1) q ad;have bu:IntKind.u64.wrap ((y:Int)-1)=((y-1:Nat):Int):=by rw[show((y:Int)-1)=((y-1:Nat):Int) by omega];exact IntWalk.u64_in _ ad
   have C:y&&&(y-1)<=y-1:=FH;have bt:s.length<=64:=by
    have ag:=iK List.length h.o;rw[cm]at ag;have bf:(aI m).length<=64:=by unfold aI;have:=me m.testBit (List.range 64);simpa using this
    omega
   obtain⟨c,O⟩:=aj (Lib.ctz 64 y);rw[<-O]at D ao A;have M:Hid ((s++[c])++aI (y&&&(y-1))=aI m):=by unfold Hid;rw[<-h.o,A,qG];rfl
   obtain⟨bd,V⟩:=aj (y&&&(y-1));rw[<-V]at an C M;obtain⟨ae,L,ab⟩:=bO e C B;have S:=D wr (aA _ wr);have bm:(k:Int)*64=0:=by rw[B];rfl
   clear A O V h e C D B;go_wp2_with fail
   refine S.mono ?_;rintro f w1 ⟨rfl,a5⟩;subst a5;clear S;have Q:w1.ownsRow w.heap.size 3 1 (.slice H s.length G) s.length (fj s):=d;have l:=dA Q (.cells #[.int .i64 (c:Nat)] 3);have bq:=a.size;go_wp2_with(first
    |(at_builtin;go_must (refine gY _ rfl _ _ 53 rfl w.heap.size 3 bc (.int .i64 0) 1 8 ke a0 a9 ba bb rfl aw _ _ _ rfl l ⟨w1.heap.size,0,none⟩ 1 1 [.int .i64 (c:Nat)] rfl rfl (dt _ [.int .i64 (c:Nat)] _ _ (by first|rfl|simp)) (fun z W=>by simp at W;subst W;rfl) bN ad aO ?_);intro bA bB a3 av bo)
    |go_in)
   go_roundw
   case rel=>
    refine⟨bd,s++[c],rfl,by have:=L.o;omega,(a.alloc a.size _).grown av aO (fun j f=>(bX Q j f).1),?_,M,fun _=>ab.o⟩;unfold cO;rw[cm];show World.ownsRow _ _ _ _ _ _ ((s++[c]).map fun k=>Value.int .i64 (k:Nat))
    rw[fd];exact a3
   case measure=>have:=L.o;have:=ae.o;simp[intOf];omega
 ·have aq:decide ((k:Int)<16)=false:=aJ
  obtain rfl:s=aI m:=by have:=t.o;rwa[ap ad]at this
  go_wp2
  go_ret;exact⟨⟨_,rfl,d⟩,a⟩
structure fm(w w':World)(b off:Nat)(v:Value):Prop where
 os:w'.os=w.os
 tape:w'.tape=w.tape
 output:w'.output=w.output
 size:w'.heap.size=w.heap.size
 block:∀k,k≠b->w'.heap[k]?=w.heap[k]?
 other:∀j,j≠off->w'.cell? ⟨b,j,none⟩=w.cell? ⟨b,j,none⟩
 here:w'.cell? ⟨b,off,none⟩=some v
 frozen:∀j,w'.frozen? ⟨b,j,none⟩=w.frozen? ⟨b,j,none⟩
theorem lO{w:World}{k b c:Nat}{x v:Value}(g:w.cell? ⟨b,c,none⟩=some x):fm w ((w.drewN k).setCell ⟨b,c,none⟩ v) b c v:=by
 have f:∀a,(w.drewN k).cell? a=w.cell? a:=fun a=>dB (w:=w) rfl;refine⟨rfl,rfl,rfl,by rw[dK];rfl,fun j e=>eG _ _ _ _ e,fun j e=> ?_,FI _ _ _ ((f _).trans g),fun j=> ?_⟩
 ·have h:(⟨b,c,none⟩:Addr)≠⟨b,j,none⟩:=fun d=>by injection d with _ d _;exact e d.symm
  rw[kj _ _ _ _ h,f]
 ·rw[World.frozen?_setCell]
  exact m8 (w:=w) rfl
theorem fm.set{w w':World}{b a m m':Nat}(f:ph w b a m)(c:fm w w' b a (.int .u64 (m':Nat))):ph w' b a m':=
 ⟨c.here,fun j d e=>(c.other _ ad).trans (f.2 j d e)⟩
theorem mF(b c m g A f:Nat)(w:World)(aa:g≠b)(Y:m<18446744073709551616)(Z:f<18446744073709551616)(N:ph w b c m)(P:CA w b c)(O:ph w g A f):
 Calls prog 113 #[.pointer (some ⟨b,c,none⟩),.pointer (some ⟨g,A,none⟩)] w fun e w'=>e=.returned (.tuple #[])/\fm w w' b c (.int .u64 ((m|||f:Nat):Int)):=by
 obtain⟨C,J,T⟩:=bO N O P;clear N O P;go_enter func113,ntmps113
 go_wp2
 go_loopw [4,5,7] (fun av a0 i wr=>∃k:Nat,i=.int .i64 k/\k<=16/\∃q:Nat,fm w wr b c (.int .u64 (q:Nat))/\Hid (q=if k=0 then m else m|||f)) (fun _ _ i _=>16-(intOf i).toNat)
 case atStart=>exact⟨0,rfl,aK _,m,⟨rfl,rfl,rfl,rfl,fun _ _=>rfl,fun _ _=>rfl,C.o.1,fun _=>rfl⟩,rfl⟩
 case round=>
 obtain⟨k,rfl,ag,q,d,B⟩:=hrel;by_cases s:k<16
 ·have X:decide ((k:Int)<16)=true:=aM
  have an:(k:Int)<16:=ad;have al:(0:Int)<=k:=ad;obtain⟨x,t⟩:=aj (if k=0 then f else 0);obtain⟨y,u⟩:=aj (if k=0 then m else 0);have aq:wr.cell? ⟨g,A+k,none⟩=some (.int .u64 (x:Nat)):=by
   rw[dB (w:=w) (w':=wr) (a:=⟨g,A+k,none⟩) (d.block g aa),t];split
   ·rename_i e;subst e;exact J.o.1
   ·exact J.o.2 k ad s
  have v:wr.cell? ⟨b,c+k,none⟩=some (.int .u64 (y:Nat)):=by
   rw[u];split
   ·rename_i e
    subst e;have:=B.o;rw[au rfl]at this;rw[<-this];exact d.here
   ·rw[d.other _ ad]
    exact C.o.2 k ad s
  have z:wr.frozen? ⟨b,c+k,none⟩=false:=by rw[d.frozen];exact T.o k s
  have ab:x<18446744073709551616:=by rw[t];split;exact Z;decide
  have af:y<18446744073709551616:=by rw[u];split;exact Y;decide
  have ao:bits .or .u64 (y:Int) (x:Int)=((y|||x:Nat):Int):=E9 y x af ab;obtain⟨K,L⟩:=aE t u;clear t u
  go_wp2
  go_quiet(fail)
  obtain⟨l,o⟩:=aj (wr.drewN nq);have v:l.cell? ⟨b,c+k,none⟩=some (.int .u64 (y:Nat)):=by rw[o];simpa using v
  have z:l.frozen? ⟨b,c+k,none⟩=false:=by rw[o];simpa using z
  rw[<-o];have r:=ah o;clear o;go_wp2_with fail
  go_still_tail 9,ay
  change wpList _ _ _ _ _ (World.drew l);have I:l.drew.cell? ⟨b,c+k,none⟩=some (.int .u64 (y:Nat)):=v;have ae:l.drew.frozen? ⟨b,c+k,none⟩=false:=z;obtain⟨w1,F⟩:=aj (l.drew);rw[<-F]at I ae⊢;have p:=ah F;clear F v z
  go_wp2
  go_roundw
  case rel=>
   have Q:w1.heap=wr.heap:=by rw[p.o,r.o];rfl
   have D:∀j:Nat,w1.heap[j]?=wr.heap[j]?:=fun j=>by rw[Q]
   have M:∀a,w1.cell? a=wr.cell? a:=fun a=>dB (w:=wr) (w':=w1) (D a.block);have W:∀a,w1.frozen? a=wr.frozen? a:=fun a=>m8 (w:=wr) (w':=w1) (D a.block);refine⟨k+1,aG,ad,m|||f,⟨?_,?_,?_,?_,fun j n=> ?_,fun j n=> ?_,?_,fun j=> ?_⟩,by unfold Hid;rw[ap ad]⟩
   ·rw[<-d.os];show w1.os=wr.os;rw[p.o,r.o];rfl
   ·rw[<-d.tape];show w1.tape=wr.tape;rw[p.o,r.o];rfl
   ·rw[<-d.output];show w1.output=wr.output;rw[p.o,r.o];rfl
   ·rw[dK,<-d.size,Q]
   ·rw[eG _ _ _ _ n,D,d.block j n]
   ·by_cases e:j=c+k
    ·subst e
     have R:k≠0:=fun e=>n ad;have H:y=0:=by rw[L.o,ap R]
     have G:x=0:=by rw[K.o,ap R]
     rw[FI w1 _ _ I,H,G,C.o.2 k ad s];rfl
    ·have E:(⟨b,c+k,none⟩:Addr)≠⟨b,j,none⟩:=fun h=>by injection h with _ h _;exact e h.symm
     rw[kj w1 _ _ _ E,M,d.other j n]
   ·by_cases e:k=0
    ·subst e
     have H:y=m:=by rw[L.o,au rfl]
     have G:x=f:=by rw[K.o,au rfl]
     have:=FI w1 _ (Value.int .u64 ((m|||f:Nat):Int)) I;rw[H,G];simpa using this
    ·have E:(⟨b,c+k,none⟩:Addr)≠⟨b,c,none⟩:=fun h=>by injection h with _ h _;omega
     rw[kj w1 _ _ _ E,M,d.here];have:=B.o;rw[ap e]at this;rw[this]
   ·rw[World.frozen?_setCell,W,d.frozen]
  case measure=>exact aH
 ·have X:decide ((k:Int)<16)=false:=aJ
  have S:q=m|||f:=by have:=B.o;rwa[ap ad]at this
  have V:Hid (fm w wr b c (.int .u64 ((m|||f:Nat):Int))):=by rw[S]at d;exact d
  clear S d
  go_wp2
  go_end0
  exact⟨rfl,V.o⟩
structure PF where
 void:Bool
 empty:Bool
 f:Nat
 l:Nat
def setRow(m:Nat):List Value:=[.int .u64 (m:Nat),.int .u64 0,.int .u64 0,.int .u64 0,.int .u64 0,.int .u64 0,.int .u64 0,.int .u64 0,.int .u64 0,.int .u64 0,.int .u64 0,.int .u64 0,.int .u64 0,.int .u64 0,.int .u64 0,.int .u64 0]
def factRow(a:PF):List Value:=.bool a.void::.bool a.empty::(setRow a.f++setRow a.l)
def iA(a:PF):Value:=.agg (factRow a).toArray
def rG(a b:PF):PF:=⟨a.void&&b.void,a.empty||b.empty,a.f|||b.f,a.l|||b.l⟩
def pi(a b:PF):PF:=if a.void||b.void then⟨true,false,0,0⟩else⟨false,a.empty&&b.empty,if a.empty then a.f|||b.f else a.f,if b.empty then b.l|||a.l else b.l⟩
theorem ju(m:Nat):(setRow m).length=16:=rfl
theorem rH(a:PF):(factRow a).length=34:=rfl
theorem ef{w:World}{b c m:Nat}(a:w.rangeAt b c (setRow m)):ph w b c m:=by
 refine⟨a 0 _ rfl,fun j d e=>a j _ ?_⟩;obtain rfl|rfl|rfl|rfl|rfl|rfl|rfl|rfl|rfl|rfl|rfl|rfl|rfl|rfl|rfl:j=1∨j=2∨j=3∨j=4∨j=5∨j=6∨j=7∨j=8∨j=9∨j=10∨j=11∨j=12∨j=13∨j=14∨j=15:=ad
 all_goals rfl
theorem ux{w:World}{b e m:Nat}(c:ph w b e m):w.rangeAt b e (setRow m):=by
 intro j v a;have d:=(aP.1 a).1;rw[ju]at d;by_cases f:j=0
 ·subst f
  injection a with a
  rw[<-a];exact c.1
 ·have g:=c.2 j ad d
  obtain rfl|rfl|rfl|rfl|rfl|rfl|rfl|rfl|rfl|rfl|rfl|rfl|rfl|rfl|rfl:j=1∨j=2∨j=3∨j=4∨j=5∨j=6∨j=7∨j=8∨j=9∨j=10∨j=11∨j=12∨j=13∨j=14∨j=15:=ad
  all_goals(injection a with a;rw[<-a];exact g)
theorem jW{w:World}{b d:Nat}{a:PF}(e:w.rangeAt b d (factRow a)):w.rangeAt b (d+2) (setRow a.f):=fun j v c=>by have:=e (2+j) v (by unfold factRow;rw[show 2+j=j+1+1 by omega,gq,gq,eF (aP.1 c).1];exact c);rwa[<-fI]at this
theorem mH{w:World}{b c:Nat}{a:PF}(d:w.rangeAt b c (factRow a)):w.rangeAt b (c+18) (setRow a.l):=fun j v e=>by have:=d (18+j) v (by unfold factRow;rw[show 18+j=(16+j)+1+1 by omega,gq,gq,gH (by rw[ju];omega),ju,show 16+j-16=j by omega];exact e);rwa[<-fI]at this
theorem fC:(prog.info? 190).map (·.size)=some 16:=ay
theorem dv:(prog.info? 192).map (·.size)=some 34:=ay
theorem gm{P:Program}{fn:Func}{p:Tmp}{ty:TypeId}(a:fn.results=#[.cell p ty])(tmps:Array Value)(w:World)(b o:Nat)(cs:List Value)(d:TypeDesc)
 (g:tmps.getD p undef=.pointer (some ⟨b,o,none⟩)) (c:w.rangeAt b o cs)
 (i:P.underlying ty=some d) (e:d.isRow=true) (f:(P.info? ty).map (·.size)=some cs.length):
 (results fn tmps).run P w=.ok (.agg cs.toArray) w:=by
 have h:tmps[p]?.getD undef=.pointer (some ⟨b,o,none⟩):=by simpa using g
 simp[results,a,h,asAddr,FJ w b o ty cs d c i e f]
theorem rI{P:Program}{c:Array Oper}{rest:List Oper}{b:Oper}{a:Act}{w:World}{Q:Exit->Act->World->Prop}(g:b.guard=none)(ty:TypeId)(ps:Array (Nat×Operand))(h:b.op=.build ty ps)(v:Value)(parts:List (Nat×Value))
 (j:(Instr.build ty parts.toArray).run P w=.ok v w) (i:(ps.toList.map fun p=>(p.1,a.eval p.2))=parts) (e:wpList P c Q rest (a.put b.dst v) w):wpList P c Q (b::rest) a w:=
 wpList_plain g fun _ f=>by
  have d:(ps.map fun p=>(p.1,a.eval p.2))=parts.toArray:=by
   rw[<-i];cases ps
   simp
  unfold Oper.wp execOp;simp only[h,zV,sW,zW,d,j];exact f _ _ e
structure eX(w w':World)(b off:Nat)(cs:List Value):Prop where
 os:w'.os=w.os
 tape:w'.tape=w.tape
 output:w'.output=w.output
 size:w'.heap.size=w.heap.size
 block:∀k,k≠b->w'.heap[k]?=w.heap[k]?
 other:∀j,j<off∨off+cs.length<=j->w'.cell? ⟨b,j,none⟩=w.cell? ⟨b,j,none⟩
 here:w'.rangeAt b off cs
 frozen:∀j,w'.frozen? ⟨b,j,none⟩=w.frozen? ⟨b,j,none⟩
theorem CD(b:Nat):∀(a:List Value) (o:Nat) (w:World) (k:Nat),k≠b->(w.setCells b o a).heap[k]?=w.heap[k]?
 |[],_,_,_,_=>rfl
 |v::r,o,w,k,h=>by rw[World.setCells,CD b r (o+1) _ k h];exact eG w ⟨b,o,none⟩ v k h
theorem CE(b:Nat):∀(a:List Value) (o:Nat) (w:World),(w.setCells b o a).heap.size=w.heap.size
 |[],_,_=>rfl
 |v::r,o,w=>by rw[World.setCells,CE b r (o+1) _,dK]
theorem CF(b:Nat):∀(a:List Value) (o:Nat) (w:World),(w.setCells b o a).tape=w.tape
 |[],_,_=>rfl
 |v::r,o,w=>by rw[World.setCells,CF b r (o+1) _];rfl
theorem xG{w:World}{b o:Nat}{cs:List Value}(a:w.there b o cs.length):eX w (w.setCells b o cs) b o cs:=
 ⟨(World.keptBut_setCells b (may:=fun _=>True) cs o w (fun _ _=>trivial)).1,CF b cs o w,(World.keptBut_setCells b (may:=fun _=>True) cs o w (fun _ _=>trivial)).2.1,CE b cs o w,fun k h=>CD b cs o w k h,
   fun j h=>World.cell?_setCells_out b cs o w ⟨b,j,none⟩ (fun _ _=>h),World.rangeAt_setCells_same w b o cs a,fun j=>World.frozen?_setCells b cs o w _⟩
theorem fm.row{w w':World}{b off:Nat}{v:Value}(h:fm w w' b off v):eX w w' b off [v]:=
 ⟨h.os,h.tape,h.output,h.size,h.block,fun j a=>h.other j (by simp at a;omega),(fun j u a=>by
   obtain rfl:j=0:=by have:=(aP.1 a).1;simp at this;exact this
   injection a with a
   rw[<-a];exact h.here),h.frozen⟩
section
variable{w w':World} {b off:Nat} {cs:List Value} (h:eX w w' b off cs)
include h
theorem eX.below{B:Nat}{a:World}(c:Below B a w)(e:B<=b):Below B a w':=
 ⟨h.os.trans c.os,h.tape.trans c.tape,h.output.trans c.output,by rw[h.size];exact c.size,fun k d=>(h.block k ad).trans (c.block k d)⟩
theorem eX.grown:w.grownBy w' (some b):=⟨h.os,h.tape,h.output,by rw[h.size];exact aB _,fun k _ c=>h.block k (fun a=>c (by rw[a]))⟩
theorem eX.far{b' o':Nat}(a:b'≠b):w'.cell? ⟨b',o',none⟩=w.cell? ⟨b',o',none⟩:=dB (h.block b' a)
theorem eX.range{b' o':Nat}{xs:List Value}(d:w.rangeAt b' o' xs)(e:b'≠b∨o'+xs.length<=off∨off+cs.length<=o'):w'.rangeAt b' o' xs:=fun j v a=>by
 have f:=(aP.1 a).1;by_cases c:b'=b
 ·subst c
  rw[h.other _ ad];exact d j v a
 ·rw[h.far c];exact d j v a
theorem eX.fz(b' o':Nat):w'.frozen? ⟨b',o',none⟩=w.frozen? ⟨b',o',none⟩:=by
 by_cases a:b'=b
 ·subst a;exact h.frozen o'
 ·exact m8 (h.block b' a)
theorem eX.there{b' o' n:Nat}(i:w.there b' o' n):w'.there b' o' n:=fun j g=>by
 obtain⟨c,f⟩:=i j g;refine⟨?_,(h.fz _ _).trans f⟩;by_cases a:b'=b
 ·subst a
  by_cases e:o'+j<off∨off+cs.length<=o'+j
  ·rw[h.other _ e];exact c
  ·have d:=h.here (o'+j-off) _ (aF ad)
   rw[show off+(o'+j-off)=o'+j by omega]at d;rw[d];rfl
 ·rw[h.far a];exact c
end
theorem cT{P:Program}{e:Array Oper}{rest:List Oper}{c:Oper}{a:Act}{w:World}{Q:Exit->Act->World->Prop}(g:c.guard=none)(ty:TypeId)(x y:Operand)(j:c.op=.store ty x y)
 (b o:Nat) (cs:List Value) (l:a.eval x=.pointer (some ⟨b,o,none⟩)) (m:a.eval y=.agg cs.toArray)
 (d:w.there b o cs.length) (i:(P.info? ty).map (·.size)=some cs.length) (f:∀v∈cs,v.oneCell'=true)
 (h:∀w',eX w w' b o cs->wpList P e Q rest (a.put c.dst undef) w'):wpList P e Q (c::rest) a w:=
 wpList_store_mid g ty x y j b o cs.toArray l m (by simpa using d) (by simpa using i) (all_oneCell_toArray f) (h _ (by simpa using xG d))
theorem nQ{w:World}{b:Nat}{cs:List Value}{ty:TypeId}{f:Nat×Nat}(h:w.heap[b]?=some (.cells cs.toArray ty f)):w.rangeAt b 0 cs:=fun j v a=>by rw[cE,aZ w b j cs.toArray ty f h];simpa using a
theorem mI{w:World}{b n:Nat}{cs:List Value}{ty:TypeId}(h:w.heap[b]?=some (.cells cs.toArray ty))(c:n<=cs.length):w.there b 0 n:=fun j a=>by
 refine⟨?_,?_⟩
 ·rw[cE,aZ w b j cs.toArray ty (0,0) h]
  simp;omega
 ·simp[World.frozen?,h]
theorem qj{w:World}{b o n o' n':Nat}(h:w.there b o n)(a:o<=o')(c:o'+n'<=o+n):w.there b o' n':=fun j d=>by have:=h (o'-o+j) ad;rwa[show o+(o'-o+j)=o'+j by omega]at this
theorem mJ{w:World}{b o n:Nat}(h:w.there b o n)(c:16<=n):CA w b o:=fun j a=>(h j ad).2
theorem eM(m:Nat):∀v∈setRow m,v.oneCell'=true:=by intro v a;unfold setRow at a;simp only[eH,qK,qL]at a;rcases a with rfl|rfl|rfl|rfl|rfl|rfl|rfl|rfl|rfl|rfl|rfl|rfl|rfl|rfl|rfl|rfl<;>rfl
theorem iB(a:PF):∀v∈factRow a,v.oneCell'=true:=by
 intro v b;unfold factRow at b;simp only[eH,fe]at b;rcases b with rfl|rfl|h|h
 ·rfl
 ·rfl
 ·exact eM _ v h
 ·exact eM _ v h
def jw:PF:=⟨false,false,0,0⟩
theorem Li(x y:Bool)(f l:Nat)(w:World):(Instr.build 192 #[(0,.bool x),(1,.bool y),(2,.agg (setRow f).toArray),(3,.agg (setRow l).toArray)]).run prog w=.ok (iA ⟨x,y,f,l⟩) w:=by kernel_rfl
theorem nR{c:Array Oper}{rest:List Oper}{b:Oper}{a:Act}{w:World}{Q:Exit->Act->World->Prop}(x y:Bool)(f l:Nat)(d:b.guard=none)(ps:Array (Nat×Operand))(e:b.op=.build 192 ps)
 (g:(ps.toList.map fun p=>(p.1,a.eval p.2))=[(0,.bool x),(1,.bool y),(2,.agg (setRow f).toArray),(3,.agg (setRow l).toArray)]) (h:wpList prog c Q rest (a.put b.dst (.agg (factRow ⟨x,y,f,l⟩).toArray)) w):wpList prog c Q (b::rest) a w:=
 rI d 192 ps e _ _ (Li x y f l w) g h
theorem nS{c:Array Oper}{rest:List Oper}{b:Oper}{a:Act}{w:World}{Q:Exit->Act->World->Prop}(x:Bool)(d:b.guard=none)(ps:Array (Nat×Operand))(e:b.op=.build 192 ps)
 (f:(ps.toList.map fun p=>(p.1,a.eval p.2))=[(0,.bool x)]) (h:wpList prog c Q rest (a.put b.dst (.agg (factRow ⟨x,false,0,0⟩).toArray)) w):wpList prog c Q (b::rest) a w:=
 rI d 192 ps e _ _ ay f h
theorem nT{c:Array Oper}{rest:List Oper}{b:Oper}{a:Act}{w:World}{Q:Exit->Act->World->Prop}(y:Bool)(d:b.guard=none)(ps:Array (Nat×Operand))(e:b.op=.build 192 ps)
 (f:(ps.toList.map fun p=>(p.1,a.eval p.2))=[(1,.bool y)]) (h:wpList prog c Q rest (a.put b.dst (.agg (factRow ⟨false,y,0,0⟩).toArray)) w):wpList prog c Q (b::rest) a w:=
 rI d 192 ps e _ _ ay f h
theorem nU{c:Array Oper}{rest:List Oper}{b:Oper}{a:Act}{w:World}{Q:Exit->Act->World->Prop}(y:Bool)(f l:Nat)(d:b.guard=none)(ps:Array (Nat×Operand))(e:b.op=.build 192 ps)
 (g:(ps.toList.map fun p=>(p.1,a.eval p.2))=[(1,.bool y),(2,.agg (setRow f).toArray),(3,.agg (setRow l).toArray)]) (h:wpList prog c Q rest (a.put b.dst (.agg (factRow ⟨false,y,f,l⟩).toArray)) w):wpList prog c Q (b::rest) a w:=
 rI d 192 ps e _ _ ay g h
theorem uA{w w':World}{b off m:Nat}{a:PF}(h:w.rangeAt b off (factRow a))(e:fm w w' b (off+2) (.int .u64 (m:Nat))):w'.rangeAt b off (factRow {a with f:=m}):=fun j v d=>by
 by_cases c:j=2
 ·subst c
  rw[e.here];exact d
 ·rw[e.other _ ad]
  refine h j v ?_;rw[<-d];match j,c with
  |0,_=>rfl
  |1,_=>rfl
  |2,c=>exact absurd rfl c
  |j+3,_=>rfl
theorem uB{w w':World}{b off m:Nat}{a:PF}(h:w.rangeAt b off (factRow a))(e:fm w w' b (off+18) (.int .u64 (m:Nat))):w'.rangeAt b off (factRow {a with l:=m}):=fun j v d=>by
 by_cases c:j=18
 ·subst c
  rw[e.here];exact d
 ·rw[e.other _ ad]
  refine h j v ?_;rw[<-d];match j,c with
  |0,_|1,_|2,_|3,_|4,_|5,_|6,_|7,_|8,_|9,_|10,_|11,_|12,_|13,_|14,_|15,_|16,_|17,_=>rfl
  |18,c=>exact absurd rfl c
  |j+19,_=>rfl
def rJ(a:PF):Prop:=a.f<18446744073709551616/\a.l<18446744073709551616
theorem CG{a b:Nat}(c:a<18446744073709551616)(d:b<18446744073709551616):a|||b<18446744073709551616:=
 y7 (n:=64) c d
def lQ(w:World)(a B:Array Value):World:=((w.alloc (.cells a 192)).alloc (.cells B 192)).alloc (.cells #[.bool false,.bool false,.int .u64 0,.int .u64 0,.int .u64 0,.int .u64 0,.int .u64 0,.int .u64 0,.int .u64 0,.int .u64 0,.int .u64 0,.int .u64 0,.int .u64 0,.int .u64 0,.int .u64 0,.int .u64 0,.int .u64 0,.int .u64 0,.int .u64 0,.int .u64 0,.int .u64 0,.int .u64 0,.int .u64 0,.int .u64 0,.int .u64 0,.int .u64 0,.int .u64 0,.int .u64 0,.int .u64 0,.int .u64 0,.int .u64 0,.int .u64 0,.int .u64 0,.int .u64 0] 192)
theorem CH(w:World)(a b:PF):Below w.heap.size w (lQ w (factRow a).toArray (factRow b).toArray)/\(lQ w (factRow a).toArray (factRow b).toArray).heap.size=w.heap.size+3/\
 (lQ w (factRow a).toArray (factRow b).toArray).rangeAt w.heap.size 0 (factRow a)/\(lQ w (factRow a).toArray (factRow b).toArray).rangeAt (w.heap.size+1) 0 (factRow b)/\(lQ w (factRow a).toArray (factRow b).toArray).there (w.heap.size+2) 0 34:=by
 unfold lQ;have c:=aC w (.cells (factRow a).toArray 192);have d:=aC (w.alloc (.cells (factRow a).toArray 192)) (.cells (factRow b).toArray 192);have e:=aC ((w.alloc (.cells (factRow a).toArray 192)).alloc (.cells (factRow b).toArray 192)) (.cells (factRow jw).toArray 192);simp only[bI]at c d e;refine⟨(az.alloc ak _).alloc aO _,ak,nQ (ty:=192) (f:=(0,0)) ?_,nQ (ty:=192) (f:=(0,0)) ?_,mI (cs:=factRow jw) (ty:=192) ?_ (aB _)⟩
 ·rw[bH _ _ _ aO,bH _ _ _ ak]
  exact c
 ·rw[bH _ _ _ ak]
  exact d
 ·exact e
theorem CI(w1:World):Below w1.heap.size w1 (w1.alloc (.cells #[.bool false,.bool false,.int .u64 0,.int .u64 0,.int .u64 0,.int .u64 0,.int .u64 0,.int .u64 0,.int .u64 0,.int .u64 0,.int .u64 0,.int .u64 0,.int .u64 0,.int .u64 0,.int .u64 0,.int .u64 0,.int .u64 0,.int .u64 0,.int .u64 0,.int .u64 0,.int .u64 0,.int .u64 0,.int .u64 0,.int .u64 0,.int .u64 0,.int .u64 0,.int .u64 0,.int .u64 0,.int .u64 0,.int .u64 0,.int .u64 0,.int .u64 0,.int .u64 0,.int .u64 0] 192))/\(w1.alloc (.cells #[.bool false,.bool false,.int .u64 0,.int .u64 0,.int .u64 0,.int .u64 0,.int .u64 0,.int .u64 0,.int .u64 0,.int .u64 0,.int .u64 0,.int .u64 0,.int .u64 0,.int .u64 0,.int .u64 0,.int .u64 0,.int .u64 0,.int .u64 0,.int .u64 0,.int .u64 0,.int .u64 0,.int .u64 0,.int .u64 0,.int .u64 0,.int .u64 0,.int .u64 0,.int .u64 0,.int .u64 0,.int .u64 0,.int .u64 0,.int .u64 0,.int .u64 0,.int .u64 0,.int .u64 0] 192)).there w1.heap.size 0 34:=
 ⟨az,mI (cs:=factRow jw) (ty:=192) (aC w1 _) (aB _)⟩
theorem Lj(a b:PF)(S:rJ a)(T:rJ b)(w:World):
 Calls prog 172 #[iA a,iA b] w fun u w'=>u=.returned (iA (rG a b))/\Below w.heap.size w w':=by
 obtain⟨o,z,d,f,r⟩:=CH w a b;unfold iA;obtain⟨X,l⟩:=aj ((factRow a).toArray);obtain⟨B,m⟩:=aj ((factRow b).toArray);rw[<-l,<-m]at o z d f r;obtain⟨w1,q⟩:=aj (lQ w X B);rw[<-q]at o z d f r;unfold lQ at q;rw[<-l,<-m];obtain⟨c,s⟩:=CI w1;obtain⟨t,A⟩:=aj (w1.alloc (.cells #[.bool false,.bool false,.int .u64 0,.int .u64 0,.int .u64 0,.int .u64 0,.int .u64 0,.int .u64 0,.int .u64 0,.int .u64 0,.int .u64 0,.int .u64 0,.int .u64 0,.int .u64 0,.int .u64 0,.int .u64 0,.int .u64 0,.int .u64 0,.int .u64 0,.int .u64 0,.int .u64 0,.int .u64 0,.int .u64 0,.int .u64 0,.int .u64 0,.int .u64 0,.int .u64 0,.int .u64 0,.int .u64 0,.int .u64 0,.int .u64 0,.int .u64 0,.int .u64 0,.int .u64 0] 192));rw[<-A]at c s;have a0:=c.size;have V:Below w.heap.size w t:=o.trans (c.mono ad);rw[z]at s;obtain⟨av,ag,G,H⟩:=a;obtain⟨bv,al,I,J⟩:=b;have K:=d 0 _ rfl;have L:=d 1 _ rfl;have M:=f 0 _ rfl;have N:=f 1 _ rfl;have an:w1.rangeAt w.heap.size 2 (setRow G):=jW d;have a1:w1.rangeAt w.heap.size 18 (setRow H):=mH d;have aa:Hid (t.rangeAt (w.heap.size+1) 0 (factRow ⟨bv,al,I,J⟩)):=fun j v e=>(c.cell (p:=⟨w.heap.size+1,0+j,none⟩) aO).trans (f j v e);have ae:Hid (t.there (w.heap.size+2) 0 34):=fun j e=>by obtain⟨ao,aq⟩:=r j e;exact⟨by rw[c.cell (p:=⟨w.heap.size+2,0+j,none⟩) aO];exact ao,by rw[c.frozen (p:=⟨w.heap.size+2,0+j,none⟩) aO];exact aq⟩
 simp only at K L M N;obtain⟨a4,a5,Y,E,F⟩:=ku l m V S T;have C:Hid (t.there (w.heap.size+3) 0 34):=ah s;clear l m o c V d f r S T a0;go_enter func172,ntmps172
 cases av<;>cases ag
 all_goals
  go_wp2_with(first
   |(rw[<-q];clear q)
   |(rw[<-A];clear A)
   |((with_reducible apply dL (ty:=190));exact rfl;exact rfl;exact rfl;assumption;exact kn;exact rfl;exact fC)
   |(first|((with_reducible apply nR);exact rfl;exact rfl;exact rfl)|((with_reducible apply nU);exact rfl;exact rfl;exact rfl)|((with_reducible apply nS);exact rfl;exact rfl;exact rfl)|((with_reducible apply nT);exact rfl;exact rfl;exact rfl))
   |(((with_reducible apply cT (ty:=192));exact rfl;exact rfl;exact rfl;exact rfl;assumption;exact dv;exact iB _);intro a2 g)
   |fail)
  have y:=g.range aa.o (.inl ad);have P:=g.there C.o;have e:=mF (w.heap.size+3) 2 G (w.heap.size+1) 2 I a2 ad E.o.1 F.o.1 (ef (jW g.here)) (mJ (qj P (o':=2) (n':=16) ad ad) (aB _)) (ef (jW y));obtain⟨i,ab⟩:=aE g y;clear g s an a1 K L M N y P;refine e.mono ?_;rintro u a3 ⟨rfl,h⟩;have x:=uA i.o.here h;have O:=h.row.range ab.o (.inl ad);have Q:=h.row.there (i.o.there C.o);have W:=mF (w.heap.size+3) 18 H (w.heap.size+1) 18 J a3 ad E.o.2 F.o.2 (ef (mH x)) (mJ (qj Q (o':=18) (n':=16) ad ad) (aB _)) (ef (mH O));obtain⟨D,Z⟩:=aE h x;clear e h x O Q;go_wp2_with fail
  refine W.mono ?_;rintro u a9 ⟨rfl,n⟩;have a6:=uB Z.o n;have a7:=n.row.there (D.o.row.there (i.o.there ae.o));have af:=ah n;clear W n;go_wp2_with(first
   |((with_reducible apply dL (ty:=192));exact rfl;exact rfl;exact rfl;assumption;exact gu;exact rfl;exact dv)
   |(((with_reducible apply cT (ty:=192));exact rfl;exact rfl;exact rfl;exact rfl;assumption;exact dv;exact iB _);intro ba R)
   |fail)
  (try simp only[Exit.inBlock,Exit.then])
  refine bS (gm rfl _ _ (w.heap.size+2) 0 _ _ rfl R.here gu rfl dv) rfl ?_;exact⟨rfl,R.below (af.o.row.below (D.o.row.below (i.o.below Y.o ad) ad) ad) ad⟩
theorem Lk(a b:PF)(al:rJ a)(an:rJ b)(w:World):
 Calls prog 171 #[iA a,iA b] w fun F w'=>F=.returned (iA (pi a b))/\Below w.heap.size w w':=by
 obtain⟨G,W,C,D,I⟩:=CH w a b;unfold iA;obtain⟨a1,P⟩:=aj ((factRow a).toArray);obtain⟨B,Q⟩:=aj ((factRow b).toArray);rw[<-P,<-Q]at G W C D I;obtain⟨w1,s⟩:=aj (lQ w a1 B);rw[<-s]at G W C D I;unfold lQ at s;rw[<-P,<-Q];obtain⟨u,J⟩:=CI w1;obtain⟨K,H⟩:=aj (w1.alloc (.cells #[.bool false,.bool false,.int .u64 0,.int .u64 0,.int .u64 0,.int .u64 0,.int .u64 0,.int .u64 0,.int .u64 0,.int .u64 0,.int .u64 0,.int .u64 0,.int .u64 0,.int .u64 0,.int .u64 0,.int .u64 0,.int .u64 0,.int .u64 0,.int .u64 0,.int .u64 0,.int .u64 0,.int .u64 0,.int .u64 0,.int .u64 0,.int .u64 0,.int .u64 0,.int .u64 0,.int .u64 0,.int .u64 0,.int .u64 0,.int .u64 0,.int .u64 0,.int .u64 0,.int .u64 0] 192));rw[<-H]at u J;have a4:=u.size;have ao:Below w.heap.size w K:=G.trans (u.mono ad);rw[W]at J;obtain⟨av,ae,N,R⟩:=a;obtain⟨bv,af,S,O⟩:=b;have T:=C 0 _ rfl;have g:=C 1 _ rfl;have V:=D 0 _ rfl;have h:=D 1 _ rfl;have ag:w1.rangeAt w.heap.size 2 (setRow N):=jW C;have aq:w1.rangeAt (w.heap.size+1) 18 (setRow O):=mH D;have aa:Hid (K.rangeAt w.heap.size 0 (factRow ⟨av,ae,N,R⟩)):=fun j v m=>(u.cell (p:=⟨w.heap.size,0+j,none⟩) aO).trans (C j v m);have Y:=ah G;have ab:Hid (K.rangeAt (w.heap.size+1) 0 (factRow ⟨bv,af,S,O⟩)):=fun j v m=>(u.cell (p:=⟨w.heap.size+1,0+j,none⟩) aO).trans (D j v m);have r:Hid (K.there (w.heap.size+2) 0 34):=fun j m=>by obtain⟨a2,a3⟩:=I j m;exact⟨by rw[u.cell (p:=⟨w.heap.size+2,0+j,none⟩) aO];exact a2,by rw[u.frozen (p:=⟨w.heap.size+2,0+j,none⟩) aO];exact a3⟩
 simp only at T g V h;obtain⟨a6,a7,Z,L,M⟩:=ku P Q ao al an;have t:Hid (K.there (w.heap.size+3) 0 34):=ah J;clear P Q G u ao C D al an a4;go_enter func171,ntmps171
 cases av
 case true=>
  go_wp2_with(first
   |(rw[<-s];clear s)
   |(first|((with_reducible apply nR);exact rfl;exact rfl;exact rfl)|((with_reducible apply nU);exact rfl;exact rfl;exact rfl)|((with_reducible apply nS);exact rfl;exact rfl;exact rfl)|((with_reducible apply nT);exact rfl;exact rfl;exact rfl))
   |(((with_reducible apply cT (ty:=192));exact rfl;exact rfl;exact rfl;exact rfl;assumption;exact dv;exact iB _);intro E f)
   |fail)
  (try simp only[Exit.inBlock,Exit.then])
  refine bS (gm rfl _ _ (w.heap.size+2) 0 _ _ rfl f.here gu rfl dv) rfl ?_;exact⟨by unfold pi;simp,f.below Y.o ad⟩
 cases bv
 case true=>
  go_wp2_with(first
   |(rw[<-s];clear s)
   |(first|((with_reducible apply nR);exact rfl;exact rfl;exact rfl)|((with_reducible apply nU);exact rfl;exact rfl;exact rfl)|((with_reducible apply nS);exact rfl;exact rfl;exact rfl)|((with_reducible apply nT);exact rfl;exact rfl;exact rfl))
   |(((with_reducible apply cT (ty:=192));exact rfl;exact rfl;exact rfl;exact rfl;assumption;exact dv;exact iB _);intro E f)
   |fail)
  (try simp only[Exit.inBlock,Exit.then])
  refine bS (gm rfl _ _ (w.heap.size+2) 0 _ _ rfl f.here gu rfl dv) rfl ?_;exact⟨by unfold pi;simp,f.below Y.o ad⟩
 cases ae<;>cases af
 case false.false=>
  go_wp2_with(first
   |(rw[<-s];clear s)
   |(rw[<-H];clear H)
   |((with_reducible apply dL (ty:=190));exact rfl;exact rfl;exact rfl;assumption;exact kn;exact rfl;exact fC)
   |((with_reducible apply dL (ty:=192));exact rfl;exact rfl;exact rfl;assumption;exact gu;exact rfl;exact dv)
   |(first|((with_reducible apply nR);exact rfl;exact rfl;exact rfl)|((with_reducible apply nU);exact rfl;exact rfl;exact rfl)|((with_reducible apply nS);exact rfl;exact rfl;exact rfl)|((with_reducible apply nT);exact rfl;exact rfl;exact rfl))
   |(((with_reducible apply cT (ty:=192));exact rfl;exact rfl;exact rfl;exact rfl;assumption;exact dv;exact iB _);first|(clear I;intro E f;have e:=f.range ab.o (.inl ad);have d:=f.range aa.o (.inl ad);have g:=d 1 _ rfl;have h:=e 1 _ rfl;have l:=f.here;have o:=f.there r.o;have i:=f.below Z.o (qP _ _);simp only at g h;clear J ag aq T V)|(intro X q))
   |fail)
  (try simp only[Exit.inBlock,Exit.then])
  refine bS (gm rfl _ _ (w.heap.size+2) 0 _ _ rfl q.here gu rfl dv) rfl ?_;exact⟨rfl,q.below i ad⟩
 all_goals
  go_wp2_with(first
   |(rw[<-s];clear s)
   |(rw[<-H];clear H)
   |((with_reducible apply dL (ty:=190));exact rfl;exact rfl;exact rfl;assumption;exact kn;exact rfl;exact fC)
   |(first|((with_reducible apply nR);exact rfl;exact rfl;exact rfl)|((with_reducible apply nU);exact rfl;exact rfl;exact rfl)|((with_reducible apply nS);exact rfl;exact rfl;exact rfl)|((with_reducible apply nT);exact rfl;exact rfl;exact rfl))
   |(((with_reducible apply cT (ty:=192));exact rfl;exact rfl;exact rfl;exact rfl;assumption;exact dv;exact iB _);intro E f;have e:=f.range ab.o (.inl ad);have d:=f.range aa.o (.inl ad);have g:=d 1 _ rfl;have h:=e 1 _ rfl;have l:=f.here;have n:=f.there t.o;have o:=f.there r.o;have i:=f.below Z.o (qP _ _);simp only at g h;clear I J ag aq T V)
   |fail)
 ·have m:=mF (w.heap.size+3) 18 O (w.heap.size) 18 R E ad M.o.2 L.o.2 (ef (mH l)) (mJ (qj n (o':=18) (n':=16) ad ad) (aB _)) (ef (mH d))
  obtain⟨y,t,r,x,z,A⟩:=gR l n o i d e;clear l n o i g h d e;refine m.mono ?_;rintro F a5 ⟨rfl,c⟩;have l:=uB y.o c;have d:=c.row.range z.o (.inl ad);have e:=c.row.range A.o (.inl ad);have n:=c.row.there t.o;have o:=c.row.there r.o;have i:=c.row.below x.o ad;have g:=d 1 _ rfl;have h:=e 1 _ rfl;simp only at g h;clear m c;go_wp2_with(first
   |((with_reducible apply dL (ty:=192));exact rfl;exact rfl;exact rfl;assumption;exact gu;exact rfl;exact dv)
   |(((with_reducible apply cT (ty:=192));exact rfl;exact rfl;exact rfl;exact rfl;assumption;exact dv;exact iB _);intro X q)
   |fail)
  (try simp only[Exit.inBlock,Exit.then])
  refine bS (gm rfl _ _ (w.heap.size+2) 0 _ _ rfl q.here gu rfl dv) rfl ?_;exact⟨rfl,q.below i ad⟩
 ·have m:=mF (w.heap.size+3) 2 N (w.heap.size+1) 2 S E ad L.o.1 M.o.1 (ef (jW l)) (mJ (qj n (o':=2) (n':=16) ad ad) (aB _)) (ef (jW e))
  obtain⟨y,t,r,x,z,A⟩:=gR l n o i d e;clear l n o i g h d e;refine m.mono ?_;rintro F a0 ⟨rfl,c⟩;have l:=uA y.o c;have d:=c.row.range z.o (.inl ad);have e:=c.row.range A.o (.inl ad);have n:=c.row.there t.o;have o:=c.row.there r.o;have i:=c.row.below x.o ad;have g:=d 1 _ rfl;have h:=e 1 _ rfl;simp only at g h;clear m c;go_wp2_with(first
   |((with_reducible apply dL (ty:=192));exact rfl;exact rfl;exact rfl;assumption;exact gu;exact rfl;exact dv)
   |(((with_reducible apply cT (ty:=192));exact rfl;exact rfl;exact rfl;exact rfl;assumption;exact dv;exact iB _);intro X q)
   |fail)
  (try simp only[Exit.inBlock,Exit.then])
  refine bS (gm rfl _ _ (w.heap.size+2) 0 _ _ rfl q.here gu rfl dv) rfl ?_;exact⟨rfl,q.below i ad⟩
 ·have m:=mF (w.heap.size+3) 2 N (w.heap.size+1) 2 S E ad L.o.1 M.o.1 (ef (jW l)) (mJ (qj n (o':=2) (n':=16) ad ad) (aB _)) (ef (jW e))
  obtain⟨y,t,r,x,z,A⟩:=gR l n o i d e;clear l n o i g h d e;refine m.mono ?_;rintro F a0 ⟨rfl,c⟩;have l:=uA y.o c;have d:=c.row.range z.o (.inl ad);have e:=c.row.range A.o (.inl ad);have n:=c.row.there t.o;have o:=c.row.there r.o;have i:=c.row.below x.o ad;have g:=d 1 _ rfl;have h:=e 1 _ rfl;simp only at g h;clear m c;go_wp2_with fail
  have m:=mF (w.heap.size+3) 18 O (w.heap.size) 18 R a0 ad M.o.2 L.o.2 (ef (mH l)) (mJ (qj n (o':=18) (n':=16) ad ad) (aB _)) (ef (mH d));obtain⟨y,t,r,x,z,A⟩:=gR l n o i d e;clear l n o i g h d e;refine m.mono ?_;rintro F a5 ⟨rfl,c⟩;have l:=uB y.o c;have d:=c.row.range z.o (.inl ad);have e:=c.row.range A.o (.inl ad);have n:=c.row.there t.o;have o:=c.row.there r.o;have i:=c.row.below x.o ad;have g:=d 1 _ rfl;have h:=e 1 _ rfl;simp only at g h;clear m c;go_wp2_with(first
   |((with_reducible apply dL (ty:=192));exact rfl;exact rfl;exact rfl;assumption;exact gu;exact rfl;exact dv)
   |(((with_reducible apply cT (ty:=192));exact rfl;exact rfl;exact rfl;exact rfl;assumption;exact dv;exact iB _);intro X q)
   |fail)
  (try simp only[Exit.inBlock,Exit.then])
  refine bS (gm rfl _ _ (w.heap.size+2) 0 _ _ rfl q.here gu rfl dv) rfl ?_;exact⟨rfl,q.below i ad⟩
section
open PRegex
def mK(t:PT):PF:=⟨!t.alive,t.null,cB t,dO t⟩
theorem Ll(a b:PT):mK (.alt a b)=rG (mK a) (mK b):=by unfold mK rG;simp[PT.alive,PT.null,cB,dO]
theorem Lm(a b:PT):mK (.cat a b)=pi (mK a) (mK b):=by
 unfold mK pi;simp only[PT.alive,PT.null,cB,dO];cases e:a.alive with
 |false=>
  have d:a.null=false:=by cases c:a.null with|false=>rfl|true=>rw[tL c]at e;cases e
  simp[d]
 |true=>
  cases f:b.alive with
  |false=>
   have d:b.null=false:=by cases c:b.null with|false=>rfl|true=>rw[tL c]at f;cases f
   simp[d]
  |true=>
   cases h:a.null<;>cases g:b.null<;>simp
def factN(l:List ar)(i:Nat):PF:=mK (aS l i)
theorem Ln{l:List ar}(b:dW 0 l=true){i:Nat}{n:ar}(a:l[i]?=some n):
 factN l i=if n.op=1 then⟨false,true,0,0⟩else if n.op=2 then⟨false,false,2^i,2^i⟩else if n.op=3 then pi (factN l n.a.toNat) (factN l n.b.toNat)
  else if n.op=4 then rG (factN l n.a.toNat) (factN l n.b.toNat)else if n.op=5 then⟨false,true,(factN l n.a.toNat).f,(factN l n.a.toNat).l⟩else⟨true,false,0,0⟩:=by
 unfold factN;rw[pU b a];unfold ev;split
 ·rfl
 split
 ·rfl
 split
 ·exact Lm _ _
 split
 ·exact Ll _ _
 split
 ·rfl
 ·rfl
theorem kA{l:List ar}(hF:eu l)(d:l.length<=60){i:Nat}(a:i<l.length):rJ (factN l i):=by
 have b:=A2 hF a;have c:=Ii hF a;have:(2:Nat)^l.length<=2^60:=yZ aw d;exact⟨eR b (by have:(2:Nat)^60<=18446744073709551616:=aw
                                                                                     omega),eR c (by have:(2:Nat)^60<=18446744073709551616:=aw
                                                                                                     omega)⟩
end
end Go.Proofs.YtbacloblanpghaaGreatDoor
