import Derived.Test.YtnadadbndcdolaaGreatDoorQar
set_option linter.unusedVariables false
set_option linter.unusedSimpArgs false
set_option maxRecDepth 100000
set_option maxHeartbeats 0
namespace Go.Proofs.YtnadadbndcdolaaGreatDoor
open Go.RowKit Tryz
theorem zh(b c m i:Nat)(w:World)(f:i<64)(g:m<18446744073709551616)(l:w.cell? ⟨b,c,none⟩=some (.int .u64 (m:Nat))):
 Calls prog 149 #[.pointer (some ⟨b,c,none⟩),.int .i64 (i:Nat)] w fun d w'=>d=.returned (.bool (m.testBit i))/\w'=w:=by
 have h:(i:Int).tdiv 64=0:=by rw[BD ad];omega
 have j:(i:Int).tmod 64=(i:Int):=by rw[IJ ad];omega
 have e:=I9 g f;obtain⟨q,a⟩:=ar (m.testBit i);rw[<-a]at e⊢;clear a;have n:(0:Int)<=i:=ad;go_enter func149,ntmps149
 go_wp2
 go_ret;exact⟨rfl,rfl⟩
theorem DY(b a m i:Nat)(w:World)(c:i<64)(j:m<18446744073709551616)(e:w.cell? ⟨b,a,none⟩=some (.int .u64 (m:Nat)))(g:w.frozen? ⟨b,a,none⟩=false):
 Calls prog 201 #[.pointer (some ⟨b,a,none⟩),.int .i64 (i:Nat)] w fun d w'=>d=.returned (.tuple #[])/\∃k,w'=(w.drewN k).setCell ⟨b,a,none⟩ (.int .u64 (jH m i:Nat)):=by
 have n:(i:Int).tdiv 64=0:=by rw[BD ad];omega
 have o:(i:Int).tmod 64=(i:Int):=by rw[IJ ad];omega
 have l:IntKind.i64.wrap 0=0:=rfl;have r:IntKind.i64.wrap (i:Int)=(i:Int):=rM _ ad;have s:min i 64=i:=ad;have p:=Ce c;have q:=Cf j c;have t:(0:Int)<=i:=ad;go_enter func201,ntmps201
 go_wp2_with fail
 go_still_tail 12,aA
 change wpList _ _ _ _ _ (World.drew w);have f:w.drew.cell? ⟨b,a,none⟩=some (.int .u64 (m:Nat)):=e;have h:w.drew.frozen? ⟨b,a,none⟩=false:=g;generalize hw1:w.drew=u at f h⊢
 go_wp2
 go_end0
 exact⟨rfl,1,by rw[<-hw1];rfl⟩
theorem MH(x k a:Nat)(w:World)(f:((x:Int)==0)=false)
 (key:IntKind.u64.wrap (bits BinOp.and IntKind.u64 (x:Int) (IntKind.u64.wrap (-(x:Int)))*285870213051353865)/288230376151711744=(a:Int))
 (d:a<64) (e:k<64) (c:w.cell? ⟨0,a,none⟩=some (.int .u8 (k:Nat))):
 Calls prog 204 #[.int .u64 (x:Nat)] w fun b w'=>b=.returned (.int .i64 (k:Nat))/\w'=w:=by
 go_enter func204,ntmps204
 go_wp2_with(simp only[key])
 go_ret;exact⟨rfl,rfl⟩
theorem DZ(x:Nat)(d:x<18446744073709551616)(e:x≠0)(w:World)(g:Gl w):
 Calls prog 204 #[.int .u64 (x:Nat)] w fun f w'=>f=.returned (.int .i64 (Lib.ctz 64 x:Nat))/\w'=w:=by
 obtain⟨h,c⟩:=Lib.lowest_bit 64 x e d;obtain⟨b,i⟩:=Lib.deBruijn64_at _ c;have a:=g.tab _ b;rw[i]at a;exact MH x _ _ w (by rw[eu];omega) (tz64_key x _ d e h) b c a
def pS(w:World)(b a m:Nat):Prop:=w.cell? ⟨b,a,none⟩=some (.int .u64 (m:Nat))/\∀j,1<=j->j<16->w.cell? ⟨b,a+j,none⟩=some (.int .u64 0)
def D0(w:World)(b a:Nat):Prop:=∀j,j<16->w.frozen? ⟨b,a+j,none⟩=false
theorem vV(b r m:Nat)(w:World)(an:Gl w)(u:b<w.heap.size)(P:m<18446744073709551616)(n:pS w b r m):
 Calls prog 146 #[.pointer (some ⟨b,r,none⟩)] w fun f w'=>(∃v,f=.returned v/\cW w' w.heap.size v (aC m))/\Below w.heap.size w w':=by
 have a5:=n.1;have R:=n.2;obtain⟨bc,a1,a9,ba,bb⟩:=cY pq;obtain⟨I,be,aa⟩:=bH n R P;clear n R P;go_enter func146,ntmps146
 go_wp2
 go_loopw [3,4,5,7] (fun v bz bA i wr=>∃k:Nat,i=.int .i64 k/\k<=16/\Below w.heap.size w wr/\∃s,cW wr w.heap.size v s/\Hid (s=if k=0 then []else aC m)) (fun _ _ _ i _=>16-(intOf i).toNat)
 case atStart=>exact⟨0,rfl,aZ _,aE _ _,[],dc _ _ _ _,rfl⟩
 case round=>
 obtain⟨k,rfl,bg,a,s,d,t⟩:=hrel;obtain⟨H,G,rfl⟩:=mg d;by_cases a2:k<16
 ·have av:decide ((k:Int)<16)=true:=bQ
  have bl:(k:Int)<16:=ad;have bi:(0:Int)<=k:=ad;obtain⟨x,E⟩:=ar (if k=0 then m else 0);have a7:wr.cell? ⟨b,r+k,none⟩=some (.int .u64 (x:Nat)):=by
   rw[a.cell (p:=⟨b,r+k,none⟩) u,E];split
   ·rename_i f;subst f;exact I.o.1
   ·exact I.o.2 k ad a2
  have g:=ah E;clear E
  go_wp2
  go_quiet(fail)
  obtain⟨Y,o⟩:=ar (wr.drewN nq);have N:Below w.heap.size w Y:=by rw[o];exact gh a nq
  have l:cW Y w.heap.size (.slice H s.length G) s:=by rw[o];exact DW d (gh (aE _ wr) nq)
  rw[<-o];clear o d a a7;have T:x<18446744073709551616:=by rw[g.o];split;exact aa.o;decide
  have J:Hid (s++aC x=aC m):=by
   unfold Hid;rw[t.o,g.o];split
   ·rfl
   ·rw[qr,xI]
  have K:Hid (x≠0->k=0):=fun ag=>by apply ei;intro a3;exact ag (by rw[g.o,au a3])
  clear g t a5
  go_wp2
  go_loopw [3,5] (fun v F wr=>∃(y:Nat) (s:List Nat),F=.int .u64 (y:Nat)/\y<18446744073709551616/\Below w.heap.size w wr/\cW wr w.heap.size v s/\Hid (s++aC y=aC m)/\Hid (y≠0->k=0)) (fun _ F _=>(intOf F).toNat)
  case atStart=>exact⟨x,s,rfl,T,N,l,J,K⟩
  case round=>
  clear N l T J K;obtain⟨y,s,rfl,q,a,d,h,ab⟩:=hrel;obtain⟨H,G,rfl⟩:=mg d;by_cases e:y=0
  ·obtain rfl:s=aC m:=by have:=h.o;rwa[e,qr,xI]at this
   have a8:((y:Int)==0)=true:=va;clear e
   go_wp2
   go_roundw
   case rel=>exact⟨k+1,aV,ad,a,aC m,d,by unfold Hid;rw[au ad]⟩
   case measure=>exact bh
  ·have a8:((y:Int)==0)=false:=gK
   have B:=ab.o e;have D:=fun Z (u:Below wr.heap.size wr Z)=>DZ y q e Z (an.below (a.trans (u.mono a.size)));have A:=Cd e q;have aq:=(yc e q).1;have ao:bits .and .u64 (y:Int) (((y-1:Nat)):Int)=((y&&&(y-1):Nat):Int):=AU y (y-1) q ad;have bw:IntKind.u64.wrap ((y:Int)-1)=((y-1:Nat):Int):=by rw[show((y:Int)-1)=((y-1:Nat):Int) by omega];exact IntWalk.u64_in _ ad
   have C:y&&&(y-1)<=y-1:=IK;have bu:s.length<=64:=by
    have al:=jk List.length h.o;rw[cR]at al;have bf:(aC m).length<=64:=by unfold aC;have:=lq m.testBit (List.range 64);simpa using this
    omega
   obtain⟨c,O⟩:=ar (Lib.ctz 64 y);rw[<-O]at D aq A;have M:Hid ((s++[c])++aC (y&&&(y-1))=aC m):=by unfold Hid;rw[<-h.o,A,xK];rfl
   obtain⟨bd,V⟩:=ar (y&&&(y-1));rw[<-V]at ao C M;obtain⟨af,L,ae⟩:=bH e C B;have S:=D wr (aE _ wr);have bo:(k:Int)*64=0:=by rw[B];rfl
   clear A O V h e C D B;go_wp2_with fail
   refine S.mono ?_;rintro f X ⟨rfl,a6⟩;subst a6;clear S;have Q:X.ownsRow w.heap.size 3 1 (.slice H s.length G) s.length (fi s):=d;have l:=f9 Q (.cells #[.int .i64 (c:Nat)] 3);have bt:=a.size;go_wp2_with(first
    |(at_builtin;go_must (refine jh _ rfl _ _ 125 rfl w.heap.size 3 bc (.int .i64 0) 1 8 mR a1 a9 ba bb rfl ap _ _ _ rfl l ⟨X.heap.size,0,none⟩ 1 1 [.int .i64 (c:Nat)] rfl rfl (dK _ [.int .i64 (c:Nat)] _ _ (by first|rfl|simp)) (fun z W=>by simp at W;subst W;rfl) bI ad aR ?_);intro bB bC a4 a0 bq)
    |go_in)
   go_roundw
   case rel=>
    refine⟨bd,s++[c],rfl,by have:=L.o;omega,(a.alloc a.size _).grown a0 aR (fun j f=>(dC Q j f).1),?_,M,fun _=>ae.o⟩;unfold cW;rw[cR];show World.ownsRow _ _ _ _ _ _ ((s++[c]).map fun k=>Value.int .i64 (k:Nat))
    rw[iH];exact a4
   case measure=>have:=L.o;have:=af.o;simp[intOf];omega
 ·have av:decide ((k:Int)<16)=false:=bK
  obtain rfl:s=aC m:=by have:=t.o;rwa[au ad]at this
  go_wp2
  go_ret;exact⟨⟨_,rfl,d⟩,a⟩
structure fE(w w':World)(b off:Nat)(v:Value):Prop where
 os:w'.os=w.os
 tape:w'.tape=w.tape
 output:w'.output=w.output
 size:w'.heap.size=w.heap.size
 block:∀k,k≠b->w'.heap[k]?=w.heap[k]?
 other:∀j,j≠off->w'.cell? ⟨b,j,none⟩=w.cell? ⟨b,j,none⟩
 here:w'.cell? ⟨b,off,none⟩=some v
 frozen:∀j,w'.frozen? ⟨b,j,none⟩=w.frozen? ⟨b,j,none⟩
theorem mz{w:World}{k b c:Nat}{x v:Value}(g:w.cell? ⟨b,c,none⟩=some x):fE w ((w.drewN k).setCell ⟨b,c,none⟩ v) b c v:=by
 have f:∀a,(w.drewN k).cell? a=w.cell? a:=fun a=>dD (w:=w) rfl;refine⟨rfl,rfl,rfl,by rw[dE];rfl,fun j e=>fQ _ _ _ _ e,fun j e=> ?_,BE _ _ _ ((f _).trans g),fun j=> ?_⟩
 ·have h:(⟨b,c,none⟩:Addr)≠⟨b,j,none⟩:=fun d=>by injection d with _ d _;exact e d.symm
  rw[kd _ _ _ _ h,f]
 ·rw[World.frozen?_setCell]
  exact mW (w:=w) rfl
theorem fE.set{w w':World}{b a m m':Nat}(f:pS w b a m)(c:fE w w' b a (.int .u64 (m':Nat))):pS w' b a m':=
 ⟨c.here,fun j d e=>(c.other _ ad).trans (f.2 j d e)⟩
theorem nB(b c m h B g:Nat)(w:World)(ab:h≠b)(Z:m<18446744073709551616)(aa:g<18446744073709551616)(O:pS w b c m)(Q:D0 w b c)(P:pS w h B g):
 Calls prog 147 #[.pointer (some ⟨b,c,none⟩),.pointer (some ⟨h,B,none⟩)] w fun f w'=>f=.returned (.tuple #[])/\fE w w' b c (.int .u64 ((m|||g:Nat):Int)):=by
 obtain⟨D,K,V⟩:=bH O P Q;clear O P Q;go_enter func147,ntmps147
 go_wp2
 go_loopw [4,5,7] (fun a0 a1 i wr=>∃k:Nat,i=.int .i64 k/\k<=16/\∃q:Nat,fE w wr b c (.int .u64 (q:Nat))/\Hid (q=if k=0 then m else m|||g)) (fun _ _ i _=>16-(intOf i).toNat)
 case atStart=>exact⟨0,rfl,aZ _,m,⟨rfl,rfl,rfl,rfl,fun _ _=>rfl,fun _ _=>rfl,D.o.1,fun _=>rfl⟩,rfl⟩
 case round=>
 obtain⟨k,rfl,al,q,d,C⟩:=hrel;by_cases t:k<16
 ·have Y:decide ((k:Int)<16)=true:=bQ
  have ao:(k:Int)<16:=ad;have an:(0:Int)<=k:=ad;obtain⟨x,u⟩:=ar (if k=0 then g else 0);obtain⟨y,v⟩:=ar (if k=0 then m else 0);have av:wr.cell? ⟨h,B+k,none⟩=some (.int .u64 (x:Nat)):=by
   rw[dD (w:=w) (w':=wr) (a:=⟨h,B+k,none⟩) (d.block h ab),u];split
   ·rename_i f;subst f;exact K.o.1
   ·exact K.o.2 k ad t
  have z:wr.cell? ⟨b,c+k,none⟩=some (.int .u64 (y:Nat)):=by
   rw[v];split
   ·rename_i f
    subst f;have:=C.o;rw[ay rfl]at this;rw[<-this];exact d.here
   ·rw[d.other _ ad]
    exact D.o.2 k ad t
  have A:wr.frozen? ⟨b,c+k,none⟩=false:=by rw[d.frozen];exact V.o k t
  have ae:x<18446744073709551616:=by rw[u];split;exact aa;decide
  have ag:y<18446744073709551616:=by rw[v];split;exact Z;decide
  have aq:bits .or .u64 (y:Int) (x:Int)=((y|||x:Nat):Int):=If y x ag ae;obtain⟨L,M⟩:=aD u v;clear u v
  go_wp2
  go_quiet(fail)
  obtain⟨n,p⟩:=ar (wr.drewN nq);have z:n.cell? ⟨b,c+k,none⟩=some (.int .u64 (y:Nat)):=by rw[p];simpa using z
  have A:n.frozen? ⟨b,c+k,none⟩=false:=by rw[p];simpa using A
  rw[<-p];have s:=ah p;clear p;go_wp2_with fail
  go_still_tail 9,aA
  change wpList _ _ _ _ _ (World.drew n);have J:n.drew.cell? ⟨b,c+k,none⟩=some (.int .u64 (y:Nat)):=z;have af:n.drew.frozen? ⟨b,c+k,none⟩=false:=A;obtain⟨e,G⟩:=ar (n.drew);rw[<-G]at J af⊢;have r:=ah G;clear G z A
  go_wp2
  go_roundw
  case rel=>
   have R:e.heap=wr.heap:=by rw[r.o,s.o];rfl
   have E:∀j:Nat,e.heap[j]?=wr.heap[j]?:=fun j=>by rw[R]
   have N:∀a,e.cell? a=wr.cell? a:=fun a=>dD (w:=wr) (w':=e) (E a.block);have X:∀a,e.frozen? a=wr.frozen? a:=fun a=>mW (w:=wr) (w':=e) (E a.block);refine⟨k+1,aV,ad,m|||g,⟨?_,?_,?_,?_,fun j o=> ?_,fun j o=> ?_,?_,fun j=> ?_⟩,by unfold Hid;rw[au ad]⟩
   ·rw[<-d.os];show e.os=wr.os;rw[r.o,s.o];rfl
   ·rw[<-d.tape];show e.tape=wr.tape;rw[r.o,s.o];rfl
   ·rw[<-d.output];show e.output=wr.output;rw[r.o,s.o];rfl
   ·rw[dE,<-d.size,R]
   ·rw[fQ _ _ _ _ o,E,d.block j o]
   ·by_cases f:j=c+k
    ·subst f
     have S:k≠0:=fun f=>o ad;have I:y=0:=by rw[M.o,au S]
     have H:x=0:=by rw[L.o,au S]
     rw[BE e _ _ J,I,H,D.o.2 k ad t];rfl
    ·have F:(⟨b,c+k,none⟩:Addr)≠⟨b,j,none⟩:=fun l=>by injection l with _ l _;exact f l.symm
     rw[kd e _ _ _ F,N,d.other j o]
   ·by_cases f:k=0
    ·subst f
     have I:y=m:=by rw[M.o,ay rfl]
     have H:x=g:=by rw[L.o,ay rfl]
     have:=BE e _ (Value.int .u64 ((m|||g:Nat):Int)) J;rw[I,H];simpa using this
    ·have F:(⟨b,c+k,none⟩:Addr)≠⟨b,c,none⟩:=fun l=>by injection l with _ l _;omega
     rw[kd e _ _ _ F,N,d.here];have:=C.o;rw[au f]at this;rw[this]
   ·rw[World.frozen?_setCell,X,d.frozen]
  case measure=>exact bh
 ·have Y:decide ((k:Int)<16)=false:=bK
  have T:q=m|||g:=by have:=C.o;rwa[au ad]at this
  have W:Hid (fE w wr b c (.int .u64 ((m|||g:Nat):Int))):=by rw[T]at d;exact d
  clear T d
  go_wp2
  go_end0
  exact⟨rfl,W.o⟩
structure PF where
 void:Bool
 empty:Bool
 f:Nat
 l:Nat
def setRow(m:Nat):List Value:=[.int .u64 (m:Nat),.int .u64 0,.int .u64 0,.int .u64 0,.int .u64 0,.int .u64 0,.int .u64 0,.int .u64 0,.int .u64 0,.int .u64 0,.int .u64 0,.int .u64 0,.int .u64 0,.int .u64 0,.int .u64 0,.int .u64 0]
def factRow(a:PF):List Value:=.bool a.void::.bool a.empty::(setRow a.f++setRow a.l)
def iR(a:PF):Value:=.agg (factRow a).toArray
def sQ(a b:PF):PF:=⟨a.void&&b.void,a.empty||b.empty,a.f|||b.f,a.l|||b.l⟩
def pT(a b:PF):PF:=if a.void||b.void then⟨true,false,0,0⟩else⟨false,a.empty&&b.empty,if a.empty then a.f|||b.f else a.f,if b.empty then b.l|||a.l else b.l⟩
theorem jP(m:Nat):(setRow m).length=16:=rfl
theorem sR(a:PF):(factRow a).length=34:=rfl
theorem ep{w:World}{b c m:Nat}(a:w.rangeAt b c (setRow m)):pS w b c m:=by
 refine⟨a 0 _ rfl,fun j d e=>a j _ ?_⟩;obtain rfl|rfl|rfl|rfl|rfl|rfl|rfl|rfl|rfl|rfl|rfl|rfl|rfl|rfl|rfl:j=1∨j=2∨j=3∨j=4∨j=5∨j=6∨j=7∨j=8∨j=9∨j=10∨j=11∨j=12∨j=13∨j=14∨j=15:=ad
 all_goals rfl
theorem vW{w:World}{b e m:Nat}(c:pS w b e m):w.rangeAt b e (setRow m):=by
 intro j v a;have d:=(aL.1 a).1;rw[jP]at d;by_cases f:j=0
 ·subst f
  injection a with a
  rw[<-a];exact c.1
 ·have g:=c.2 j ad d
  obtain rfl|rfl|rfl|rfl|rfl|rfl|rfl|rfl|rfl|rfl|rfl|rfl|rfl|rfl|rfl:j=1∨j=2∨j=3∨j=4∨j=5∨j=6∨j=7∨j=8∨j=9∨j=10∨j=11∨j=12∨j=13∨j=14∨j=15:=ad
  all_goals(injection a with a;rw[<-a];exact g)
theorem kz{w:World}{b d:Nat}{a:PF}(e:w.rangeAt b d (factRow a)):w.rangeAt b (d+2) (setRow a.f):=fun j v c=>by have:=e (2+j) v (by unfold factRow;rw[show 2+j=j+1+1 by omega,gI,gI,eP (aL.1 c).1];exact c);rwa[<-iE]at this
theorem nC{w:World}{b c:Nat}{a:PF}(d:w.rangeAt b c (factRow a)):w.rangeAt b (c+18) (setRow a.l):=fun j v e=>by have:=d (18+j) v (by unfold factRow;rw[show 18+j=(16+j)+1+1 by omega,gI,gI,fZ (by rw[jP];omega),jP,show 16+j-16=j by omega];exact e);rwa[<-iE]at this
theorem fK:(prog.info? 222).map (·.size)=some 16:=aA
theorem dB:(prog.info? 224).map (·.size)=some 34:=aA
theorem gC{P:Program}{fn:Func}{p:Tmp}{ty:TypeId}(a:fn.results=#[.cell p ty])(tmps:Array Value)(w:World)(b o:Nat)(cs:List Value)(d:TypeDesc)
 (g:tmps.getD p undef=.pointer (some ⟨b,o,none⟩)) (c:w.rangeAt b o cs)
 (i:P.underlying ty=some d) (e:d.isRow=true) (f:(P.info? ty).map (·.size)=some cs.length):
 (results fn tmps).run P w=.ok (.agg cs.toArray) w:=by
 have h:tmps[p]?.getD undef=.pointer (some ⟨b,o,none⟩):=by simpa using g
 simp[results,a,h,asAddr,xT w b o ty cs d c i e f]
theorem sS{P:Program}{c:Array Oper}{rest:List Oper}{b:Oper}{a:Act}{w:World}{Q:Exit->Act->World->Prop}(g:b.guard=none)(ty:TypeId)(ps:Array (Nat×Operand))(h:b.op=.build ty ps)(v:Value)(parts:List (Nat×Value))
 (j:(Instr.build ty parts.toArray).run P w=.ok v w) (i:(ps.toList.map fun p=>(p.1,a.eval p.2))=parts) (e:wpList P c Q rest (a.put b.dst v) w):wpList P c Q (b::rest) a w:=
 wpList_plain g fun _ f=>by
  have d:(ps.map fun p=>(p.1,a.eval p.2))=parts.toArray:=by
   rw[<-i];cases ps
   simp
  unfold Oper.wp execOp;simp only[h,BF,uF,BG,d,j];exact f _ _ e
structure dU(w w':World)(b off:Nat)(cs:List Value):Prop where
 os:w'.os=w.os
 tape:w'.tape=w.tape
 output:w'.output=w.output
 size:w'.heap.size=w.heap.size
 block:∀k,k≠b->w'.heap[k]?=w.heap[k]?
 other:∀j,j<off∨off+cs.length<=j->w'.cell? ⟨b,j,none⟩=w.cell? ⟨b,j,none⟩
 here:w'.rangeAt b off cs
 frozen:∀j,w'.frozen? ⟨b,j,none⟩=w.frozen? ⟨b,j,none⟩
theorem D2(b:Nat):∀(c:List Value) (o:Nat) (w:World) (k:Nat),k≠b->(w.setCells b o c).heap[k]?=w.heap[k]?
 |[],_,_,_,_=>rfl
 |v::a,o,w,k,h=>by rw[World.setCells,D2 b a (o+1) _ k h];exact fQ w ⟨b,o,none⟩ v k h
theorem D3(b:Nat):∀(c:List Value) (o:Nat) (w:World),(w.setCells b o c).heap.size=w.heap.size
 |[],_,_=>rfl
 |v::a,o,w=>by rw[World.setCells,D3 b a (o+1) _,dE]
theorem D4(b:Nat):∀(c:List Value) (o:Nat) (w:World),(w.setCells b o c).tape=w.tape
 |[],_,_=>rfl
 |v::a,o,w=>by rw[World.setCells,D4 b a (o+1) _];rfl
theorem vX{w:World}{b o:Nat}{cs:List Value}(a:w.there b o cs.length):dU w (w.setCells b o cs) b o cs:=
 ⟨(World.keptBut_setCells b (may:=fun _=>True) cs o w (fun _ _=>trivial)).1,D4 b cs o w,(World.keptBut_setCells b (may:=fun _=>True) cs o w (fun _ _=>trivial)).2.1,D3 b cs o w,fun k h=>D2 b cs o w k h,
   fun j h=>World.cell?_setCells_out b cs o w ⟨b,j,none⟩ (fun _ _=>h),World.rangeAt_setCells_same w b o cs a,fun j=>World.frozen?_setCells b cs o w _⟩
theorem fE.row{w w':World}{b off:Nat}{v:Value}(h:fE w w' b off v):dU w w' b off [v]:=
 ⟨h.os,h.tape,h.output,h.size,h.block,fun j a=>h.other j (by simp at a;omega),(fun j u a=>by
   obtain rfl:j=0:=by have:=(aL.1 a).1;simp at this;exact this
   injection a with a
   rw[<-a];exact h.here),h.frozen⟩
section
variable{w w':World} {b off:Nat} {cs:List Value} (h:dU w w' b off cs)
include h
theorem dU.below{B:Nat}{a:World}(c:Below B a w)(e:B<=b):Below B a w':=
 ⟨h.os.trans c.os,h.tape.trans c.tape,h.output.trans c.output,by rw[h.size];exact c.size,fun k d=>(h.block k ad).trans (c.block k d)⟩
theorem dU.grown:w.grownBy w' (some b):=⟨h.os,h.tape,h.output,by rw[h.size];exact az _,fun k _ c=>h.block k (fun a=>c (by rw[a]))⟩
theorem dU.far{b' o':Nat}(a:b'≠b):w'.cell? ⟨b',o',none⟩=w.cell? ⟨b',o',none⟩:=dD (h.block b' a)
theorem dU.range{b' o':Nat}{xs:List Value}(d:w.rangeAt b' o' xs)(e:b'≠b∨o'+xs.length<=off∨off+cs.length<=o'):w'.rangeAt b' o' xs:=fun j v a=>by
 have f:=(aL.1 a).1;by_cases c:b'=b
 ·subst c
  rw[h.other _ ad];exact d j v a
 ·rw[h.far c];exact d j v a
theorem dU.fz(b' o':Nat):w'.frozen? ⟨b',o',none⟩=w.frozen? ⟨b',o',none⟩:=by
 by_cases a:b'=b
 ·subst a;exact h.frozen o'
 ·exact mW (h.block b' a)
theorem dU.there{b' o' n:Nat}(i:w.there b' o' n):w'.there b' o' n:=fun j g=>by
 obtain⟨c,f⟩:=i j g;refine⟨?_,(h.fz _ _).trans f⟩;by_cases a:b'=b
 ·subst a
  by_cases e:o'+j<off∨off+cs.length<=o'+j
  ·rw[h.other _ e];exact c
  ·have d:=h.here (o'+j-off) _ (aH ad)
   rw[show off+(o'+j-off)=o'+j by omega]at d;rw[d];rfl
 ·rw[h.far a];exact c
end
theorem cQ{P:Program}{e:Array Oper}{rest:List Oper}{c:Oper}{a:Act}{w:World}{Q:Exit->Act->World->Prop}(g:c.guard=none)(ty:TypeId)(x y:Operand)(j:c.op=.store ty x y)
 (b o:Nat) (cs:List Value) (l:a.eval x=.pointer (some ⟨b,o,none⟩)) (m:a.eval y=.agg cs.toArray)
 (d:w.there b o cs.length) (i:(P.info? ty).map (·.size)=some cs.length) (f:∀v∈cs,v.oneCell'=true)
 (h:∀w',dU w w' b o cs->wpList P e Q rest (a.put c.dst undef) w'):wpList P e Q (c::rest) a w:=
 wpList_store_mid g ty x y j b o cs.toArray l m (by simpa using d) (by simpa using i) (all_oneCell_toArray f) (h _ (by simpa using vX d))
theorem ol{w:World}{b:Nat}{cs:List Value}{ty:TypeId}{f:Nat×Nat}(h:w.heap[b]?=some (.cells cs.toArray ty f)):w.rangeAt b 0 cs:=fun j v a=>by rw[cD,bs w b j cs.toArray ty f h];simpa using a
theorem jt{w:World}{b n:Nat}{cs:List Value}{ty:TypeId}(h:w.heap[b]?=some (.cells cs.toArray ty))(c:n<=cs.length):w.there b 0 n:=fun j a=>by
 refine⟨?_,?_⟩
 ·rw[cD,bs w b j cs.toArray ty (0,0) h]
  simp;omega
 ·simp[World.frozen?,h]
theorem om{w:World}{b o n o' n':Nat}(h:w.there b o n)(a:o<=o')(c:o'+n'<=o+n):w.there b o' n':=fun j d=>by have:=h (o'-o+j) ad;rwa[show o+(o'-o+j)=o'+j by omega]at this
theorem nD{w:World}{b o n:Nat}(h:w.there b o n)(c:16<=n):D0 w b o:=fun j a=>(h j ad).2
theorem fa(m:Nat):∀v∈setRow m,v.oneCell'=true:=by intro v a;unfold setRow at a;simp only[du,qk,ql]at a;rcases a with rfl|rfl|rfl|rfl|rfl|rfl|rfl|rfl|rfl|rfl|rfl|rfl|rfl|rfl|rfl|rfl<;>rfl
theorem iS(a:PF):∀v∈factRow a,v.oneCell'=true:=by
 intro v b;unfold factRow at b;simp only[du,fA]at b;rcases b with rfl|rfl|h|h
 ·rfl
 ·rfl
 ·exact fa _ v h
 ·exact fa _ v h
def jQ:PF:=⟨false,false,0,0⟩
theorem MI(x y:Bool)(f l:Nat)(w:World):(Instr.build 224 #[(0,.bool x),(1,.bool y),(2,.agg (setRow f).toArray),(3,.agg (setRow l).toArray)]).run prog w=.ok (iR ⟨x,y,f,l⟩) w:=by kernel_rfl
theorem oo{c:Array Oper}{rest:List Oper}{b:Oper}{a:Act}{w:World}{Q:Exit->Act->World->Prop}(x y:Bool)(f l:Nat)(d:b.guard=none)(ps:Array (Nat×Operand))(e:b.op=.build 224 ps)
 (g:(ps.toList.map fun p=>(p.1,a.eval p.2))=[(0,.bool x),(1,.bool y),(2,.agg (setRow f).toArray),(3,.agg (setRow l).toArray)]) (h:wpList prog c Q rest (a.put b.dst (.agg (factRow ⟨x,y,f,l⟩).toArray)) w):wpList prog c Q (b::rest) a w:=
 sS d 224 ps e _ _ (MI x y f l w) g h
theorem ou{c:Array Oper}{rest:List Oper}{b:Oper}{a:Act}{w:World}{Q:Exit->Act->World->Prop}(x:Bool)(d:b.guard=none)(ps:Array (Nat×Operand))(e:b.op=.build 224 ps)
 (f:(ps.toList.map fun p=>(p.1,a.eval p.2))=[(0,.bool x)]) (h:wpList prog c Q rest (a.put b.dst (.agg (factRow ⟨x,false,0,0⟩).toArray)) w):wpList prog c Q (b::rest) a w:=
 sS d 224 ps e _ _ aA f h
theorem ow{c:Array Oper}{rest:List Oper}{b:Oper}{a:Act}{w:World}{Q:Exit->Act->World->Prop}(y:Bool)(d:b.guard=none)(ps:Array (Nat×Operand))(e:b.op=.build 224 ps)
 (f:(ps.toList.map fun p=>(p.1,a.eval p.2))=[(1,.bool y)]) (h:wpList prog c Q rest (a.put b.dst (.agg (factRow ⟨false,y,0,0⟩).toArray)) w):wpList prog c Q (b::rest) a w:=
 sS d 224 ps e _ _ aA f h
theorem ox{c:Array Oper}{rest:List Oper}{b:Oper}{a:Act}{w:World}{Q:Exit->Act->World->Prop}(y:Bool)(f l:Nat)(d:b.guard=none)(ps:Array (Nat×Operand))(e:b.op=.build 224 ps)
 (g:(ps.toList.map fun p=>(p.1,a.eval p.2))=[(1,.bool y),(2,.agg (setRow f).toArray),(3,.agg (setRow l).toArray)]) (h:wpList prog c Q rest (a.put b.dst (.agg (factRow ⟨false,y,f,l⟩).toArray)) w):wpList prog c Q (b::rest) a w:=
 sS d 224 ps e _ _ aA g h
theorem vY{w w':World}{b off m:Nat}{a:PF}(h:w.rangeAt b off (factRow a))(e:fE w w' b (off+2) (.int .u64 (m:Nat))):w'.rangeAt b off (factRow {a with f:=m}):=fun j v d=>by
 by_cases c:j=2
 ·subst c
  rw[e.here];exact d
 ·rw[e.other _ ad]
  refine h j v ?_;rw[<-d];match j,c with
  |0,_=>rfl
  |1,_=>rfl
  |2,c=>exact absurd rfl c
  |j+3,_=>rfl
theorem vZ{w w':World}{b off m:Nat}{a:PF}(h:w.rangeAt b off (factRow a))(e:fE w w' b (off+18) (.int .u64 (m:Nat))):w'.rangeAt b off (factRow {a with l:=m}):=fun j v d=>by
 by_cases c:j=18
 ·subst c
  rw[e.here];exact d
 ·rw[e.other _ ad]
  refine h j v ?_;rw[<-d];match j,c with
  |0,_|1,_|2,_|3,_|4,_|5,_|6,_|7,_|8,_|9,_|10,_|11,_|12,_|13,_|14,_|15,_|16,_|17,_=>rfl
  |18,c=>exact absurd rfl c
  |j+19,_=>rfl
def sT(a:PF):Prop:=a.f<18446744073709551616/\a.l<18446744073709551616
theorem D5{a b:Nat}(c:a<18446744073709551616)(d:b<18446744073709551616):a|||b<18446744073709551616:=
 AT (n:=64) c d
def mA(w:World)(a B:Array Value):World:=((w.alloc (.cells a 224)).alloc (.cells B 224)).alloc (.cells #[.bool false,.bool false,.int .u64 0,.int .u64 0,.int .u64 0,.int .u64 0,.int .u64 0,.int .u64 0,.int .u64 0,.int .u64 0,.int .u64 0,.int .u64 0,.int .u64 0,.int .u64 0,.int .u64 0,.int .u64 0,.int .u64 0,.int .u64 0,.int .u64 0,.int .u64 0,.int .u64 0,.int .u64 0,.int .u64 0,.int .u64 0,.int .u64 0,.int .u64 0,.int .u64 0,.int .u64 0,.int .u64 0,.int .u64 0,.int .u64 0,.int .u64 0,.int .u64 0,.int .u64 0] 224)
theorem D6(w:World)(a b:PF):Below w.heap.size w (mA w (factRow a).toArray (factRow b).toArray)/\(mA w (factRow a).toArray (factRow b).toArray).heap.size=w.heap.size+3/\
 (mA w (factRow a).toArray (factRow b).toArray).rangeAt w.heap.size 0 (factRow a)/\(mA w (factRow a).toArray (factRow b).toArray).rangeAt (w.heap.size+1) 0 (factRow b)/\(mA w (factRow a).toArray (factRow b).toArray).there (w.heap.size+2) 0 34:=by
 unfold mA;have c:=aB w (.cells (factRow a).toArray 224);have d:=aB (w.alloc (.cells (factRow a).toArray 224)) (.cells (factRow b).toArray 224);have e:=aB ((w.alloc (.cells (factRow a).toArray 224)).alloc (.cells (factRow b).toArray 224)) (.cells (factRow jQ).toArray 224);simp only[bj]at c d e;refine⟨(aG.alloc ak _).alloc aR _,ak,ol (ty:=224) (f:=(0,0)) ?_,ol (ty:=224) (f:=(0,0)) ?_,jt (cs:=factRow jQ) (ty:=224) ?_ (az _)⟩
 ·rw[bk _ _ _ aR,bk _ _ _ ak]
  exact c
 ·rw[bk _ _ _ ak]
  exact d
 ·exact e
theorem D7(a:World):Below a.heap.size a (a.alloc (.cells #[.bool false,.bool false,.int .u64 0,.int .u64 0,.int .u64 0,.int .u64 0,.int .u64 0,.int .u64 0,.int .u64 0,.int .u64 0,.int .u64 0,.int .u64 0,.int .u64 0,.int .u64 0,.int .u64 0,.int .u64 0,.int .u64 0,.int .u64 0,.int .u64 0,.int .u64 0,.int .u64 0,.int .u64 0,.int .u64 0,.int .u64 0,.int .u64 0,.int .u64 0,.int .u64 0,.int .u64 0,.int .u64 0,.int .u64 0,.int .u64 0,.int .u64 0,.int .u64 0,.int .u64 0] 224))/\(a.alloc (.cells #[.bool false,.bool false,.int .u64 0,.int .u64 0,.int .u64 0,.int .u64 0,.int .u64 0,.int .u64 0,.int .u64 0,.int .u64 0,.int .u64 0,.int .u64 0,.int .u64 0,.int .u64 0,.int .u64 0,.int .u64 0,.int .u64 0,.int .u64 0,.int .u64 0,.int .u64 0,.int .u64 0,.int .u64 0,.int .u64 0,.int .u64 0,.int .u64 0,.int .u64 0,.int .u64 0,.int .u64 0,.int .u64 0,.int .u64 0,.int .u64 0,.int .u64 0,.int .u64 0,.int .u64 0] 224)).there a.heap.size 0 34:=
 ⟨aG,jt (cs:=factRow jQ) (ty:=224) (aB a _) (az _)⟩
theorem MJ(a b:PF)(P:sT a)(Q:sT b)(w:World):
 Calls prog 203 #[iR a,iR b] w fun t w'=>t=.returned (iR (sQ a b))/\Below w.heap.size w w':=by
 obtain⟨o,y,d,f,t2⟩:=D6 w a b;unfold iR;obtain⟨T,l⟩:=ar ((factRow a).toArray);obtain⟨B,m⟩:=ar ((factRow b).toArray);rw[<-l,<-m]at o y d f t2;obtain⟨r,q⟩:=ar (mA w T B);rw[<-q]at o y d f t2;unfold mA at q;rw[<-l,<-m];obtain⟨c,t3⟩:=D7 r;obtain⟨s,z⟩:=ar (r.alloc (.cells #[.bool false,.bool false,.int .u64 0,.int .u64 0,.int .u64 0,.int .u64 0,.int .u64 0,.int .u64 0,.int .u64 0,.int .u64 0,.int .u64 0,.int .u64 0,.int .u64 0,.int .u64 0,.int .u64 0,.int .u64 0,.int .u64 0,.int .u64 0,.int .u64 0,.int .u64 0,.int .u64 0,.int .u64 0,.int .u64 0,.int .u64 0,.int .u64 0,.int .u64 0,.int .u64 0,.int .u64 0,.int .u64 0,.int .u64 0,.int .u64 0,.int .u64 0,.int .u64 0,.int .u64 0] 224));rw[<-z]at c t3;have al:=c.size;have R:Below w.heap.size w s:=o.trans (c.mono ad);rw[y]at t3;obtain⟨av,ab,F,G⟩:=a;obtain⟨bv,ae,H,I⟩:=b;have J:=d 0 _ rfl;have K:=d 1 _ rfl;have d0:=f 0 _ rfl;have d1:=f 1 _ rfl;have f0:r.rangeAt w.heap.size 2 (setRow F):=kz d;have an:r.rangeAt w.heap.size 18 (setRow G):=nC d;have X:Hid (s.rangeAt (w.heap.size+1) 0 (factRow ⟨bv,ae,H,I⟩)):=fun j v e=>(c.cell (p:=⟨w.heap.size+1,0+j,none⟩) aR).trans (f j v e);have Z:Hid (s.there (w.heap.size+2) 0 34):=fun j e=>by obtain⟨af,ag⟩:=t2 j e;exact⟨by rw[c.cell (p:=⟨w.heap.size+2,0+j,none⟩) aR];exact af,by rw[c.frozen (p:=⟨w.heap.size+2,0+j,none⟩) aR];exact ag⟩
 simp only at J K d0 d1;obtain⟨a0,a1,V,D,E⟩:=jJ l m R P Q;have A:Hid (s.there (w.heap.size+3) 0 34):=ah t3;clear l m o c R d f t2 P Q al;go_enter func203,ntmps203
 cases av<;>cases ab
 all_goals
  go_wp2_with(first
   |(rw[<-q];clear q)
   |(rw[<-z];clear z)
   |((with_reducible apply dj (ty:=222));exact rfl;exact rfl;exact rfl;assumption;exact kI;exact rfl;exact fK)
   |(first|((with_reducible apply oo);exact rfl;exact rfl;exact rfl)|((with_reducible apply ox);exact rfl;exact rfl;exact rfl)|((with_reducible apply ou);exact rfl;exact rfl;exact rfl)|((with_reducible apply ow);exact rfl;exact rfl;exact rfl))
   |(((with_reducible apply cQ (ty:=224));exact rfl;exact rfl;exact rfl;exact rfl;assumption;exact dB;exact iS _);intro ao g)
   |fail)
  have x:=g.range X.o (.inl ad);have M:=g.there A.o;have e:=nB (w.heap.size+3) 2 F (w.heap.size+1) 2 H ao ad D.o.1 E.o.1 (ep (kz g.here)) (nD (om M (o':=2) (n':=16) ad ad) (az _)) (ep (kz x));obtain⟨i,Y⟩:=aD g x;clear g t3 f0 an J K d0 d1 x M;refine e.mono ?_;rintro t aq ⟨rfl,h⟩;have u:=vY i.o.here h;have L:=h.row.range Y.o (.inl ad);have N:=h.row.there (i.o.there A.o);have S:=nB (w.heap.size+3) 18 G (w.heap.size+1) 18 I aq ad D.o.2 E.o.2 (ep (nC u)) (nD (om N (o':=18) (n':=16) ad ad) (az _)) (ep (nC L));obtain⟨C,W⟩:=aD h u;clear e h u L N;go_wp2_with fail
  refine S.mono ?_;rintro t a4 ⟨rfl,n⟩;have a2:=vZ W.o n;have a3:=n.row.there (C.o.row.there (i.o.there Z.o));have aa:=ah n;clear S n;go_wp2_with(first
   |((with_reducible apply dj (ty:=224));exact rfl;exact rfl;exact rfl;assumption;exact gJ;exact rfl;exact dB)
   |(((with_reducible apply cQ (ty:=224));exact rfl;exact rfl;exact rfl;exact rfl;assumption;exact dB;exact iS _);intro a5 O)
   |fail)
  (try simp only[Exit.inBlock,Exit.then])
  refine cg (gC rfl _ _ (w.heap.size+2) 0 _ _ rfl O.here gJ rfl dB) rfl ?_;exact⟨rfl,O.below (aa.o.row.below (C.o.row.below (i.o.below V.o ad) ad) ad) ad⟩
theorem MK(a b:PF)(ab:sT a)(ae:sT b)(w:World):
 Calls prog 202 #[iR a,iR b] w fun E w'=>E=.returned (iR (pT a b))/\Below w.heap.size w w':=by
 obtain⟨F,S,A,C,t2⟩:=D6 w a b;unfold iR;obtain⟨an,M⟩:=ar ((factRow a).toArray);obtain⟨B,N⟩:=ar ((factRow b).toArray);rw[<-M,<-N]at F S A C t2;obtain⟨O,r⟩:=ar (mA w an B);rw[<-r]at F S A C t2;unfold mA at r;rw[<-M,<-N];obtain⟨t,t3⟩:=D7 O;obtain⟨H,G⟩:=ar (O.alloc (.cells #[.bool false,.bool false,.int .u64 0,.int .u64 0,.int .u64 0,.int .u64 0,.int .u64 0,.int .u64 0,.int .u64 0,.int .u64 0,.int .u64 0,.int .u64 0,.int .u64 0,.int .u64 0,.int .u64 0,.int .u64 0,.int .u64 0,.int .u64 0,.int .u64 0,.int .u64 0,.int .u64 0,.int .u64 0,.int .u64 0,.int .u64 0,.int .u64 0,.int .u64 0,.int .u64 0,.int .u64 0,.int .u64 0,.int .u64 0,.int .u64 0,.int .u64 0,.int .u64 0,.int .u64 0] 224));rw[<-G]at t t3;have a0:=t.size;have af:Below w.heap.size w H:=F.trans (t.mono ad);rw[S]at t3;obtain⟨av,Z,K,P⟩:=a;obtain⟨bv,aa,Q,L⟩:=b;have R:=A 0 _ rfl;have g:=A 1 _ rfl;have d0:=C 0 _ rfl;have d1:=C 1 _ rfl;have f0:O.rangeAt w.heap.size 2 (setRow K):=kz A;have ag:O.rangeAt (w.heap.size+1) 18 (setRow L):=nC C;have X:Hid (H.rangeAt w.heap.size 0 (factRow ⟨av,Z,K,P⟩)):=fun j v l=>(t.cell (p:=⟨w.heap.size,0+j,none⟩) aR).trans (A j v l);have V:=ah F;have Y:Hid (H.rangeAt (w.heap.size+1) 0 (factRow ⟨bv,aa,Q,L⟩)):=fun j v l=>(t.cell (p:=⟨w.heap.size+1,0+j,none⟩) aR).trans (C j v l);have q:Hid (H.there (w.heap.size+2) 0 34):=fun j l=>by obtain⟨ao,aq⟩:=t2 j l;exact⟨by rw[t.cell (p:=⟨w.heap.size+2,0+j,none⟩) aR];exact ao,by rw[t.frozen (p:=⟨w.heap.size+2,0+j,none⟩) aR];exact aq⟩
 simp only at R g d0 d1;obtain⟨a2,a3,W,I,J⟩:=jJ M N af ab ae;have s:Hid (H.there (w.heap.size+3) 0 34):=ah t3;clear M N F t af A C ab ae a0;go_enter func202,ntmps202
 cases av
 case true=>
  go_wp2_with(first
   |(rw[<-r];clear r)
   |(first|((with_reducible apply oo);exact rfl;exact rfl;exact rfl)|((with_reducible apply ox);exact rfl;exact rfl;exact rfl)|((with_reducible apply ou);exact rfl;exact rfl;exact rfl)|((with_reducible apply ow);exact rfl;exact rfl;exact rfl))
   |(((with_reducible apply cQ (ty:=224));exact rfl;exact rfl;exact rfl;exact rfl;assumption;exact dB;exact iS _);intro D f)
   |fail)
  (try simp only[Exit.inBlock,Exit.then])
  refine cg (gC rfl _ _ (w.heap.size+2) 0 _ _ rfl f.here gJ rfl dB) rfl ?_;exact⟨by unfold pT;simp,f.below V.o ad⟩
 cases bv
 case true=>
  go_wp2_with(first
   |(rw[<-r];clear r)
   |(first|((with_reducible apply oo);exact rfl;exact rfl;exact rfl)|((with_reducible apply ox);exact rfl;exact rfl;exact rfl)|((with_reducible apply ou);exact rfl;exact rfl;exact rfl)|((with_reducible apply ow);exact rfl;exact rfl;exact rfl))
   |(((with_reducible apply cQ (ty:=224));exact rfl;exact rfl;exact rfl;exact rfl;assumption;exact dB;exact iS _);intro D f)
   |fail)
  (try simp only[Exit.inBlock,Exit.then])
  refine cg (gC rfl _ _ (w.heap.size+2) 0 _ _ rfl f.here gJ rfl dB) rfl ?_;exact⟨by unfold pT;simp,f.below V.o ad⟩
 cases Z<;>cases aa
 case false.false=>
  go_wp2_with(first
   |(rw[<-r];clear r)
   |(rw[<-G];clear G)
   |((with_reducible apply dj (ty:=222));exact rfl;exact rfl;exact rfl;assumption;exact kI;exact rfl;exact fK)
   |((with_reducible apply dj (ty:=224));exact rfl;exact rfl;exact rfl;assumption;exact gJ;exact rfl;exact dB)
   |(first|((with_reducible apply oo);exact rfl;exact rfl;exact rfl)|((with_reducible apply ox);exact rfl;exact rfl;exact rfl)|((with_reducible apply ou);exact rfl;exact rfl;exact rfl)|((with_reducible apply ow);exact rfl;exact rfl;exact rfl))
   |(((with_reducible apply cQ (ty:=224));exact rfl;exact rfl;exact rfl;exact rfl;assumption;exact dB;exact iS _);first|(clear t2;intro D f;have e:=f.range Y.o (.inl ad);have d:=f.range X.o (.inl ad);have g:=d 1 _ rfl;have d1:=e 1 _ rfl;have i:=f.here;have n:=f.there q.o;have h:=f.below W.o (rP _ _);simp only at g d1;clear t3 f0 ag R d0)|(intro T o))
   |fail)
  (try simp only[Exit.inBlock,Exit.then])
  refine cg (gC rfl _ _ (w.heap.size+2) 0 _ _ rfl o.here gJ rfl dB) rfl ?_;exact⟨rfl,o.below h ad⟩
 all_goals
  go_wp2_with(first
   |(rw[<-r];clear r)
   |(rw[<-G];clear G)
   |((with_reducible apply dj (ty:=222));exact rfl;exact rfl;exact rfl;assumption;exact kI;exact rfl;exact fK)
   |(first|((with_reducible apply oo);exact rfl;exact rfl;exact rfl)|((with_reducible apply ox);exact rfl;exact rfl;exact rfl)|((with_reducible apply ou);exact rfl;exact rfl;exact rfl)|((with_reducible apply ow);exact rfl;exact rfl;exact rfl))
   |(((with_reducible apply cQ (ty:=224));exact rfl;exact rfl;exact rfl;exact rfl;assumption;exact dB;exact iS _);intro D f;have e:=f.range Y.o (.inl ad);have d:=f.range X.o (.inl ad);have g:=d 1 _ rfl;have d1:=e 1 _ rfl;have i:=f.here;have m:=f.there s.o;have n:=f.there q.o;have h:=f.below W.o (rP _ _);simp only at g d1;clear t2 t3 f0 ag R d0)
   |fail)
 ·have l:=nB (w.heap.size+3) 18 L (w.heap.size) 18 P D ad J.o.2 I.o.2 (ep (nC i)) (nD (om m (o':=18) (n':=16) ad ad) (az _)) (ep (nC d))
  obtain⟨x,s,q,u,y,z⟩:=g6 i m n h d e;clear i m n h g d1 d e;refine l.mono ?_;rintro E a1 ⟨rfl,c⟩;have i:=vZ x.o c;have d:=c.row.range y.o (.inl ad);have e:=c.row.range z.o (.inl ad);have m:=c.row.there s.o;have n:=c.row.there q.o;have h:=c.row.below u.o ad;have g:=d 1 _ rfl;have d1:=e 1 _ rfl;simp only at g d1;clear l c;go_wp2_with(first
   |((with_reducible apply dj (ty:=224));exact rfl;exact rfl;exact rfl;assumption;exact gJ;exact rfl;exact dB)
   |(((with_reducible apply cQ (ty:=224));exact rfl;exact rfl;exact rfl;exact rfl;assumption;exact dB;exact iS _);intro T o)
   |fail)
  (try simp only[Exit.inBlock,Exit.then])
  refine cg (gC rfl _ _ (w.heap.size+2) 0 _ _ rfl o.here gJ rfl dB) rfl ?_;exact⟨rfl,o.below h ad⟩
 ·have l:=nB (w.heap.size+3) 2 K (w.heap.size+1) 2 Q D ad I.o.1 J.o.1 (ep (kz i)) (nD (om m (o':=2) (n':=16) ad ad) (az _)) (ep (kz e))
  obtain⟨x,s,q,u,y,z⟩:=g6 i m n h d e;clear i m n h g d1 d e;refine l.mono ?_;rintro E al ⟨rfl,c⟩;have i:=vY x.o c;have d:=c.row.range y.o (.inl ad);have e:=c.row.range z.o (.inl ad);have m:=c.row.there s.o;have n:=c.row.there q.o;have h:=c.row.below u.o ad;have g:=d 1 _ rfl;have d1:=e 1 _ rfl;simp only at g d1;clear l c;go_wp2_with(first
   |((with_reducible apply dj (ty:=224));exact rfl;exact rfl;exact rfl;assumption;exact gJ;exact rfl;exact dB)
   |(((with_reducible apply cQ (ty:=224));exact rfl;exact rfl;exact rfl;exact rfl;assumption;exact dB;exact iS _);intro T o)
   |fail)
  (try simp only[Exit.inBlock,Exit.then])
  refine cg (gC rfl _ _ (w.heap.size+2) 0 _ _ rfl o.here gJ rfl dB) rfl ?_;exact⟨rfl,o.below h ad⟩
 ·have l:=nB (w.heap.size+3) 2 K (w.heap.size+1) 2 Q D ad I.o.1 J.o.1 (ep (kz i)) (nD (om m (o':=2) (n':=16) ad ad) (az _)) (ep (kz e))
  obtain⟨x,s,q,u,y,z⟩:=g6 i m n h d e;clear i m n h g d1 d e;refine l.mono ?_;rintro E al ⟨rfl,c⟩;have i:=vY x.o c;have d:=c.row.range y.o (.inl ad);have e:=c.row.range z.o (.inl ad);have m:=c.row.there s.o;have n:=c.row.there q.o;have h:=c.row.below u.o ad;have g:=d 1 _ rfl;have d1:=e 1 _ rfl;simp only at g d1;clear l c;go_wp2_with fail
  have l:=nB (w.heap.size+3) 18 L (w.heap.size) 18 P al ad J.o.2 I.o.2 (ep (nC i)) (nD (om m (o':=18) (n':=16) ad ad) (az _)) (ep (nC d));obtain⟨x,s,q,u,y,z⟩:=g6 i m n h d e;clear i m n h g d1 d e;refine l.mono ?_;rintro E a1 ⟨rfl,c⟩;have i:=vZ x.o c;have d:=c.row.range y.o (.inl ad);have e:=c.row.range z.o (.inl ad);have m:=c.row.there s.o;have n:=c.row.there q.o;have h:=c.row.below u.o ad;have g:=d 1 _ rfl;have d1:=e 1 _ rfl;simp only at g d1;clear l c;go_wp2_with(first
   |((with_reducible apply dj (ty:=224));exact rfl;exact rfl;exact rfl;assumption;exact gJ;exact rfl;exact dB)
   |(((with_reducible apply cQ (ty:=224));exact rfl;exact rfl;exact rfl;exact rfl;assumption;exact dB;exact iS _);intro T o)
   |fail)
  (try simp only[Exit.inBlock,Exit.then])
  refine cg (gC rfl _ _ (w.heap.size+2) 0 _ _ rfl o.here gJ rfl dB) rfl ?_;exact⟨rfl,o.below h ad⟩
section
open PRegex
def mC(t:PT):PF:=⟨!t.alive,t.null,cE t,dJ t⟩
theorem ML(a b:PT):mC (.alt a b)=sQ (mC a) (mC b):=by unfold mC sQ;simp[PT.alive,PT.null,cE,dJ]
theorem MM(a b:PT):mC (.cat a b)=pT (mC a) (mC b):=by
 unfold mC pT;simp only[PT.alive,PT.null,cE,dJ];cases e:a.alive with
 |false=>
  have d:a.null=false:=by cases c:a.null with|false=>rfl|true=>rw[vl c]at e;cases e
  simp[d]
 |true=>
  cases f:b.alive with
  |false=>
   have d:b.null=false:=by cases c:b.null with|false=>rfl|true=>rw[vl c]at f;cases f
   simp[d]
  |true=>
   cases h:a.null<;>cases g:b.null<;>simp
def factN(l:List aj)(i:Nat):PF:=mC (aQ l i)
theorem MN{l:List aj}(b:ey 0 l=true){i:Nat}{n:aj}(a:l[i]?=some n):
 factN l i=if n.op=1 then⟨false,true,0,0⟩else if n.op=2 then⟨false,false,2^i,2^i⟩else if n.op=3 then pT (factN l n.a.toNat) (factN l n.b.toNat)
  else if n.op=4 then sQ (factN l n.a.toNat) (factN l n.b.toNat)else if n.op=5 then⟨false,true,(factN l n.a.toNat).f,(factN l n.a.toNat).l⟩else⟨true,false,0,0⟩:=by
 unfold factN;rw[nY b a];unfold eS;split
 ·rfl
 split
 ·rfl
 split
 ·exact MM _ _
 split
 ·exact ML _ _
 split
 ·rfl
 ·rfl
theorem kR{l:List aj}(hF:dP l)(d:l.length<=60){i:Nat}(a:i<l.length):sT (factN l i):=by
 have b:=CV hF a;have c:=Kf hF a;have:(2:Nat)^l.length<=2^60:=qg ap d;exact⟨dn b (by have:(2:Nat)^60<=18446744073709551616:=ap
                                                                                     omega),dn c (by have:(2:Nat)^60<=18446744073709551616:=ap
                                                                                                     omega)⟩
end
end Go.Proofs.YtnadadbndcdolaaGreatDoor
