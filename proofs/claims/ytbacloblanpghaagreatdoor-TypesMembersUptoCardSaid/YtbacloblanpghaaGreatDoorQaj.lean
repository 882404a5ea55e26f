import Derived.Test.YtbacloblanpghaaGreatDoorQae
import Derived.Test.YtbacloblanpghaaGreatDoorQaf
set_option linter.unusedVariables false
set_option linter.unusedSimpArgs false
set_option maxRecDepth 100000
set_option maxHeartbeats 0
namespace Go.Proofs.YtbacloblanpghaaGreatDoor
open Go.RowKit Tryz
structure aW(b:Nat)(w w':World):Prop where
 os:w'.os=w.os
 tape:w'.tape=w.tape
 output:w'.output=w.output
 size:w.heap.size<=w'.heap.size
 block:∀k,k<w.heap.size->k≠b->w'.heap[k]?=w.heap[k]?
theorem aW.refl(b:Nat)(w:World):aW b w w:=⟨rfl,rfl,rfl,aB _,fun _ _ _=>rfl⟩
theorem aW.trans{b:Nat}{a c d:World}(e:aW b a c)(k:aW b c d):aW b a d:=
 ⟨k.os.trans e.os,k.tape.trans e.tape,k.output.trans e.output,aR e.size k.size,fun i g f=>(k.block i (eR g e.size) f).trans (e.block i g f)⟩
theorem aW.of{b:Nat}{w w':World}(a:Below w.heap.size w w'):aW b w w':=⟨a.os,a.tape,a.output,a.size,fun k c _=>a.block k c⟩
theorem aW.below{b B:Nat}{w w':World}(a:aW b w w')(c:B<=b)(e:B<=w.heap.size):Below B w w':=
 ⟨a.os,a.tape,a.output,a.size,fun k d=>a.block k ad ad⟩
theorem aW.alloc{b:Nat}{a w:World}(c:aW b a w)(o:Obj):aW b a (w.alloc o):=c.trans (aW.of az)
theorem aW.drew{b:Nat}{a w:World}(c:aW b a w):aW b a w.drew:=c.trans (aW.of (aA _ _).drew)
theorem aW.setCell{b:Nat}{a w:World}(c:aW b a w)(o:Nat)(v:Value):aW b a (w.setCell ⟨b,o,none⟩ v):=
 c.trans ⟨rfl,rfl,rfl,by simp[World.setCell],fun k e d=>eG _ _ _ _ d⟩
theorem aW.drewN{b:Nat}{w:World}(n:Nat):aW b w (w.drewN n):=⟨rfl,rfl,rfl,aB _,fun _ _ _=>rfl⟩
theorem aW.grownBy{b:Nat}{w w':World}(a:aW b w w'):w.grownBy w' (some b):=
 ⟨a.os,a.tape,a.output,a.size,fun k e d=>a.block k e (fun c=>d (by rw[c]))⟩
def bY(w:World)(b:Nat)(doc:ByteArray)(p:Nat)(lo bi:Bool):Prop:=w.heap[b]?=some (.cells #[.string doc,.int .i64 p,.bool lo,.bool bi] 301 (0,0))
section
variable{w w':World} {b p:Nat} {doc:ByteArray} {lo bi:Bool}
theorem bY.lt(a:bY w b doc p lo bi):b<w.heap.size:=aN a
theorem bY.cDoc(a:bY w b doc p lo bi):w.cell? ⟨b,0,none⟩=some (.string doc):=aZ w b 0 _ _ _ a
theorem bY.cPos(a:bY w b doc p lo bi):w.cell? ⟨b,1,none⟩=some (.int .i64 p):=aZ w b 1 _ _ _ a
theorem bY.cLo(a:bY w b doc p lo bi):w.cell? ⟨b,2,none⟩=some (.bool lo):=aZ w b 2 _ _ _ a
theorem bY.cBi(a:bY w b doc p lo bi):w.cell? ⟨b,3,none⟩=some (.bool bi):=aZ w b 3 _ _ _ a
theorem bY.free(a:bY w b doc p lo bi)(o:Nat):w.frozen? ⟨b,o,none⟩=false:=by unfold bY at a;simp[World.frozen?,a]
theorem bY.below(a:bY w b doc p lo bi)(c:Below w.heap.size w w'):bY w' b doc p lo bi:=(c.block b a.lt).trans a
theorem bY.drew(a:bY w b doc p lo bi):bY w.drew b doc p lo bi:=a
theorem wN(a:bY w b doc p lo bi)(o:Nat)(v:Value):(w.setCell ⟨b,o,none⟩ v).heap[b]?=some (.cells ((#[.string doc,.int .i64 p,.bool lo,.bool bi]:Array Value).setIfInBounds o v) 301 (0,0)):=by
 have c:=a.lt;have d:w.heap[b]=.cells #[.string doc,.int .i64 p,.bool lo,.bool bi] 301 (0,0):=by unfold bY at a;simpa[mU c]using a
 show(w.heap.modify b _)[b]?=_
 rw[mU (by simpa using c),vu,d];rfl
theorem bY.set(a:bY w b doc p lo bi)(q:Nat)(v:Value)(c:v=.int .i64 q):bY (w.setCell ⟨b,1,none⟩ v) b doc q lo bi:=by subst c;exact wN a 1 _
theorem bY.setLo(a:bY w b doc p lo bi)(x:Bool):bY (w.setCell ⟨b,2,none⟩ (.bool x)) b doc p x bi:=wN a 2 _
theorem bY.setBi(a:bY w b doc p lo bi)(x:Bool):bY (w.setCell ⟨b,3,none⟩ (.bool x)) b doc p lo x:=wN a 3 _
end
theorem Bk(doc:ByteArray)(p:Nat)(a:p<doc.size):(doc.extract p (p+1)).data.toList=[doc[p]]:=by
 rw[zv,Fu];have b:p<doc.data.toList.length:=by rw[<-dy];exact a
 rw[mZ b];rfl
theorem Bl(doc:ByteArray)(p:Nat)(a:p<doc.size):doc.data.toList.drop p=doc[p]::doc.data.toList.drop (p+1):=by
 have b:p<doc.data.toList.length:=by rw[<-dy];exact a
 rw[mZ b];rfl
theorem Bm(doc:ByteArray)(p:Nat)(a:doc.size<=p):doc.data.toList.drop p=[]:=qJ (by rw[<-dy];exact a)
theorem Bn(doc:ByteArray)(p:Nat)(a:p<doc.size):doc.data.toList[p]?=some doc[p]:=by
 have b:p<doc.data.toList.length:=by rw[<-dy];exact a
 rw[aF b];rfl
theorem wO(doc:ByteArray)(p:Nat)(a:doc.size<=p):doc.data.toList[p]?=none:=mV (by rw[<-dy];exact a)
theorem pX(b p:Nat)(doc:ByteArray)(lo bi:Bool)(w:World)(r:bY w b doc p lo bi)(G:p<=doc.size)(J:doc.size<=65536):
 Calls prog 215 #[.pointer (some ⟨b,0,none⟩)] w fun n w'=>(∃v,n=.returned v)/\bY w' b doc (jM doc.data.toList p) lo bi/\aW b w w':=by
 have o:=r.cPos;unfold jM;go_enter func215,ntmps215
 go_wp2_with fail
 clear o;go_loopg [] (doc.size-p) (fun k wr=>∃q:Nat,p<=q/\q<=doc.size/\k=doc.size-q/\bY wr b doc q lo bi/\aW b w wr/\Hid (jo (doc.data.toList.drop p)=(q-p)+jo (doc.data.toList.drop q)))
 case atStart=>exact⟨p,aB _,G,rfl,r,aW.refl _ _,by show _=_;omega⟩
 case round=>
  obtain⟨q,M,N,rfl,e,u,l⟩:=hrel;have I:=e.cDoc;have o:=e.cPos;have K:=e.free 1;by_cases A:q<doc.size
  ·have hcut:∀i,(Instr.slice 9 (.string doc) (some (.int .i64 q)) (some (.int .i64 (q+1))) none).run prog i=.ok (.string (doc.extract q (q+1))) i:=fun i=>ti doc q (q+1) ad ad i
   have m:=Bk doc q A;have B:(doc.extract q (q+1)).size<=9223372036854775807:=by rw[ByteArray.size_extract];omega
   generalize doc.extract q (q+1)=t at hcut m B;have D:=ah m;clear m;have H:IntKind.i64.wrap ((q:Int)+1)=(q:Int)+1:=lp _ ad;have F:decide ((q:Int)<doc.size)=true:=aM;go_wp2_with fail
   go_still_tail 25,ay
   have s:=e.drew;have y:=u.drew;change wpList _ _ _ _ _ wr.drew;generalize wr.drew=O at s y;go_wp2_with fail
   refine(vU t _ B).mono ?_;rintro n P ⟨rfl,z⟩;rw[D.o];have d:=s.below z;have x:=y.trans (aW.of z);have h:=Bl doc q A;cases c:jI (doc[q].toNat:Nat)with
   |true=>
    have g:gJ jI [doc[q]]=true:=by unfold gJ;simp[c]
    have a:jo (doc.data.toList.drop q)=1+jo (doc.data.toList.drop (q+1)):=by rw[h];unfold jo;rw[sM (by simpa[ew]using c)];simp;omega
    have C:=ah a;rw[g];have E:=d.cPos;have L:=d.free 1;clear a h c g
    go_wp2
    go_roundg(doc.size-(q+1))
    case rel=>exact⟨q+1,ad,ad,rfl,d.set _ _ aG,x.setCell _ _,by have:=l.out;have:=C.o;show _=_;omega⟩
    case measure=>omega
   |false=>
    have g:gJ jI [doc[q]]=false:=by unfold gJ;simp[c]
    have a:jo (doc.data.toList.drop q)=0:=by rw[h];unfold jo;rw[sO (by simp[ew,c])];rfl
    have f:jo (doc.data.toList.drop p)=q-p:=by have:=l.out;omega
    have j:=ah f;rw[g];have E:=d.cPos;clear a h c g f
    go_wp2
    go_end0
    rw[j.o,show p+(q-p)=q from ad];exact⟨⟨_,rfl⟩,d,x⟩
  ·have F:decide ((q:Int)<doc.size)=false:=aJ
   have a:jo (doc.data.toList.drop q)=0:=by rw[Bm doc q ad];rfl
   have f:jo (doc.data.toList.drop p)=q-p:=by have:=l.out;omega
   have j:=ah f;clear a f
   go_wp2
   go_quiet(fail)
   go_wp2
   go_end0
   rw[j.o,show p+(q-p)=q from ad];exact⟨⟨_,rfl⟩,e,u.trans (aW.drewN _)⟩
theorem wP(a:ByteArray)(p:Nat)(b:p<=a.size):jM a.data.toList p<=a.size/\p<=jM a.data.toList p:=by have:=Bb (a.data.toList.drop p);rw[gI,<-dy]at this;unfold jM;omega
theorem nG(a:ByteArray)(c:UInt8)(p:Nat)(b:p<=a.size):bR a.data.toList c p<=a.size/\p<=bR a.data.toList c p/\(fA a.data.toList c p=true->p<bR a.data.toList c p):=by
 have d:=wP a p b;unfold bR fA;by_cases e:jM a.data.toList p<a.size
 ·split<;>simp_all<;>omega
 ·rw[wO a _ ad]
  simp;omega
theorem nH(c:UInt8)(n:Int)(H:n=(c.toNat:Nat))(b p:Nat)(a:ByteArray)(u s:Bool)(w:World)(C:bY w b a p u s)(y:p<=a.size)(D:a.size<=65536):
 Calls prog 284 #[.pointer (some ⟨b,0,none⟩),.int .u8 n] w fun r w'=>r=.returned (.bool (fA a.data.toList c p))/\bY w' b a (bR a.data.toList c p) u s/\aW b w w':=by
 subst H;obtain⟨J,e⟩:=aj (fA a.data.toList c p);obtain⟨P,d⟩:=aj (bR a.data.toList c p);have F:=wP a p y;have t:=pX b p a u s;rw[<-e,<-d];unfold bR at d;unfold fA at e d;obtain⟨q,g⟩:=aj (jM a.data.toList p);rw[<-g]at e d F t;have h:=t w C y D;clear t;by_cases G:q<a.size
 ·rw[Bn a q G]at e d
  have E:((q:Int)==(a.size:Int))=false:=dX;have K:(0:Int)<=q:=ad;have L:(q:Int)<a.size:=ad;by_cases i:a[q]=c
  ·have I:((((a[q]).toNat:Nat):Int) !=((c.toNat:Nat):Int))=false:=by rw[i];simp
   rw[i]at e d;simp only[Fv,kf]at e d;obtain⟨l,j,x⟩:=bO e d g;clear e d g i;go_enter func284,ntmps284
   go_wp2_with fail
   refine h.mono ?_;rintro r w1 ⟨⟨v,rfl⟩,f,m⟩;clear h;have z:=f.cDoc;have A:=f.cPos;have M:=f.free 1
   go_wp2
   go_quiet(fail)
   go_wp2
   go_ret;rw[l.o,j.o];exact⟨rfl,bY.set (w:=w1.drewN _) (p:=q) f _ _ aG,(m.trans (aW.drewN _)).setCell _ _⟩
  ·have I:((((a[q]).toNat:Nat):Int) !=((c.toNat:Nat):Int))=true:=by
    rw[iJ];intro B;exact i (qM.1 (by exact_mod_cast B))
   have o:((some a[q]:Option UInt8)==some c)=false:=by simpa using i
   rw[o]at e d;simp only[kh,i6]at d;obtain⟨l,j,x⟩:=bO e d g;clear e d g i o;go_enter func284,ntmps284
   go_wp2_with fail
   refine h.mono ?_;rintro r w1 ⟨⟨v,rfl⟩,f,m⟩;clear h;have z:=f.cDoc;have A:=f.cPos
   go_wp2
   go_quiet(fail)
   go_wp2
   go_ret;rw[l.o,j.o];exact⟨rfl,f,m.trans (aW.drewN _)⟩
 ·rw[wO a q ad]at e d
  have E:((q:Int)==(a.size:Int))=true:=mq;have o:((none:Option UInt8)==some c)=false:=ak;rw[o]at e d;simp only[kh,i6]at d;obtain⟨l,j,x⟩:=bO e d g;clear e d g o;go_enter func284,ntmps284
  go_wp2_with fail
  refine h.mono ?_;rintro r w1 ⟨⟨v,rfl⟩,f,m⟩;clear h;have z:=f.cDoc;have A:=f.cPos
  go_wp2
  go_quiet(fail)
  go_wp2
  go_ret;rw[l.o,j.o];exact⟨rfl,f,m.trans (aW.drewN _)⟩
theorem IC(c:Int)(w:World):Calls prog 301 #[.int .u8 c] w fun d w'=>d=.returned (.bool (ip c))/\w=w':=by
 rcases(ad:c<45∨c=45∨c=46∨c=47∨(48<=c/\c<=57)∨(57<c/\c<65)∨(65<=c/\c<=90)∨(90<c/\c<95)∨c=95∨c=96∨(97<=c/\c<=122)∨122<c)with a|rfl|rfl|rfl|⟨a,b⟩|⟨a,b⟩|⟨a,b⟩|⟨a,b⟩|rfl|rfl|⟨a,b⟩|a
 all_goals
  go_enter func301,ntmps301
  go_wp2
  go_ret;exact⟨bC (by unfold ip jH nf;rw[eS];simp<;>omega),rfl⟩
theorem Bo(c:Int)(v:Bool)(b:ip c=v)(w:World):Calls prog 301 #[.int .u8 c] w fun a w'=>a=.returned (.bool v)/\w'=w:=
 (IC c w).mono fun a w' ⟨d,e⟩=>⟨by rw[d,b],e.symm⟩
theorem Br(a:ByteArray)(p:Nat)(b:p<a.size):iu a.data.toList p=if a8 [a[p]]then(a.data.toList.drop p).takeWhile oJ else []:=by unfold iu;rw[Bn a p b]
theorem Bt(a:ByteArray)(p:Nat)(b:a.size<=p):iu a.data.toList p=[]:=by unfold iu;rw[wO a p b]
theorem ID(a:ByteArray)(p:Nat):(iu a.data.toList p).length<=a.size-p:=by
 by_cases b:p<a.size
 ·rw[Br a p b]
  have:=wK (a.data.toList.drop p);rw[gI,<-dy]at this;unfold is at this;split
  ·exact this
  ·simp
 ·rw[Bt a p ad];simp
theorem IE(b p:Nat)(a:ByteArray)(F y:Bool)(w:World)(g:bY w b a p F y)(Z:p<=a.size)(X:a.size<=65536):
 Calls prog 300 #[.pointer (some ⟨b,0,none⟩)] w fun z w'=>z=.returned (.string ⟨(iu a.data.toList p).toArray⟩)/\bY w' b a (p+(iu a.data.toList p).length) F y/\aW b w w':=by
 have H:=g.cDoc;have I:=g.cPos;obtain⟨W,c⟩:=aj (iu a.data.toList p);rw[<-c];by_cases K:p<a.size
 ·rw[Br a p K]at c
  have hcut:∀d,(Instr.slice 9 (.string a) (some (.int .i64 p)) (some (.int .i64 (p+1))) none).run prog d=.ok (.string (a.extract p (p+1))) d:=fun d=>ti a p (p+1) ad ad d;have l:=Bk a p K;have L:(a.extract p (p+1)).size<=9223372036854775807:=by rw[ByteArray.size_extract];omega
  generalize a.extract p (p+1)=t at hcut l L;have e:=fun w=>mi t w L;rw[l]at e;have R:((p:Int)==(a.size:Int))=false:=dX;cases r:a8 [a[p]]with
  |false=>
   rw[r]at e c;simp only[kh,i6]at c;obtain⟨n,N⟩:=aE c l;clear c l r;go_enter func300,ntmps300
   go_wp2_with fail
   refine(e _).mono ?_;rintro z w1 ⟨rfl,i⟩;clear e
   go_wp2
   go_ret;rw[n.o];exact⟨rfl,g.below i,aW.of i⟩
  |true=>
   rw[r,au rfl]at c;rw[r]at e;have D:p+W.length<=a.size:=by have:=wK (a.data.toList.drop p);rw[gI,<-dy]at this;unfold is at this;rw[c];omega
   have J:W=(a.data.toList.drop p).take W.length:=by have:=Ir (a.data.toList.drop p);unfold is at this;rw[<-c]at this;exact this.symm
   obtain⟨n,G,N⟩:=bO c J l;clear c l r J;go_enter func300,ntmps300
   go_wp2_with fail
   refine(e _).mono ?_;rintro z w1 ⟨rfl,i⟩;clear e;have O:=g.below i;have P:aW b w w1:=aW.of i;clear H I g i
   go_wp2
   go_loopg [] (a.size-p) (fun k wr=>∃q:Nat,p<=q/\q<=a.size/\k=a.size-q/\bY wr b a q F y/\aW b w wr/\Hid (W.length=(q-p)+is (a.data.toList.drop q)))
   case atStart=>exact⟨p,aB _,ad,rfl,O,P,by have:=n.o;show _=_;rw[this];unfold is;omega⟩
   case round=>
    obtain⟨q,aa,ab,rfl,h,B,A⟩:=hrel;have H:=h.cDoc;have I:=h.cPos;have Y:=h.free 1;by_cases S:q<a.size
    ·have Q:decide ((q:Int)<a.size)=true:=aM
     have T:(0:Int)<=q:=ad;have V:(q:Int)<a.size:=ad;have s:=Bl a q S;cases j:ip (a[q].toNat:Nat)with
     |true=>
      have f:is (a.data.toList.drop q)=1+is (a.data.toList.drop (q+1)):=by rw[s];unfold is;rw[sM (by simpa[oJ]using j)];simp;omega
      obtain⟨M,v⟩:=aE f j;clear f s j hcut D
      go_wp2
      go_quiet((go_at_call 301;exact vB (Bo _ _ v.o _)))
      go_wp2
      go_roundg(a.size-(q+1))
      case rel=>exact⟨q+1,ad,ad,rfl,bY.set (w:=wr.drewN _) (p:=q) h _ _ aG,(B.trans (aW.drewN _)).setCell _ _,by have:=A.out;have:=M.o;show _=_;omega⟩
      case measure=>omega
     |false=>
      have f:is (a.data.toList.drop q)=0:=by rw[s];unfold is;rw[sO (by simp[oJ,j])];rfl
      have o:W.length=q-p:=by have:=A.out;omega
      obtain⟨m,v⟩:=aE o j;have C:∀d,(Instr.slice 9 (.string a) (some (.int .i64 p)) (some (.int .i64 q)) none).run prog d=.ok (.string (a.extract p q)) d:=fun d=>ti a p q ad ad d;generalize hteq:a.extract p q=u at C;have x:=ah hteq;clear f s j o hcut hteq D
      go_wp2
      go_quiet((go_at_call 301;exact vB (Bo _ _ v.o _)))
      go_wp2
      go_quiet(fail)
      go_wp2
      go_ret;have E:u=⟨W.toArray⟩:=by rw[<-x.o];apply zw;apply l9;rw[zv,G.o,m.o]
      rw[E,m.o,show p+(q-p)=q from ad];exact⟨rfl,h,(B.trans (aW.drewN _)).trans (aW.drewN _)⟩
    ·have Q:decide ((q:Int)<a.size)=false:=aJ
     have f:is (a.data.toList.drop q)=0:=by rw[Bm a q ad];rfl
     have o:W.length=q-p:=by have:=A.out;omega
     have m:=ah o;have C:∀d,(Instr.slice 9 (.string a) (some (.int .i64 p)) (some (.int .i64 q)) none).run prog d=.ok (.string (a.extract p q)) d:=fun d=>ti a p q ad ad d;generalize hteq:a.extract p q=u at C;have x:=ah hteq;clear f o hcut hteq D
     go_wp2
     go_quiet(fail)
     go_wp2
     go_quiet(fail)
     go_wp2
     go_ret;have E:u=⟨W.toArray⟩:=by rw[<-x.o];apply zw;apply l9;rw[zv,G.o,m.o]
     rw[E,m.o,show p+(q-p)=q from ad];exact⟨rfl,h,(B.trans (aW.drewN _)).trans (aW.drewN _)⟩
 ·rw[Bt a p ad]at c
  have R:((p:Int)==(a.size:Int))=true:=mq;have n:=ah c;clear c;go_enter func300,ntmps300
  go_wp2
  go_ret;rw[n.o];exact⟨rfl,g,aW.refl _ _⟩
def tS(n:ar):Value:=.agg (nodeRow n).toArray
theorem pY(w:World)(o o':Obj):Below w.heap.size w ((w.alloc o).alloc o'):=az.alloc ak _
theorem IF(n:ar)(k:Nat)(w:World)(i:0<=n.a/\n.a<=65536)(j:0<=n.b/\n.b<=65536)(x:k<=65536):
 Calls prog 295 #[tS n,.int .i64 (k:Nat)] w fun l w'=>l=.returned (tS (eW k n))/\Below w.heap.size w w':=by
 obtain⟨d,sym,a,b⟩:=n;simp only at i j;obtain⟨m,c⟩:=aj (eW k ⟨d,sym,a,b⟩);rw[<-c];unfold eW at c;simp only at c;unfold tS nodeRow;simp only;obtain⟨r,s⟩:=i;obtain⟨t,u⟩:=j;by_cases f:d=3
 ·subst f
  rw[au (.inl rfl)]at c;have e:=ah c;clear c;go_enter zx,zy
  go_wp2_with fail
  exact bS (v:=.agg #[.int .i64 3,.string ⟨sym.toArray⟩,.int .i64 (a+k),.int .i64 (b+k)]) (by simp[results,zz,go_sem]) rfl ⟨by rw[e.o],pY _ _ _⟩
 ·by_cases g:d=4
  ·subst g
   rw[au (.inr rfl)]at c;have e:=ah c;clear c f;go_enter zx,zy
   go_wp2_with fail
   exact bS (v:=.agg #[.int .i64 4,.string ⟨sym.toArray⟩,.int .i64 (a+k),.int .i64 (b+k)]) (by simp[results,zz,go_sem]) rfl ⟨by rw[e.o],pY _ _ _⟩
  ·rw[ap ad]at c
   by_cases h:d=5
   ·subst h
    rw[au rfl]at c;have e:=ah c;clear c f g;go_enter zx,zy
    go_wp2_with fail
    exact bS (v:=.agg #[.int .i64 5,.string ⟨sym.toArray⟩,.int .i64 (a+k),.int .i64 b]) (by simp[results,zz,go_sem]) rfl ⟨by rw[e.o],pY _ _ _⟩
   ·rw[ap h]at c
    have e:=ah c;have o:(d==3)=false:=by rw[cW];exact f
    have p:(d==4)=false:=by rw[cW];exact g
    have q:(d==5)=false:=by rw[cW];exact h
    clear c f g h;go_enter zx,zy
    go_wp2_with fail
    exact bS (v:=.agg #[.int .i64 d,.string ⟨sym.toArray⟩,.int .i64 a,.int .i64 b]) (by simp[results,zz,go_sem]) rfl ⟨by rw[e.o],pY _ _ _⟩
theorem wQ:(prog.info? 140).map (fun i=>(i.zero,i.size,i.bytes))=some (some (.agg #[.int .i64 0,.string ⟨#[]⟩,.int .i64 0,.int .i64 0]),4,40):=ay
def cr(w:World)(B:Nat)(v:Value)(l:List ar):Prop:=w.ownsRow B 140 4 v l.length (l.flatMap nodeRow)
theorem tT(l:List ar):(l.flatMap nodeRow).length=l.length*4:=by
 induction l with
 |nil=>rfl
 |cons n t ih=>rw[Fa,cm,ih,de];show 4+_=_;omega
theorem cJ{w:World}{b size n:Nat}{a:TypeId}{v:Value}{xs:List Value}(d:w.ownsRow b a size v n xs):∃o c,v=.slice o n c:=by
 rcases d.2 with⟨a,e⟩|⟨g,cap,h,f,_⟩
 ·exact⟨_,0,by rw[e];exact a⟩
 ·exact⟨_,_,f⟩
theorem jP{w:World}{B B' size n:Nat}{a:TypeId}{v:Value}{xs:List Value}(b:w.ownsRow B a size v n xs)(f:B'<=B):w.ownsRow B' a size v n xs:=by
 refine⟨b.1,?_⟩;rcases b.2 with d|⟨g,cap,c,e,h,rest⟩
 ·exact .inl d
 ·exact .inr ⟨g,cap,c,e,ad,rest⟩
theorem pZ{w:World}{B size n:Nat}{a:TypeId}{v:Value}{xs:List Value}(b:w.ownsRow B a size v n xs)(m:0<n):∃g c,v=.slice (some ⟨g,0,none⟩) n c/\B<=g/\g<w.heap.size/\n<=c/\c<=maxLen:=by
 rcases b.2 with⟨_,l⟩|⟨g,cap,j,i,f,h,d,e,_⟩
 ·omega
 ·exact⟨g,cap,i,f,aN h,d,e⟩
theorem wR{w:World}{B:Nat}{v:Value}{l:List ar}(d:cr w B v l):∃o c,v=.slice o l.length c/\di w o c l:=by
 obtain⟨o,c,rfl⟩:=cJ d;refine⟨o,c,rfl,?_⟩;by_cases y:l.length=0
 ·obtain rfl:=pK y
  rcases d.2 with⟨m,e⟩|⟨g,cap,A,f,q,E,n,p,C,D⟩
  ·injection m with a h b
   subst a;subst b;exact⟨rfl,aB _,aK _,fun e=>absurd e (sJ 0)⟩
  ·injection f with a h b
   subst a;subst b;exact⟨rfl,n,p,fun e=>absurd e (sJ 0)⟩
 ·obtain⟨g,z,f,q,s,x,r⟩:=pZ d ad
  injection f with a h b
  subst a;subst b;refine⟨tT l,x,r,fun _=>⟨g,0,rfl,s,fun j u i=> ?_⟩⟩;have t:j<l.length*4:=by rw[<-tT];exact(aP.1 i).1
  rw[cE];exact(vz d j t).trans i
theorem dt(w:World)(xs:List Value)(t n:Nat)(e:n=w.heap.size):∀j u,xs[j]?=some u->(w.alloc (.cells xs.toArray t)).cell? ((⟨n,0,none⟩:Addr).add j)=some u:=by
 intro j u d;subst e;have c:=aZ (w.alloc (.cells xs.toArray t)) w.heap.size j _ _ _ (aC w _);have b:(⟨w.heap.size,0,none⟩:Addr).add j=⟨w.heap.size,j,none⟩:=by
  by_cases a:j=0
  ·subst a;simp[Addr.add]
  ·simp[Addr.add,a]
 rw[b,c];simpa using d
theorem IG(n:ar):∀u∈nodeRow n,u.oneCell'=true:=by intro u a;unfold nodeRow at a;simp at a;rcases a with rfl|rfl|rfl|rfl<;>rfl
theorem Bu{w w':World}{o:Obj}{row:Option Nat}(a:(w.alloc o).grownBy w' row):w.grownBy w' row:=
 (iY w o row).trans a
theorem wS(w:World)(n:ar)(B:Nat)(a:B<=w.heap.size):cr (w.alloc (.cells (nodeRow n).toArray 140)) B (.slice (some ⟨w.heap.size,0,none⟩) 1 1) [n]:=by refine⟨by simp[nodeRow],.inr ⟨w.heap.size,1,_,rfl,a,aC w _,aB _,bN,by simp[nodeRow],by simp[nodeRow]⟩⟩
theorem wT{w:World}{B:Nat}{v:Value}{l:List ar}{n:ar}(a:w.ownsRow B 140 4 v (l.length+1) (l.flatMap nodeRow++nodeRow n)):cr w B v (l++[n]):=by unfold cr;rw[cm,pE];simpa using a
theorem Bw(B:Nat)(l:List ar)(v:Value)(w:World)(a:cr w B v l)(t:B<=w.heap.size)(u:l.length<=1048576)(x:1<=l.length):
 Calls prog 297 #[v] w fun h w'=>∃f,h=.returned f/\cr w' B f (fM l)/\w.grownBy w' v.ownBlock:=by
 obtain⟨o,c,rfl⟩:=cJ a;obtain⟨r,j,n,p,q⟩:=cL wQ;have b:fM l=l++[⟨5,[],(l.length:Int)-1,0⟩]:=rfl;rw[b];have d:(nodeRow ⟨5,[],(l.length:Int)-1,0⟩)=[.int .i64 5,.string ⟨#[]⟩,.int .i64 ((l.length:Int)-1),.int .i64 0]:=rfl;have g:=ah d;clear b d;unfold cr at a;go_enter func297,ntmps297
 go_wp2_with(first
  |(at_builtin;go_must (refine gY _ rfl _ _ 63 rfl B 140 r (.agg #[.int .i64 0,.string ⟨#[]⟩,.int .i64 0,.int .i64 0]) 4 40 vF j n p q rfl aw _ _ _ rfl (dA a _) ⟨w.heap.size,0,none⟩ 1 1 [.int .i64 5,.string ⟨#[]⟩,.int .i64 ((l.length:Int)-1),.int .i64 0] rfl rfl (dt _ [.int .i64 5,.string ⟨#[]⟩,.int .i64 ((l.length:Int)-1),.int .i64 0] _ _ rfl) (fun z e=>by simp at e;rcases e with rfl|rfl|rfl|rfl<;>rfl) bN ad aO ?_);intro s A m i y)
  |go_in)
 go_ret;refine⟨s,rfl,wT (by rw[g.o];exact m),Bu i⟩
theorem IH(l:List ar)(B:Nat)(v:Value)(w:World)(b:cr w B v l)(Q:l.length<=1048576)(R:1<=l.length):
 Calls prog 298 #[v] w fun y w'=>∃q,y=.returned q/\cr w' w.heap.size q l/\Below w.heap.size w w':=by
 obtain⟨g,c,rfl,N,P,S,O⟩:=pZ b ad;have e:∀j u,(l.flatMap nodeRow)[j]?=some u->(w.alloc (.cells #[] 140)).cell? ((⟨g,0,none⟩:Addr).add j)=some u:=by
  intro j u p;have D:j<l.length*4:=by rw[<-tT];exact(aP.1 p).1
  have z:(⟨g,0,none⟩:Addr).add j=⟨g,j,none⟩:=by
   by_cases o:j=0
   ·subst o;simp[Addr.add]
   ·simp[Addr.add,o]
  rw[z];exact Lib.cell?_alloc_some _ ((vz b j D).trans p)
 have i:∀u∈l.flatMap nodeRow,u.oneCell'=true:=by intro u G;obtain⟨n,_,E⟩:=List.mem_flatMap.1 G;exact IG n u E
 obtain⟨K,C,H,I,J⟩:=cL wQ;have h:=tT l;have V:∀(w:World) (a:Option Addr) (n c n' d:Nat),(binOp .eql 63 (.slice a n c) (.slice none n' d)).run prog w=.ok (.bool a.isNone) w:=fun w a n c n' d=>Fw w _ _ a n c n' d vF;have M:Aside (cr w B (.slice (some ⟨g,0,none⟩) l.length c) l):=b;obtain⟨xs,m⟩:=aj (l.flatMap nodeRow);rw[<-m]at e i h;obtain⟨x,s,r,t⟩:=cI m h e i;clear b m h e i;go_enter func298,ntmps298
 go_wp2_with(first
  |(at_builtin;go_must (refine gY _ rfl _ _ 63 rfl w.heap.size 140 K (.agg #[.int .i64 0,.string ⟨#[]⟩,.int .i64 0,.int .i64 0]) 4 40 vF C H I J rfl aw _ _ _ rfl (World.ownsRow_made w #[] 0 (aB _) (aK _) rfl) ⟨g,0,none⟩ l.length c xs rfl s.o r.o t.o bN ad ak ?_);intro L W F A T)
  |go_in)
 go_ret;refine⟨L,rfl,?_,?_⟩
 ·unfold cr;rw[<-x.o];simpa using F
 ·exact az.grown A ak (by intro k f;injection f with f;subst f;exact aB _)
structure PV where
 l:List ar
 o:Option Addr
 c:Nat
def pvVal(p:PV):Value:=.slice p.o p.l.length p.c
def nI(w:World)(o:Option Addr)(cap:Nat)(ps:List PV):Prop:=cS w o ps.length cap 1 (ps.map pvVal)/\∀p∈ps,di w p.o p.c p.l
theorem nI.below{w w':World}{o:Option Addr}{cap:Nat}{l:List PV}(a:nI w o cap l)(b:Below w.heap.size w w'):nI w' o cap l:=⟨a.1.below b,fun p c=>(a.2 p c).below b⟩
theorem nI.at{w:World}{o:Option Addr}{cap:Nat}{l:List PV}(d:nI w o cap l){k:Nat}{x:PV}(b:l[k]?=some x):
 ∃g a,o=some ⟨g,a,none⟩/\g<w.heap.size/\w.cell? ⟨g,a+k,none⟩=some (.slice x.o x.l.length x.c):=by
 have h:=(aP.1 b).1;obtain⟨g,a,c,f,e⟩:=d.1.2.2.2 ad;exact⟨g,a,c,f,e k _ (by rw[cb,b];rfl)⟩
def nJ(r:Option (List ar))(w:World)(a:Ending)(w':World):Prop:=
 (match r with
  |none=>a=.returned (.tuple #[.slice none 0 0,.bool false])
  |some l=>∃v,a=.returned (.tuple #[v,.bool true])/\cr w' w.heap.size v l)/\Below w.heap.size w w'
theorem nJ.none{r:Option (List ar)}{w w':World}{a:Ending}(b:r=.none)(d:a=.returned (.tuple #[.slice .none 0 0,.bool false]))(c:Below w.heap.size w w'):nJ r w a w':=by subst b;exact⟨d,c⟩
theorem nJ.some{r:Option (List ar)}{l:List ar}{v:Value}{w w':World}{a:Ending}(b:r=.some l)(d:a=.returned (.tuple #[v,.bool true]))(e:cr w' w.heap.size v l)(c:Below w.heap.size w w'):nJ r w a w':=by subst b;exact⟨⟨v,d,e⟩,c⟩
theorem II{d c:Int}{ps:List (List ar)}(a:ps≠[])(b:1024<ps.length-1+gz ps):ey d c ps=none:=by unfold ey;rw[ap a,au b]
theorem IJ{a d:Int}{ps:List (List ar)}(b:ps≠[])(c:¬1024<ps.length-1+gz ps):ey a d ps=some (gN a 0 [] ps):=by unfold ey;rw[ap b,ap c]
theorem IK(l:List ar)(k a:Nat)(b:k<=l.length):((l.take k).map (eW a)).length=k:=aO
theorem wU(f V:Int)(ps:List PV)(o:Option Addr)(cap:Nat)(w:World)(u:nI w o cap ps)(c2:ps.length<=131072)(a7:∀p∈ps,dE p.l/\p.l.length<=2048)(b2:1<=ps.length):
 Calls prog 286 #[.int .i64 f,.int .i64 V,.slice o ps.length cap] w (nJ (ey f V (ps.map PV.l)) w):=by
 obtain⟨ag,K⟩:=aj (ey f V (ps.map PV.l));rw[<-K];have a6:ps.map PV.l≠[]:=by cases ps with|nil=>simp at b2|cons a t=>simp
 have c3:=u.1.2.1;have b6:=u.1.2.2.1;unfold maxLen at b6;have cu:((ps.length:Int)==0)=false:=dX;have a2:(ps.map PV.l).length=ps.length:=cd _;obtain⟨X,aa,ab,A⟩:=cI K a6 a7 a2;clear K a6 a7 a2;go_enter func286,ntmps286
 go_wp2
 go_loop [8,28] (fun s i=>∃k m:Nat,i=.int .i64 k/\k<=ps.length/\s=.int .i64 m/\m<=2048*k+ps.length/\Hid (m=ps.length-1+gz ((ps.map PV.l).take k))) (fun _ i=>ps.length-(intOf i).toNat)
 case atStart=>exact⟨0,ps.length-1,rfl,aK _,by congr 1;omega,ad,by show _=_;simp[gz]⟩
 case round=>
  obtain⟨k,m,rfl,P,rfl,ch,Z⟩:=hrel;by_cases Q:k<ps.length
  ·have N:decide ((k:Int)<ps.length)=true:=aM
   have b9:(k:Int)<ps.length:=ad;obtain⟨x,e⟩:∃n,ps[k]?=some n:=⟨_,aF Q⟩;obtain⟨b,co,rfl,b4,W⟩:=u.at e;have bf:=(ab.o x (aU e)).2;have bd:m+x.l.length=ps.length-1+gz ((ps.map PV.l).take (k+1)):=by rw[Iw (ps.map PV.l) k x.l (by rw[cb,e];rfl)];have:=Z.o;omega
   have b1:=ah bd;clear bd e
   go_wp2
   go_round
   case rel=>exact⟨k+1,m+x.l.length,aG,ad,aG,ad,b1.o⟩
   case measure=>exact aH
  ·have N:decide ((k:Int)<ps.length)=false:=aJ
   have a5:m=ps.length-1+gz (ps.map PV.l):=by have:=Z.o;rwa[bx (by rw[A.o];omega)]at this
   by_cases cx:1024<m
   ·have b7:decide ((m:Int)>1024)=true:=aM
    have B:ag=none:=by rw[X.o];exact II aa.o (by rw[A.o];omega)
    have J:=ah B;clear B a5
    go_wp2
    go_ret2
    exact nJ.none J.o rfl (aA _ _)
   ·have b7:decide ((m:Int)>1024)=false:=aJ
    have B:ag=some (gN f 0 [] (ps.map PV.l)):=by rw[X.o];exact IJ aa.o (by rw[A.o];omega)
    have J:=ah B;have a3:∀k,(gN f 0 [] ((ps.map PV.l).take k)).length<=3072:=fun k=>by have aq:=tQ f ((ps.map PV.l).take k) 0 [];have cs:=Iv (ps.map PV.l) k;rw[dx,A.o]at aq;simp only[ga]at aq;omega
    have Y:=ah a3;obtain⟨bm,a0,bg,bi,bl⟩:=cL wQ;clear B a5 a3
    go_wp2
    go_loopw [11,41] (fun v i wr=>∃k:Nat,i=.int .i64 k/\k<=ps.length/\cr wr w.heap.size v (gN f 0 [] ((ps.map PV.l).take k))/\Below w.heap.size w wr) (fun _ i _=>ps.length-(intOf i).toNat)
    case atStart=>exact⟨0,rfl,aK _,cR _ _ _ _,aA _ _⟩
    case round=>
     obtain⟨k,rfl,P,y,H⟩:=hrel;by_cases Q:k<ps.length
     ·have N:decide ((k:Int)<ps.length)=true:=aM
      have b9:(k:Int)<ps.length:=ad;obtain⟨x,e⟩:∃n,ps[k]?=some n:=⟨_,aF Q⟩;obtain⟨b,co,rfl,b4,W⟩:=(u.below H).at e;have T:=ab.o x (aU e);have ci:=(u.2 x (aU e)).below H;have d:=Iu f (ps.map PV.l) k x.l (by rw[cb,e];rfl);have b5:=Y.o k;have M:=Y.o (k+1);rw[d]at M;generalize gN f 0 [] ((ps.map PV.l).take k)=out at y d b5 M;obtain⟨r,af⟩:=aE d T.1;have bf:=T.2;obtain⟨c9,c8,rfl⟩:=cJ y;have be:=u.2 x (aU e);clear e ci T ch;obtain⟨c,ds,dr⟩:=x;simp only at be bf r af W M;obtain⟨bF,rfl⟩:∃bF:World,bF=wr:=⟨_,rfl⟩
      go_wp2
      go_loopw [11,50] (fun v i bZ=>∃j:Nat,i=.int .i64 j/\j<=c.length/\cr bZ w.heap.size v (out++(c.take j).map (eW out.length))/\Below w.heap.size w bZ) (fun _ i _=>c.length-(intOf i).toNat)
      case atStart=>exact⟨0,rfl,aK _,by simpa using y,H⟩
      case round=>
       obtain⟨j,rfl,cN,h,l⟩:=hrel;clear W y;by_cases cc:j<c.length
       ·have b8:decide ((j:Int)<c.length)=true:=aM
        have c0:(j:Int)<c.length:=ad;obtain⟨n,I⟩:∃n,c[j]?=some n:=⟨_,aF cc⟩;obtain⟨g,c5,rfl,cG,bo,bq,bt,bu⟩:=(be.below l).at I;have S:(c.take (j+1)).map (eW out.length)=(c.take j).map (eW out.length)++[eW out.length n]:=by rw[bG,I];simp
        have b3:=af.o j n I;have C:=fun w1=>IF n out.length w1 ad ad ad;obtain⟨m',a4⟩:=aj (eW out.length n);rw[<-a4]at C S;unfold tS nodeRow at C;obtain⟨bw,bA,a1,an⟩:=n;have a9:(out++(c.take j).map (eW out.length)).length=out.length+j:=by rw[cm,IK _ _ _ ad]
        have ba:out++((c.take j).map (eW out.length)++[m'])=(out++(c.take j).map (eW out.length))++[m']:=ak;obtain⟨b0,ae⟩:=aE S ba;generalize out++(c.take j).map (eW out.length)=row at h ae a9;have c4:row.length<=8192:=ad;obtain⟨bz,bB,al,ao⟩:=m';simp only at C bo bq bt bu;have L:=l.alloc l.size (.cells #[.int .i64 bw,.string ⟨bA.toArray⟩,.int .i64 a1,.int .i64 an] 140);have bb:cr (wr.alloc (.cells #[.int .i64 bw,.string ⟨bA.toArray⟩,.int .i64 a1,.int .i64 an] 140)) w.heap.size u11 row:=dA h _;clear S ba I a4 b3 h a9;go_wp2_with fail
        refine(C _).mono ?_;rintro F bE ⟨rfl,q⟩;have bc:bE.ownsRow w.heap.size 140 4 u11 row.length (row.flatMap nodeRow):=df (row:=none) bb ⟨q.os,q.tape,q.output,q.size,fun k P _=>q.block k P⟩ (by cases u11.ownBlock<;>simp);have G:=L.trans (q.mono L.size);clear C bb L q l bo bq bt bu;go_wp2_with(first
         |(at_builtin;go_must (refine gY _ rfl _ _ 63 rfl w.heap.size 140 bm (.agg #[.int .i64 0,.string ⟨#[]⟩,.int .i64 0,.int .i64 0]) 4 40 vF a0 bg bi bl rfl aw _ _ _ rfl (dA bc _) ⟨bE.heap.size,0,none⟩ 1 1 [.int .i64 bz,.string ⟨bB.toArray⟩,.int .i64 al,.int .i64 ao] rfl rfl (dt _ [.int .i64 bz,.string ⟨bB.toArray⟩,.int .i64 al,.int .i64 ao] _ _ rfl) (fun z D=>by simp at D;rcases D with rfl|rfl|rfl|rfl<;>rfl) bN ad (by have:=G.size;simp;omega) ?_);intro cp cq R O cl)
         |go_in)
        go_roundw
        case rel=>exact⟨j+1,aG,ad,by rw[b0.o,ae.o];exact wT R,(G.alloc G.size _).grown O (by have:=G.size;simp;omega) (fun k F=>(bX bc k F).1)⟩
        case measure=>exact aH
       ·have b8:decide ((j:Int)<c.length)=false:=aJ
        rw[bx ad]at h;unfold jq at r;rcases Nat.eq_zero_or_pos k with av|av
        ·subst av
         have d:=r.o;rw[au rfl]at d;have E:=ah d;clear d r
         go_wp2
         go_roundw
         case rel=>exact⟨1,rfl,ad,by rw[E.o];exact h,l⟩
         case measure=>exact aH
        ·have c1:decide ((k:Int)>0)=true:=aM
         have d:=r.o;rw[ap ad]at d;have ce:(out++c.map (eW out.length)).length<=8192:=by rw[cm,cd];omega
         have E:=ah d;generalize out++c.map (eW out.length)=row at h E ce;unfold cr at h;obtain⟨c7,c6,rfl⟩:=cJ h;clear d r;go_wp2_with(first
          |(at_builtin;go_must (refine gY _ rfl _ _ 63 rfl w.heap.size 140 bm (.agg #[.int .i64 0,.string ⟨#[]⟩,.int .i64 0,.int .i64 0]) 4 40 vF a0 bg bi bl rfl aw _ _ _ rfl (dA h _) ⟨wr.heap.size,0,none⟩ 1 1 [.int .i64 f,.string ⟨#[]⟩,.int .i64 ((out.length:Int)-1),.int .i64 ((row.length:Int)-1)] rfl rfl (dt _ [.int .i64 f,.string ⟨#[]⟩,.int .i64 ((out.length:Int)-1),.int .i64 ((row.length:Int)-1)] _ _ rfl) (fun z D=>by simp at D;rcases D with rfl|rfl|rfl|rfl<;>rfl) bN ad (by have:=l.size;simp;omega) ?_);intro cp cq R O cl)
          |go_in)
         go_roundw
         case rel=>exact⟨k+1,aG,ad,by rw[E.o];exact wT R,(l.alloc l.size _).grown O (by have:=l.size;simp;omega) (fun k F=>(bX h k F).1)⟩
         case measure=>exact aH
     ·have N:decide ((k:Int)<ps.length)=false:=aJ
      rw[bx (by rw[A.o];omega)]at y
      go_wp2
      go_ret2
      exact nJ.some J.o rfl y H
end Go.Proofs.YtbacloblanpghaaGreatDoor
