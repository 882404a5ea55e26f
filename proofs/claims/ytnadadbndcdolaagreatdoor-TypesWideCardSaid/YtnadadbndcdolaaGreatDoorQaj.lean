import Derived.Test.YtnadadbndcdolaaGreatDoorQad
import Derived.Test.YtnadadbndcdolaaGreatDoorQag
set_option linter.unusedVariables false
set_option linter.unusedSimpArgs false
set_option maxRecDepth 100000
set_option maxHeartbeats 0
namespace Go.Proofs.YtnadadbndcdolaaGreatDoor
open Go.RowKit Tryz
structure aY(b:Nat)(w w':World):Prop where
 os:w'.os=w.os
 tape:w'.tape=w.tape
 output:w'.output=w.output
 size:w.heap.size<=w'.heap.size
 block:∀k,k<w.heap.size->k≠b->w'.heap[k]?=w.heap[k]?
theorem aY.refl(b:Nat)(w:World):aY b w w:=⟨rfl,rfl,rfl,az _,fun _ _ _=>rfl⟩
theorem aY.trans{b:Nat}{a c d:World}(e:aY b a c)(k:aY b c d):aY b a d:=
 ⟨k.os.trans e.os,k.tape.trans e.tape,k.output.trans e.output,aJ e.size k.size,fun i g f=>(k.block i (dn g e.size) f).trans (e.block i g f)⟩
theorem aY.of{b:Nat}{w w':World}(a:Below w.heap.size w w'):aY b w w':=⟨a.os,a.tape,a.output,a.size,fun k c _=>a.block k c⟩
theorem aY.below{b B:Nat}{w w':World}(a:aY b w w')(c:B<=b)(e:B<=w.heap.size):Below B w w':=
 ⟨a.os,a.tape,a.output,a.size,fun k d=>a.block k ad ad⟩
theorem aY.alloc{b:Nat}{a w:World}(c:aY b a w)(o:Obj):aY b a (w.alloc o):=c.trans (aY.of aG)
theorem aY.drew{b:Nat}{a w:World}(c:aY b a w):aY b a w.drew:=c.trans (aY.of (aE _ _).drew)
theorem aY.setCell{b:Nat}{a w:World}(c:aY b a w)(o:Nat)(v:Value):aY b a (w.setCell ⟨b,o,none⟩ v):=
 c.trans ⟨rfl,rfl,rfl,by simp[World.setCell],fun k e d=>fQ _ _ _ _ d⟩
theorem aY.drewN{b:Nat}{w:World}(n:Nat):aY b w (w.drewN n):=⟨rfl,rfl,rfl,az _,fun _ _ _=>rfl⟩
theorem aY.grownBy{b:Nat}{w w':World}(a:aY b w w'):w.grownBy w' (some b):=
 ⟨a.os,a.tape,a.output,a.size,fun k e d=>a.block k e (fun c=>d (by rw[c]))⟩
def bX(w:World)(b:Nat)(doc:ByteArray)(p:Nat)(lo bi:Bool):Prop:=w.heap[b]?=some (.cells #[.string doc,.int .i64 p,.bool lo,.bool bi] 317 (0,0))
section
variable{w w':World} {b p:Nat} {doc:ByteArray} {lo bi:Bool}
theorem bX.lt(a:bX w b doc p lo bi):b<w.heap.size:=aU a
theorem bX.cDoc(a:bX w b doc p lo bi):w.cell? ⟨b,0,none⟩=some (.string doc):=bs w b 0 _ _ _ a
theorem bX.cPos(a:bX w b doc p lo bi):w.cell? ⟨b,1,none⟩=some (.int .i64 p):=bs w b 1 _ _ _ a
theorem bX.cLo(a:bX w b doc p lo bi):w.cell? ⟨b,2,none⟩=some (.bool lo):=bs w b 2 _ _ _ a
theorem bX.cBi(a:bX w b doc p lo bi):w.cell? ⟨b,3,none⟩=some (.bool bi):=bs w b 3 _ _ _ a
theorem bX.free(a:bX w b doc p lo bi)(o:Nat):w.frozen? ⟨b,o,none⟩=false:=by unfold bX at a;simp[World.frozen?,a]
theorem bX.below(a:bX w b doc p lo bi)(c:Below w.heap.size w w'):bX w' b doc p lo bi:=(c.block b a.lt).trans a
theorem bX.drew(a:bX w b doc p lo bi):bX w.drew b doc p lo bi:=a
theorem yD(a:bX w b doc p lo bi)(o:Nat)(v:Value):(w.setCell ⟨b,o,none⟩ v).heap[b]?=some (.cells ((#[.string doc,.int .i64 p,.bool lo,.bool bi]:Array Value).setIfInBounds o v) 317 (0,0)):=by
 have c:=a.lt;have d:w.heap[b]=.cells #[.string doc,.int .i64 p,.bool lo,.bool bi] 317 (0,0):=by unfold bX at a;simpa[lj c]using a
 show(w.heap.modify b _)[b]?=_
 rw[lj (by simpa using c),xH,d];rfl
theorem bX.set(a:bX w b doc p lo bi)(q:Nat)(v:Value)(c:v=.int .i64 q):bX (w.setCell ⟨b,1,none⟩ v) b doc q lo bi:=by subst c;exact yD a 1 _
theorem bX.setLo(a:bX w b doc p lo bi)(x:Bool):bX (w.setCell ⟨b,2,none⟩ (.bool x)) b doc p x bi:=yD a 2 _
theorem bX.setBi(a:bX w b doc p lo bi)(x:Bool):bX (w.setCell ⟨b,3,none⟩ (.bool x)) b doc p lo x:=yD a 3 _
end
theorem Db(doc:ByteArray)(p:Nat)(a:p<doc.size):(doc.extract p (p+1)).data.toList=[doc[p]]:=by
 rw[Bd,Iz];have b:p<doc.data.toList.length:=by rw[<-dV];exact a
 rw[rK b];rfl
theorem Dc(doc:ByteArray)(p:Nat)(a:p<doc.size):doc.data.toList.drop p=doc[p]::doc.data.toList.drop (p+1):=by
 have b:p<doc.data.toList.length:=by rw[<-dV];exact a
 rw[rK b];rfl
theorem Dd(doc:ByteArray)(p:Nat)(a:doc.size<=p):doc.data.toList.drop p=[]:=Io (by rw[<-dV];exact a)
theorem De(doc:ByteArray)(p:Nat)(a:p<doc.size):doc.data.toList[p]?=some doc[p]:=by
 have b:p<doc.data.toList.length:=by rw[<-dV];exact a
 rw[aH b];rfl
theorem yE(doc:ByteArray)(p:Nat)(a:doc.size<=p):doc.data.toList[p]?=none:=oZ (by rw[<-dV];exact a)
theorem qE(b p:Nat)(doc:ByteArray)(lo bi:Bool)(w:World)(r:bX w b doc p lo bi)(G:p<=doc.size)(J:doc.size<=65536):
 Calls prog 237 #[.pointer (some ⟨b,0,none⟩)] w fun n w'=>(∃v,n=.returned v)/\bX w' b doc (kn doc.data.toList p) lo bi/\aY b w w':=by
 have o:=r.cPos;unfold kn;go_enter func237,ntmps237
 go_wp2_with fail
 clear o;go_loopg [] (doc.size-p) (fun k wr=>∃q:Nat,p<=q/\q<=doc.size/\k=doc.size-q/\bX wr b doc q lo bi/\aY b w wr/\Hid (jM (doc.data.toList.drop p)=(q-p)+jM (doc.data.toList.drop q)))
 case atStart=>exact⟨p,az _,G,rfl,r,aY.refl _ _,by show _=_;omega⟩
 case round=>
  obtain⟨q,M,N,rfl,e,u,l⟩:=hrel;have I:=e.cDoc;have o:=e.cPos;have K:=e.free 1;by_cases A:q<doc.size
  ·have hcut:∀i,(Instr.slice 9 (.string doc) (some (.int .i64 q)) (some (.int .i64 (q+1))) none).run prog i=.ok (.string (doc.extract q (q+1))) i:=fun i=>uN doc q (q+1) ad ad i
   have m:=Db doc q A;have B:(doc.extract q (q+1)).size<=9223372036854775807:=by rw[ByteArray.size_extract];omega
   generalize doc.extract q (q+1)=t at hcut m B;have D:=ah m;clear m;have H:IntKind.i64.wrap ((q:Int)+1)=(q:Int)+1:=rM _ ad;have F:decide ((q:Int)<doc.size)=true:=bQ;go_wp2_with fail
   go_still_tail 25,aA
   have s:=e.drew;have y:=u.drew;change wpList _ _ _ _ _ wr.drew;generalize wr.drew=O at s y;go_wp2_with fail
   refine(yg t _ B).mono ?_;rintro n P ⟨rfl,z⟩;rw[D.o];have d:=s.below z;have x:=y.trans (aY.of z);have h:=Dc doc q A;cases c:kf (doc[q].toNat:Nat)with
   |true=>
    have g:iJ kf [doc[q]]=true:=by unfold iJ;simp[c]
    have a:jM (doc.data.toList.drop q)=1+jM (doc.data.toList.drop (q+1)):=by rw[h];unfold jM;rw[uq (by simpa[eT]using c)];simp;omega
    have C:=ah a;rw[g];have E:=d.cPos;have L:=d.free 1;clear a h c g
    go_wp2
    go_roundg(doc.size-(q+1))
    case rel=>exact⟨q+1,ad,ad,rfl,d.set _ _ aV,x.setCell _ _,by have:=l.out;have:=C.o;show _=_;omega⟩
    case measure=>omega
   |false=>
    have g:iJ kf [doc[q]]=false:=by unfold iJ;simp[c]
    have a:jM (doc.data.toList.drop q)=0:=by rw[h];unfold jM;rw[ur (by simp[eT,c])];rfl
    have f:jM (doc.data.toList.drop p)=q-p:=by have:=l.out;omega
    have j:=ah f;rw[g];have E:=d.cPos;clear a h c g f
    go_wp2
    go_end0
    rw[j.o,show p+(q-p)=q from ad];exact⟨⟨_,rfl⟩,d,x⟩
  ·have F:decide ((q:Int)<doc.size)=false:=bK
   have a:jM (doc.data.toList.drop q)=0:=by rw[Dd doc q ad];rfl
   have f:jM (doc.data.toList.drop p)=q-p:=by have:=l.out;omega
   have j:=ah f;clear a f
   go_wp2
   go_quiet(fail)
   go_wp2
   go_end0
   rw[j.o,show p+(q-p)=q from ad];exact⟨⟨_,rfl⟩,e,u.trans (aY.drewN _)⟩
theorem yF(a:ByteArray)(p:Nat)(b:p<=a.size):kn a.data.toList p<=a.size/\p<=kn a.data.toList p:=by have:=CZ (a.data.toList.drop p);rw[ln,<-dV]at this;unfold kn;omega
theorem oc(a:ByteArray)(c:UInt8)(p:Nat)(b:p<=a.size):bU a.data.toList c p<=a.size/\p<=bU a.data.toList c p/\(fI a.data.toList c p=true->p<bU a.data.toList c p):=by
 have d:=yF a p b;unfold bU fI;by_cases e:kn a.data.toList p<a.size
 ·split<;>simp_all<;>omega
 ·rw[yE a _ ad]
  simp;omega
theorem od(c:UInt8)(n:Int)(I:n=(c.toNat:Nat))(b p:Nat)(a:ByteArray)(u s:Bool)(w:World)(D:bX w b a p u s)(z:p<=a.size)(E:a.size<=65536):
 Calls prog 320 #[.pointer (some ⟨b,0,none⟩),.int .u8 n] w fun r w'=>r=.returned (.bool (fI a.data.toList c p))/\bX w' b a (bU a.data.toList c p) u s/\aY b w w':=by
 subst I;obtain⟨K,e⟩:=ar (fI a.data.toList c p);obtain⟨P,d⟩:=ar (bU a.data.toList c p);have G:=yF a p z;have t:=qE b p a u s;rw[<-e,<-d];unfold bU at d;unfold fI at e d;obtain⟨q,g⟩:=ar (kn a.data.toList p);rw[<-g]at e d G t;have h:=t w D z E;clear t;by_cases H:q<a.size
 ·rw[De a q H]at e d
  have F:((q:Int)==(a.size:Int))=false:=gK;have L:(0:Int)<=q:=ad;have M:(q:Int)<a.size:=ad;by_cases i:a[q]=c
  ·have J:((((a[q]).toNat:Nat):Int) !=((c.toNat:Nat):Int))=false:=by rw[i];simp
   rw[i]at e d;simp only[beq_self_eq_true,iG]at e d;obtain⟨l,j,y⟩:=bH e d g;clear e d g i;go_enter func320,ntmps320
   go_wp2_with fail
   refine h.mono ?_;rintro r x ⟨⟨v,rfl⟩,f,m⟩;clear h;have A:=f.cDoc;have B:=f.cPos;have N:=f.free 1
   go_wp2
   go_quiet(fail)
   go_wp2
   go_ret;rw[l.o,j.o];exact⟨rfl,bX.set (w:=x.drewN _) (p:=q) f _ _ aV,(m.trans (aY.drewN _)).setCell _ _⟩
  ·have J:((((a[q]).toNat:Nat):Int) !=((c.toNat:Nat):Int))=true:=by
    rw[uj];intro C;exact i (ut.1 (by exact_mod_cast C))
   have o:((some a[q]:Option UInt8)==some c)=false:=by simpa using i
   rw[o]at e d;simp only[j8,jl]at d;obtain⟨l,j,y⟩:=bH e d g;clear e d g i o;go_enter func320,ntmps320
   go_wp2_with fail
   refine h.mono ?_;rintro r x ⟨⟨v,rfl⟩,f,m⟩;clear h;have A:=f.cDoc;have B:=f.cPos
   go_wp2
   go_quiet(fail)
   go_wp2
   go_ret;rw[l.o,j.o];exact⟨rfl,f,m.trans (aY.drewN _)⟩
 ·rw[yE a q ad]at e d
  have F:((q:Int)==(a.size:Int))=true:=va;have o:((none:Option UInt8)==some c)=false:=ak;rw[o]at e d;simp only[j8,jl]at d;obtain⟨l,j,y⟩:=bH e d g;clear e d g o;go_enter func320,ntmps320
  go_wp2_with fail
  refine h.mono ?_;rintro r x ⟨⟨v,rfl⟩,f,m⟩;clear h;have A:=f.cDoc;have B:=f.cPos
  go_wp2
  go_quiet(fail)
  go_wp2
  go_ret;rw[l.o,j.o];exact⟨rfl,f,m.trans (aY.drewN _)⟩
theorem Kz(c:Int)(w:World):Calls prog 332 #[.int .u8 c] w fun d w'=>d=.returned (.bool (kJ c))/\w=w':=by
 rcases(ad:c<45∨c=45∨c=46∨c=47∨(48<=c/\c<=57)∨(57<c/\c<65)∨(65<=c/\c<=90)∨(90<c/\c<95)∨c=95∨c=96∨(97<=c/\c<=122)∨122<c)with a|rfl|rfl|rfl|⟨a,b⟩|⟨a,b⟩|⟨a,b⟩|⟨a,b⟩|rfl|rfl|⟨a,b⟩|a
 all_goals
  go_enter func332,ntmps332
  go_wp2
  go_ret;exact⟨ck (by unfold kJ mb pp;rw[iF];simp<;>omega),rfl⟩
theorem Df(c:Int)(v:Bool)(b:kJ c=v)(w:World):Calls prog 332 #[.int .u8 c] w fun a w'=>a=.returned (.bool v)/\w'=w:=
 (Kz c w).mono fun a w' ⟨d,e⟩=>⟨by rw[d,b],e.symm⟩
theorem Dg(a:ByteArray)(p:Nat)(b:p<a.size):iO a.data.toList p=if cH [a[p]]then(a.data.toList.drop p).takeWhile pz else []:=by unfold iO;rw[De a p b]
theorem Dh(a:ByteArray)(p:Nat)(b:a.size<=p):iO a.data.toList p=[]:=by unfold iO;rw[yE a p b]
theorem KC(a:ByteArray)(p:Nat):(iO a.data.toList p).length<=a.size-p:=by
 by_cases b:p<a.size
 ·rw[Dg a p b]
  have:=yy (a.data.toList.drop p);rw[ln,<-dV]at this;unfold iN at this;split
  ·exact this
  ·simp
 ·rw[Dh a p ad];simp
theorem KD(b p:Nat)(a:ByteArray)(F y:Bool)(w:World)(g:bX w b a p F y)(aa:p<=a.size)(Y:a.size<=65536):
 Calls prog 331 #[.pointer (some ⟨b,0,none⟩)] w fun z w'=>z=.returned (.string ⟨(iO a.data.toList p).toArray⟩)/\bX w' b a (p+(iO a.data.toList p).length) F y/\aY b w w':=by
 have H:=g.cDoc;have I:=g.cPos;obtain⟨W,c⟩:=ar (iO a.data.toList p);rw[<-c];by_cases K:p<a.size
 ·rw[Dg a p K]at c
  have hcut:∀d,(Instr.slice 9 (.string a) (some (.int .i64 p)) (some (.int .i64 (p+1))) none).run prog d=.ok (.string (a.extract p (p+1))) d:=fun d=>uN a p (p+1) ad ad d;have l:=Db a p K;have L:(a.extract p (p+1)).size<=9223372036854775807:=by rw[ByteArray.size_extract];omega
  generalize a.extract p (p+1)=t at hcut l L;have e:=fun w=>m9 t w L;rw[l]at e;have S:((p:Int)==(a.size:Int))=false:=gK;cases r:cH [a[p]]with
  |false=>
   rw[r]at e c;simp only[j8,jl]at c;obtain⟨n,O⟩:=aD c l;clear c l r;go_enter func331,ntmps331
   go_wp2_with fail
   refine(e _).mono ?_;rintro z M ⟨rfl,i⟩;clear e
   go_wp2
   go_ret;rw[n.o];exact⟨rfl,g.below i,aY.of i⟩
  |true=>
   rw[r,ay rfl]at c;rw[r]at e;have D:p+W.length<=a.size:=by have:=yy (a.data.toList.drop p);rw[ln,<-dV]at this;unfold iN at this;rw[c];omega
   have J:W=(a.data.toList.drop p).take W.length:=by have:=Kr (a.data.toList.drop p);unfold iN at this;rw[<-c]at this;exact this.symm
   obtain⟨n,G,O⟩:=bH c J l;clear c l r J;go_enter func331,ntmps331
   go_wp2_with fail
   refine(e _).mono ?_;rintro z M ⟨rfl,i⟩;clear e;have P:=g.below i;have Q:aY b w M:=aY.of i;clear H I g i
   go_wp2
   go_loopg [] (a.size-p) (fun k wr=>∃q:Nat,p<=q/\q<=a.size/\k=a.size-q/\bX wr b a q F y/\aY b w wr/\Hid (W.length=(q-p)+iN (a.data.toList.drop q)))
   case atStart=>exact⟨p,az _,ad,rfl,P,Q,by have:=n.o;show _=_;rw[this];unfold iN;omega⟩
   case round=>
    obtain⟨q,ab,ae,rfl,h,B,A⟩:=hrel;have H:=h.cDoc;have I:=h.cPos;have Z:=h.free 1;by_cases T:q<a.size
    ·have R:decide ((q:Int)<a.size)=true:=bQ
     have V:(0:Int)<=q:=ad;have X:(q:Int)<a.size:=ad;have s:=Dc a q T;cases j:kJ (a[q].toNat:Nat)with
     |true=>
      have f:iN (a.data.toList.drop q)=1+iN (a.data.toList.drop (q+1)):=by rw[s];unfold iN;rw[uq (by simpa[pz]using j)];simp;omega
      obtain⟨N,v⟩:=aD f j;clear f s j hcut D
      go_wp2
      go_quiet((go_at_call 332;exact Iq (Df _ _ v.o _)))
      go_wp2
      go_roundg(a.size-(q+1))
      case rel=>exact⟨q+1,ad,ad,rfl,bX.set (w:=wr.drewN _) (p:=q) h _ _ aV,(B.trans (aY.drewN _)).setCell _ _,by have:=A.out;have:=N.o;show _=_;omega⟩
      case measure=>omega
     |false=>
      have f:iN (a.data.toList.drop q)=0:=by rw[s];unfold iN;rw[ur (by simp[pz,j])];rfl
      have o:W.length=q-p:=by have:=A.out;omega
      obtain⟨m,v⟩:=aD o j;have C:∀d,(Instr.slice 9 (.string a) (some (.int .i64 p)) (some (.int .i64 q)) none).run prog d=.ok (.string (a.extract p q)) d:=fun d=>uN a p q ad ad d;generalize hteq:a.extract p q=u at C;have x:=ah hteq;clear f s j o hcut hteq D
      go_wp2
      go_quiet((go_at_call 332;exact Iq (Df _ _ v.o _)))
      go_wp2
      go_quiet(fail)
      go_wp2
      go_ret;have E:u=⟨W.toArray⟩:=by rw[<-x.o];apply Be;apply mU;rw[Bd,G.o,m.o]
      rw[E,m.o,show p+(q-p)=q from ad];exact⟨rfl,h,(B.trans (aY.drewN _)).trans (aY.drewN _)⟩
    ·have R:decide ((q:Int)<a.size)=false:=bK
     have f:iN (a.data.toList.drop q)=0:=by rw[Dd a q ad];rfl
     have o:W.length=q-p:=by have:=A.out;omega
     have m:=ah o;have C:∀d,(Instr.slice 9 (.string a) (some (.int .i64 p)) (some (.int .i64 q)) none).run prog d=.ok (.string (a.extract p q)) d:=fun d=>uN a p q ad ad d;generalize hteq:a.extract p q=u at C;have x:=ah hteq;clear f o hcut hteq D
     go_wp2
     go_quiet(fail)
     go_wp2
     go_quiet(fail)
     go_wp2
     go_ret;have E:u=⟨W.toArray⟩:=by rw[<-x.o];apply Be;apply mU;rw[Bd,G.o,m.o]
     rw[E,m.o,show p+(q-p)=q from ad];exact⟨rfl,h,(B.trans (aY.drewN _)).trans (aY.drewN _)⟩
 ·rw[Dh a p ad]at c
  have S:((p:Int)==(a.size:Int))=true:=va;have n:=ah c;clear c;go_enter func331,ntmps331
  go_wp2
  go_ret;rw[n.o];exact⟨rfl,g,aY.refl _ _⟩
def vy(n:aj):Value:=.agg (nodeRow n).toArray
theorem sD(w:World)(o o':Obj):Below w.heap.size w ((w.alloc o).alloc o'):=aG.alloc ak _
theorem KE(n:aj)(k:Nat)(w:World)(i:0<=n.a/\n.a<=65536)(j:0<=n.b/\n.b<=65536)(x:k<=65536):
 Calls prog 160 #[vy n,.int .i64 (k:Nat)] w fun l w'=>l=.returned (vy (eH k n))/\Below w.heap.size w w':=by
 obtain⟨d,sym,a,b⟩:=n;simp only at i j;obtain⟨m,c⟩:=ar (eH k ⟨d,sym,a,b⟩);rw[<-c];unfold eH at c;simp only at c;unfold vy nodeRow;simp only;obtain⟨r,s⟩:=i;obtain⟨t,u⟩:=j;by_cases f:d=3
 ·subst f
  rw[ay (.inl rfl)]at c;have e:=ah c;clear c;go_enter Bf,Bg
  go_wp2_with fail
  exact cg (v:=.agg #[.int .i64 3,.string ⟨sym.toArray⟩,.int .i64 (a+k),.int .i64 (b+k)]) (by simp[results,Bh,go_sem]) rfl ⟨by rw[e.o],sD _ _ _⟩
 ·by_cases g:d=4
  ·subst g
   rw[ay (.inr rfl)]at c;have e:=ah c;clear c f;go_enter Bf,Bg
   go_wp2_with fail
   exact cg (v:=.agg #[.int .i64 4,.string ⟨sym.toArray⟩,.int .i64 (a+k),.int .i64 (b+k)]) (by simp[results,Bh,go_sem]) rfl ⟨by rw[e.o],sD _ _ _⟩
  ·rw[au ad]at c
   by_cases h:d=5
   ·subst h
    rw[ay rfl]at c;have e:=ah c;clear c f g;go_enter Bf,Bg
    go_wp2_with fail
    exact cg (v:=.agg #[.int .i64 5,.string ⟨sym.toArray⟩,.int .i64 (a+k),.int .i64 b]) (by simp[results,Bh,go_sem]) rfl ⟨by rw[e.o],sD _ _ _⟩
   ·rw[au h]at c
    have e:=ah c;have o:(d==3)=false:=by rw[eu];exact f
    have p:(d==4)=false:=by rw[eu];exact g
    have q:(d==5)=false:=by rw[eu];exact h
    clear c f g h;go_enter Bf,Bg
    go_wp2_with fail
    exact cg (v:=.agg #[.int .i64 d,.string ⟨sym.toArray⟩,.int .i64 a,.int .i64 b]) (by simp[results,Bh,go_sem]) rfl ⟨by rw[e.o],sD _ _ _⟩
theorem vz:(prog.info? 102).map (fun i=>(i.zero,i.size,i.bytes))=some (some (.agg #[.int .i64 0,.string ⟨#[]⟩,.int .i64 0,.int .i64 0]),4,40):=aA
def cj(w:World)(B:Nat)(v:Value)(l:List aj):Prop:=w.ownsRow B 102 4 v l.length (l.flatMap nodeRow)
theorem sE(l:List aj):(l.flatMap nodeRow).length=l.length*4:=by
 induction l with
 |nil=>rfl
 |cons n t ih=>rw[uh,cR,ih,db];show 4+_=_;omega
theorem eh{w:World}{b size n:Nat}{a:TypeId}{v:Value}{xs:List Value}(d:w.ownsRow b a size v n xs):∃o c,v=.slice o n c:=by
 rcases d.2 with⟨a,e⟩|⟨g,cap,h,f,_⟩
 ·exact⟨_,0,by rw[e];exact a⟩
 ·exact⟨_,_,f⟩
theorem mr{w:World}{B a size n:Nat}{b:TypeId}{v:Value}{xs:List Value}(c:w.ownsRow B b size v n xs)(h:a<=B):w.ownsRow a b size v n xs:=by
 refine⟨c.1,?_⟩;rcases c.2 with e|⟨g,cap,d,f,i,rest⟩
 ·exact .inl e
 ·exact .inr ⟨g,cap,d,f,ad,rest⟩
theorem pB{w:World}{B size n:Nat}{a:TypeId}{v:Value}{xs:List Value}(b:w.ownsRow B a size v n xs)(m:0<n):∃g c,v=.slice (some ⟨g,0,none⟩) n c/\B<=g/\g<w.heap.size/\n<=c/\c<=maxLen:=by
 rcases b.2 with⟨_,l⟩|⟨g,cap,j,i,f,h,d,e,_⟩
 ·omega
 ·exact⟨g,cap,i,f,aU h,d,e⟩
theorem yG{w:World}{B:Nat}{v:Value}{l:List aj}(d:cj w B v l):∃o c,v=.slice o l.length c/\cO w o c l:=by
 obtain⟨o,c,rfl⟩:=eh d;refine⟨o,c,rfl,?_⟩;by_cases y:l.length=0
 ·obtain rfl:=qi y
  rcases d.2 with⟨m,e⟩|⟨g,cap,A,f,q,E,n,p,C,D⟩
  ·injection m with a h b
   subst a;subst b;exact⟨rfl,az _,aZ _,fun e=>absurd e (ue 0)⟩
  ·injection f with a h b
   subst a;subst b;exact⟨rfl,n,p,fun e=>absurd e (ue 0)⟩
 ·obtain⟨g,z,f,q,s,x,r⟩:=pB d ad
  injection f with a h b
  subst a;subst b;refine⟨sE l,x,r,fun _=>⟨g,0,rfl,s,fun j u i=> ?_⟩⟩;have t:j<l.length*4:=by rw[<-sE];exact(aL.1 i).1
  rw[cD];exact(rH d j t).trans i
theorem dK(w:World)(xs:List Value)(t n:Nat)(e:n=w.heap.size):∀j u,xs[j]?=some u->(w.alloc (.cells xs.toArray t)).cell? ((⟨n,0,none⟩:Addr).add j)=some u:=by
 intro j u d;subst e;have c:=bs (w.alloc (.cells xs.toArray t)) w.heap.size j _ _ _ (aB w _);have b:(⟨w.heap.size,0,none⟩:Addr).add j=⟨w.heap.size,j,none⟩:=by
  by_cases a:j=0
  ·subst a;simp[Addr.add]
  ·simp[Addr.add,a]
 rw[b,c];simpa using d
theorem Di(n:aj):∀u∈nodeRow n,u.oneCell'=true:=by intro u a;unfold nodeRow at a;simp at a;rcases a with rfl|rfl|rfl|rfl<;>rfl
theorem Dj{w w':World}{o:Obj}{row:Option Nat}(a:(w.alloc o).grownBy w' row):w.grownBy w' row:=
 (jD w o row).trans a
theorem vA(w:World)(n:aj)(B:Nat)(a:B<=w.heap.size):cj (w.alloc (.cells (nodeRow n).toArray 102)) B (.slice (some ⟨w.heap.size,0,none⟩) 1 1) [n]:=by refine⟨by simp[nodeRow],.inr ⟨w.heap.size,1,_,rfl,a,aB w _,az _,bI,by simp[nodeRow],by simp[nodeRow]⟩⟩
theorem yH{w:World}{B:Nat}{v:Value}{l:List aj}{n:aj}(a:w.ownsRow B 102 4 v (l.length+1) (l.flatMap nodeRow++nodeRow n)):cj w B v (l++[n]):=by unfold cj;rw[cR,ug];simpa using a
theorem yI(B:Nat)(l:List aj)(v:Value)(w:World)(a:cj w B v l)(t:B<=w.heap.size)(u:l.length<=1048576)(x:1<=l.length):
 Calls prog 42 #[v] w fun h w'=>∃f,h=.returned f/\cj w' B f (ee l)/\w.grownBy w' v.ownBlock:=by
 obtain⟨o,c,rfl⟩:=eh a;obtain⟨r,j,n,p,q⟩:=cY vz;have b:ee l=l++[⟨5,[],(l.length:Int)-1,0⟩]:=rfl;rw[b];have d:(nodeRow ⟨5,[],(l.length:Int)-1,0⟩)=[.int .i64 5,.string ⟨#[]⟩,.int .i64 ((l.length:Int)-1),.int .i64 0]:=rfl;have g:=ah d;clear b d;unfold cj at a;go_enter func42,ntmps42
 go_wp2_with(first
  |(at_builtin;go_must (refine jh _ rfl _ _ 49 rfl B 102 r (.agg #[.int .i64 0,.string ⟨#[]⟩,.int .i64 0,.int .i64 0]) 4 40 rN j n p q rfl ap _ _ _ rfl (f9 a _) ⟨w.heap.size,0,none⟩ 1 1 [.int .i64 5,.string ⟨#[]⟩,.int .i64 ((l.length:Int)-1),.int .i64 0] rfl rfl (dK _ [.int .i64 5,.string ⟨#[]⟩,.int .i64 ((l.length:Int)-1),.int .i64 0] _ _ rfl) (fun z e=>by simp at e;rcases e with rfl|rfl|rfl|rfl<;>rfl) bI ad aR ?_);intro s A m i y)
  |go_in)
 go_ret;refine⟨s,rfl,yH (by rw[g.o];exact m),Dj i⟩
theorem KF(l:List aj)(B:Nat)(v:Value)(w:World)(b:cj w B v l)(Q:l.length<=1048576)(R:1<=l.length):
 Calls prog 43 #[v] w fun y w'=>∃q,y=.returned q/\cj w' w.heap.size q l/\Below w.heap.size w w':=by
 obtain⟨g,c,rfl,N,P,S,O⟩:=pB b ad;have e:∀j u,(l.flatMap nodeRow)[j]?=some u->(w.alloc (.cells #[] 102)).cell? ((⟨g,0,none⟩:Addr).add j)=some u:=by
  intro j u p;have D:j<l.length*4:=by rw[<-sE];exact(aL.1 p).1
  have z:(⟨g,0,none⟩:Addr).add j=⟨g,j,none⟩:=by
   by_cases o:j=0
   ·subst o;simp[Addr.add]
   ·simp[Addr.add,o]
  rw[z];exact IA _ ((rH b j D).trans p)
 have i:∀u∈l.flatMap nodeRow,u.oneCell'=true:=by intro u G;obtain⟨n,_,E⟩:=rL.1 G;exact Di n u E
 obtain⟨K,C,H,I,J⟩:=cY vz;have h:=sE l;have V:∀(w:World) (a:Option Addr) (n c n' d:Nat),(binOp .eql 49 (.slice a n c) (.slice none n' d)).run prog w=.ok (.bool a.isNone) w:=fun w a n c n' d=>xQ w _ _ a n c n' d rN;have M:Aside (cj w B (.slice (some ⟨g,0,none⟩) l.length c) l):=b;obtain⟨xs,m⟩:=ar (l.flatMap nodeRow);rw[<-m]at e i h;obtain⟨x,s,r,t⟩:=cr m h e i;clear b m h e i;go_enter func43,ntmps43
 go_wp2_with(first
  |(at_builtin;go_must (refine jh _ rfl _ _ 49 rfl w.heap.size 102 K (.agg #[.int .i64 0,.string ⟨#[]⟩,.int .i64 0,.int .i64 0]) 4 40 rN C H I J rfl ap _ _ _ rfl (Bi w #[] 0 (az _) (aZ _) rfl) ⟨g,0,none⟩ l.length c xs rfl s.o r.o t.o bI ad ak ?_);intro L W F A T)
  |go_in)
 go_ret;refine⟨L,rfl,?_,?_⟩
 ·unfold cj;rw[<-x.o];simpa using F
 ·exact aG.grown A ak (by intro k f;injection f with f;subst f;exact az _)
structure PV where
 l:List aj
 o:Option Addr
 c:Nat
def pvVal(p:PV):Value:=.slice p.o p.l.length p.c
def ny(w:World)(o:Option Addr)(cap:Nat)(ps:List PV):Prop:=dp w o ps.length cap 1 (ps.map pvVal)/\∀p∈ps,cO w p.o p.c p.l
theorem ny.below{w w':World}{o:Option Addr}{cap:Nat}{l:List PV}(a:ny w o cap l)(b:Below w.heap.size w w'):ny w' o cap l:=⟨a.1.below b,fun p c=>(a.2 p c).below b⟩
theorem ny.at{w:World}{o:Option Addr}{cap:Nat}{l:List PV}(d:ny w o cap l){k:Nat}{x:PV}(b:l[k]?=some x):
 ∃g a,o=some ⟨g,a,none⟩/\g<w.heap.size/\w.cell? ⟨g,a+k,none⟩=some (.slice x.o x.l.length x.c):=by
 have h:=(aL.1 b).1;obtain⟨g,a,c,f,e⟩:=d.1.2.2.2 ad;exact⟨g,a,c,f,e k _ (by rw[bW,b];rfl)⟩
def nA(b:Option (List aj))(w:World)(a:Ending)(w':World):Prop:=
 (match b with
  |none=>a=.returned (.tuple #[.slice none 0 0,.bool false])
  |some l=>∃v,a=.returned (.tuple #[v,.bool true])/\cj w' w.heap.size v l)/\Below w.heap.size w w'
theorem nA.none{b:Option (List aj)}{w w':World}{a:Ending}(c:b=.none)(e:a=.returned (.tuple #[.slice .none 0 0,.bool false]))(d:Below w.heap.size w w'):nA b w a w':=by subst c;exact⟨e,d⟩
theorem nA.some{b:Option (List aj)}{l:List aj}{v:Value}{w w':World}{a:Ending}(c:b=.some l)(e:a=.returned (.tuple #[v,.bool true]))(f:cj w' w.heap.size v l)(d:Below w.heap.size w w'):nA b w a w':=by subst c;exact⟨⟨v,e,f⟩,d⟩
theorem KG{d c:Int}{ps:List (List aj)}(a:ps≠[])(b:1024<ps.length-1+gA ps):dX d c ps=none:=by unfold dX;rw[au a,ay b]
theorem KH{a d:Int}{ps:List (List aj)}(b:ps≠[])(c:¬1024<ps.length-1+gA ps):dX a d ps=some (gM a 0 [] ps):=by unfold dX;rw[au b,au c]
theorem KI(l:List aj)(k a:Nat)(b:k<=l.length):((l.take k).map (eH a)).length=k:=aR
theorem vB(f V:Int)(ps:List PV)(o:Option Addr)(cap:Nat)(w:World)(u:ny w o cap ps)(cv:ps.length<=131072)(a7:∀p∈ps,dA p.l/\p.l.length<=2048)(bZ:1<=ps.length):
 Calls prog 95 #[.int .i64 f,.int .i64 V,.slice o ps.length cap] w (nA (dX f V (ps.map PV.l)) w):=by
 obtain⟨ag,K⟩:=ar (dX f V (ps.map PV.l));rw[<-K];have a6:ps.map PV.l≠[]:=by cases ps with|nil=>simp at bZ|cons a t=>simp
 have cx:=u.1.2.1;have b3:=u.1.2.2.1;unfold maxLen at b3;have cl:((ps.length:Int)==0)=false:=gK;have a2:(ps.map PV.l).length=ps.length:=cf _;obtain⟨X,aa,ab,A⟩:=cr K a6 a7 a2;clear K a6 a7 a2;go_enter func95,ntmps95
 go_wp2
 go_loop [8,28] (fun s i=>∃k m:Nat,i=.int .i64 k/\k<=ps.length/\s=.int .i64 m/\m<=2048*k+ps.length/\Hid (m=ps.length-1+gA ((ps.map PV.l).take k))) (fun _ i=>ps.length-(intOf i).toNat)
 case atStart=>exact⟨0,ps.length-1,rfl,aZ _,by congr 1;omega,ad,by show _=_;simp[gA]⟩
 case round=>
  obtain⟨k,m,rfl,P,rfl,b9,Z⟩:=hrel;by_cases Q:k<ps.length
  ·have N:decide ((k:Int)<ps.length)=true:=bQ
   have b6:(k:Int)<ps.length:=ad;obtain⟨x,e⟩:∃n,ps[k]?=some n:=⟨_,aH Q⟩;obtain⟨b,cc,rfl,b1,W⟩:=u.at e;have be:=(ab.o x (aX e)).2;have bc:m+x.l.length=ps.length-1+gA ((ps.map PV.l).take (k+1)):=by rw[Kv (ps.map PV.l) k x.l (by rw[bW,e];rfl)];have:=Z.o;omega
   have bN:=ah bc;clear bc e
   go_wp2
   go_round
   case rel=>exact⟨k+1,m+x.l.length,aV,ad,aV,ad,bN.o⟩
   case measure=>exact bh
  ·have N:decide ((k:Int)<ps.length)=false:=bK
   have a5:m=ps.length-1+gA (ps.map PV.l):=by have:=Z.o;rwa[dh (by rw[A.o];omega)]at this
   by_cases co:1024<m
   ·have b4:decide ((m:Int)>1024)=true:=bQ
    have B:ag=none:=by rw[X.o];exact KG aa.o (by rw[A.o];omega)
    have J:=ah B;clear B a5
    go_wp2
    go_ret2
    exact nA.none J.o rfl (aE _ _)
   ·have b4:decide ((m:Int)>1024)=false:=bK
    have B:ag=some (gM f 0 [] (ps.map PV.l)):=by rw[X.o];exact KH aa.o (by rw[A.o];omega)
    have J:=ah B;have a3:∀k,(gM f 0 [] ((ps.map PV.l).take k)).length<=3072:=fun k=>by have aq:=vw f ((ps.map PV.l).take k) 0 [];have ci:=Ku (ps.map PV.l) k;rw[fm,A.o]at aq;simp only[ge]at aq;omega
    have Y:=ah a3;obtain⟨bl,a0,bf,bg,bi⟩:=cY vz;clear B a5 a3
    go_wp2
    go_loopw [11,41] (fun v i wr=>∃k:Nat,i=.int .i64 k/\k<=ps.length/\cj wr w.heap.size v (gM f 0 [] ((ps.map PV.l).take k))/\Below w.heap.size w wr) (fun _ i _=>ps.length-(intOf i).toNat)
    case atStart=>exact⟨0,rfl,aZ _,dc _ _ _ _,aE _ _⟩
    case round=>
     obtain⟨k,rfl,P,y,H⟩:=hrel;by_cases Q:k<ps.length
     ·have N:decide ((k:Int)<ps.length)=true:=bQ
      have b6:(k:Int)<ps.length:=ad;obtain⟨x,e⟩:∃n,ps[k]?=some n:=⟨_,aH Q⟩;obtain⟨b,cc,rfl,b1,W⟩:=(u.below H).at e;have T:=ab.o x (aX e);have ca:=(u.2 x (aX e)).below H;have d:=Kt f (ps.map PV.l) k x.l (by rw[bW,e];rfl);have b2:=Y.o k;have M:=Y.o (k+1);rw[d]at M;generalize gM f 0 [] ((ps.map PV.l).take k)=out at y d b2 M;obtain⟨r,af⟩:=aD d T.1;have be:=T.2;obtain⟨c2,c1,rfl⟩:=eh y;have bd:=u.2 x (aX e);clear e ca T b9;obtain⟨c,c4,c3⟩:=x;simp only at bd be r af W M;obtain⟨bD,rfl⟩:∃bD:World,bD=wr:=⟨_,rfl⟩
      go_wp2
      go_loopw [11,50] (fun v i bE=>∃j:Nat,i=.int .i64 j/\j<=c.length/\cj bE w.heap.size v (out++(c.take j).map (eH out.length))/\Below w.heap.size w bE) (fun _ i _=>c.length-(intOf i).toNat)
      case atStart=>exact⟨0,rfl,aZ _,by simpa using y,H⟩
      case round=>
       obtain⟨j,rfl,cq,h,l⟩:=hrel;clear W y;by_cases b7:j<c.length
       ·have b5:decide ((j:Int)<c.length)=true:=bQ
        have cs:(j:Int)<c.length:=ad;obtain⟨n,I⟩:∃n,c[j]?=some n:=⟨_,aH b7⟩;obtain⟨g,cG,rfl,cp,bo,bq,bt,bu⟩:=(bd.below l).at I;have S:(c.take (j+1)).map (eH out.length)=(c.take j).map (eH out.length)++[eH out.length n]:=by rw[bV,I];simp
        have b0:=af.o j n I;have C:=fun ce=>KE n out.length ce ad ad ad;obtain⟨m',a4⟩:=ar (eH out.length n);rw[<-a4]at C S;unfold vy nodeRow at C;obtain⟨bw,bA,a1,an⟩:=n;have a8:(out++(c.take j).map (eH out.length)).length=out.length+j:=by rw[cR,KI _ _ _ ad]
        have a9:out++((c.take j).map (eH out.length)++[m'])=(out++(c.take j).map (eH out.length))++[m']:=ak;obtain⟨bF,ae⟩:=aD S a9;generalize out++(c.take j).map (eH out.length)=row at h ae a8;have cF:row.length<=8192:=ad;obtain⟨bz,bB,al,ao⟩:=m';simp only at C bo bq bt bu;have L:=l.alloc l.size (.cells #[.int .i64 bw,.string ⟨bA.toArray⟩,.int .i64 a1,.int .i64 an] 102);have ba:cj (wr.alloc (.cells #[.int .i64 bw,.string ⟨bA.toArray⟩,.int .i64 a1,.int .i64 an] 102)) w.heap.size u11 row:=f9 h _;clear S a9 I a4 b0 h a8;go_wp2_with fail
        refine(C _).mono ?_;rintro F bC ⟨rfl,q⟩;have bb:bC.ownsRow w.heap.size 102 4 u11 row.length (row.flatMap nodeRow):=dS (row:=none) ba ⟨q.os,q.tape,q.output,q.size,fun k P _=>q.block k P⟩ (by cases u11.ownBlock<;>simp);have G:=L.trans (q.mono L.size);clear C ba L q l bo bq bt bu;go_wp2_with(first
         |(at_builtin;go_must (refine jh _ rfl _ _ 49 rfl w.heap.size 102 bl (.agg #[.int .i64 0,.string ⟨#[]⟩,.int .i64 0,.int .i64 0]) 4 40 rN a0 bf bg bi rfl ap _ _ _ rfl (f9 bb _) ⟨bC.heap.size,0,none⟩ 1 1 [.int .i64 bz,.string ⟨bB.toArray⟩,.int .i64 al,.int .i64 ao] rfl rfl (dK _ [.int .i64 bz,.string ⟨bB.toArray⟩,.int .i64 al,.int .i64 ao] _ _ rfl) (fun z D=>by simp at D;rcases D with rfl|rfl|rfl|rfl<;>rfl) bI ad (by have:=G.size;simp;omega) ?_);intro cd ch R O cb)
         |go_in)
        go_roundw
        case rel=>exact⟨j+1,aV,ad,by rw[bF.o,ae.o];exact yH R,(G.alloc G.size _).grown O (by have:=G.size;simp;omega) (fun k F=>(dC bb k F).1)⟩
        case measure=>exact bh
       ·have b5:decide ((j:Int)<c.length)=false:=bK
        rw[dh ad]at h;unfold jr at r;rcases uw k with av|av
        ·subst av
         have d:=r.o;rw[ay rfl]at d;have E:=ah d;clear d r
         go_wp2
         go_roundw
         case rel=>exact⟨1,rfl,ad,by rw[E.o];exact h,l⟩
         case measure=>exact bh
        ·have cu:decide ((k:Int)>0)=true:=bQ
         have d:=r.o;rw[au ad]at d;have b8:(out++c.map (eH out.length)).length<=8192:=by rw[cR,cf];omega
         have E:=ah d;generalize out++c.map (eH out.length)=row at h E b8;unfold cj at h;obtain⟨c0,cN,rfl⟩:=eh h;clear d r;go_wp2_with(first
          |(at_builtin;go_must (refine jh _ rfl _ _ 49 rfl w.heap.size 102 bl (.agg #[.int .i64 0,.string ⟨#[]⟩,.int .i64 0,.int .i64 0]) 4 40 rN a0 bf bg bi rfl ap _ _ _ rfl (f9 h _) ⟨wr.heap.size,0,none⟩ 1 1 [.int .i64 f,.string ⟨#[]⟩,.int .i64 ((out.length:Int)-1),.int .i64 ((row.length:Int)-1)] rfl rfl (dK _ [.int .i64 f,.string ⟨#[]⟩,.int .i64 ((out.length:Int)-1),.int .i64 ((row.length:Int)-1)] _ _ rfl) (fun z D=>by simp at D;rcases D with rfl|rfl|rfl|rfl<;>rfl) bI ad (by have:=l.size;simp;omega) ?_);intro cd ch R O cb)
          |go_in)
         go_roundw
         case rel=>exact⟨k+1,aV,ad,by rw[E.o];exact yH R,(l.alloc l.size _).grown O (by have:=l.size;simp;omega) (fun k F=>(dC h k F).1)⟩
         case measure=>exact bh
     ·have N:decide ((k:Int)<ps.length)=false:=bK
      rw[dh (by rw[A.o];omega)]at y
      go_wp2
      go_ret2
      exact nA.some J.o rfl y H
end Go.Proofs.YtnadadbndcdolaaGreatDoor
