import Derived.Test.YtnadadbndcdolaaGreatDoorQbn
import Derived.Test.YtnadadbndcdolaaGreatDoorQbq
import Derived.Test.YtnadadbndcdolaaGreatDoorQbt
set_option linter.unusedVariables false
set_option linter.unusedSimpArgs false
set_option maxRecDepth 100000
set_option maxHeartbeats 0
namespace Go.Proofs.YtnadadbndcdolaaGreatDoor
open Go.RowKit Tryz
def mN(ts:List aw)(hv:List Bool)(k:Nat):List Bool:=match ts[k]? with
 |none=>hv
 |some t=>if hv.getD k false=true then hv else if(oV ts hv t).1=true then hv.set k true else hv
def iD(ts:List aw)(hv:List Bool)(k:Nat):List Bool:=(List.range k).foldl (mN ts) hv
def lS(ts:List aw)(hv:List Bool):List Bool:=iD ts hv ts.length
def gT{a:Type}(f:a->a):Nat->a->a
 |0,x=>x
 |n+1,x=>f (gT f n x)
theorem AB(ts:List aw)(hv:List Bool)(k:Nat):iD ts hv (k+1)=mN ts (iD ts hv k) k:=by simp[iD,ud]
theorem Re(ts:List aw)(hv:List Bool)(k:Nat):(mN ts hv k).length=hv.length:=by
 unfold mN;split
 ·rfl
 ·split
  ·rfl
  ·split
   ·rw[mX]
   ·rfl
theorem Rf(ts:List aw)(hv:List Bool)(k:Nat):(iD ts hv k).length=hv.length:=by
 induction k with
 |zero=>rfl
 |succ k ih=>rw[AB,Re,ih]
theorem Rg{hv:List Bool}{k:Nat}(b:hv[k]?=some false):(hv.set k true).count false+1=hv.count false:=by
 induction hv generalizing k with
 |nil=>simp at b
 |cons a hv ih=>
  cases k with
  |zero=>simp at b;subst b;simp
  |succ k=>
   have:=ih (k:=k) (by simpa using b);simp only[aK,List.count_cons];omega
theorem Gx(ts:List aw)(hv:List Bool)(k:Nat)(d:hv.length=ts.length):mN ts hv k=hv∨(mN ts hv k).count false+1=hv.count false:=by
 unfold mN;split
 ·exact .inl rfl
 ·rename_i t b
  have c:=(aL.1 b).1;split
  ·exact .inl rfl
  ·rename_i a
   split
   ·refine .inr (Rg ?_)
    rw[aH ad];congr 1
    rw[fp,aH ad]at a;simpa using a
   ·exact .inl rfl
theorem Gy(ts:List aw)(hv:List Bool)(c:hv.length=ts.length)(k:Nat):iD ts hv k=hv∨(iD ts hv k).count false<hv.count false:=by
 induction k with
 |zero=>exact .inl rfl
 |succ k ih=>
  rw[AB];rcases Gx ts (iD ts hv k) k (by rw[Rf,c])with a|a
  ·rw[a];exact ih
  ·rcases ih with b|b
   ·rw[b]at a⊢;omega
   ·omega
structure iY(w:World)(n H:Nat)(hv:List Bool)(wr:World):Prop where
 base:Below w.heap.size w wr
 low:w.heap.size<=H
 row:wr.heap[H]?=some (.cells (hv.map Value.bool).toArray 4)
 len:hv.length=n
section
variable{w wr wz:World} {n H k:Nat} {hv:List Bool}
theorem iY.below(a:iY w n H hv wr)(b:Below wr.heap.size wr wz):iY w n H hv wz:=⟨aO a.base b,a.low,(b.block _ (ax a.row)).trans a.row,a.len⟩
theorem iY.at(a:iY w n H hv wr)(b:k<n):wr.cell? ⟨H,k,none⟩=some (.bool (hv.getD k false)):=by have c:=a.len;rw[ai _ a.row,gU,bW,fp,aH ad];rfl
theorem iY.free(a:iY w n H hv wr)(k:Nat):wr.frozen? ⟨H,k,none⟩=false:=aT a.row k
theorem iY.put(a:iY w n H hv wr)(k:Nat):iY w n H (hv.set k true) (wr.setCell ⟨H,k,none⟩ (.bool true)):=by
 refine⟨a.base.setCell a.low _,a.low,(bn _ _ _ _ a.row).trans ?_,by rw[mX];exact a.len⟩;congr 2
 apply mU;simp[qh]
theorem iY.bools(a:iY w n H hv wr)(c:n<=1048576):Gt wr (some ⟨H,0,none⟩) n hv:=by refine⟨ak,BJ a.len,bI,fun _=>⟨_,_,rfl,ax a.row,fun j u b=> ?_⟩⟩;rw[cD,ai _ a.row,gU];exact b
end
def Gz(ts:List aw)(w:World)(a:Ending)(w':World):Prop:=
 ∃i H hv,hv=gT (lS ts) i (List.replicate ts.length false)/\lS ts hv=hv/\a=.returned (.slice (some ⟨H,0,none⟩) ts.length ts.length)/\iY w ts.length H hv w'
def GA(ts:List aw)(w:World)(H n g:Nat)(wr:World):Prop:=∃i hv,hv=gT (lS ts) i (List.replicate ts.length false)/\hv.count false=g/\iY w n H hv wr
def xw(ts:List aw)(w:World)(H n:Nat)(hv:List Bool)(b a:Value)(wr:World):Prop:=∃k:Nat,a=.int .i64 (k:Nat)/\k<=n/\b=.bool (decide (iD ts hv k≠hv))/\iY w n H (iD ts hv k) wr
theorem Rh:(prog.info? 4).map (fun i=>(i.zero,i.size,i.bytes))=some (some (.bool false),1,1):=aA
theorem GB(l:List am)(o:Option Addr)(cap:Nat)(aa:World)(bc:bR aa o cap l)(bd:dI l)(b1:bT (l.map am.t)=0)(a1:Nat->Prop)(Z a9 ba bb:Nat)(b0:∀x∈l,x.t.text=false->bG x.t.nodes=0/\x.t.nodes.length<=60)(w:World)(af:cT aa a1 w Z a9 ba bb o cap l):
 Calls prog 46 #[.pointer (some ⟨Z,0,none⟩)] w (Gz (l.map am.t) w):=by
 have bo:=bd.len;obtain⟨n,O⟩:=ar (l.length);have bq:(l.map am.t).length=n:=by rw[cf,O]
 obtain⟨b6,bg,bA,bB,bC⟩:=cY Rh;obtain⟨M,ag⟩:=ar (madeCells #[.bool false] n);have b3:∀wz,(Instr.makeSlice 109 (.int .i64 (n:Int)) (.int .i64 (n:Int))).run prog wz=.ok (.slice (some ⟨wz.heap.size,0,none⟩) n n) (wz.alloc (.cells M 4)):=fun wz=>by have:=uG (P:=prog) wz 109 4 b6 (.bool false) underlying109 bg bA .i64 .i64 n n ad ad (by rw[bC];omega) ad;simp only[ph,bB,AQ]at this;rw[this,ag];rfl
 obtain⟨b9,u⟩:=ar (w.alloc (.cells M 4));have bu:iY w n w.heap.size (List.replicate n false) b9:=by
  refine⟨by rw[u];exact aG,az _,?_,ak⟩;rw[u,aB];congr 2
  rw[ag];apply mU;rw[toList_madeCells_one];simp
 have F:=ai 0 af.blk;rw[<-O]at F;obtain⟨a2,V,v,e⟩:=cr af bu O bq;clear af bu ag bg bA bB bC O bq;go_enter func46,ntmps46
 go_wp2_with(first|(rw[<-u];clear u)|fail)
 go_step3
 go_wp2_with(first|(rw[<-u];clear u)|fail)
 go_step3
 go_wp2_with fail
 clear b3 F;generalize w.heap.size=H at V⊢;have cs:n<=1048576:=by rw[v.o];exact bo
 obtain⟨ts,aq⟩:=ar (l.map am.t);rw[<-aq]at e⊢;have Y:=ah aq;clear aq;go_loopg [] n (fun g wr=>GA ts w H n g wr)
 case atStart=>exact⟨0,_,by rw[e.o];rfl,ak,V.o⟩
 case round=>
 clear V;obtain⟨i,hv,bz,bf,d⟩:=hrel;obtain⟨a8,bE⟩:=aD bz bf;have s:=a2.o.kept (bJ d.base none) (fun q f=>by cases f);have F:=ai 0 s.blk;rw[<-v.o]at F;obtain⟨y,a4⟩:=aD d d.len;clear bz bf d s;go_wp2_with fail
 obtain⟨cv,b5⟩:=ar (wr);subst b5;go_loopw [4,22] (fun R a0 wr=>xw ts w H n hv R a0 wr) (fun _ a0 _=>n-(intOf a0).toNat)
 case atStart=>exact⟨0,rfl,aZ _,by simp[iD],y.o⟩
 case round=>
 clear y F;obtain⟨k,rfl,co,rfl,d⟩:=hrel;have bi:(k:Int)<n∨¬((k:Int)<n):=ad;by_cases r:k<n
 ·have cp:(0:Int)<=k:=ad
  have cq:(k:Int)<n:=ad;clear bi;obtain⟨x,E⟩:∃x,l[k]?=some x:=⟨_,aH (by rw[<-v.o];exact r)⟩;have s:=a2.o.kept (bJ d.base none) (fun q f=>by cases f);obtain⟨b,cu,bZ,cl,cx,cF,cG,cN,c0,c1⟩:=(bc.below s.base).at E;subst bZ;obtain⟨R,av⟩:=ar (decide (iD ts hv k≠hv));rw[<-av];have a7:=ah av;obtain⟨a,N⟩:∃q,q=iD ts hv k:=⟨_,rfl⟩;rw[<-N]at d;have bl:a.length=l.length:=by rw[d.len];exact v.o
  obtain⟨wz,D,ae,m⟩:=cm wr (.cells (typeRow x).toArray 53);have K:=d.below ae;have u0:=K.at r;obtain⟨b2,ao⟩:∃q,q=a.getD k false:=⟨_,rfl⟩;rw[<-ao]at u0;have ca:=ai 0 m;have cb:=ai 1 m;have cc:=ai 2 m;have cd:=ai 3 m;have ce:=ai 4 m;have ch:=ai 5 m;simp[typeRow]at ca cb cc cd ce ch;have bw:mN ts a k=if a.getD k false=true then a else if(oV ts a x.t).1=true then a.set k true else a:=by unfold mN;rw[Y.o,bW,E];rfl
  have Q:=QY l _ cap aa bc bd b1 a1 Z a9 ba bb x (aX E) a (b0 x (aX E)) (some ⟨H,0,none⟩) n bl wz (s.kept (bJ ae none) (fun q f=>by cases f)) (K.bools (by rw[v.o];exact bo));rw[<-Y.o,d.len]at Q;unfold dT at Q;obtain⟨a6,z,W,X,a3⟩:=jJ Q bw N ao K;have I:Hid (iD ts hv (k+1)=mN ts a k):=ah (by rw[AB,<-N]);clear Q bw N ao K d s E bl ae m av;unfold typeRow at D;cases b2 with
  |true=>
   have j:Hid (xw ts w H n hv (.bool R) (.int .i64 ((k:Int)+1)) wz):=ah ⟨k+1,aV,r,by rw[I.o,z.o,ay X.o.symm,W.o,a7.o],by rw[I.o,z.o,ay X.o.symm];exact a3.o⟩;go_wp2_with(first|(rw[<-D];clear D)|fail)
   go_roundw
   case rel=>exact j.o
   case measure=>exact bh
  |false=>
   go_wp2_with(first|(rw[<-D];clear D)|fail)
   refine a6.o.mono ?_;rintro f bD ⟨rfl,ab⟩;clear a6;obtain⟨bN,J⟩:∃q,q=(oV ts a x.t).1:=⟨_,rfl⟩;obtain⟨ci,al⟩:∃q,q=(oV ts a x.t).2:=⟨_,rfl⟩;rw[<-J,<-al];have B:=a3.o.below ab;have b7:=B.at r;have b8:=B.free k;obtain⟨G,T⟩:=aD B J;have t:¬(a.getD k false=true):=by rw[<-X.o];simp
   cases bN with
   |true=>
    have j:Hid (xw ts w H n hv (.bool true) (.int .i64 ((k:Int)+1)) (bD.setCell ⟨H,k,none⟩ (.bool true))):=ah (by
     have A:iD ts hv (k+1)=a.set k true:=by rw[I.o,z.o,au t,ay T.o.symm]
     refine⟨k+1,aV,r,?_,by rw[A];exact G.o.put k⟩;congr 1
     rw[A];have be:=Gy ts hv (by rw[a4.o,e.o]) k;have bt:=Gx ts a k (by rw[G.o.len,e.o]);rw[z.o,au t,ay T.o.symm]at bt;have b4:a.set k true≠hv:=fun f=>by
      rcases bt with h|h
      ·have c:(a.set k true).getD k false=true:=by
        rw[fp,List.getElem?_set_self (by rw[G.o.len];exact r)];rfl
       rw[h]at c;exact t c
      ·rw[f]at h
       rw[<-W.o]at be;rcases be with c|c
       ·rw[c]at h;omega
       ·omega
     exact(lm b4).symm)
    clear J al B ab t
    go_wp2
    go_roundw
    case rel=>exact j.o
    case measure=>exact bh
   |false=>
    have j:Hid (xw ts w H n hv (.bool R) (.int .i64 ((k:Int)+1)) bD):=ah (by
     have A:iD ts hv (k+1)=a:=by rw[I.o,z.o,au t,au (by rw[<-T.o];simp)]
     exact⟨k+1,aV,r,by rw[A,W.o,a7.o],by rw[A];exact G.o⟩)
    clear J al B ab t b7 b8
    go_wp2
    go_roundw
    case rel=>exact j.o
    case measure=>exact bh
 ·obtain rfl:k=n:=ad
  clear bi;obtain⟨c,L⟩:∃q,q=iD ts hv k:=⟨_,rfl⟩;rw[<-L]at d⊢;have a5:Hid (lS ts hv=c):=ah (by unfold lS;rw[e.o];exact L.symm);have y:=ah d;have an:=Gy ts hv (by rw[a4.o,e.o]) k;rw[<-L]at an;have bF:=ah an;clear L d an;by_cases p:c=hv
  ·have C:decide (c≠hv)=false:=by simp[p]
   rw[C];have S:Hid (Gz ts w (.returned (.slice (some ⟨H,0,none⟩) k k)) wr):=ah ⟨i,H,hv,a8.o,by rw[a5.o,p],by rw[e.o],by rw[e.o];have:=y.o;rwa[p]at this⟩;clear C p;go_wp2_with fail
   rw[lp];go_ret;rw[<-Y.o];exact S.o
  ·have C:decide (c≠hv)=true:=by simp[p]
   rw[C];have S:Hid (c.count false<hv.count false):=ah (by rcases bF.o with h|h;exact absurd h p;exact h);have j:Hid (GA ts w H k (c.count false) wr):=ah ⟨i+1,c,by rw[gT,<-a8.o,a5.o],rfl,y.o⟩;clear C p
   go_wp2
   go_roundg(c.count false)
   case rel=>exact j.o
   case measure=>have:=S.o;have:=bE.o;omega
def oX(ts:List aw)(nd:List Nat)(k:Nat):List Nat:=match ts[k]? with
 |none=>nd
 |some t=>if min (1+mO ts nd t) 4097<nd.getD k 0 then nd.set k (min (1+mO ts nd t) 4097)else nd
def iZ(ts:List aw)(nd:List Nat)(k:Nat):List Nat:=(List.range k).foldl (oX ts) nd
def lW(ts:List aw)(nd:List Nat):List Nat:=iZ ts nd ts.length
theorem GL(ts:List aw)(nd:List Nat)(k:Nat):iZ ts nd (k+1)=oX ts (iZ ts nd k) k:=by simp[iZ,ud]
theorem GM{nd:List Nat}{k a:Nat}(c:a<nd.getD k 0):(nd.set k a).sum<nd.sum:=by
 induction nd generalizing k with
 |nil=>simp at c
 |cons b nd ih=>
  cases k with
  |zero=>simp at c⊢;omega
  |succ k=>
   have:=ih (k:=k) (by simpa using c);simp only[aK,iI];omega
theorem RD(ts:List aw)(nd:List Nat)(k:Nat):oX ts nd k=nd∨(oX ts nd k).sum<nd.sum:=by
 unfold oX;split
 ·exact .inl rfl
 ·split
  ·rename_i a;exact .inr (GM a)
  ·exact .inl rfl
theorem GN(ts:List aw)(nd:List Nat)(k:Nat):iZ ts nd k=nd∨(iZ ts nd k).sum<nd.sum:=by
 induction k with
 |zero=>exact .inl rfl
 |succ k ih=>
  rw[GL];rcases RD ts (iZ ts nd k) k with a|a
  ·rw[a];exact ih
  ·rcases ih with b|b
   ·rw[b]at a⊢;exact .inr a
   ·exact .inr ad
structure i6(w:World)(n H:Nat)(nd:List Nat)(wr:World):Prop where
 base:Below w.heap.size w wr
 low:w.heap.size<=H
 row:wr.heap[H]?=some (.cells (nd.map nV).toArray 3)
 len:nd.length=n
 le:∀a∈nd,a<=4097
section
variable{w wr wz:World} {n H k:Nat} {nd:List Nat}
theorem i6.below(a:i6 w n H nd wr)(b:Below wr.heap.size wr wz):i6 w n H nd wz:=⟨aO a.base b,a.low,(b.block _ (ax a.row)).trans a.row,a.len,a.le⟩
theorem i6.at(a:i6 w n H nd wr)(b:k<n):wr.cell? ⟨H,k,none⟩=some (.int .i64 (nd.getD k 0:Nat)):=by have c:=a.len;rw[ai _ a.row,gU,bW,fp,aH ad];rfl
theorem i6.free(a:i6 w n H nd wr)(k:Nat):wr.frozen? ⟨H,k,none⟩=false:=aT a.row k
theorem i6.put(c:i6 w n H nd wr)(k:Nat){a:Nat}(f:a<=4097):i6 w n H (nd.set k a) (wr.setCell ⟨H,k,none⟩ (.int .i64 (a:Nat))):=by
 refine⟨c.base.setCell c.low _,c.low,(bn _ _ _ _ c.row).trans ?_,by rw[mX];exact c.len,fun b e=> ?_⟩
 ·congr 2
  apply mU;simp[qh,nV]
 ·rcases List.mem_or_eq_of_mem_set e with d|d
  ·exact c.le b d
  ·omega
theorem i6.nums(a:i6 w n H nd wr)(c:n<=1048576):ry wr (some ⟨H,0,none⟩) n nd:=by refine⟨ak,BJ a.len,bI,fun _=>⟨_,_,rfl,ax a.row,fun j u b=> ?_⟩⟩;rw[cD,ai _ a.row,gU];exact b
end
def GO(ts:List aw)(w:World)(a:Ending)(w':World):Prop:=
 ∃i H nd,nd=gT (lW ts) i (List.replicate ts.length 4097)/\lW ts nd=nd/\a=.returned (.slice (some ⟨H,0,none⟩) ts.length ts.length)/\i6 w ts.length H nd w'
def GP(ts:List aw)(w:World)(H n g:Nat)(wr:World):Prop:=∃i nd,nd=gT (lW ts) i (List.replicate ts.length 4097)/\nd.sum=g/\i6 w n H nd wr
def AH(ts:List aw)(w:World)(H n:Nat)(nd:List Nat)(b a:Value)(wr:World):Prop:=∃k:Nat,a=.int .i64 (k:Nat)/\k<=n/\b=.bool (decide (iZ ts nd k≠nd))/\i6 w n H (iZ ts nd k) wr
theorem RE(l:List am)(o:Option Addr)(cap:Nat)(W:World)(bi:bR W o cap l)(bl:dI l)(b3:bT (l.map am.t)=0)(a0:Nat->Prop)(F bb bc bd:Nat)(b1:∀x∈l,x.t.text=false->bG x.t.nodes=0/\x.t.nodes.length<=60)(ae:l.length=2)(w:World)(G:cT W a0 w F bb bc bd o cap l):
 Calls prog 55 #[.pointer (some ⟨F,0,none⟩)] w (GO (l.map am.t) w):=by
 have cN:=bl.len;have af:2=l.length:=ae.symm;have bz:(l.map am.t).length=2:=by rw[cf,ae]
 obtain⟨av,O,Y,m⟩:=cm w (.cells #[.int .i64 4097] 3);have bA:=RC w.heap.size 1 4097 av (ai 0 m) (az _) ad (ax m);obtain⟨a8,a1⟩:=aD bA Y;have t:=ai 0 G.blk;rw[<-af]at t;have cb:=(Y.cell (p:=⟨F,0,none⟩) (ax G.blk)).trans t;obtain⟨a2,Q,y⟩:=bH G af bz;clear G af bz bA Y m ae;go_enter func55,ntmps55
 go_wp2_with(first|(rw[<-O];clear O)|fail)
 go_step3
 go_wp2_with(first|(rw[<-O];clear O)|fail)
 refine a8.o.mono ?_;rintro j cd ⟨rfl,bg,be⟩;have R:Hid (i6 w 2 av.heap.size (List.replicate 2 4097) cd):=ah ⟨aO a1.o be,a1.o.size,bg,rfl,fun a b4=>by simp at b4;omega⟩;clear a8 t cb bg be;go_wp2_with fail
 go_step3
 go_wp2_with fail
 generalize av.heap.size=H at R⊢;obtain⟨ts,ag⟩:=ar (l.map am.t);rw[<-ag]at y⊢;have T:=ah ag;clear ag;go_loopg [] 8194 (fun g wr=>GP ts w H 2 g wr)
 case atStart=>exact⟨0,_,by rw[y.o];rfl,ak,R.o⟩
 case round=>
 clear R;obtain⟨i,c,bC,bt,e⟩:=hrel;obtain⟨ba,bF⟩:=aD bC bt;have s:=a2.o.kept (bJ e.base none) (fun q j=>by cases j);have t:=ai 0 s.blk;rw[<-Q.o]at t;obtain⟨v,cs⟩:=aD e e.len;clear bC bt e s;go_wp2_with fail
 obtain⟨c2,ca⟩:=ar (wr);subst ca;go_loopw [4,22] (fun aq ao wr=>AH ts w H 2 c aq ao wr) (fun _ ao _=>2-(intOf ao).toNat)
 case atStart=>exact⟨0,rfl,aZ _,by simp[iZ],v.o⟩
 case round=>
 clear v t;obtain⟨k,rfl,cx,rfl,e⟩:=hrel;have bu:(k:Int)<2∨¬((k:Int)<2):=ad;by_cases A:k<2
 ·have cF:(0:Int)<=k:=ad
  have cG:(k:Int)<2:=ad;clear bu;obtain⟨x,E⟩:∃x,l[k]?=some x:=⟨_,aH (by rw[<-Q.o];exact A)⟩;have s:=a2.o.kept (bJ e.base none) (fun q j=>by cases j);obtain⟨b,c0,b0,cu,c3,c4,c5,c6,c7,c8⟩:=(bi.below s.base).at E;subst b0;obtain⟨aq,al⟩:=ar (decide (iZ ts c k≠c));rw[<-al];have bZ:=ah al;obtain⟨d,N⟩:∃q,q=iZ ts c k:=⟨_,rfl⟩;rw[<-N]at e;have bw:d.length=l.length:=by rw[e.len];exact Q.o
  obtain⟨wz,an,Z,n⟩:=cm wr (.cells (typeRow x).toArray 53);have K:=e.below Z;have u0:=K.at A;have b9:d.getD k 0<=4097:=AG e.le k;obtain⟨V,L⟩:∃q,q=d.getD k 0:=⟨_,rfl⟩;rw[<-L]at u0 b9;have ce:=ai 0 n;have ch:=ai 1 n;have ci:=ai 2 n;have cl:=ai 3 n;have co:=ai 4 n;have cp:=ai 5 n;simp[typeRow]at ce ch ci cl co cp;have D:oX ts d k=if min (1+mO ts d x.t) 4097<d.getD k 0 then d.set k (min (1+mO ts d x.t) 4097)else d:=by unfold oX;rw[T.o,bW,E];rfl
  have b5:mO ts d x.t<=4097:=by
   unfold mO;split
   ·omega
   ·exact AG (GI ts e.le _) _
  have C:=Rz l _ cap W bi bl b3 a0 F bb bc bd x (aX E) d (b1 x (aX E)) e.le (some ⟨H,0,none⟩) 2 bw wz (s.kept (bJ Z none) (fun q j=>by cases j)) (K.nums ad);rw[<-T.o,e.len]at C;unfold dT at C;obtain⟨X,bo⟩:∃q,q=mO ts d x.t:=⟨_,rfl⟩;rw[<-bo]at C b5 D;rw[<-L]at D;obtain⟨a9,S,a5,a4,bE⟩:=jJ C D N L K;have a6:Hid (iZ ts c (k+1)=oX ts d k):=ah (by rw[GL,<-N]);have b6:min (1+(X:Int)) 4097=((min (1+X) 4097:Nat):Int):=ad;obtain⟨h,I⟩:=ar (min (1+X) 4097);rw[<-I]at b6 D;have b2:h<=4097:=ad;have cq:=ah I;rw[<-I]at S;clear C D N L K e s E bw Z n al bo I;unfold typeRow at an;go_wp2_with(first|(rw[<-an];clear an)|fail)
  refine a9.o.mono ?_;rintro j bD ⟨rfl,bf⟩;clear a9 u0;have J:=bE.o.below bf;have cc:=J.at A;rw[<-a4.o]at cc;have c1:=J.free k;have a3:=ah J;clear J bf;by_cases B:h<V
  ·have b8:(h:Int)<V:=ad
   have u:Hid (AH ts w H 2 c (.bool true) (.int .i64 ((k:Int)+1)) (bD.setCell ⟨H,k,none⟩ (.int .i64 (h:Nat)))):=ah (by
    have m:iZ ts c (k+1)=d.set k h:=by rw[a6.o,S.o,ay B]
    refine⟨k+1,aV,A,?_,by rw[m];exact a3.o.put k b2⟩;congr 1
    rw[m];have bq:=GN ts c k;rw[<-a5.o]at bq;have bB:(d.set k h).sum<d.sum:=GM (by rw[<-a4.o];exact B);have b7:d.set k h≠c:=fun j=>by
     rw[j]at bB;rcases bq with f|f
     ·rw[f]at bB;omega
     ·omega
    exact(lm b7).symm)
   clear B
   go_wp2
   go_roundw
   case rel=>exact u.o
   case measure=>exact bh
  ·have b8:¬((h:Int)<V):=ad
   have cv:decide ((h:Int)<V)=false:=aR;have u:Hid (AH ts w H 2 c (.bool aq) (.int .i64 ((k:Int)+1)) bD):=ah (by
    have m:iZ ts c (k+1)=d:=by rw[a6.o,S.o,au B]
    exact⟨k+1,aV,A,by rw[m,a5.o,bZ.o],by rw[m];exact a3.o⟩)
   clear B
   go_wp2
   go_roundw
   case rel=>exact u.o
   case measure=>exact bh
 ·obtain rfl:k=2:=ad
  clear bu;obtain⟨f,M⟩:∃q,q=iZ ts c 2:=⟨_,rfl⟩;rw[<-M]at e⊢;have a7:Hid (lW ts c=f):=ah (by unfold lW;rw[y.o];exact M.symm);have v:=ah e;have ab:=GN ts c 2;rw[<-M]at ab;have bN:=ah ab;clear M e ab;by_cases r:f=c
  ·have z:decide (f≠c)=false:=by simp[r]
   rw[z];have P:Hid (GO ts w (.returned (.slice (some ⟨H,0,none⟩) 2 2)) wr):=ah ⟨i,H,c,ba.o,by rw[a7.o,r],by rw[y.o],by rw[y.o];have:=v.o;rwa[r]at this⟩;clear z r;go_wp2_with fail
   rw[lp];go_ret;rw[<-T.o];exact P.o
  ·have z:decide (f≠c)=true:=by simp[r]
   rw[z];have P:Hid (f.sum<c.sum):=ah (by rcases bN.o with aa|aa;exact absurd aa r;exact aa);have u:Hid (GP ts w H 2 (f.sum) wr):=ah ⟨i+1,f,by rw[gT,<-ba.o,a7.o],rfl,v.o⟩;clear z r
   go_wp2
   go_roundg(f.sum)
   case rel=>exact u.o
   case measure=>have:=P.o;have:=bF.o;omega
def tX:Bytes:=[116,121,112,101,32,97,32,61,32,97,32,123,32,98,44,32,98,42,32,125,10,116,121,112,101,32,98,32,61,32,98,32,64,107,32,116,101,120,116]
def fO:List aj:=[⟨2,[98],0,0⟩,⟨2,[98],0,0⟩,⟨5,[],1,0⟩,⟨3,[],0,2⟩]
def ja:aw:=⟨[97],[97],[],[],false,fO⟩
def kG:aw:=⟨[98],[98],[[107]],[],true,[]⟩
def cM:List aw:=[ja,kG]
theorem RF:ef 0 [] (dv tX)=(cM,0):=aA
theorem RG:[[98],[98]].mergeSort bP=[([98]:Bytes),[98]]:=by rw[List.mergeSort];simp only[List.MergeSort.Internal.splitInTwo_fst,List.MergeSort.Internal.splitInTwo_snd];simp[List.merge]
theorem rC:bG fO=0:=aA
theorem AI:aI fO=[[98]]:=by unfold aI;rw[ay rC,show fB fO=[[98],[98]]from aA,RG];kernel_rfl
theorem GQ:bm (aI fO)=[[98]]:=by rw[AI];unfold bm;rw[List.mergeSort_singleton];kernel_rfl
theorem GR:kidsS cM ja=[1]:=by unfold kidsS;rw[show ja.nodes=fO from rfl,AI];kernel_rfl
theorem RH:kidsS cM kG=[]:=by unfold kidsS;rw[show kG.nodes=[]from rfl,y9];rfl
theorem AJ:bT cM=0:=by
 have a:∀{p:aw->Prop},p ja->p kG->∀t∈cM,p t:=fun c d t b=>by
  simp only[cM,du,qk,ql]at b;rcases b with rfl|rfl
  ·exact c
  ·exact d
 unfold bT;rw[au ap,au ap,au ap,au ap,au ap,au ap,au ap,au,au,au]
 ·rw[ka,pg]
  exact a ap ap
 ·rw[ka,pg]
  exact a (by rw[GR];decide) (by rw[RH];decide)
 ·rw[ka,pg]
  exact a (by rw[show ja.nodes=fO from rfl,AI];decide) (by rw[show kG.nodes=[]from rfl,y9];decide)
theorem RI:mq tX=(cM,0,0):=by unfold mq;rw[au ap,RF,au ap,au (by rw[AJ];decide)]
theorem RJ:∀d∈tX,d<128:=ap
theorem RK:∀t∈cM,og 100 t:=by
 intro t a;simp only[cM,du,qk,ql]at a;rcases a with rfl|rfl
 ·exact⟨ap,ap,ap,ap,ap,ap⟩
 ·exact⟨ap,ap,ap,ap,ap,ap⟩
theorem AK:placeS cM [97]=some 0:=aA
theorem GS:cI cM [98]=1:=aA
def qe:List St:=[(true,0),(false,1),(false,2)]
def GT:List (List Nat):=[[1],[2],[2]]
theorem AL:eL (true,0) 256 (cB fO [[98]]) 3=some (qe,GT):=aA
theorem GU:eL (true,0) 256 (cB fO [[98]]) 0=some ([(true,0)],[]):=rfl
theorem GV:eL (true,0) 256 (cB fO [[98]]) 1=some ([(true,0),(false,1)],[[1]]):=aA
theorem GW:eL (true,0) 256 (cB fO [[98]]) 2=some (qe,[[1],[2]]):=aA
theorem GX(n:Nat):eL (true,0) 256 (cB fO [[98]]) (n+4)=none:=by
 induction n with
 |zero=>rw[show 0+4=3+1 from rfl,eL,AL];rfl
 |succ n ih=>rw[show n+1+4=(n+4)+1 by omega,eL,ih];rfl
theorem RL{n:Nat}{keys:List St}{e:List (List Nat)}(a:eL (true,0) 256 (cB fO [[98]]) n=some (keys,e))(b:keys.length=n):keys=qe/\e=GT:=by
 match n,a,b with
 |0,a,b=>rw[GU]at a;injection a with a;injection a with c d;subst c;cases b
 |1,a,b=>rw[GV]at a;injection a with a;injection a with c d;subst c;cases b
 |2,a,b=>rw[GW]at a;injection a with a;injection a with c d;subst c;cases b
 |3,a,b=>rw[AL]at a;injection a with a;injection a with c d;exact⟨c.symm,d.symm⟩
 |n+4,a,b=>rw[GX]at a;cases a
theorem RN:eK 256 [(true,0)] (cB fO [[98]] (true,0))=some ([(true,0),(false,1)],[1]):=aA
theorem RO:eK 256 [(true,0),(false,1)] (cB fO [[98]] (false,1))=some (qe,[2]):=aA
theorem RP:eK 256 qe (cB fO [[98]] (false,2))=some (qe,[2]):=aA
theorem GY:¬rq fO:=by
 unfold rq;rw[GQ];rintro⟨n,keys,f,k,a,b,d⟩;match n,a with
 |0,a=>rw[GU]at a;injection a with a;injection a with c e;subst c;injection b with b;subst b;rw[RN]at d;cases d
 |1,a=>rw[GV]at a;injection a with a;injection a with c e;subst c;injection b with b;subst b;rw[RO]at d;cases d
 |2,a=>rw[GW]at a;injection a with a;injection a with c e;subst c;injection b with b;subst b;rw[RP]at d;cases d
 |3,a=>rw[AL]at a;injection a with a;injection a with c e;subst c;cases b
 |n+4,a=>rw[GX]at a;cases a
theorem RQ:qe.map (fun s=>Value.bool (kX fO s))=[.bool false,.bool true,.bool true]:=aA
def fP:Tr:=.mk [97] [] [] [.mk [98] [] [([107],[])] []]
theorem RR:kL fP=0:=aA
theorem RS:gW fO [[98]]:=by obtain⟨a,_⟩:=gi rC;exact(Eu a ap _).1 aA
theorem RT:jo cM 0 fP:=by
 rw[yu (x:=ja) rfl];have a:ix cM ja [98]=some 1:=by unfold ix;rw[GR];kernel_rfl
 refine⟨rfl,rfl,?_⟩;rw[au ap];refine⟨?_,by simp[dW,ja],?_⟩
 ·rw[vp]
  intro k b;simp only[fP,Tr.kids,du,qk,ql]at b;subst b;refine⟨1,a,?_⟩;rw[yu (x:=kG) rfl];exact⟨rfl,rfl,by rw[ay (show kG.text=true from rfl)];exact .inl rfl⟩
 ·have:jL cM ja fP.kids=[[98]]:=by
   simp only[jL,fP,Tr.kids,gd,ul,Tr.label];rw[a];rfl
  rw[this];exact RS
theorem RU{i:Nat}{c:List Bool}(a:c=gT (lS cM) i (List.replicate cM.length false))(b:lS cM c=c):c=[true,true]:=by
 have f:List.replicate cM.length false=[false,false]:=rfl;have d:lS cM [false,false]=[false,true]:=aA;have e:lS cM [false,true]=[true,true]:=aA;have g:lS cM [true,true]=[true,true]:=aA;have h:∀n,gT (lS cM) (n+2) [false,false]=[true,true]:=fun n=>by
  induction n with
  |zero=>simp only[gT,d,e]
  |succ n ih=>rw[gT,ih,g]
 rw[f]at a;match i,a with
 |0,a=>simp only[gT]at a;subst a;rw[d]at b;cases b
 |1,a=>simp only[gT,d]at a;subst a;rw[e]at b;cases b
 |n+2,a=>rw[h]at a;exact a
theorem RV{i:Nat}{c:List Nat}(a:c=gT (lW cM) i (List.replicate cM.length 4097))(b:lW cM c=c):c=[2,1]:=by
 have f:List.replicate cM.length 4097=[4097,4097]:=rfl;have d:lW cM [4097,4097]=[4097,1]:=aA;have e:lW cM [4097,1]=[2,1]:=aA;have g:lW cM [2,1]=[2,1]:=aA;have h:∀n,gT (lW cM) (n+2) [4097,4097]=[2,1]:=fun n=>by
  induction n with
  |zero=>simp only[gT,d,e]
  |succ n ih=>rw[gT,ih,g]
 rw[f]at a;match i,a with
 |0,a=>simp only[gT]at a;subst a;rw[d]at b;cases b
 |1,a=>simp only[gT,d]at a;subst a;rw[e]at b;cases b
 |n+2,a=>rw[h]at a;exact a
end Go.Proofs.YtnadadbndcdolaaGreatDoor
