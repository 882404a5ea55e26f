import Derived.Test.YtnadadbndcdolaaGreatDoorQbl
set_option linter.unusedVariables false
set_option linter.unusedSimpArgs false
set_option maxRecDepth 100000
set_option maxHeartbeats 0
namespace Go.Proofs.YtnadadbndcdolaaGreatDoor
open Go.RowKit Tryz
def rx(ts:List aw)(nd:List Nat)(ss:List Nat)(n:aj):Nat:=
 if n.op=0 then 4097
 else if n.op=2 then nd.getD (cI ts n.sym) 0
 else if n.op=3 then min (ss.getD n.a.toNat 0+ss.getD n.b.toNat 0) 4097
 else if n.op=4 then min (ss.getD n.a.toNat 0) (ss.getD n.b.toNat 0)
 else 0
def sumsU(ts:List aw)(nd:List Nat)(l:List aj):List Nat:=l.foldl (fun ss n=>ss++[rx ts nd ss n]) []
def mO(ts:List aw)(nd:List Nat)(t:aw):Nat:=if t.text then 0 else(sumsU ts nd t.nodes).getD (t.nodes.length-1) 0
theorem Rw(ts:List aw)(nd:List Nat){l:List aj}{k:Nat}{n:aj}(a:l[k]?=some n):sumsU ts nd (l.take (k+1))=sumsU ts nd (l.take k)++[rx ts nd (sumsU ts nd (l.take k)) n]:=by rw[bV,a];simp[sumsU]
theorem GH(ts:List aw)(nd:List Nat)(l:List aj):(sumsU ts nd l).length=l.length:=by
 have:∀(l:List aj) (a:List Nat),(l.foldl (fun a n=>a++[rx ts nd a n]) a).length=a.length+l.length:=by
  intro l;induction l with
  |nil=>intro a;rfl
  |cons n l ih=>intro a;rw[nT,ih];simp;omega
 rw[sumsU,this];simp
theorem Rx(ts:List aw){nd ss:List Nat}(d:∀a∈nd,a<=4097)(k:∀a∈ss,a<=4097)(n:aj):rx ts nd ss n<=4097:=by
 have b:∀{L:List Nat} (i:Nat),(∀a∈L,a<=4097)->L.getD i 0<=4097:=fun{L} i e=>by
  rw[fp];cases c:L[i]? with
  |none=>simp
  |some a=>exact e a (aX c)
 unfold rx;split
 ·omega
 ·split
  ·exact b _ d
  ·split
   ·omega
   ·split
    ·have:=b n.a.toNat k;omega
    ·omega
theorem GI(ts:List aw){nd:List Nat}(e:∀a∈nd,a<=4097)(l:List aj):∀a∈sumsU ts nd l,a<=4097:=by
 have:∀(l:List aj) (b:List Nat),(∀a∈b,a<=4097)->∀a∈l.foldl (fun b n=>b++[rx ts nd b n]) b,a<=4097:=by
  intro l;induction l with
  |nil=>intro b d;exact d
  |cons n l ih=>
   intro b d;rw[nT];refine ih _ (fun a f=> ?_);rcases fA.1 f with c|c
   ·exact d a c
   ·simp at c;subst c;exact Rx ts e d n
 exact this l [] ak
def nV(a:Nat):Value:=.int .i64 (a:Nat)
def jC(w:World)(F n:Nat)(ss:List Nat):Prop:=ss.length<=n/\w.heap[F]?=some (.cells ((ss++List.replicate (n-ss.length) 0).map nV).toArray 3)
section
variable{w w':World} {F n k:Nat} {ss:List Nat}
theorem Ry(a:w.heap[F]?=some (.cells (madeCells #[.int .i64 0] n) 3)):jC w F n []:=by
 refine⟨aZ _,a.trans ?_⟩;congr 2
 apply mU;rw[toList_madeCells_one];simp[nV]
theorem jC.at(a:jC w F n ss)(d:k<n):w.cell? ⟨F,k,none⟩=some (.int .i64 (ss.getD k 0:Nat)):=by
 have c:=a.1;rw[ai _ a.2,gU,bW,fp];by_cases b:k<ss.length
 ·rw[eP b,aH b];rfl
 ·rw[fZ ad,oZ (l:=ss) ad,Ig,ay ad];rfl
theorem jC.free(a:jC w F n ss)(j:Nat):w.frozen? ⟨F,j,none⟩=false:=aT a.2 j
theorem jC.skip(a:jC w F n ss)(b:ss.length<n):jC w F n (ss++[0]):=by refine⟨aR,a.2.trans ?_⟩;rw[show n-ss.length=(n-(ss++[0]).length)+1 by simp;omega,Ca];simp
theorem jC.put(c:jC w F n ss)(e:ss.length<n)(d:k=ss.length)(a:Nat):jC (w.setCell ⟨F,k,none⟩ (.int .i64 (a:Nat))) F n (ss++[a]):=by
 subst d;refine⟨aR,(bn _ _ _ _ c.2).trans ?_⟩;congr 2
 apply mU;rw[BO];have b:ss++[a]++List.replicate (n-(ss++[a]).length) 0=(ss++List.replicate (n-ss.length) 0).set ss.length a:=by rw[show n-ss.length=(n-(ss++[a]).length)+1 by simp;omega,Ca,List.set_append_right _ _ (az _)];simp
 rw[b,qh];rfl
theorem jC.below(a:jC w F n ss)(b:Below w.heap.size w w'):jC w' F n ss:=⟨a.1,(b.block _ (ax a.2)).trans a.2⟩
end
def ry(w:World)(o:Option Addr)(cap:Nat)(l:List Nat):Prop:=dp w o l.length cap 1 (l.map nV)
structure lV(ts:List aw)(nd:List Nat)(x:am)(F:Nat)(w:World)(k:Nat)(wr:World):Prop where
 base:Below w.heap.size w wr
 size:w.heap.size<=F
 box:wr.heap[w.heap.size]?=some (.cells (typeRow x).toArray 53)
 sums:jC wr F x.t.nodes.length (sumsU ts nd (x.t.nodes.take k))
 ne:F≠w.heap.size
section
variable{ts:List aw} {nd:List Nat} {x:am} {F:Nat} {w:World} {k:Nat} {wr wz:World}
theorem lV.below(a:lV ts nd x F w k wr)(b:Below wr.heap.size wr wz):lV ts nd x F w k wz:=⟨aO a.base b,a.size,(b.block _ (ax a.box)).trans a.box,a.sums.below b,a.ne⟩
theorem lV.put(b:lV ts nd x F w k wr)(e:k<x.t.nodes.length)(a:Nat)(c:sumsU ts nd (x.t.nodes.take (k+1))=sumsU ts nd (x.t.nodes.take k)++[a]):lV ts nd x F w (k+1) (wr.setCell ⟨F,k,none⟩ (.int .i64 (a:Nat))):=by
 have d:(sumsU ts nd (x.t.nodes.take k)).length=k:=by rw[GH,fm];omega
 exact⟨b.base.setCell b.size _,b.size,(aS _ _ _ _ _ b.ne.symm).trans b.box,by rw[c];exact b.sums.put ad d.symm a,b.ne⟩
theorem lV.skip(a:lV ts nd x F w k wr)(c:k<x.t.nodes.length)(b:sumsU ts nd (x.t.nodes.take (k+1))=sumsU ts nd (x.t.nodes.take k)++[0]):lV ts nd x F w (k+1) wr:=by
 have d:(sumsU ts nd (x.t.nodes.take k)).length=k:=by rw[GH,fm];omega
 exact⟨a.base,a.size,a.box,by rw[b];exact a.sums.skip ad,a.ne⟩
end
def qd(ts:List aw)(nd:List Nat)(x:am)(F:Nat)(w:World)(a:Value)(wr:World):Prop:=∃k:Nat,a=.int .i64 (k:Nat)/\k<=x.t.nodes.length/\lV ts nd x F w k wr
theorem GJ:(prog.info? 3).map (fun i=>(i.zero,i.size,i.bytes))=some (some (.int .i64 0),1,8):=aA
theorem AG{L:List Nat}{b:Nat}(d:∀a∈L,a<=b)(i:Nat):L.getD i 0<=b:=by
 rw[fp];cases c:L[i]? with
 |none=>simp
 |some a=>exact d a (aX c)
theorem Rz(l:List am)(o:Option Addr)(cap:Nat)(al:World)(c9:bR al o cap l)(b0:dI l)(b3:bT (l.map am.t)=0)(cx:Nat->Prop)(a3 bC c5 c6:Nat)(x:am)(t:x∈l)(d:List Nat)(W:x.t.text=false->bG x.t.nodes=0/\x.t.nodes.length<=60)(ci:∀a∈d,a<=4097)
 (co:Option Addr) (Y:Nat) (cd:d.length=l.length) (w:World) (L:cT al cx w a3 bC c5 c6 o cap l) (A:ry w co Y d):
 Calls prog 128 #[.pointer (some ⟨a3,0,none⟩),dT x,.slice co d.length Y] w fun v w'=>v=.returned (.int .i64 (mO (l.map am.t) d x.t:Nat))/\Below w.heap.size w w':=by
 obtain⟨K,O,bE,S⟩:=cm w (.cells (typeRow x).toArray 53);have bl:K.heap.size=w.heap.size+1:=by rw[O];simp
 have bZ:=ai 4 S;have a4:=ai 5 S;have ch:∀n∈x.t.nodes,n.sym.length<=1048576:=fun n aa=>b0.sym x t n aa;have a7:=fun e (b4:Below al.heap.size al e)=>((c9.below b4).2 x t).2;have J:∀n∈x.t.nodes,n.op=2->bG x.t.nodes=0->cI (l.map am.t) n.sym<d.length:=fun n aa a5 eb=>by rw[cd,<-cf (f:=am.t)];exact Gs b3 (l9 t) ((wU eb).2 ⟨n,aa,a5,rfl⟩)
 have bb:=a7 _ L.base;obtain⟨ts,aq⟩:=ar (l.map am.t);rw[<-aq]at J⊢;have b1:eF w bC ts:=by rw[aq];exact L.places
 have eB:=ah aq;clear aq;obtain⟨bw,cF,bB,bA,c0,c1,bD,bt,c8,bu⟩:=ju L A ch J a7 b1 S bE bl W;have bd:=ai 1 L.blk;have dr:=ax L.blk;have cN:=ah bd;have cl:=bb.2.1;have ek:=bb.2.2.1;unfold maxLen at ek;clear L A ch J a7 b1 S bE bl W bd bb b0 b3 t cd;obtain⟨⟨name,label,attrs,key,text,nodes⟩,C,B,no,y⟩:=x;simp only[typeRow]at O bZ a4 bu bB bA cl;simp at bZ a4;unfold dT typeRow;simp only;cases text with
 |true=>
  go_enter func128,ntmps128
  go_wp2_with(first|(rw[<-O];clear O)|fail)
  go_ret;exact⟨rfl,bt.out⟩
 |false=>
  obtain⟨W,aa⟩:=bu.o rfl;obtain⟨n,ab⟩:=ar (nodes.length);obtain⟨es,ca,cs,cu,cv⟩:=cY GJ;obtain⟨M,a6⟩:=ar (madeCells #[.int .i64 0] n);rw[<-ab]at a4 aa cl;have e4:∀e,(Instr.makeSlice 125 (.int .i64 (n:Int)) (.int .i64 (n:Int))).run prog e=.ok (.slice (some ⟨e.heap.size,0,none⟩) n n) (e.alloc (.cells M 3)):=fun e=>by have:=uG (P:=prog) e 125 3 es (.int .i64 0) mR ca cs .i64 .i64 n n ad ad (by rw[cv];omega) ad;simp only[ph,cu,AQ]at this;rw[this,a6];rfl
  obtain⟨bq,av⟩:=ar (K.alloc (.cells M 3));have bc:lV ts d ⟨⟨name,label,attrs,key,false,nodes⟩,C,B,no,y⟩ K.heap.size w 0 bq:=by
   have bF:Below K.heap.size K bq:=by rw[av];exact aG
   have bl:=c8.out;refine⟨aO bt.out bF,ad,(bF.block _ (ax bD.out)).trans bD.out,?_,ad⟩;refine Ry ?_;simp only;rw[<-ab,<-a6,av];exact aB K _
  have bz:=ah bc;have d5:bq.cell? ⟨w.heap.size,5,none⟩=some (.slice no n y):=by rw[ab];exact ai 5 bc.box
  obtain⟨u,a1,c4⟩:=bH ab W ci;clear bc ab W a6 ca cs cu cv ci;go_enter func128,ntmps128
  go_wp2_with(first|(rw[<-O];clear O)|(rw[<-av];clear av)|fail)
  generalize K.heap.size=F at*;go_loopw [21] (qd ts d ⟨⟨name,label,attrs,key,false,nodes⟩,C,B,no,y⟩ F w) (fun ev _=>n-(intOf ev).toNat)
  case atStart=>exact⟨0,rfl,aZ _,bz.o⟩
  case round=>
  clear bz d5;obtain⟨k,rfl,cb,N⟩:=hrel;simp only at cb;rw[<-u.o]at cb;have cc:(k:Int)<n∨¬((k:Int)<n):=ad;by_cases J:k<n
  ·have e0:(0:Int)<=k:=ad
   have e1:(k:Int)<n:=ad;clear cc;obtain⟨Q,t⟩:∃Q,nodes[k]?=some Q:=⟨_,aH (by rw[<-u.o];exact J)⟩;have ba:=aX t;have ds:=c0.o wr (bw.o.base.trans (N.base.mono bw.o.base.size));obtain⟨b,R,rfl,eE,ex,S,ez,eA⟩:=cO.at ds t;have s:=iM nodes 0 k Q (gi a1.o).1.ok t;rw[cD]at s;have b6:=Rw ts d t;have cq:=bB.o Q ba;have a9:=fun a5=>bA.o Q ba a5 a1.o;obtain⟨ew,sym,ae,af⟩:=Q;simp only at ex S ez eA cq a9;obtain⟨e,r,bN,T⟩:=cm wr (.cells #[.int .i64 ew,.string ⟨sym.toArray⟩,.int .i64 ae,.int .i64 af] 102);have e7:=ai 0 T;have e8:=ai 1 T;have e9:=ai 2 T;have fb:=ai 3 T;have X:=N.below bN;have bo:=X.sums.at (k:=k) (by simp only;rw[<-u.o];exact J);have eD:=X.sums.free k;obtain⟨G,H,a2,c3⟩:=cr X b6 s a9;have i:Hid (k<nodes.length):=ah (by rw[<-u.o];exact J);obtain⟨I,Z⟩:=ar (sumsU ts d (nodes.take k));have ag:Hid (∀j:Nat,j<n->e.cell? ⟨F,j,none⟩=some (.int .i64 (I.getD j 0:Nat))/\I.getD j 0<=4097):=ah (fun j ec=>⟨by rw[Z];exact X.sums.at (by simp only;rw[<-u.o];exact ec),by rw[Z];exact AG (GI ts c4.o _) j⟩);simp only at bo;rw[<-Z]at bo H;have z:=ah Z;obtain⟨e6,cp⟩:=ar (I.getD k 0);rw[<-cp]at bo;clear t ba b6 s a9 X N T bN Z cp;rcases vg a2.o with v|v|v|v|v|v
   all_goals
    simp only at v;subst v
   case inl=>
    have h:Hid (qd ts d ⟨⟨name,label,attrs,key,false,nodes⟩,C,B,some ⟨b,R,none⟩,y⟩ F w (.int .i64 ((k:Int)+1)) (e.setCell ⟨F,k,none⟩ (.int .i64 4097))):=ah ⟨k+1,aV,i.o,G.o.put i.o 4097 (by have:=H.o;rw[this,z.o];rfl)⟩;go_wp2_with(first|(rw[<-r];clear r)|fail)
    go_roundw
    case rel=>exact h.o
    case measure=>exact bh
   case inr.inl=>
    have h:Hid (qd ts d ⟨⟨name,label,attrs,key,false,nodes⟩,C,B,some ⟨b,R,none⟩,y⟩ F w (.int .i64 ((k:Int)+1)) e):=ah ⟨k+1,aV,i.o,G.o.skip i.o (by have:=H.o;rw[this,z.o];rfl)⟩;go_wp2_with(first|(rw[<-r];clear r)|fail)
    go_roundw
    case rel=>exact h.o
    case measure=>exact bh
   case inr.inr.inr.inr.inr=>
    have h:Hid (qd ts d ⟨⟨name,label,attrs,key,false,nodes⟩,C,B,some ⟨b,R,none⟩,y⟩ F w (.int .i64 ((k:Int)+1)) e):=ah ⟨k+1,aV,i.o,G.o.skip i.o (by have:=H.o;rw[this,z.o];rfl)⟩;go_wp2_with(first|(rw[<-r];clear r)|fail)
    go_roundw
    case rel=>exact h.o
    case measure=>exact bh
   case inr.inr.inl=>
    have Y:=c3.o rfl;obtain⟨c,ao⟩:=ar (cI ts sym);rw[<-ao]at Y;have a0:Below w.heap.size w e:=G.o.base;have b2:=c1.o.kept (bJ a0 none) ak;have ed:=tS (b2.kept (bJ (aE _ e).drew none) ak) cq;rw[<-ao]at ed;have bd:=(a0.cell (p:=⟨a3,1,none⟩) dr).trans cN.o;have an:=dp.below cF.o a0;obtain⟨b4,eN,rfl,eZ,b7⟩:=an.2.2.2 ad;have b8:=b7 c (nV (d.getD c 0)) (by rw[bW,fp,aH Y];rfl);unfold nV at b8;have ea:=an.2.1;have b5:=an.2.2.1;unfold maxLen at b5;have eU:(0:Int)<=c:=ad;have eV:(c:Int)<d.length:=ad;have g:=G.o.put i.o (d.getD c 0) (by have:=H.o;rw[this,z.o,ao];rfl);have h:Hid (qd ts d ⟨⟨name,label,attrs,key,false,nodes⟩,C,B,some ⟨b,R,none⟩,y⟩ F w (.int .i64 ((k:Int)+1)) (e.setCell ⟨F,k,none⟩ (.int .i64 (d.getD c 0:Nat))).drew):=ah ⟨k+1,aV,i.o,g.below (aE _ _).drew⟩;clear g;obtain⟨e5,b9⟩:=ar (d.getD c 0);rw[<-b9]at h b8;clear b9 b7 an ea b5 b2 a0 ao;go_wp2_with(first|(rw[<-r];clear r)|fail)
    go_region
    go_wp2_with fail
    exact⟨h.o,by simp[intOf];omega⟩
   case inr.inr.inr.inl=>
    have s:=a2.o;simp only[dO,dy]at s;simp at s;obtain⟨⟨-,be,bf⟩,bg,bi⟩:=s;obtain⟨p,rfl⟩:∃p:Nat,ae=p:=⟨ae.toNat,ad⟩;obtain⟨q,rfl⟩:∃q:Nat,af=q:=⟨af.toNat,ad⟩;have em:(0:Int)<=p:=ad;have en:(p:Int)<n:=ad;have eo:(0:Int)<=q:=ad;have er:(q:Int)<n:=ad;obtain⟨u0,u1⟩:=ag.o p ad;obtain⟨t0,t1⟩:=ag.o q ad;have g:=G.o.put i.o (min (((sumsU ts d (nodes.take k)).getD p 0)+((sumsU ts d (nodes.take k)).getD q 0)) 4097) (by have:=H.o;rw[this,z.o];rfl);rw[<-z.o]at g;obtain⟨D,V⟩:∃a,a=I.getD p 0:=⟨_,rfl⟩;obtain⟨E,A⟩:∃a,a=I.getD q 0:=⟨_,rfl⟩;rw[<-V]at u0 u1 g;rw[<-A]at t0 t1 g;have eg:min ((D:Int)+(E:Int)) 4097=((min (D+E) 4097:Nat):Int):=ad;have h:Hid (qd ts d ⟨⟨name,label,attrs,key,false,nodes⟩,C,B,some ⟨b,R,none⟩,y⟩ F w (.int .i64 ((k:Int)+1)) (e.setCell ⟨F,k,none⟩ (.int .i64 (min (D+E) 4097:Nat))).drew):=ah ⟨k+1,aV,i.o,g.below (aE _ _).drew⟩;clear g V A be bf bg bi;go_wp2_with(first|(rw[<-r];clear r)|fail)
    go_region
    go_wp2_with fail
    exact⟨h.o,by simp[intOf];omega⟩
   case inr.inr.inr.inr.inl=>
    have s:=a2.o;simp only[dO,dy]at s;simp at s;obtain⟨⟨-,be,bf⟩,bg,bi⟩:=s;obtain⟨p,rfl⟩:∃p:Nat,ae=p:=⟨ae.toNat,ad⟩;obtain⟨q,rfl⟩:∃q:Nat,af=q:=⟨af.toNat,ad⟩;have em:(0:Int)<=p:=ad;have en:(p:Int)<n:=ad;have eo:(0:Int)<=q:=ad;have er:(q:Int)<n:=ad;obtain⟨u0,u1⟩:=ag.o p ad;obtain⟨t0,t1⟩:=ag.o q ad;have g:=G.o.put i.o (min ((sumsU ts d (nodes.take k)).getD p 0) ((sumsU ts d (nodes.take k)).getD q 0)) (by have:=H.o;rw[this,z.o];rfl);rw[<-z.o]at g;obtain⟨D,V⟩:∃a,a=I.getD p 0:=⟨_,rfl⟩;obtain⟨E,A⟩:∃a,a=I.getD q 0:=⟨_,rfl⟩;rw[<-V]at u0 u1 g;rw[<-A]at t0 t1 g;have eg:min (D:Int) (E:Int)=((min D E:Nat):Int):=ad;have h:Hid (qd ts d ⟨⟨name,label,attrs,key,false,nodes⟩,C,B,some ⟨b,R,none⟩,y⟩ F w (.int .i64 ((k:Int)+1)) (e.setCell ⟨F,k,none⟩ (.int .i64 (min D E:Nat))).drew):=ah ⟨k+1,aV,i.o,g.below (aE _ _).drew⟩;clear g V A be bf bg bi;go_wp2_with(first|(rw[<-r];clear r)|fail)
    go_region
    go_wp2_with fail
    exact⟨h.o,by simp[intOf];omega⟩
  ·obtain rfl:k=n:=ad
   have el:=(gi a1.o).2;obtain⟨m,ce⟩:∃m,k=m+1:=⟨k-1,by have:=u.o;omega⟩;have eC:(k:Int)-1=(m:Nat):=ad;have e2:(0:Int)<=m:=ad;have e3:(m:Int)<k:=ad;have u0:=N.sums.at (k:=m) (by simp only;rw[<-u.o];omega);simp only at u0;rw[dh (by rw[<-u.o];exact az _)]at u0;obtain⟨c7,a8⟩:=ar ((sumsU ts d nodes).getD m 0);rw[<-a8]at u0;have c2:Hid (mO ts d ⟨name,label,attrs,key,false,nodes⟩=c7):=ah (by rw[a8];unfold mO;simp only[j8,jl];rw[<-u.o,ce];rfl);have cG:Hid (Below w.heap.size w wr):=ah N.base;clear a8 ce N cc el
   go_wp2
   go_ret;rw[c2.o];exact⟨rfl,cG.o⟩
theorem GK(w:World)(b o e g:Nat)(a:Addr)(f h v u:Nat)(q:min f e=1)(l:w.cell? a=some (.int .i64 (v:Nat)))(n:w.cell? ⟨b,o,none⟩=some (.int .i64 (u:Nat)))(p:w.frozen? ⟨b,o,none⟩=false):
 (Builtin.copy_ #[125,125] 3 #[.slice (some ⟨b,o,none⟩) e g,.slice (some a) f h]).run prog w=.ok (.int .i64 1) (w.setCell ⟨b,o,none⟩ (.int .i64 (v:Nat))):=by
 have m:a.add 0=a:=by cases a;simp[Addr.add]
 have:=run_copy_cells (P:=prog) w 125 125 3 3 b o e g a f h [.int .i64 (v:Nat)] mR aA (by simpa using q.symm)
  (fun j x c=>by
    have d:j=0:=by have:=(aL.1 c).1;simp at this;omega
    subst d;rw[m];simp at c;rw[<-c];exact l)
  (fun j c=>by
    have d:j=0:=by simp at c;omega
    subst d;rw[jX,n];rfl)
  (fun j c=>by
    have d:j=0:=by simp at c;omega
    subst d;exact p) (fun x i=>by simp at i;subst i;rfl)
 rw[this];rfl
def RA(v:Nat)(w a:World)(nv:Value)(wr:World):Prop:=(nv=.int .i64 1/\wr=a)∨(nv=.int .i64 2/\wr.heap[w.heap.size]?=some (.cells #[.int .i64 (v:Nat),.int .i64 (v:Nat)] 3)/\Below w.heap.size w wr)
theorem RC(g c v:Nat)(w:World)(I:w.cell? ⟨g,0,none⟩=some (.int .i64 (v:Nat)))(N:1<=c)(O:c<=1048576)(H:g<w.heap.size):
 Calls prog 127 #[.slice (some ⟨g,0,none⟩) 1 c,.int .i64 2] w fun l w'=>l=.returned (.slice (some ⟨w.heap.size,0,none⟩) 2 2)/\w'.heap[w.heap.size]?=some (.cells #[.int .i64 (v:Nat),.int .i64 (v:Nat)] 3)/\Below w.heap.size w w':=by
 have n:=fun b=>bits_Mul 1 2 ap ap b;have D:=ah n;clear n;obtain⟨J,m,q,r,s⟩:=cY GJ;have S:∀b,(Instr.makeSlice 125 (.int .i64 2) (.int .i64 2)).run prog b=.ok (.slice (some ⟨b.heap.size,0,none⟩) 2 2) (b.alloc (.cells #[.int .i64 0,.int .i64 0] 3)):=fun b=>by
  have:=uG (P:=prog) b 125 3 J (.int .i64 0) mR m q .i64 .i64 2 2 ad ad (by rw[s];omega) ad;rw[r]at this;rw[this];show Result.ok (Value.slice (some ⟨b.heap.size,0,none⟩) 2 2) (b.alloc (.cells (madeCells #[.int .i64 0] 2) 3))=_
  rw[show madeCells #[Value.int .i64 0] 2=#[.int .i64 0,.int .i64 0]from aA]
 obtain⟨t,o,i,d⟩:=cm w (.cells #[.int .i64 0,.int .i64 0] 3);have u:=(i.cell (p:=⟨g,0,none⟩) H).trans I;have x:=ai 0 d;have K:=ai 1 d;have f0:=aT d 0;have f1:=aT d 1;obtain⟨y,A⟩:=aD i d;have R:g≠w.heap.size:=ad;clear m q r s i d;go_enter func127,ntmps127
 go_wp2_with fail
 refine(D.o _).mono ?_;rintro l a ⟨rfl,f⟩;rw[f];clear f a;have F:=GK t w.heap.size 0 2 2 ⟨g,0,none⟩ 1 c v 0 ap u x f0;obtain⟨a,h⟩:=ar (t.setCell ⟨w.heap.size,0,none⟩ (.int .i64 (v:Nat)));rw[<-h]at F;have e:a.heap[w.heap.size]?=some (.cells #[.int .i64 (v:Nat),.int .i64 0] 3):=by rw[h];exact bn _ _ 0 _ A.out
 have j:Below w.heap.size w a:=by rw[h];exact y.out.setCell (az _) _
 have L:=ai 0 e;have M:=ai 1 e;have Q:=GK a.drew w.heap.size 1 1 1 ⟨w.heap.size,0,none⟩ 1 2 v 0 ap L M (aT e 1);obtain⟨z,B⟩:=aD j e;clear h e j u x K f0 f1;go_wp2_with(first|(rw[<-o];clear o)|fail)
 go_loopw [8] (RA v w a) (fun nv _=>2-(intOf nv).toNat)
 case atStart=>exact .inl ⟨rfl,rfl⟩
 case round=>
 rcases hrel with⟨rfl,f⟩|⟨rfl,G,E⟩
 ·rw[f]
  clear f wr;go_wp2_with fail
  go_region
  have C:Hid ((a.setCell ⟨w.heap.size,1,none⟩ (.int .i64 (v:Nat))).drew.heap[w.heap.size]?=some (.cells #[.int .i64 (v:Nat),.int .i64 (v:Nat)] 3)/\Below w.heap.size w (a.setCell ⟨w.heap.size,1,none⟩ (.int .i64 (v:Nat))).drew):=ah ⟨bn a _ 1 _ B.out,(z.out.setCell (az _) _).drew⟩;go_wp2_with fail
  exact⟨.inr ⟨rfl,C.o⟩,by simp[intOf]⟩
 ·go_wp2_with fail
  go_ret;exact⟨rfl,G,E⟩
end Go.Proofs.YtnadadbndcdolaaGreatDoor
