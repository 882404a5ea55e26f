import Derived.Test.YtbacloblanpghaaGreatDoorQbs
set_option linter.unusedVariables false
set_option linter.unusedSimpArgs false
set_option maxRecDepth 100000
set_option maxHeartbeats 0
namespace Go.Proofs.YtbacloblanpghaaGreatDoor
open Go.RowKit Tryz
def qB(ts:List ax)(nd:List Nat)(ss:List Nat)(n:ar):Nat:=
 if n.op=0 then 4097
 else if n.op=2 then nd.getD (dl ts n.sym) 0
 else if n.op=3 then min (ss.getD n.a.toNat 0+ss.getD n.b.toNat 0) 4097
 else if n.op=4 then min (ss.getD n.a.toNat 0) (ss.getD n.b.toNat 0)
 else 0
def sumsU(ts:List ax)(nd:List Nat)(l:List ar):List Nat:=l.foldl (fun ss n=>ss++[qB ts nd ss n]) []
def lZ(ts:List ax)(nd:List Nat)(t:ax):Nat:=if t.text then 0 else(sumsU ts nd t.nodes).getD (t.nodes.length-1) 0
theorem OR(ts:List ax)(nd:List Nat){l:List ar}{k:Nat}{n:ar}(a:l[k]?=some n):sumsU ts nd (l.take (k+1))=sumsU ts nd (l.take k)++[qB ts nd (sumsU ts nd (l.take k)) n]:=by rw[bG,a];simp[sumsU]
theorem Ek(ts:List ax)(nd:List Nat)(l:List ar):(sumsU ts nd l).length=l.length:=by
 have:∀(l:List ar) (a:List Nat),(l.foldl (fun a n=>a++[qB ts nd a n]) a).length=a.length+l.length:=by
  intro l;induction l with
  |nil=>intro a;rfl
  |cons n l ih=>intro a;rw[qN,ih];simp;omega
 rw[sumsU,this];simp
theorem OS(ts:List ax){nd ss:List Nat}(d:∀a∈nd,a<=4097)(k:∀a∈ss,a<=4097)(n:ar):qB ts nd ss n<=4097:=by
 have b:∀{L:List Nat} (i:Nat),(∀a∈L,a<=4097)->L.getD i 0<=4097:=fun{L} i e=>by
  rw[fJ];cases c:L[i]? with
  |none=>simp
  |some a=>exact e a (aU c)
 unfold qB;split
 ·omega
 ·split
  ·exact b _ d
  ·split
   ·omega
   ·split
    ·have:=b n.a.toNat k;omega
    ·omega
theorem El(ts:List ax){nd:List Nat}(e:∀a∈nd,a<=4097)(l:List ar):∀a∈sumsU ts nd l,a<=4097:=by
 have:∀(l:List ar) (b:List Nat),(∀a∈b,a<=4097)->∀a∈l.foldl (fun b n=>b++[qB ts nd b n]) b,a<=4097:=by
  intro l;induction l with
  |nil=>intro b d;exact d
  |cons n l ih=>
   intro b d;rw[qN];refine ih _ (fun a f=> ?_);rcases fe.1 f with c|c
   ·exact d a c
   ·simp at c;subst c;exact OS ts e d n
 exact this l [] ak
def nV(a:Nat):Value:=.int .i64 (a:Nat)
def iU(w:World)(F n:Nat)(ss:List Nat):Prop:=ss.length<=n/\w.heap[F]?=some (.cells ((ss++List.replicate (n-ss.length) 0).map nV).toArray 3)
section
variable{w w':World} {F n k:Nat} {ss:List Nat}
theorem OT(a:w.heap[F]?=some (.cells (madeCells #[.int .i64 0] n) 3)):iU w F n []:=by
 refine⟨aK _,a.trans ?_⟩;congr 2
 apply l9;rw[toList_madeCells_one];simp[nV]
theorem iU.at(a:iU w F n ss)(d:k<n):w.cell? ⟨F,k,none⟩=some (.int .i64 (ss.getD k 0:Nat)):=by
 have c:=a.1;rw[ai _ a.2,ig,cb,fJ];by_cases b:k<ss.length
 ·rw[eF b,aF b];rfl
 ·rw[gH ad,mV (l:=ss) ad,ze,au ad];rfl
theorem iU.free(a:iU w F n ss)(j:Nat):w.frozen? ⟨F,j,none⟩=false:=aQ a.2 j
theorem iU.skip(a:iU w F n ss)(b:ss.length<n):iU w F n (ss++[0]):=by refine⟨aO,a.2.trans ?_⟩;rw[show n-ss.length=(n-(ss++[0]).length)+1 by simp;omega,Aa];simp
theorem iU.put(c:iU w F n ss)(e:ss.length<n)(d:k=ss.length)(a:Nat):iU (w.setCell ⟨F,k,none⟩ (.int .i64 (a:Nat))) F n (ss++[a]):=by
 subst d;refine⟨aO,(bL _ _ _ _ c.2).trans ?_⟩;congr 2
 apply l9;rw[zY];have b:ss++[a]++List.replicate (n-(ss++[a]).length) 0=(ss++List.replicate (n-ss.length) 0).set ss.length a:=by rw[show n-ss.length=(n-(ss++[a]).length)+1 by simp;omega,Aa,List.set_append_right _ _ (aB _)];simp
 rw[b,zc];rfl
theorem iU.below(a:iU w F n ss)(b:Below w.heap.size w w'):iU w' F n ss:=⟨a.1,(b.block _ (aL a.2)).trans a.2⟩
end
def qC(w:World)(o:Option Addr)(cap:Nat)(l:List Nat):Prop:=cS w o l.length cap 1 (l.map nV)
structure lh(ts:List ax)(nd:List Nat)(x:am)(F:Nat)(w:World)(k:Nat)(wr:World):Prop where
 base:Below w.heap.size w wr
 size:w.heap.size<=F
 box:wr.heap[w.heap.size]?=some (.cells (typeRow x).toArray 68)
 sums:iU wr F x.t.nodes.length (sumsU ts nd (x.t.nodes.take k))
 ne:F≠w.heap.size
section
variable{ts:List ax} {nd:List Nat} {x:am} {F:Nat} {w:World} {k:Nat} {wr wz:World}
theorem lh.below(a:lh ts nd x F w k wr)(b:Below wr.heap.size wr wz):lh ts nd x F w k wz:=⟨aD a.base b,a.size,(b.block _ (aL a.box)).trans a.box,a.sums.below b,a.ne⟩
theorem lh.put(b:lh ts nd x F w k wr)(e:k<x.t.nodes.length)(a:Nat)(c:sumsU ts nd (x.t.nodes.take (k+1))=sumsU ts nd (x.t.nodes.take k)++[a]):lh ts nd x F w (k+1) (wr.setCell ⟨F,k,none⟩ (.int .i64 (a:Nat))):=by
 have d:(sumsU ts nd (x.t.nodes.take k)).length=k:=by rw[Ek,dx];omega
 exact⟨b.base.setCell b.size _,b.size,(aX _ _ _ _ _ b.ne.symm).trans b.box,by rw[c];exact b.sums.put ad d.symm a,b.ne⟩
theorem lh.skip(a:lh ts nd x F w k wr)(c:k<x.t.nodes.length)(b:sumsU ts nd (x.t.nodes.take (k+1))=sumsU ts nd (x.t.nodes.take k)++[0]):lh ts nd x F w (k+1) wr:=by
 have d:(sumsU ts nd (x.t.nodes.take k)).length=k:=by rw[Ek,dx];omega
 exact⟨a.base,a.size,a.box,by rw[b];exact a.sums.skip ad,a.ne⟩
end
def pz(ts:List ax)(nd:List Nat)(x:am)(F:Nat)(w:World)(a:Value)(wr:World):Prop:=∃k:Nat,a=.int .i64 (k:Nat)/\k<=x.t.nodes.length/\lh ts nd x F w k wr
theorem Em:(prog.info? 3).map (fun i=>(i.zero,i.size,i.bytes))=some (some (.int .i64 0),1,8):=ay
theorem yP{L:List Nat}{b:Nat}(d:∀a∈L,a<=b)(i:Nat):L.getD i 0<=b:=by
 rw[fJ];cases c:L[i]? with
 |none=>simp
 |some a=>exact d a (aU c)
theorem OU(l:List am)(o:Option Addr)(cap:Nat)(ag:World)(d6:cn ag o cap l)(b4:ej l)(b7:bW (l.map am.t)=0)(c6:Nat->Prop)(a2 bF d1 d2:Nat)(x:am)(t:x∈l)(d:List Nat)(X:x.t.text=false->cw x.t.nodes=0/\x.t.nodes.length<=60)(cx:∀a∈d,a<=4097)
 (cN:Option Addr) (Z:Nat) (cq:d.length=l.length) (w:World) (L:eq ag c6 w a2 bF d1 d2 o cap l) (A:qC w cN Z d):
 Calls prog 72 #[.pointer (some ⟨a2,0,none⟩),dj x,.slice cN d.length Z] w fun v w'=>v=.returned (.int .i64 (lZ (l.map am.t) d x.t:Nat))/\Below w.heap.size w w':=by
 obtain⟨w1,B⟩:=aj (w.alloc (.cells (typeRow x).toArray 68));have b0:Below w.heap.size w w1:=by rw[B];exact az
 have T:w1.heap[w.heap.size]?=some (.cells (typeRow x).toArray 68):=by rw[B];exact aC w _
 have bl:w1.heap.size=w.heap.size+1:=by rw[B];simp
 have b3:=ai 4 T;have a3:=ai 5 T;have cu:∀n∈x.t.nodes,n.sym.length<=1048576:=fun n ab=>b4.sym x t n ab;have a6:=fun e (b8:Below ag.heap.size ag e)=>((d6.below b8).2 x t).2;have K:∀n∈x.t.nodes,n.op=2->cw x.t.nodes=0->dl (l.map am.t) n.sym<d.length:=fun n ab a4 eb=>by rw[cq,<-cd (f:=am.t)];exact Ei b7 (ki t) ((yH eb).2 ⟨n,ab,a4,rfl⟩)
 have bb:=a6 _ L.base;obtain⟨ts,ao⟩:=aj (l.map am.t);rw[<-ao]at K⊢;have b5:ei w bF ts:=by rw[ao];exact L.places
 have eZ:=ah ao;clear ao;obtain⟨bz,c7,bE,bB,dr,ds,bZ,bu,d4,bw⟩:=kB L A cu K a6 b5 T b0 bl X;have bd:=ai 1 L.blk;have d7:=aL L.blk;have c9:=ah bd;have cG:=bb.2.1;have el:=bb.2.2.1;unfold maxLen at el;clear L A cu K a6 b5 T b0 bl X bd bb b4 b7 t cq;obtain⟨⟨name,label,attrs,key,text,nodes⟩,D,C,no,y⟩:=x;simp only[typeRow]at B b3 a3 bw bE bB cG;simp at b3 a3;unfold dj typeRow;simp only;cases text with
 |true=>
  go_enter func72,ntmps72
  go_wp2_with(first|(rw[<-B];clear B)|fail)
  go_ret;exact⟨rfl,bu.out⟩
 |false=>
  obtain⟨X,ab⟩:=bw.o rfl;obtain⟨n,ae⟩:=aj (nodes.length);obtain⟨ez,cl,c2,c3,c4⟩:=cL Em;obtain⟨M,a5⟩:=aj (madeCells #[.int .i64 0] n);rw[<-ae]at a3 ab cG;have fc:∀e,(Instr.makeSlice 53 (.int .i64 (n:Int)) (.int .i64 (n:Int))).run prog e=.ok (.slice (some ⟨e.heap.size,0,none⟩) n n) (e.alloc (.cells M 3)):=fun e=>by have:=sX (P:=prog) e 53 3 ez (.int .i64 0) ke cl c2 .i64 .i64 n n ad ad (by rw[c4];omega) ad;simp only[iL,c3,yY]at this;rw[this,a5];rfl
  obtain⟨bt,aq⟩:=aj (w1.alloc (.cells M 3));have bc:lh ts d ⟨⟨name,label,attrs,key,false,nodes⟩,D,C,no,y⟩ w1.heap.size w 0 bt:=by
   have b1:Below w1.heap.size w1 bt:=by rw[aq];exact az
   have bl:=d4.out;refine⟨aD bu.out b1,ad,(b1.block _ (aL bZ.out)).trans bZ.out,?_,ad⟩;refine OT ?_;simp only;rw[<-ae,<-a5,aq];exact aC w1 _
  have bA:=ah bc;have d5:bt.cell? ⟨w.heap.size,5,none⟩=some (.slice no n y):=by rw[ae];exact ai 5 bc.box
  obtain⟨u,a0,d0⟩:=bO ae X cx;clear bc ae X a5 cl c2 c3 c4 cx;go_enter func72,ntmps72
  go_wp2_with(first|(rw[<-B];clear B)|(rw[<-aq];clear aq)|fail)
  generalize w1.heap.size=F at*;go_loopw [21] (pz ts d ⟨⟨name,label,attrs,key,false,nodes⟩,D,C,no,y⟩ F w) (fun eB _=>n-(intOf eB).toNat)
  case atStart=>exact⟨0,rfl,aK _,bA.o⟩
  case round=>
  clear bA d5;obtain⟨k,rfl,co,N⟩:=hrel;simp only at co;rw[<-u.o]at co;have cp:(k:Int)<n∨¬((k:Int)<n):=ad;by_cases K:k<n
  ·have e7:(0:Int)<=k:=ad
   have e8:(k:Int)<n:=ad;clear cp;obtain⟨O,t⟩:∃O,nodes[k]?=some O:=⟨_,aF (by rw[<-u.o];exact K)⟩;have ba:=aU t;have d8:=dr.o wr (bz.o.base.trans (N.base.mono bz.o.base.size));obtain⟨b,Q,rfl,e2,eD,T,eE,eN⟩:=di.at d8 t;have s:=iM nodes 0 k O (gB a0.o).1.ok t;rw[cE]at s;have cc:=OR ts d t;have c1:=bE.o O ba;have a9:=fun a4=>bB.o O ba a4 a0.o;obtain⟨c5,sym,R,S⟩:=O;simp only at eD T eE eN c1 a9;obtain⟨e,h⟩:=aj (wr.alloc (.cells #[.int .i64 c5,.string ⟨sym.toArray⟩,.int .i64 R,.int .i64 S] 140));have b2:Below wr.heap.size wr e:=by rw[h];exact az
   have V:e.heap[wr.heap.size]?=some (.cells #[.int .i64 c5,.string ⟨sym.toArray⟩,.int .i64 R,.int .i64 S] 140):=by rw[h];exact aC wr _
   have fo:=ai 0 V;have fr:=ai 1 V;have fs:=ai 2 V;have fu:=ai 3 V;have Y:=N.below b2;have bq:=Y.sums.at (k:=k) (by simp only;rw[<-u.o];exact K);have e1:=Y.sums.free k;obtain⟨H,I,a1,dz⟩:=cI Y cc s a9;have r:Hid (k<nodes.length):=ah (by rw[<-u.o];exact K);obtain⟨J,aa⟩:=aj (sumsU ts d (nodes.take k));have af:Hid (∀j:Nat,j<n->e.cell? ⟨F,j,none⟩=some (.int .i64 (J.getD j 0:Nat))/\J.getD j 0<=4097):=ah (fun j ec=>⟨by rw[aa];exact Y.sums.at (by simp only;rw[<-u.o];exact ec),by rw[aa];exact yP (El ts d0.o _) j⟩);simp only at bq;rw[<-aa]at bq I;have z:=ah aa;obtain⟨fl,c0⟩:=aj (J.getD k 0);rw[<-c0]at bq;clear t ba cc s a9 Y N V b2 aa c0;rcases rm a1.o with v|v|v|v|v|v
   all_goals
    simp only at v;subst v
   case inl=>
    have i:Hid (pz ts d ⟨⟨name,label,attrs,key,false,nodes⟩,D,C,some ⟨b,Q,none⟩,y⟩ F w (.int .i64 ((k:Int)+1)) (e.setCell ⟨F,k,none⟩ (.int .i64 4097))):=ah ⟨k+1,aG,r.o,H.o.put r.o 4097 (by have:=I.o;rw[this,z.o];rfl)⟩;go_wp2_with(first|(rw[<-h];clear h)|fail)
    go_roundw
    case rel=>exact i.o
    case measure=>exact aH
   case inr.inl=>
    have i:Hid (pz ts d ⟨⟨name,label,attrs,key,false,nodes⟩,D,C,some ⟨b,Q,none⟩,y⟩ F w (.int .i64 ((k:Int)+1)) e):=ah ⟨k+1,aG,r.o,H.o.skip r.o (by have:=I.o;rw[this,z.o];rfl)⟩;go_wp2_with(first|(rw[<-h];clear h)|fail)
    go_roundw
    case rel=>exact i.o
    case measure=>exact aH
   case inr.inr.inr.inr.inr=>
    have i:Hid (pz ts d ⟨⟨name,label,attrs,key,false,nodes⟩,D,C,some ⟨b,Q,none⟩,y⟩ F w (.int .i64 ((k:Int)+1)) e):=ah ⟨k+1,aG,r.o,H.o.skip r.o (by have:=I.o;rw[this,z.o];rfl)⟩;go_wp2_with(first|(rw[<-h];clear h)|fail)
    go_roundw
    case rel=>exact i.o
    case measure=>exact aH
   case inr.inr.inl=>
    have Z:=dz.o rfl;obtain⟨c,an⟩:=aj (dl ts sym);rw[<-an]at Z;have av:Below w.heap.size w e:=H.o.base;have b6:=ds.o.kept (bP av none) ak;have ed:=vi (b6.kept (bP (aA _ e).drew none) ak) c1;rw[<-an]at ed;have bd:=(av.cell (p:=⟨a2,1,none⟩) d7).trans c9.o;have al:=cS.below c7.o av;obtain⟨b8,e3,rfl,e6,ce⟩:=al.2.2.2 ad;have ch:=ce c (nV (d.getD c 0)) (by rw[cb,fJ,aF Z];rfl);unfold nV at ch;have ea:=al.2.1;have b9:=al.2.2.1;unfold maxLen at b9;have e4:(0:Int)<=c:=ad;have e5:(c:Int)<d.length:=ad;have g:=H.o.put r.o (d.getD c 0) (by have:=I.o;rw[this,z.o,an];rfl);have i:Hid (pz ts d ⟨⟨name,label,attrs,key,false,nodes⟩,D,C,some ⟨b,Q,none⟩,y⟩ F w (.int .i64 ((k:Int)+1)) (e.setCell ⟨F,k,none⟩ (.int .i64 (d.getD c 0:Nat))).drew):=ah ⟨k+1,aG,r.o,g.below (aA _ _).drew⟩;clear g;obtain⟨fg,ci⟩:=aj (d.getD c 0);rw[<-ci]at i ch;clear ci ce al ea b9 b6 av an;go_wp2_with(first|(rw[<-h];clear h)|fail)
    go_region
    go_wp2_with fail
    exact⟨i.o,by simp[intOf];omega⟩
   case inr.inr.inr.inl=>
    have s:=a1.o;simp only[dG,bM]at s;simp at s;obtain⟨⟨-,be,bf⟩,bg,bi⟩:=s;obtain⟨p,rfl⟩:∃p:Nat,R=p:=⟨R.toNat,ad⟩;obtain⟨q,rfl⟩:∃q:Nat,S=q:=⟨S.toNat,ad⟩;have en:(0:Int)<=p:=ad;have er:(p:Int)<n:=ad;have es:(0:Int)<=q:=ad;have ex:(q:Int)<n:=ad;obtain⟨u0,u1⟩:=af.o p ad;obtain⟨bm,bo⟩:=af.o q ad;have g:=H.o.put r.o (min (((sumsU ts d (nodes.take k)).getD p 0)+((sumsU ts d (nodes.take k)).getD q 0)) 4097) (by have:=I.o;rw[this,z.o];rfl);rw[<-z.o]at g;obtain⟨E,W⟩:∃a,a=J.getD p 0:=⟨_,rfl⟩;obtain⟨G,A⟩:∃a,a=J.getD q 0:=⟨_,rfl⟩;rw[<-W]at u0 u1 g;rw[<-A]at bm bo g;have eg:min ((E:Int)+(G:Int)) 4097=((min (E+G) 4097:Nat):Int):=ad;have i:Hid (pz ts d ⟨⟨name,label,attrs,key,false,nodes⟩,D,C,some ⟨b,Q,none⟩,y⟩ F w (.int .i64 ((k:Int)+1)) (e.setCell ⟨F,k,none⟩ (.int .i64 (min (E+G) 4097:Nat))).drew):=ah ⟨k+1,aG,r.o,g.below (aA _ _).drew⟩;clear g W A be bf bg bi;go_wp2_with(first|(rw[<-h];clear h)|fail)
    go_region
    go_wp2_with fail
    exact⟨i.o,by simp[intOf];omega⟩
   case inr.inr.inr.inr.inl=>
    have s:=a1.o;simp only[dG,bM]at s;simp at s;obtain⟨⟨-,be,bf⟩,bg,bi⟩:=s;obtain⟨p,rfl⟩:∃p:Nat,R=p:=⟨R.toNat,ad⟩;obtain⟨q,rfl⟩:∃q:Nat,S=q:=⟨S.toNat,ad⟩;have en:(0:Int)<=p:=ad;have er:(p:Int)<n:=ad;have es:(0:Int)<=q:=ad;have ex:(q:Int)<n:=ad;obtain⟨u0,u1⟩:=af.o p ad;obtain⟨bm,bo⟩:=af.o q ad;have g:=H.o.put r.o (min ((sumsU ts d (nodes.take k)).getD p 0) ((sumsU ts d (nodes.take k)).getD q 0)) (by have:=I.o;rw[this,z.o];rfl);rw[<-z.o]at g;obtain⟨E,W⟩:∃a,a=J.getD p 0:=⟨_,rfl⟩;obtain⟨G,A⟩:∃a,a=J.getD q 0:=⟨_,rfl⟩;rw[<-W]at u0 u1 g;rw[<-A]at bm bo g;have eg:min (E:Int) (G:Int)=((min E G:Nat):Int):=ad;have i:Hid (pz ts d ⟨⟨name,label,attrs,key,false,nodes⟩,D,C,some ⟨b,Q,none⟩,y⟩ F w (.int .i64 ((k:Int)+1)) (e.setCell ⟨F,k,none⟩ (.int .i64 (min E G:Nat))).drew):=ah ⟨k+1,aG,r.o,g.below (aA _ _).drew⟩;clear g W A be bf bg bi;go_wp2_with(first|(rw[<-h];clear h)|fail)
    go_region
    go_wp2_with fail
    exact⟨i.o,by simp[intOf];omega⟩
  ·obtain rfl:k=n:=ad
   have em:=(gB a0.o).2;obtain⟨m,cs⟩:∃m,k=m+1:=⟨k-1,by have:=u.o;omega⟩;have e0:(k:Int)-1=(m:Nat):=ad;have e9:(0:Int)<=m:=ad;have fb:(m:Int)<k:=ad;have u0:=N.sums.at (k:=m) (by simp only;rw[<-u.o];omega);simp only at u0;rw[bx (by rw[<-u.o];exact aB _)]at u0;obtain⟨d3,a7⟩:=aj ((sumsU ts d nodes).getD m 0);rw[<-a7]at u0;have du:Hid (lZ ts d ⟨name,label,attrs,key,false,nodes⟩=d3):=ah (by rw[a7];unfold lZ;simp only[kh,i6];rw[<-u.o,cs];rfl);have c8:Hid (Below w.heap.size w wr):=ah N.base;clear a7 cs N cp em
   go_wp2
   go_ret;rw[du.o];exact⟨rfl,c8.o⟩
end Go.Proofs.YtbacloblanpghaaGreatDoor
