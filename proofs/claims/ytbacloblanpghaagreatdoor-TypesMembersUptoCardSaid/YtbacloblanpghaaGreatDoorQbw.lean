import Derived.Test.YtbacloblanpghaaGreatDoorQbm
import Derived.Test.YtbacloblanpghaaGreatDoorQbt
import Derived.Test.YtbacloblanpghaaGreatDoorQbu
import Derived.Test.YtbacloblanpghaaGreatDoorQbv
set_option linter.unusedVariables false
set_option linter.unusedSimpArgs false
set_option maxRecDepth 100000
set_option maxHeartbeats 0
namespace Go.Proofs.YtbacloblanpghaaGreatDoor
open Go.RowKit Tryz
theorem En(w:World)(b o e g:Nat)(a:Addr)(f h v u:Nat)(q:min f e=1)(l:w.cell? a=some (.int .i64 (v:Nat)))(n:w.cell? ⟨b,o,none⟩=some (.int .i64 (u:Nat)))(p:w.frozen? ⟨b,o,none⟩=false):
 (Builtin.copy_ #[53,53] 3 #[.slice (some ⟨b,o,none⟩) e g,.slice (some a) f h]).run prog w=.ok (.int .i64 1) (w.setCell ⟨b,o,none⟩ (.int .i64 (v:Nat))):=by
 have m:a.add 0=a:=by cases a;simp[Addr.add]
 have:=run_copy_cells (P:=prog) w 53 53 3 3 b o e g a f h [.int .i64 (v:Nat)] ke ay (by simpa using q.symm)
  (fun j x c=>by
    have d:j=0:=by have:=(aP.1 c).1;simp at this;omega
    subst d;rw[m];simp at c;rw[<-c];exact l)
  (fun j c=>by
    have d:j=0:=by simp at c;omega
    subst d;rw[mT,n];rfl)
  (fun j c=>by
    have d:j=0:=by simp at c;omega
    subst d;exact p) (fun x i=>by simp at i;subst i;rfl)
 rw[this];rfl
def OV(v:Nat)(w a:World)(nv:Value)(wr:World):Prop:=(nv=.int .i64 1/\wr=a)∨(nv=.int .i64 2/\wr.heap[w.heap.size]?=some (.cells #[.int .i64 (v:Nat),.int .i64 (v:Nat)] 3)/\Below w.heap.size w wr)
theorem OW(g c v:Nat)(w:World)(J:w.cell? ⟨g,0,none⟩=some (.int .i64 (v:Nat)))(O:1<=c)(Q:c<=1048576)(I:g<w.heap.size):
 Calls prog 71 #[.slice (some ⟨g,0,none⟩) 1 c,.int .i64 2] w fun m w'=>m=.returned (.slice (some ⟨w.heap.size,0,none⟩) 2 2)/\w'.heap[w.heap.size]?=some (.cells #[.int .i64 (v:Nat),.int .i64 (v:Nat)] 3)/\Below w.heap.size w w':=by
 have q:=fun b=>bits_Mul 1 2 aw aw b;have D:=ah q;clear q;obtain⟨K,o,r,s,t⟩:=cL Em;have T:∀b,(Instr.makeSlice 53 (.int .i64 2) (.int .i64 2)).run prog b=.ok (.slice (some ⟨b.heap.size,0,none⟩) 2 2) (b.alloc (.cells #[.int .i64 0,.int .i64 0] 3)):=fun b=>by
  have:=sX (P:=prog) b 53 3 K (.int .i64 0) ke o r .i64 .i64 2 2 ad ad (by rw[t];omega) ad;rw[s]at this;rw[this];show Result.ok (Value.slice (some ⟨b.heap.size,0,none⟩) 2 2) (b.alloc (.cells (madeCells #[.int .i64 0] 2) 3))=_
  rw[show madeCells #[Value.int .i64 0] 2=#[.int .i64 0,.int .i64 0]from ay]
 obtain⟨w1,h⟩:=aj (w.alloc (.cells #[.int .i64 0,.int .i64 0] 3));have j:Below w.heap.size w w1:=by rw[h];exact az
 have d:w1.heap[w.heap.size]?=some (.cells #[.int .i64 0,.int .i64 0] 3):=by rw[h];exact aC w _
 have u:=(j.cell (p:=⟨g,0,none⟩) I).trans J;have x:=ai 0 d;have L:=ai 1 d;have n:=aQ d 0;have E:=aQ d 1;obtain⟨y,A⟩:=aE j d;have S:g≠w.heap.size:=ad;clear o r s t j d;go_enter func71,ntmps71
 go_wp2_with fail
 refine(D.o _).mono ?_;rintro m a ⟨rfl,f⟩;rw[f];clear f a;have G:=En w1 w.heap.size 0 2 2 ⟨g,0,none⟩ 1 c v 0 aw u x n;obtain⟨a,i⟩:=aj (w1.setCell ⟨w.heap.size,0,none⟩ (.int .i64 (v:Nat)));rw[<-i]at G;have e:a.heap[w.heap.size]?=some (.cells #[.int .i64 (v:Nat),.int .i64 0] 3):=by rw[i];exact bL _ _ 0 _ A.out
 have l:Below w.heap.size w a:=by rw[i];exact y.out.setCell (aB _) _
 have M:=ai 0 e;have N:=ai 1 e;have R:=En a.drew w.heap.size 1 1 1 ⟨w.heap.size,0,none⟩ 1 2 v 0 aw M N (aQ e 1);obtain⟨z,B⟩:=aE l e;clear i e l u x L n E;go_wp2_with(first|(rw[<-h];clear h)|fail)
 go_loopw [8] (OV v w a) (fun nv _=>2-(intOf nv).toNat)
 case atStart=>exact .inl ⟨rfl,rfl⟩
 case round=>
 rcases hrel with⟨rfl,f⟩|⟨rfl,H,F⟩
 ·rw[f]
  clear f wr;go_wp2_with fail
  go_region
  have C:Hid ((a.setCell ⟨w.heap.size,1,none⟩ (.int .i64 (v:Nat))).drew.heap[w.heap.size]?=some (.cells #[.int .i64 (v:Nat),.int .i64 (v:Nat)] 3)/\Below w.heap.size w (a.setCell ⟨w.heap.size,1,none⟩ (.int .i64 (v:Nat))).drew):=ah ⟨bL a _ 1 _ B.out,(z.out.setCell (aB _) _).drew⟩;go_wp2_with fail
  exact⟨.inr ⟨rfl,C.o⟩,by simp[intOf]⟩
 ·go_wp2_with fail
  go_ret;exact⟨rfl,H,F⟩
def oo(ts:List ax)(nd:List Nat)(k:Nat):List Nat:=match ts[k]? with
 |none=>nd
 |some t=>if min (1+lZ ts nd t) 4097<nd.getD k 0 then nd.set k (min (1+lZ ts nd t) 4097)else nd
def iF(ts:List ax)(nd:List Nat)(k:Nat):List Nat:=(List.range k).foldl (oo ts) nd
def lj(ts:List ax)(nd:List Nat):List Nat:=iF ts nd ts.length
theorem Et(ts:List ax)(nd:List Nat)(k:Nat):iF ts nd (k+1)=oo ts (iF ts nd k) k:=by simp[iF,sI]
theorem Eu{nd:List Nat}{k a:Nat}(c:a<nd.getD k 0):(nd.set k a).sum<nd.sum:=by
 induction nd generalizing k with
 |nil=>simp at c
 |cons b nd ih=>
  cases k with
  |zero=>simp at c⊢;omega
  |succ k=>
   have:=ih (k:=k) (by simpa using c);simp only[bj,List.sum_cons];omega
theorem O2(ts:List ax)(nd:List Nat)(k:Nat):oo ts nd k=nd∨(oo ts nd k).sum<nd.sum:=by
 unfold oo;split
 ·exact .inl rfl
 ·split
  ·rename_i a;exact .inr (Eu a)
  ·exact .inl rfl
theorem Ev(ts:List ax)(nd:List Nat)(k:Nat):iF ts nd k=nd∨(iF ts nd k).sum<nd.sum:=by
 induction k with
 |zero=>exact .inl rfl
 |succ k ih=>
  rw[Et];rcases O2 ts (iF ts nd k) k with a|a
  ·rw[a];exact ih
  ·rcases ih with b|b
   ·rw[b]at a⊢;exact .inr a
   ·exact .inr ad
structure iG(w:World)(n H:Nat)(nd:List Nat)(wr:World):Prop where
 base:Below w.heap.size w wr
 low:w.heap.size<=H
 row:wr.heap[H]?=some (.cells (nd.map nV).toArray 3)
 len:nd.length=n
 le:∀a∈nd,a<=4097
section
variable{w wr wz:World} {n H k:Nat} {nd:List Nat}
theorem iG.below(a:iG w n H nd wr)(b:Below wr.heap.size wr wz):iG w n H nd wz:=⟨aD a.base b,a.low,(b.block _ (aL a.row)).trans a.row,a.len,a.le⟩
theorem iG.at(a:iG w n H nd wr)(b:k<n):wr.cell? ⟨H,k,none⟩=some (.int .i64 (nd.getD k 0:Nat)):=by have c:=a.len;rw[ai _ a.row,ig,cb,fJ,aF ad];rfl
theorem iG.free(a:iG w n H nd wr)(k:Nat):wr.frozen? ⟨H,k,none⟩=false:=aQ a.row k
theorem iG.put(c:iG w n H nd wr)(k:Nat){a:Nat}(f:a<=4097):iG w n H (nd.set k a) (wr.setCell ⟨H,k,none⟩ (.int .i64 (a:Nat))):=by
 refine⟨c.base.setCell c.low _,c.low,(bL _ _ _ _ c.row).trans ?_,by rw[s8];exact c.len,fun b e=> ?_⟩
 ·congr 2
  apply l9;simp[zc,nV]
 ·rcases List.mem_or_eq_of_mem_set e with d|d
  ·exact c.le b d
  ·omega
theorem iG.nums(a:iG w n H nd wr)(c:n<=1048576):qC wr (some ⟨H,0,none⟩) n nd:=by refine⟨ak,qS a.len,bN,fun _=>⟨_,_,rfl,aL a.row,fun j u b=> ?_⟩⟩;rw[cE,ai _ a.row,ig];exact b
end
def Ew(ts:List ax)(w:World)(a:Ending)(w':World):Prop:=
 ∃i H nd,nd=gF (lj ts) i (List.replicate ts.length 4097)/\lj ts nd=nd/\a=.returned (.slice (some ⟨H,0,none⟩) ts.length ts.length)/\iG w ts.length H nd w'
def Ex(ts:List ax)(w:World)(H n g:Nat)(wr:World):Prop:=∃i nd,nd=gF (lj ts) i (List.replicate ts.length 4097)/\nd.sum=g/\iG w n H nd wr
def yR(ts:List ax)(w:World)(H n:Nat)(nd:List Nat)(b a:Value)(wr:World):Prop:=∃k:Nat,a=.int .i64 (k:Nat)/\k<=n/\b=.bool (decide (iF ts nd k≠nd))/\iG w n H (iF ts nd k) wr
theorem O3(l:List am)(o:Option Addr)(cap:Nat)(X:World)(bi:cn X o cap l)(bl:ej l)(b5:bW (l.map am.t)=0)(av:Nat->Prop)(I bb bc bd:Nat)(b3:∀x∈l,x.t.text=false->cw x.t.nodes=0/\x.t.nodes.length<=60)(af:l.length=2)(w:World)(K:eq X av w I bb bc bd o cap l):
 Calls prog 41 #[.pointer (some ⟨I,0,none⟩)] w (Ew (l.map am.t) w):=by
 have c6:=bl.len;have ag:2=l.length:=af.symm;have bw:(l.map am.t).length=2:=by rw[cd,af]
 obtain⟨w1,t⟩:=aj (w.alloc (.cells #[.int .i64 4097] 3));have Z:Below w.heap.size w w1:=by rw[t];exact az
 have m:w1.heap[w.heap.size]?=some (.cells #[.int .i64 4097] 3):=by rw[t];exact aC w _
 have bz:=OW w.heap.size 1 4097 w1 (ai 0 m) (aB _) ad (aL m);obtain⟨a7,a0⟩:=aE bz Z;have u:=ai 0 K.blk;rw[<-ag]at u;have ci:=(Z.cell (p:=⟨I,0,none⟩) (aL K.blk)).trans u;obtain⟨a1,S,z⟩:=bO K ag bw;clear K ag bw bz Z m af;go_enter func41,ntmps41
 go_wp2_with(first|(rw[<-t];clear t)|fail)
 go_step3
 go_wp2_with(first|(rw[<-t];clear t)|fail)
 refine a7.o.mono ?_;rintro j co ⟨rfl,bg,be⟩;have T:Hid (iG w 2 w1.heap.size (List.replicate 2 4097) co):=ah ⟨aD a0.o be,a0.o.size,bg,rfl,fun a b6=>by simp at b6;omega⟩;clear a7 u ci bg be;go_wp2_with fail
 go_step3
 go_wp2_with fail
 generalize w1.heap.size=H at T⊢;obtain⟨ts,al⟩:=aj (l.map am.t);rw[<-al]at z⊢;have W:=ah al;clear al;go_loopg [] 8194 (fun g wr=>Ex ts w H 2 g wr)
 case atStart=>exact⟨0,_,by rw[z.o];rfl,ak,T.o⟩
 case round=>
 clear T;obtain⟨i,c,bB,bq,e⟩:=hrel;obtain⟨ba,bZ⟩:=aE bB bq;have s:=a1.o.kept (bP e.base none) (fun q j=>by cases j);have u:=ai 0 s.blk;rw[<-S.o]at u;obtain⟨y,c0⟩:=aE e e.len;clear bB bq e s;go_wp2_with fail
 obtain⟨c9,ch⟩:=aj (wr);subst ch;go_loopw [4,22] (fun aq ao wr=>yR ts w H 2 c aq ao wr) (fun _ ao _=>2-(intOf ao).toNat)
 case atStart=>exact⟨0,rfl,aK _,by simp[iF],y.o⟩
 case round=>
 clear y u;obtain⟨k,rfl,c3,rfl,e⟩:=hrel;have bt:(k:Int)<2∨¬((k:Int)<2):=ad;by_cases B:k<2
 ·have c4:(0:Int)<=k:=ad
  have c5:(k:Int)<2:=ad;clear bt;obtain⟨x,G⟩:∃x,l[k]?=some x:=⟨_,aF (by rw[<-S.o];exact B)⟩;have s:=a1.o.kept (bP e.base none) (fun q j=>by cases j);obtain⟨b,c7,b2,c1,dr,ds,du,dz,d0,d1⟩:=(bi.below s.base).at G;subst b2;obtain⟨aq,an⟩:=aj (decide (iF ts c k≠c));rw[<-an];have b1:=ah an;obtain⟨d,Q⟩:∃q,q=iF ts c k:=⟨_,rfl⟩;rw[<-Q]at e;have bu:d.length=l.length:=by rw[e.len];exact S.o
  obtain⟨wz,F⟩:=aj (wr.alloc (.cells (typeRow x).toArray 68));have aa:Below wr.heap.size wr wz:=by rw[F];exact az
  have n:wz.heap[wr.heap.size]?=some (.cells (typeRow x).toArray 68):=by rw[F];exact aC wr _
  have N:=e.below aa;have u0:=N.at B;have ce:d.getD k 0<=4097:=yP e.le k;obtain⟨J,O⟩:∃q,q=d.getD k 0:=⟨_,rfl⟩;rw[<-O]at u0 ce;have cp:=ai 0 n;have cq:=ai 1 n;have cs:=ai 2 n;have cu:=ai 3 n;have cx:=ai 4 n;have cG:=ai 5 n;simp[typeRow]at cp cq cs cu cx cG;have E:oo ts d k=if min (1+lZ ts d x.t) 4097<d.getD k 0 then d.set k (min (1+lZ ts d x.t) 4097)else d:=by unfold oo;rw[W.o,cb,G];rfl
  have b7:lZ ts d x.t<=4097:=by
   unfold lZ;split
   ·omega
   ·exact yP (El ts e.le _) _
  have D:=OU l _ cap X bi bl b5 av I bb bc bd x (aU G) d (b3 x (aU G)) e.le (some ⟨H,0,none⟩) 2 bu wz (s.kept (bP aa none) (fun q j=>by cases j)) (N.nums ad);rw[<-W.o,e.len]at D;unfold dj at D;obtain⟨Y,bm⟩:∃q,q=lZ ts d x.t:=⟨_,rfl⟩;rw[<-bm]at D b7 E;rw[<-O]at E;obtain⟨a9,V,a4,a3,bF⟩:=ku D E Q O N;have a5:Hid (iF ts c (k+1)=oo ts d k):=ah (by rw[Et,<-Q]);have b8:min (1+(Y:Int)) 4097=((min (1+Y) 4097:Nat):Int):=ad;obtain⟨h,L⟩:=aj (min (1+Y) 4097);rw[<-L]at b8 E;have b4:h<=4097:=ad;have cN:=ah L;rw[<-L]at V;clear D E Q O N e s G bu aa n an bm L;unfold typeRow at F;go_wp2_with(first|(rw[<-F];clear F)|fail)
  refine a9.o.mono ?_;rintro j bE ⟨rfl,bf⟩;clear a9 u0;have M:=bF.o.below bf;have cl:=M.at B;rw[<-a3.o]at cl;have c8:=M.free k;have a2:=ah M;clear M bf;by_cases C:h<J
  ·have cc:(h:Int)<J:=ad
   have v:Hid (yR ts w H 2 c (.bool true) (.int .i64 ((k:Int)+1)) (bE.setCell ⟨H,k,none⟩ (.int .i64 (h:Nat)))):=ah (by
    have m:iF ts c (k+1)=d.set k h:=by rw[a5.o,V.o,au C]
    refine⟨k+1,aG,B,?_,by rw[m];exact a2.o.put k b4⟩;congr 1
    rw[m];have bo:=Ev ts c k;rw[<-a4.o]at bo;have bA:(d.set k h).sum<d.sum:=Eu (by rw[<-a3.o];exact C);have b9:d.set k h≠c:=fun j=>by
     rw[j]at bA;rcases bo with f|f
     ·rw[f]at bA;omega
     ·omega
    exact(ox b9).symm)
   clear C
   go_wp2
   go_roundw
   case rel=>exact v.o
   case measure=>exact aH
  ·have cc:¬((h:Int)<J):=ad
   have c2:decide ((h:Int)<J)=false:=aO;have v:Hid (yR ts w H 2 c (.bool aq) (.int .i64 ((k:Int)+1)) bE):=ah (by
    have m:iF ts c (k+1)=d:=by rw[a5.o,V.o,ap C]
    exact⟨k+1,aG,B,by rw[m,a4.o,b1.o],by rw[m];exact a2.o⟩)
   clear C
   go_wp2
   go_roundw
   case rel=>exact v.o
   case measure=>exact aH
 ·obtain rfl:k=2:=ad
  clear bt;obtain⟨f,P⟩:∃q,q=iF ts c 2:=⟨_,rfl⟩;rw[<-P]at e⊢;have a6:Hid (lj ts c=f):=ah (by unfold lj;rw[z.o];exact P.symm);have y:=ah e;have ae:=Ev ts c 2;rw[<-P]at ae;have b0:=ah ae;clear P e ae;by_cases r:f=c
  ·have A:decide (f≠c)=false:=by simp[r]
   rw[A];have R:Hid (Ew ts w (.returned (.slice (some ⟨H,0,none⟩) 2 2)) wr):=ah ⟨i,H,c,ba.o,by rw[a6.o,r],by rw[z.o],by rw[z.o];have:=y.o;rwa[r]at this⟩;clear A r;go_wp2_with fail
   rw[l8];go_ret;rw[<-W.o];exact R.o
  ·have A:decide (f≠c)=true:=by simp[r]
   rw[A];have R:Hid (f.sum<c.sum):=ah (by rcases b0.o with ab|ab;exact absurd ab r;exact ab);have v:Hid (Ex ts w H 2 (f.sum) wr):=ah ⟨i+1,f,by rw[gF,<-ba.o,a6.o],rfl,y.o⟩;clear A r
   go_wp2
   go_roundg(f.sum)
   case rel=>exact v.o
   case measure=>have:=R.o;have:=bZ.o;omega
def sC:Bytes:=[116,121,112,101,32,97,32,61,32,97,32,123,32,98,44,32,98,42,32,125,10,116,121,112,101,32,98,32,61,32,98,32,64,107,32,116,101,120,116]
def eC:List ar:=[⟨2,[98],0,0⟩,⟨2,[98],0,0⟩,⟨5,[],1,0⟩,⟨3,[],0,2⟩]
def iH:ax:=⟨[97],[97],[],[],false,eC⟩
def ka:ax:=⟨[98],[98],[[107]],[],true,[]⟩
def cv:List ax:=[iH,ka]
theorem O4:dY 0 [] (dn sC)=(cv,0):=ay
theorem O5:[[98],[98]].mergeSort br=[([98]:Bytes),[98]]:=by rw[List.mergeSort];simp only[List.MergeSort.Internal.splitInTwo_fst,List.MergeSort.Internal.splitInTwo_snd];simp[List.merge]
theorem qD:cw eC=0:=ay
theorem sD:symsS eC=[[98]]:=by unfold symsS;rw[au qD,show fL eC=[[98],[98]]from ay,O5];kernel_rfl
theorem Ez:dw (symsS eC)=[[98]]:=by rw[sD];unfold dw;rw[List.mergeSort_singleton];kernel_rfl
theorem EA:kidsS cv iH=[1]:=by unfold kidsS;rw[show iH.nodes=eC from rfl,sD];kernel_rfl
theorem O6:kidsS cv ka=[]:=by unfold kidsS;rw[show ka.nodes=[]from rfl,xr];rfl
theorem yT:bW cv=0:=by
 have a:∀{p:ax->Prop},p iH->p ka->∀t∈cv,p t:=fun c d t b=>by
  simp only[cv,eH,qK,qL]at b;rcases b with rfl|rfl
  ·exact c
  ·exact d
 unfold bW;rw[ap aw,ap aw,ap aw,ap aw,ap aw,ap aw,ap aw,ap,ap,ap]
 ·rw[fR,lq]
  exact a aw aw
 ·rw[fR,lq]
  exact a (by rw[EA];decide) (by rw[O6];decide)
 ·rw[fR,lq]
  exact a (by rw[show iH.nodes=eC from rfl,sD];decide) (by rw[show ka.nodes=[]from rfl,xr];decide)
theorem O7:lH sC=(cv,0,0):=by unfold lH;rw[ap aw,O4,ap aw,ap (by rw[yT];decide)]
theorem O8:∀d∈sC,d<128:=aw
theorem O9:∀t∈cv,nL 100 t:=by
 intro t a;simp only[cv,eH,qK,qL]at a;rcases a with rfl|rfl
 ·exact⟨aw,aw,aw,aw,aw,aw⟩
 ·exact⟨aw,aw,aw,aw,aw,aw⟩
theorem yU:placeS cv [97]=some 0:=ay
theorem EC:dl cv [98]=1:=ay
def pA:List St:=[(true,0),(false,1),(false,2)]
def EE:List (List Nat):=[[1],[2],[2]]
theorem yV:fD (true,0) 256 (cV eC [[98]]) 3=some (pA,EE):=ay
theorem EF:fD (true,0) 256 (cV eC [[98]]) 0=some ([(true,0)],[]):=rfl
theorem EG:fD (true,0) 256 (cV eC [[98]]) 1=some ([(true,0),(false,1)],[[1]]):=ay
theorem EH:fD (true,0) 256 (cV eC [[98]]) 2=some (pA,[[1],[2]]):=ay
theorem EI(n:Nat):fD (true,0) 256 (cV eC [[98]]) (n+4)=none:=by
 induction n with
 |zero=>rw[show 0+4=3+1 from rfl,fD,yV];rfl
 |succ n ih=>rw[show n+1+4=(n+4)+1 by omega,fD,ih];rfl
theorem Pa{n:Nat}{keys:List St}{e:List (List Nat)}(a:fD (true,0) 256 (cV eC [[98]]) n=some (keys,e))(b:keys.length=n):keys=pA/\e=EE:=by
 match n,a,b with
 |0,a,b=>rw[EF]at a;injection a with a;injection a with c d;subst c;cases b
 |1,a,b=>rw[EG]at a;injection a with a;injection a with c d;subst c;cases b
 |2,a,b=>rw[EH]at a;injection a with a;injection a with c d;subst c;cases b
 |3,a,b=>rw[yV]at a;injection a with a;injection a with c d;exact⟨c.symm,d.symm⟩
 |n+4,a,b=>rw[EI]at a;cases a
theorem Pb:fp 256 [(true,0)] (cV eC [[98]] (true,0))=some ([(true,0),(false,1)],[1]):=ay
theorem Pc:fp 256 [(true,0),(false,1)] (cV eC [[98]] (false,1))=some (pA,[2]):=ay
theorem Pe:fp 256 pA (cV eC [[98]] (false,2))=some (pA,[2]):=ay
theorem EJ:¬sx eC:=by
 unfold sx;rw[Ez];rintro⟨n,keys,f,k,a,b,d⟩;match n,a with
 |0,a=>rw[EF]at a;injection a with a;injection a with c e;subst c;injection b with b;subst b;rw[Pb]at d;cases d
 |1,a=>rw[EG]at a;injection a with a;injection a with c e;subst c;injection b with b;subst b;rw[Pc]at d;cases d
 |2,a=>rw[EH]at a;injection a with a;injection a with c e;subst c;injection b with b;subst b;rw[Pe]at d;cases d
 |3,a=>rw[yV]at a;injection a with a;injection a with c e;subst c;cases b
 |n+4,a=>rw[EI]at a;cases a
theorem Pf:pA.map (fun s=>Value.bool (uX eC s))=[.bool false,.bool true,.bool true]:=ay
def fF:Tr:=.mk [97] [] [] [.mk [98] [] [([107],[])] []]
theorem Pg:fW fF=0:=ay
theorem Ph:mu eC [[98]]:=by obtain⟨a,_⟩:=gB qD;exact(C3 a aw _).1 ay
theorem Pi:fw cv 0 fF:=by
 rw[tN (x:=iH) rfl];have a:ft cv iH [98]=some 1:=by unfold ft;rw[EA];kernel_rfl
 refine⟨rfl,rfl,?_⟩;rw[ap aw];refine⟨?_,by simp[dD,iH],?_⟩
 ·rw[tM]
  intro k b;simp only[fF,Tr.kids,eH,qK,qL]at b;subst b;refine⟨1,a,?_⟩;rw[tN (x:=ka) rfl];exact⟨rfl,rfl,by rw[au (show ka.text=true from rfl)];exact .inl rfl⟩
 ·have:eL cv iH fF.kids=[[98]]:=by
   simp only[eL,fF,Tr.kids,gX,mX,Tr.label];rw[a];rfl
  rw[this];exact Ph
theorem Pj{i:Nat}{c:List Bool}(a:c=gF (li cv) i (List.replicate cv.length false))(b:li cv c=c):c=[true,true]:=by
 have f:List.replicate cv.length false=[false,false]:=rfl;have d:li cv [false,false]=[false,true]:=ay;have e:li cv [false,true]=[true,true]:=ay;have g:li cv [true,true]=[true,true]:=ay;have h:∀n,gF (li cv) (n+2) [false,false]=[true,true]:=fun n=>by
  induction n with
  |zero=>simp only[gF,d,e]
  |succ n ih=>rw[gF,ih,g]
 rw[f]at a;match i,a with
 |0,a=>simp only[gF]at a;subst a;rw[d]at b;cases b
 |1,a=>simp only[gF,d]at a;subst a;rw[e]at b;cases b
 |n+2,a=>rw[h]at a;exact a
theorem Pk{i:Nat}{c:List Nat}(a:c=gF (lj cv) i (List.replicate cv.length 4097))(b:lj cv c=c):c=[2,1]:=by
 have f:List.replicate cv.length 4097=[4097,4097]:=rfl;have d:lj cv [4097,4097]=[4097,1]:=ay;have e:lj cv [4097,1]=[2,1]:=ay;have g:lj cv [2,1]=[2,1]:=ay;have h:∀n,gF (lj cv) (n+2) [4097,4097]=[2,1]:=fun n=>by
  induction n with
  |zero=>simp only[gF,d,e]
  |succ n ih=>rw[gF,ih,g]
 rw[f]at a;match i,a with
 |0,a=>simp only[gF]at a;subst a;rw[d]at b;cases b
 |1,a=>simp only[gF,d]at a;subst a;rw[e]at b;cases b
 |n+2,a=>rw[h]at a;exact a
theorem Pm(c:List Bool):yO cv c eC:=by
 intro k n a;match k,a with
 |0,a=>injection a with a;subst a;exact⟨aw,fun b=>by cases b⟩
 |1,a=>injection a with a;subst a;exact⟨aw,fun b=>by cases b⟩
 |2,a=>injection a with a;subst a;exact⟨aw,fun b=>by cases b⟩
 |3,a=>injection a with a;subst a;exact⟨aw,fun _=>rfl⟩
 |n+4,a=>simp[eC]at a
theorem Pq(w:World):Calls prog 127 #[.slice none 0 0] w fun d w'=>d=.returned (.slice none 0 0)/\Below w.heap.size w w':=by
 have e:∀(w:World) (a:Option Addr) (n c n' b:Nat),(binOp .eql 66 (.slice a n c) (.slice none n' b)).run prog w=.ok (.bool a.isNone) w:=fun w a n c n' b=>Fw w _ _ a n c n' b jE;go_enter func127,ntmps127
 go_wp2
 go_ret;exact⟨rfl,aA _ w⟩
theorem ca.base{a W W':World}{Q B e i n:Nat}{h j:Value}{k:Nat}{xs:List Value}(f:dI W Q B e h j k i n xs)(c:Below a.heap.size a W)(m:a.heap.size<=Q)(l:a.heap.size<=B)(d:ca Q W W'):Below a.heap.size a W':=
 ⟨d.os.trans c.os,d.tape.trans c.tape,d.output.trans c.output,aR c.size d.kp.size,fun b g=>((d.kp.same b (f.sq_low ad ad (by have:=c.size;omega))).2).trans (c.block b g)⟩
theorem Ps(l:List am)(o:Option Addr)(cap:Nat)(e:World)(f:cn e o cap l)(u:l.length<=64)(g:Nat->Prop)(d h i j k:Nat)(x:am)(c:l[k]?=some x)(p:x.t.text=true)(nv:Value)(w:World)(a:eq e g w d h i j o cap l):
 Calls prog 73 #[.pointer (some ⟨d,0,none⟩),.int .i64 (k:Nat),nv] w fun m w'=>m=.returned (.tuple #[.slice none 0 0,.int .i64 0])/\w'=w:=by
 have t:=(aP.1 c).1;have s:(k:Int)<l.length:=ad;have v:=ai 0 a.blk;obtain⟨b,y,n,r,z,A,B,C,q,D⟩:=(f.below a.base).at c;subst n;rw[p]at q;clear a c f;go_enter func73,ntmps73
 go_wp2
 go_ret2
 exact⟨rfl,rfl⟩
theorem sE{w:World}{B b size n:Nat}{v:Value}{xs:List Value}(a:w.ownsRow B b size v n xs)(m:0<n):∃g c,v=.slice (some ⟨g,0,none⟩) n c/\B<=g/\g<w.heap.size/\∀j u,j<n*size->xs[j]?=some u->w.cell? ⟨g,j,none⟩=some u:=by
 rcases a.2 with⟨i,l⟩|⟨g,cap,h,f,_⟩
 ·omega
 ·subst f
  have:=aV a (g:=g) rfl;exact⟨g,cap,rfl,this.1,this.2,fun j u d e=>(a.cellAt j d).trans e⟩
structure sF(w:World)(sg ng fg r0:Nat)(c0:Nat):Prop where
 sl:sg<w.heap.size
 nl:ng<w.heap.size
 fl:fg<w.heap.size
 rl:r0<w.heap.size
 sym:w.cell? ⟨sg,0,none⟩=some (.string ⟨#[98]⟩)
 next:w.cell? ⟨ng,0,none⟩=some (.slice (some ⟨r0,0,none⟩) 1 c0)
 to:w.cell? ⟨r0,0,none⟩=some (.int .i64 1)
 fin0:w.cell? ⟨fg,0,none⟩=some (.bool false)
 fin1:w.cell? ⟨fg,1,none⟩=some (.bool true)
theorem sF.below{w w':World}{f d c e g:Nat}(a:sF w f d c e g)(b:Below w.heap.size w w'):sF w' f d c e g:=
 ⟨eR a.sl b.size,eR a.nl b.size,eR a.fl b.size,eR a.rl b.size,(b.cell (p:=⟨f,0,none⟩) a.sl).trans a.sym,(b.cell (p:=⟨d,0,none⟩) a.nl).trans a.next,(b.cell (p:=⟨e,0,none⟩) a.rl).trans a.to,(b.cell (p:=⟨c,0,none⟩) a.fl).trans a.fin0,(b.cell (p:=⟨c,1,none⟩) a.fl).trans a.fin1⟩
theorem Pt{w:World}{B:Nat}{v:Value}(x:kI w B v eC):∃c h b f a e g d,v=.agg #[.slice (some ⟨c,0,none⟩) 1 h,.slice (some ⟨b,0,none⟩) 3 f,.slice (some ⟨a,0,none⟩) 3 e]/\sF w c b a g d:=by obtain⟨n,keys,J,K,nv,I,r,j,s,rfl,l,m,t,u,o⟩:=x;rw[Ez]at j l;obtain⟨rfl,rfl⟩:=Pa j s;rw[Pf]at o;have H:r.length=3:=t;obtain⟨i,q⟩:∃i,r[0]?=some i:=⟨_,aF ad⟩;have C:=u 0 i [1] q rfl;obtain⟨c,h,rfl,_,F,G⟩:=sE l aw;rw[H]at m;obtain⟨b,f,rfl,_,z,A⟩:=sE m aw;obtain⟨a,e,rfl,_,y,p⟩:=sE o aw;obtain⟨g,d,rfl,_,D,E⟩:=sE C aw;exact⟨c,h,b,f,a,e,g,d,rfl,F,z,y,D,G 0 _ aw rfl,A 0 _ aw q,E 0 _ aw rfl,p 0 _ aw rfl,p 1 _ aw rfl⟩
theorem EK{W W':World}{Q B l s n M:Nat}{r u:Value}{k:Nat}{xs:List Value}(a:dI W Q B l r u k s n xs)(p:W.grownBy W' (some M))(f:∃m c,W.heap[M]?=some (Obj.map m c)):dI W' Q B l r u k s n xs:=by obtain⟨m,c,f⟩:=f;obtain⟨ys,q⟩:=a.swaps;have d:∀b,(∃cs t o,W.heap[b]?=some (Obj.cells cs t o))->W'.heap[b]?=W.heap[b]?:=fun b ⟨cs,t,o,h⟩=>p.block b (aL h) (fun e=>by injection e with e;rw[e,f]at h;cases h);exact⟨(d _ ⟨_,_,_,a.box⟩).trans a.box,aY a.items (fun g j=>by obtain⟨cs,i⟩:=mP a.items j;exact d _ ⟨_,_,_,i⟩),⟨ys,aY q (fun g j=>by obtain⟨cs,i⟩:=mP q j;exact d _ ⟨_,_,_,i⟩)⟩,a.apart,a.low,aR a.lowB p.size,(d _ ⟨_,_,_,a.ob⟩).trans a.ob,a.obB,a.obQ⟩
theorem Pu{W:World}{Q B e i n M:Nat}{h j:Value}{k:Nat}{xs:List Value}(b:dI W Q B e h j k i n xs)(a:∃d c,W.heap[M]?=some (Obj.map d c)):SQ Q W M:=by obtain⟨d,c,a⟩:=a;obtain⟨ys,g⟩:=b.swaps;exact b.sq (mQ b.items a) (mQ g a) (fun f=>by have:=b.box;rw[<-f,a]at this;cases this) (aL a)
def kL:Value:=.agg #[.int .i64 0,.int .i64 0,.slice none 0 0]
structure EL(W2:World)(M put pm:Nat)(y:Wy)(wr:World):Prop where
 base:Below W2.heap.size W2 wr
 q:∃iv sv k,dI wr (W2.heap.size+1) (W2.heap.size+2) W2.heap.size iv sv k put 1 (wyC y pm)
def Pv(a:World)(M:Nat)(wr:World):Prop:=EL a M 1 0 ⟨0,0,none,0,0⟩ wr/\bn wr prog 3 M 1 (eO (fun _=>none) (.int .i64 0) kL)
def yW(a:World)(M:Nat)(wr:World):Prop:=∃g c,EL a M 2 1 ⟨1,1,some ⟨g,0,none⟩,1,c⟩ wr/\cA wr a.heap.size (.slice (some ⟨g,0,none⟩) 1 c) [[98]]
def Pw(b:World)(M:Nat)(c:World)(a:Value)(wr:World):Prop:=(a=.int .i64 0/\wr=c)∨(a=.int .i64 1/\yW b M wr)
def Px(a:World)(M g:Nat)(wr:World):Prop:=(g=2/\Pv a M wr)∨(g=1/\yW a M wr)
theorem Py{W:World}{B a size n M g:Nat}{v:Value}{xs:List Value}(f:W.ownsRow B a size v n xs)(b:∃d c,W.heap[M]?=some (Obj.map d c))(e:v.ownBlock=some g):some g≠some M:=fun a=>by
 obtain⟨d,c,b⟩:=b;injection a with a
 subst a;exact mQ f b e
theorem row_sq{W:World}{Q B c j n g m B':Nat}{i l v:Value}{k:Nat}{xs ys:List Value}(a:dI W Q B c i l k j n xs)(f:W.ownsRow B' 9 1 v m ys)(e:v.ownBlock=some g):SQ Q W g:=by obtain⟨cs,b⟩:=mP f e;obtain⟨zs,h⟩:=a.swaps;exact a.sq (iD a.items b aw) (iD h b aw) (fun d=>by have:=a.box;rw[<-d,b]at this;injection this with this;injection this with _ this;exact absurd this aw) (aL b)
theorem Pz{W:World}{M:Nat}(b:bn W prog 3 M 1 (eO (fun _=>none) (.int .i64 0) kL)):(Instr.lookup 221 (.map (some M)) (.int .i64 1) true).run prog W=.ok (.tuple #[.agg #[.int .i64 0,.int .i64 0,.slice none 0 0],.bool false]) W:=by have c:(zeroValue 212).run prog W=.ok kL W:=ay;have:=b.look_ok (ge cX) Ab c (key:=.int .i64 1) (kl:=.int .i64 1) cD (oz cX (kt (n:=1) ad));rw[jX _ _ (by intro a;injection a with _ a;omega)]at this;exact this
theorem PC{W e a:World}{M X c gc:Nat}(f:W.heap[X]?=some (.cells #[.int .i64 1,.int .i64 1,.slice (some ⟨c,0,none⟩) 1 gc] 212))(l:Below e.heap.size e W)(j:Below a.heap.size a W)(h:bn W prog 3 M 1 (eO (fun _=>none) (.int .i64 0) kL))
 (i:W.ownsRow a.heap.size 9 1 (.slice (some ⟨c,0,none⟩) 1 gc) 1 [.string ⟨#[98]⟩]) {W14:World} (m:W14=W.alloc (.cells #[.int .i64 0,.int .i64 0,.slice none 0 0] 212)):
 (W14.cell? ⟨X,0,none⟩=some (.int .i64 1)/\W14.cell? ⟨X,1,none⟩=some (.int .i64 1)/\W14.cell? ⟨X,2,none⟩=some (.slice (some ⟨c,0,none⟩) 1 gc))/\Below e.heap.size e W14/\Below a.heap.size a W14/\bn W14 prog 3 M 1 (eO (fun _=>none) (.int .i64 0) kL)/\
 W14.ownsRow a.heap.size 9 1 (.slice (some ⟨c,0,none⟩) 1 gc) 1 [.string ⟨#[98]⟩]/\W14.heap[X]?=some (.cells #[.int .i64 1,.int .i64 1,.slice (some ⟨c,0,none⟩) 1 gc] 212):=by
 have b:Below W.heap.size W W14:=by rw[m];exact az
 have d:=(b.block _ (aL f)).trans f;exact⟨⟨ai 0 d,ai 1 d,ai 2 d⟩,aD l b,aD j b,h.of_block (b.block _ h.lt),aY i (fun g n=>b.block g (aV i n).2),d⟩
theorem PD(G T:am)(Z:G.t=iH)(ic:T.t=ka)(o:Option Addr)(cap:Nat)(L:World)(hJ:Gl L)(b0:cn L o cap [G,T])(ag:Nat->Prop)(H A K a4:Nat)(hG:ag K)(no:Option Addr)(ce:Nat)(w:World)(ao:eq L ag w H A K a4 o cap [G,T])(c5:kJ w L.heap.size K [G,T])(f5:qC w no ce [2,1]):
 Calls prog 73 #[.pointer (some ⟨H,0,none⟩),.int .i64 0,.slice no 2 ce] w fun f w'=>(∃g c,f=.returned (.tuple #[.slice (some ⟨g,0,none⟩) 1 c,.int .i64 0])/\cA w' w.heap.size (.slice (some ⟨g,0,none⟩) 1 c) [[98]])/\kK L ag H A K a4 o cap [G,T] w w':=by
 have gf:=Ey [G,T] o cap L hJ b0 ak ag H A K a4 hG 0 G rfl (by rw[Z];exact qD) (by rw[Z];decide) (by rw[Z];show 0<(symsS eC).length;rw[sD];decide) w ao c5;have i1:=ai 0 ao.blk;obtain⟨b,hj,hB,km,jj,jp,jv,jy,em,j0⟩:=(b0.below ao.base).at (k:=0) (x:=G) rfl;subst hB;rw[Z]at em;obtain⟨eZ,a1,hn,j6⟩:=cI gf f5 c5 b0;clear ao c5 gf f5 b0;simp only[sK,mT,iH]at em;go_enter func73,ntmps73
 go_wp2_with fail
 refine eZ.o.mono ?_;rintro f w1 ⟨⟨f0,c6,b3⟩,hN⟩;clear eZ i1 jj jp jv jy em j0;rcases hN with⟨v,rfl,c8⟩|⟨b8,rfl⟩
 ·rw[Z]at c8
  obtain⟨ch,ed,Q,bi,bZ,c4,bl,a7,rfl,gd⟩:=Pt c8;have gg:kK L ag H A K a4 (some ⟨b,hj,none⟩) cap [G,T] w w1:=⟨f0,c6,b3⟩;have f6:qC w1 no ce [2,1]:=by
   refine⟨a1.o.1,a1.o.2.1,a1.o.2.2.1,fun d3=> ?_⟩;obtain⟨aa,av,hC,du,gl⟩:=a1.o.2.2.2 d3;refine⟨aa,av,hC,eR du b3.size,fun j u hR=> ?_⟩;have d5:some aa≠some K:=fun f=>by
    injection f with f
    subst f;obtain⟨k1,kc,b4,_⟩:=c6;obtain⟨fG,fx,kk⟩:=b4.block;have bc:=gl 0 (nV 2) rfl;obtain⟨k2,kd,hT,_⟩:=hn.o;obtain⟨kb,j7,hL⟩:=hT.block;simp[World.cell?,hL]at bc
   exact(b3.cell_far ⟨aa,av+j,none⟩ du d5).trans (gl j u hR)
  obtain⟨e,b9⟩:=aj (w1.alloc (.cells #[.slice (some ⟨ch,0,none⟩) 1 ed,.slice (some ⟨Q,0,none⟩) 3 bi,.slice (some ⟨bZ,0,none⟩) 3 c4] 143));have bu:Below w1.heap.size w1 e:=by rw[b9];exact az
  have fz:e.heap[w1.heap.size]?=some (.cells #[.slice (some ⟨ch,0,none⟩) 1 ed,.slice (some ⟨Q,0,none⟩) 3 bi,.slice (some ⟨bZ,0,none⟩) 3 c4] 143):=by rw[b9];exact aC w1 _
  obtain⟨eN,cs,eD,bo⟩:=cI (gd.below bu) (gg.below bu) (cS.below f6 bu) fz;have g2:=NW e;have e3:=ah g2;clear f0 c6 b3 c8 gd gg f6 bu fz g2 a1;go_wp2_with(first|(rw[<-b9];clear b9)|fail)
  refine e3.o.mono ?_;rintro f el ⟨rfl,d8,fl⟩;clear e3;have be:Calls prog 125 #[.pointer (some ⟨e.heap.size+1,0,none⟩),.agg #[.int .i64 0,.int .i64 0,.slice none 0 0]] el (si el (e.heap.size+1) (e.heap.size+2) e.heap.size 0 ⟨0,0,none,0,0⟩):=DX el _ _ _ 0 0 _ _ ⟨0,0,none,0,0⟩ d8 ad;obtain⟨e4,e5,er⟩:=bO be d8 fl;clear be d8 fl;go_wp2_with fail
  refine e4.o.mono ?_;rintro f R ⟨rfl,⟨kv,k4,k0,ha⟩,gv⟩;clear e4;have al:=ca.base e5.o er.out ad ad gv;obtain⟨hk,cc⟩:=aj (R.alloc (.map #[] 0));have bz:Below R.heap.size R hk:=by rw[cc];exact az
  have ec:bn hk prog 3 R.heap.size 0 (fun _=>none):=by rw[cc];exact bn.made R _ _
  have ds:∀a:Nat,a<=64->keyOf prog 3 (.int .i64 (a:Nat))=some (.int .i64 (a:Nat)):=fun a kg=>oz cX (kt ad);obtain⟨ji,hd,g1,c9,h9⟩:=ec.set (ge cX) Ab bN (key:=.int .i64 0) (val:=kL) (kl:=.int .i64 0) cD (ds 0 ad);unfold kL at hd;have kp:= @mY prog;have hb:=ha.below bz;have fo:Below e.heap.size e ji:=(al.trans (bz.mono al.size)).grown c9 (by have:=al.size;have:=bz.size;omega) (fun q f=>by cases f;exact al.size);have gG:=EK hb c9 ec.block;obtain⟨e6,es⟩:=aE gG fo;have ho:Hid (e.heap.size<=R.heap.size):=ah al.size;have cG:=ah g1;clear ha gv al bz ec g1 c9 hb fo gG h9 e5 er;go_wp2_with(first|(rw[<-cc];clear cc)|fail)
  clear hd;have eB:Hid (e.heap.size<=R.heap.size):=ah ho.o;generalize R.heap.size=M at cG eB;go_loopg [] 2 (fun g wr=>Px e M g wr)
  case atStart=>exact .inl ⟨rfl,⟨es.out,⟨_,_,_,e6.o⟩⟩,cG.o⟩
  case round=>
  clear cG e6 es;rcases hrel with⟨s,hH⟩|⟨s,hI⟩
  ·obtain⟨⟨bd,B,ab,eb,Y⟩,b4⟩:=hH
   have bf:Calls prog 126 #[.pointer (some ⟨e.heap.size+1,0,none⟩)] wr (fun f w'=>f=.returned (.tuple #[.agg #[.int .i64 0,.int .i64 0,.slice none 0 0],.int .i64 0])/\(∃B ab k,dI w' (e.heap.size+1) (e.heap.size+2) e.heap.size B ab k 1 0 [])/\ca (e.heap.size+1) wr w'):=DZ wr _ _ _ eb 1 0 _ _ ⟨0,0,none,0,0⟩ Y;obtain⟨a3,a2,cx,e1⟩:=cI bf Y bd b4;clear bf Y bd b4;go_wp2_with fail
   refine a3.o.mono ?_;rintro f h ⟨rfl,⟨i0,jb,i3,b7⟩,W⟩;clear a3;have V:=ca.base a2.o cx.o ad ad W;have d1:bn h prog 3 M 1 (eO (fun _=>none) (.int .i64 0) kL):=e1.o.of_block (W.kp.same M (Pu a2.o e1.o.block)).2;obtain⟨m,E⟩:=aj (h.alloc (.cells #[.int .i64 0,.int .i64 0,.slice none 0 0] 212));have N:Below h.heap.size h m:=by rw[E];exact az
   have O:m.heap[h.heap.size]?=some (.cells #[.int .i64 0,.int .i64 0,.slice none 0 0] 212):=by rw[E];exact aC h _
   have I:Below e.heap.size e m:=V.trans (N.mono V.size);have d2:=d1.of_block (N.block _ d1.lt);have bq:Hid (∀r,Below m.heap.size m r->sF r ch Q bZ bl a7/\(r.cell? ⟨w1.heap.size,0,none⟩=some (.slice (some ⟨ch,0,none⟩) 1 ed)/\r.cell? ⟨w1.heap.size,1,none⟩=some (.slice (some ⟨Q,0,none⟩) 3 bi)/\r.cell? ⟨w1.heap.size,2,none⟩=some (.slice (some ⟨bZ,0,none⟩) 3 c4))/\
    (r.cell? ⟨h.heap.size,0,none⟩=some (.int .i64 0)/\r.cell? ⟨h.heap.size,1,none⟩=some (.int .i64 0)/\r.cell? ⟨h.heap.size,2,none⟩=some (.slice none 0 0))/\r.cell? ⟨H,1,none⟩=some (.map (some A))/\ei r A cv/\qC r no ce [2,1]):=ah (fun r F=>by
    have b1:Below e.heap.size e r:=I.trans (F.mono I.size);have d:=(b1.block _ (aL bo.out)).trans bo.out;have y:=(F.block _ (aL O)).trans O;have f4:=cs.o.1.kept (bP b1 none) (fun q f=>by cases f);exact⟨eN.o.below b1,⟨ai 0 d,ai 1 d,ai 2 d⟩,⟨ai 0 y,ai 1 y,ai 2 y⟩,ai 1 f4.blk,by have:=f4.places;simpa[Z,ic,cv]using this,cS.below eD.o b1⟩)
   obtain⟨hg,⟨bA,an,a9⟩,⟨af,a0,bm⟩,aq,h6,hV⟩:=bq.o m (aA _ _);have gr:=hg.fin0;have bg:(zeroValue 212).run prog m=.ok kL m:=ay;have X:=d2.look (ge cX) Ab bg cD (ds 0 ad);rw[show((0:Nat):Int)=0 from rfl,jz]at X;simp only[pL,kL]at X;have hM:∀(args:Array Value) (r:World),(callFunc 120 args).run prog r=.ok (.enter 120 args) r:=fun _ _=>rfl;have hc:=NV m;obtain⟨e7,hp⟩:=aE hc E;rw[E]at bA an a9 af a0 bm aq gr X;obtain⟨hs,e2,cl⟩:=bO b7 d2 I;have hq:Hid (h.heap.size<m.heap.size):=ah (aL O);have co:=ah N;clear V W d1 N O I hg h6 hV bg hc E b7 d2;go_wp2_with fail
   rw[<-hp.o];refine e7.o.mono ?_;rintro f n ⟨rfl,fv⟩;clear e7 X hM bA an a9 af a0 bm aq gr;obtain⟨hh,⟨bA,an,a9⟩,⟨af,a0,bm⟩,aq,h7,hW⟩:=bq.o n fv;have ia:=hh.sym;have C:=ah fv;clear hh h7 hW;go_wp2_with fail
   clear bA an a9 af a0 bm aq ia;obtain⟨lb,ib⟩:=aj (wr);subst ib;go_loopw [76] (fun B wr=>Pw e M n B wr) (fun B _=>1-(intOf B).toNat)
   case atStart=>exact .inl ⟨rfl,rfl⟩
   case round=>
   rcases hrel with⟨rfl,b8⟩|⟨rfl,fN⟩
   ·rw[b8]
    clear b8 wr;obtain⟨aa,av,h2,_,hX⟩:=eD.o.2.2.2 aw;subst h2;obtain⟨hi,⟨hy,hz,hA⟩,⟨j1,j2,hl⟩,i4,h8,d4⟩:=bq.o n C.o;have i9:=hi.sym;have hZ:=d4.2.2.1;have h0:=d4.2.1;unfold maxLen at hZ;simp only[de,ga]at h0;have cu:Hid (∀w',Below m.heap.size m w'->w'.cell? ⟨w1.heap.size,1,none⟩=some (.slice (some ⟨Q,0,none⟩) 3 bi)/\(w'.cell? ⟨h.heap.size,0,none⟩=some (.int .i64 0)/\w'.cell? ⟨h.heap.size,1,none⟩=some (.int .i64 0))/\(w'.cell? ⟨Q,0,none⟩=some (.slice (some ⟨bl,0,none⟩) 1 a7)/\w'.cell? ⟨bl,0,none⟩=some (.int .i64 1))/\w'.cell? ⟨H,1,none⟩=some (.map (some A))/\w'.cell? ⟨aa,av+1,none⟩=some (.int .i64 1)/\(Instr.lookup 77 (.map (some A)) (.string ⟨#[98]⟩) false).run prog w'=.ok (.int .i64 1) w'):=ah (fun w' F=>by
     obtain⟨hf,⟨_,an,_⟩,⟨af,a0,_⟩,aq,h5,d3⟩:=bq.o w' F;have X:=vi (b:=[98]) h5 aw;rw[EC]at X;obtain⟨i5,i7,h3,_,hY⟩:=d3.2.2.2 aw;have h4:aa=i5/\av=i7:=by injection h3 with bc;injection bc with bc hE;exact⟨bc,hE⟩
     obtain⟨rfl,rfl⟩:=h4;exact⟨an,⟨af,a0⟩,⟨hf.next,hf.to⟩,aq,hY 1 (nV 1) rfl,X⟩)
    have l:=cu.o n.drew C.o.drew;have f7:=cu.o (n.drew.alloc (.cells #[.int .i64 0,.int .i64 0,.slice none 0 0] 212)) (C.o.drew.alloc C.o.size _);clear hi h8 d4 hX;go_wp2_with fail
    clear hy hz hA j1 j2 i4;refine sw (S:=(fun w'=>w'.cell? ⟨w1.heap.size,1,none⟩=some (.slice (some ⟨Q,0,none⟩) 3 bi)/\(w'.cell? ⟨h.heap.size,0,none⟩=some (.int .i64 0)/\w'.cell? ⟨h.heap.size,1,none⟩=some (.int .i64 0))/\(w'.cell? ⟨Q,0,none⟩=some (.slice (some ⟨bl,0,none⟩) 1 a7)/\w'.cell? ⟨bl,0,none⟩=some (.int .i64 1))/\w'.cell? ⟨H,1,none⟩=some (.map (some A))/\w'.cell? ⟨aa,av+1,none⟩=some (.int .i64 1)/\(Instr.lookup 77 (.map (some A)) (.string ⟨#[98]⟩) false).run prog w'=.ok (.int .i64 1) w')) (last:=23) ay ?_;refine dF (i:=0) rfl l ?_;simp only[Act.put,bp,bs,bj];refine dF (i:=1) rfl l ?_;simp only[Act.put,bp,bs,bj];refine dF (i:=2) rfl l ?_;simp only[Act.put,bp,bs,bj];refine dF (i:=3) rfl l ?_;simp only[Act.put,bp,bs,bj];refine dF (i:=4) rfl l ?_;simp only[Act.put,bp,bs,bj];refine dF (i:=5) rfl l ?_;simp only[Act.put,bp,bs,bj];refine dF (i:=6) rfl l ?_;simp only[Act.put,bp,bs,bj];refine dF (i:=7) rfl l ?_;simp only[Act.put,bp,bs,bj];refine dF (i:=8) rfl l ?_;simp only[Act.put,bp,bs,bj];refine dF (i:=9) rfl l ?_;simp only[Act.put,bp,bs,bj];refine dF (i:=10) rfl l ?_;simp only[Act.put,bp,bs,bj];refine dF (i:=11) rfl l ?_;simp only[Act.put,bp,bs,bj];refine dF (i:=12) rfl l ?_;simp only[Act.put,bp,bs,bj];refine dF (i:=13) rfl l ?_;simp only[Act.put,bp,bs,bj];refine dF (i:=14) rfl l ?_;simp only[Act.put,bp,bs,bj];refine dF (i:=15) rfl l ?_;simp only[Act.put,bp,bs,bj];refine dF (i:=16) rfl l ?_;simp only[Act.put,bp,bs,bj];refine dF (i:=17) rfl l ?_;simp only[Act.put,bp,bs,bj];refine dF (i:=18) rfl l ?_;simp only[Act.put,bp,bs,bj];refine dF (i:=19) rfl l ?_;simp only[Act.put,bp,bs,bj];refine dF (i:=20) rfl l ?_;simp only[Act.put,bp,bs,bj];refine dF (i:=21) rfl l ?_;simp only[Act.put,bp,bs,bj];refine g6 (i:=22) ay rfl (fun ht f1=> ?_);go_simp;refine f1.out _ _ (fun _=>f7) (fun _=> ?_);try simp only[Act.put,bp,bs,bj]
    refine g6 (i:=23) ay rfl (fun hu f2=> ?_);go_simp;refine f2.out _ _ (fun ao=>absurd rfl ao) (fun _=> ?_);try simp only[Act.put,bp,bs,bj]
    refine su ay ?_ _;clear f1 f2 ht hu;all_goals
     (rw[show IntKind.i64.wrap 1=1 from aw]
      obtain⟨c0,b2⟩:=aj ((n.alloc (.cells #[.int .i64 1,.int .i64 1,.slice none 0 0] 212)).drew);rw[<-b2];have c2:Below n.heap.size n c0:=by rw[b2];exact az.drew
      have bb:c0.heap[n.heap.size]?=some (.cells #[.int .i64 1,.int .i64 1,.slice none 0 0] 212):=by rw[b2];exact aC n _
      have a7:=ai 0 bb;have hw:=ai 1 bb;have hx:=ai 2 bb;have lc:=(c2.cell (p:=⟨h.heap.size,2,none⟩) (by show h.heap.size<_;have:=co.out.size;have:=C.o.size;have:=hq.o;omega)).trans hl;obtain⟨ez,cp⟩:=aE bb c2;clear b2 c2 bb hl i9 l f7 cu;go_wp2_with fail
      refine(Pq c0).mono ?_;rintro f ae ⟨rfl,a5⟩;have c3:=(a5.block _ (aL ez.out)).trans ez.out;have fr:Below h.heap.size h ae:=aD (aD (aD co.out C.o) cp.out) a5;have e9:Below e.heap.size e ae:=cl.out.trans ((aD (aD C.o cp.out) a5).mono cl.out.size);obtain⟨iT,hQ,ii,io,iv⟩:=cL oG;obtain⟨ci,ea⟩:=aj (ae.alloc (.cells #[.string ⟨#[98]⟩] 9));have a6:Below ae.heap.size ae ci:=by rw[ea];exact az
      have h1:=dt ae [.string ⟨#[98]⟩] 9 _ rfl;have bB:=(a6.block _ (aL c3)).trans c3;have c1:=aD fr a6;have bw:=aD e9 a6;have dz:bn ci prog 3 M 1 (eO (fun _=>none) (.int .i64 0) kL):=e2.o.of_block ((aD (aD (aD C.o cp.out) a5) a6).block _ e2.o.lt);have eE:Hid (∀t gc J,J.ownsRow e.heap.size 9 1 (.slice (some ⟨t,0,none⟩) 1 gc) 1 [.string ⟨#[98]⟩]->ci.grownBy J none->(J.cell? ⟨n.heap.size,2,none⟩=some (.slice none 0 0)/\J.frozen? ⟨n.heap.size,2,none⟩=false)/\
       (∀D,D=J.setCell ⟨n.heap.size,2,none⟩ (.slice (some ⟨t,0,none⟩) 1 gc)->D.heap[n.heap.size]?=some (.cells #[.int .i64 1,.int .i64 1,.slice (some ⟨t,0,none⟩) 1 gc] 212)/\Below h.heap.size h D/\Below e.heap.size e D/\bn D prog 3 M 1 (eO (fun _=>none) (.int .i64 0) kL)/\D.ownsRow e.heap.size 9 1 (.slice (some ⟨t,0,none⟩) 1 gc) 1 [.string ⟨#[98]⟩])):=ah (fun t gc J g3 s=>by
       have bE:=(s.block _ (aL bB) ak).trans bB;refine⟨⟨ai 2 bE,aQ bE 2⟩,fun D hD=> ?_⟩;have g0:h.heap.size<=n.heap.size/\e.heap.size<=n.heap.size:=⟨aR co.out.size C.o.size,aR cl.out.size C.o.size⟩;have d5:M≠n.heap.size:=fun f=>by obtain⟨fG,fx,F⟩:=dz.block;rw[f,bB]at F;cases F
       rw[hD];exact⟨bL _ _ 2 _ bE,(c1.grown s c1.size (fun q f=>by cases f)).setCell g0.1 _,(bw.grown s bw.size (fun q f=>by cases f)).setCell g0.2 _,(dz.kept s ak).of_block (aX _ _ _ _ _ d5),aY g3 (fun g hP=>aX _ _ _ _ _ (fun f=>iD g3 bE aw (by rw[hP,f])))⟩)
      have fT:e.heap.size<=ci.heap.size:=bw.size;rw[ea]at eE fT;clear c3 fr e9 ea a6 bB c1 bw dz a5 a7 hw hx;go_wp2_with(first
       |(at_builtin;go_must (refine mc _ rfl _ _ 66 rfl e.heap.size 9 iT _ 1 16 jE hQ ii io iv rfl ad (.slice none 0 0) 0 [] rfl (cR _ _ _ _) ⟨ae.heap.size,0,none⟩ 1 1 [.string ⟨#[98]⟩] rfl rfl h1 (fun z bg=>by simp at bg;subst bg;rfl) ad bN ad fT _ rfl ?_);intro t gc J g7 gs hK du;obtain⟨⟨jc,jd⟩,gb⟩:=eE.o t gc J g7 gs;obtain⟨D,c7⟩:=aj (J.setCell ⟨n.heap.size,2,none⟩ (.slice (some ⟨t,0,none⟩) 1 gc));obtain⟨ba,fs,fb,d0,g4⟩:=gb D c7;have u0:=ai 0 ba;have u1:=ai 1 ba;have u2:=ai 2 ba;have hS:=Pz d0;obtain⟨⟨j3,j4,j5⟩,fu,fc,b5,g5,fy⟩:=PC ba fs fb d0 g4 (W14:=D.alloc (.cells #[.int .i64 0,.int .i64 0,.slice none 0 0] 212)) rfl;have ex:=ah fu;have en:=ah fc;have cN:=ah g5;have cq:=ah fy;clear gb g7 gs hK ba fs fb g4 fu fc g5 fy)
       |(rw[<-c7];clear c7 jc jd)
       |(at_mapUpdate;go_must (refine nW b5 rfl _ _ _ 221 rfl 212 (ge cX) Ab rfl bN _ _ _ rfl rfl cD (ds 1 ad) ?_);intro eg hU P;have bF:=(P.block _ (aL cq.out) (fun f=>by injection f with f;obtain⟨fG,fx,F⟩:=b5.block;rw[<-f,cq.out]at F;cases F)).trans cq.out;have k5:=ai 0 bF;have k7:=ai 1 bF;have la:=ai 2 bF;have hr:=ah P;have e0:=ah b5.block;clear hU P bF u0 u1 u2 hS d0 j3 j4 j5 b5)
       |fail)
      have P:=hr.o;have hv:Below h.heap.size h _:=ex.out;obtain⟨ks,k3,i2,g8⟩:∃B ab k,dI _ (e.heap.size+1) (e.heap.size+2) e.heap.size B ab k 1 0 []:=⟨_,_,_,hs.o.below ex.out⟩;have b6:=EK g8 P e0.o;have fg:=en.out.grown P en.out.size (fun q f=>by cases f;exact eB.o);have be:Calls prog 125 #[.pointer (some ⟨e.heap.size+1,0,none⟩),.agg #[.int .i64 1,.int .i64 1,.slice (some ⟨t,0,none⟩) 1 gc]] eg (si eg (e.heap.size+1) (e.heap.size+2) e.heap.size 1 ⟨1,1,some ⟨t,0,none⟩,1,gc⟩):=DX eg _ _ _ i2 1 _ _ ⟨1,1,some ⟨t,0,none⟩,1,gc⟩ b6 ad;have d6:=aY cN.o (fun g s=>P.block g (aV cN.o s).2 (Py cN.o e0.o s));refine be.mono ?_;rintro f je ⟨rfl,g9,dr⟩;have bt:Hid (yW e M je):=ah ⟨t,gc,⟨ca.base b6 fg ad ad dr,g9⟩,aY d6 (fun g s=>(dr.kp.same g (row_sq b6 d6 s)).2)⟩;clear be g9 dr d6 b6 fg g8 hv P;go_wp2_with fail
      exact⟨.inr ⟨rfl,bt.o⟩,by simp[intOf]⟩)
   ·have hm:=ah fN
    clear fN
    go_wp2
    go_roundg 1
    case rel=>exact .inr ⟨rfl,hm.o⟩
    case measure=>omega
  ·obtain⟨g,c,⟨bd,B,ab,eb,Y⟩,he⟩:=hI
   have bf:Calls prog 126 #[.pointer (some ⟨e.heap.size+1,0,none⟩)] wr (fun f w'=>f=.returned (.tuple #[.agg #[.int .i64 1,.int .i64 1,.slice (some ⟨g,0,none⟩) 1 c],.int .i64 0])/\(∃B ab k,dI w' (e.heap.size+1) (e.heap.size+2) e.heap.size B ab k 2 0 [])/\ca (e.heap.size+1) wr w'):=DZ wr _ _ _ eb 2 1 _ _ ⟨1,1,some ⟨g,0,none⟩,1,c⟩ Y;obtain⟨a3,a2,cx,e8⟩:=cI bf Y bd he;clear bf Y bd he;go_wp2_with fail
   refine a3.o.mono ?_;rintro f h ⟨rfl,⟨i0,jb,i3,b7⟩,W⟩;clear a3;have V:=ca.base a2.o cx.o ad ad W;have d7:=aY e8.o (fun g s=>(W.kp.same g (row_sq a2.o e8.o s)).2);obtain⟨m,E⟩:=aj (h.alloc (.cells #[.int .i64 1,.int .i64 1,.slice (some ⟨g,0,none⟩) 1 c] 212));have N:Below h.heap.size h m:=by rw[E];exact az
   have O:m.heap[h.heap.size]?=some (.cells #[.int .i64 1,.int .i64 1,.slice (some ⟨g,0,none⟩) 1 c] 212):=by rw[E];exact aC h _
   have I:Below e.heap.size e m:=V.trans (N.mono V.size);have d:=(I.block _ (aL bo.out)).trans bo.out;have a9:=ai 2 d;have af:=ai 0 O;have bm:=ai 2 O;have ko:=(eN.o.below I).fin1;have bt:Hid (cA m w.heap.size (.slice (some ⟨g,0,none⟩) 1 c) [[98]]/\kK L ag H A K a4 (some ⟨b,hj,none⟩) cap [G,T] w m):=ah ⟨fY (aY d7 (fun g s=>N.block g (aV d7 s).2)) (aR cs.o.2.2.size (aB _)),cs.o.below I⟩;clear V W b7 d7 N O I d;go_wp2_with(first|(rw[<-E];clear E)|fail)
   go_ret2
   exact⟨⟨g,c,rfl,bt.o.1⟩,bt.o.2⟩
 ·exact absurd b8 (by rw[Z];exact EJ)
end Go.Proofs.YtbacloblanpghaaGreatDoor
