import Derived.Test.YtnadadbndcdolaaGreatDoorQbn
set_option linter.unusedVariables false
set_option linter.unusedSimpArgs false
set_option maxRecDepth 100000
set_option maxHeartbeats 0
namespace Go.Proofs.YtnadadbndcdolaaGreatDoor
open Go.RowKit Tryz
def tU(b:World)(S:Pr->Prop)(n:Nat)(d c:Value)(wr:World):Prop:=
 ∃(j:Nat) (a:List Pr),c=.int .i64 (j:Nat)/\j<=n/\a.length=j/\eO wr b.heap.size d a/\(∀q∈a,S q)/\Below b.heap.size b wr
theorem Ax{w:World}{B:Nat}{v:Value}{a:List Pr}{p:Pr}{n:Nat}(c:a.length=n)(b:w.ownsRow B 106 2 v (n+1) (dY a++fe p)):eO w B v (a++[p]):=by unfold eO;rw[cR,Gf,c];simpa[dY]using b
theorem Q6(S:Pr->Prop)(K M U:Nat){ev ew:List aj}{er es:List St}{D E:List (List Nat)}{r f1 s f2 aa ab:Nat}{eD e2 eE e3:Value}(L:List Pr)(u:Value)(x y:Nat)(t v:List Nat)(bi:D[x]?=some t)(bl:E[y]?=some v)(fq:D.length<=256)(fr:E.length<=256)(fg:t.length<=1024)(fl:v.length<=1024)(e9:L.length<=1024)
 (ch:∀p∈L,∃a b,t[p.1]?=some a/\v[p.1]?=some b/\a<256/\b<256/\S (a,b)) (w:World) (bf:w.heap[U]?=some (.cells #[u] 175)) (Y:lQ w u L)
 (bc:w.heap[K]?=some (.cells #[eD,.slice (some ⟨r,0,none⟩) D.length aa,e2] 174)) (bd:w.heap[M]?=some (.cells #[eE,.slice (some ⟨s,0,none⟩) E.length ab,e3] 174)) (bZ:jW w ev er D r f1) (b0:jW w ew es E s f2):
 Calls prog 167 #[.agg #[.int .i64 (x:Nat),.int .i64 (y:Nat)],.pointer (some ⟨U,0,none⟩),.pointer (some ⟨K,0,none⟩),.pointer (some ⟨M,0,none⟩)] w (tQ S w):=by
 obtain⟨o,c,rfl,fc,c9,b1⟩:=Y;obtain⟨l,ci,J,N⟩:=cm w (.cells #[.int .i64 (x:Nat),.int .i64 (y:Nat)] 106);have fs:=(aL.1 bi).1;have fu:=(aL.1 bl).1;have u0:=ai 0 ((J.block _ (ax bf)).trans bf);unfold maxLen at c9;have cv:Hid (∀d,Below l.heap.size l d->∀q p,L[q]?=some p->∃g,o=some ⟨g,0,none⟩/\d.rangeAt g (q*4) (wdRow p)):=ah fun d C q p H=>by obtain⟨g,ba,ds,eg⟩:=b1 (by have:=(aL.1 H).1;omega);exact⟨g,ba,il (eg q p H) ds (J.trans (C.mono J.size))⟩
 have a6:Hid (∀d,Below l.heap.size l d->(d.cell? ⟨w.heap.size,0,none⟩=some (.int .i64 (x:Nat))/\d.cell? ⟨w.heap.size,1,none⟩=some (.int .i64 (y:Nat)))/\(d.cell? ⟨K,1,none⟩=some (.slice (some ⟨r,0,none⟩) D.length aa)/\d.cell? ⟨M,1,none⟩=some (.slice (some ⟨s,0,none⟩) E.length ab))/\
  ∀(i a b:Nat),t[i]?=some a->v[i]?=some b->∃m d1 n d2,d.cell? ⟨r,x,none⟩=some (.slice (some ⟨m,0,none⟩) t.length d1)/\d.cell? ⟨m,i,none⟩=some (.int .i64 (a:Nat))/\d.cell? ⟨s,y,none⟩=some (.slice (some ⟨n,0,none⟩) v.length d2)/\d.cell? ⟨n,i,none⟩=some (.int .i64 (b:Nat))):=ah fun d C=>by
  have aq:Below w.heap.size w d:=J.trans (C.mono J.size);have bE:=(C.block _ (ax N)).trans N;have c4:=(aq.block _ (ax bc)).trans bc;have c5:=(aq.block _ (ax bd)).trans bd;refine⟨⟨ai 0 bE,ai 1 bE⟩,⟨ai 1 c4,ai 1 c5⟩,fun i a b P b6=> ?_⟩;obtain⟨fG,d1,ae,bq⟩:=(bZ.below aq).next x t bi;obtain⟨m,rfl,_,af⟩:=bq i a P;obtain⟨fN,d2,bt,eB⟩:=(b0.below aq).next y v bl;obtain⟨n,rfl,_,eC⟩:=eB i b b6;exact⟨m,d1,n,d2,ae,af,bt,eC⟩
 obtain⟨a5,cG⟩:=aD J ch;clear b1 J N bf bc bd bZ b0 ch bi bl;go_enter func167,ntmps167
 go_wp2_with(first|(rw[<-ci];clear ci)|fail)
 clear u0;go_loopw [6,12] (fun ex bo wr=>tU l S L.length ex bo wr) (fun _ bo _=>L.length-(intOf bo).toNat)
 case atStart=>exact⟨0,[],rfl,aZ _,rfl,dc _ _ _ _,ak,aE _ _⟩
 case round=>
 obtain⟨j,f,rfl,fd,c7,G,ao,O⟩:=hrel;subst c7;obtain⟨go,gc,rfl⟩:=bL G;by_cases b9:f.length<L.length
 ·obtain⟨p,bg⟩:∃p,L[f.length]?=some p:=⟨_,aH b9⟩
  obtain⟨g,rfl,ek⟩:=cv.o wr O f.length p bg;obtain⟨a,b,P,C,fb,b6,b3⟩:=cG.o p (aX bg);have fy:(0:Int)<=f.length:=ad;have fz:(f.length:Int)<(L.length:Int):=ad;obtain⟨cp,a2,bD⟩:=dF wr (.cells #[.int .i64 0,.int .i64 0,.int .i64 0,.int .i64 0] 180);have eN:cp.there wr.heap.size 0 4:=by rw[a2];exact jt (cs:=wdRow (0,0)) (ty:=180) (aB wr _) (az _)
  have cq:Hid (∀e,dU cp e wr.heap.size 0 (wdRow p)->Below l.heap.size l e/\e.rangeAt wr.heap.size 0 (wdRow p)/\wr.heap.size<e.heap.size/\eO e l.heap.size (.slice go f.length gc) f):=ah fun e Y=>by have Z:=Y.below bD (az _);exact⟨aO O Z,Y.here,by rw[Y.size,a2];simp,aP G (fun q H=>Z.block q (aF G H).2)⟩
  obtain⟨bB,bz⟩:=aD b3 ao;obtain⟨i,k⟩:=p;simp only at P C;have e4:Hid (l.heap.size<=wr.heap.size):=ah O.size;clear bg bD O b3 ao G;go_wp2_with(first
   |(rw[<-a2];clear a2)
   |((with_reducible apply dj (ty:=180));exact rfl;exact rfl;exact rfl;assumption;exact rT;exact rfl;exact kZ)
   |(((with_reducible apply cQ (ty:=180));exact rfl;exact rfl;exact rfl;exact rfl;assumption;exact kZ;exact tN _);intro e b5;obtain⟨Z,cd,co,ca⟩:=cq.o e b5;have R:=ah Z;have a7:=ah ca;have bA:=ah cd;have bC:=ah co;clear Z cd co ca b5 eN ek)
   |fail)
  obtain⟨⟨eV,e0⟩,⟨a1,c1⟩,b7⟩:=a6.o e.drew R.o.drew;obtain⟨m,d1,n,d2,ae,bq,af,bt⟩:=b7 i a b P C;have fv:(0:Int)<=i:=ad;have fw:(i:Int)<t.length:=by have:=(aL.1 P).1;omega
  have fx:(i:Int)<v.length:=by have:=(aL.1 C).1;omega
  have gb:(0:Int)<=x:=ad;have gf:(x:Int)<D.length:=ad;have gg:(0:Int)<=y:=ad;have gl:(y:Int)<E.length:=ad;have T:Hid (∀d,Below e.heap.size e d->d.cell? ⟨K,1,none⟩=some (.slice (some ⟨r,0,none⟩) D.length aa)/\d.cell? ⟨w.heap.size,0,none⟩=some (.int .i64 (x:Nat))/\d.cell? ⟨r,x,none⟩=some (.slice (some ⟨m,0,none⟩) t.length d1)/\d.cell? ⟨wr.heap.size,0,none⟩=some (.int .i64 (i:Nat))/\d.cell? ⟨m,i,none⟩=some (.int .i64 (a:Nat))/\
   d.cell? ⟨M,1,none⟩=some (.slice (some ⟨s,0,none⟩) E.length ab)/\d.cell? ⟨w.heap.size,1,none⟩=some (.int .i64 (y:Nat))/\d.cell? ⟨s,y,none⟩=some (.slice (some ⟨n,0,none⟩) v.length d2)/\d.cell? ⟨wr.heap.size,1,none⟩=some (.int .i64 (i:Nat))/\d.cell? ⟨n,i,none⟩=some (.int .i64 (b:Nat))):=ah fun d av=>by
   obtain⟨⟨eZ,e1⟩,⟨c0,c2⟩,dr⟩:=a6.o d (aO R.o av);obtain⟨e7,e5,e8,e6,A,ez,B,eA⟩:=dr i a b P C;have N:d.cell? ⟨r,x,none⟩=some (.slice (some ⟨m,0,none⟩) t.length d1):=by obtain⟨⟨_,_⟩,⟨_,_⟩,_⟩:=a6.o e.drew R.o.drew;have:=(av.cell (p:=⟨r,x,none⟩) (nU e.drew _ ae)).trans ae;exact this
   rw[N]at A;injection A with A
   injection A with A _ _
   injection A with A
   injection A with A _ _
   have bF:d.cell? ⟨s,y,none⟩=some (.slice (some ⟨n,0,none⟩) v.length d2):=(av.cell (p:=⟨s,y,none⟩) (nU e.drew _ af)).trans af;rw[bF]at B;injection B with B
   injection B with B _ _
   injection B with B
   injection B with B _ _
   have ce:=il bA.o bC.o av;exact⟨c0,eZ,N,ce 0 _ rfl,by rw[A];exact ez,c2,e1,bF,ce 1 _ rfl,by rw[B];exact eA⟩
  clear eV e0 a1 c1 b7 ae bq af bt;have h:=T.o e.drew (aE _ e).drew;have b4:=T.o (e.drew.alloc (.cells #[.int .i64 0,.int .i64 0] 106)) ((aE _ e).drew.alloc (az _) _);refine oQ (S:=(fun d=>d.cell? ⟨K,1,none⟩=some (.slice (some ⟨r,0,none⟩) D.length aa)/\d.cell? ⟨w.heap.size,0,none⟩=some (.int .i64 (x:Nat))/\d.cell? ⟨r,x,none⟩=some (.slice (some ⟨m,0,none⟩) t.length d1)/\d.cell? ⟨wr.heap.size,0,none⟩=some (.int .i64 (i:Nat))/\d.cell? ⟨m,i,none⟩=some (.int .i64 (a:Nat))/\
   d.cell? ⟨M,1,none⟩=some (.slice (some ⟨s,0,none⟩) E.length ab)/\d.cell? ⟨w.heap.size,1,none⟩=some (.int .i64 (y:Nat))/\d.cell? ⟨s,y,none⟩=some (.slice (some ⟨n,0,none⟩) v.length d2)/\d.cell? ⟨wr.heap.size,1,none⟩=some (.int .i64 (i:Nat))/\d.cell? ⟨n,i,none⟩=some (.int .i64 (b:Nat)))) (last:=12) aA ?_
  (refine br (i:=0) rfl h ?_;simp only[Act.put,aM,aN,aK,cy,cz,cA];refine br (i:=1) rfl h ?_;simp only[Act.put,aM,aN,aK,cy,cz,cA];refine br (i:=2) rfl h ?_;simp only[Act.put,aM,aN,aK,cy,cz,cA];refine br (i:=3) rfl h ?_;simp only[Act.put,aM,aN,aK,cy,cz,cA];refine br (i:=4) rfl h ?_;simp only[Act.put,aM,aN,aK,cy,cz,cA];refine br (i:=5) rfl h ?_;simp only[Act.put,aM,aN,aK,cy,cz,cA];refine br (i:=6) rfl h ?_;simp only[Act.put,aM,aN,aK,cy,cz,cA];refine br (i:=7) rfl h ?_;simp only[Act.put,aM,aN,aK,cy,cz,cA];refine br (i:=8) rfl h ?_;simp only[Act.put,aM,aN,aK,cy,cz,cA];refine br (i:=9) rfl h ?_;simp only[Act.put,aM,aN,aK,cy,cz,cA];refine br (i:=10) rfl h ?_;simp only[Act.put,aM,aN,aK,cy,cz,cA])
  refine gn (i:=11) aA rfl (fun a8 X=> ?_);go_simp;refine X.out _ _ (fun _=>b4) (fun _=> ?_);try simp only[Act.put,aM,aN,aK]
  refine gn (i:=12) aA rfl (fun cN b2=> ?_);go_simp;refine b2.out _ _ (fun F=>absurd rfl F) (fun _=> ?_);try simp only[Act.put,aM,aN,aK]
  refine oP aA ?_ _;clear X b2 a8 cN;clear h b4;obtain⟨d,a4⟩:=ar ((e.alloc (.cells #[.int .i64 (a:Nat),.int .i64 (-1)] 106)).drew);rw[<-a4];have al:Below e.heap.size e d:=by rw[a4];exact aG.drew
  have an:d.heap[e.heap.size]?=some (.cells #[.int .i64 (a:Nat),.int .i64 (-1)] 106):=by rw[a4];exact aB e _
  clear a4;obtain⟨-,-,-,-,-,-,t1,-,t2,-⟩:=T.o d al;have h:=T.o d.drew al.drew;have eU:d.drew.cell? ⟨e.heap.size,1,none⟩=some (.int .i64 (-1)):=ai 1 an;have c3:d.drew.frozen? ⟨e.heap.size,1,none⟩=false:=aT (w:=d.drew) an 1;obtain⟨bw,bu⟩:=aD al an;clear al an;go_wp2_with fail
  clear t1 t2;refine oQ (S:=(fun d=>d.cell? ⟨K,1,none⟩=some (.slice (some ⟨r,0,none⟩) D.length aa)/\d.cell? ⟨w.heap.size,0,none⟩=some (.int .i64 (x:Nat))/\d.cell? ⟨r,x,none⟩=some (.slice (some ⟨m,0,none⟩) t.length d1)/\d.cell? ⟨wr.heap.size,0,none⟩=some (.int .i64 (i:Nat))/\d.cell? ⟨m,i,none⟩=some (.int .i64 (a:Nat))/\
   d.cell? ⟨M,1,none⟩=some (.slice (some ⟨s,0,none⟩) E.length ab)/\d.cell? ⟨w.heap.size,1,none⟩=some (.int .i64 (y:Nat))/\d.cell? ⟨s,y,none⟩=some (.slice (some ⟨n,0,none⟩) v.length d2)/\d.cell? ⟨wr.heap.size,1,none⟩=some (.int .i64 (i:Nat))/\d.cell? ⟨n,i,none⟩=some (.int .i64 (b:Nat)))) (last:=11) aA ?_
  (refine br (i:=0) rfl h ?_;simp only[Act.put,aM,aN,aK,cy,cz,cA];refine br (i:=1) rfl h ?_;simp only[Act.put,aM,aN,aK,cy,cz,cA];refine br (i:=2) rfl h ?_;simp only[Act.put,aM,aN,aK,cy,cz,cA];refine br (i:=3) rfl h ?_;simp only[Act.put,aM,aN,aK,cy,cz,cA];refine br (i:=4) rfl h ?_;simp only[Act.put,aM,aN,aK,cy,cz,cA];refine br (i:=5) rfl h ?_;simp only[Act.put,aM,aN,aK,cy,cz,cA];refine br (i:=6) rfl h ?_;simp only[Act.put,aM,aN,aK,cy,cz,cA];refine br (i:=7) rfl h ?_;simp only[Act.put,aM,aN,aK,cy,cz,cA];refine br (i:=8) rfl h ?_;simp only[Act.put,aM,aN,aK,cy,cz,cA];refine br (i:=9) rfl h ?_;simp only[Act.put,aM,aN,aK,cy,cz,cA];refine br (i:=10) rfl h ?_;simp only[Act.put,aM,aN,aK,cy,cz,cA])
  refine gn (i:=11) aA rfl (fun a8 X=> ?_);go_simp;refine X.out _ _ (fun F=>absurd rfl F) (fun _=> ?_);try simp only[Act.put,aM,aN,aK]
  refine oP aA ?_ _;clear X a8 h eU c3;obtain⟨I,a3⟩:=ar ((d.setCell ⟨e.heap.size,1,none⟩ (.int .i64 (b:Nat))).drew);rw[<-a3];have bv:Below e.heap.size e I:=by rw[a3];exact(bw.o.setCell (az _) _).drew
  have bb:I.heap[e.heap.size]?=some (.cells #[.int .i64 (a:Nat),.int .i64 (b:Nat)] 106):=by rw[a3];exact bn d _ 1 _ bu.out
  clear a3;have fT:=ai 0 bb;have ga:=ai 1 bb;obtain⟨ag,a0⟩:=ar (I.alloc (.cells #[.int .i64 (a:Nat),.int .i64 (b:Nat)] 106));have a9:Below e.heap.size e ag:=bv.trans ((show Below I.heap.size I ag by rw[a0];exact aG).mono bv.size);have cb:ag.ownsRow l.heap.size 106 2 (.slice go f.length gc) f.length (dY f):=aP a7.o (fun q H=>a9.block q (aF a7.o H).2);have ed:∀j u,[Value.int .i64 (a:Nat),.int .i64 (b:Nat)][j]?=some u->ag.cell? ((⟨I.heap.size,0,none⟩:Addr).add j)=some u:=by rw[a0];exact dK I [.int .i64 (a:Nat),.int .i64 (b:Nat)] 106 _ rfl
  have be:=aO R.o a9;have bN:=be.size;obtain⟨eo,eb,el,em,en⟩:=cY tO;have cF:Hid (∀(V W:Nat) (Q:World),Q.ownsRow l.heap.size 106 2 (.slice (some ⟨V,0,none⟩) (f.length+1) W) (f.length+1) (dY f++fe (a,b))->ag.grownBy Q (Value.slice go f.length gc).ownBlock->tU l S L.length (.slice (some ⟨V,0,none⟩) (f.length+1) W) (.int .i64 ((f.length:Int)+1)) Q):=ah fun V W Q G ea=>
   ⟨f.length+1,f++[(a,b)],aV,b9,ak,Ax rfl G,fun q H=>by
     rcases fA.1 H with F|F
     ·exact bz.o q F
     ·simp at F;subst F;exact bB.o,be.grown ea bN (fun q ba=>(aF cb ba).1)⟩
  clear bw bu bv bb a9 be R a7 bA bC T bB bz;go_wp2_with(first
   |(rw[<-a0];clear a0)
   |(at_builtin;refine is _ rfl _ _ 112 rfl l.heap.size 106 eo _ 2 16 uM eb el em en rfl ad (.slice go f.length gc) f.length (dY f) rfl cb ⟨I.heap.size,0,none⟩ 1 1 [.int .i64 (a:Nat),.int .i64 (b:Nat)] rfl rfl ed (fun z cl=>by simp at cl;rcases cl with rfl|rfl<;>rfl) ad bI ad bN _ rfl ?_;intro V W Q cc b8 c8 ec;have cx:=ah (cF.o V W Q cc b8);clear cc b8 c8 ec)
   |fail)
  go_roundw
  case rel=>exact cx.o
  case measure=>exact bh
 ·have c6:(f.length:Int)=(L.length:Int):=ad
  have fo:¬((f.length:Int)<(L.length:Int)):=ad;have cu:Hid (tQ S w (.returned (.slice go f.length gc)) wr):=ah ⟨a5.out.trans (O.mono a5.out.size),_,f,rfl,dR G a5.out.size,ad,ao⟩;clear c6 G ao O
  go_wp2
  go_ret;exact cu.o
theorem Q7(S:Pr->Prop)(R U F M:Nat)(a6:Array Value)(e9:∀(args:Array Value) (b:World),(callFunc M args).run prog b=.ok (.enter M args) b){eD:List aj}{eC:List St}{E:List (List Nat)}{v f1 bi:Nat}{eZ e6:Value}(L:List Pr)(u:Value)(b5:Pr->Bool)(x q:Nat)(B:q<=2)(A:List Nat)(b2:E[x]?=some A)(fw:E.length<=256)(fq:A.length<=1024)(fd:L.length<=1024)
 (c4:∀p∈L,∃a,A[p.1]?=some a/\a<256/\S (a,q)/\S (a,min (q+1) 2)) (w:World) (bE:w.heap[U]?=some (.cells #[u] 175)) (hF:w.heap[F]?=some (.cells #[.func (.func M) #[] a6] 181)) (Y:lQ w u L)
 (bB:w.heap[R]?=some (.cells #[eZ,.slice (some ⟨v,0,none⟩) E.length bi,e6] 174)) (ch:jW w eD eC E v f1) (c0:∀p∈L,∀b,Below w.heap.size w b->k6 M a6 b5 p b):
 Calls prog 175 #[.agg #[.int .i64 (x:Nat),.int .i64 (q:Nat)],.pointer (some ⟨U,0,none⟩),.pointer (some ⟨R,0,none⟩),.pointer (some ⟨F,0,none⟩)] w (tQ S w):=by
 obtain⟨o,c,rfl,fl,es,ci⟩:=Y;obtain⟨h,c5,I,K⟩:=cm w (.cells #[.int .i64 (x:Nat),.int .i64 (q:Nat)] 106);have fx:=(aL.1 b2).1;have u0:=ai 0 ((I.block _ (ax bE)).trans bE);unfold maxLen at es;have b6:Hid (∀b,Below h.heap.size h b->∀q p,L[q]?=some p->∃g,o=some ⟨g,0,none⟩/\b.rangeAt g (q*4) (wdRow p)):=ah fun b a9 q p B=>by obtain⟨g,a7,ew,ez⟩:=ci (by have:=(aL.1 B).1;omega);exact⟨g,a7,il (ez q p B) ew (I.trans (a9.mono I.size))⟩
 have ao:Hid (∀b,Below h.heap.size h b->(b.cell? ⟨w.heap.size,0,none⟩=some (.int .i64 (x:Nat))/\b.cell? ⟨w.heap.size,1,none⟩=some (.int .i64 (q:Nat)))/\(b.cell? ⟨R,1,none⟩=some (.slice (some ⟨v,0,none⟩) E.length bi)/\b.cell? ⟨F,0,none⟩=some (.func (.func M) #[] a6))/\
  ∀(i a:Nat),A[i]?=some a->∃r d1,b.cell? ⟨v,x,none⟩=some (.slice (some ⟨r,0,none⟩) A.length d1)/\b.cell? ⟨r,i,none⟩=some (.int .i64 (a:Nat))):=ah fun b a9=>by
  have bN:Below w.heap.size w b:=I.trans (a9.mono I.size);have cd:=(a9.block _ (ax K)).trans K;have em:=(bN.block _ (ax bB)).trans bB;have en:=(bN.block _ (ax hF)).trans hF;refine⟨⟨ai 0 cd,ai 1 cd⟩,⟨ai 1 em,ai 0 en⟩,fun i a O=> ?_⟩;obtain⟨fT,d1,ag,b4⟩:=(ch.below bN).next x A b2;obtain⟨r,rfl,_,eU⟩:=b4 i a O;exact⟨r,d1,ag,eU⟩
 obtain⟨T,b9,b7⟩:=bH I c4 c0;clear ci I K bE bB ch c4 b2 c0 hF;go_enter func175,ntmps175
 go_wp2_with(first|(rw[<-c5];clear c5)|fail)
 clear u0;go_loopw [6,12] (fun eE b3 wr=>tU h S L.length eE b3 wr) (fun _ b3 _=>L.length-(intOf b3).toNat)
 case atStart=>exact⟨0,[],rfl,aZ _,rfl,dc _ _ _ _,ak,aE _ _⟩
 case round=>
 obtain⟨j,e,rfl,fo,er,D,a8,W⟩:=hrel;subst er;obtain⟨go,gc,rfl⟩:=bL D;by_cases cN:e.length<L.length
 ·obtain⟨p,bd⟩:∃p,L[e.length]?=some p:=⟨_,aH cN⟩
  obtain⟨g,rfl,eA⟩:=b6.o wr W e.length p bd;obtain⟨a,O,fg,cp,cu⟩:=b9.o p (aX bd);have b8:Hid (∀b,Below w.heap.size w b->k6 M a6 b5 p b):=ah (b7.o p (aX bd));have fG:(0:Int)<=e.length:=ad;have fN:(e.length:Int)<(L.length:Int):=ad;obtain⟨ds,bf,cc⟩:=dF wr (.cells #[.int .i64 0,.int .i64 0,.int .i64 0,.int .i64 0] 180);have e0:ds.there wr.heap.size 0 4:=by rw[bf];exact jt (cs:=wdRow (0,0)) (ty:=180) (aB wr _) (az _)
  have ea:Hid (∀f,dU ds f wr.heap.size 0 (wdRow p)->Below h.heap.size h f/\f.rangeAt wr.heap.size 0 (wdRow p)/\wr.heap.size<f.heap.size/\eO f h.heap.size (.slice go e.length gc) e):=ah fun f Y=>by have aa:=Y.below cc (az _);exact⟨aO W aa,Y.here,by rw[Y.size,bf];simp,aP D (fun q B=>aa.block q (aF D B).2)⟩
  obtain⟨bu,bt,bq⟩:=bH cp cu a8;obtain⟨i,k⟩:=p;simp only at O;clear bd cc W cp a8 D cu;go_wp2_with(first
   |(rw[<-bf];clear bf)
   |((with_reducible apply dj (ty:=180));exact rfl;exact rfl;exact rfl;assumption;exact rT;exact rfl;exact kZ)
   |(((with_reducible apply cQ (ty:=180));exact rfl;exact rfl;exact rfl;exact rfl;assumption;exact kZ;exact tN _);intro f cv;obtain⟨aa,c2,c9,c1⟩:=ea.o f cv;have H:=ah aa;have aq:=ah c1;have a0:=ah c2;have a3:=ah c9;clear aa c2 c9 c1 cv e0 eA)
   |fail)
  obtain⟨⟨e2,e4⟩,⟨a1,ek⟩,cF⟩:=ao.o f.drew H.o.drew;obtain⟨r,d1,ag,b4⟩:=cF i a O;have fy:(0:Int)<=i:=ad;have fz:(i:Int)<A.length:=by have:=(aL.1 O).1;omega
  have gb:(0:Int)<=x:=ad;have gf:(x:Int)<E.length:=ad;have a2:Hid (∀b,Below f.heap.size f b->b.cell? ⟨R,1,none⟩=some (.slice (some ⟨v,0,none⟩) E.length bi)/\b.cell? ⟨w.heap.size,0,none⟩=some (.int .i64 (x:Nat))/\b.cell? ⟨v,x,none⟩=some (.slice (some ⟨r,0,none⟩) A.length d1)/\b.cell? ⟨wr.heap.size,0,none⟩=some (.int .i64 (i:Nat))/\b.cell? ⟨r,i,none⟩=some (.int .i64 (a:Nat))/\b.cell? ⟨w.heap.size,1,none⟩=some (.int .i64 (q:Nat))):=ah fun b bZ=>by
   obtain⟨⟨e3,e5⟩,⟨eg,e7⟩,ev⟩:=ao.o b (aO H.o bZ);obtain⟨fc,e8,y,eN⟩:=ev i a O;have K:b.cell? ⟨v,x,none⟩=some (.slice (some ⟨r,0,none⟩) A.length d1):=(bZ.cell (p:=⟨v,x,none⟩) (nU f.drew _ ag)).trans ag;rw[K]at y;injection y with y
   injection y with y _ _
   injection y with y
   injection y with y _ _
   have eB:=il a0.o a3.o bZ;exact⟨eg,e3,K,eB 0 _ rfl,by rw[y];exact eN,e5⟩
  clear e2 e4 a1 ek cF ag b4;have l:=a2.o f.drew (aE _ f).drew;have cq:=a2.o (f.drew.alloc (.cells #[.int .i64 0,.int .i64 0] 106)) ((aE _ f).drew.alloc (az _) _);refine oQ (S:=(fun b=>b.cell? ⟨R,1,none⟩=some (.slice (some ⟨v,0,none⟩) E.length bi)/\b.cell? ⟨w.heap.size,0,none⟩=some (.int .i64 (x:Nat))/\b.cell? ⟨v,x,none⟩=some (.slice (some ⟨r,0,none⟩) A.length d1)/\b.cell? ⟨wr.heap.size,0,none⟩=some (.int .i64 (i:Nat))/\b.cell? ⟨r,i,none⟩=some (.int .i64 (a:Nat))/\b.cell? ⟨w.heap.size,1,none⟩=some (.int .i64 (q:Nat)))) (last:=14) aA ?_;(refine br (i:=0) rfl l ?_;simp only[Act.put,aM,aN,aK,cy,cz,cA];refine br (i:=1) rfl l ?_;simp only[Act.put,aM,aN,aK,cy,cz,cA];refine br (i:=2) rfl l ?_;simp only[Act.put,aM,aN,aK,cy,cz,cA];refine br (i:=3) rfl l ?_;simp only[Act.put,aM,aN,aK,cy,cz,cA];refine br (i:=4) rfl l ?_;simp only[Act.put,aM,aN,aK,cy,cz,cA];refine br (i:=5) rfl l ?_;simp only[Act.put,aM,aN,aK,cy,cz,cA];refine br (i:=6) rfl l ?_;simp only[Act.put,aM,aN,aK,cy,cz,cA];refine br (i:=7) rfl l ?_;simp only[Act.put,aM,aN,aK,cy,cz,cA];refine br (i:=8) rfl l ?_;simp only[Act.put,aM,aN,aK,cy,cz,cA];refine br (i:=9) rfl l ?_;simp only[Act.put,aM,aN,aK,cy,cz,cA];refine br (i:=10) rfl l ?_;simp only[Act.put,aM,aN,aK,cy,cz,cA];refine br (i:=11) rfl l ?_;simp only[Act.put,aM,aN,aK,cy,cz,cA];refine br (i:=12) rfl l ?_;simp only[Act.put,aM,aN,aK,cy,cz,cA])
  refine gn (i:=13) aA rfl (fun ec cl=> ?_);go_simp;refine cl.out _ _ (fun _=>cq) (fun _=> ?_);try simp only[Act.put,aM,aN,aK]
  refine gn (i:=14) aA rfl (fun ed co=> ?_);go_simp;refine co.out _ _ (fun N=>absurd rfl N) (fun _=> ?_);try simp only[Act.put,aM,aN,aK]
  refine oP aA ?_ _;clear cl co ec ed l cq;obtain⟨b,bg⟩:=ar ((f.alloc (.cells #[.int .i64 (a:Nat),.int .i64 (q:Nat)] 106)).drew);rw[<-bg];have V:Below f.heap.size f b:=by rw[bg];exact aG.drew
  have ce:b.heap[f.heap.size]?=some (.cells #[.int .i64 (a:Nat),.int .i64 (q:Nat)] 106):=by rw[bg];exact aB f _
  clear bg;have eV:=il a0.o a3.o V;obtain⟨_,⟨_,el⟩,_⟩:=ao.o b (aO H.o V);have bz:=ah (b8.o b (T.out.trans ((aO H.o V).mono T.out.size)));unfold k6 at bz;obtain⟨a4,al⟩:=aD V ce;obtain⟨dr,cG,c6,c7,c8⟩:=cY tO;have an:Hid (∀(m:Nat) (C:World),S (a,m)->Below f.heap.size f C->∃G,G=C.alloc (.cells #[.int .i64 (a:Nat),.int .i64 (m:Nat)] 106)/\G.ownsRow h.heap.size 106 2 (.slice go e.length gc) e.length (dY e)/\(∀j u,[Value.int .i64 (a:Nat),.int .i64 (m:Nat)][j]?=some u->G.cell? ((⟨C.heap.size,0,none⟩:Addr).add j)=some u)/\h.heap.size<=G.heap.size/\
   (∀(s t:Nat) (n:World),n.ownsRow h.heap.size 106 2 (.slice (some ⟨s,0,none⟩) (e.length+1) t) (e.length+1) (dY e++fe (a,m))->G.grownBy n (Value.slice go e.length gc).ownBlock->tU h S L.length (.slice (some ⟨s,0,none⟩) (e.length+1) t) (.int .i64 ((e.length:Int)+1)) n)):=ah fun m C X bv=>by
   have cb:Below f.heap.size f (C.alloc (.cells #[.int .i64 (a:Nat),.int .i64 (m:Nat)] 106)):=bv.trans (((aE C.heap.size C).alloc (az _) _).mono bv.size);have P:(C.alloc (.cells #[.int .i64 (a:Nat),.int .i64 (m:Nat)] 106)).ownsRow h.heap.size 106 2 (.slice go e.length gc) e.length (dY e):=aP aq.o (fun q B=>cb.block q (aF aq.o B).2);have bC:=aO H.o cb;exact⟨_,rfl,P,dK C [.int .i64 (a:Nat),.int .i64 (m:Nat)] 106 _ rfl,bC.size,fun s t n D ex=>
    ⟨e.length+1,e++[(a,m)],aV,cN,ak,Ax rfl D,fun q B=>by
      rcases fA.1 B with N|N
      ·exact bq.o q N
      ·simp at N;subst N;exact X,bC.grown ex bC.size (fun q a7=>(aF P a7).1)⟩⟩
  clear V ce;go_wp2_with(first
   |((with_reducible apply dj (ty:=180));exact rfl;exact rfl;exact rfl;assumption;exact rT;exact rfl;exact kZ)
   |fail)
  refine bz.o.mono ?_;rintro a7 bl ⟨rfl,a5⟩;have ba:=a4.o.trans (a5.mono a4.o.size);have J:=(a5.block _ (ax al.out)).trans al.out;clear bz el eV;cases c3:b5 (i,k)with
  |false=>
   obtain⟨G,Q,P,bc,bD,Z⟩:=an.o q bl bu.o ba;have ga:=ai 0 J;have e1:=ai 1 J;have bw:=ah Z;clear c3 Z J ba a5 an bu bt bq aq H a0 a3 a2 a4 al;go_wp2_with(first
    |(rw[<-Q];clear Q)
    |(at_builtin;refine is _ rfl _ _ 112 rfl h.heap.size 106 dr _ 2 16 uM cG c6 c7 c8 rfl ad (.slice go e.length gc) e.length (dY e) rfl P ⟨bl.heap.size,0,none⟩ 1 1 [.int .i64 (a:Nat),.int .i64 (q:Nat)] rfl rfl bc (fun z af=>by simp at af;rcases af with rfl|rfl<;>rfl) ad bI ad bD _ rfl ?_;intro s t n ae ab bF b1;have av:=ah (bw.o s t n ae ab);clear ae ab bF b1)
    |fail)
   go_roundw
   case rel=>exact av.o
   case measure=>exact bh
  |true=>
   obtain⟨m,b0⟩:=ar (min (q+1) 2);have X:=bt.o;rw[<-b0]at X;obtain⟨d,bb⟩:∃d:Int,d=(m:Int):=⟨_,rfl⟩;obtain⟨bo,be⟩:=ar (bl.setCell ⟨f.heap.size,1,none⟩ (.int .i64 d));have ca:Below f.heap.size f bo:=by rw[be];exact ba.setCell (az _) _
   have bA:bo.heap[f.heap.size]?=some (.cells #[.int .i64 (a:Nat),.int .i64 d] 106):=by rw[be];exact bn bl _ 1 _ J
   obtain⟨G,Q,P,bc,bD,cx⟩:=an.o m bo X ca;rw[<-bb]at Q bc;have Z:∀(s t:Nat) (n:World),n.ownsRow h.heap.size 106 2 (.slice (some ⟨s,0,none⟩) (e.length+1) t) (e.length+1) (dY e++[.int .i64 (a:Nat),.int .i64 d])->G.grownBy n (Value.slice go e.length gc).ownBlock->tU h S L.length (.slice (some ⟨s,0,none⟩) (e.length+1) t) (.int .i64 ((e.length:Int)+1)) n:=by rw[bb];exact cx
   clear cx;have e1:=ai 1 J;have fb:=aT J 1;have gg:=ai 0 bA;have gl:=ai 1 bA;have bw:=ah Z;clear c3 Z J ba a5 an bu bt bq aq H a0 a3 a2 a4 al ca bA X b9 b6 ao b7 b8;have fr:min (1:Int) 2=1:=ap;have fs:min (2:Int) 2=2:=ap;have fu:min (3:Int) 2=2:=ap;rcases(show q=0∨q=1∨q=2 by omega)with rfl|rfl|rfl
   all_goals
    (simp at b0
     subst b0;simp at bb;subst bb)
   all_goals
    (go_wp2_with(first
      |(rw[<-be];clear be)
      |(rw[<-Q];clear Q)
      |(at_builtin;refine is _ rfl _ _ 112 rfl h.heap.size 106 dr _ 2 16 uM cG c6 c7 c8 rfl ad (.slice go e.length gc) e.length (dY e) rfl P ⟨bo.heap.size,0,none⟩ 1 1 _ rfl rfl bc (fun z af=>by simp at af;rcases af with rfl|rfl<;>rfl) ad bI ad bD _ rfl ?_;intro s t n ae ab bF b1;have av:=ah (bw.o s t n ae ab);clear ae ab bF b1)
      |fail)
     go_roundw
     case rel=>first|exact av.o|((repeat apply Exists.intro);exact⟨av.o,rfl⟩)
     case measure=>simp[intOf];omega)
 ·have eo:(e.length:Int)=(L.length:Int):=ad
  have fv:¬((e.length:Int)<(L.length:Int)):=ad;have eb:Hid (tQ S w (.returned (.slice go e.length gc)) wr):=ah ⟨T.out.trans (W.mono T.out.size),_,e,rfl,dR D T.out.size,ad,a8⟩;clear eo D a8 W
  go_wp2
  go_ret;exact eb.o
end Go.Proofs.YtnadadbndcdolaaGreatDoor
