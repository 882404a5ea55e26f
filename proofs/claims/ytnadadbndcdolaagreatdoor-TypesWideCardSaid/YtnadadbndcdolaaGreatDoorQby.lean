import Derived.Test.YtnadadbndcdolaaGreatDoorQbv
import Derived.Test.YtnadadbndcdolaaGreatDoorQbw
import Derived.Test.YtnadadbndcdolaaGreatDoorQbx
set_option linter.unusedVariables false
set_option linter.unusedSimpArgs false
set_option maxRecDepth 100000
set_option maxHeartbeats 0
namespace Go.Proofs.YtnadadbndcdolaaGreatDoor
open Go.RowKit Tryz
def Sd(w:World)(b:Ending)(w':World):Prop:=∃a:KA,b=.returned (.tuple #[cP fP a,.int .i64 0])/\eR w' fP a/\Below w.heap.size w w'
theorem G5{l:List am}(a:l.map am.t=cM):dI l:=by refine DO (fun x b=>(RK x.t (by rw[<-a];exact l9 b)).mono ad) ?_;have:=jk List.length a;rw[cf]at this;rw[this];decide
theorem Se(j l:am)(t:j.t=ja)(M:l.t=kG)(o:Option Addr)(cap:Nat)(w:World)(be:Gl w)(J:bR w o cap [j,l]):
 Calls prog 24 #[.agg #[.slice o 2 cap],.string ⟨#[97]⟩] w (Sd w):=by
 have W:[j,l].map am.t=cM:=by simp[t,M,cM]
 have af:=G5 W;obtain⟨m,K⟩:=ar ((w.alloc (.cells #[.slice o 2 cap] 24)).alloc (.cells #[.string ⟨#[]⟩,.string ⟨#[]⟩,.slice none 0 0,.slice none 0 0] 29));have R:Below w.heap.size w m:=by rw[K];exact aG.alloc ak _
 have bc:m.heap[w.heap.size+1]?=some (.cells #[.string ⟨#[]⟩,.string ⟨#[]⟩,.slice none 0 0,.slice none 0 0] 29):=by rw[K];have:=aB (w.alloc (.cells #[.slice o 2 cap] 24)) (.cells #[.string ⟨#[]⟩,.string ⟨#[]⟩,.slice none 0 0,.slice none 0 0] 29);rwa[bj]at this
 have b3:m.heap[w.heap.size]?=some (.cells #[.slice o 2 cap] 24):=by rw[K];exact(aG.block _ ak).trans (aB w _)
 have ab:=J.below R;have bf:=be.below R;have bi:bT ([j,l].map am.t)=0:=by rw[W];exact AJ
 have bB:=wj [j,l] o cap m ab af;obtain⟨ba,G,a3,Z,Q,aa,b7,Y⟩:=s9 bB ab bf af bi W R bc;have ce:=ai 0 b3;clear R bc ab bf af bi W bB b3 J be;go_enter func24,ntmps24
 go_wp2_with(first|(rw[<-K];clear K)|fail)
 refine ba.o.mono ?_;rintro d O ⟨ag,⟨cx,_⟩|⟨_,F,rfl,z,g,A,hF,bg⟩⟩
 ·exact absurd Q.o cx
 clear ba ce;have V:=hF (fun q=>q=g);have bN:gp O m.heap.size g [j,l]:=⟨0,_,bg,aZ _,fun a v b2=>by cases b2⟩;have cN:=ai 0 V.blk;have al:=vt [j,l] o cap O (G.o.below ag) Z.o [97] ap;have bt:nW ([j,l].map am.t) [97]=(0,0):=by unfold nW;rw[ay Q.o,aa.o,AK];rfl
 rw[bt]at al;obtain⟨a7,a4,a5,c5⟩:=cr al V bN ag;clear V bN al bt ag hF bg;go_wp2_with fail
 refine a7.o.mono ?_;rintro d b4 ⟨rfl,bo⟩;clear cN a7;have av:k8 m (fun q=>q=g) F z g A o cap [j,l] O b4:=(show k8 m (fun q=>q=g) F z g A o cap [j,l] O O from⟨a4.o,a5.o,bJ (aE _ _) _⟩).below bo;have bq:=At [j,l] o cap m a3.o G.o ak (fun q=>q=g) F z g A rfl (fun x y u=>by
  simp at y;rcases y with rfl|rfl
  ·exact⟨by rw[t];exact rC,by rw[t];decide,by rw[t];exact GY⟩
  ·rw[M]at u;cases u) b4 av.1 av.2.1
 have a6:=ah bq;clear bq av bo a4 a5;go_wp2_with fail
 refine a6.o.mono ?_;rintro d c4 ⟨rfl,an,bC,bw⟩;have b1:=GB [j,l] o cap m G.o Z.o Q.o (fun q=>q=g) F z g A (fun x y u=>by
  simp at y;rcases y with rfl|rfl
  ·exact⟨by rw[t];exact rC,by rw[t];decide⟩
  ·rw[M]at u;cases u) c4 an
 obtain⟨bb,b9,cb,c6⟩:=cr b1 an bC bw;clear b1 an bC bw a6;go_wp2_with fail
 refine bb.o.mono ?_;rintro d b5 ⟨i,H,b2,D,C,r,h⟩;rw[aa.o]at D C r h;rw[show cM.length=2 from rfl]at r h;have a0:=RU D C;clear D C bb;subst r a0;have u0:b5.cell? ⟨H,0,none⟩=some (.bool true):=h.at (k:=0) ap;have ao:=b9.o.kept (bJ h.base none) (fun q d=>by cases d);have bD:=cb.o.grown (bJ h.base none) (fun q d=>by cases d);have bu:=RE [j,l] o cap m G.o Z.o Q.o (fun q=>q=g) F z g A (fun x y u=>by
  simp at y;rcases y with rfl|rfl
  ·exact⟨by rw[t];exact rC,by rw[t];decide⟩
  ·rw[M]at u;cases u) rfl b5 ao
 obtain⟨a8,ca,cc⟩:=bH bu ao bD;clear bu ao bD h;go_wp2_with fail
 refine a8.o.mono ?_;rintro d s ⟨dr,a2,ds,D,C,r,h⟩;rw[aa.o]at D C r h;rw[show cM.length=2 from rfl]at r h;have a0:=RV D C;clear D C a8 u0;subst r a0;have u0:s.cell? ⟨a2,0,none⟩=some (.int .i64 2):=h.at (k:=0) ap;have E:=ca.o.kept (bJ h.base none) (fun q d=>by cases d);have bE:=cc.o.grown (bJ h.base none) (fun q d=>by cases d);have bZ:=h.nums ap;obtain⟨b6,a1,S⟩:=dF s (.map #[] 0);have bA:=(E.more (A':=fun q=>q=g∨q=s.heap.size) (fun q cF=>by rcases cF with J|J;·exact .inl J
                                                                                                                                                                                                                                                                                                                                                                                                                                                            ·exact .inr ad)).kept (bJ S none) (fun q d=>by cases d)
 have bF:=bE.grown (bJ S none) (fun q d=>by cases d);have b0:bp b6 prog 3 s.heap.size 0 (fun _=>none):=by rw[a1];exact bp.made s _ _
 have cp:=ax E.blk;have ch:z<s.heap.size:=by obtain⟨c7,c,B⟩:=E.places.block;exact ax B
 have ci:g<s.heap.size:=by obtain⟨n,f,aq,_⟩:=E.made;exact aq.lt
 have cl:A<s.heap.size:=by obtain⟨n,f,aq,_⟩:=E.inside;exact aq.lt
 have bd:=E.base.size;have bz:=Sc j l t M o cap m a3.o G.o (fun q=>q=g∨q=s.heap.size) F z g A s.heap.size (.inl rfl) ⟨bd,ad,ad,ad,ad,.inr rfl⟩ (some ⟨a2,0,none⟩) 2 b6 ⟨bA,bF,b0⟩ (dp.below bZ S);have a9:=ah bz;clear bz bA bF b0 E bE bZ cp ch ci cl bd S h;have c9:= @l8 prog;go_wp2_with(first|(rw[<-a1];clear a1)|fail)
 refine a9.o.mono ?_;rintro d X ⟨e,r,bl,ae⟩;have cu:d=.returned (.tuple #[.agg #[.string ⟨#[97]⟩,.string ⟨#[]⟩,.slice e.ao 0 e.ac,.slice e.ko 1 e.kc],.int .i64 0]):=r;clear r u0 a9;subst cu;have p:=(ae.block _ (ax Y.out)).trans Y.out;have ea:=ai 0 p;have eb:=ai 1 p;have ec:=ai 2 p;have ed:=ai 3 p;have f0:=aT p 0;have f1:=aT p 1;have f2:=aT p 2;have f3:=aT p 3;obtain⟨b8,cd,I⟩:=bH p bl ae;clear p bl ae;go_wp2_with fail
 trace_state
 obtain⟨P,L⟩:=ar ((((X.setCell ⟨w.heap.size+1,0,none⟩ (.string ⟨#[97]⟩)).setCell ⟨w.heap.size+1,1,none⟩ (.string ⟨#[]⟩)).setCell ⟨w.heap.size+1,2,none⟩ (.slice e.ao 0 e.ac)).setCell ⟨w.heap.size+1,3,none⟩ (.slice e.ko 1 e.kc));have T:P.heap[w.heap.size+1]?=some (.cells #[.string ⟨#[97]⟩,.string ⟨#[]⟩,.slice e.ao 0 e.ac,.slice e.ko 1 e.kc] 29):=by rw[L];exact bn _ _ 3 _ (bn _ _ 2 _ (bn _ _ 1 _ (bn _ _ 0 _ b8.o)))
 have c8:=ax Y.out;have cq:Below w.heap.size w P:=by have co:Below w.heap.size w X:=b7.out.trans ⟨I.o.os,I.o.tape,I.o.output,I.o.size,fun k V=>I.o.block k ad⟩;rw[L];exact(((co.setCell ak _).setCell ak _).setCell ak _).setCell ak _
 have cs:∀b N,b≠w.heap.size+1->P.cell? ⟨b,N,none⟩=X.cell? ⟨b,N,none⟩:=fun b N B=>by
  have cv:P.heap[b]?=X.heap[b]?:=by rw[L,aS _ _ _ _ _ B,aS _ _ _ _ _ B,aS _ _ _ _ _ B,aS _ _ _ _ _ B]
  unfold World.cell?;simp only[cv]
 have cG:eR P fP e:=cd.o.kept (by rw[L];simp) (fun b N _ B=>⟨cs b N ad,trivial⟩);rw[<-L];have c0:=ai 0 T;have c1:=ai 1 T;have c2:=ai 2 T;have c3:=ai 3 T;exact cg (v:=.tuple #[.agg #[.string ⟨#[97]⟩,.string ⟨#[]⟩,.slice e.ao 0 e.ac,.slice e.ko 1 e.kc],.int .i64 0]) (by simp[results,results24,go_sem,c0,c1,c2,c3,I2]) rfl ⟨e,rfl,cG,cq⟩
theorem G6{w:World}{g b size:Nat}{xs:List Value}(c:w.heap[g]?=some (.cells xs.toArray b (0,0)))(a:xs.length=size):w.ownsRow 0 b size (.slice (some ⟨g,0,none⟩) 1 1) 1 xs:=
 ⟨by simp[a],.inr ⟨g,1,xs.toArray,rfl,aZ _,c,az _,bI,by simp[a],by rw[Nat.one_mul,<-a];exact kH⟩⟩
theorem Si:∀m∈nodesT fP,nj m:=by
 have b:nodesT fP=[fP,.mk [98] [] [([107],[])] []]:=by rfl
 rw[b];intro m a;simp at a;rcases a with rfl|rfl
 ·exact⟨ap,ap,ap,ap,ap⟩
 ·exact⟨ap,ap,ap,ap,ap⟩
theorem Sj{q:Int}(b:zL cM [97] fP q):q=0:=by
 rcases b with⟨b,_⟩|⟨_,⟨b,_⟩|⟨a,c,⟨b,_⟩|⟨_,⟨_,b⟩|⟨b,_⟩⟩⟩⟩
 ·exact absurd AJ b
 ·rw[AK]at b;cases b
 ·exact absurd RR b
 ·exact b
 ·rw[AK]at c
  injection c with c
  subst c;exact absurd RT b
theorem Sk{xs:List am}(c:xs.map am.t=cM):∃d e,xs=[d,e]/\d.t=ja/\e.t=kG:=by
 match xs,c with
 |[],c=>simp[cM]at c
 |[_],c=>simp[cM]at c
 |[a,b],c=>simp[cM]at c;exact⟨a,b,rfl,c.1,c.2⟩
 |_::_::_::_,c=>simp[cM]at c
theorem Sl(w:World)(M:Gl w):Calls prog 9 #[] w fun e w'=>e=.returned (.bool true)/\Below w.heap.size w w':=by
 have l:=L0 tX w ap (by intro c a4;exact RJ c a4);rw[RI]at l;unfold tX at l;have G:=ah M;clear M;go_enter func9,ntmps9
 go_wp2_with fail
 refine l.mono ?_;rintro e a7 ⟨xs,o,c,g,rfl,N,P⟩;obtain⟨p,r,rfl,m,n⟩:=Sk g;clear g l;obtain⟨a8,X,t,E⟩:=cm a7 (.cells #[.slice o 2 c] 24);have a1:=ai 0 E;have y:=aO P t;have A:=N.below t;have T:=Se p r m n o c a8 (G.o.below y) A;obtain⟨aq,ag,K,H⟩:=cr A y E T;clear T A y E N P t;go_wp2_with(first|(rw[<-X];clear X)|fail)
 refine H.o.mono ?_;rintro e a9 ⟨a,R,O,Q⟩;have a5:e=.returned (.tuple #[.agg #[.string ⟨#[97]⟩,.string ⟨#[]⟩,.slice a.ao 0 a.ac,.slice a.ko 1 a.kc],.int .i64 0]):=R;clear R H a1;subst a5;obtain⟨b,Y,u,t4⟩:=cm a9 (.cells #[.string ⟨#[97]⟩,.string ⟨#[]⟩,.slice a.ao 0 a.ac,.slice a.ko 1 a.kc] 29);obtain⟨d,f⟩:=ar ((b.alloc (.cells #[.string ⟨#[107]⟩,.string ⟨#[]⟩] 69)).alloc (.cells #[.string ⟨#[98]⟩,.string ⟨#[]⟩,.slice (some ⟨b.heap.size,0,none⟩) 1 1,.slice none 0 0] 29));have v:Below b.heap.size b d:=by rw[f];exact aG.alloc ak _
 have L:d.heap[b.heap.size]?=some (.cells #[.string ⟨#[107]⟩,.string ⟨#[]⟩] 69):=by rw[f];exact(aG.block _ ak).trans (aB b _)
 have t6:d.heap[b.heap.size+1]?=some (.cells #[.string ⟨#[98]⟩,.string ⟨#[]⟩,.slice (some ⟨b.heap.size,0,none⟩) 1 1,.slice none 0 0] 29):=by rw[f];have:=aB (b.alloc (.cells #[.string ⟨#[107]⟩,.string ⟨#[]⟩] 69)) (.cells #[.string ⟨#[98]⟩,.string ⟨#[]⟩,.slice (some ⟨b.heap.size,0,none⟩) 1 1,.slice none 0 0] 29);rwa[bj]at this
 have D:eR d fP a:=(O.below u).below v;have S:eR d fP ⟨none,0,some ⟨b.heap.size+1,0,none⟩,1⟩:=(G3 (G6 t6 rfl) (G6 L rfl)).at_;have W:Calls prog 25 #[.agg #[.string ⟨#[97]⟩,.string ⟨#[]⟩,.slice a.ao 0 a.ac,.slice a.ko 1 a.kc],.agg #[.string ⟨#[97]⟩,.string ⟨#[]⟩,.slice none 0 0,.slice (some ⟨b.heap.size+1,0,none⟩) 1 1]] d (xy (fP=fP) d):=
  Sh _ fP fP a ⟨none,0,some ⟨b.heap.size+1,0,none⟩,1⟩ d (az _) D S
 have aa:=ai 0 t4;have ab:=ai 1 t4;have ae:=ai 2 t4;have af:=ai 3 t4;obtain⟨J,al,an,s,h,av⟩:=g6 W Q u v t4 D;clear W Q u v t4 D S t6 L O;go_wp2_with(first|(rw[<-Y];clear Y)|(rw[<-f];clear f)|fail)
 refine J.o.mono ?_;rintro e F ⟨⟨a0,rfl,B⟩,j⟩;have a3:a0=true:=by first|exact B.2 rfl|simpa using B
 subst a3;have t7:=(j.block _ (ax ((s.o.block _ (ax h.o)).trans h.o))).trans ((s.o.block _ (ax h.o)).trans h.o);have i:=aO (aO (aO al.o an.o) s.o) j;have Z:=(i.block _ (ax K.out)).trans K.out;have z:=aO ag.o i;clear aa ab ae af B J;have aa:=ai 0 t7;have ab:=ai 1 t7;have ae:=ai 2 t7;have af:=ai 3 t7;have ba:=ai 0 Z;have C:Calls prog 10 #[.agg #[.slice o 2 c],.string ⟨#[97]⟩,.agg #[.string ⟨#[97]⟩,.string ⟨#[]⟩,.slice a.ao 0 a.ac,.slice a.ko 1 a.kc]] F (zM ([p,r].map am.t) [97] fP F):=
  NM Ng Oa [p,r] o c (G5 (by simp[m,n,cM])) (fun x g=>by
   simp at g;rcases g with rfl|rfl
   ·rw[m];decide
   ·rw[n];decide) [97] ap fP a F (G.o.below z) (aq.o.below i) (av.o.below j) Si
 rw[show [p,r].map am.t=cM by simp[m,n,cM]]at C;obtain⟨I,ao⟩:=aD C z;clear C z i j t7 Z;go_wp2_with fail
 refine I.o.mono ?_;rintro e bb ⟨⟨q,rfl,V⟩,a2⟩;have a6:=Sj V;subst a6;clear I V
 go_wp2
 go_ret;exact⟨rfl,aO ao.o a2⟩
def qf(ts:List aw):Bool:=ts.all (fun t=>decide (t.nodes.length<=20))&&(decide (ts.length<=5)&&lJ ts)
theorem Sm(l:List am)(o:Option Addr)(cap:Nat)(w:World)(f:bR w o cap l):
 Calls prog 6 #[.agg #[.slice o l.length cap]] w fun u w'=>u=.returned (.bool (qf (l.map am.t)))/\Below w.heap.size w w':=by
 obtain⟨s,j⟩:=ar (qf (l.map am.t));rw[<-j];have h:=ah j;clear j;have R:=f.1.2.1;have H:=f.1.2.2.1;unfold maxLen at H;obtain⟨E,q,i,D⟩:=cm w (.cells #[.slice o l.length cap] 24);have y:=f.below i;have M:=ai 0 D;obtain⟨r,g⟩:=aD y i;clear y i f D;go_enter func6,ntmps6
 go_wp2_with(first|(rw[<-q];clear q)|fail)
 try(rw[<-q])
 go_loopw [3] (fun v wr=>∃k:Nat,v=.int .i64 k/\k<=l.length/\wr=E/\Hid (((l.take k).map am.t).all (fun t=>decide (t.nodes.length<=20))=true)) (fun v _=>l.length-(intOf v).toNat)
 case atStart=>exact⟨0,rfl,aZ _,ak,rfl⟩
 case round=>
  obtain⟨k,rfl,O,C,a⟩:=hrel;rw[C];clear C wr;by_cases K:k<l.length
  ·have I:decide ((k:Int)<l.length)=true:=bQ
   have Q:(k:Int)<l.length:=ad;have P:(0:Int)<=k:=ad;obtain⟨x,e⟩:∃n,l[k]?=some n:=⟨_,aH K⟩;obtain⟨b,S,rfl,N,V,W,X,Y,Z,aa⟩:=r.o.at e;by_cases A:x.t.nodes.length<=20
   ·have m:decide ((x.t.nodes.length:Int)>20)=false:=bK
    have c:((l.take (k+1)).map am.t).all (fun t=>decide (t.nodes.length<=20))=true:=by have:=vP (l:=l.map am.t) (k:=k) (x:=x.t) (p:=fun t=>decide (t.nodes.length<=20)) (by rw[bW,e];rfl) (by rw[<-Bz];exact a.o) (by simpa using A);rw[Bz];exact this
    have F:=ah c;clear c a e
    go_wp2
    go_roundw
    case rel=>exact⟨k+1,aV,ad,by first|trivial|rfl,F⟩
    case measure=>exact bh
   ·have m:decide ((x.t.nodes.length:Int)>20)=true:=bQ
    have L:s=false:=by rw[h.o];unfold qf;rw[vQ (k:=k) (x:=x.t) (by rw[bW,e];rfl) (by simpa using A),um]
    clear e a;subst L
    go_wp2
    go_ret;exact⟨rfl,g.o⟩
  ·have I:decide ((k:Int)<l.length)=false:=bK
   have J:k=l.length:=ad;have c:(l.map am.t).all (fun t=>decide (t.nodes.length<=20))=true:=by have:=a.o;rw[J,kH]at this;exact this
   have d:s=(decide (l.length<=5)&&lJ (l.map am.t)):=by rw[h.o];unfold qf;rw[c,rJ,cf]
   clear h c a;by_cases z:l.length<=5
   ·have m:decide ((l.length:Int)<=5)=true:=bQ
    rw[lm z,rJ]at d;have B:=Mb l o cap E r.o;rw[<-d]at B;clear d;go_wp2_with fail
    refine B.mono ?_;rintro u T ⟨rfl,G⟩
    go_wp2
    go_ret;exact⟨rfl,aO g.o G⟩
   ·have m:decide ((l.length:Int)<=5)=false:=bK
    rw[l6 z,um]at d;subst d
    go_wp2
    go_ret;exact⟨rfl,g.o⟩
theorem xD(l:List am):(l.flatMap typeRow).length=l.length*6:=by
 induction l with
 |nil=>rfl
 |cons n t ih=>rw[uh,cR,ih,db];show 6+_=_;omega
theorem Sx{w:World}{g c k:Nat}{l:List am}{x y:am}(n:dp w (some ⟨g,0,none⟩) l.length c 6 (l.flatMap typeRow))(p:l[k]?=some x)(F:y.t.name=x.t.name)(G:y.t.label=x.t.label)(H:y.t.attrs=x.t.attrs)(I:y.t.text=x.t.text)(J:y.ao=x.ao)(K:y.ac=x.ac):
 dp ((w.setCell ⟨g,k*6+5,none⟩ (.slice y.no y.t.nodes.length y.nc)).setCell ⟨g,k*6+3,none⟩ (.string ⟨y.t.key.toArray⟩)) (some ⟨g,0,none⟩) (l.set k y).length c 6 ((l.set k y).flatMap typeRow):=by
 obtain⟨_,W,X,Y⟩:=n;have Z:=(aL.1 p).1;refine⟨xD _,by rw[mX];exact W,X,fun aa=> ?_⟩;obtain⟨b,ab,h,O,L⟩:=Y ad;injection h with h
 injection h with D E
 subst D E;refine⟨g,0,rfl,by rw[dE,dE];exact O,fun j u e=> ?_⟩;have M:j<l.length*6:=by have:=(aL.1 e).1;rwa[xD,mX]at this
 obtain⟨m,P⟩:=ar (j/6);obtain⟨d,Q⟩:=ar (j % 6);have N:j=m*6+d:=ad;have B:m<l.length:=ad;have o:d<6:=ad;clear P Q M;subst N;have r:∀(q:Nat) (z:am),l[q]?=some z->∀s,s<6->∀v,(typeRow z)[s]?=some v->w.cell? ⟨g,q*6+s,none⟩=some v:=fun q z t s R v S=>by have:=L (q*6+s) v (by rw[lu (f:=typeRow) 6 (fun _=>rfl) t s R];exact S);rwa[cD]at this
 rw[cD];have i:∀(w0:World) (v:Value) (a b:Nat),a≠b->(w0.setCell ⟨g,a,none⟩ v).cell? ⟨g,b,none⟩=w0.cell? ⟨g,b,none⟩:=fun w0 v a b n=>by
  apply kd;intro h;injection h with _ h
  exact n h
 have C:∀(w0:World) (v u:Value) (a:Nat),w0.cell? ⟨g,a,none⟩=some u->(w0.setCell ⟨g,a,none⟩ v).cell? ⟨g,a,none⟩=some v:=fun w0 v u a n=>by apply BE;exact n
 by_cases h:m=k
 ·subst h
  rw[lu (f:=typeRow) 6 (fun _=>rfl) (List.getElem?_set_self B) d o]at e;rcases(ad:d=3∨d=5∨(d≠3/\d≠5))with rfl|rfl|⟨ae,af⟩
  ·have T:=r m x p 3 ad _ rfl
   have:u=.string ⟨y.t.key.toArray⟩:=by injection e with e;exact e.symm
   rw[this];exact C _ _ _ _ ((i _ _ _ _ ad).trans T)
  ·have V:=r m x p 5 ad _ rfl
   have:u=.slice y.no y.t.nodes.length y.nc:=by injection e with e;exact e.symm
   rw[this];exact(i _ _ _ _ ad).trans (C _ _ _ _ V)
  ·have:(typeRow y)[d]?=(typeRow x)[d]?:=by
    rcases(ad:d=0∨d=1∨d=2∨d=4)with rfl|rfl|rfl|rfl<;>simp[typeRow,F,G,H,I,J,K]
   rw[this]at e;exact(i _ _ _ _ ad).trans ((i _ _ _ _ ad).trans (r m x p d o u e))
 ·have t:(l.set k y)[m]?=l[m]?:=by rw[List.getElem?_set_ne (rQ h)]
  obtain⟨z,A⟩:∃z,l[m]?=some z:=⟨_,aH B⟩;rw[lu (f:=typeRow) 6 (fun _=>rfl) (t.trans A) d o]at e;exact(i _ _ _ _ ad).trans ((i _ _ _ _ ad).trans (r m z A d o u e))
theorem Sy{x:am}(a:bG x.t.nodes=0)(b:x.t.nodes.length<=20):iB x:=⟨a,ad,Aq a ad (Ap a b)⟩
theorem Sz{x y:am}(d:bG x.t.nodes=0)(e:x.t.nodes.length<=20)(f:y.t=p7 x.t):iB y:=by
 have a:y.t.nodes=cJ x.t.nodes:=by rw[f];rfl
 have b:bG (cJ x.t.nodes)=0:=xg d ad;have c:(cJ x.t.nodes).length<=60:=by simp[cJ];omega
 exact⟨by rw[a];exact b,by rw[a];exact c,by rw[a];exact Aq b c (by rw[PG];exact Ap d e)⟩
theorem SA{x y:am}(d:bG x.t.nodes=0)(e:x.t.nodes.length<=20)(f:y.t=rj x.t):iB y:=by
 have a:y.t.nodes=et x.t.nodes:=by rw[f];rfl
 have b:bG (et x.t.nodes)=0:=tJ d ad;have c:(et x.t.nodes).length<=60:=by simp[et];omega
 exact⟨by rw[a];exact b,by rw[a];exact c,by rw[a];exact Aq b c (by rw[PH];exact Ap d e)⟩
theorem nQ{l:List am}{k:Nat}{y:am}{P:am->Prop}(b:∀z∈l,P z)(c:P y):∀z∈l.set k y,P z:=fun z d=>by
 rcases List.mem_or_eq_of_mem_set d with a|a
 ·exact b z a
 ·exact a▸c
theorem G9{l:List am}{k:Nat}{y x:am}(a:dI l)(b:x∈l)(e:y.t.name=x.t.name)(f:y.t.label=x.t.label)(d:y.t.attrs=x.t.attrs)(g:y.t.key=[])(i:∀n∈y.t.nodes,n∈x.t.nodes∨n.sym=[]):dI (l.set k y):=
 ⟨by rw[mX];exact a.len,nQ a.name (by rw[e];exact a.name x b),nQ a.label (by rw[f];exact a.label x b),nQ a.key (by rw[g];simp),nQ a.attrs (by rw[d];exact a.attrs x b),
   nQ a.attr (by rw[d];exact a.attr x b),nQ a.sym (fun n h=>by rcases i n h with c|c;exact a.sym x b n c;rw[c];simp)⟩
structure AN(W0 wB wC wD wE:World)(U gg k ggc:Nat)(l:List am)(y:am):Prop where
 cb:wB.cell? ⟨U,0,none⟩=some (.slice none 0 0)
 fb:wB.frozen? ⟨U,0,none⟩=false
 bb:wB.heap[U]?=some (.cells #[.slice none 0 0] 24)
 cc:wC.cell? ⟨U,0,none⟩=some (.slice (some ⟨gg,0,none⟩) l.length ggc)
 c5:∃u,wC.cell? ⟨gg,k*6+5,none⟩=some u
 f5:wC.frozen? ⟨gg,k*6+5,none⟩=false
 cd:wD.cell? ⟨U,0,none⟩=some (.slice (some ⟨gg,0,none⟩) l.length ggc)
 c3:∃u,wD.cell? ⟨gg,k*6+3,none⟩=some u
 f3:wD.frozen? ⟨gg,k*6+3,none⟩=false
 be:wE.heap[U]?=some (.cells #[.slice (some ⟨gg,0,none⟩) l.length ggc] 24)
 te:bR wE (some ⟨gg,0,none⟩) ggc (l.set k y)
 bC:Below W0.heap.size W0 wC
 bD:Below W0.heap.size W0 wD
 bE:Below W0.heap.size W0 wE
theorem He{b W e f h i:World}{U a k d:Nat}{o:Option Addr}{cap:Nat}{l:List am}{x y:am}(B:bR b o cap l)(L:Below b.heap.size b W)(af:b.heap.size<=U)
 (O:W.heap[U]?=some (.cells #[.slice none 0 0] 24)) (S:e.ownsRow W.heap.size 53 6 (.slice (some ⟨a,0,none⟩) l.length d) l.length (l.flatMap typeRow)) (n:W.grownBy e none)
 (D:l[k]?=some x) (Y:y.t.name=x.t.name) (Z:y.t.label=x.t.label) (F:y.t.attrs=x.t.attrs) (aa:y.t.text=x.t.text) (M:y.ao=x.ao) (Q:y.ac=x.ac) (an:cO b y.no y.nc y.t.nodes)
 (s:f=e.setCell ⟨U,0,none⟩ (.slice (some ⟨a,0,none⟩) l.length d)) (t:h=f.setCell ⟨a,k*6+5,none⟩ (.slice y.no y.t.nodes.length y.nc)) (w:i=h.setCell ⟨a,k*6+3,none⟩ (.string ⟨y.t.key.toArray⟩)):
 AN b e f h i U a k d l y:=by
 have N:Below W.heap.size W e:=⟨n.os,n.tape,n.output,n.size,fun q r=>n.block q r ak⟩;have ag:=ax O;have u:e.heap[U]?=some (.cells #[.slice none 0 0] 24):=(N.block _ ag).trans O;have a1:=(aL.1 D).1;have ao:=S.2;rcases ao with⟨V,_⟩|⟨g,c,E,av,R,al,a2,a0,a3,a4⟩
 ·cases V
 injection av with j _ X
 injection j with j
 injection j with j
 subst j X;have v:a≠U:=ad;have I:f.heap[U]?=some (.cells #[.slice (some ⟨a,0,none⟩) l.length d] 24):=by rw[s];exact bn e U 0 _ u
 have A:f.heap[a]?=some (.cells E 53 (0,0)):=by rw[s];exact(aS _ _ _ _ _ v).trans al
 have J:h.heap[U]?=some (.cells #[.slice (some ⟨a,0,none⟩) l.length d] 24):=by rw[t];exact(aS _ _ _ _ _ (rQ v)).trans I
 have K:h.heap[a]?=some (.cells (E.setIfInBounds (k*6+5) (.slice y.no y.t.nodes.length y.nc)) 53 (0,0)):=by rw[t];exact bn _ _ _ _ A
 have ae:i.heap[U]?=some (.cells #[.slice (some ⟨a,0,none⟩) l.length d] 24):=by rw[w];exact(aS _ _ _ _ _ (rQ v)).trans J
 have C:=L.size;have ab:=L.trans (N.mono C);have G:Below b.heap.size b f:=by rw[s];exact ab.setCell (p:=⟨U,0,none⟩) af _
 have H:Below b.heap.size b h:=by rw[t];exact G.setCell (p:=⟨a,k*6+5,none⟩) (aJ C R) _
 have m:Below b.heap.size b i:=by rw[w];exact H.setCell (p:=⟨a,k*6+3,none⟩) (aJ C R) _
 have aq:dp f (some ⟨a,0,none⟩) l.length d 6 (l.flatMap typeRow):=jx (aP S (fun q r=>by
  injection r with r
  rw[s];exact aS _ _ _ _ _ (by rw[<-r];exact v)))
 refine⟨ai 0 u,aT u 0,u,ai 0 I,⟨_,(bs _ _ (k*6+5) _ _ _ A).trans (lj ad)⟩,aT A _,ai 0 J,
  ⟨_,(bs _ _ (k*6+3) _ _ _ K).trans (lj (by rw[Array.size_setIfInBounds];omega))⟩,aT K _,ae,⟨?_,?_⟩,G,H,m⟩
 ·rw[w,t]
  exact Sx aq D Y Z F aa M Q
 ·refine nQ (P:=fun z=>dZ i z.ao z.ac z.t.attrs/\cO i z.no z.nc z.t.nodes) (fun z T=>⟨(B.2 z T).1.below m,(B.2 z T).2.below m⟩) ⟨?_,an.below m⟩
  rw[M,Q,F];exact(B.2 x (aX D)).1.below m
theorem SC{l:List am}{k:Nat}{x yU yV:am}{o:Option Addr}{cap i f j g:Nat}{W:World}(e:bT (l.map am.t)=0)(m:dI l)(I:∀z∈l,z.t.nodes.length<=20)(L:l[k]?=some x)(s:x.t.text=false)
 (c:yU.t=p7 x.t) (d:yV.t=rj x.t) (v:Gl W) (F:bR W o cap l) (G:bR W (some ⟨i,0,none⟩) f (l.set k yU)) (H:bR W (some ⟨j,0,none⟩) g (l.set k yV)) (w:World) (b:Below W.heap.size W w):
 Calls prog 20 #[.agg #[.slice o l.length cap],.string ⟨x.t.name.toArray⟩,.agg #[.slice (some ⟨i,0,none⟩) l.length f],.string ⟨x.t.name.toArray⟩] w (fun h w'=>h=.returned (.tuple #[.bool true,.int .i64 0])/\Below w.heap.size w w')/\
 Calls prog 20 #[.agg #[.slice (some ⟨i,0,none⟩) l.length f],.string ⟨x.t.name.toArray⟩,.agg #[.slice (some ⟨j,0,none⟩) l.length g],.string ⟨x.t.name.toArray⟩] w (fun h w'=>h=.returned (.tuple #[.bool true,.int .i64 0])/\Below w.heap.size w w')/\
 Calls prog 20 #[.agg #[.slice o l.length cap],.string ⟨x.t.name.toArray⟩,.agg #[.slice (some ⟨j,0,none⟩) l.length g],.string ⟨x.t.name.toArray⟩] w (fun h w'=>h=.returned (.tuple #[.bool true,.int .i64 0])/\Below w.heap.size w w'):=by
 have p:=aX L;have S:=tK.1 (Decidable.of_not_not (lO.1 e).2.2.2.2.2.2.1);have E:∀z∈l,z.t.text=false->bG z.t.nodes=0:=fun z t a=>S z.t (l9 t) a;have q:=E x p s;have M:=I x p;have y:(l.map am.t)[k]?=some x.t:=by rw[bW,L];rfl
 have B:dG (l.map am.t) ((l.set k yU).map am.t):=by rw[qh,c];exact dG.set1 y (PQ s q ad)
 have C:dG (l.map am.t) ((l.set k yV).map am.t):=by rw[qh,d];exact dG.set1 y (PR s q ad)
 have T:dG ((l.set k yU).map am.t) ((l.set k yV).map am.t):=by rw[qh,qh,c,d];exact dG.set2 (PS s q ad)
 have r:=L5 (qJ e) y rfl;have J:=(B.place x.t.name).trans r;have K:=(C.place x.t.name).trans r;have f0:∀z∈l,z.t.text=false->iB z:=fun z t a=>Sy (E z t a) (I z t);have f1:∀z∈l.set k yU,z.t.text=false->iB z:=nQ (P:=fun z=>z.t.text=false->iB z) f0 (fun _=>Sz q M c);have f2:∀z∈l.set k yV,z.t.text=false->iB z:=nQ (P:=fun z=>z.t.text=false->iB z) f0 (fun _=>SA q M d);have N:dI (l.set k yU):=G9 m p (by rw[c];rfl) (by rw[c];rfl) (by rw[c];rfl) (by rw[c];rfl) (fun n a=>by
  rw[c]at a;rcases fA.1 a with a|a
  ·exact .inl a
  ·simp at a;rcases a with rfl|rfl<;>exact .inr rfl)
 have O:dI (l.set k yV):=G9 m p (by rw[d];rfl) (by rw[d];rfl) (by rw[d];rfl) (by rw[d];rfl) (fun n a=>by
  rw[d]at a;rcases fA.1 a with a|a
  ·exact .inl a
  ·simp at a;subst a;exact .inr rfl)
 have A:=m.name x p;have Q:=F0 e B;have R:=F0 e C;have a1:=AF o (some ⟨i,0,none⟩) cap f l (l.set k yU) m N e Q B f0 f1 x.t.name A k r J w (v.below b) (F.below b) (G.below b);have u:=AF (some ⟨i,0,none⟩) (some ⟨j,0,none⟩) f g (l.set k yU) (l.set k yV) N O Q R T f1 f2 x.t.name A k J K w (v.below b) (G.below b) (H.below b);have D:=AF o (some ⟨j,0,none⟩) cap g l (l.set k yV) m O e R C f0 f2 x.t.name A k r K w (v.below b) (F.below b) (H.below b);rw[mX]at a1 u D;try rw[mX]at u
 exact⟨a1,u,D⟩
theorem SD{ts:List aw}(a:qf ts=true):(∀t∈ts,t.nodes.length<=20)/\lJ ts=true:=by unfold qf at a;rw[cS,cS,l4]at a;exact⟨fun t b=>xS (a.1 t b),a.2.2⟩
def xE(a:World)(l:List aj)(b:Nat)(w:World):Prop:=∃c wc,a.heap.size<=b/\w.heap[b]?=some (.cells #[.slice c (cJ l).length wc] 51)/\cO w c wc (cJ l)/\Below a.heap.size a w
theorem SF(l:List am)(o:Option Addr)(cap:Nat)(at_:Int)(w:World)(fx:Gl w)(fv:bR w o cap l):
 Calls prog 4 #[.agg #[.slice o l.length cap],.int .i64 at_] w fun d w'=>d=.returned (.bool true)/\Below w.heap.size w w':=by
 obtain⟨L,g5,a7,ex⟩:=cm w (.cells #[.slice o l.length cap] 24);have c1:=fx.below a7;have aa:=fv.below a7;have fG:∀w',Below L.heap.size L w'->Calls prog 9 #[] w' fun d hi=>d=.returned (.bool true)/\Below w.heap.size w hi:=fun w' r=>(Sl w' (c1.below r)).mono fun d hi ⟨aa,cG⟩=>⟨aa,aO a7 (aO r cG)⟩;have c6:∀w',Below L.heap.size L w'->w'.cell? ⟨w.heap.size,0,none⟩=some (.slice o l.length cap):=fun w' r=>ai 0 ((r.block _ (ax ex)).trans ex);have fo:=ah (Sm l o cap L aa);have W:=c6 L (aE _ _);obtain⟨aq,O,hr,av,h4⟩:=jJ fG c6 c1 aa a7;clear fG c6 fx c1 fv aa a7 ex;go_enter func4,ntmps4
 go_wp2_with(first|(rw[<-g5];clear g5)|fail)
 refine fo.o.mono ?_;rintro d hj ⟨rfl,fN⟩;have a6:=ah fN;clear fo W fN;cases ec:qf (l.map am.t)with
 |false=>
  clear ec;go_wp2_with fail
  refine(aq.o _ a6.o).mono ?_;rintro d a5 ⟨rfl,bE⟩
  go_wp2
  go_ret;exact⟨rfl,bE⟩
 |true=>
 have a2:=SD ec;have c2:=Mc a2.2;have gG:∀x∈l,x.t.nodes.length<=20:=fun x bu=>a2.1 x.t (l9 bu);obtain⟨fd,e5,ca⟩:=bH (check_any l o cap hj (av.o.below a6.o) c2) c2 gG;have W:=O.o hj a6.o;clear ec a2 c2 gG;go_wp2_with fail
 refine fd.o.mono ?_;rintro d a5 ⟨rfl,bE⟩;have R:=ah (aO a6.o bE);clear fd W bE a6;by_cases bd:bT (l.map am.t)=0;rotate_left
 ·obtain⟨C,fw⟩:=ar (bT (l.map am.t))
  rw[<-fw]at bd⊢;clear fw;have gg:decide (C=0)=false:=by rw[rI];exact bd
  go_wp2_with fail
  refine(aq.o _ R.o).mono ?_;rintro d S ⟨rfl,P⟩
  go_wp2
  go_ret;exact⟨rfl,P⟩
 rw[bd];have cb:=ah bd;clear bd;by_cases cF:at_<0
 ·have gg:decide (at_<0)=true:=lm cF
  go_wp2_with fail
  refine(aq.o _ R.o).mono ?_;rintro d S ⟨rfl,P⟩
  go_wp2
  go_ret;exact⟨rfl,P⟩
 by_cases gr:(l.length:Int)<=at_
 ·have h6:decide (at_<0)=false:=l6 cF
  have gg:decide ((l.length:Int)<=at_)=true:=lm gr;have W:=O.o a5 R.o;go_wp2_with fail
  refine(aq.o _ R.o).mono ?_;rintro d S ⟨rfl,P⟩
  go_wp2
  go_ret;exact⟨rfl,P⟩
 obtain⟨k,rfl⟩:∃k:Nat,at_=(k:Int):=⟨at_.toNat,ad⟩;have hS:k<l.length:=ad;clear cF gr;have ia:(0:Int)<=k:=ad;have ib:(k:Int)<l.length:=ad;obtain⟨x,bu⟩:∃x,l[k]?=some x:=⟨_,aH hS⟩;obtain⟨E,F,rfl,b0,hf,_,_,_,hg,hh⟩:=(av.o).at bu;have bz:Hid (∀w',Below L.heap.size L w'->w'.cell? ⟨E,F+k*6,none⟩=some (.string ⟨x.t.name.toArray⟩)/\w'.cell? ⟨E,F+k*6+4,none⟩=some (.bool x.t.text)/\w'.cell? ⟨E,F+k*6+5,none⟩=some (.slice x.no x.t.nodes.length x.nc)):=ah fun w' r=>
  ⟨(r.cell (p:=⟨E,F+k*6,none⟩) b0).trans hf,(r.cell (p:=⟨E,F+k*6+4,none⟩) b0).trans hg,(r.cell (p:=⟨E,F+k*6+5,none⟩) b0).trans hh⟩
 have V:=ah bu;clear b0 hf hg hh bu;have W:=O.o a5 R.o;obtain⟨_,eE,_⟩:=bz.o a5 R.o;cases bq:x.t.text with
 |true=>
  rw[bq]at eE;clear bq;go_wp2_with fail
  refine(aq.o _ R.o).mono ?_;rintro d S ⟨rfl,P⟩
  go_wp2
  go_ret;exact⟨rfl,P⟩
 |false=>
 rw[bq]at eE;obtain⟨fq,fg⟩:=aD bq (Su a5);clear bq;go_wp2_with fail
 refine fg.o.mono ?_;rintro d S ⟨hD,rfl,gl,P⟩;have c9:S.ownsRow a5.heap.size 102 4 hD 1 ([dQ].flatMap nodeRow):=gl;obtain⟨i,h,rfl⟩:=bL c9;have g0:cO S i h [dQ]:=jx c9;obtain⟨c,g9,ci,cv⟩:=cm S (.cells #[.slice i 1 h] 51);have bC:=aO (aO R.o P) ci;have fs:Below c.heap.size c c.drew:=(aE _ c).drew;have cl:Below c.heap.size c (c.alloc (.cells #[.slice x.no x.t.nodes.length x.nc,.slice i 1 h] 51)).drew:=aG.drew;have hA:(c.alloc (.cells #[.slice x.no x.t.nodes.length x.nc,.slice i 1 h] 51)).drew.heap[c.heap.size]?=some (.cells #[.slice x.no x.t.nodes.length x.nc,.slice i 1 h] 51):=aB c _;have co:Below c.heap.size c ((c.alloc (.cells #[.slice x.no x.t.nodes.length x.nc,.slice i 1 h] 51)).alloc (.cells #[.slice none 0 0] 51)).drew:=(aG.alloc ak _).drew;have hB:((c.alloc (.cells #[.slice x.no x.t.nodes.length x.nc,.slice i 1 h] 51)).alloc (.cells #[.slice none 0 0] 51)).drew.heap[c.heap.size]?=some (.cells #[.slice x.no x.t.nodes.length x.nc,.slice i 1 h] 51):=(bk _ _ _ ak).trans (aB c _);have eC:((c.alloc (.cells #[.slice x.no x.t.nodes.length x.nc,.slice i 1 h] 51)).alloc (.cells #[.slice none 0 0] 51)).drew.heap[c.heap.size+1]?=some (.cells #[.slice none 0 0] 51):=by have:=aB (c.alloc (.cells #[.slice x.no x.t.nodes.length x.nc,.slice i 1 h] 51)) (.cells #[.slice none 0 0] 51);rwa[bj]at this
 have hw:Below c.heap.size c (c.alloc (.cells #[.slice none 0 0] 51)).drew:=aG.drew;have cp:Below c.heap.size c ((c.alloc (.cells #[.slice none 0 0] 51)).alloc (.cells #[.slice x.no x.t.nodes.length x.nc,.slice i 1 h] 51)).drew:=(aG.alloc ak _).drew;have eD:((c.alloc (.cells #[.slice none 0 0] 51)).alloc (.cells #[.slice x.no x.t.nodes.length x.nc,.slice i 1 h] 51)).drew.heap[c.heap.size]?=some (.cells #[.slice none 0 0] 51):=(bk _ _ _ ak).trans (aB c _);have hC:((c.alloc (.cells #[.slice none 0 0] 51)).alloc (.cells #[.slice x.no x.t.nodes.length x.nc,.slice i 1 h] 51)).drew.heap[c.heap.size+1]?=some (.cells #[.slice x.no x.t.nodes.length x.nc,.slice i 1 h] 51):=by have:=aB (c.alloc (.cells #[.slice none 0 0] 51)) (.cells #[.slice x.no x.t.nodes.length x.nc,.slice i 1 h] 51);rwa[bj]at this
 have X:bG x.t.nodes=0:=tK.1 (Decidable.of_not_not (lO.1 cb.o).2.2.2.2.2.2.1) x.t (l9 (aX V.o)) fq.o;have h9:=ca.o x (aX V.o);have h7:1<=x.t.nodes.length:=by
  cases c8:x.t.nodes with
  |nil=>rw[c8]at X;exact absurd X ap
  |cons a t=>simp
 have c3:∀w',Below L.heap.size L w'->cO w' x.no x.nc x.t.nodes:=fun w' r=>((av.o.below r).2 x (aX V.o)).2;have ed:∀n∈x.t.nodes,n.sym.length<=1048576:=e5.o.sym x (aX V.o);have b7:Hid (∀bA A,Below c.heap.size c A->A.heap[bA]?=some (.cells #[.slice x.no x.t.nodes.length x.nc,.slice i 1 h] 51)->Calls prog 18 #[.slice (some ⟨bA,0,none⟩) 2 2] A (lZ (cJ x.t.nodes) A)):=ah fun bA A gb hQ=>
  Sv [⟨x.t.nodes,x.no,x.nc⟩,⟨[dQ],i,h⟩] bA (cJ x.t.nodes) (PO (l:=x.t.nodes) ad) (by show 1<=2;omega) (by show 2<=8;omega) A hQ (fun p a2=>by
  simp only[du,qk,ql]at a2;rcases a2 with rfl|rfl
  ·exact⟨c3 A (aO bC gb),X,by show x.t.nodes.length<=1024;omega,ed⟩
  ·exact⟨(g0.below ci).below gb,(ap:bG [dQ]=0),by show 1<=1024;omega,fun n bg=>by simp at bg;subst bg;simp[dQ]⟩)
 obtain⟨e1,hs,hv⟩:=bH X c3 ed;have J:Hid (∀A,Below c.heap.size c A->(A.cell? ⟨w.heap.size,0,none⟩=some (.slice (some ⟨E,F,none⟩) l.length cap)/\A.cell? ⟨E,F+k*6+5,none⟩=some (.slice x.no x.t.nodes.length x.nc))/\A.cell? ⟨S.heap.size,0,none⟩=some (.slice i 1 h)):=ah fun A ha=>by have r:=aO bC ha;exact⟨⟨O.o _ r,(bz.o _ r).2.2⟩,ai 0 ((ha.block _ (ax cv)).trans cv)⟩
 have hG:=J.o _ fs;have hI:=J.o _ cl;have hJ:=J.o _ co;have hL:=J.o _ hw;have hK:=J.o _ cp;have hn:=ah bC;clear gl c9 g0 ci cv bC fs X c3 ed fg W eE P R
 go_upto_region 4 with(first|(rw[<-g9];clear g9)|fail)
 go_cut [7,8]from 52 to 63 (fun b f h0=>f=.int .i64 0/\∃b3,b=.pointer (some ⟨b3,0,none⟩)/\xE c x.t.nodes b3 h0)
 case first=>
  go_region_held3(fun A=>(A.cell? ⟨w.heap.size,0,none⟩=some (.slice (some ⟨E,F,none⟩) l.length cap)/\A.cell? ⟨E,F+k*6+5,none⟩=some (.slice x.no x.t.nodes.length x.nc))/\A.cell? ⟨S.heap.size,0,none⟩=some (.slice i 1 h))
   (first|exact hG|exact hI|exact hJ|exact hL|exact hK|exact c4|exact c5|exact hH)
   (first
     |(go_at_call 18;refine(b7.o _ _ cl hA).mono ?_;rintro d e ⟨bw,rfl,Y,Q⟩;have y:e.ownsRow _ 102 4 bw (cJ x.t.nodes).length ((cJ x.t.nodes).flatMap nodeRow):=Y;
       obtain⟨g,wc,rfl⟩:=bL y;have a0:Hid (cO e g wc (cJ x.t.nodes)):=ah (jx y);have H:=ah (aO cl Q);have c4:=J.o _ H.out;have fr:Below e.heap.size e (e.alloc (.cells #[.slice none 0 0] 51)):=aG;have K:Below e.heap.size e (e.alloc (.cells #[.slice g (cJ x.t.nodes).length wc] 51)):=aG;have hH:=J.o _ (aO H.out fr);have c5:=J.o _ (aO H.out K);have b8:Hid (xE c x.t.nodes e.heap.size (e.alloc (.cells #[.slice g (cJ x.t.nodes).length wc] 51))):=ah ⟨g,wc,H.out.size,aB e _,a0.o.below K,aO H.out K⟩;clear Y y Q K fr)
     |(go_at_call 18;refine(b7.o _ _ co hB).mono ?_;rintro d e ⟨bw,rfl,Y,Q⟩;have y:e.ownsRow _ 102 4 bw (cJ x.t.nodes).length ((cJ x.t.nodes).flatMap nodeRow):=Y;
       obtain⟨g,wc,rfl⟩:=bL y;have a0:Hid (cO e g wc (cJ x.t.nodes)):=ah (jx y);have H:=ah (aO co Q);have c4:=J.o _ H.out;have T:=(Q.block _ (ax eC)).trans eC;have h1:=ai 0 T;have f70:=aT T 0;have Z:=iz e (c.heap.size+1) 0 (.slice g (cJ x.t.nodes).length wc);have K:Below c.heap.size c (e.setCell ⟨c.heap.size+1,0,none⟩ (.slice g (cJ x.t.nodes).length wc)):=H.out.grown Z H.out.size (fun q d=>by cases d;omega);have c5:=J.o _ K;have b8:Hid (xE c x.t.nodes (c.heap.size+1) (e.setCell ⟨c.heap.size+1,0,none⟩ (.slice g (cJ x.t.nodes).length wc))):=ah ⟨g,wc,Nat.le_succ _,bn _ _ 0 _ T,jx (aP y (fun q bo=>Z.block q (aF y bo).2 (fun d=>by injection d with d;have aa:=(aF y bo).1;have cG:=ax eC;omega))),K⟩;clear Y y Q K T Z)
     |(go_at_call 18;refine(b7.o _ _ cp hC).mono ?_;rintro d e ⟨bw,rfl,Y,Q⟩;have y:e.ownsRow _ 102 4 bw (cJ x.t.nodes).length ((cJ x.t.nodes).flatMap nodeRow):=Y;
       obtain⟨g,wc,rfl⟩:=bL y;have a0:Hid (cO e g wc (cJ x.t.nodes)):=ah (jx y);have H:=ah (aO cp Q);have c4:=J.o _ H.out;have T:=(Q.block _ (ax eD)).trans eD;have h1:=ai 0 T;have f70:=aT T 0;have Z:=iz e (c.heap.size) 0 (.slice g (cJ x.t.nodes).length wc);have K:Below c.heap.size c (e.setCell ⟨c.heap.size,0,none⟩ (.slice g (cJ x.t.nodes).length wc)):=H.out.grown Z H.out.size (fun q d=>by cases d;omega);have c5:=J.o _ K;have b8:Hid (xE c x.t.nodes (c.heap.size) (e.setCell ⟨c.heap.size,0,none⟩ (.slice g (cJ x.t.nodes).length wc))):=ah ⟨g,wc,az _,bn _ _ 0 _ T,jx (aP y (fun q bo=>Z.block q (aF y bo).2 (fun d=>by injection d with d;have aa:=(aF y bo).1;have cG:=ax eD;omega))),K⟩;clear Y y Q K T Z)
     )
  all_goals(go_wp2_with fail;go_meet;exact⟨rfl,_,rfl,b8.o⟩)
 case rest=>
 obtain⟨rfl,b3,rfl,g,b2,hE,fz,fy,ga⟩:=hcut;have be:=aO hn.o ga;have gs:=Sw x.t.nodes x.no x.nc e1.o (by have:=ca.o x (aX V.o);omega) (by
  have X:=e1.o;cases c8:x.t.nodes with
  |nil=>rw[c8]at X;exact absurd X ap
  |cons a t=>simp) wc (hs.o wc be) hv.o
 have fl:=ah gs;have W:=O.o wc be;obtain⟨_,_,h3⟩:=bz.o wc be;obtain⟨hp,fc,a0⟩:=bH be fz fy;clear gs be fz fy ga hE;go_wp2_with fail
 refine fl.o.mono ?_;rintro d ao ⟨hW,rfl,gv,fT⟩;have eb:ao.ownsRow wc.heap.size 102 4 hW (et x.t.nodes).length ((et x.t.nodes).flatMap nodeRow):=gv;obtain⟨ag,af,rfl⟩:=bL eb;have gu:cO ao ag af (et x.t.nodes):=jx eb;obtain⟨M,b1⟩:=ar ((ao.alloc (.cells #[.slice ag (et x.t.nodes).length af] 51)));have cd:Below ao.heap.size ao M:=by rw[b1];exact aG
 have fu:M.heap[ao.heap.size]?=some (.cells #[.slice ag (et x.t.nodes).length af] 51):=by rw[b1];exact aB ao _
 have bN:Below wc.heap.size wc M:=aO fT cd;have bB:=aO hp.o bN;have hx:=O.o M bB;obtain⟨h2,_,_⟩:=bz.o M bB;obtain⟨cc,b9,e7,fb,b4⟩:=jJ ((bN.block _ (ax fc.o)).trans fc.o) fu (gu.below cd) (a0.o.below bN) bB;clear gv eb gu cd fu bN bB fT fl W h3;obtain⟨a3,g7,ce,cq⟩:=cm M (.cells #[.slice none 0 0] 24);have cN:=aO b4.o ce;have hy:=O.o a3 cN;have d11:=ai 0 cq;obtain⟨he,ds,hb,hc,hd⟩:=cY DL;have g4:∀u∈l.flatMap typeRow,u.oneCell'=true:=fun u bt=>by obtain⟨n,_,bg⟩:=rL.1 bt;simp[typeRow]at bg;rcases bg with rfl|rfl|rfl|rfl|rfl|rfl<;>rfl
 have h8:l.length<=64:=by have:=(lO.1 cb.o).1;rw[cf]at this;omega
 have e8:Hid (∀w',Below L.heap.size L w'->∀(j:Nat) u,(l.flatMap typeRow)[j]?=some u->w'.cell? ((⟨E,F,none⟩:Addr).add j)=some u):=ah fun w' r j u hR=>by
  obtain⟨_,_,_,hV⟩:=(av.o.below r).1;obtain⟨ic,ii,eg,_,hP⟩:=hV ad;injection eg with eg
  injection eg with a8 a9
  subst a8 a9;rw[BL];exact hP j u hR
 have g1:=e8.o a3 cN;have g3:∀w':World,w'.ownsRow w'.heap.size 53 6 (.slice none 0 0) 0 []:=fun w'=>dc _ _ _ _;have hT:=g3 a3;have e3:Hid (∀(m I:Nat) (z s v G:World),z.ownsRow a3.heap.size 53 6 (.slice (some ⟨m,0,none⟩) (0+l.length) I) (0+l.length) ([]++l.flatMap typeRow)->a3.grownBy z none->s=z.setCell ⟨M.heap.size,0,none⟩ (.slice (some ⟨m,0,none⟩) l.length I)->
  v=s.setCell ⟨m,k*6+5,none⟩ (.slice g (cJ x.t.nodes).length b2)->G=v.setCell ⟨m,k*6+3,none⟩ (.string ⟨#[]⟩)->AN M z s v G M.heap.size m k I l ⟨p7 x.t,x.ao,x.ac,g,b2⟩):=ah fun m I z s v G bi dr a8 a9 cu=>by
  rw[cD,mS]at bi;exact He (av.o.below b4.o) ce (az _) cq bi dr V.o rfl rfl rfl rfl rfl rfl fb.o a8 a9 cu
 have h5:=ah ds;clear ce cq cN a0
 go_upto_region 13 with(first
  |(rw[<-b1];clear b1)
  |(rw[<-g7];clear g7)
  |(at_builtin;refine is _ rfl _ _ 22 rfl a3.heap.size 53 he _ 6 104 IE ds hb hc hd rfl ad (.slice none 0 0) 0 [] rfl hT ⟨E,F,none⟩ l.length cap (l.flatMap typeRow) rfl (xD l) g1 g4 ad bI ad (az _) _ rfl ?_;intro m I z bl bf c7 ea;rw[cD];obtain⟨s,ab⟩:∃s,s=z.setCell ⟨M.heap.size,0,none⟩ (.slice (some ⟨m,0,none⟩) l.length I):=(⟨_,rfl⟩);obtain⟨v,ae⟩:∃v,v=s.setCell ⟨m,k*6+5,none⟩ (.slice g (cJ x.t.nodes).length b2):=(⟨_,rfl⟩);obtain⟨G,ek⟩:∃G,G=v.setCell ⟨m,k*6+3,none⟩ (.string ⟨#[]⟩):=(⟨_,rfl⟩);have B:=ah (e3.o m I z s v G bl bf ab ae ek);have em:=B.o.cb;have en:=B.o.fb;have eo:=B.o.cc;have al:=B.o.c5;have er:=B.o.f5;have es:=B.o.cd;have an:=B.o.c3;have ev:=B.o.f3;have ew:=ai 0 ((B.o.bC.block _ (ax cc.o)).trans cc.o);obtain⟨hX,al⟩:=al;obtain⟨hY,an⟩:=an;clear bl bf c7 ea g1 hx hy d11 h2 e3)
  |(rw[<-ab];clear ab)
  |(rw[<-ae];clear ae)
  |(rw[<-ek];clear ek)
  |fail)
 have bb:=aO b4.o B.o.bE;have hM:=O.o G bb;obtain⟨hu,e6,e9,ht,e2⟩:=jJ (e7.o.below B.o.bE) ((B.o.bE.block _ (ax b9.o)).trans b9.o) (av.o.below bb) B.o.te B.o.be;obtain⟨a4,g8,ch,cs⟩:=cm G (.cells #[.slice none 0 0] 24);have c0:=aO bb ch;have hz:=O.o a4 c0;have d13:=ai 0 cs;have g2:=e8.o a4 c0;have hU:=g3 a4;have e4:Hid (∀(m I:Nat) (z s v N:World),z.ownsRow a4.heap.size 53 6 (.slice (some ⟨m,0,none⟩) (0+l.length) I) (0+l.length) ([]++l.flatMap typeRow)->a4.grownBy z none->s=z.setCell ⟨G.heap.size,0,none⟩ (.slice (some ⟨m,0,none⟩) l.length I)->
  v=s.setCell ⟨m,k*6+5,none⟩ (.slice ag (et x.t.nodes).length af)->N=v.setCell ⟨m,k*6+3,none⟩ (.string ⟨#[]⟩)->AN G z s v N G.heap.size m k I l ⟨rj x.t,x.ao,x.ac,ag,af⟩):=ah fun m I z s v N bi dr a8 a9 cu=>by
  rw[cD,mS]at bi;exact He e9.o ch (az _) cs bi dr V.o rfl rfl rfl rfl rfl rfl hu.o a8 a9 cu
 have hm:=ah bb;clear ch cs c0 bb em en eo al er es an ev ew B e7 fb cc b9
 go_upto_region 17 with(first
  |(rw[<-g8];clear g8)
  |(at_builtin;refine is _ rfl _ _ 22 rfl a4.heap.size 53 he _ 6 104 IE ds hb hc hd rfl ad (.slice none 0 0) 0 [] rfl hU ⟨E,F,none⟩ l.length cap (l.flatMap typeRow) rfl (xD l) g2 g4 ad bI ad (az _) _ rfl ?_;intro ba cx z bl bf c7 ea;rw[cD];obtain⟨s,ab⟩:∃s,s=z.setCell ⟨G.heap.size,0,none⟩ (.slice (some ⟨ba,0,none⟩) l.length cx):=(⟨_,rfl⟩);obtain⟨v,ae⟩:∃v,v=s.setCell ⟨ba,k*6+5,none⟩ (.slice ag (et x.t.nodes).length af):=(⟨_,rfl⟩);obtain⟨N,el⟩:∃N,N=v.setCell ⟨ba,k*6+3,none⟩ (.string ⟨#[]⟩):=(⟨_,rfl⟩);have D:=ah (e4.o ba cx z s v N bl bf ab ae el);have em:=D.o.cb;have en:=D.o.fb;have eo:=D.o.cc;have al:=D.o.c5;have er:=D.o.f5;have es:=D.o.cd;have an:=D.o.c3;have ev:=D.o.f3;have ew:=ai 0 ((D.o.bC.block _ (ax e6.o)).trans e6.o);obtain⟨hX,al⟩:=al;obtain⟨hY,an⟩:=an;clear bl bf c7 ea g2 hz d13)
  |(rw[<-ab];clear ab)
  |(rw[<-ae];clear ae)
  |(rw[<-el];clear el)
  |fail)
 have bc:=D.o.bE;have bD:=aO hm.o bc;have gf:=SC (yU:=⟨p7 x.t,x.ao,x.ac,g,b2⟩) (yV:=⟨rj x.t,x.ao,x.ac,ag,af⟩) cb.o e5.o ca.o V.o fq.o rfl rfl (hr.o.below bD) (e9.o.below bc) (ht.o.below bc) D.o.te;have bt:=(bc.block _ (ax e2.o)).trans e2.o;have b5:Hid (∀w',Below N.heap.size N w'->w'.cell? ⟨w.heap.size,0,none⟩=some (.slice (some ⟨E,F,none⟩) l.length cap)/\w'.cell? ⟨M.heap.size,0,none⟩=some (.slice (some ⟨m,0,none⟩) l.length I)/\w'.cell? ⟨G.heap.size,0,none⟩=some (.slice (some ⟨ba,0,none⟩) l.length cx)):=ah fun w' r=>
  ⟨O.o w' (aO bD r),ai 0 ((r.block _ (ax bt)).trans bt),ai 0 ((r.block _ (ax D.o.be)).trans D.o.be)⟩
 obtain⟨ez,eA,_⟩:=b5.o N (aE _ _);have b6:=ah gf;have eN:=ah (b6.o N (aE _ _)).1;have hq:=ah bD;clear bc bD gf bt em en eo al er es an ev ew D e4 hM;go_wp2_with fail
 refine eN.o.mono ?_;rintro d hk ⟨rfl,bF⟩;clear ez eA eN;obtain⟨_,eA,eB⟩:=b5.o hk bF;have eU:=ah (b6.o hk bF).2.1;have e0:=ah bF;clear bF;go_wp2_with fail
 refine eU.o.mono ?_;rintro d hl ⟨rfl,a1⟩;have a1:=aO e0.o a1;clear eA eB eU e0;obtain⟨ez,_,eB⟩:=b5.o hl a1;have eV:=ah (b6.o hl a1).2.2;have ho:=ah a1;clear a1;go_wp2_with fail
 refine eV.o.mono ?_;rintro d hZ ⟨rfl,bZ⟩;have bZ:=aO hq.o (aO ho.o bZ);have eZ:=ah (aq.o hZ bZ);clear ez eB eV bZ;go_wp2_with fail
 refine eZ.o.mono ?_;rintro d io ⟨rfl,hN⟩;clear eZ
 go_wp2
 go_ret;exact⟨rfl,hN⟩
end Go.Proofs.YtnadadbndcdolaaGreatDoor
