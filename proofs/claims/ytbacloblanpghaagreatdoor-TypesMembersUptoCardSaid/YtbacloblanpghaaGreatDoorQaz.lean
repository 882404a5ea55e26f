import Derived.Test.YtbacloblanpghaaGreatDoorQax
import Derived.Test.YtbacloblanpghaaGreatDoorQay
set_option linter.unusedVariables false
set_option linter.unusedSimpArgs false
set_option maxRecDepth 100000
set_option maxHeartbeats 0
namespace Go.Proofs.YtbacloblanpghaaGreatDoor
open Go.RowKit Tryz
structure LI(ts:List ax):Prop where
 label:∀t∈ts,t.label≠[]
 name:∀t∈ts,a8 t.name=true
 nodes:∀t∈ts,t.text=false->cw t.nodes=0
 places:∀t∈ts,∀k∈kidsS ts t,k<ts.length
theorem uE{ts:List ax}(a:bW ts=0):LI ts:=by
 have h:=xz a;have i:=a;unfold bW at a;split at a
 ·cases a
 split at a
 ·cases a
 split at a
 ·cases a
 rename_i g;split at a
 ·cases a
 split at a
 ·cases a
 split at a
 ·cases a
 split at a
 ·rename_i c;exact absurd a c
 rename_i c;have c:eh ts=0:=fq c;have e:∀t∈ts,fS t=false:=fun t b=>by rw[<-fR];exact fun d=>g (gt.2 ⟨t,b,d⟩)
 refine⟨fun t b d=> ?_,fun t b=> ?_,Ci c,fun t b k f=> ?_⟩
 ·have:=e t b
  unfold fS at this;rw[d]at this;simp[show a8 []=false from rfl]at this
 ·have:=e t b
  unfold fS at this;simp at this;exact this.1.1.1
 ·have:=xx (((h.kids t b) (k:Int)).2 ⟨k,f,rfl⟩)
  omega
theorem LJ{l:List ar}(a:cw l=0):dW 0 l=true/\l≠[]/\gi l=true:=by
 have b:gi l=true:=by
  unfold cw at a;split at a
  ·cases a
  split at a
  ·cases a
  rename_i b;simpa using b
 have:=b;unfold gi at this;simp at this;exact⟨this.1.1,this.2,b⟩
theorem xN{ts:List ax}(g:bW ts=0){x:ax}(h:x∈ts){e:Bytes}{j:Nat}(a:ft ts x e=some j):∃t,ts[j]?=some t/\t.label=e/\j<ts.length:=by have b:=zr a;have f:=zL a;have c:=(uE g).places x h j f;obtain⟨t,d⟩:∃t,ts[j]?=some t:=⟨_,aF c⟩;refine⟨t,d,?_,c⟩;rw[tI d]at b;simpa using b
theorem LK{ts:List ax}(a:bW ts=0){x:ax}(e:x∈ts):ft ts x []=none:=by
 cases b:ft ts x []with
 |none=>rfl
 |some j=>
  obtain⟨t,d,c,_⟩:=xN a e b;exact absurd c ((uE a).label t (aU d))
theorem CR:∀{ks:List Tr} {k m:Tr},k∈ks->m∈nodesT k->m∈cf ks
 |a::ks,k,m,b,c=>by
  rw[cf];rcases eH.1 b with rfl|b
  ·exact sV _ c
  ·exact FM _ (CR b c)
theorem xO(t:Tr):t∈nodesT t:=by rw[Ar];exact f9 ..
theorem xP{t k m:Tr}(a:k∈t.kids)(b:m∈nodesT k):m∈nodesT t:=by rw[Ar];exact f8 _ (CR a b)
theorem uF{t k:Tr}(b:k∈t.kids):SizeOf.sizeOf k<SizeOf.sizeOf t:=by obtain⟨l,x,a,ks⟩:=t;have:=vx b;simp only[Tr.kids]at this;simp only[Tr.mk.sizeOf_spec];omega
def uG(p:Prop)(w:World)(a:Ending)(w':World):Prop:=(∃b,a=.returned (.bool b)/\(b=true↔p))/\Below w.heap.size w w'
theorem LM(l:List am)(o:Option Addr)(cap:Nat)(bA:bW (l.map am.t)=0)(gs:l.length<=1048576)(g3:∀x∈l,x.t.nodes.length<=1048576):∀(n at_:Nat) (t:Tr) (r:KA) (w:World),SizeOf.sizeOf t<=n->at_<l.length->cn w o cap l->dN w t r->(∀m∈nodesT t,m.kids.length<=1048576)->
 Calls prog 14 #[.slice o l.length cap,.int .i64 at_,bJ t r] w (uG (fw (l.map am.t) at_ t) w):=by
 intro n;induction n with
 |zero=>intro at_ t r w b8;cases t;simp at b8
 |succ n ih=>
 intro at_ t r w b8 f7 A du c5;have gf:=A.1.2.2.1;have hA:=A.1.2.1;unfold maxLen at gf;have hx:(at_:Int)<l.length:=ad;obtain⟨x,f⟩:∃n,l[at_]?=some n:=⟨_,aF f7⟩;have ae:=aU f;have dz:(l.map am.t)[at_]?=some x.t:=by rw[cb,f];rfl
 have c3:=tN dz t;have bB:=(A.2 x ae).1;have bz:=(A.2 x ae).2;have eE:=g3 x ae;have en:=fun d (D:Below w.heap.size w d) b9=>Le l o cap d (A.below D) gs bA at_ x f eE b9;have ec:=uE bA;have ed:=ec.nodes x.t (ki ae);have ex:∀b9 j,ft (l.map am.t) x.t b9=some j->∃y,l[j]?=some y/\j<l.length:=fun b9 j ab=>by obtain⟨y,af,_,cN⟩:=xN bA (ki ae) ab;rw[cd]at cN;exact⟨l[j],aF cN,cN⟩
 have es:=LK bA (ki ae);obtain⟨b,hI,rfl,ho,e6,e7,e8,e9,fb,fc⟩:=A.at f;have bE:jm w r.ao r.ac t.attrs:=du.attr;obtain⟨rs,b7,a4,dr⟩:=du.kids;have er:=c5 t (xO t);have ds:=fun k (a1:k∈t.kids)=>uF a1;have c6:=fun k (a1:k∈t.kids) m (g0:m∈nodesT k)=>c5 m (xP a1 g0);obtain⟨e,ag,av,ks⟩:=t;obtain⟨ba,ac,a7,a6⟩:=r;unfold bJ;simp only[Tr.label,Tr.text,Tr.attrs,Tr.kids]at c3 bE b7 a4 dr er ds c6⊢;obtain⟨X,hg,fu,d2,d7,fv,fr,fG,fs,d8⟩:=kB c3 (And.intro f (And.intro ae dz)) en ed ex es ih ds c6 dr;have cq:=ah b8;obtain⟨⟨name,label,attrs,key,text,nodes⟩,bm,bl,no,a9⟩:=x;simp only at e6 e7 e8 e9 fb fc bB bz eE X d2;have hG:=bB.2.1;have g9:=bB.2.2.1;have hn:=bE.2.1;have f6:=bE.2.2.1;have hz:=a4.2.1;have be:=a4.2.2.1;have hD:=bz.2.1;have b5:=bz.2.2.1;unfold maxLen at g9 f6 be b5;clear c3 f ae dz en ec ed ex es ih ds c6 c5 dr b8 du;have bF:Below w.heap.size w ((w.alloc (.cells #[.string ⟨e.toArray⟩,.string ⟨ag.toArray⟩,.slice ba av.length ac,.slice a7 ks.length a6] 29)).alloc (.cells #[.string ⟨name.toArray⟩,.string ⟨label.toArray⟩,.slice bm attrs.length bl,.string ⟨key.toArray⟩,.bool text,.slice no nodes.length a9] 90)):=az.alloc ak _;obtain⟨B,W⟩:=aj ((w.alloc (.cells #[.string ⟨e.toArray⟩,.string ⟨ag.toArray⟩,.slice ba av.length ac,.slice a7 ks.length a6] 29)).alloc (.cells #[.string ⟨name.toArray⟩,.string ⟨label.toArray⟩,.slice bm attrs.length bl,.string ⟨key.toArray⟩,.bool text,.slice no nodes.length a9] 90));have c0:B.heap[w.heap.size]?=some (.cells #[.string ⟨e.toArray⟩,.string ⟨ag.toArray⟩,.slice ba av.length ac,.slice a7 ks.length a6] 29):=by rw[W];exact(bH _ _ _ ak).trans (aC w _)
 have c1:B.heap[w.heap.size+1]?=some (.cells #[.string ⟨name.toArray⟩,.string ⟨label.toArray⟩,.slice bm attrs.length bl,.string ⟨key.toArray⟩,.bool text,.slice no nodes.length a9] 90):=by rw[W];have:=aC (w.alloc (.cells #[.string ⟨e.toArray⟩,.string ⟨ag.toArray⟩,.slice ba av.length ac,.slice a7 ks.length a6] 29)) (.cells #[.string ⟨name.toArray⟩,.string ⟨label.toArray⟩,.slice bm attrs.length bl,.string ⟨key.toArray⟩,.bool text,.slice no nodes.length a9] 90);rwa[bI]at this
 rw[<-W]at bF;have gv:=aN c0;have gG:=aN c1;have c2:∀d,Below B.heap.size B d->d.cell? ⟨w.heap.size,0,none⟩=some (.string ⟨e.toArray⟩)/\d.cell? ⟨w.heap.size,2,none⟩=some (.slice ba av.length ac)/\d.cell? ⟨w.heap.size,3,none⟩=some (.slice a7 ks.length a6)/\
  d.cell? ⟨w.heap.size+1,1,none⟩=some (.string ⟨label.toArray⟩)/\d.cell? ⟨w.heap.size+1,2,none⟩=some (.slice bm attrs.length bl)/\d.cell? ⟨w.heap.size+1,3,none⟩=some (.string ⟨key.toArray⟩)/\d.cell? ⟨w.heap.size+1,4,none⟩=some (.bool text)/\d.cell? ⟨w.heap.size+1,5,none⟩=some (.slice no nodes.length a9):=fun d D=>by
  have cG:=(D.block _ gv).trans c0;have bb:=(D.block _ gG).trans c1;exact⟨ai 0 cG,ai 2 cG,ai 3 cG,ai 1 bb,ai 2 bb,ai 3 bb,ai 4 bb,ai 5 bb⟩
 have bt:=ah c2;obtain⟨J,K,L,M,N,O,P,Q⟩:=c2 B (aA _ _);have d4:∀(q:Bool) (d:World),Below B.heap.size B d->(q=true↔fw (l.map am.t) at_ (.mk e ag av ks))->uG (fw (l.map am.t) at_ (.mk e ag av ks)) w (.returned (.bool q)) d:=fun q d D h=>⟨⟨q,rfl,h⟩,aD bF D⟩;have H:=ah d4;clear d4 c2 c0 c1;go_enter func14,ntmps14
 by_cases h:e≠label
 ·have b4:(e==label)=false:=by simpa using h
  have Y:=ah (H.o false B (aA _ _) ⟨fun c=>(by cases c),fun c=>absurd (X.o.1 c).1 h⟩);clear h;go_wp2_with fail
  rw[<-W];clear W
  go_wp2
  go_ret;exact Y.o
 have h:e=label:=zX.1 h;subst h;have b4:(e==e)=true:=ak;by_cases a2:av.length≠attrs.length
 ·have eB:((av.length:Int)==(attrs.length:Int))=false:=dX
  have Y:=ah (H.o false B (aA _ _) ⟨fun c=>(by cases c),fun c=>absurd (by have A:=iK List.length (X.o.1 c).2.1;rwa[cd]at A) a2⟩);clear a2;go_wp2_with fail
  rw[<-W];clear W
  go_wp2
  go_ret;exact Y.o
 have a2:av.length=attrs.length:=zX.1 a2;have eB:((av.length:Int)==(attrs.length:Int))=true:=mq;have cl:=ah a2;clear a2;go_wp2_with fail
 rw[<-W];clear W e6 e7 e8 e9 fb fc;go_wp2_with fail
 clear b4 eB;go_loopw [8] (fun v wr=>∃k:Nat,v=.int .i64 k/\k<=av.length/\Below B.heap.size B wr/\Hid ((av.take k).map Prod.fst=attrs.take k)) (fun v _=>av.length-(intOf v).toNat)
 case atStart=>exact⟨0,rfl,aK _,aA _ _,rfl⟩
 case round=>
 obtain⟨k,rfl,a1,C,ce⟩:=hrel;clear J K L M N O P Q;obtain⟨J,K,L,M,N,O,P,Q⟩:=bt.o wr C;have G:=aD bF C;by_cases b3:k<av.length
 ·have b0:decide ((k:Int)<av.length)=true:=aM
  have gr:(k:Int)<av.length:=ad;have hy:(k:Int)<attrs.length:=by have:=cl.o;omega
  have hw:(0:Int)<=k:=ad;obtain⟨a,f⟩:∃n,av[k]?=some n:=⟨_,aF b3⟩;obtain⟨n',af⟩:∃n,attrs[k]?=some n:=⟨_,aF (by have:=cl.o;omega)⟩;obtain⟨g,R,rfl,a0,T,aq⟩:=mo (bE.below G) f;obtain⟨hl,hm,rfl,hs,hf⟩:=(bB.below G).at af;have bf:=Cw f af;have e1:(a.1==n')=true->(av.take (k+1)).map Prod.fst=attrs.take (k+1):=fun c=>by rw[bG,bG,f,af,fd,ce.o];simp at c;simp[c]
  obtain⟨Y,f0⟩:=aE bf e1;clear bf e1 f af;obtain⟨bu,hi⟩:=a;simp only at T aq;by_cases h:bu=n'
  ·subst h
   have cq:=ah (f0.o ak);have b4:(bu==bu)=true:=ak
   go_wp2
   go_quiet(fail)
   go_wp2
   go_roundw
   case rel=>exact⟨k+1,aG,ad,dm C _,cq.o⟩
   case measure=>exact aH
  ·have b4:(bu==n')=false:=by simpa using h
   have fo:=ah (Y.o (by simpa using h));clear h;have s:=ah (fun nq=>H.o false _ (dm C nq) ⟨fun c=>(by cases c),fun c=>absurd (X.o.1 c).2.1 (of_decide_eq_false fo.o)⟩)
   go_wp2
   go_quiet(fail)
   go_wp2
   go_ret;exact s.o _
 have b0:decide ((k:Int)<av.length)=false:=aJ;have el:av.map Prod.fst=attrs:=by have:=ce.o;rwa[bx ad,bx (by have:=cl.o;omega)]at this
 have d3:=ah el;obtain⟨cc,e3⟩:=aj (wr);rw[<-e3]at C G J K L M N O P Q⊢;clear el ce e3;cases text with
 |true=>
  have I:Hid (fw (l.map am.t) at_ (.mk e ag av ks)↔(ks=[]∨∃k,ks=[k]/\k.label=[])):=ah ⟨fun c=>(by have A:=(X.o.1 c).2.2;rw[au rfl]at A;exact A),fun c=>X.o.2 ⟨cD,d3.o,by rw[au rfl];exact c⟩⟩;rcases ks with _|⟨a5,_|⟨e5,ks⟩⟩
  ·have s:=ah (H.o true cc C ⟨fun _=>I.o.2 (.inl rfl),fun _=>rfl⟩)
   go_wp2
   go_ret;exact s.o
  ·obtain⟨g,R,q,h,rfl,a0,T,aq,bo,bq⟩:=jl b7 (a4.below G) (i:=0) (k:=a5) rfl
   rw[sK,mT]at T;by_cases E:a5.label=[]
   ·have s:=ah (H.o true cc C ⟨fun _=>I.o.2 (.inr ⟨a5,rfl,E⟩),fun _=>rfl⟩)
    rw[E]at T;clear E h
    go_wp2
    go_ret;exact s.o
   ·have eN:(a5.label==[])=false:=by simpa using E
    have s:=ah (H.o false cc C ⟨fun c=>(by cases c),fun c=>by
     rcases I.o.1 c with F|⟨k,F,bw⟩
     ·cases F
     ·injection F with F _;subst F;exact absurd bw E⟩)
    clear E h
    go_wp2
    go_ret;exact s.o
  ·have s:=ah (H.o false cc C ⟨fun c=>(by cases c),fun c=>by
    rcases I.o.1 c with F|⟨k,F,bw⟩
    ·cases F
    ·injection F with _ F;cases F⟩)
   have hq:(((a5::e5::ks).length:Int)==0)=false:=by rw[cW];simp only[de];omega
   have hr:(((a5::e5::ks).length:Int)==1)=false:=by rw[cW];simp only[de];omega
   go_wp2
   go_ret;exact s.o
 |false=>
  have I:Hid (fw (l.map am.t) at_ (.mk e ag av ks)↔jL (l.map am.t) ⟨name,e,attrs,key,false,nodes⟩ ks/\(dD key ks).Nodup/\mu nodes (eL (l.map am.t) ⟨name,e,attrs,key,false,nodes⟩ ks)):=ah ⟨fun c=>(by have A:=(X.o.1 c).2.2;rw[ap aw]at A;exact A),fun c=>X.o.2 ⟨cD,d3.o,by rw[ap aw];exact c⟩⟩;have g7:=d2.o rfl;obtain⟨he,gl,hb,hc,hd⟩:=cL oG;have em:=LJ g7;have d5:=ah em;clear em;go_wp2_with fail
  clear b0 b3 a1;go_loopw [9,10] (fun v i wr=>∃k:Nat,i=.int .i64 k/\k<=ks.length/\Below B.heap.size B wr/\cA wr B.heap.size v (eL (l.map am.t) ⟨name,e,attrs,key,false,nodes⟩ (ks.take k))/\Hid (jL (l.map am.t) ⟨name,e,attrs,key,false,nodes⟩ (ks.take k))) (fun _ i _=>ks.length-(intOf i).toNat)
  case atStart=>exact⟨0,rfl,aK _,C,cR _ _ _ _,trivial⟩
  case round=>
  obtain⟨k,rfl,a1,C,bg,ch⟩:=hrel;clear J K L M N O P Q;obtain⟨J,K,L,M,N,O,P,Q⟩:=bt.o wr C;have G:=aD bF C;obtain⟨d1,d0,rfl⟩:=cJ bg;have b6:(eL (l.map am.t) ⟨name,e,attrs,key,false,nodes⟩ (ks.take k)).length=k:=by unfold eL;rw[cd,dx];omega
  by_cases b3:k<ks.length
  ·have b0:decide ((k:Int)<ks.length)=true:=aM
   have gr:(k:Int)<ks.length:=ad;obtain⟨u,f⟩:∃n,ks[k]?=some n:=⟨_,aF b3⟩;obtain⟨g,R,q,h,rfl,a0,T,aq,bo,bq⟩:=jl b7 (a4.below G) f;have ez:=d8.o k u q f h;have be:=aU f;have bd:=fun d (D:Below wr.heap.size wr d)=>fu.o d (aD G D) u.label;have bf:=A3 (ts:=l.map am.t) (x:=⟨name,e,attrs,key,false,nodes⟩) f;have e0:=A5 (ts:=l.map am.t) (x:=⟨name,e,attrs,key,false,nodes⟩) f ch.o;have eZ:=A6 (ts:=l.map am.t) (x:=⟨name,e,attrs,key,false,nodes⟩) f;have eg:=d7.o u.label;have ha:=d7.o u.label;obtain⟨Y,fN,fz,fg,fy⟩:=ku bf e0 eZ eg (fun j (ab:j<l.length) d (D:Below wr.heap.size wr d)=>fr.o j u q d (by have:=fG.o u be;have:=cq.o;omega) ab (A.below (aD G D)) (ez.below (aD G D)) (fs.o u be));have fl:Hid (∀d,Below wr.heap.size wr d->d.cell? ⟨g,R+k*4,none⟩=some (.string ⟨u.label.toArray⟩)/\d.cell? ⟨g,R+k*4+1,none⟩=some (.string ⟨u.text.toArray⟩)/\d.cell? ⟨g,R+k*4+2,none⟩=some (.slice q.ao u.attrs.length q.ac)/\d.cell? ⟨g,R+k*4+3,none⟩=some (.slice q.ko u.kids.length q.kc)):=
    ah fun d bZ=>⟨(bZ.cell (p:=⟨g,R+k*4,none⟩) a0).trans T,(bZ.cell (p:=⟨g,R+k*4+1,none⟩) a0).trans aq,(bZ.cell (p:=⟨g,R+k*4+2,none⟩) a0).trans bo,(bZ.cell (p:=⟨g,R+k*4+3,none⟩) a0).trans bq⟩
   obtain⟨d6,hh⟩:=aE (bd wr (aA _ _)) f;clear bf e0 eZ eg ha ez be bd f h;have bd:=d6.o;go_wp2_with fail
   refine bd.mono ?_;rintro c al ⟨rfl,V⟩;clear bd d6 T aq bo bq J K L M N O P Q;obtain⟨T,aq,bo,bq⟩:=fl.o al V;have an:=aD C V;have c4:=aD G V;obtain⟨J,K,L,M,N,O,P,Q⟩:=bt.o al an;obtain⟨f4,aa⟩:=aj (ft (l.map am.t) ⟨name,e,attrs,key,false,nodes⟩ u.label);rw[<-aa];cases f4 with
   |none=>
    have s:=ah (H.o false al an ⟨fun c=>(by cases c),fun c=>absurd (I.o.1 c).1 (Y.o (by rintro⟨j,ab,_⟩;rw[<-aa]at ab;cases ab))⟩);clear aa;unfold qi;by_cases E:u.label=[]
    ·rw[E]at T
     clear E
     go_wp2
     go_ret;exact s.o
    ·have eN:(u.label==[])=false:=by simpa using E
     clear E
     go_wp2
     go_ret;exact s.o
   |some j=>
    obtain⟨y,af,ab⟩:=fg.o j aa.symm;have E:u.label≠[]:=fun c=>by rw[c,fv.o]at aa;cases aa
    have eN:(u.label==[])=false:=by simpa using E
    have ht:decide ((j:Int)<0)=false:=aJ;have hu:(j:Int)<l.length:=ad;have hv:(0:Int)<=j:=ad;have c9:=fy.o j ab al V;unfold bJ at c9;obtain⟨ci,ea⟩:=aE aa af;clear aa E af;unfold qi;go_wp2_with fail
    refine c9.mono ?_;rintro c bi ⟨⟨cs,rfl,S⟩,bc⟩;clear c9 T aq bo bq J K L M N O P Q;have ao:=aD an bc;have gd:=aD c4 bc;cases cs with
    |false=>
     have b5:¬fw (l.map am.t) j u:=fun c=>by cases S.2 c
     have s:=ah (H.o false bi ao ⟨fun c=>(by cases c),fun c=>absurd (I.o.1 c).1 (Y.o (by rintro⟨hH,b1,g1⟩;rw[<-ci.o]at b1;injection b1 with b1;subst b1;exact b5 g1))⟩);clear S b5
     go_wp2
     go_ret;exact s.o
    |true=>
     have fT:=ah (fN.o ⟨j,ci.o.symm,S.1 rfl⟩);obtain⟨b',hJ,cu,hp,hf,_⟩:=(A.below gd).at ea.o;injection cu with cu
     injection cu with Z eb cx;clear cx
     subst Z;subst eb;have eD:nA (l.map am.t) j=y.t.name:=by unfold nA;rw[cb,ea.o];rfl
     have fx:=ah eD;have gb:=aD V bc;have c8:bi.ownsRow B.heap.size 9 1 (.slice d1 (eL (l.map am.t) ⟨name,e,attrs,key,false,nodes⟩ (ks.take k)).length d0) (eL (l.map am.t) ⟨name,e,attrs,key,false,nodes⟩ (ks.take k)).length ((eL (l.map am.t) ⟨name,e,attrs,key,false,nodes⟩ (ks.take k)).map encStr):=rF bg gb;rw[b6]at c8;have g5:=dA c8 (.cells #[.string ⟨y.t.name.toArray⟩] 9);have hE:=ao.size;clear S eD;go_wp2_with(first
      |(at_builtin;go_must (refine gY _ rfl _ _ 66 rfl B.heap.size 9 he (.string ⟨#[]⟩) 1 16 jE gl hb hc hd rfl aw _ _ _ rfl g5 ⟨bi.heap.size,0,none⟩ 1 1 [.string ⟨y.t.name.toArray⟩] rfl rfl (dt _ [.string ⟨y.t.name.toArray⟩] _ _ (by first|rfl|simp)) (fun z e4=>by simp at e4;subst e4;rfl) bN ad aO ?_);intro hK hL g4 gg hC)
      |go_in)
     go_roundw
     case rel=>
      refine⟨k+1,aG,ad,?_,?_,fT.o⟩
      ·exact(ao.alloc ao.size _).grown gg (by have:=ao.size;simp;omega) (fun j c=>(bX c8 j c).1)
      ·rw[fz.o]
       unfold cA;rw[cm,b6,fd,<-ci.o];show World.ownsRow _ _ _ _ _ _ ((eL (l.map am.t) ⟨name,e,attrs,key,false,nodes⟩ (ks.take k)).map encStr++[encStr (nA (l.map am.t) j)])
       rw[fx.o];exact g4
     case measure=>exact aH
  ·have b0:decide ((k:Int)<ks.length)=false:=aJ
   obtain rfl:k=ks.length:=ad;rw[bx (aB _)]at bg b6 ch;have b2:=fun d (D:Below wr.heap.size wr d)=>Lg ks rs a7 a6 key d b7 (a4.below (aD G D)) (fun i k q F bw=>(d8.o i k q F bw).below (aD G D));have b2:=b2 wr (aA _ _);obtain⟨g2,e2⟩:=mp bg;have hB:1<=nodes.length:=by
    have:=d5.o.2.1;cases nodes with
    |nil=>exact absurd rfl this
    |cons a t=>simp
   obtain⟨f1,cp⟩:=aE e2 b6;clear g2 e2;go_wp2_with fail
   refine b2.mono ?_;rintro c al ⟨⟨cs,rfl,S⟩,V⟩;rw[Il]at S;clear b2 J K L M N O P Q;have an:=aD C V;have c4:=aD G V;obtain⟨J,K,L,M,N,O,P,Q⟩:=bt.o al an;cases cs with
   |false=>
    have s:=ah (H.o false al an ⟨fun c=>(by cases c),fun c=>by have:=S.2 (I.o.1 c).2.1;cases this⟩);clear S
    go_wp2
    go_ret;exact s.o
   |true=>
    have g8:rM d1 d0:=by
     rcases bg.2 with⟨c,_⟩|⟨f5,hj,hk,c,_⟩
     ·injection c with Z _ cx;exact .inl ⟨Z,cx⟩
     ·injection c with Z _ _;exact .inr ⟨f5,0,Z⟩
    have a3:=LH nodes no a9 d5.o.1 (nodes.length-1) ks.length (eL (l.map am.t) ⟨name,e,attrs,key,false,nodes⟩ ks) d1 d0 al ad (by rw[cp.o];exact aB _) (bz.below c4) (f1.o.below V) g8 (by rw[cp.o];exact er);unfold M7 at a3;rw[cp.o]at a3;have Z:((nodes.length-1:Nat):Int)=(nodes.length:Int)-1:=ad;rw[Z]at a3;have c7:dd nodes (nodes.length-1) (eL (l.map am.t) ⟨name,e,attrs,key,false,nodes⟩ ks)=true↔mu nodes (eL (l.map am.t) ⟨name,e,attrs,key,false,nodes⟩ ks):=lS;generalize dd nodes (nodes.length-1) (eL (l.map am.t) ⟨name,e,attrs,key,false,nodes⟩ ks)=f2 at a3 c7;have co:=ah (And.intro (S.1 rfl) c7);have eb:IntKind.i64.wrap ((nodes.length:Int)-1)=(nodes.length:Int)-1:=lp _ ad;clear S c7 Z;go_wp2_with fail
    refine a3.mono ?_;rintro c bi ⟨rfl,bc⟩;clear a3;have ao:=aD an bc;have s:=ah (H.o f2 bi ao ⟨fun c=>I.o.2 ⟨ch.o,co.o.1,co.o.2.1 c⟩,fun c=>co.o.2.2 (I.o.1 c).2.2⟩)
    go_wp2
    go_ret;exact s.o
def nX(w:World)(b:Nat)(ts:List ax)(x:ax):Prop:=∃n g,bn w prog 9 b n g/\n<=(kidsS ts x).length/\∀a:Bytes,g (.string a)=(ft ts x a).map (fun j=>Value.int .i64 (j:Nat))
structure eq(W0:World)(A:Nat->Prop)(w:World)(K M1 M2 M3:Nat)(o:Option Addr)(cap:Nat)(l:List am):Prop where
 base:Below W0.heap.size W0 w
 fresh:W0.heap.size<=K/\W0.heap.size<=M1/\W0.heap.size<=M2/\W0.heap.size<=M3
 blk:w.heap[K]?=some (.cells #[.slice o l.length cap,.map (some M1),.map (some M2),.map (some M3)] 81 (0,0))
 places:ei w M1 (l.map am.t)
 made:∃n f,bn w prog 3 M2 n f/\n<=64
 inside:∃n f,bn w prog 3 M3 n f/\n<=((List.range l.length).filter (fun a=>(f (.int .i64 (a:Nat))).isSome)).length/\∀(a:Nat) (v:Value),f (.int .i64 (a:Nat))=some v->∃Mk x,v=.map (some Mk)/\l[a]?=some x/\Mk≠M3/\¬A Mk/\nX w Mk (l.map am.t) x.t
 apart:M1≠M3/\K≠M3/\M2≠M3/\M1≠M2
def LN(w w':World)(c d a e:Nat)(o:Option Addr)(cap:Nat)(l:List am):Prop:=(∀b,eq w b w' c d a e o cap l)/\bn w' prog 3 a 0 (fun _=>none)
def xQ(l:List am)(o:Option Addr)(cap:Nat)(w:World)(b:Ending)(w':World):Prop:=
 Below w.heap.size w w'/\((bW (l.map am.t)≠0/\b=.returned (.tuple #[.pointer none,.int .i64 (bW (l.map am.t))]))∨
  (bW (l.map am.t)=0/\∃a,b=.returned (.tuple #[.pointer (some ⟨a,0,none⟩),.int .i64 0])/\∃c d e,LN w w' a c d e o cap l))
theorem CS(l:List am)(o:Option Addr)(cap:Nat)(w:World)(r:cn w o cap l)(t:ej l):
 Calls prog 28 #[.agg #[.slice o l.length cap]] w (xQ l o cap w):=by
 have bo:=r.1.2.1;have an:=r.1.2.2.1;unfold maxLen at an;have bm:=t.len;have a3:=t.name;have z:Below w.heap.size w (w.alloc (.cells #[.slice o l.length cap] 24)):=az;have J:=aC w (.cells #[.slice o l.length cap] 24);have P:=aN J;have F:=check_any l o cap _ (r.below z) t;obtain⟨L,Y⟩:=aj (bW (l.map am.t));unfold xQ;rw[<-Y]at F⊢;obtain⟨w0,S⟩:=aj (w.alloc (.cells #[.slice o l.length cap] 24));rw[<-S]at z J P F;have bq:= @mY prog;clear Y t;go_enter func28,ntmps28
 go_wp2_with fail
 rw[<-S];clear S;refine F.mono ?_;rintro q c ⟨rfl,A⟩;clear F;have E:=aD z A;have T:=(A.block _ P).trans J;have cs:=ai 0 T;by_cases g:L≠0
 ·have bf:(L==0)=false:=by simpa using g
  have ag:=ah g;clear g
  go_wp2
  go_ret2
  exact⟨E,.inl ⟨ag.o,rfl⟩⟩
 have g:L=0:=zX.1 g;subst g;have D:Below c.heap.size c ((((c.alloc (.map #[] 0)).alloc (.map #[] 0)).alloc (.map #[] 0)).alloc (.cells #[.slice o l.length cap,.map (some c.heap.size),.map (some (c.heap.size+1)),.map (some (c.heap.size+1+1))] 81)):=(((az.alloc ak _).alloc aO _).alloc aO _);have d:((((c.alloc (.map #[] 0)).alloc (.map #[] 0)).alloc (.map #[] 0)).alloc (.cells #[.slice o l.length cap,.map (some c.heap.size),.map (some (c.heap.size+1)),.map (some (c.heap.size+1+1))] 81)).heap[c.heap.size+1+1+1]?=some (.cells #[.slice o l.length cap,.map (some c.heap.size),.map (some (c.heap.size+1)),.map (some (c.heap.size+1+1))] 81 (0,0)):=by have:=aC (((c.alloc (.map #[] 0)).alloc (.map #[] 0)).alloc (.map #[] 0)) (.cells #[.slice o l.length cap,.map (some c.heap.size),.map (some (c.heap.size+1)),.map (some (c.heap.size+1+1))] 81);simpa using this
 have X:ei (c.alloc (.map #[] 0)) c.heap.size []:=⟨_,0,Pl.nil,aB _,zi (H:=Unit) c prog 9 (plainElem prog 3)⟩;have u:ei ((((c.alloc (.map #[] 0)).alloc (.map #[] 0)).alloc (.map #[] 0)).alloc (.cells #[.slice o l.length cap,.map (some c.heap.size),.map (some (c.heap.size+1)),.map (some (c.heap.size+1+1))] 81)) c.heap.size []:=((X.alloc _).alloc _).alloc _;have e:bn ((((c.alloc (.map #[] 0)).alloc (.map #[] 0)).alloc (.map #[] 0)).alloc (.cells #[.slice o l.length cap,.map (some c.heap.size),.map (some (c.heap.size+1)),.map (some (c.heap.size+1+1))] 81)) prog 3 (c.heap.size+1) 0 (fun _=>none):=by have:=bn.made (c.alloc (.map #[] 0)) prog 3;rw[bI]at this;exact((this.kept (iY _ _ none) ak).kept (iY _ _ none) ak)
 have f:bn ((((c.alloc (.map #[] 0)).alloc (.map #[] 0)).alloc (.map #[] 0)).alloc (.cells #[.slice o l.length cap,.map (some c.heap.size),.map (some (c.heap.size+1)),.map (some (c.heap.size+1+1))] 81)) prog 3 (c.heap.size+1+1) 0 (fun _=>none):=by have:=bn.made ((c.alloc (.map #[] 0)).alloc (.map #[] 0)) prog 3;rw[bI,bI]at this;exact this.kept (iY _ _ none) ak
 have a5:=A.size;have ao:((((c.alloc (.map #[] 0)).alloc (.map #[] 0)).alloc (.map #[] 0)).alloc (.cells #[.slice o l.length cap,.map (some c.heap.size),.map (some (c.heap.size+1)),.map (some (c.heap.size+1+1))] 81)).cell? ⟨w.heap.size,0,none⟩=some (.slice o l.length cap):=(D.cell (p:=⟨w.heap.size,0,none⟩) (aN T)).trans cs;go_wp2_with fail
 obtain⟨bw,ab⟩:=aj (((((c.alloc (.map #[] 0)).alloc (.map #[] 0)).alloc (.map #[] 0)).alloc (.cells #[.slice o l.length cap,.map (some c.heap.size),.map (some (c.heap.size+1)),.map (some (c.heap.size+1+1))] 81)));rw[<-ab]at D d u e f⊢;clear ab ao;obtain⟨B,s⟩:=aj (c.heap.size);rw[<-s]at d u e f⊢;have bd:w.heap.size<=B:=by rw[s];exact E.size
 have bc:=ah s;clear s;have Z:=aD E D;clear D A E T cs J P z a5;go_loopw [22] (fun v wr=>∃k:Nat,v=.int .i64 k/\k<=l.length/\ei wr B ((l.take k).map am.t)/\wr.heap[B+1+1+1]?=some (.cells #[.slice o l.length cap,.map (some B),.map (some (B+1)),.map (some (B+1+1))] 81 (0,0))/\bn wr prog 3 (B+1) 0 (fun _=>none)/\bn wr prog 3 (B+1+1) 0 (fun _=>none)/\Below w.heap.size w wr) (fun v _=>l.length-(intOf v).toNat)
 case atStart=>exact⟨0,rfl,aK _,u,d,e,f,Z⟩
 case round=>
  clear u d e f X Z;obtain⟨k,rfl,bi,y,d,e,f,m⟩:=hrel;have a6:=ai 1 d;by_cases a0:k<l.length
  ·have aq:decide ((k:Int)<l.length)=true:=aM
   have bl:(k:Int)<l.length:=ad;obtain⟨x,I⟩:∃n,l[k]?=some n:=⟨_,aF a0⟩;obtain⟨b,bt,rfl,be,bz,bA,bB,bE,bF,bZ⟩:=(r.below m).at I;have a4:=a3 x (aU I);have aa:(l.take (k+1)).map am.t=(l.take k).map am.t++[x.t]:=by rw[bG,I];simp
   have O:((l.take k).map am.t).length=k:=by rw[cd,dx];omega
   have av:=mr x.t.name a4;have al:=(y.alloc (.cells (typeRow x).toArray 68));obtain⟨ae,n,W,a1,Q⟩:=al;have R:=Q.drew;have i:=(bH wr (.cells (typeRow x).toArray 68) _ (aN d)).trans d;have M:=e.kept (iY wr (.cells (typeRow x).toArray 68) none) ak;have N:=f.kept (iY wr (.cells (typeRow x).toArray 68) none) ak;have C:=m.alloc m.size (.cells (typeRow x).toArray 68);obtain⟨V,af⟩:=aE aa W;rw[O]at a1;unfold typeRow at Q C R i M N;clear aa W I y;have a7:(wr.alloc (.cells #[.string ⟨x.t.name.toArray⟩,.string ⟨x.t.label.toArray⟩,.slice x.ao x.t.attrs.length x.ac,.string ⟨x.t.key.toArray⟩,.bool x.t.text,.slice x.no x.t.nodes.length x.nc] 68)).cell? ⟨B+1+1+1,1,none⟩=some (.map (some B)):=ai 1 i;clear a6;go_wp2_with fail
   obtain⟨K,G⟩:=aj ((wr.alloc (.cells #[.string ⟨x.t.name.toArray⟩,.string ⟨x.t.label.toArray⟩,.slice x.ao x.t.attrs.length x.ac,.string ⟨x.t.key.toArray⟩,.bool x.t.text,.slice x.no x.t.nodes.length x.nc] 68)));have a9:K.heap[wr.heap.size]?=some (.cells #[.string ⟨x.t.name.toArray⟩,.string ⟨x.t.label.toArray⟩,.slice x.ao x.t.attrs.length x.ac,.string ⟨x.t.key.toArray⟩,.bool x.t.text,.slice x.no x.t.nodes.length x.nc] 68 (0,0)):=by rw[G];exact aC wr _
   have bg:wr.grownBy K (some B):=by rw[G];exact iY wr _ (some B)
   rw[<-G]at R i M N C a7⊢;clear Q G;have bu:K.cell? ⟨wr.heap.size,0,none⟩=some (.string ⟨x.t.name.toArray⟩):=ai 0 a9;go_still_tail 7,ay
   change wpList _ _ _ _ _ (World.drew _);go_wp2_with(first
    |(at_mapUpdate;go_must (refine zj _ rfl _ _ _ 77 rfl 9 3 (kN fZ) iZ _ B _ ae rfl R bN _ _ _ rfl rfl av _ [] (plainElem_int cX (kt ad)) ?_);intro ba a2 h)
    |go_in)
   have h:K.grownBy ba (some B):={h with};go_roundw
   case rel=>
    refine⟨k+1,aG,ad,⟨_,n+1,by rw[V.o];have:=af.o.snoc x.t;rw[O]at this;exact this,by rw[V.o,cm,O];simp;omega,a2⟩,?_,M.kept h ak,N.kept h aO,C.grown h C.size (fun j q=>by cases q;omega)⟩;exact(h.block _ (aN i) aO).trans i
   case measure=>exact aH
  ·have aq:decide ((k:Int)<l.length)=false:=aJ
   rw[bx ad]at y
   go_wp2
   go_ret2
   refine⟨m,_,rfl,?_⟩;exact⟨B,B+1,B+1+1,fun bb=>⟨m,ad,d,y,⟨0,_,e,ad⟩,⟨0,_,f,ad,fun a v q=>by cases q⟩,ad⟩,e⟩
theorem bP{w w':World}(a:Below w.heap.size w w')(row:Option Nat):w.grownBy w' row:=⟨a.os,a.tape,a.output,a.size,fun k b _=>a.block k b⟩
theorem bn.block{w:World}{P:Program}{k:TypeId}{M n:Nat}{f:Lit->Option Value}(b:bn w P k M n f):∃a c,w.heap[M]?=some (.map a c):=by obtain⟨e,⟨a,c,d,_⟩,_⟩:=b;exact⟨a,c,d⟩
theorem ei.block{w:World}{M:Nat}{ts:List ax}(b:ei w M ts):∃a c,w.heap[M]?=some (.map a c):=by obtain⟨e,n,_,_,a,c,d,_⟩:=b;exact⟨a,c,d⟩
theorem nX.kept{w w':World}{a:Nat}{ts:List ax}{x:ax}{row:Option Nat}(b:nX w a ts x)(c:w.grownBy w' row)(f:some a≠row):nX w' a ts x:=by obtain⟨n,g,d,e,h⟩:=b;exact⟨n,g,d.kept c f,e,h⟩
theorem nX.block{w:World}{a:Nat}{ts:List ax}{x:ax}(d:nX w a ts x):∃b c,w.heap[a]?=some (.map b c):=by obtain⟨n,g,e,f,h⟩:=d;exact e.block
theorem aL{w:World}{M:Nat}{x:Obj}(a:w.heap[M]?=some x):M<w.heap.size:=(gW.1 a).1
theorem eq.kept{r w w':World}{h:Nat->Prop}{g i j m:Nat}{o:Option Addr}{cap:Nat}{l:List am}{row:Option Nat}(d:eq r h w g i j m o cap l)(f:w.grownBy w' row)
 (u:∀q,row=some q->r.heap.size<=q/\q≠g/\((∃xs t,w.heap[q]?=some (.cells xs t))∨(q≠i/\q≠j/\q≠m/\h q))):eq r h w' g i j m o cap l:=by
 have p:∀M,(∃y c,w.heap[M]?=some (.map y c))->(M=i∨M=j∨M=m∨¬h M)->some M≠row:=fun M ⟨y,c,F⟩ E b=>by
  obtain⟨_,_,e⟩:=u M b.symm;rcases e with⟨xs,t,e⟩|⟨s,n,e,D⟩
  ·rw[F]at e;cases e
  ·rcases E with b|b|b|b
   ·exact s b
   ·exact n b
   ·exact e b
   ·exact b D
 obtain⟨L,C,z,H⟩:=d.made;obtain⟨N,f3,A,I,G⟩:=d.inside;refine⟨d.base.grown f d.base.size (fun k b=>(u k b).1),d.fresh,?_,d.places.kept f (p _ d.places.block (.inl rfl)),⟨L,C,z.kept f (p _ z.block (.inr (.inl rfl))),H⟩,
  ⟨N,f3,A.kept f (p _ A.block (.inr (.inr (.inl rfl)))),I,fun a v J=> ?_⟩,d.apart⟩
 ·rw[f.block g (aL d.blk) (fun b=>(u g b.symm).2.1 rfl)]
  exact d.blk
 ·obtain⟨B,x,b,K,s,n,e⟩:=G a v J
  exact⟨B,x,b,K,s,n,e.kept f (p _ e.block (.inr (.inr (.inr n))))⟩
theorem eq.more{j w:World}{d A':Nat->Prop}{e f g h:Nat}{o:Option Addr}{cap:Nat}{l:List am}(b:eq j d w e f g h o cap l)
 (t:∀q,A' q->d q∨w.heap.size<=q):eq j A' w e f g h o cap l:=by
 obtain⟨E,f3,u,B,A⟩:=b.inside;refine⟨b.base,b.fresh,b.blk,b.places,b.made,⟨E,f3,u,B,fun a v C=> ?_⟩,b.apart⟩;obtain⟨i,x,p,D,r,s,m⟩:=A a v C;obtain⟨F,c,z⟩:=m.block;refine⟨i,x,p,D,r,fun y=> ?_,m⟩;rcases t i y with n|n
 ·exact s n
 ·have:=aL z
  omega
theorem xR(p q:Nat->Bool)(a:Nat)(g:p a=false)(f:∀x,q x=(p x||x==a)):∀L,((List.range L).filter p).length+(if a<L then 1 else 0)=((List.range L).filter q).length:=by
 intro L;induction L with
 |zero=>simp
 |succ L ih=>
  rw[sI,ou,ou,cm,cm,<-ih];by_cases e:L=a
  ·subst e
   have d:q L=true:=by rw[f];simp
   simp[g,d]
  ·have d:q L=p L:=by rw[f];simp[e]
   by_cases b:p L=true
   ·have:q L=true:=d.trans b
    by_cases c:a<L
    ·simp[b,this,c,show a<L+1 by omega]
    ·simp[b,this,c,show¬a<L+1 by omega]
   ·have b:p L=false:=by simpa using b
    have:q L=false:=d.trans b;by_cases c:a<L
    ·simp[b,this,c,show a<L+1 by omega]
    ·simp[b,this,c,show¬a<L+1 by omega]
theorem xS(p:Nat->Bool)(L:Nat):((List.range L).filter p).length<=L:=by have:=me p (List.range L);simpa using this
def rN(ts:List ax)(b:List Bytes)(g:Lit->Option Value):Prop:=∀a:Bytes,g (.string a)=((b.map (dl ts)).find? (fun j=>labelAt ts j==a)).map (fun j=>Value.int .i64 (j:Nat))
theorem rN.put{ts:List ax}{a:List Bytes}{g:Lit->Option Value}{k:Nat}{b:Bytes}(s:bV ((a.map (dl ts)).map (labelAt ts))=false)(h:a[k]?=some b)(l:rN ts (a.take k) g):
 rN ts (a.take (k+1)) (eO g (.string (labelAt ts (dl ts b))) (.int .i64 (dl ts b:Nat))):=by
 intro f;rw[bG,h,fd,FE];simp only[dR,gX,mX,List.find?_cons,List.find?_nil];by_cases e:f=labelAt ts (dl ts b)
 ·subst e
  rw[jz];have r:((a.take k).map (dl ts)).find? (fun j=>labelAt ts j==labelAt ts (dl ts b))=none:=by
   rw[Fs];intro j q p;obtain⟨b',o,rfl⟩:=kO.1 q;obtain⟨i,d⟩:=m0.1 o;rw[List.getElem?_take]at d;split at d
   ·rename_i t
    have m:((a.map (dl ts)).map (labelAt ts))[i]?=some (labelAt ts (dl ts b)):=by rw[cb,cb,d];simpa using p
    have n:((a.map (dl ts)).map (labelAt ts))[k]?=some (labelAt ts (dl ts b)):=by rw[cb,cb,h];rfl
    have:=rC s i k _ m n;omega
   ·cases d
  rw[r];simp
 ·rw[jX _ _ (by intro c;injection c with c;exact e c),l f]
  have:(labelAt ts (dl ts b)==f)=false:=by rw[cW];exact fun c=>e c.symm
  rw[this];simp
theorem xT{w:World}{B b size n q:Nat}{v:Value}{xs:List Value}(c:w.ownsRow B b size v n xs)(f:q<B):v.ownBlock=none∨v.ownBlock≠some q:=by
 rcases c.2 with⟨rfl,_⟩|⟨g,cap,d,rfl,e,_⟩
 ·exact .inl rfl
 ·refine .inr ?_
  simp only[Value.ownBlock];intro a;injection a with a
  omega
def xU(g:World)(c:Nat->Prop)(d e f a:Nat)(l:List am)(o:Option Addr)(cap:Nat)(x:am)(w:World)(h:Ending)(w':World):Prop:=
 ∃b,h=.returned (.map (some b))/\nX w' b (l.map am.t) x.t/\eq g c w' d e f a o cap l/\w.grownBy w' (some a)
theorem LO(l:List am)(o:Option Addr)(cap:Nat)(W:World)(a6:cn W o cap l)(N:ej l)(b6:bW (l.map am.t)=0)(S:Nat->Prop)(C T a4 M:Nat)(k:Nat)(x:am)(B:l[k]?=some x)(w:World)
 (b1:∀q,S q->q<w.heap.size) (e:eq W S w C T a4 M o cap l):
 Calls prog 64 #[.pointer (some ⟨C,0,none⟩),.int .i64 (k:Nat)] w (xU W S C T a4 M l o cap x w):=by
 have ci:k<l.length:=(aP.1 B).1;have eb:=N.len;have d7:(k:Int)<l.length:=ad;obtain⟨c1,f3,O,bf,aa⟩:=e.inside;have i:=e.blk;have a1:=ai 0 i;have bq:=ai 3 i;have ab:keyOf prog 3 (.int .i64 (k:Nat))=some (.int .i64 (k:Nat)):=oz cX (kt ad);have bo:(zeroValue 77).run prog w=.ok (.map none) w:=ay;have af:=O.look_ok (ge cX) underlying79 bo cD ab;have ec:= @mY prog;clear bo;unfold xU;cases I:f3 (.int .i64 (k:Nat))with
 |some v=>
  obtain⟨V,y,rfl,u,el,d1,b3⟩:=aa k v I;rw[B]at u;injection u with u
  subst u;rw[I]at af;clear aa I ab bf;go_enter func64,ntmps64
  go_wp2
  go_ret;exact⟨V,rfl,b3,e,bP (aA _ w) _⟩
 |none=>
  rw[I]at af;have bb:=ui b6;have a0:x.t∈l.map am.t:=ki (aU B);have aq:=bb.labels x.t a0;have ao:=bb.placed x.t a0;rw[tw]at aq;have Z:∀{g:Lit->Option Value},rN (l.map am.t) (symsS x.t.nodes) g->∀L:Bytes,g (.string L)=(ft (l.map am.t) x.t L).map (fun j=>Value.int .i64 (j:Nat)):=fun F L=>by unfold ft;rw[tw];exact F L
  have ag:(kidsS (l.map am.t) x.t).length=(symsS x.t.nodes).length:=by rw[tw,cd]
  have ba:=a6.below e.base;have a9:=(ba.2 x (aU B)).2;have cs:=pT x.t.nodes;have bm:∀b∈symsS x.t.nodes,b.length<=1048576:=fun b D=>by obtain⟨n,Q,rfl⟩:=vY D;exact N.sym x (aU B) n Q
  obtain⟨a5,bt,rfl,b8,c4,c5,c6,c7,c8,bz⟩:=ba.at B;have R:=fun bu (D:Below w.heap.size w bu)=>tu x.t.nodes x.no x.nc bu (a9.below D) (fun n Q=>N.sym x (aU B) n Q);unfold rh at R;obtain⟨f,bl⟩:=aj (symsS x.t.nodes);rw[<-bl]at R bm cs Z aq ag ao;clear bl a0 a9;have A:Below w.heap.size w (w.alloc (.map #[] 0)):=az;have cN:(w.alloc (.map #[] 0)).cell? ⟨C,0,none⟩=some (.slice (some ⟨a5,bt,none⟩) l.length cap):=(A.cell (p:=⟨C,0,none⟩) (aL i)).trans a1;have c9:=(A.cell (p:=⟨a5,bt+k*6+5,none⟩) b8).trans bz;go_enter func64,ntmps64
  go_wp2_with fail
  go_must (refine(R _ az).mono ?_)
  rintro d a2 ⟨⟨v,rfl,K⟩,Y⟩;have K:cA a2 (w.heap.size+1) v f:=by simpa using K
  have bc:Below w.heap.size w a2:=A.trans (Y.mono A.size);obtain⟨c3,c2,rfl⟩:=ly K;have J:bn a2 prog 9 w.heap.size 0 (fun _=>none):=(bn.made w prog 9).below Y ak;clear R af a1 bq cN c4 c5 c6 c7 c8 bz c9 A Y i
  go_wp2
  go_loopw [8,9,33] (fun i8 en v wr=>∃h:Nat,v=.int .i64 h/\h<=f.length/\(∃n g,bn wr prog 9 w.heap.size n g/\n<=h/\rN (l.map am.t) (f.take h) g)/\cA wr (w.heap.size+1) (.slice c3 f.length c2) f/\Below w.heap.size w wr) (fun _ _ v _=>f.length-(intOf v).toNat)
  case atStart=>exact⟨0,rfl,aK _,⟨0,_,J,aB _,fun L=>rfl⟩,K,bc⟩
  case round=>
   clear J K bc;obtain⟨h,rfl,d8,⟨n,g,J,Q,F⟩,av,s⟩:=hrel;have i:=(s.block C (aL e.blk)).trans e.blk;have a1:=ai 0 i;have er:=ai 1 i;have bq:=ai 3 i;by_cases cl:h<f.length
   ·have b9:decide ((h:Int)<f.length)=true:=aM
    have ea:(h:Int)<f.length:=ad;obtain⟨b,D⟩:∃b,f[h]?=some b:=⟨_,aF cl⟩;obtain⟨_,cc⟩:=mp av;obtain⟨dz,d0,rfl,d6,ez⟩:=cc.at D;have A:b∈f:=aU D;have cu:=bm b A;have ce:=mr b cu;obtain⟨a3,es,b2,eg,cp⟩:=e.places.kept (bP s none) ak;have X:=b2.at0 b;have an:=ao b A;obtain⟨c,H⟩:=aj (dl (l.map am.t) b);obtain⟨y,u⟩:∃y,l[c]?=some y:=by
     cases al:placeS (l.map am.t) b with
     |none=>rw[al]at an;cases an
     |some bA=>
      have:c=bA:=by rw[H];unfold dl;rw[al];rfl
      subst this;have:=tF al;rw[cd]at this;exact⟨_,aF this⟩
    have ae:labelAt (l.map am.t) c=y.t.label:=by unfold labelAt;rw[cb,u];rfl
    have bg:=F.put aq D;rw[<-H,ae]at bg;have d5:c<l.length:=(aP.1 u).1;have d4:(c:Int)<l.length:=ad;obtain⟨du,ex,m,d3,eB,eD,eE,eN,eZ,e0⟩:=(a6.below (e.base.trans (s.mono e.base.size))).at u;injection m with m
    injection m with m r bE
    subst m r;clear bE;have cx:=N.label y (aU u);have ch:=mr y.t.label cx;change a3.atKey (.string b) _=.lit (.int .i64 ((dl (l.map am.t) b:Nat):Int))at X;rw[<-H]at X;obtain⟨dr,ds⟩:=aE H ae;clear H ae an ao;go_wp2_with(first
     |(at_lookup;go_must (refine wpList_lookup_own_int _ rfl _ _ 77 rfl 9 3 .i64 (kN fZ) iZ cX (oH _) T _ a3 rfl cp _ _ rfl ce ?_);intro bB E em;obtain rfl:bB=((c:Nat):Int):=by{rw[X]at E;injection E with E;injection E with _ E;exact E.symm})
     |(at_mapUpdate;go_must (refine nW J rfl _ _ _ 77 rfl 3 (kN fZ) iZ rfl bN _ _ _ rfl rfl cD ch ?_);intro bw P t)
     |go_in)
    go_roundw
    case rel=>exact⟨h+1,aG,ad,⟨n+1,_,P,ad,bg⟩,df av t (xT av (Nat.lt_succ_self _)),s.grown t s.size (fun q d=>by cases d;exact aB _)⟩
    case measure=>exact aH
   ·have b9:decide ((h:Int)<f.length)=false:=aJ
    rw[bx ad]at F;have b5:=O.below s O.lt;have ed:=xS (fun a=>(f3 (.int .i64 (a:Nat))).isSome) l.length;go_wp2_with(first
     |(at_mapUpdate;go_must (refine nW b5 rfl _ _ _ 79 rfl 77 (ge cX) underlying79 rfl bN _ _ _ rfl rfl cD ab ?_);intro bw co t)
     |go_in)
    go_ret;have bi:=e.kept (bP s none) (fun q d=>by cases d);have be:w.grownBy bw (some M):=(bP s _).trans t;have d2:M<w.heap.size:=O.lt;have P:=J.kept t (by intro d;injection d with d;omega);have bd:=xR (fun a=>(f3 (.int .i64 (a:Nat))).isSome) (fun a=>(eO f3 (.int .i64 (k:Nat)) (.map (some w.heap.size)) (.int .i64 (a:Nat))).isSome) k (by simp only[I];rfl) (fun a=>by
     by_cases d:a=k
     ·subst d;simp[jz]
     ·have m:(Lit.int .i64 (a:Nat))≠ .int .i64 (k:Nat):=fun r=>by injection r with _ r;omega
      simp[jX f3 _ m,d]) l.length
    rw[au ci]at bd;refine⟨_,rfl,⟨n,g,P,by rw[ag];omega,Z F⟩,⟨e.base.grown be e.base.size (fun q d=>by cases d;exact e.fresh.2.2.2),e.fresh,(t.block C (aL i) (fun d=>by cases d;exact e.apart.2.1 rfl)).trans i,bi.places.kept t (fun d=>by cases d;exact e.apart.1 rfl),?_,⟨c1+1,_,co,aR (Nat.succ_le_succ bf) (qS bd),fun a v G=> ?_⟩,e.apart⟩,be⟩
    ·obtain⟨c0,bF,b4,cq⟩:=bi.made
     exact⟨c0,bF,b4.kept t (fun d=>by cases d;exact e.apart.2.2.1 rfl),cq⟩
    ·by_cases d:a=k
     ·subst d
      rw[jz]at G;injection G with G
      subst G;exact⟨_,x,rfl,B,ad,fun b7=>by have:=b1 _ b7;omega,n,g,P,by rw[ag];omega,Z F⟩
     ·have m:(Lit.int .i64 (a:Nat))≠ .int .i64 (k:Nat):=fun r=>by injection r with _ r;omega
      rw[jX _ _ m]at G;obtain⟨V,z,r,cG,a7,bZ,b0⟩:=aa a v G;exact⟨V,z,r,cG,a7,bZ,(b0.kept (bP s none) ak).kept t (fun d=>by cases d;exact a7 rfl)⟩
end Go.Proofs.YtbacloblanpghaaGreatDoor
