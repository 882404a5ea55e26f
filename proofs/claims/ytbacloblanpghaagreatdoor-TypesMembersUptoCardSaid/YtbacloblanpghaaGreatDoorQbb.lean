import Derived.Test.YtbacloblanpghaaGreatDoorQaz
set_option linter.unusedVariables false
set_option linter.unusedSimpArgs false
set_option maxRecDepth 100000
set_option maxHeartbeats 0
namespace Go.Proofs.YtbacloblanpghaaGreatDoor
open Go.RowKit Tryz
def xZ:Prop:=∀(nodes:List ar) (no:Option Addr) (b:Nat) (a:List Bytes) (d:Option Addr) (c:Nat) (w:World),Gl w->cw nodes=0->nodes.length<=60->a.length<=1048576->di w no b nodes->dk w d c a->
 Calls prog 66 #[.agg #[.slice no nodes.length b],.slice d a.length c] w (uG (mu nodes a) w)
theorem C4{w:World}{c:Nat}{ts:List ax}{x:ax}{a:Bytes}{b:Option Nat}(d:nX w c ts x)(e:b=ft ts x a)(f:a.length<=1048576):
 (Instr.lookup 77 (.map (some c)) (.string ⟨a.toArray⟩) true).run prog w=.ok (.tuple #[(b.map (fun j=>Value.int .i64 (j:Nat))).getD (.int .i64 0),.bool b.isSome]) w:=by
 obtain⟨n,g,h,l,i⟩:=d;have:=h.look_ok (kN fZ) iZ (oH w) cD (mr a f);rw[i a,<-e,Option.isSome_map]at this;exact this
theorem C5{c wr w':World}{M:Nat}{row:Option Nat}(a:c.grownBy wr (some M))(b:wr.grownBy w' row)(h:∀q,row=some q->q=M∨c.heap.size<=q):c.grownBy w' (some M):=
 ⟨b.os.trans a.os,b.tape.trans a.tape,b.output.trans a.output,aR a.size b.size,fun k g e=>(b.block k (by have:=a.size;omega) (fun f=>by
   rcases h k f.symm with d|d
   ·exact e (by rw[d])
   ·omega)).trans (a.block k g e)⟩
theorem uJ{w:World}{B c size n:Nat}{v:Value}{xs:List Value}(d:w.ownsRow B c size v n xs):∀q,v.ownBlock=some q->B<=q/\q<w.heap.size/\∃xs t,w.heap[q]?=some (.cells xs t):=by
 intro q a;rcases d.2 with⟨rfl,_⟩|⟨g,cap,f,rfl,e,b,_⟩
 ·cases a
 ·simp only[Value.ownBlock]at a
  injection a with a
  subst a;exact⟨e,aL b,_,_,b⟩
theorem LT{c:List (Bytes×Bytes)}{n v:Bytes}(b:dT c n=some v)(e:∀a∈c,a.1.length<=1048576/\a.2.length<=1048576):v.length<=1048576:=by
 unfold dT at b;cases d:c.find? (fun a=>a.1==n)with
 |none=>rw[d]at b;cases b
 |some a=>
  rw[d]at b;injection b with b
  rw[<-b];exact(e a (zL d)).2
def uK(g:World)(c:Nat->Prop)(d e f a:Nat)(o:Option Addr)(cap:Nat)(l:List am)(p:Prop)(w:World)(h:Ending)(w':World):Prop:=
 (∃b,h=.returned (.bool b)/\(b=true↔p))/\eq g c w' d e f a o cap l/\w.grownBy w' (some a)
theorem LU(jy:xZ)(l:List am)(o:Option Addr)(cap:Nat)(eZ:bW (l.map am.t)=0)(g5:ej l)(j2:∀x∈l,x.t.nodes.length<=60)(C:World)(g3:Gl C)(c1:cn C o cap l)(K L M h:Nat):
 ∀(n at_:Nat) (t:Tr) (r:KA) (B:Nat->Prop) (w:World),SizeOf.sizeOf t<=n->at_<l.length->dN C t r->(∀m∈nodesT t,kT m)->(∀q,B q->q<w.heap.size)->eq C B w K L M h o cap l->
 Calls prog 31 #[.pointer (some ⟨K,0,none⟩),.int .i64 at_,bJ t r] w (uK C B K L M h o cap l (fw (l.map am.t) at_ t) w):=by
 have hL:=ah g3;clear g3;intro n;induction n with
 |zero=>intro at_ t r B w d2;cases t;simp at d2
 |succ n ih=>
 intro at_ t r B w d2 iT fz e9 g1 b6;have H:=c1.below b6.base;have l2:=H.1.2.1;have i1:=H.1.2.2.1;unfold maxLen at i1;have l0:(at_:Int)<l.length:=ad;obtain⟨x,D⟩:∃n,l[at_]?=some n:=⟨_,aF iT⟩;have W:=aU D;have hx:(l.map am.t)[at_]?=some x.t:=by rw[cb,D];rfl
 have eB:=tN hx t;have c2:=(H.2 x W).1;have eD:=(H.2 x W).2;have hl:=j2 x W;have eE:=fun p (a2:Below C.heap.size C p)=>((c1.below a2).2 x W).2;have he:=fun p A' (h9:∀q,A' q->q<p.heap.size) (ia:eq C A' p K L M h o cap l)=>LO l o cap C c1 g5 eZ A' K L M h at_ x D p h9 ia;have g2:=uE eZ;have g4:=g2.nodes x.t (ki W);have hh:∀hA j,ft (l.map am.t) x.t hA=some j->∃y,l[j]?=some y/\j<l.length:=fun hA j a9=>by obtain⟨y,fN,_,b5⟩:=xN eZ (ki W) a9;rw[cd]at b5;exact⟨l[j],aF b5,b5⟩
 obtain⟨b,cq,rfl,lg,hC,hD,hE,hG,hH,hI⟩:=H.at D;have ht:=fz.below b6.base;have c3:jm w r.ao r.ac t.attrs:=ht.attr;obtain⟨rs,fv,ch,fx⟩:=fz.kids;have hf:=(e9 t (xO t)).kids;have fy:=fun k (ba:k∈t.kids)=>uF ba;have fb:=fun k (ba:k∈t.kids) m (jp:m∈nodesT k)=>e9 m (xP ba jp);have ez:=b6.blk;have k0:=aL ez;have hy:=ai 0 ez;obtain⟨f,X,av,ks⟩:=t;obtain⟨a1,ac,cp,co⟩:=r;unfold bJ;simp only[Tr.label,Tr.text,Tr.attrs,Tr.kids]at eB c3 fv ch fx hf fy fb⊢;obtain⟨ae,hQ,f5,hR,hP,hZ,gl,hV,hY,Z⟩:=kB eB he g4 hh ih fy fb fx d2 b6;have hK:=ah g1;obtain⟨⟨name,label,attrs,key,text,nodes⟩,bm,bl,no,bg⟩:=x;simp only at hC hD hE hG hH hI c2 eD hl eE ae f5;have hN:=ah eE;clear eE;have mz:=c2.2.1;have j5:=c2.2.2.1;have lb:=c3.2.1;have iv:=c3.2.2.1;have l1:=ch.2.1;have du:=ch.2.2.1;have l5:=eD.2.1;have d0:=eD.2.2.1;unfold maxLen at j5 iv du d0;have i9:=g5.key _ W;simp only at i9;clear eB D W hx he g2 g4 hh ih fy fb e9 fx d2 fz b6 g1 ez ht;have T:Below w.heap.size w ((w.alloc (.cells #[.string ⟨f.toArray⟩,.string ⟨X.toArray⟩,.slice a1 av.length ac,.slice cp ks.length co] 29)).alloc (.cells #[.string ⟨name.toArray⟩,.string ⟨label.toArray⟩,.slice bm attrs.length bl,.string ⟨key.toArray⟩,.bool text,.slice no nodes.length bg] 68)):=az.alloc ak _;obtain⟨F,an⟩:=aj ((w.alloc (.cells #[.string ⟨f.toArray⟩,.string ⟨X.toArray⟩,.slice a1 av.length ac,.slice cp ks.length co] 29)).alloc (.cells #[.string ⟨name.toArray⟩,.string ⟨label.toArray⟩,.slice bm attrs.length bl,.string ⟨key.toArray⟩,.bool text,.slice no nodes.length bg] 68));have er:F.heap[w.heap.size]?=some (.cells #[.string ⟨f.toArray⟩,.string ⟨X.toArray⟩,.slice a1 av.length ac,.slice cp ks.length co] 29):=by rw[an];exact(bH _ _ _ ak).trans (aC w _)
 have es:F.heap[w.heap.size+1]?=some (.cells #[.string ⟨name.toArray⟩,.string ⟨label.toArray⟩,.slice bm attrs.length bl,.string ⟨key.toArray⟩,.bool text,.slice no nodes.length bg] 68):=by rw[an];have:=aC (w.alloc (.cells #[.string ⟨f.toArray⟩,.string ⟨X.toArray⟩,.slice a1 av.length ac,.slice cp ks.length co] 29)) (.cells #[.string ⟨name.toArray⟩,.string ⟨label.toArray⟩,.slice bm attrs.length bl,.string ⟨key.toArray⟩,.bool text,.slice no nodes.length bg] 68);rwa[bI]at this
 rw[<-an]at T;have je:=aN er;have ji:=aN es;have k5:h<w.heap.size:=by obtain⟨mG,f3,ii,_⟩:=Z.o.inside;exact ii.lt
 have k3:w.heap.size≠h:=ad;have k4:w.heap.size+1≠h:=ad;have ex:∀p,F.grownBy p (some h)->p.cell? ⟨w.heap.size,0,none⟩=some (.string ⟨f.toArray⟩)/\p.cell? ⟨w.heap.size,2,none⟩=some (.slice a1 av.length ac)/\p.cell? ⟨w.heap.size,3,none⟩=some (.slice cp ks.length co)/\
  p.cell? ⟨w.heap.size+1,1,none⟩=some (.string ⟨label.toArray⟩)/\p.cell? ⟨w.heap.size+1,2,none⟩=some (.slice bm attrs.length bl)/\p.cell? ⟨w.heap.size+1,3,none⟩=some (.string ⟨key.toArray⟩)/\p.cell? ⟨w.heap.size+1,4,none⟩=some (.bool text)/\p.cell? ⟨w.heap.size+1,5,none⟩=some (.slice no nodes.length bg):=fun p c6=>by
  have en:=(c6.block _ je aO).trans er;have b3:=(c6.block _ ji aO).trans es;exact⟨ai 0 en,ai 2 en,ai 3 en,ai 1 b3,ai 2 b3,ai 3 b3,ai 4 b3,ai 5 b3⟩
 have bo:=ah ex;have e2:F.grownBy F (some h):=bP (aA _ F) _;obtain⟨bA,bB,bE,bF,bZ,ag,b0,b1⟩:=ex F e2;have gf:∀(q:Bool) (p:World),F.grownBy p (some h)->eq C B p K L M h (some ⟨b,cq,none⟩) cap l->(q=true↔fw (l.map am.t) at_ (.mk f X av ks))->uK C B K L M h (some ⟨b,cq,none⟩) cap l (fw (l.map am.t) at_ (.mk f X av ks)) w (.returned (.bool q)) p:=fun q p c6 ba d=>⟨⟨q,rfl,d⟩,ba,(bP T _).trans c6⟩;obtain⟨I,ea⟩:=aE gf (Z.o.kept (bP T none) (fun q a=>by cases a));clear gf ex er es;have g9:=c3.below T;have g8:=c2.below T;have a3:=Ld av a1 ac attrs bm bl F g9 g8;obtain⟨h4,e0⟩:=aj (decide (av.map Prod.fst=attrs));rw[<-e0]at a3;obtain⟨gd,ec⟩:=aE a3 e0;clear e0 g9 g8 a3;go_enter func31,ntmps31
 by_cases d:f≠label
 ·have dz:(f==label)=false:=by simpa using d
  have a0:=ah (I.o false F e2 ea.o ⟨fun a=>(by cases a),fun a=>absurd (ae.o.1 a).1 d⟩);clear d;go_wp2_with fail
  rw[<-an];clear an
  go_wp2
  go_ret;exact a0.o
 have d:f=label:=zX.1 d;subst d;have dz:(f==f)=true:=ak;have a3:=gd.o;clear gd;go_wp2_with fail
 rw[<-an];clear an hC hD hE hG hH hI;go_wp2_with fail
 refine a3.mono ?_;rintro a s ⟨rfl,b8⟩;clear a3 bA bB bE bF bZ ag b0 b1 dz;have V:=bP b8 (some h);obtain⟨bA,bB,bE,bF,bZ,ag,b0,b1⟩:=bo.o s V;have aa:=ah (ea.o.kept (bP b8 none) (fun q a=>by cases a));cases h4 with
 |false=>
  have ce:=of_decide_eq_false ec.o.symm;have a0:=ah (I.o false s V aa.o ⟨fun a=>(by cases a),fun a=>absurd (ae.o.1 a).2.1 ce⟩);clear ce
  go_wp2
  go_ret;exact a0.o
 |true=>
 have gb:=ah (m7 ec.o.symm);clear ec;cases text with
 |true=>
  have J:Hid (fw (l.map am.t) at_ (.mk f X av ks)↔(ks=[]∨∃k,ks=[k]/\k.label=[])):=ah ⟨fun a=>(by have H:=(ae.o.1 a).2.2;rw[au rfl]at H;exact H),fun a=>ae.o.2 ⟨cD,gb.o,by rw[au rfl];exact a⟩⟩;have i0:=T.trans (b8.mono T.size);have j3:=(ch.below Z.o.base).below i0;rcases ks with _|⟨bf,_|⟨hz,ks⟩⟩
  ·have A:=ah (I.o true s V aa.o ⟨fun _=>J.o.2 (.inl rfl),fun _=>rfl⟩)
   go_wp2
   go_ret;exact A.o
  ·obtain⟨g,h8,q,d,rfl,i5,f4,kg,kk,kl⟩:=jl fv j3 (i:=0) (k:=bf) rfl
   rw[sK,mT]at f4;by_cases bb:bf.label=[]
   ·have A:=ah (I.o true s V aa.o ⟨fun _=>J.o.2 (.inr ⟨bf,rfl,bb⟩),fun _=>rfl⟩)
    rw[bb]at f4;clear bb d
    go_wp2
    go_ret;exact A.o
   ·have l7:(bf.label==[])=false:=by simpa using bb
    have A:=ah (I.o false s V aa.o ⟨fun a=>(by cases a),fun a=>by
     rcases J.o.1 a with E|⟨k,E,b4⟩
     ·cases E
     ·injection E with E _;subst E;exact absurd b4 bb⟩)
    clear bb d
    go_wp2
    go_ret;exact A.o
  ·have A:=ah (I.o false s V aa.o ⟨fun a=>(by cases a),fun a=>by
    rcases J.o.1 a with E|⟨k,E,b4⟩
    ·cases E
    ·injection E with _ E;cases E⟩)
   have ls:(((bf::hz::ks).length:Int)==0)=false:=by rw[cW];simp only[de];omega
   have lF:(((bf::hz::ks).length:Int)==1)=false:=by rw[cW];simp only[de];omega
   go_wp2
   go_ret;exact A.o
 |false=>
  have J:Hid (fw (l.map am.t) at_ (.mk f X av ks)↔jL (l.map am.t) ⟨name,f,attrs,key,false,nodes⟩ ks/\(dD key ks).Nodup/\mu nodes (eL (l.map am.t) ⟨name,f,attrs,key,false,nodes⟩ ks)):=ah ⟨fun a=>(by have H:=(ae.o.1 a).2.2;rw[ap aw]at H;exact H),fun a=>ae.o.2 ⟨cD,gb.o,by rw[ap aw];exact a⟩⟩;have hr:=f5.o rfl;obtain⟨kc,i7,j6,j7,kb⟩:=cL oG;have bc:= @mY prog;have hX:=ah hr;clear hr;have c7:F.grownBy (s.alloc (.map #[] 0)) (some h):=V.trans (iY s _ _);have h3:=(bo.o _ c7).2.2.1;have cx:eq C (fun q=>B q∨q=s.heap.size) (s.alloc (.map #[] 0)) K L M h (some ⟨b,cq,none⟩) cap l:=(aa.o.more (A':=fun q=>B q∨q=s.heap.size) (fun q d=>d.imp id (fun a=>ad))).kept (iY s _ none) (fun q a=>by cases a);have cc:bn (s.alloc (.map #[] 0)) prog 9 s.heap.size 0 (fun _=>none):=bn.made s prog 9;have eN:s.heap.size<(s.alloc (.map #[] 0)).heap.size:=cc.lt;have io:=b8.size;have lc:=T.size;go_wp2_with fail
  obtain⟨m3,hv⟩:=aj (s.alloc (.map #[] 0));rw[<-hv]at c7 cx cc eN⊢;clear hv h3 bA bB bE bF bZ ag b0 b1 V aa ea e2 bc hy;obtain⟨Q,g7⟩:=aj (s.heap.size);rw[<-g7]at cx cc eN io⊢;clear g7 b8;go_loopw [9,65] (fun v i wr=>∃k:Nat,i=.int .i64 k/\k<=ks.length/\F.grownBy wr (some h)/\Hid (eq C (fun q=>B q∨q=Q) wr K L M h (some ⟨b,cq,none⟩) cap l)/\cA wr (Q+1) v (eL (l.map am.t) ⟨name,f,attrs,key,false,nodes⟩ (ks.take k))/\
   (∃n g,bn wr prog 9 Q n g/\n<=k/\Hid (∀z:Bytes,(g (.string z)).isSome=true↔z∈dD key (ks.take k)))/\Hid (jL (l.map am.t) ⟨name,f,attrs,key,false,nodes⟩ (ks.take k))/\Hid ((dD key (ks.take k)).Nodup)) (fun _ i _=>ks.length-(intOf i).toNat)
  case atStart=>
   have hc:dD key (ks.take 0)=[]:=by unfold dD;split<;>rfl
   exact⟨0,rfl,aK _,c7,cx,cR _ _ _ _,⟨0,_,cc,aB _,fun z=>by rw[hc];simp⟩,trivial,by unfold Hid;rw[hc];exact vD⟩
  case round=>
  clear c7 cx cc eN;obtain⟨k,rfl,ba,a6,bw,bd,⟨d7,g,du,l3,bq⟩,eb,cG⟩:=hrel;obtain⟨bA,bB,bE,bF,bZ,ag,b0,b1⟩:=bo.o wr a6;obtain⟨cu,cs,rfl⟩:=cJ bd;have be:(eL (l.map am.t) ⟨name,f,attrs,key,false,nodes⟩ (ks.take k)).length=k:=by unfold eL;rw[cd,dx];omega
  have k7:=du.lt;by_cases jj:k<ks.length
  ·have i2:decide ((k:Int)<ks.length)=true:=aM
   have lU:(k:Int)<ks.length:=ad;obtain⟨e,D⟩:∃n,ks[k]?=some n:=⟨_,aF jj⟩;obtain⟨kv,h8,q,d,rfl,i5,f4,kg,kk,kl⟩:=jl fv (ch.below bw.o.base) D;have hi:=hV.o k e q D d;have fg:=aU D;have ce:=A3 (ts:=l.map am.t) (x:=⟨name,f,attrs,key,false,nodes⟩) D;have hs:=A5 (ts:=l.map am.t) (x:=⟨name,f,attrs,key,false,nodes⟩) D eb.o;have hq:=A6 (ts:=l.map am.t) (x:=⟨name,f,attrs,key,false,nodes⟩) D;obtain⟨a0,h0,hW,h1,gs,gr,f7⟩:=xL ce hs hq D hi fg (gl.o e fg e (xO e));have hg:=f7.o.label;clear ce hs hq D d hi fg;obtain⟨Y,d5⟩:=aj (wr.alloc (.cells #[.string ⟨e.label.toArray⟩,.string ⟨e.text.toArray⟩,.slice q.ao e.attrs.length q.ac,.slice q.ko e.kids.length q.kc] 29));have d3:Y.heap[wr.heap.size]?=some (.cells #[.string ⟨e.label.toArray⟩,.string ⟨e.text.toArray⟩,.slice q.ao e.attrs.length q.ac,.slice q.ko e.kids.length q.kc] 29 (0,0)):=by rw[d5];exact aC wr _
   have c5:Below wr.heap.size wr Y:=by rw[d5];exact az
   go_wp2_with fail
   rw[<-d5];clear d5;have hM:=bw.o.kept (bP c5 none) (fun q a=>by cases a);have hp:∀q,(B q∨q=Q)->q<Y.heap.size:=fun q d=>by
    have E:=a6.size;have b4:=c5.size;rcases d with d|rfl
    ·have:=hK.o q d;omega
    ·omega
   have fc:=fun w' (a2:Below Y.heap.size Y w')=>hQ.o w' (fun q=>B q∨q=Q) (fun q d=>by have:=hp q d;have:=a2.size;omega) (hM.kept (bP a2 none) (fun q a=>by cases a));unfold xU at fc;have cl:=ai 0 d3;have d4:=aL d3;have mw:wr.heap.size≠h:=by have:=a6.size;omega
   have e1:=(aA Y.heap.size Y).drew;obtain⟨h5,hb⟩:=aj (ft (l.map am.t) ⟨name,f,attrs,key,false,nodes⟩ e.label);obtain⟨ed,af⟩:=aE fc hb;clear hb fc;cases h5 with
   |none=>
    go_region_held3(fun w'=>w'.cell? ⟨wr.heap.size,0,none⟩=some (.string ⟨e.label.toArray⟩))
     (first
       |exact cl
       |exact(a5.cell_far ⟨wr.heap.size,0,none⟩ d4 aO).trans cl)
     (first
       |((go_at_call 64;refine kP (ed.o _ dQ) ?_;rintro a bi ⟨h2,rfl,b7,bu,a5⟩;have fo:=C4 b7 af.o hg)))
    have c9:wr.grownBy bi (some h):=((bP c5 _).trans (bP e1 _)).trans a5;have e4:=a6.trans c9;have A:=ah (I.o false bi e4 (bu.more fun q d=>.inl (.inl d)) ⟨fun a=>(by cases a),fun a=>absurd (J.o.1 a).1 (a0.o (by rintro⟨j,a9,_⟩;rw[<-af.o]at a9;cases a9))⟩);clear fo bu b7
    go_wp2
    go_ret;exact A.o
   |some j=>
    obtain⟨y,fN,a9⟩:=hR.o e.label j af.o.symm;have lP:(j:Int)<l.length:=ad;go_region_held3(fun w'=>w'.cell? ⟨wr.heap.size,0,none⟩=some (.string ⟨e.label.toArray⟩))
     (first
       |exact cl
       |exact(a5.cell_far ⟨wr.heap.size,0,none⟩ d4 aO).trans cl)
     (first
       |((go_at_call 64;refine kP (ed.o _ dQ) ?_;rintro a bi ⟨h2,rfl,b7,bu,a5⟩;have fo:=C4 b7 af.o hg)))
    have c9:wr.grownBy bi (some h):=((bP c5 _).trans (bP e1 _)).trans a5;have e4:=a6.trans c9;have e6:Y.grownBy bi (some h):=(bP e1 _).trans a5;have S:=(e6.block _ d4 aO).trans d3;have fT:=ai 0 S;have f0:=ai 1 S;have f1:=ai 2 S;have f2:=ai 3 S;have fu:=hP.o j e q (fun q=>B q∨q=Q) bi (by have:=hZ.o e gr.o;have:=hY.o;omega) a9 gs.o (gl.o e gr.o) (fun q d=>by have:=hp q d;have:=e6.size;omega) bu;unfold uK bJ at fu;have g0:=ah fN;clear fo bu b7 fN cl ed;go_wp2_with fail
    refine fu.mono ?_;rintro a O ⟨⟨el,rfl,al⟩,ab,e7⟩;clear fu fT f0 f1 f2;have i4:=e6.trans e7;have e8:=c9.trans e7;have e5:=e4.trans e7;cases el with
    |false=>
     have d0:¬fw (l.map am.t) j e:=fun a=>by cases al.2 a
     have A:=ah (I.o false O e5 (ab.more fun q d=>.inl (.inl d)) ⟨fun a=>(by cases a),fun a=>absurd (J.o.1 a).1 (a0.o (by rintro⟨mB,dr,jv⟩;rw[<-af.o]at dr;injection dr with dr;subst dr;exact d0 jv))⟩);clear al d0 ab
     go_wp2
     go_ret;exact A.o
    |true=>
     have cN:=ah (h0.o ⟨j,af.o.symm,al.1 rfl⟩);obtain⟨b',m1,em,lo,m4,_⟩:=(c1.below ab.base).at g0.o;injection em with em
     injection em with b2 h6 h7;clear h7
     subst b2;subst h6;have hk:nA (l.map am.t) j=y.t.name:=by unfold nA;rw[cb,g0.o];rfl
     have hT:=ah hk;have d1:=df bd e8 (xT bd ad);have jc:=du.kept e8 aO;have ib:=ab.blk;have hy:=ai 0 ib;have ab:=ah ab;clear al hk;rw[be]at d1;have ho:=dA d1 (.cells #[.string ⟨y.t.name.toArray⟩] 9);have mm:=e8.size;have md:=e5.size;have fr:=uJ d1;have fs:=uJ bd;rw[be]at fs;have S:=(i4.block _ d4 aO).trans d3;have c8:=iY O (.cells #[.string ⟨y.t.name.toArray⟩] 9) (Value.slice cu k cs).ownBlock;have gg:Hid (∀u,(O.alloc (.cells #[.string ⟨y.t.name.toArray⟩] 9)).grownBy u (Value.slice cu k cs).ownBlock->F.grownBy u (some h)):=fun u G=>C5 e5 (c8.trans G) (fun q a=>.inr (by have:=(fr q a).1;omega));have hJ:Hid (∀u,(O.alloc (.cells #[.string ⟨y.t.name.toArray⟩] 9)).grownBy u (Value.slice cu k cs).ownBlock->u.cell? ⟨wr.heap.size,0,none⟩=some (.string ⟨e.label.toArray⟩)/\u.cell? ⟨wr.heap.size,1,none⟩=some (.string ⟨e.text.toArray⟩)/\u.cell? ⟨wr.heap.size,2,none⟩=some (.slice q.ao e.attrs.length q.ac)/\u.cell? ⟨wr.heap.size,3,none⟩=some (.slice q.ko e.kids.length q.kc)/\u.cell? ⟨w.heap.size+1,3,none⟩=some (.string ⟨key.toArray⟩)):=fun u G=>by have c0:=((c8.trans G).block _ (aL S) (fun a=>by have:=(fs _ a.symm).2.1;omega)).trans S;exact⟨ai 0 c0,ai 1 c0,ai 2 c0,ai 3 c0,(bo.o u (gg.o u G)).2.2.2.2.2.1⟩
     obtain⟨gv,km⟩:=aE fr c8;clear fr fs S c8;go_wp2_with(first
      |(at_builtin;go_must (refine gY _ rfl _ _ 66 rfl (Q+1) 9 kc (.string ⟨#[]⟩) 1 16 jE i7 j6 j7 kb rfl aw _ _ _ rfl ho ⟨O.heap.size,0,none⟩ 1 1 [.string ⟨y.t.name.toArray⟩] rfl rfl (dt _ [.string ⟨y.t.name.toArray⟩] _ _ (by first|rfl|simp)) (fun z d6=>by simp at d6;subst d6;rfl) bN ad aO ?_);intro kd u hn G j1;obtain⟨fT,f0,f1,f2,ag⟩:=hJ.o u G))
     have G:(O.alloc (.cells #[.string ⟨y.t.name.toArray⟩] 9)).grownBy u (Value.slice cu k cs).ownBlock:=G;have i3:=gg.o u G;have f6:eq C (fun q=>B q∨q=Q) u K L M h (some ⟨b,cq,none⟩) cap l:=(ab.o.kept (row:=none) (iY O _ none) (fun q a=>by cases a)).kept G (fun q a=>by obtain⟨E,b4,xs,t,b5⟩:=gv.o q a;have:=Z.o.base.size;exact⟨ad,ad,.inl ⟨xs,t,(bH _ _ _ b4).trans b5⟩⟩)
     have fl:=(jc.kept (iY O (.cells #[.string ⟨y.t.name.toArray⟩] 9) none) ak).kept G (fun a=>by have:=(gv.o _ a.symm).1;omega);have fG:=La e q key u (gs.o.below f6.base);unfold bJ at fG;refine fG.mono ?_;rintro a d8 ⟨rfl,c4⟩;have a4:=i3.trans (bP c4 (some h));have bt:=ah (f6.kept (bP c4 none) (fun q a=>by cases a));have b9:=fl.below c4 fl.lt;have hm:=rF hn c4;have bz:cA d8 (Q+1) kd (eL (l.map am.t) ⟨name,f,attrs,key,false,nodes⟩ (ks.take (k+1))):=by
      rw[hW.o];unfold cA;rw[cm,be,fd,<-af.o];show World.ownsRow _ _ _ _ _ _ ((eL (l.map am.t) ⟨name,f,attrs,key,false,nodes⟩ (ks.take k)).map encStr++[encStr (nA (l.map am.t) j)])
      rw[hT.o];exact hm
     have gG:Hid (∀z,dT e.attrs key=some z->z.length<=1048576):=fun z d6=>LT d6 f7.o.attr;have eg:Hid (key≠[]->dD key (ks.take (k+1))=dD key (ks.take k)++(dT e.attrs key).toList):=fun dz=>Ij h1.o dz;have hU:Hid (dD key (ks.take (k+1))<+:dD key ks):=Ik;clear ag fT f0 f1 f2 fG hn G j1 fl hm d1 ho;obtain⟨bA,bB,bE,bF,bZ,ag,b0,b1⟩:=bo.o d8 a4;obtain⟨hB,hu⟩:=aj (dT e.attrs key);rw[<-hu]at gG eg⊢;clear hu;unfold ut;by_cases R:key=[]
     ·have ds:∀m,dD key (ks.take m)=[]:=fun m=>by unfold dD;rw[au R]
      have ao:Hid (∀z:Bytes,(g (.string z)).isSome=true↔z∈dD key (ks.take (k+1))):=fun z=>by rw[ds,bq.o z,ds]
      have aq:Hid (dD key (ks.take (k+1))).Nodup:=by unfold Hid;rw[ds];exact vD
      have jd:(key==[])=true:=by rw[R];rfl
      clear ds R;cases hB with
      |none=>
       go_wp2
       go_roundw
       case rel=>exact⟨k+1,aG,ad,a4,bt,bz,⟨d7,g,b9,ad,ao⟩,cN.o,aq⟩
       case measure=>exact aH
      |some N=>
       go_wp2
       go_roundw
       case rel=>exact⟨k+1,aG,ad,a4,bt,bz,⟨d7,g,b9,ad,ao⟩,cN.o,aq⟩
       case measure=>exact aH
     have jd:(key==[])=false:=by simpa using R
     cases hB with
     |none=>
      have P:dD key (ks.take (k+1))=dD key (ks.take k):=by rw[eg.o R];simp
      have ao:Hid (∀z:Bytes,(g (.string z)).isSome=true↔z∈dD key (ks.take (k+1))):=fun z=>by rw[P];exact bq.o z
      have aq:Hid (dD key (ks.take (k+1))).Nodup:=by unfold Hid;rw[P];exact cG.o
      clear P R
      go_wp2
      go_roundw
      case rel=>exact⟨k+1,aG,ad,a4,bt,bz,⟨d7,g,b9,ad,ao⟩,cN.o,aq⟩
      case measure=>exact aH
     |some N=>
      have P:dD key (ks.take (k+1))=dD key (ks.take k)++[N]:=by rw[eg.o R];rfl
      have j4:=gG.o N rfl;have hd:=mr N j4;have hj:=b9.look_ok (kN fZ) iZ (oH d8) cD hd;by_cases a7:N∈dD key (ks.take k)
      ·have ci:=(bq.o N).2 a7
       rw[ci]at hj;have A:=ah (I.o false d8 a4 (bt.o.more fun q d=>.inl (.inl d)) ⟨fun a=>(by cases a),fun a=>absurd ((J.o.1 a).2.1.sublist hU.o.sublist) (by rw[P,A7];exact fun a=>a.2 a7)⟩);clear P R ci a7
       go_wp2
       go_ret;exact A.o
      ·have ci:(g (.string N)).isSome=false:=by
        rw[<-fR];exact fun a=>a7 ((bq.o N).1 a)
       rw[ci]at hj;have aq:Hid (dD key (ks.take (k+1))).Nodup:=by unfold Hid;rw[P,A7];exact⟨cG.o,a7⟩
       have ao:Hid (∀z:Bytes,((eO g (.string N) (.int .i64 (k:Nat))) (.string z)).isSome=true↔z∈dD key (ks.take (k+1))):=fun z=>by
        rw[P,fe];by_cases a:z=N
        ·subst a;rw[jz];simp
        ·rw[jX _ _ (by intro b2;injection b2 with b2;exact a b2),bq.o z];simp[a]
       clear P R ci a7;go_wp2_with(first
        |(at_mapUpdate;go_must (refine nW b9 rfl _ _ _ 77 rfl 3 (kN fZ) iZ rfl bN _ _ _ rfl rfl cD hd ?_);intro m2 jb e3)
        |go_in)
       go_roundw
       case rel=>
        have k1:L<w.heap.size:=by obtain⟨ko,c,a2⟩:=Z.o.places.block;exact aL a2
        have k2:M<w.heap.size:=by obtain⟨mE,kp,ic,_⟩:=Z.o.made;exact ic.lt
        have la:=Z.o.base.size;refine⟨k+1,aG,ad,C5 a4 e3 (fun q a=>.inr (by cases a;omega)),bt.o.kept e3 (fun q a=>by cases a;exact⟨ad,ad,.inr ⟨ad,ad,ad,.inr rfl⟩⟩),df bz e3 (xT bz (Nat.lt_succ_self Q)),⟨d7+1,_,jb,ad,ao⟩,cN.o,aq⟩
       case measure=>exact aH
  ·have i2:decide ((k:Int)<ks.length)=false:=aJ
   obtain rfl:k=ks.length:=ad;rw[bx (aB _)]at bd be eb cG;obtain⟨j0,hw⟩:=mp bd;have bc:=jy nodes no bg (eL (l.map am.t) ⟨name,f,attrs,key,false,nodes⟩ ks) cu cs wr (hL.o.below bw.o.base) hX.o hl (by rw[be];exact hf) (hN.o wr bw.o.base) hw;unfold uG at bc;rw[be]at bc;have hS:=ah bc;clear j0 hw bc;go_wp2_with fail
   refine hS.o.mono ?_;rintro a O ⟨⟨el,rfl,al⟩,ha⟩;have A:=ah (I.o el O (a6.trans (bP ha _)) ((bw.o.more fun q d=>.inl (.inl d)).kept (bP ha none) (fun q a=>by cases a)) (al.trans ⟨fun a=>J.o.2 ⟨eb.o,cG.o,a⟩,fun a=>(J.o.1 a).2.2⟩));clear al
   go_wp2
   go_ret;exact A.o
end Go.Proofs.YtbacloblanpghaaGreatDoor
