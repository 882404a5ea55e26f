import Derived.Test.YtnadadbndcdolaaGreatDoorQav
set_option linter.unusedVariables false
set_option linter.unusedSimpArgs false
set_option maxRecDepth 100000
set_option maxHeartbeats 0
namespace Go.Proofs.YtnadadbndcdolaaGreatDoor
open Go.RowKit Tryz
def zx:Prop:=∀(nodes:List aj) (no:Option Addr) (b:Nat) (a:List Bytes) (d:Option Addr) (c:Nat) (w:World),Gl w->bG nodes=0->nodes.length<=60->a.length<=1048576->cO w no b nodes->dZ w d c a->
 Calls prog 65 #[.agg #[.slice no nodes.length b],.slice d a.length c] w (Ei (gW nodes a) w)
theorem zy{w:World}{c:Nat}{ts:List aw}{x:aw}{a:Bytes}{b:Option Nat}(d:oz w c ts x)(e:b=ix ts x a)(f:a.length<=1048576):
 (Instr.lookup 74 (.map (some c)) (.string ⟨a.toArray⟩) true).run prog w=.ok (.tuple #[(b.map (fun j=>Value.int .i64 (j:Nat))).getD (.int .i64 0),.bool b.isSome]) w:=by
 obtain⟨n,g,h,l,i⟩:=d;have:=h.look_ok (ll gq) jE (px w) dH (ni a f);rw[i a,<-e,Option.isSome_map]at this;exact this
theorem Ev{c wr w':World}{M:Nat}{row:Option Nat}(a:c.grownBy wr (some M))(b:wr.grownBy w' row)(h:∀q,row=some q->q=M∨c.heap.size<=q):c.grownBy w' (some M):=
 ⟨b.os.trans a.os,b.tape.trans a.tape,b.output.trans a.output,aJ a.size b.size,fun k g e=>(b.block k (by have:=a.size;omega) (fun f=>by
   rcases h k f.symm with d|d
   ·exact e (by rw[d])
   ·omega)).trans (a.block k g e)⟩
theorem wn{w:World}{B c size n:Nat}{v:Value}{xs:List Value}(d:w.ownsRow B c size v n xs):∀q,v.ownBlock=some q->B<=q/\q<w.heap.size/\∃xs t,w.heap[q]?=some (.cells xs t):=by
 intro q a;rcases d.2 with⟨rfl,_⟩|⟨g,cap,f,rfl,e,b,_⟩
 ·cases a
 ·simp only[Value.ownBlock]at a
  injection a with a
  subst a;exact⟨e,ax b,_,_,b⟩
theorem Nb{c:List (Bytes×Bytes)}{n v:Bytes}(b:kP c n=some v)(e:∀a∈c,a.1.length<=1048576/\a.2.length<=1048576):v.length<=1048576:=by
 unfold kP at b;cases d:c.find? (fun a=>a.1==n)with
 |none=>rw[d]at b;cases b
 |some a=>
  rw[d]at b;injection b with b
  rw[<-b];exact(e a (IG d)).2
def wu(g:World)(c:Nat->Prop)(d e f a:Nat)(o:Option Addr)(cap:Nat)(l:List am)(p:Prop)(w:World)(h:Ending)(w':World):Prop:=
 (∃b,h=.returned (.bool b)/\(b=true↔p))/\cT g c w' d e f a o cap l/\w.grownBy w' (some a)
theorem Nc(i2:zx)(l:List am)(o:Option Addr)(cap:Nat)(ew:bT (l.map am.t)=0)(gg:dI l)(i5:∀x∈l,x.t.nodes.length<=60)(B:World)(gb:Gl B)(ch:bR B o cap l)(J K L h:Nat):
 ∀(n at_:Nat) (t:Tr) (ag:KA) (A:Nat->Prop) (w:World),SizeOf.sizeOf t<=n->at_<l.length->eR B t ag->(∀m∈nodesT t,nj m)->(∀q,A q->q<w.heap.size)->cT B A w J K L h o cap l->
 Calls prog 29 #[.pointer (some ⟨J,0,none⟩),.int .i64 at_,cP t ag] w (wu B A J K L h o cap l (jo (l.map am.t) at_ t) w):=by
 have hy:=ah gb;clear gb;intro n;induction n with
 |zero=>intro at_ t ag A w c2;cases t;simp at c2
 |succ n ih=>
 intro at_ t ag A w c2 h4 fb eV fT bF;have G:=ch.below bF.base;have k3:=G.1.2.1;have h6:=G.1.2.2.1;unfold maxLen at h6;have k1:(at_:Int)<l.length:=ad;obtain⟨x,C⟩:∃n,l[at_]?=some n:=⟨_,aH h4⟩;have T:=aX C;have hl:(l.map am.t)[at_]?=some x.t:=by rw[bW,C];rfl
 have eo:=yu hl t;have ci:=(G.2 x T).1;have er:=(G.2 x T).2;have g9:=i5 x T;have es:=fun p (a0:Below B.heap.size B p)=>((ch.below a0).2 x T).2;have g1:=fun p A' (hX:∀q,A' q->q<p.heap.size) (hY:cT B A' p J K L h o cap l)=>Ej l o cap B ch gg ew A' J K L h at_ x C p hX hY;have ga:=Ee ew;have gf:=ga.nodes x.t (l9 T);have g4:∀ho j,ix (l.map am.t) x.t ho=some j->∃y,l[j]?=some y/\j<l.length:=fun ho j a6=>by obtain⟨y,fd,_,bE⟩:=M5 ew (l9 T) a6;rw[cf]at bE;exact⟨l[j],aH bE,bE⟩
 obtain⟨b,b8,rfl,kl,hq,hr,hs,ht,hu,hv⟩:=G.at C;have hh:=fb.below bF.base;have cl:ki w ag.ao ag.ac t.attrs:=hh.attr;obtain⟨rs,e7,b3,e8⟩:=fb.kids;have g2:=(eV t (Eg t)).kids;have e9:=fun k (a7:k∈t.kids)=>zn a7;have eZ:=fun k (a7:k∈t.kids) m (i0:m∈nodesT k)=>eV m (Eh a7 i0);have en:=bF.blk;have j2:=ax en;have hm:=ai 0 en;obtain⟨f,V,av,ks⟩:=t;obtain⟨aq,ac,b7,b6⟩:=ag;unfold cP;simp only[Tr.label,Tr.text,Tr.attrs,Tr.kids]at eo cl e7 b3 e8 g2 e9 eZ⊢;obtain⟨aa,hC,fl,hD,hB,hM,fw,hI,hL,X⟩:=ju eo g1 gf g4 ih e9 eZ e8 c2 bF;have hx:=ah fT;obtain⟨⟨name,label,attrs,key,text,nodes⟩,bg,bf,no,bd⟩:=x;simp only at hq hr hs ht hu hv ci er g9 es aa fl;have hA:=ah es;clear es;have lg:=ci.2.1;have jb:=ci.2.2.1;have kg:=cl.2.1;have h3:=cl.2.2.1;have k2:=b3.2.1;have cG:=b3.2.2.1;have k5:=er.2.1;have c0:=er.2.2.1;unfold maxLen at jb h3 cG c0;have ic:=gg.key _ T;simp only at ic;clear eo C T hl g1 ga gf g4 ih e9 eZ eV e8 c2 fb bF fT en hh;have R:Below w.heap.size w ((w.alloc (.cells #[.string ⟨f.toArray⟩,.string ⟨V.toArray⟩,.slice aq av.length ac,.slice b7 ks.length b6] 29)).alloc (.cells #[.string ⟨name.toArray⟩,.string ⟨label.toArray⟩,.slice bg attrs.length bf,.string ⟨key.toArray⟩,.bool text,.slice no nodes.length bd] 53)):=aG.alloc ak _;obtain⟨E,af⟩:=ar ((w.alloc (.cells #[.string ⟨f.toArray⟩,.string ⟨V.toArray⟩,.slice aq av.length ac,.slice b7 ks.length b6] 29)).alloc (.cells #[.string ⟨name.toArray⟩,.string ⟨label.toArray⟩,.slice bg attrs.length bf,.string ⟨key.toArray⟩,.bool text,.slice no nodes.length bd] 53));have ek:E.heap[w.heap.size]?=some (.cells #[.string ⟨f.toArray⟩,.string ⟨V.toArray⟩,.slice aq av.length ac,.slice b7 ks.length b6] 29):=by rw[af];exact(bk _ _ _ ak).trans (aB w _)
 have el:E.heap[w.heap.size+1]?=some (.cells #[.string ⟨name.toArray⟩,.string ⟨label.toArray⟩,.slice bg attrs.length bf,.string ⟨key.toArray⟩,.bool text,.slice no nodes.length bd] 53):=by rw[af];have:=aB (w.alloc (.cells #[.string ⟨f.toArray⟩,.string ⟨V.toArray⟩,.slice aq av.length ac,.slice b7 ks.length b6] 29)) (.cells #[.string ⟨name.toArray⟩,.string ⟨label.toArray⟩,.slice bg attrs.length bf,.string ⟨key.toArray⟩,.bool text,.slice no nodes.length bd] 53);rwa[bj]at this
 rw[<-af]at R;have iv:=aU ek;have iw:=aU el;have j7:h<w.heap.size:=by obtain⟨lv,f3,h1,_⟩:=X.o.inside;exact h1.lt
 have j5:w.heap.size≠h:=ad;have j6:w.heap.size+1≠h:=ad;have em:∀p,E.grownBy p (some h)->p.cell? ⟨w.heap.size,0,none⟩=some (.string ⟨f.toArray⟩)/\p.cell? ⟨w.heap.size,2,none⟩=some (.slice aq av.length ac)/\p.cell? ⟨w.heap.size,3,none⟩=some (.slice b7 ks.length b6)/\
  p.cell? ⟨w.heap.size+1,1,none⟩=some (.string ⟨label.toArray⟩)/\p.cell? ⟨w.heap.size+1,2,none⟩=some (.slice bg attrs.length bf)/\p.cell? ⟨w.heap.size+1,3,none⟩=some (.string ⟨key.toArray⟩)/\p.cell? ⟨w.heap.size+1,4,none⟩=some (.bool text)/\p.cell? ⟨w.heap.size+1,5,none⟩=some (.slice no nodes.length bd):=fun p cq=>by
  have eg:=(cq.block _ iv aR).trans ek;have bC:=(cq.block _ iw aR).trans el;exact⟨ai 0 eg,ai 2 eg,ai 3 eg,ai 1 bC,ai 2 bC,ai 3 bC,ai 4 bC,ai 5 bC⟩
 have bi:=ah em;have eA:E.grownBy E (some h):=bJ (aE _ E) _;obtain⟨bw,bz,bA,d1,d2,d3,d4,d5⟩:=em E eA;have fu:∀(q:Bool) (p:World),E.grownBy p (some h)->cT B A p J K L h (some ⟨b,b8,none⟩) cap l->(q=true↔jo (l.map am.t) at_ (.mk f V av ks))->wu B A J K L h (some ⟨b,b8,none⟩) cap l (jo (l.map am.t) at_ (.mk f V av ks)) w (.returned (.bool q)) p:=fun q p cq a7 d=>⟨⟨q,rfl,d⟩,a7,(bJ R _).trans cq⟩;obtain⟨H,c9⟩:=aD fu (X.o.kept (bJ R none) (fun q a=>by cases a));clear fu em ek el;have gs:=cl.below R;have gr:=ci.below R;have a1:=MG av aq ac attrs bg bf E gs gr;obtain⟨hS,ex⟩:=ar (decide (av.map Prod.fst=attrs));rw[<-ex]at a1;obtain⟨fs,ds⟩:=aD a1 ex;clear ex gs gr a1;go_enter func29,ntmps29
 by_cases d:f≠label
 ·have cN:(f==label)=false:=by simpa using d
  have ao:=ah (H.o false E eA c9.o ⟨fun a=>(by cases a),fun a=>absurd (aa.o.1 a).1 d⟩);clear d;go_wp2_with fail
  rw[<-af];clear af
  go_wp2
  go_ret;exact ao.o
 have d:f=label:=IQ.1 d;subst d;have cN:(f==f)=true:=ak;have a1:=fs.o;clear fs;go_wp2_with fail
 rw[<-af];clear af hq hr hs ht hu hv;go_wp2_with fail
 refine a1.mono ?_;rintro a r ⟨rfl,bZ⟩;clear a1 bw bz bA d1 d2 d3 d4 d5 cN;have S:=bJ bZ (some h);obtain⟨bw,bz,bA,d1,d2,d3,d4,d5⟩:=bi.o r S;have Y:=ah (c9.o.kept (bJ bZ none) (fun q a=>by cases a));cases hS with
 |false=>
  have b2:=of_decide_eq_false ds.o.symm;have ao:=ah (H.o false r S Y.o ⟨fun a=>(by cases a),fun a=>absurd (aa.o.1 a).2.1 b2⟩);clear b2
  go_wp2
  go_ret;exact ao.o
 |true=>
 have fr:=ah (xS ds.o.symm);clear ds;cases text with
 |true=>
  have I:Hid (jo (l.map am.t) at_ (.mk f V av ks)↔(ks=[]∨∃k,ks=[k]/\k.label=[])):=ah ⟨fun a=>(by have G:=(aa.o.1 a).2.2;rw[ay rfl]at G;exact G),fun a=>aa.o.2 ⟨dH,fr.o,by rw[ay rfl];exact a⟩⟩;have h5:=R.trans (bZ.mono R.size);have i7:=(b3.below X.o.base).below h5;rcases ks with _|⟨bc,_|⟨hn,ks⟩⟩
  ·have u:=ah (H.o true r S Y.o ⟨fun _=>I.o.2 (.inl rfl),fun _=>rfl⟩)
   go_wp2
   go_ret;exact u.o
  ·obtain⟨g,hW,q,d,rfl,ia,fg,jp,js,jv⟩:=nh e7 i7 (i:=0) (k:=bc) rfl
   rw[ui,jX]at fg;by_cases a8:bc.label=[]
   ·have u:=ah (H.o true r S Y.o ⟨fun _=>I.o.2 (.inr ⟨bc,rfl,a8⟩),fun _=>rfl⟩)
    rw[a8]at fg;clear a8 d
    go_wp2
    go_ret;exact u.o
   ·have k7:(bc.label==[])=false:=by simpa using a8
    have u:=ah (H.o false r S Y.o ⟨fun a=>(by cases a),fun a=>by
     rcases I.o.1 a with D|⟨k,D,bD⟩
     ·cases D
     ·injection D with D _;subst D;exact absurd bD a8⟩)
    clear a8 d
    go_wp2
    go_ret;exact u.o
  ·have u:=ah (H.o false r S Y.o ⟨fun a=>(by cases a),fun a=>by
    rcases I.o.1 a with D|⟨k,D,bD⟩
    ·cases D
    ·injection D with _ D;cases D⟩)
   have ko:(((bc::hn::ks).length:Int)==0)=false:=by rw[eu];simp only[db];omega
   have kp:(((bc::hn::ks).length:Int)==1)=false:=by rw[eu];simp only[db];omega
   go_wp2
   go_ret;exact u.o
 |false=>
  have I:Hid (jo (l.map am.t) at_ (.mk f V av ks)↔lB (l.map am.t) ⟨name,f,attrs,key,false,nodes⟩ ks/\(dW key ks).Nodup/\gW nodes (jL (l.map am.t) ⟨name,f,attrs,key,false,nodes⟩ ks)):=ah ⟨fun a=>(by have G:=(aa.o.1 a).2.2;rw[au ap]at G;exact G),fun a=>aa.o.2 ⟨dH,fr.o,by rw[au ap];exact a⟩⟩;have hf:=fl.o rfl;obtain⟨ji,ib,jc,jd,je⟩:=cY qy;have a9:= @l8 prog;have hK:=ah hf;clear hf;have cs:E.grownBy (r.alloc (.map #[] 0)) (some h):=S.trans (jD r _ _);have hR:=(bi.o _ cs).2.2.1;have cb:cT B (fun q=>A q∨q=r.heap.size) (r.alloc (.map #[] 0)) J K L h (some ⟨b,b8,none⟩) cap l:=(Y.o.more (A':=fun q=>A q∨q=r.heap.size) (fun q d=>d.imp id (fun a=>ad))).kept (jD r _ none) (fun q a=>by cases a);have b1:bp (r.alloc (.map #[] 0)) prog 9 r.heap.size 0 (fun _=>none):=bp.made r prog 9;have ev:r.heap.size<(r.alloc (.map #[] 0)).heap.size:=b1.lt;have h2:=bZ.size;have kk:=R.size;go_wp2_with fail
  obtain⟨lF,hj⟩:=ar (r.alloc (.map #[] 0));rw[<-hj]at cs cb b1 ev⊢;clear hj hR bw bz bA d1 d2 d3 d4 d5 S Y c9 eA a9 hm;obtain⟨Q,gl⟩:=ar (r.heap.size);rw[<-gl]at cb b1 ev h2⊢;clear gl bZ;go_loopw [9,65] (fun v i wr=>∃k:Nat,i=.int .i64 k/\k<=ks.length/\E.grownBy wr (some h)/\Hid (cT B (fun q=>A q∨q=Q) wr J K L h (some ⟨b,b8,none⟩) cap l)/\cn wr (Q+1) v (jL (l.map am.t) ⟨name,f,attrs,key,false,nodes⟩ (ks.take k))/\
   (∃n g,bp wr prog 9 Q n g/\n<=k/\Hid (∀z:Bytes,(g (.string z)).isSome=true↔z∈dW key (ks.take k)))/\Hid (lB (l.map am.t) ⟨name,f,attrs,key,false,nodes⟩ (ks.take k))/\Hid ((dW key (ks.take k)).Nodup)) (fun _ i _=>ks.length-(intOf i).toNat)
  case atStart=>
   have gG:dW key (ks.take 0)=[]:=by unfold dW;split<;>rfl
   exact⟨0,rfl,aZ _,cs,cb,dc _ _ _ _,⟨0,_,b1,az _,fun z=>by rw[gG];simp⟩,trivial,by unfold Hid;rw[gG];exact xO⟩
  case round=>
  clear cs cb b1 ev;obtain⟨k,rfl,a7,a4,bt,ba,⟨c7,g,cG,k4,bl⟩,dr,cc⟩:=hrel;obtain⟨bw,bz,bA,d1,d2,d3,d4,d5⟩:=bi.o wr a4;obtain⟨ca,b9,rfl⟩:=eh ba;have bb:(jL (l.map am.t) ⟨name,f,attrs,key,false,nodes⟩ (ks.take k)).length=k:=by unfold jL;rw[cf,fm];omega
  have kb:=cG.lt;by_cases iT:k<ks.length
  ·have h7:decide ((k:Int)<ks.length)=true:=bQ
   have k0:(k:Int)<ks.length:=ad;obtain⟨e,C⟩:∃n,ks[k]?=some n:=⟨_,aH iT⟩;obtain⟨j1,hW,q,d,rfl,ia,fg,jp,js,jv⟩:=nh e7 (b3.below bt.o.base) C;have g5:=hI.o k e q C d;have e1:=aX C;have b2:=Kg (ts:=l.map am.t) (x:=⟨name,f,attrs,key,false,nodes⟩) C;have hg:=Kh (ts:=l.map am.t) (x:=⟨name,f,attrs,key,false,nodes⟩) C dr.o;have he:=Ki (ts:=l.map am.t) (x:=⟨name,f,attrs,key,false,nodes⟩) C;obtain⟨ao,hN,hJ,hP,fy,fx,fq⟩:=zm b2 hg he C g5 e1 (fw.o e e1 e (Eg e));have g3:=fq.o.label;clear b2 hg he C d g5 e1;obtain⟨W,c5⟩:=ar (wr.alloc (.cells #[.string ⟨e.label.toArray⟩,.string ⟨e.text.toArray⟩,.slice q.ao e.attrs.length q.ac,.slice q.ko e.kids.length q.kc] 29));have c3:W.heap[wr.heap.size]?=some (.cells #[.string ⟨e.label.toArray⟩,.string ⟨e.text.toArray⟩,.slice q.ao e.attrs.length q.ac,.slice q.ko e.kids.length q.kc] 29 (0,0)):=by rw[c5];exact aB wr _
   have cp:Below wr.heap.size wr W:=by rw[c5];exact aG
   go_wp2_with fail
   rw[<-c5];clear c5;have hz:=bt.o.kept (bJ cp none) (fun q a=>by cases a);have hd:∀q,(A q∨q=Q)->q<W.heap.size:=fun q d=>by
    have D:=a4.size;have bD:=cp.size;rcases d with d|rfl
    ·have:=hx.o q d;omega
    ·omega
   have e0:=fun w' (a0:Below W.heap.size W w')=>hC.o w' (fun q=>A q∨q=Q) (fun q d=>by have:=hd q d;have:=a0.size;omega) (hz.kept (bJ a0 none) (fun q a=>by cases a));unfold zu at e0;have b5:=ai 0 c3;have c4:=ax c3;have lc:wr.heap.size≠h:=by have:=a4.size;omega
   have ez:=(aE W.heap.size W).drew;obtain⟨hT,gv⟩:=ar (ix (l.map am.t) ⟨name,f,attrs,key,false,nodes⟩ e.label);obtain⟨ea,ab⟩:=aD e0 gv;clear gv e0;cases hT with
   |none=>
    go_region_held3(fun w'=>w'.cell? ⟨wr.heap.size,0,none⟩=some (.string ⟨e.label.toArray⟩))
     (first
       |exact b5
       |exact(a3.cell_far ⟨wr.heap.size,0,none⟩ c4 aR).trans b5)
     (first
       |((go_at_call 63;refine Calls.mono (ea.o _ fS) ?_;rintro a be ⟨hQ,rfl,bN,bq,a3⟩;have e3:=zy bN ab.o g3)))
    have cv:wr.grownBy be (some h):=((bJ cp _).trans (bJ ez _)).trans a3;have eC:=a4.trans cv;have u:=ah (H.o false be eC (bq.more fun q d=>.inl (.inl d)) ⟨fun a=>(by cases a),fun a=>absurd (I.o.1 a).1 (ao.o (by rintro⟨j,a6,_⟩;rw[<-ab.o]at a6;cases a6))⟩);clear e3 bq bN
    go_wp2
    go_ret;exact u.o
   |some j=>
    obtain⟨y,fd,a6⟩:=hD.o e.label j ab.o.symm;have kv:(j:Int)<l.length:=ad;go_region_held3(fun w'=>w'.cell? ⟨wr.heap.size,0,none⟩=some (.string ⟨e.label.toArray⟩))
     (first
       |exact b5
       |exact(a3.cell_far ⟨wr.heap.size,0,none⟩ c4 aR).trans b5)
     (first
       |((go_at_call 63;refine Calls.mono (ea.o _ fS) ?_;rintro a be ⟨hQ,rfl,bN,bq,a3⟩;have e3:=zy bN ab.o g3)))
    have cv:wr.grownBy be (some h):=((bJ cp _).trans (bJ ez _)).trans a3;have eC:=a4.trans cv;have eE:W.grownBy be (some h):=(bJ ez _).trans a3;have f12:=(eE.block _ c4 aR).trans c3;have t0:=ai 0 f12;have t1:=ai 1 f12;have t2:=ai 2 f12;have t3:=ai 3 f12;have e6:=hB.o j e q (fun q=>A q∨q=Q) be (by have:=hM.o e fx.o;have:=hL.o;omega) a6 fy.o (fw.o e fx.o) (fun q d=>by have:=hd q d;have:=eE.size;omega) bq;unfold wu cP at e6;have fN:=ah fd;clear e3 bq bN fd b5 ea;go_wp2_with fail
    refine e6.mono ?_;rintro a N ⟨⟨ec,rfl,ae⟩,Z,eN⟩;clear e6 t0 t1 t2 t3;have h9:=eE.trans eN;have eU:=cv.trans eN;have eD:=eC.trans eN;cases ec with
    |false=>
     have c0:¬jo (l.map am.t) j e:=fun a=>by cases ae.2 a
     have u:=ah (H.o false N eD (Z.more fun q d=>.inl (.inl d)) ⟨fun a=>(by cases a),fun a=>absurd (I.o.1 a).1 (ao.o (by rintro⟨lo,cx,i1⟩;rw[<-ab.o]at cx;injection cx with cx;subst cx;exact c0 i1))⟩);clear ae c0 Z
     go_wp2
     go_ret;exact u.o
    |true=>
     have cd:=ah (hN.o ⟨j,ab.o.symm,ae.1 rfl⟩);obtain⟨b',lx,ed,km,lP,_⟩:=(ch.below Z.base).at fN.o;injection ed with ed
     injection ed with bB hU hV;clear hV
     subst bB;subst hU;have g8:sx (l.map am.t) j=y.t.name:=by unfold sx;rw[bW,fN.o];rfl
     have hG:=ah g8;have c1:=dS ba eU (zt ba ad);have io:=cG.kept eU aR;have hZ:=Z.blk;have hm:=ai 0 hZ;have Z:=ah Z;clear ae g8;rw[bb]at c1;have hc:=f9 c1 (.cells #[.string ⟨y.t.name.toArray⟩] 9);have lb:=eU.size;have la:=eD.size;have e4:=wn c1;have e5:=wn ba;rw[bb]at e5;have f12:=(h9.block _ c4 aR).trans c3;have cu:=jD N (.cells #[.string ⟨y.t.name.toArray⟩] 9) (Value.slice ca k b9).ownBlock;have fv:Hid (∀s,(N.alloc (.cells #[.string ⟨y.t.name.toArray⟩] 9)).grownBy s (Value.slice ca k b9).ownBlock->E.grownBy s (some h)):=fun s F=>Ev eD (cu.trans F) (fun q a=>.inr (by have:=(e4 q a).1;omega));have hw:Hid (∀s,(N.alloc (.cells #[.string ⟨y.t.name.toArray⟩] 9)).grownBy s (Value.slice ca k b9).ownBlock->s.cell? ⟨wr.heap.size,0,none⟩=some (.string ⟨e.label.toArray⟩)/\s.cell? ⟨wr.heap.size,1,none⟩=some (.string ⟨e.text.toArray⟩)/\s.cell? ⟨wr.heap.size,2,none⟩=some (.slice q.ao e.attrs.length q.ac)/\s.cell? ⟨wr.heap.size,3,none⟩=some (.slice q.ko e.kids.length q.kc)/\s.cell? ⟨w.heap.size+1,3,none⟩=some (.string ⟨key.toArray⟩)):=fun s F=>by have ce:=((cu.trans F).block _ (ax f12) (fun a=>by have:=(e5 _ a.symm).2.1;omega)).trans f12;exact⟨ai 0 ce,ai 1 ce,ai 2 ce,ai 3 ce,(bi.o s (fv.o s F)).2.2.2.2.2.1⟩
     obtain⟨fz,jy⟩:=aD e4 cu;clear e4 e5 f12 cu;go_wp2_with(first
      |(at_builtin;go_must (refine jh _ rfl _ _ 48 rfl (Q+1) 9 ji (.string ⟨#[]⟩) 1 16 mT ib jc jd je rfl ap _ _ _ rfl hc ⟨N.heap.size,0,none⟩ 1 1 [.string ⟨y.t.name.toArray⟩] rfl rfl (dK _ [.string ⟨y.t.name.toArray⟩] _ _ (by first|rfl|simp)) (fun z c6=>by simp at c6;subst c6;rfl) bI ad aR ?_);intro jj s hb F i4;obtain⟨t0,t1,t2,t3,d3⟩:=hw.o s F))
     have F:(N.alloc (.cells #[.string ⟨y.t.name.toArray⟩] 9)).grownBy s (Value.slice ca k b9).ownBlock:=F;have h8:=fv.o s F;have fo:cT B (fun q=>A q∨q=Q) s J K L h (some ⟨b,b8,none⟩) cap l:=(Z.o.kept (row:=none) (jD N _ none) (fun q a=>by cases a)).kept F (fun q a=>by obtain⟨D,bD,xs,t,bE⟩:=fz.o q a;have:=X.o.base.size;exact⟨ad,ad,.inl ⟨xs,t,(bk _ _ _ bD).trans bE⟩⟩)
     have e2:=(io.kept (jD N (.cells #[.string ⟨y.t.name.toArray⟩] 9) none) ak).kept F (fun a=>by have:=(fz.o _ a.symm).1;omega);have fc:=MC e q key s (fy.o.below fo.base);unfold cP at fc;refine fc.mono ?_;rintro a c8 ⟨rfl,co⟩;have a2:=h8.trans (bJ co (some h));have bo:=ah (fo.kept (bJ co none) (fun q a=>by cases a));have b0:=e2.below co e2.lt;have ha:=DW hb co;have bu:cn c8 (Q+1) jj (jL (l.map am.t) ⟨name,f,attrs,key,false,nodes⟩ (ks.take (k+1))):=by
      rw[hJ.o];unfold cn;rw[cR,bb,iH,<-ab.o];show World.ownsRow _ _ _ _ _ _ ((jL (l.map am.t) ⟨name,f,attrs,key,false,nodes⟩ (ks.take k)).map encStr++[encStr (sx (l.map am.t) j)])
      rw[hG.o];exact ha
     have fG:Hid (∀z,kP e.attrs key=some z->z.length<=1048576):=fun z c6=>Nb c6 fq.o.attr;have eb:Hid (key≠[]->dW key (ks.take (k+1))=dW key (ks.take k)++(kP e.attrs key).toList):=fun cN=>Kj hP.o cN;have hH:Hid (dW key (ks.take (k+1))<+:dW key ks):=Kk;clear d3 t0 t1 t2 t3 fc hb F i4 e2 ha c1 hc;obtain⟨bw,bz,bA,d1,d2,d3,d4,d5⟩:=bi.o c8 a2;obtain⟨hp,hi⟩:=ar (kP e.attrs key);rw[<-hi]at fG eb⊢;clear hi;unfold DX;by_cases P:key=[]
     ·have cF:∀m,dW key (ks.take m)=[]:=fun m=>by unfold dW;rw[ay P]
      have al:Hid (∀z:Bytes,(g (.string z)).isSome=true↔z∈dW key (ks.take (k+1))):=fun z=>by rw[cF,bl.o z,cF]
      have an:Hid (dW key (ks.take (k+1))).Nodup:=by unfold Hid;rw[cF];exact xO
      have ip:(key==[])=true:=by rw[P];rfl
      clear cF P;cases hp with
      |none=>
       go_wp2
       go_roundw
       case rel=>exact⟨k+1,aV,ad,a2,bo,bu,⟨c7,g,b0,ad,al⟩,cd.o,an⟩
       case measure=>exact bh
      |some M=>
       go_wp2
       go_roundw
       case rel=>exact⟨k+1,aV,ad,a2,bo,bu,⟨c7,g,b0,ad,al⟩,cd.o,an⟩
       case measure=>exact bh
     have ip:(key==[])=false:=by simpa using P
     cases hp with
     |none=>
      have O:dW key (ks.take (k+1))=dW key (ks.take k):=by rw[eb.o P];simp
      have al:Hid (∀z:Bytes,(g (.string z)).isSome=true↔z∈dW key (ks.take (k+1))):=fun z=>by rw[O];exact bl.o z
      have an:Hid (dW key (ks.take (k+1))).Nodup:=by unfold Hid;rw[O];exact cc.o
      clear O P
      go_wp2
      go_roundw
      case rel=>exact⟨k+1,aV,ad,a2,bo,bu,⟨c7,g,b0,ad,al⟩,cd.o,an⟩
      case measure=>exact bh
     |some M=>
      have O:dW key (ks.take (k+1))=dW key (ks.take k)++[M]:=by rw[eb.o P];rfl
      have i9:=fG.o M rfl;have g0:=ni M i9;have g7:=b0.look_ok (ll gq) jE (px c8) dH g0;by_cases a5:M∈dW key (ks.take k)
      ·have b4:=(bl.o M).2 a5
       rw[b4]at g7;have u:=ah (H.o false c8 a2 (bo.o.more fun q d=>.inl (.inl d)) ⟨fun a=>(by cases a),fun a=>absurd ((I.o.1 a).2.1.sublist hH.o.sublist) (by rw[O,CW];exact fun a=>a.2 a5)⟩);clear O P b4 a5
       go_wp2
       go_ret;exact u.o
      ·have b4:(g (.string M)).isSome=false:=by
        rw[<-ka];exact fun a=>a5 ((bl.o M).1 a)
       rw[b4]at g7;have an:Hid (dW key (ks.take (k+1))).Nodup:=by unfold Hid;rw[O,CW];exact⟨cc.o,a5⟩
       have al:Hid (∀z:Bytes,((eW g (.string M) (.int .i64 (k:Nat))) (.string z)).isSome=true↔z∈dW key (ks.take (k+1))):=fun z=>by
        rw[O,fA];by_cases a:z=M
        ·subst a;rw[jw];simp
        ·rw[jS _ _ (by intro bB;injection bB with bB;exact a bB),bl.o z];simp[a]
       clear O P b4 a5;go_wp2_with(first
        |(at_mapUpdate;go_must (refine oy b0 rfl _ _ _ 74 rfl 3 (ll gq) jE rfl bI _ _ _ rfl rfl dH g0 ?_);intro ly ii eB)
        |go_in)
       go_roundw
       case rel=>
        have j3:K<w.heap.size:=by obtain⟨j0,c,a0⟩:=X.o.places.block;exact ax a0
        have j4:L<w.heap.size:=by obtain⟨ls,f2,h0,_⟩:=X.o.made;exact h0.lt
        have kc:=X.o.base.size;refine⟨k+1,aV,ad,Ev a2 eB (fun q a=>.inr (by cases a;omega)),bo.o.kept eB (fun q a=>by cases a;exact⟨ad,ad,.inr ⟨ad,ad,ad,.inr rfl⟩⟩),dS bu eB (zt bu (Nat.lt_succ_self Q)),⟨c7+1,_,ii,ad,al⟩,cd.o,an⟩
       case measure=>exact bh
  ·have h7:decide ((k:Int)<ks.length)=false:=bK
   obtain rfl:k=ks.length:=ad;rw[dh (az _)]at ba bb dr cc;obtain⟨i3,hk⟩:=mh ba;have a9:=i2 nodes no bd (jL (l.map am.t) ⟨name,f,attrs,key,false,nodes⟩ ks) ca b9 wr (hy.o.below bt.o.base) hK.o g9 (by rw[bb];exact g2) (hA.o wr bt.o.base) hk;unfold Ei at a9;rw[bb]at a9;have hE:=ah a9;clear i3 hk a9;go_wp2_with fail
   refine hE.o.mono ?_;rintro a N ⟨⟨ec,rfl,ae⟩,gu⟩;have u:=ah (H.o ec N (a4.trans (bJ gu _)) ((bt.o.more fun q d=>.inl (.inl d)).kept (bJ gu none) (fun q a=>by cases a)) (ae.trans ⟨fun a=>I.o.2 ⟨dr.o,cc.o,a⟩,fun a=>(I.o.1 a).2.2⟩));clear ae
   go_wp2
   go_ret;exact u.o
end Go.Proofs.YtnadadbndcdolaaGreatDoor
