import Derived.Test.YtbacloblanpghaaGreatDoorQba
import Derived.Test.YtbacloblanpghaaGreatDoorQbb
set_option linter.unusedVariables false
set_option linter.unusedSimpArgs false
set_option maxRecDepth 100000
set_option maxHeartbeats 0
namespace Go.Proofs.YtbacloblanpghaaGreatDoor
open Go.RowKit Tryz
structure fX(wZ wr:World)(M CB:Nat)(l:List ar)(c m:Nat):Prop where
 os:wr.os=wZ.os
 tape:wr.tape=wZ.tape
 output:wr.output=wZ.output
 size:wZ.heap.size<=wr.heap.size
 block:∀b,b<wZ.heap.size->b≠M->b≠CB->wr.heap[b]?=wZ.heap[b]?
 map:∃cnt f,bn wr prog 3 M cnt f/\cnt<=c/\uH l f
 come:wr.rangeAt CB 0 (setRow m)
 comeT:wr.there CB 0 16
section
variable{wZ wr wq:World} {M CB:Nat} {l:List ar} {c m:Nat} (h:fX wZ wr M CB l c m)
include h
theorem fX.below(a:Below wr.heap.size wr wq):fX wZ wq M CB l c m:=by
 obtain⟨e,f,d,n,o⟩:=h.map;exact⟨a.os.trans h.os,a.tape.trans h.tape,a.output.trans h.output,aR h.size a.size,fun b g i j=>(a.block b (by have:=h.size;omega)).trans (h.block b g i j),
  ⟨e,f,d.below a d.lt,n,o⟩,gA h.come a,gn h.comeT a⟩
theorem fX.follow{c:Nat}(g:CB≠M)(a:wr.grownBy wq (some M))(p:∃d f,bn wq prog 3 M d f/\d<=c/\uH l f):fX wZ wq M CB l c m:=
 ⟨a.os.trans h.os,a.tape.trans h.tape,a.output.trans h.output,aR h.size a.size,fun b n e o=>(a.block b (by have:=h.size;omega) (by simp;exact e)).trans (h.block b n e o),
   p,fun j v i=>(a.cell_far ⟨CB,0+j,none⟩ (qQ wr _ (h.come j v i)) (by simp;exact g)).trans (h.come j v i),CT h.comeT a g⟩
theorem fX.store{m':Nat}(o:CB≠M)(a:eX wr wq CB 0 (setRow m')):fX wZ wq M CB l c m':=by
 obtain⟨e,f,n,j,m⟩:=h.map;exact⟨a.os.trans h.os,a.tape.trans h.tape,a.output.trans h.output,by rw[a.size];exact h.size,fun b g i d=>(a.block b d).trans (h.block b g i d),
  ⟨e,f,n.kept a.grown aO,j,m⟩,a.here,a.there h.comeT⟩
theorem fX.wrote{m':Nat}(o:CB≠M)(a:fm wr wq CB 0 (.int .u64 (m':Nat))):fX wZ wq M CB l c m':=by
 obtain⟨e,f,n,j,m⟩:=h.map;exact⟨a.os.trans h.os,a.tape.trans h.tape,a.output.trans h.output,by rw[a.size];exact h.size,fun b g i d=>(a.block b d).trans (h.block b g i d),
  ⟨e,f,n.kept a.row.grown aO,j,m⟩,ux (a.set (ef h.come)),a.row.there h.comeT⟩
theorem fX.inner{c n m':Nat}(f:CB<wr.heap.size)(i:CB≠M)(r:wr.heap.size<=c∨(wZ.heap.size<=c/\c≠CB))(k:fX wr wq M c l n m'):fX wZ wq M CB l n m:=by
 have s:=h.size;have g:CB≠c:=ad;refine⟨k.os.trans h.os,k.tape.trans h.tape,k.output.trans h.output,aR h.size k.size,fun b e d o=>(k.block b ad d ad).trans (h.block b e d o),k.map,fun j v q=> ?_,fun j p=> ?_⟩
 ·exact(dB (w:=wr) (w':=wq) (a:=⟨CB,0+j,none⟩) (k.block CB f i g)).trans (h.come j v q)
 ·obtain⟨e,d⟩:=h.comeT j p
  exact⟨by rw[dB (w:=wr) (w':=wq) (a:=⟨CB,0+j,none⟩) (k.block CB f i g)];exact e,by rw[m8 (w:=wr) (w':=wq) (a:=⟨CB,0+j,none⟩) (k.block CB f i g)];exact d⟩
end
structure nY(w0 w:World)(PB KB LB M F U:Nat)(no:Option Addr)(nc:Nat)(l:List ar)(vo:Option Addr)(vc n:Nat):Prop where
 base:Below w0.heap.size w0 w
 pb:w.heap[PB]?=some (.cells #[.slice no l.length nc,.slice (some ⟨F,0,none⟩) l.length l.length,.slice (some ⟨U,0,none⟩) l.length l.length] 185)
 kb:w.heap[KB]?=some (.cells #[.map (some M)] 195)
 lb:w.heap[LB]?=some (.cells #[.slice vo n vc] 66)
 plan:jx w F U l
theorem nY.step{w0 w wq:World}{f d e M F U:Nat}{no:Option Addr}{g:Nat}{l:List ar}{p:Option Addr}{o n c m CB:Nat}(h:nY w0 w f d e M F U no g l p o n)(H:w0.heap.size<=M)(A:f<M)(B:e<M)(C:F<M)(D:U<M)(E:d=M+1)(G:M+1<CB)
 (k:fX w wq M CB l c m):nY w0 wq f d e M F U no g l p o n:=by
 have x:=aL h.pb;have t:=aL h.kb;have u:=aL h.lb;have y:=h.base.size;refine⟨⟨k.os.trans h.base.os,k.tape.trans h.base.tape,k.output.trans h.base.output,aR y k.size,fun b q=>(k.block b ad ad ad).trans (h.base.block b q)⟩,
  (k.block f x ad ad).trans h.pb,(k.block d t ad ad).trans h.kb,(k.block e u ad ad).trans h.lb,⟨eR h.plan.lF k.size,eR h.plan.lU k.size,fun i r j v z=> ?_,fun j s=> ?_⟩⟩
 ·exact(dB (w:=w) (w':=wq) (a:=⟨F,i*34+j,none⟩) (k.block F h.plan.lF ad ad)).trans (h.plan.facts i r j v z)
 ·exact(dB (w:=w) (w':=wq) (a:=⟨U,j,none⟩) (k.block U h.plan.lU ad ad)).trans (h.plan.ups j s)
theorem nY.below{w0 w wq:World}{d b c M F U:Nat}{no:Option Addr}{e:Nat}{l:List ar}{g:Option Addr}{f n:Nat}(h:nY w0 w d b c M F U no e l g f n)(a:Below w.heap.size w wq):nY w0 wq d b c M F U no e l g f n:=
 ⟨h.base.trans (a.mono h.base.size),(a.block _ (aL h.pb)).trans h.pb,(a.block _ (aL h.kb)).trans h.kb,(a.block _ (aL h.lb)).trans h.lb,h.plan.below a⟩
theorem ql{l:List ar}(h:cw l=0):∀n∈l,n.sym.length<=1048576:=by
 intro n c;obtain⟨i,g⟩:=m0.1 c;have a:=iM l 0 i n (gB h).1.ok g;by_cases e:n.op=2
 ·unfold cw at h
  split at h
  ·omega
  ·split at h
   ·omega
   ·split at h
    ·omega
    ·rename_i b
     rw[gt]at b;have:a8 n.sym=true:=by
      cases d:a8 n.sym with
      |true=>rfl
      |false=>exact absurd ⟨n,c,by simp[e,d]⟩ b
     unfold a8 at this;simp at this;omega
 ·have f:n.sym=[]:=by
   unfold dG at a;split at a
   ·simp at a;exact a.1.1
   ·split at a
    ·simp at a;exact a.1.1
    ·split at a
     ·simp at a;exact a.1.1
     ·cases a
  rw[f];simp
theorem LV:∀args a,(callFunc 110 args).run prog a=.ok (.enter 110 args) a:=fun _ _=>rfl
theorem LW:∀args a,(callFunc 114 args).run prog a=.ok (.enter 114 args) a:=fun _ _=>rfl
theorem C6:xZ:=by
 intro l no s e S I w d3 aa A h6 L bg;have hF:=(gB aa).1;have eZ:=(gB aa).2;have eD:=C3 hF A e;have gl:=L.2.2.1;unfold maxLen at gl;have hK:=L.2.1;have g8:=bg.2.2.1;unfold maxLen at g8;have h5:=bg.2.1;obtain⟨w1,ae⟩:=aj ((w.alloc (.cells #[.slice no l.length s] 65)).alloc (.cells #[.slice S e.length I] 66));have bA:Below w.heap.size w w1:=by rw[ae];exact az.alloc ak _
 have h9:w1.heap.size=w.heap.size+2:=by rw[ae];simp
 have d0:w1.heap[w.heap.size+1]?=some (.cells #[.slice S e.length I] 66):=by rw[ae];have:=aC (w.alloc (.cells #[.slice no l.length s] 65)) (.cells #[.slice S e.length I] 66);rwa[bI]at this
 have dz:w1.heap[w.heap.size]?=some (.cells #[.slice no l.length s] 65):=by rw[ae];exact(bH _ _ _ ak).trans (aC w _)
 have f5:=ai 0 dz;have eN:=rL l no s w1 aa A (L.below bA) (ql aa);obtain⟨hz,bu,c2,cx,a6,bo,dr,c8⟩:=oZ aa L bg d3 bA d0 eN eD;clear aa L bg d3 bA d0 dz eN eD;go_enter func66,ntmps66
 go_wp2_with(first
  |(rw[<-ae];clear ae)
  |fail)
 refine dr.o.mono ?_;rintro K d ⟨F,U,rfl,bf,bB⟩;clear dr f5;obtain⟨bz,ag,bq,fv⟩:=cI bf bB bf.lF bf.lU;have ib:=bB.size;clear bf bB;obtain⟨u,P⟩:=aj (d.alloc (.cells #[.slice no l.length s,.slice (some ⟨F,0,none⟩) l.length l.length,.slice (some ⟨U,0,none⟩) l.length l.length] 185));have bF:Below d.heap.size d u:=by rw[P];exact az
 have e5:u.heap.size=d.heap.size+1:=by rw[P];simp
 have av:u.heap[d.heap.size]?=some (.cells #[.slice no l.length s,.slice (some ⟨F,0,none⟩) l.length l.length,.slice (some ⟨U,0,none⟩) l.length l.length] 185):=by rw[P];exact aC d _
 have hi:=ai 0 av;have hj:=ai 1 av;have hk:=ai 2 av;have hb:u.cell? ⟨w.heap.size+1,0,none⟩=some (.slice S e.length I):=ai 0 ((bF.block _ ad).trans ((ag.o.block _ ad).trans bo.o));obtain⟨a7,fc⟩:=aE bF av;clear bF av;unfold gS;by_cases bd:e=[]
 ·subst bd
  have O:=pk no s l.length F U u eZ A;unfold gS at O;have aq:=ah O;have e3:=bz.o.facts (l.length-1) ad 1 _ rfl;have f0:=ah e3;clear O e3;go_wp2_with(first
   |(rw[<-P];clear P)
   |fail)
  refine aq.o.mono ?_;rintro K T ⟨rfl,J⟩;have h8:T.cell? ⟨F,(l.length-1)*34+1,none⟩=some (.bool (aS l (l.length-1)).null):=(J.cell (p:=⟨F,_,none⟩) (by have:=bq.o;show F<_;omega)).trans ((a7.o.cell (p:=⟨F,_,none⟩) bq.o).trans f0.o);have a9:=ah J;clear J aq
  go_wp2
  go_ret;refine⟨⟨_,rfl,?_⟩,((a6.o.trans (ag.o.mono a6.o.size)).trans (a7.o.mono ad)).trans (a9.o.mono ad)⟩;exact c8.o
 ·obtain⟨z,L⟩:∃z,e.length=z+1:=⟨e.length-1,by have:0<e.length:=List.length_pos_iff.2 bd;omega⟩
  have hU:(((e.length:Nat):Int)==0)=false:=dX;obtain⟨x,ce⟩:∃x,e[e.length-1]?=some x:=⟨_,aF ad⟩;have em:e.getLast?=some x:=by rw[List.getLast?_eq_getElem?];exact ce
  have eB:uI l e=(aI (jA l (cB (aS l (l.length-1))) e.dropLast)).any fun p=>gy l p==x&&(dO (aS l (l.length-1))).testBit p:=by unfold uI;rw[em]
  obtain⟨fN,f1,bw⟩:=bO eB ce L;have hB:=ah bd;clear eB em ce bd;obtain⟨T,af⟩:=aj ((u.alloc (.map #[] 0)).alloc (.cells #[.map (some (d.heap.size+1))] 195));have J:Below u.heap.size u T:=by rw[af];exact az.alloc ak _
  have ia:T.heap.size=u.heap.size+2:=by rw[af];simp
  have e2:bn T prog 3 (d.heap.size+1) 0 (fun _=>none):=by rw[af,<-e5];exact(bn.made u prog 3).kept (iY _ _ none) ak
  have d1:T.heap[d.heap.size+1+1]?=some (.cells #[.map (some (d.heap.size+1))] 195):=by rw[af];have:=aC (u.alloc (.map #[] 0)) (.cells #[.map (some (d.heap.size+1))] 195);rwa[bI,e5]at this
  have a4:=(J.block _ ad).trans fc.o;have hf:=ai 0 a4;have hg:=ai 1 a4;have hh:=ai 2 a4;have g2:= @mY prog;obtain⟨a9,bt,fg,fs⟩:=cI J e2 d1 a4;have O:=pk no s l.length F U T eZ A;unfold gS at O;have aq:=ah O;clear J e2 d1 a4 O;go_wp2_with(first
   |(rw[<-P];clear P)
   |(rw[<-af];clear af hi hj hk hb)
   |fail)
  refine aq.o.mono ?_;rintro K r ⟨rfl,bc⟩;have hD:=bq.o;have hE:=fv.o;have bE:Below d.heap.size d r:=(a7.o.trans (a9.o.mono ad)).trans (bc.mono ad);have hl:r.rangeAt F ((l.length-1)*34+2) (setRow (cB (aS l (l.length-1)))):=jW (gA (bz.o.facts (l.length-1) ad) bE);obtain⟨D,Q,R,cp⟩:=mL r 190;obtain⟨hr,b8⟩:=aj (r.alloc (.cells #[.int .u64 0,.int .u64 0,.int .u64 0,.int .u64 0,.int .u64 0,.int .u64 0,.int .u64 0,.int .u64 0,.int .u64 0,.int .u64 0,.int .u64 0,.int .u64 0,.int .u64 0,.int .u64 0,.int .u64 0,.int .u64 0] 190));rw[<-b8]at D Q R cp;have h0:=bc.size;have fb:Hid (∀o,eX hr o r.heap.size 0 (setRow (cB (aS l (l.length-1))))->o.cell? ⟨w.heap.size+1,0,none⟩=some (.slice S (z+1) I)/\Below r.heap.size r o):=fun o M=>by have eb:=M.below D (aB _);refine⟨by rw[<-bw.o];exact ai 0 ((eb.block _ ad).trans ((bE.block _ ad).trans ((ag.o.block _ ad).trans bo.o))),eb⟩
  obtain⟨ba,fu,hA⟩:=bO bc R Q;clear bc bE D Q aq hf hg hh;go_wp2_with(first
   |(rw[<-b8];clear b8)
   |((with_reducible apply dL (ty:=190));exact rfl;exact rfl;exact rfl;assumption;exact kn;exact rfl;exact fC)
   |(((with_reducible apply cT (ty:=190));exact rfl;exact rfl;exact rfl;exact rfl;assumption;exact fC;exact eM _);clear R;intro o M;obtain⟨hc,Z⟩:=fb.o o M;clear hl)
   |fail)
  have d8:Hid (fX o o (d.heap.size+1) r.heap.size l 0 (jA l (cB (aS l (l.length-1))) (e.take 0))):=⟨rfl,rfl,rfl,aB _,fun _ _ _ _=>rfl,
   ⟨0,fun _=>none,(bt.o.below ba.o bt.o.lt).below Z (by have:=bt.o.lt;omega),aB _,fun q v g5=>by cases g5⟩,M.here,M.there fu.o⟩
  have f4:=Z;have be:Below d.heap.size d o:=((a7.o.trans (a9.o.mono ad)).trans (ba.o.mono ad)).trans (Z.mono ad);have d2:Below w.heap.size w o:=(a6.o.trans (ag.o.mono a6.o.size)).trans (be.mono ad);have gb:Hid (nY w o d.heap.size (d.heap.size+1+1) (w.heap.size+1) (d.heap.size+1) F U no s l S I e.length):=
   ⟨d2,(Z.block _ ad).trans ((ba.o.block _ ad).trans fs.o),(Z.block _ ad).trans ((ba.o.block _ ad).trans fg.o),(be.block _ ad).trans ((ag.o.block _ ad).trans bo.o),bz.o.below be⟩
  have hC:r.heap.size<o.heap.size:=by rw[M.size];omega
  have hM:=LV;have gG:=LW;clear g2 M hc Z f4 be d2;go_loopw [45] (fun i wr=>∃(k c:Nat),i=.int .i64 k/\k<=z/\c<=k*64/\Hid (fX o wr (d.heap.size+1) r.heap.size l c (jA l (cB (aS l (l.length-1))) (e.take k)))) (fun i _=>z-(intOf i).toNat)
  case atStart=>exact⟨0,0,rfl,aK _,aB _,d8⟩
  case round=>
  clear d8;obtain⟨k,c,rfl,hR,hJ,V⟩:=hrel;obtain⟨m,bl⟩:=aj (jA l (cB (aS l (l.length-1))) (e.take k));rw[<-bl]at V;have e1:iC l m:=by rw[bl];exact xY hF A _ _ (xV hF A)
  obtain⟨c7,an,X⟩:=bO bl e1 (gb.out.step ad ad ad ad ad rfl ad V.o);have h4:=V.o.size;clear bl e1;by_cases g1:k<z
  ·have gv:decide ((k:Int)<z)=true:=aM
   have hT:(k:Int)<z:=ad;have hS:(0:Int)<=k:=ad;obtain⟨n,ch⟩:∃n,e[k]?=some n:=⟨_,aF (by have:=bw.o;omega)⟩;obtain⟨hn,ho,rfl,g7,hx⟩:=(c2.o.below X.o.base).at ch;have f2:=ah ch;obtain⟨D,Q,R,cp⟩:=mL wr 190;obtain⟨e8,cc⟩:=aj (wr.alloc (.cells #[.int .u64 0,.int .u64 0,.int .u64 0,.int .u64 0,.int .u64 0,.int .u64 0,.int .u64 0,.int .u64 0,.int .u64 0,.int .u64 0,.int .u64 0,.int .u64 0,.int .u64 0,.int .u64 0,.int .u64 0,.int .u64 0] 190));rw[<-cc]at D Q R cp;have d5:=V.o.below D;have a1:=uw r.heap.size 0 m e8 (cx.o.below (X.o.base.trans (D.mono X.o.base.size))) ad an.o.1 (ef d5.come);obtain⟨ao,cs,c0,c1⟩:=cI a1 D Q R;clear a1 D Q R ch d5;go_wp2_with(first
    |(rw[<-cc];clear cc)
    |fail)
   refine ao.o.mono ?_;rintro K y ⟨⟨v,rfl,ab⟩,C⟩;have b5:=uJ ab;obtain⟨co,cl,rfl,N⟩:=pS ab;have h1:=C.size;have hV:=N.2.1;have g0:=N.2.2.1;unfold maxLen at g0;have hG:(aI m).length<=64:=by unfold aI;have:=me m.testBit (List.range 64);simpa using this
   have b2:Below wr.heap.size wr y:=cs.o.trans (C.mono ad);have al:Hid (nY w y d.heap.size (d.heap.size+1+1) (w.heap.size+1) (d.heap.size+1) F U no s l (some ⟨hn,ho,none⟩) I e.length):=X.o.below b2;have cG:=ah (V.o.below b2);have d4:Hid (fX y y (d.heap.size+1) wr.heap.size l c (fO l n 0 ((aI m).take 0))):=⟨rfl,rfl,rfl,aB _,fun _ _ _ _=>rfl,cG.o.map,gA c0.o C,gn c1.o C⟩;have fT:Hid (∀q,(Value.slice co (aI m).length cl).ownBlock=some q->e8.heap.size<=q/\q<y.heap.size):=fun q E=>⟨(b5 q E).1,(b5 q E).2.1⟩;have fz:=ah N;clear ao ab b5 N C b2 cs c0 c1 hx g7;go_wp2_with fail
   obtain⟨bm,g9⟩:=aj (wr);subst g9;go_loopw [51] (fun j wq=>∃(g t:Nat),j=.int .i64 g/\g<=(aI m).length/\t<=c+g/\Hid (fX y wq (d.heap.size+1) bm.heap.size l t (fO l n 0 ((aI m).take g)))) (fun j _=>(aI m).length-(intOf j).toNat)
   case atStart=>exact⟨0,c,rfl,aK _,aB _,d4⟩
   case round=>
   clear d4;obtain⟨g,t,rfl,hQ,hH,B⟩:=hrel;obtain⟨wq,ha⟩:=aj (wr);subst ha;have W:=ah (al.o.step ad ad ad ad ad rfl ad B.o);have h3:=B.o.size;obtain⟨Y,bi⟩:=aj (fO l n 0 ((aI m).take g));rw[<-bi]at B;have c3:=ah bi;have fx:Hid (iC l Y):=by unfold Hid;rw[bi];exact xX hF A n _ _ (CZ l) (fun p H=>rO an.o p (List.mem_of_mem_take H))
   clear bi;by_cases es:g<(aI m).length
   ·have gs:decide ((g:Int)<((aI m).length:Int))=true:=aM
    have hP:(g:Int)<((aI m).length:Int):=ad;have hN:(0:Int)<=g:=ad;obtain⟨p,H⟩:∃p,(aI m)[g]?=some p:=⟨_,aF es⟩;obtain⟨a3,G,b6⟩:=rO an.o p (aU H);have hZ:=(aP.1 G).1;obtain⟨ci,hd,rfl,er,e9⟩:=fz.o.at H;have hW:=(fT.o ci rfl).1;have ii:=(dB (w:=y) (w':=wq) (a:=⟨ci,hd+g,none⟩) (B.o.block ci er ad ad)).trans e9;obtain⟨b,he,rfl,gf,ht,hu,hv,hw⟩:=(bu.o.below W.o.base).at G;have h7:=ai 0 W.o.pb;have hY:(p:Int)<l.length:=ad;have hX:(0:Int)<=p:=ad;have a2:Hid (fO l n 0 ((aI m).take (g+1))=if a3.sym=n then Y|||db l p else Y):=by unfold Hid;rw[bG,H,dR,CX,<-c3.o];simp only[fO];rw[wu G]
    have c9:=ah G;obtain⟨cq,e0⟩:=aj (a3.sym);rw[<-e0]at hu a2;clear e9 ht hv hw H G er gf e0;by_cases E:cq=n
    ·have g4:(cq==n)=true:=by simpa using E
     have b7:Hid (fO l n 0 ((aI m).take (g+1))=Y|||db l p):=by have h:=a2.out;rw[au E]at h;exact h
     obtain⟨f6,f,eE,hL,eg⟩:=B.o.map;have b3:=LQ l (some ⟨b,he,none⟩) s F U p d.heap.size (d.heap.size+1+1) (d.heap.size+1) f6 f a3 wq hF A (bu.o.below W.o.base) W.o.plan c9.o b6 W.o.pb W.o.kb eE ad eg;unfold CU at b3;have c5:=ah b3;clear b3 E a2 eE eg es;go_wp2_with fail
     refine c5.o.mono ?_;rintro K a5 ⟨rfl,b4,du,f7,ez,hI,el⟩;have cN:=ah (B.o.follow ad b4 ⟨du,f7,ez,(show du<=t+1 by omega),el⟩);have h2:=b4.size;obtain⟨bZ,e4,e6,hm⟩:=mL a5 190;obtain⟨ic,b9⟩:=aj (a5.alloc (.cells #[.int .u64 0,.int .u64 0,.int .u64 0,.int .u64 0,.int .u64 0,.int .u64 0,.int .u64 0,.int .u64 0,.int .u64 0,.int .u64 0,.int .u64 0,.int .u64 0,.int .u64 0,.int .u64 0,.int .u64 0,.int .u64 0] 190));rw[<-b9]at bZ e4 e6 hm;have cu:=ah bZ;clear bZ e4 c5 b4 ez el;go_wp2_with(first
      |(rw[<-b9];clear b9)
      |(((with_reducible apply cT (ty:=190));exact rfl;exact rfl;exact rfl;exact rfl;assumption;exact fC;exact eM _);clear e6;intro hp b1)
      |fail)
     have ec:=b1.below cu.o (aB _);have bb:=ah (cN.o.below ec);have en:=mF bm.heap.size 0 Y a5.heap.size 0 (db l p) hp ad fx.o.1 (xW hF A c9.o b6).1 (ef bb.o.come) (mJ bb.o.comeT (aB _)) (ef b1.here);have c6:=ah en;clear en b1 ec cN cu;go_wp2_with fail
     refine c6.o.mono ?_;rintro K hq ⟨rfl,d6⟩;have fl:Hid (fX y hq (d.heap.size+1) bm.heap.size l (t+1) (fO l n 0 ((aI m).take (g+1)))):=by unfold Hid;rw[b7.out];exact bb.o.wrote ad d6
     clear c6 d6 bb
     go_wp2
     go_roundw
     case rel=>exact⟨g+1,t+1,aG,ad,ad,fl⟩
     case measure=>exact aH
    ·have g4:(cq==n)=false:=by simpa using E
     have b7:Hid (fX y wq (d.heap.size+1) bm.heap.size l t (fO l n 0 ((aI m).take (g+1)))):=by have h:=a2.out;rw[ap E]at h;unfold Hid;rw[h];exact B.o
     clear E a2
     go_wp2
     go_roundw
     case rel=>exact⟨g+1,t,aG,ad,ad,b7⟩
     case measure=>exact aH
   ·have gs:decide ((g:Int)<((aI m).length:Int))=false:=aJ
    have ea:Y=fO l n 0 (aI m):=by rw[c3.o,bx ad]
    have g3:=B.o.come;have b0:=cG.o.inner ad ad (.inr ⟨ad,ad⟩) B.o;have gr:=b0.comeT;obtain⟨fr,fy⟩:=aE b0 ea;clear ea b0;go_wp2_with(first
     |((with_reducible apply dL (ty:=190));exact rfl;exact rfl;exact rfl;assumption;exact kn;exact rfl;exact fC)
     |(((with_reducible apply cT (ty:=190));exact rfl;exact rfl;exact rfl;exact rfl;assumption;exact fC;exact eM _);intro e7 d7)
     |fail)
    have fo:Hid (fX o e7 (d.heap.size+1) r.heap.size l t (jA l (cB (aS l (l.length-1))) (e.take (k+1)))):=by
     have h:=fr.o.store ad d7;unfold Hid;rw[bG,f2.o,dR,CY,<-c7.o];show fX o e7 _ _ l t (fO l n 0 (aI m))
     rw[<-fy.o];exact h
    clear d7 gr g3;go_roundw
    case rel=>exact⟨k+1,t,aG,ad,ad,fo⟩
    case measure=>exact aH
  ·have gv:decide ((k:Int)<z)=false:=aJ
   obtain rfl:k=z:=ad;have ex:m=jA l (cB (aS l (l.length-1))) e.dropLast:=by rw[c7.o,List.dropLast_eq_take,bw.o,Nat.add_sub_cancel]
   have a1:=uw r.heap.size 0 m wr (cx.o.below X.o.base) ad an.o.1 (ef V.o.come);obtain⟨ao,fG⟩:=aE a1 ex;clear a1 ex g1;go_wp2_with fail
   refine ao.o.mono ?_;rintro K y ⟨⟨v,rfl,ab⟩,C⟩;obtain⟨co,cl,rfl,N⟩:=pS ab;have al:=ah (X.o.below C);have ed:=AF (F:=114) (caps:=#[.pointer (some ⟨d.heap.size,0,none⟩),.pointer (some ⟨w.heap.size+1,0,none⟩)]) (q:=fun p=>gy l p==x&&(dO (aS l (l.length-1))).testBit p) (aI m) co cl y N (by unfold aI;have:=me m.testBit (List.range 64);simp at this;omega) gG (fun p H hs gg=>by obtain⟨a3,G,b6⟩:=rO an.o p H;have a0:=al.o.below gg;have:=LR l no s F U p d.heap.size (w.heap.size+1) a3 e x S I hs hF A (bu.o.below a0.base) a0.plan G a0.pb a0.lb (c2.o.below a0.base) f1.o;rw[<-wu G]at this;exact this)
   obtain⟨c4,hy⟩:=aE ed C;clear ed N ab C ao;go_wp2_with fail
   refine c4.o.mono ?_;rintro K a5 ⟨rfl,ds⟩;have gd:Below w.heap.size w a5:=(al.o.base).trans (ds.mono (by have:=al.o.base.size;omega));clear c4 ds
   go_wp2
   go_ret;refine⟨⟨_,rfl,?_⟩,gd⟩;rw[fG.o,<-fN.o];exact c8.o
end Go.Proofs.YtbacloblanpghaaGreatDoor
