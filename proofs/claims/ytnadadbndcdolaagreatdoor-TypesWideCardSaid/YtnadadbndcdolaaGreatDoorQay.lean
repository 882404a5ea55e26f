import Derived.Test.YtnadadbndcdolaaGreatDoorQaw
import Derived.Test.YtnadadbndcdolaaGreatDoorQax
set_option linter.unusedVariables false
set_option linter.unusedSimpArgs false
set_option maxRecDepth 100000
set_option maxHeartbeats 0
namespace Go.Proofs.YtnadadbndcdolaaGreatDoor
open Go.RowKit Tryz
structure gj(wZ wr:World)(M CB:Nat)(l:List aj)(c m:Nat):Prop where
 os:wr.os=wZ.os
 tape:wr.tape=wZ.tape
 output:wr.output=wZ.output
 size:wZ.heap.size<=wr.heap.size
 block:∀b,b<wZ.heap.size->b≠M->b≠CB->wr.heap[b]?=wZ.heap[b]?
 map:∃cnt f,bp wr prog 3 M cnt f/\cnt<=c/\wk l f
 come:wr.rangeAt CB 0 (setRow m)
 comeT:wr.there CB 0 16
section
variable{wZ wr wq:World} {M CB:Nat} {l:List aj} {c m:Nat} (h:gj wZ wr M CB l c m)
include h
theorem gj.below(a:Below wr.heap.size wr wq):gj wZ wq M CB l c m:=by
 obtain⟨e,f,d,n,o⟩:=h.map;exact⟨a.os.trans h.os,a.tape.trans h.tape,a.output.trans h.output,aJ h.size a.size,fun b g i j=>(a.block b (by have:=h.size;omega)).trans (h.block b g i j),
  ⟨e,f,d.below a d.lt,n,o⟩,gN h.come a,gD h.comeT a⟩
theorem gj.follow{c:Nat}(g:CB≠M)(a:wr.grownBy wq (some M))(p:∃d f,bp wq prog 3 M d f/\d<=c/\wk l f):gj wZ wq M CB l c m:=
 ⟨a.os.trans h.os,a.tape.trans h.tape,a.output.trans h.output,aJ h.size a.size,fun b n e o=>(a.block b (by have:=h.size;omega) (by simp;exact e)).trans (h.block b n e o),
   p,fun j v i=>(a.cell_far ⟨CB,0+j,none⟩ (nU wr _ (h.come j v i)) (by simp;exact g)).trans (h.come j v i),Ek h.comeT a g⟩
theorem gj.store{m':Nat}(o:CB≠M)(a:dU wr wq CB 0 (setRow m')):gj wZ wq M CB l c m':=by
 obtain⟨e,f,n,j,m⟩:=h.map;exact⟨a.os.trans h.os,a.tape.trans h.tape,a.output.trans h.output,by rw[a.size];exact h.size,fun b g i d=>(a.block b d).trans (h.block b g i d),
  ⟨e,f,n.kept a.grown aR,j,m⟩,a.here,a.there h.comeT⟩
theorem gj.wrote{m':Nat}(o:CB≠M)(a:fE wr wq CB 0 (.int .u64 (m':Nat))):gj wZ wq M CB l c m':=by
 obtain⟨e,f,n,j,m⟩:=h.map;exact⟨a.os.trans h.os,a.tape.trans h.tape,a.output.trans h.output,by rw[a.size];exact h.size,fun b g i d=>(a.block b d).trans (h.block b g i d),
  ⟨e,f,n.kept a.row.grown aR,j,m⟩,vW (a.set (ep h.come)),a.row.there h.comeT⟩
theorem gj.inner{c n m':Nat}(f:CB<wr.heap.size)(i:CB≠M)(r:wr.heap.size<=c∨(wZ.heap.size<=c/\c≠CB))(k:gj wr wq M c l n m'):gj wZ wq M CB l n m:=by
 have s:=h.size;have g:CB≠c:=ad;refine⟨k.os.trans h.os,k.tape.trans h.tape,k.output.trans h.output,aJ h.size k.size,fun b e d o=>(k.block b ad d ad).trans (h.block b e d o),k.map,fun j v q=> ?_,fun j p=> ?_⟩
 ·exact(dD (w:=wr) (w':=wq) (a:=⟨CB,0+j,none⟩) (k.block CB f i g)).trans (h.come j v q)
 ·obtain⟨e,d⟩:=h.comeT j p
  exact⟨by rw[dD (w:=wr) (w':=wq) (a:=⟨CB,0+j,none⟩) (k.block CB f i g)];exact e,by rw[mW (w:=wr) (w':=wq) (a:=⟨CB,0+j,none⟩) (k.block CB f i g)];exact d⟩
end
structure oA(w0 w:World)(PB KB LB M F U:Nat)(no:Option Addr)(nc:Nat)(l:List aj)(vo:Option Addr)(vc n:Nat):Prop where
 base:Below w0.heap.size w0 w
 pb:w.heap[PB]?=some (.cells #[.slice no l.length nc,.slice (some ⟨F,0,none⟩) l.length l.length,.slice (some ⟨U,0,none⟩) l.length l.length] 217)
 kb:w.heap[KB]?=some (.cells #[.map (some M)] 227)
 lb:w.heap[LB]?=some (.cells #[.slice vo n vc] 48)
 plan:jR w F U l
theorem oA.step{w0 w wq:World}{e KB d M F U:Nat}{no:Option Addr}{f:Nat}{l:List aj}{o:Option Addr}{g n c m CB:Nat}(h:oA w0 w e KB d M F U no f l o g n)(G:w0.heap.size<=M)(z:e<M)(A:d<M)(B:F<M)(C:U<M)(D:KB=M+1)(E:M+1<CB)
 (k:gj w wq M CB l c m):oA w0 wq e KB d M F U no f l o g n:=by
 have u:=ax h.pb;have s:=ax h.kb;have t:=ax h.lb;have x:=h.base.size;refine⟨⟨k.os.trans h.base.os,k.tape.trans h.base.tape,k.output.trans h.base.output,aJ x k.size,fun b p=>(k.block b ad ad ad).trans (h.base.block b p)⟩,
  (k.block e u ad ad).trans h.pb,(k.block KB s ad ad).trans h.kb,(k.block d t ad ad).trans h.lb,⟨dn h.plan.lF k.size,dn h.plan.lU k.size,fun i q j v y=> ?_,fun j r=> ?_⟩⟩
 ·exact(dD (w:=w) (w':=wq) (a:=⟨F,i*34+j,none⟩) (k.block F h.plan.lF ad ad)).trans (h.plan.facts i q j v y)
 ·exact(dD (w:=w) (w':=wq) (a:=⟨U,j,none⟩) (k.block U h.plan.lU ad ad)).trans (h.plan.ups j r)
theorem oA.below{w0 w wq:World}{c KB b M F U:Nat}{no:Option Addr}{d:Nat}{l:List aj}{f:Option Addr}{e n:Nat}(h:oA w0 w c KB b M F U no d l f e n)(a:Below w.heap.size w wq):oA w0 wq c KB b M F U no d l f e n:=
 ⟨h.base.trans (a.mono h.base.size),(a.block _ (ax h.pb)).trans h.pb,(a.block _ (ax h.kb)).trans h.kb,(a.block _ (ax h.lb)).trans h.lb,h.plan.below a⟩
theorem qN{l:List aj}(h:bG l=0):∀n∈l,n.sym.length<=1048576:=by
 intro n c;obtain⟨i,g⟩:=pd.1 c;have a:=iM l 0 i n (gi h).1.ok g;by_cases e:n.op=2
 ·unfold bG at h
  split at h
  ·omega
  ·split at h
   ·omega
   ·split at h
    ·omega
    ·rename_i b
     rw[ir]at b;have:cH n.sym=true:=by
      cases d:cH n.sym with
      |true=>rfl
      |false=>exact absurd ⟨n,c,by simp[e,d]⟩ b
     unfold cH at this;simp at this;omega
 ·have f:n.sym=[]:=by
   unfold dO at a;split at a
   ·simp at a;exact a.1.1
   ·split at a
    ·simp at a;exact a.1.1
    ·split at a
     ·simp at a;exact a.1.1
     ·cases a
  rw[f];simp
theorem Nd:∀args a,(callFunc 144 args).run prog a=.ok (.enter 144 args) a:=fun _ _=>rfl
theorem Nf:∀args a,(callFunc 148 args).run prog a=.ok (.enter 148 args) a:=fun _ _=>rfl
theorem Ng:zx:=by
 intro l no s e R I w dr Z z h5 L bg;have hF:=(gi Z).1;have eE:=(gi Z).2;have eB:=Eu hF z e;have gl:=L.2.2.1;unfold maxLen at gl;have hJ:=L.2.1;have g7:=bg.2.2.1;unfold maxLen at g7;have h4:=bg.2.1;obtain⟨a5,ab⟩:=ar ((w.alloc (.cells #[.slice no l.length s] 51)).alloc (.cells #[.slice R e.length I] 48));have bB:Below w.heap.size w a5:=by rw[ab];exact aG.alloc ak _
 have h8:a5.heap.size=w.heap.size+2:=by rw[ab];simp
 have c7:a5.heap[w.heap.size+1]?=some (.cells #[.slice R e.length I] 48):=by rw[ab];have:=aB (w.alloc (.cells #[.slice no l.length s] 51)) (.cells #[.slice R e.length I] 48);rwa[bj]at this
 have c6:a5.heap[w.heap.size]?=some (.cells #[.slice no l.length s] 51):=by rw[ab];exact(bk _ _ _ ak).trans (aB w _)
 have fG:=ai 0 c6;have eD:=sV l no s a5 Z z (L.below bB) (qN Z);obtain⟨hy,bw,cv,co,a7,bq,c3,c1⟩:=s9 Z L bg dr bB c7 eD eB;clear Z L bg dr bB c7 c6 eD eB;go_enter func65,ntmps65
 go_wp2_with(first
  |(rw[<-ab];clear ab)
  |fail)
 refine c3.o.mono ?_;rintro K d ⟨F,U,rfl,bf,bC⟩;clear c3 fG;obtain⟨bA,ag,bt,fl⟩:=cr bf bC bf.lF bf.lU;have ia:=bC.size;clear bf bC;obtain⟨A,ae,bE⟩:=dF d (.cells #[.slice no l.length s,.slice (some ⟨F,0,none⟩) l.length l.length,.slice (some ⟨U,0,none⟩) l.length l.length] 217);have e1:A.heap.size=d.heap.size+1:=by rw[ae];simp
 have av:A.heap[d.heap.size]?=some (.cells #[.slice no l.length s,.slice (some ⟨F,0,none⟩) l.length l.length,.slice (some ⟨U,0,none⟩) l.length l.length] 217):=by rw[ae];exact aB d _
 have hh:=ai 0 av;have hi:=ai 1 av;have hj:=ai 2 av;have ha:A.cell? ⟨w.heap.size+1,0,none⟩=some (.slice R e.length I):=ai 0 ((bE.block _ ad).trans ((ag.o.block _ ad).trans bq.o));obtain⟨a8,e7⟩:=aD bE av;clear bE av;unfold hO;by_cases bd:e=[]
 ·subst bd
  have O:=pV no s l.length F U A eE z;unfold hO at O;have aq:=ah O;have eZ:=bA.o.facts (l.length-1) ad 1 _ rfl;have fw:=ah eZ;clear O eZ;go_wp2_with(first
   |(rw[<-ae];clear ae)
   |fail)
  refine aq.o.mono ?_;rintro K S ⟨rfl,J⟩;have h7:S.cell? ⟨F,(l.length-1)*34+1,none⟩=some (.bool (aQ l (l.length-1)).null):=(J.cell (p:=⟨F,_,none⟩) (by have:=bt.o;show F<_;omega)).trans ((a8.o.cell (p:=⟨F,_,none⟩) bt.o).trans fw.o);have a9:=ah J;clear J aq
  go_wp2
  go_ret;refine⟨⟨_,rfl,?_⟩,((a7.o.trans (ag.o.mono a7.o.size)).trans (a8.o.mono ad)).trans (a9.o.mono ad)⟩;exact c1.o
 ·obtain⟨y,L⟩:∃y,e.length=y+1:=⟨e.length-1,by have:0<e.length:=List.length_pos_iff.2 bd;omega⟩
  have hT:(((e.length:Nat):Int)==0)=false:=gK;obtain⟨x,b9⟩:∃x,e[e.length-1]?=some x:=⟨_,aH ad⟩;have er:e.getLast?=some x:=by rw[List.getLast?_eq_getElem?];exact b9
  have eA:wm l e=(aC (jT l (cE (aQ l (l.length-1))) e.dropLast)).any fun p=>fU l p==x&&(dJ (aQ l (l.length-1))).testBit p:=by unfold wm;rw[er]
  obtain⟨fu,fx,bz⟩:=bH eA b9 L;have hA:=ah bd;clear eA er b9 bd;obtain⟨S,af⟩:=ar ((A.alloc (.map #[] 0)).alloc (.cells #[.map (some (d.heap.size+1))] 227));have J:Below A.heap.size A S:=by rw[af];exact aG.alloc ak _
  have h9:S.heap.size=A.heap.size+2:=by rw[af];simp
  have eV:bp S prog 3 (d.heap.size+1) 0 (fun _=>none):=by rw[af,<-e1];exact(bp.made A prog 3).kept (jD _ _ none) ak
  have c8:S.heap[d.heap.size+1+1]?=some (.cells #[.map (some (d.heap.size+1))] 227):=by rw[af];have:=aB (A.alloc (.map #[] 0)) (.cells #[.map (some (d.heap.size+1))] 227);rwa[bj,e1]at this
  have a4:=(J.block _ ad).trans e7.o;have he:=ai 0 a4;have hf:=ai 1 a4;have hg:=ai 2 a4;have g1:= @l8 prog;obtain⟨a9,bu,e8,fd⟩:=cr J eV c8 a4;have O:=pV no s l.length F U S eE z;unfold hO at O;have aq:=ah O;clear J eV c8 a4 O;go_wp2_with(first
   |(rw[<-ae];clear ae)
   |(rw[<-af];clear af hh hi hj ha)
   |fail)
  refine aq.o.mono ?_;rintro K r ⟨rfl,bc⟩;have hC:=bt.o;have hD:=fl.o;have bD:Below d.heap.size d r:=(a8.o.trans (a9.o.mono ad)).trans (bc.mono ad);have hk:r.rangeAt F ((l.length-1)*34+2) (setRow (cE (aQ l (l.length-1)))):=kz (gN (bA.o.facts (l.length-1) ad) bD);obtain⟨D,P,Q,ce⟩:=nE r 222;obtain⟨hq,b6⟩:=ar (r.alloc (.cells #[.int .u64 0,.int .u64 0,.int .u64 0,.int .u64 0,.int .u64 0,.int .u64 0,.int .u64 0,.int .u64 0,.int .u64 0,.int .u64 0,.int .u64 0,.int .u64 0,.int .u64 0,.int .u64 0,.int .u64 0,.int .u64 0] 222));rw[<-b6]at D P Q ce;have hZ:=bc.size;have e6:Hid (∀o,dU hq o r.heap.size 0 (setRow (cE (aQ l (l.length-1))))->o.cell? ⟨w.heap.size+1,0,none⟩=some (.slice R (y+1) I)/\Below r.heap.size r o):=fun o M=>by have ek:=M.below D (az _);refine⟨by rw[<-bz.o];exact ai 0 ((ek.block _ ad).trans ((bD.block _ ad).trans ((ag.o.block _ ad).trans bq.o))),ek⟩
  obtain⟨ba,fg,hz⟩:=bH bc Q P;clear bc bD D P aq he hf hg;go_wp2_with(first
   |(rw[<-b6];clear b6)
   |((with_reducible apply dj (ty:=222));exact rfl;exact rfl;exact rfl;assumption;exact kI;exact rfl;exact fK)
   |(((with_reducible apply cQ (ty:=222));exact rfl;exact rfl;exact rfl;exact rfl;assumption;exact fK;exact fa _);clear Q;intro o M;obtain⟨hb,Y⟩:=e6.o o M;clear hk)
   |fail)
  have ed:Hid (gj o o (d.heap.size+1) r.heap.size l 0 (jT l (cE (aQ l (l.length-1))) (e.take 0))):=⟨rfl,rfl,rfl,az _,fun _ _ _ _=>rfl,
   ⟨0,fun _=>none,(bu.o.below ba.o bu.o.lt).below Y (by have:=bu.o.lt;omega),az _,fun q v g4=>by cases g4⟩,M.here,M.there fg.o⟩
  have fz:=Y;have be:Below d.heap.size d o:=((a8.o.trans (a9.o.mono ad)).trans (ba.o.mono ad)).trans (Y.mono ad);have c9:Below w.heap.size w o:=(a7.o.trans (ag.o.mono a7.o.size)).trans (be.mono ad);have ga:Hid (oA w o d.heap.size (d.heap.size+1+1) (w.heap.size+1) (d.heap.size+1) F U no s l R I e.length):=
   ⟨c9,(Y.block _ ad).trans ((ba.o.block _ ad).trans fd.o),(Y.block _ ad).trans ((ba.o.block _ ad).trans e8.o),(be.block _ ad).trans ((ag.o.block _ ad).trans bq.o),bA.o.below be⟩
  have hB:r.heap.size<o.heap.size:=by rw[M.size];omega
  have hL:=Nd;have gv:=Nf;clear g1 M hb Y fz be c9;go_loopw [45] (fun i wr=>∃(k c:Nat),i=.int .i64 k/\k<=y/\c<=k*64/\Hid (gj o wr (d.heap.size+1) r.heap.size l c (jT l (cE (aQ l (l.length-1))) (e.take k)))) (fun i _=>y-(intOf i).toNat)
  case atStart=>exact⟨0,0,rfl,aZ _,az _,ed⟩
  case round=>
  clear ed;obtain⟨k,c,rfl,hQ,hI,T⟩:=hrel;obtain⟨m,bl⟩:=ar (jT l (cE (aQ l (l.length-1))) (e.take k));rw[<-bl]at T;have eU:iU l m:=by rw[bl];exact zw hF z _ _ (sX hF z)
  obtain⟨c0,an,W⟩:=bH bl eU (ga.out.step ad ad ad ad ad rfl ad T.o);have h3:=T.o.size;clear bl eU;by_cases g0:k<y
  ·have gu:decide ((k:Int)<y)=true:=bQ
   have hS:(k:Int)<y:=ad;have hR:(0:Int)<=k:=ad;obtain⟨n,ca⟩:∃n,e[k]?=some n:=⟨_,aH (by have:=bz.o;omega)⟩;obtain⟨hm,hn,rfl,g5,hw⟩:=(cv.o.below W.o.base).at ca;have fy:=ah ca;obtain⟨D,P,Q,ce⟩:=nE wr 222;obtain⟨e4,b8⟩:=ar (wr.alloc (.cells #[.int .u64 0,.int .u64 0,.int .u64 0,.int .u64 0,.int .u64 0,.int .u64 0,.int .u64 0,.int .u64 0,.int .u64 0,.int .u64 0,.int .u64 0,.int .u64 0,.int .u64 0,.int .u64 0,.int .u64 0,.int .u64 0] 222));rw[<-b8]at D P Q ce;have ea:=T.o.below D;have a1:=vV r.heap.size 0 m e4 (co.o.below (W.o.base.trans (D.mono W.o.base.size))) ad an.o.1 (ep ea.come);obtain⟨ao,ci,cs,cu⟩:=cr a1 D P Q;clear a1 D P Q ca ea;go_wp2_with(first
    |(rw[<-b8];clear b8)
    |fail)
   refine ao.o.mono ?_;rintro K u ⟨⟨v,rfl,aa⟩,C⟩;have b3:=wn aa;obtain⟨cd,cc,rfl,N⟩:=qA aa;have h0:=C.size;have hU:=N.2.1;have gG:=N.2.2.1;unfold maxLen at gG;have hE:(aC m).length<=64:=by unfold aC;have:=lq m.testBit (List.range 64);simpa using this
   have b0:Below wr.heap.size wr u:=ci.o.trans (C.mono ad);have al:Hid (oA w u d.heap.size (d.heap.size+1+1) (w.heap.size+1) (d.heap.size+1) F U no s l (some ⟨hm,hn,none⟩) I e.length):=W.o.below b0;have cp:=ah (T.o.below b0);have ds:Hid (gj u u (d.heap.size+1) wr.heap.size l c (fV l n 0 ((aC m).take 0))):=⟨rfl,rfl,rfl,az _,fun _ _ _ _=>rfl,cp.o.map,gN cs.o C,gD cu.o C⟩;have fv:Hid (∀q,(Value.slice cd (aC m).length cc).ownBlock=some q->e4.heap.size<=q/\q<u.heap.size):=fun q E=>⟨(b3 q E).1,(b3 q E).2.1⟩;have fr:=ah N;clear ao aa b3 N C b0 ci cs cu hw g5;go_wp2_with fail
   obtain⟨bo,g8⟩:=ar (wr);subst g8;go_loopw [51] (fun j wq=>∃(g t:Nat),j=.int .i64 g/\g<=(aC m).length/\t<=c+g/\Hid (gj u wq (d.heap.size+1) bo.heap.size l t (fV l n 0 ((aC m).take g)))) (fun j _=>(aC m).length-(intOf j).toNat)
   case atStart=>exact⟨0,c,rfl,aZ _,az _,ds⟩
   case round=>
   clear ds;obtain⟨g,t,rfl,hP,hG,B⟩:=hrel;obtain⟨wq,g9⟩:=ar (wr);subst g9;have V:=ah (al.o.step ad ad ad ad ad rfl ad B.o);have h2:=B.o.size;obtain⟨X,bi⟩:=ar (fV l n 0 ((aC m).take g));rw[<-bi]at B;have cx:=ah bi;have fo:Hid (iU l X):=by unfold Hid;rw[bi];exact zv hF z n _ _ (Ep l) (fun p H=>s8 an.o p (List.mem_of_mem_take H))
   clear bi;by_cases ew:g<(aC m).length
   ·have gs:decide ((g:Int)<((aC m).length:Int))=true:=bQ
    have hN:(g:Int)<((aC m).length:Int):=ad;have hM:(0:Int)<=g:=ad;obtain⟨p,H⟩:∃p,(aC m)[g]?=some p:=⟨_,aH ew⟩;obtain⟨a3,G,b4⟩:=s8 an.o p (aX H);have hY:=(aL.1 G).1;obtain⟨cb,hc,rfl,ev,e5⟩:=fr.o.at H;have hV:=(fv.o cb rfl).1;have ic:=(dD (w:=u) (w':=wq) (a:=⟨cb,hc+g,none⟩) (B.o.block cb ev ad ad)).trans e5;obtain⟨b,hd,rfl,gf,hs,ht,hu,hv⟩:=(bw.o.below V.o.base).at G;have h6:=ai 0 V.o.pb;have hX:(p:Int)<l.length:=ad;have hW:(0:Int)<=p:=ad;have a2:Hid (fV l n 0 ((aC m).take (g+1))=if a3.sym=n then X|||cK l p else X):=by unfold Hid;rw[bV,H,fF,En,<-cx.o];simp only[fV];rw[vn G]
    have c2:=ah G;obtain⟨ch,eN⟩:=ar (a3.sym);rw[<-eN]at ht a2;clear e5 hs hu hv H G ev gf eN;by_cases E:ch=n
    ·have g3:(ch==n)=true:=by simpa using E
     have b5:Hid (fV l n 0 ((aC m).take (g+1))=X|||cK l p):=by have h:=a2.out;rw[ay E]at h;exact h
     obtain⟨fN,f,eC,hK,en⟩:=B.o.map;have b1:=M8 l (some ⟨b,hd,none⟩) s F U p d.heap.size (d.heap.size+1+1) (d.heap.size+1) fN f a3 wq hF z (bw.o.below V.o.base) V.o.plan c2.o b4 V.o.pb V.o.kb eC ad en;unfold El at b1;have cG:=ah b1;clear b1 E a2 eC en ew;go_wp2_with fail
     refine cG.o.mono ?_;rintro K a6 ⟨rfl,b2,c5,fT,ez,hH,eo⟩;have cq:=ah (B.o.follow ad b2 ⟨c5,fT,ez,(show c5<=t+1 by omega),eo⟩);have h1:=b2.size;obtain⟨bF,e0,e2,hl⟩:=nE a6 222;obtain⟨ib,b7⟩:=ar (a6.alloc (.cells #[.int .u64 0,.int .u64 0,.int .u64 0,.int .u64 0,.int .u64 0,.int .u64 0,.int .u64 0,.int .u64 0,.int .u64 0,.int .u64 0,.int .u64 0,.int .u64 0,.int .u64 0,.int .u64 0,.int .u64 0,.int .u64 0] 222));rw[<-b7]at bF e0 e2 hl;have cl:=ah bF;clear bF e0 cG b2 ez eo;go_wp2_with(first
      |(rw[<-b7];clear b7)
      |(((with_reducible apply cQ (ty:=222));exact rfl;exact rfl;exact rfl;exact rfl;assumption;exact fK;exact fa _);clear e2;intro ho bZ)
      |fail)
     have el:=bZ.below cl.o (az _);have bb:=ah (cq.o.below el);have es:=nB bo.heap.size 0 X a6.heap.size 0 (cK l p) ho ad fo.o.1 (sY hF z c2.o b4).1 (ep bb.o.come) (nD bb.o.comeT (az _)) (ep bZ.here);have cN:=ah es;clear es bZ el cq cl;go_wp2_with fail
     refine cN.o.mono ?_;rintro K hp ⟨rfl,eb⟩;have e9:Hid (gj u hp (d.heap.size+1) bo.heap.size l (t+1) (fV l n 0 ((aC m).take (g+1)))):=by unfold Hid;rw[b5.out];exact bb.o.wrote ad eb
     clear cN eb bb
     go_wp2
     go_roundw
     case rel=>exact⟨g+1,t+1,aV,ad,ad,e9⟩
     case measure=>exact bh
    ·have g3:(ch==n)=false:=by simpa using E
     have b5:Hid (gj u wq (d.heap.size+1) bo.heap.size l t (fV l n 0 ((aC m).take (g+1)))):=by have h:=a2.out;rw[au E]at h;unfold Hid;rw[h];exact B.o
     clear E a2
     go_wp2
     go_roundw
     case rel=>exact⟨g+1,t,aV,ad,ad,b5⟩
     case measure=>exact bh
   ·have gs:decide ((g:Int)<((aC m).length:Int))=false:=bK
    have eg:X=fV l n 0 (aC m):=by rw[cx.o,dh ad]
    have g2:=B.o.come;have bN:=cp.o.inner ad ad (.inr ⟨ad,ad⟩) B.o;have gr:=bN.comeT;obtain⟨fc,fq⟩:=aD bN eg;clear eg bN;go_wp2_with(first
     |((with_reducible apply dj (ty:=222));exact rfl;exact rfl;exact rfl;assumption;exact kI;exact rfl;exact fK)
     |(((with_reducible apply cQ (ty:=222));exact rfl;exact rfl;exact rfl;exact rfl;assumption;exact fK;exact fa _);intro e3 ec)
     |fail)
    have fb:Hid (gj o e3 (d.heap.size+1) r.heap.size l t (jT l (cE (aQ l (l.length-1))) (e.take (k+1)))):=by
     have h:=fc.o.store ad ec;unfold Hid;rw[bV,fy.o,fF,Eo,<-c0.o];show gj o e3 _ _ l t (fV l n 0 (aC m))
     rw[<-fq.o];exact h
    clear ec gr g2;go_roundw
    case rel=>exact⟨k+1,t,aV,ad,ad,fb⟩
    case measure=>exact bh
  ·have gu:decide ((k:Int)<y)=false:=bK
   obtain rfl:k=y:=ad;have ex:m=jT l (cE (aQ l (l.length-1))) e.dropLast:=by rw[c0.o,List.dropLast_eq_take,bz.o,Nat.add_sub_cancel]
   have a1:=vV r.heap.size 0 m wr (co.o.below W.o.base) ad an.o.1 (ep T.o.come);obtain⟨ao,fs⟩:=aD a1 ex;clear a1 ex g0;go_wp2_with fail
   refine ao.o.mono ?_;rintro K u ⟨⟨v,rfl,aa⟩,C⟩;obtain⟨cd,cc,rfl,N⟩:=qA aa;have al:=ah (W.o.below C);have em:=CA (F:=148) (caps:=#[.pointer (some ⟨d.heap.size,0,none⟩),.pointer (some ⟨w.heap.size+1,0,none⟩)]) (q:=fun p=>fU l p==x&&(dJ (aQ l (l.length-1))).testBit p) (aC m) cd cc u N (by unfold aC;have:=lq m.testBit (List.range 64);simp at this;omega) gv (fun p H hr gg=>by obtain⟨a3,G,b4⟩:=s8 an.o p H;have a0:=al.o.below gg;have:=M9 l no s F U p d.heap.size (w.heap.size+1) a3 e x R I hr hF z (bw.o.below a0.base) a0.plan G a0.pb a0.lb (cv.o.below a0.base) fx.o;rw[<-vn G]at this;exact this)
   obtain⟨cF,hx⟩:=aD em C;clear em N aa C ao;go_wp2_with fail
   refine cF.o.mono ?_;rintro K a6 ⟨rfl,c4⟩;have gb:Below w.heap.size w a6:=(al.o.base).trans (c4.mono (by have:=al.o.base.size;omega));clear cF c4
   go_wp2
   go_ret;refine⟨⟨_,rfl,?_⟩,gb⟩;rw[fs.o,<-fu.o];exact c1.o
theorem Ew{w:World}{B a:Nat}{v:Value}{s:List Nat}(b:cW w B v s)(f:a<=B):cW w a v s:=by
 refine⟨b.1,?_⟩;rcases b.2 with d|⟨g,cap,c,j,h,i,e⟩
 ·exact .inl d
 ·exact .inr ⟨g,cap,c,j,aJ f h,i,e⟩
theorem Nh(l:List aj)(no:Option Addr)(a:Nat)(w:World)(b:bG l=0)(B:l.length<=60)(d:cO w no a l):
 Calls prog 247 #[.agg #[.slice no l.length a]] w fun o w'=>o=.returned (.bool (factN l (l.length-1)).empty)/\Below w.heap.size w w':=by
 have hF:=(gi b).1;have K:=(gi b).2;have J:=d.2.2.1;unfold maxLen at J;have T:=d.2.1;obtain⟨s,g,j⟩:=dF w (.cells #[.slice no l.length a] 51);have V:s.heap.size=w.heap.size+1:=by rw[g];simp
 have z:s.heap[w.heap.size]?=some (.cells #[.slice no l.length a] 51):=by rw[g];exact aB w _
 have I:=ai 0 z;have C:=sV l no a s b B (d.below j) (qN b);obtain⟨Q,S,D,v⟩:=cr b d j C;clear b d j z C;go_enter func247,ntmps247
 go_wp2_with(first
  |(rw[<-g];clear g)
  |fail)
 refine v.o.mono ?_;rintro o i ⟨F,U,rfl,A,m⟩;clear v I;obtain⟨H,E⟩:=aD A m;have X:=m.size;clear A m;obtain⟨e,h,f⟩:=dF i (.cells #[.slice no l.length a,.slice (some ⟨F,0,none⟩) l.length l.length,.slice (some ⟨U,0,none⟩) l.length l.length] 217);have W:e.heap.size=i.heap.size+1:=by rw[h];simp
 have c:e.heap[i.heap.size]?=some (.cells #[.slice no l.length a,.slice (some ⟨F,0,none⟩) l.length l.length,.slice (some ⟨U,0,none⟩) l.length l.length] 217):=by rw[h];exact aB i _
 have L:=ai 0 c;have M:=ai 1 c;have N:=ai 2 c;obtain⟨P,R⟩:=aD f c;have t:Hid (Below w.heap.size w e):=(D.o.trans (E.o.mono ad)).trans (f.mono ad);have u:Hid (jR e F U l):=H.o.below f;have q:=pV no a l.length F U e K B;unfold hO at q;have y:=ah q;clear f c q;unfold hO;have r:=u.o.facts (l.length-1) ad 1 _ rfl;have x:=ah r;clear r;go_wp2_with(first
  |(rw[<-h];clear h)
  |fail)
 refine y.o.mono ?_;rintro o O ⟨rfl,n⟩;have r:O.cell? ⟨F,(l.length-1)*34+1,none⟩=some (.bool (factN l (l.length-1)).empty):=(n.cell (p:=⟨F,_,none⟩) u.o.lF).trans x.o;have G:=ah (t.o.trans (n.mono t.o.size));clear x y n L M N
 go_wp2
 go_ret;exact⟨rfl,G.o⟩
theorem Ni(l:List aj)(no:Option Addr)(a:Nat)(w:World)(P:Gl w)(b:bG l=0)(r:l.length<=60)(d:cO w no a l):
 Calls prog 242 #[.agg #[.slice no l.length a]] w fun j w'=>(∃v,j=.returned v/\cW w' w.heap.size v (aC (cE (aQ l (l.length-1)))))/\Below w.heap.size w w':=by
 have hF:=(gi b).1;have R:=(gi b).2;have Q:=d.2.2.1;unfold maxLen at Q;have ae:=d.2.1;obtain⟨t,m,p⟩:=dF w (.cells #[.slice no l.length a] 51);have af:t.heap.size=w.heap.size+1:=by rw[m];simp
 have C:t.heap[w.heap.size]?=some (.cells #[.slice no l.length a] 51):=by rw[m];exact aB w _
 have O:=ai 0 C;have H:=sV l no a t b r (d.below p) (qN b);obtain⟨Z,ab,J,z⟩:=cr b d p H;clear b d p C H;go_enter func242,ntmps242
 go_wp2_with(first
  |(rw[<-m];clear m)
  |fail)
 refine z.o.mono ?_;rintro j o ⟨F,U,rfl,D,q⟩;clear z O;obtain⟨M,K⟩:=aD D q;have al:=q.size;clear D q;obtain⟨e,n,g⟩:=dF o (.cells #[.slice no l.length a,.slice (some ⟨F,0,none⟩) l.length l.length,.slice (some ⟨U,0,none⟩) l.length l.length] 217);have ag:e.heap.size=o.heap.size+1:=by rw[n];simp
 have c:e.heap[o.heap.size]?=some (.cells #[.slice no l.length a,.slice (some ⟨F,0,none⟩) l.length l.length,.slice (some ⟨U,0,none⟩) l.length l.length] 217):=by rw[n];exact aB o _
 have T:=ai 0 c;have V:=ai 1 c;have W:=ai 2 c;obtain⟨Y,aa⟩:=aD g c;have u:Hid (Below w.heap.size w e):=(J.o.trans (K.o.mono ad)).trans (g.mono ad);have x:Hid (jR e F U l):=M.o.below g;have s:=pV no a l.length F U e R r;unfold hO at s;have A:=ah s;clear g c s;unfold hO;go_wp2_with(first
  |(rw[<-n];clear n)
  |fail)
 refine A.o.mono ?_;rintro j X ⟨rfl,h⟩;have I:=ep (kz (gN (x.o.facts (l.length-1) ad) h));have f:=ah (u.o.trans (h.mono u.o.size));have E:=vV F ((l.length-1)*34+2) _ X (P.below f.o) (dn x.o.lF h.size) (kR hF r (i:=l.length-1) ad).1 I;have y:=ah E;clear A h T V W I E;go_wp2_with fail
 refine y.o.mono ?_;rintro j an ⟨⟨v,rfl,G⟩,B⟩;have L:=ah (f.o.trans (B.mono f.o.size));have S:=f.o.size;have N:=ah G;clear y G B
 go_wp2
 go_ret;exact⟨⟨_,rfl,Ew N.o S⟩,L.o⟩
theorem Nj(l:List aj)(no:Option Addr)(a:Nat)(p:Nat)(w:World)(aa:p<l.length)(b:bG l=0)(r:l.length<=60)(d:cO w no a l):
 Calls prog 240 #[.agg #[.slice no l.length a],.int .i64 (p:Nat)] w fun g w'=>g=.returned (.bool ((dJ (aQ l (l.length-1))).testBit p))/\Below w.heap.size w w':=by
 have hF:=(gi b).1;have O:=(gi b).2;have N:=d.2.2.1;unfold maxLen at N;have Z:=d.2.1;obtain⟨u,h,m⟩:=dF w (.cells #[.slice no l.length a] 51);have ab:u.heap.size=w.heap.size+1:=by rw[h];simp
 have A:u.heap[w.heap.size]?=some (.cells #[.slice no l.length a] 51):=by rw[h];exact aB w _
 have M:=ai 0 A;have D:=sV l no a u b r (d.below m) (qN b);obtain⟨W,Y,G,y⟩:=cr b d m D;clear b d m A D;go_enter func240,ntmps240
 go_wp2_with(first
  |(rw[<-h];clear h)
  |fail)
 refine y.o.mono ?_;rintro g j ⟨F,U,rfl,B,n⟩;clear y M;obtain⟨J,H⟩:=aD B n;have af:=n.size;clear B n;obtain⟨e,i,f⟩:=dF j (.cells #[.slice no l.length a,.slice (some ⟨F,0,none⟩) l.length l.length,.slice (some ⟨U,0,none⟩) l.length l.length] 217);have ae:e.heap.size=j.heap.size+1:=by rw[i];simp
 have c:e.heap[j.heap.size]?=some (.cells #[.slice no l.length a,.slice (some ⟨F,0,none⟩) l.length l.length,.slice (some ⟨U,0,none⟩) l.length l.length] 217):=by rw[i];exact aB j _
 have Q:=ai 0 c;have R:=ai 1 c;have S:=ai 2 c;obtain⟨V,X⟩:=aD f c;have v:Hid (Below w.heap.size w e):=(G.o.trans (H.o.mono ad)).trans (f.mono ad);have K:Hid (jR e F U l):=J.o.below f;have t:=pV no a l.length F U e O r;unfold hO at t;have z:=ah t;clear f c t;unfold hO;have d0:decide ((0:Int)<=p)=true:=bQ;have d1:decide ((p:Int)<l.length)=true:=bQ;have d2:decide (p<l.length)=true:=bQ;have d3:(p:Int)<l.length:=ad;have d4:(0:Int)<=p:=ad;go_wp2_with(first
  |(rw[<-i];clear i)
  |fail)
 refine z.o.mono ?_;rintro g T ⟨rfl,o⟩;have E:=(gN (K.o.facts (l.length-1) ad) o) 18 _ rfl;have C:=zh F ((l.length-1)*34+18) (dJ (aQ l (l.length-1))) p T ad (kR hF r ad).2 E;obtain⟨I,x⟩:=aD (v.o.trans (o.mono v.o.size)) C;clear z o Q R S E C;go_wp2_with fail
 refine x.o.mono ?_;rintro g ag ⟨rfl,P⟩;subst P;obtain⟨q,s⟩:=ar ((dJ (aQ l (l.length-1))).testBit p);rw[<-s];clear x;have L:=ah s;clear s
 go_wp2
 go_ret;exact⟨by rw[<-L.o];rfl,I.o⟩
theorem Ex(l:List aj)(no:Option Addr)(a:Nat)(p:Nat)(A:aj)(w:World)(af:Gl w)(O:l[p]?=some A)(M:A.op=2)(b:bG l=0)(i:l.length<=60)(e:cO w no a l):
 Calls prog 244 #[.agg #[.slice no l.length a],.int .i64 (p:Nat)] w fun h w'=>(∃v,h=.returned v/\cW w' w.heap.size v (aC (cK l p)))/\Below w.heap.size w w':=by
 have hF:=(gi b).1;have al:=(gi b).2;have ag:=e.2.2.1;unfold maxLen at ag;have a6:=e.2.1;obtain⟨B,j,r⟩:=dF w (.cells #[.slice no l.length a] 51);have a7:B.heap.size=w.heap.size+1:=by rw[j];simp
 have J:B.heap[w.heap.size]?=some (.cells #[.slice no l.length a] 51):=by rw[j];exact aB w _
 have ae:=ai 0 J;have P:=sV l no a B b i (e.below r) (qN b);obtain⟨a3,X,S,G⟩:=cr b e r P;clear b e r J P;go_enter func244,ntmps244
 go_wp2_with(first
  |(rw[<-j];clear j)
  |fail)
 refine G.o.mono ?_;rintro h n ⟨F,U,rfl,K,s⟩;clear G ae;obtain⟨Y,T⟩:=aD K s;have a9:=s.size;clear K s;obtain⟨c,m,g⟩:=dF n (.cells #[.slice no l.length a,.slice (some ⟨F,0,none⟩) l.length l.length,.slice (some ⟨U,0,none⟩) l.length l.length] 217);have a8:c.heap.size=n.heap.size+1:=by rw[m];simp
 have d:c.heap[n.heap.size]?=some (.cells #[.slice no l.length a,.slice (some ⟨F,0,none⟩) l.length l.length,.slice (some ⟨U,0,none⟩) l.length l.length] 217):=by rw[m];exact aB n _
 have ao:=ai 0 d;have aq:=ai 1 d;have av:=ai 2 d;obtain⟨a2,a4⟩:=aD g d;have q:Hid (Below w.heap.size w c):=(S.o.trans (T.o.mono ad)).trans (g.mono ad);have Z:Hid (jR c F U l):=Y.o.below g;have y:=pV no a l.length F U c al i;unfold hO at y;have a5:=ah y;clear g d y;unfold hO;have x:=Ec l no a F U p A c hF i (X.o.below q.o) Z.o O M;unfold hO at x;have E:=ah x;clear x;go_wp2_with(first
  |(rw[<-m];clear m)
  |fail)
 refine E.o.mono ?_;rintro h C ⟨rfl,H⟩;obtain⟨t,Q,a1,a0⟩:=nE C 222;obtain⟨ba,z⟩:=ar (C.alloc (.cells #[.int .u64 0,.int .u64 0,.int .u64 0,.int .u64 0,.int .u64 0,.int .u64 0,.int .u64 0,.int .u64 0,.int .u64 0,.int .u64 0,.int .u64 0,.int .u64 0,.int .u64 0,.int .u64 0,.int .u64 0,.int .u64 0] 222));rw[<-z]at t Q a1 a0;have o:=ah (q.o.trans (H.mono q.o.size));have V:=ah (o.o.trans (t.mono o.o.size));have aa:Hid (cK l p<18446744073709551616):=(sY hF i O M).1;clear E H ao aq av Q t;go_wp2_with(first
  |(rw[<-z];clear z)
  |(((with_reducible apply cQ (ty:=222));exact rfl;exact rfl;exact rfl;exact rfl;assumption;exact fK;exact fa _);intro R u)
  |fail)
 have f:Hid (Below w.heap.size w R):=u.below V.o o.o.size;have L:=vV C.heap.size 0 _ R (af.below f.o) (by rw[u.size];omega) aa.o (ep u.here);have D:=ah L;clear L;refine D.o.mono ?_;rintro h bb ⟨⟨v,rfl,N⟩,I⟩;have W:=ah (f.o.trans (I.mono f.o.size));have an:=f.o.size;have ab:=ah N;clear D N I
 go_wp2
 go_ret;exact⟨⟨_,rfl,Ew ab.o an⟩,W.o⟩
theorem Nm{w:World}{cap:Nat}{os:Array Value}(a:os.size=cap)(b:cap<=maxLen):((w.alloc (.cells os 9)).drew).ownsRow w.heap.size 9 1 (.slice (some ⟨w.heap.size,0,none⟩) 0 cap) 0 []:=
 ⟨rfl,.inr ⟨w.heap.size,cap,os,rfl,az _,aB w _,aZ _,b,by simp[a],ak⟩⟩
theorem Nn(n:Nat)(d:0<n)(p:n<=1048576)(w:World):
 Calls prog 311 #[.slice none 0 0,.int .i64 (n:Nat)] w fun e w'=>∃g cap,e=.returned (.slice (some ⟨g,0,none⟩) 0 cap)/\w'.ownsRow w.heap.size 9 1 (.slice (some ⟨g,0,none⟩) 0 cap) 0 []/\Below w.heap.size w w':=by
 obtain⟨m,h,i,j,l⟩:=cY qy;have d0:decide ((n:Int)<0)=false:=bK;have d1:decide ((0:Int)<n)=true:=bQ;have d2:decide (0<n)=true:=by rw[ft];exact d
 have c:=fun ty=>Lib.run_append_nil_zeros (P:=prog) w 48 3 ty 9 m (.string ⟨#[]⟩) .i64 .i64 mT cU h i n d (by rw[j];decide) ad (by rw[l];omega);obtain⟨C,a⟩:=ar (grownCap w n 0 9);have o:n<=C:=by rw[a];exact grownCap_ge w n 0 _
 have b:C<=maxLen:=by rw[a];exact grownCap_le_maxLen w n 0 _ bI
 rw[<-a]at c;have f:=b;unfold maxLen at f;clear a;go_enter func311,ntmps311
 go_wp2_with(first
  |(at_builtin;refine xX _ rfl _ _ _ _ rfl _ _ rfl rfl _ _ (c _) ?_)
  |go_in)
 go_ret;exact⟨_,_,rfl,Nm (by rw[Array.size_append,size_zeroCells,size_zeroCells];simp;omega) b,aG.drew⟩
theorem dR{w:World}{B a size n:Nat}{t:TypeId}{v:Value}{xs:List Value}(b:w.ownsRow B t size v n xs)(f:a<=B):w.ownsRow a t size v n xs:=by
 refine⟨b.1,?_⟩;rcases b.2 with d|⟨g,cap,c,j,h,i,e⟩
 ·exact .inl d
 ·exact .inr ⟨g,cap,c,j,aJ f h,i,e⟩
theorem No(a:World)(g n c:Nat)(ty:TypeId)(b:n<=c):(Builtin.append_ #[48,48] ty #[.slice (some ⟨g,0,none⟩) n c,.slice none 0 0]).run prog a=.ok (.slice (some ⟨g,0,none⟩) n c) a:=by have:¬c<n:=ad;simp[Builtin.append_,go_sem,Builtin.firstCells,Builtin.lenOf,storeCells,this]
theorem Np(d:List Bytes)(o:Option Addr)(c t a0:Nat)(w:World)(C:dZ w o c d)(r:0<d.length)(S:d.length<=1048576)
 (n:w.heap[t]?=some (.cells #[.slice o d.length c,.slice none 0 0] 48)):
 Calls prog 275 #[.slice (some ⟨t,0,none⟩) 2 2] w fun m w'=>(∃v,m=.returned v/\cn w' w.heap.size v d)/\Below w.heap.size w w':=by
 obtain⟨aa,P,X,Y,Z⟩:=cY qy;have x:=ai 0 n;have y:=ai 1 n;have A:=Nn d.length r S w;have d0:decide ((d.length:Int)<0)=false:=bK;obtain⟨I,l,H⟩:=bH A n C;clear A n C;go_enter func275,ntmps275
 go_wp2
 go_loopw [3,5,11] (fun ae _ h wr=>Hid (wr=w)/\∃k:Nat,h=.int .i64 k/\k<=2/\ae=.int .i64 ((if k=0 then 0 else d.length:Nat):Int)) (fun _ _ h _=>2-(intOf h).toNat)
 case atStart=>exact⟨rfl,0,rfl,aZ _,rfl⟩
 case round=>
 obtain⟨D,k,rfl,R,rfl⟩:=hrel;have D:=D.out;subst wr;rcases(show k=0∨k=1∨k=2 by omega)with rfl|rfl|rfl
 ·go_wp2_with fail
  go_roundw
  case rel=>exact⟨ah trivial,1,aV,ad,ak⟩
  case measure=>simp[intOf]
 ·go_wp2_with fail
  go_roundw
  case rel=>exact⟨ah trivial,2,aV,ad,ak⟩
  case measure=>simp[intOf]
 ·go_wp2_with fail
  refine I.o.mono ?_;rintro m a2 ⟨g,cap,rfl,e,q⟩;have p:=(q.block _ (aU l.o)).trans l.o;obtain⟨s,i⟩:=aD q e;clear x y p q e
  go_wp2
  go_loopw [6,8,27] (fun v _ h wr=>∃k:Nat,h=.int .i64 k/\k<=2/\Below w.heap.size w wr/\cn wr w.heap.size v (if k=0 then []else d)) (fun _ _ h _=>2-(intOf h).toNat)
  case atStart=>exact⟨0,rfl,aZ _,s.o,i.o⟩
  case round=>
  clear s i;obtain⟨k,rfl,R,f,e⟩:=hrel;have p:=(f.block _ (aU l.o)).trans l.o;have x:=ai 0 p;have y:=ai 1 p;obtain⟨af,G,rfl⟩:=mg e;rcases(show k=0∨k=1∨k=2 by omega)with rfl|rfl|rfl
  ·obtain⟨b,F,rfl,an,W⟩:=(H.o.below f).2.2.2 r
   rw[ay rfl]at e;have T:∀j u,(d.map encStr)[j]?=some u->wr.cell? ((⟨b,F,none⟩:Addr).add j)=some u:=fun j u Q=>by rw[BL];exact W j u Q
   have B:wr.ownsRow w.heap.size 9 1 (.slice af 0 G) 0 []:=e;go_wp2_with(first
    |(at_builtin;go_must (refine jh _ rfl _ _ 48 rfl w.heap.size 9 aa (.string ⟨#[]⟩) 1 16 mT P X Y Z rfl ap _ _ _ rfl B ⟨b,F,none⟩ d.length c (d.map encStr) rfl ak T (fun z E=>by simp at E;obtain⟨a,_,rfl⟩:=E;rfl) bI ad (by have:=f.size;omega) ?_);intro a1 a3 V O av)
    |go_in)
   go_roundw
   case rel=>exact⟨1,aV,ad,f.grown O f.size (fun k m=>(dC B k m).1),by rw[au ad];unfold cn;simpa using V⟩
   case measure=>simp[intOf]
  ·rw[au ad]at e
   rw[au ad];obtain⟨J,ag,L,al,aq,K,_⟩:=pB e r;injection L with M ao N
   subst M;subst N;have i:=ah e;clear e;have ab:=fun ty=>No wr J d.length G ty K;go_wp2_with(first
    |(at_builtin;refine xX _ rfl _ _ _ _ rfl _ _ rfl rfl _ _ (ab _) ?_)
    |go_in)
   go_roundw
   case rel=>exact⟨2,aV,ad,f,by rw[au ad];exact i.o⟩
   case measure=>simp[intOf]
  ·rw[au ad]at e
   go_wp2
   go_ret;exact⟨⟨_,rfl,e⟩,f⟩
def bm(a:List Bytes):List Bytes:=dd (a.mergeSort bP)
theorem Nq{w b:World}{g cap c q:Nat}{os:Array Obj}{a ts:List Bytes}(x:cn b w.heap.size (.slice (some ⟨g,0,none⟩) a.length cap) a)(e:Below w.heap.size w b)(s:w.heap.size<=g)
 (h:ts=a.mergeSort bP):
 (∃v,Ending.returned (.slice (some ⟨g,0,none⟩) (Lib.compact ts).length cap)=.returned v/\cn (Sort.putRow encStr (Sort.ahead (Sort.grow (Sort.putRow encStr (Sort.ahead b c) g 0 ts.toArray) os) q) g 0 (Lib.compact ts++List.replicate (ts.length-(Lib.compact ts).length) []).toArray) w.heap.size v (bm a))/\
   Below w.heap.size w (Sort.putRow encStr (Sort.ahead (Sort.grow (Sort.putRow encStr (Sort.ahead b c) g 0 ts.toArray) os) q) g 0 (Lib.compact ts++List.replicate (ts.length-(Lib.compact ts).length) []).toArray):=by
 have u:ts.length=a.length:=by rw[h];exact rG a
 have E:=AY ts;have p:bm a=Lib.compact ts:=by unfold bm;rw[uS,h]
 rcases x.2 with⟨i,_⟩|⟨C,A,B,z,d,r,l,m,o,D⟩
 ·cases i
 cases z
 have y:=ownsRow_sorted (n:=c) (os:=os) (ts:=ts) u d r l m o;have f:=Lib.ownsRow_putRow (q:=q) (k:=(Lib.compact ts).length) (ys:=Lib.compact ts++List.replicate (ts.length-(Lib.compact ts).length) []) y aR ad;rw[List.take_left]at f;exact⟨⟨_,rfl,by unfold cn;rw[p];exact f⟩,Lib.below_putRow (e.grown (grownBy_sorted _) e.size (fun j t=>by cases t;exact d)) s⟩
theorem Nr(a:List Bytes)(o:Option Addr)(c:Nat)(w:World)(L:dZ w o c a)(z:0<a.length)(P:a.length<=1024):
 Calls prog 217 #[.slice o a.length c,.slice none 0 0] w fun b w'=>(∃v,b=.returned v/\cn w' w.heap.size v (bm a))/\Below w.heap.size w w':=by
 obtain⟨E,n,f,r⟩:=cm w (.cells #[.slice o a.length c,.slice none 0 0] 48);have R:E.heap.size=w.heap.size+1:=by rw[n];simp
 have x:=Np a o c w.heap.size 2 E (L.below f) z ad r;obtain⟨p,F⟩:=aD x f;clear x r f;go_enter func217,ntmps217
 go_wp2_with(first
  |(rw[<-n];clear n)
  |fail)
 refine p.o.mono ?_;rintro b wr ⟨⟨v,rfl,B⟩,t⟩;have d:cn wr w.heap.size v a:=dR B ad;have u:Below w.heap.size w wr:=F.o.trans (t.mono ad);have A:v≠ .slice none 0 0:=by
  intro J;rcases d.2 with⟨_,z⟩|⟨g,h,N,C,_⟩
  ·omega
  ·rw[J]at C;cases C
 obtain⟨g,h,rfl,I,y,K,O,Q,i⟩:=Ii d A;have m:=slices_Sort_string g 0 h a wr i y ad;obtain⟨X,G⟩:=aD (And.intro d (And.intro i K)) u;clear d i A B t u p;obtain⟨ts,e⟩:=ar (a.mergeSort bP);have l:ts.length=a.length:=by rw[e];exact rG a
 rw[<-Ct,<-e]at m;have H:=ah e;clear e;go_wp2_with fail
 refine m.mono ?_;rintro b M ⟨rfl,D,os,rfl⟩;clear m;have s:Sort.Holds encStr (Sort.grow (Sort.putRow encStr (Sort.ahead wr D) g 0 ts.toArray) os) g 0 ts.toArray:=
  Sort.holds_grow encStr _ os g 0 _ (by simpa[Sort.putRow,Sort.mapBlock,Sort.ahead]using y) (Sort.holds_putRow encStr _ g 0 _ _ (Sort.holds_ahead encStr wr D g 0 _ X.out.2.1) (by simp[l]))
 have j:=slices_Compact_string g 0 h ts _ s ad ad;rw[l]at j;clear s;go_wp2_with fail
 refine j.mono ?_;rintro b M ⟨rfl,q,rfl⟩;clear j
 go_wp2
 go_ret;rw[<-l];exact Nq X.out.1 G.o I H.o
theorem Ns(a:World)(o:Option Addr)(c:Nat)(ty:TypeId):(Builtin.append_ #[48,48] ty #[.slice none 0 0,.slice o 0 c]).run prog a=.ok (.slice none 0 0) a:=by cases o<;>simp[Builtin.append_,go_sem,Builtin.firstCells,Builtin.lenOf,storeCells]
theorem Nt(w:World):Calls prog 311 #[.slice none 0 0,.int .i64 0] w fun a w'=>a=.returned (.slice none 0 0)/\w'=w:=by
 go_enter func311,ntmps311
 go_wp2
 go_ret;exact⟨rfl,rfl⟩
theorem Nu(o:Option Addr)(c e:Nat)(w:World)(d:w.heap[e]?=some (.cells #[.slice o 0 c,.slice none 0 0] 48)):
 Calls prog 275 #[.slice (some ⟨e,0,none⟩) 2 2] w fun f w'=>f=.returned (.slice none 0 0)/\w'=w:=by
 have n:=ai 0 d;have p:=ai 1 d;have g:=Nt w;have i:=ah g;have h:=fun o c ty=>Ns w o c ty;clear g d;go_enter func275,ntmps275
 go_wp2
 go_loopw [3,11] (fun l a wr=>Hid (wr=w)/\∃k:Nat,a=.int .i64 k/\k<=2/\l=.int .i64 0) (fun _ a _=>2-(intOf a).toNat)
 case atStart=>exact⟨rfl,0,rfl,aZ _,rfl⟩
 case round=>
 obtain⟨b,k,rfl,j,rfl⟩:=hrel;have b:=b.out;subst wr;rcases(show k=0∨k=1∨k=2 by omega)with rfl|rfl|rfl
 ·go_wp2_with fail
  go_roundw
  case rel=>exact⟨ah trivial,1,aV,ad,rfl⟩
  case measure=>simp[intOf]
 ·go_wp2_with fail
  go_roundw
  case rel=>exact⟨ah trivial,2,aV,ad,rfl⟩
  case measure=>simp[intOf]
 ·go_wp2_with fail
  refine i.o.mono ?_;rintro f m ⟨rfl,rfl⟩
  go_wp2
  go_loopw [6,27] (fun v a wr=>Hid (wr=m)/\∃k:Nat,a=.int .i64 k/\k<=2/\v=.slice none 0 0) (fun _ a _=>2-(intOf a).toNat)
  case atStart=>exact⟨rfl,0,rfl,aZ _,rfl⟩
  case round=>
  obtain⟨b,k,rfl,j,rfl⟩:=hrel;have b:=b.out;subst wr;rcases(show k=0∨k=1∨k=2 by omega)with rfl|rfl|rfl
  ·go_wp2_with(first
    |(at_builtin;refine xX _ rfl _ _ _ _ rfl _ _ rfl rfl _ _ (h _ _ _) ?_)
    |fail)
   go_roundw
   case rel=>exact⟨ah trivial,1,aV,ad,rfl⟩
   case measure=>simp[intOf]
  ·go_wp2_with(first
    |(at_builtin;refine xX _ rfl _ _ _ _ rfl _ _ rfl rfl _ _ (h _ _ _) ?_)
    |fail)
   go_roundw
   case rel=>exact⟨ah trivial,2,aV,ad,rfl⟩
   case measure=>simp[intOf]
  ·go_wp2_with fail
   go_ret;exact⟨rfl,rfl⟩
theorem Nv(o:Option Addr)(c:Nat)(w:World):
 Calls prog 217 #[.slice o 0 c,.slice none 0 0] w fun a w'=>(∃v,a=.returned v/\cn w' w.heap.size v (bm []))/\Below w.heap.size w w':=by
 obtain⟨b,m,g,h⟩:=cm w (.cells #[.slice o 0 c,.slice none 0 0] 48);have j:=Nu o c w.heap.size b h;have l:=Tc none 0 b;have i:=Td none 0 b;obtain⟨e,f,d,n⟩:=cr j l i g;clear j h g l i;go_enter func217,ntmps217
 go_wp2_with(first
  |(rw[<-m];clear m)
  |fail)
 refine e.o.mono ?_;rintro a wr ⟨rfl,rfl⟩;clear e;go_wp2_with fail
 refine f.o.mono ?_;rintro a q ⟨rfl,rfl⟩;clear f;go_wp2_with fail
 refine d.o.mono ?_;rintro a q ⟨rfl,rfl⟩;clear d
 go_wp2
 go_ret;have p:bm []=[]:=by simp[bm,dd]
 exact⟨⟨_,rfl,by rw[p];exact dc _ _ _ _⟩,n.o⟩
theorem Nw(a:List Bytes)(o:Option Addr)(c:Nat)(w:World)(f:dZ w o c a)(e:a.length<=1024):
 Calls prog 217 #[.slice o a.length c,.slice none 0 0] w fun d w'=>(∃v,d=.returned v/\cn w' w.heap.size v (bm a))/\Below w.heap.size w w':=by
 rcases uw a.length with b|b
 ·obtain rfl:=qi b
  exact Nv o c w
 ·exact Nr a o c w f b e
end Go.Proofs.YtnadadbndcdolaaGreatDoor
