import Derived.Test.YtbacloblanpghaaGreatDoorQbo
set_option linter.unusedVariables false
set_option linter.unusedSimpArgs false
set_option maxRecDepth 100000
set_option maxHeartbeats 0
namespace Go.Proofs.YtbacloblanpghaaGreatDoor
open Go.RowKit Tryz
theorem D3{b:Oper}{a:Act}{w:World}{c:Act->World->Prop}{Q:Exit->Act->World->Prop}(s:St)(y:Operand)(f:b.op=.buildSlice 265 1 #[(0,y)])(g:a.eval y=.agg (bk s).toArray)
 (e:c (a.put b.dst (.slice (some ⟨w.heap.size,0,none⟩) 1 1)) (w.alloc (.cells (bk s).toArray 264))):b.wp prog a w c Q:=by
 unfold Oper.wp execOp;simp only[f,zV,sW,zW];have d:(#[(0,y)]:Array (Nat×Operand)).map (fun p=>(p.1,a.eval p.2))=#[(0,.agg (bk s).toArray)]:=by simp[g]
 rw[d,uT];exact e
def vg(l:List ar)(f:Lit->Option Value):Prop:=∀(q:Nat) (v:Value),f (.int .i64 (q:Nat))=some v->v=.agg (setRow (dV (aI (db l q)))).toArray
def py(f:Lit->Option Value):Nat:=((List.range 64).filter fun p=>(f (.int .i64 (p:Nat))).isSome).length
structure Ot(l:List ar)(ws:List Bytes)(no:Option Addr)(nc RB FB SB OB G Fm:Nat)(so:Option Addr)(sc:Nat)(w:World):Prop where
 gl:Gl w
 nodes:di w no nc l
 rb:w.heap[RB]?=some (.cells #[.slice no l.length nc] 65)
 fb:w.heap[FB]?=some (.cells #[.map (some Fm)] 262)
 sb:w.heap[SB]?=some (.cells #[.slice so ws.length sc] 66)
 ob:w.heap[OB]?=some (.cells #[.slice (some ⟨G,0,none⟩) ws.length ws.length] 257)
 of_:∀k x,ws[k]?=some x->w.rangeAt G (k*16) (setRow (ofN l x l.length))
 map:∃es c,w.heap[Fm]?=some (.map es c)
structure eA(l:List ar)(ws:List Bytes)(no:Option Addr)(nc RB FB SB OB G Fm:Nat)(so:Option Addr)(sc:Nat)(WM w:World):Prop where
 st:Ot l ws no nc RB FB SB OB G Fm so sc WM
 grown:WM.grownBy w (some Fm)
 map:∃cnt f,bn w prog 3 Fm cnt f/\cnt<=py f/\vg l f
theorem og{w w':World}{b o:Nat}{cs:List Value}(c:w.rangeAt b o cs)(d:w'.heap[b]?=w.heap[b]?):w'.rangeAt b o cs:=fun j v e=>(dB (a:=⟨b,o+j,none⟩) d).trans (c j v e)
section
variable{WM w w':World} {l:List ar} {ws:List Bytes} {no:Option Addr} {nc RB FB SB OB G Fm:Nat} {so:Option Addr} {sc:Nat}
theorem eA.cell(f:eA l ws no nc RB FB SB OB G Fm so sc WM w){b o:Nat}{v:Value}(d:WM.cell? ⟨b,o,none⟩=some v):w.cell? ⟨b,o,none⟩=some v:=by
 obtain⟨i,c,g⟩:=f.st.map;have h:b≠Fm:=fun e=>by subst e;rw[yd g rfl]at d;cases d
 exact(dB (a:=⟨b,o,none⟩) (f.grown.block b (qQ WM _ d) (fun e=>h (by injection e)))).trans d
theorem eA.cells(f:eA l ws no nc RB FB SB OB G Fm so sc WM w){b a:Nat}{cs:Array Value}{e:Nat×Nat}(d:WM.heap[b]?=some (.cells cs a e)):w.heap[b]?=some (.cells cs a e):=by obtain⟨h,c,g⟩:=f.st.map;exact(f.grown.block b (aL d) (fun a=>by injection a with a;rw[a,g]at d;cases d)).trans d
theorem eA.nodes(c:eA l ws no nc RB FB SB OB G Fm so sc WM w):di w no nc l:=by have a:=c.st.nodes;refine⟨a.1,a.2.1,a.2.2.1,fun h=> ?_⟩;obtain⟨b,i,d,g,e⟩:=a.2.2.2 h;exact⟨b,i,d,eR g c.grown.size,fun j u f=>c.cell (e j u f)⟩
theorem eA.gl(a:eA l ws no nc RB FB SB OB G Fm so sc WM w):Gl w:=
 ⟨eR a.st.gl.spans0 a.grown.size,fun i b=>a.cell (a.st.gl.spans i b),eR a.st.gl.tab0 a.grown.size,fun j c=>a.cell (a.st.gl.tab j c)⟩
theorem eA.of_(a:eA l ws no nc RB FB SB OB G Fm so sc WM w)(k:Nat)(x:Bytes)(c:ws[k]?=some x):w.rangeAt G (k*16) (setRow (ofN l x l.length)):=fun j v b=>a.cell (a.st.of_ k x c j v b)
theorem eA.lt(a:eA l ws no nc RB FB SB OB G Fm so sc WM w):Fm<WM.heap.size:=by obtain⟨d,c,b⟩:=a.st.map;exact aL b
theorem eA.below(a:eA l ws no nc RB FB SB OB G Fm so sc WM w)(b:Below WM.heap.size w w'):eA l ws no nc RB FB SB OB G Fm so sc WM w':=by obtain⟨d,f,e,g,h⟩:=a.map;exact⟨a.st,⟨b.os.trans a.grown.os,b.tape.trans a.grown.tape,b.output.trans a.grown.output,aR a.grown.size b.size,fun k c i=>(b.block k c).trans (a.grown.block k c i)⟩,⟨d,f,e.of_block (b.block _ a.lt),g,h⟩⟩
theorem eA.after(a:eA l ws no nc RB FB SB OB G Fm so sc WM w)(b:Below w.heap.size w w'):eA l ws no nc RB FB SB OB G Fm so sc WM w':=a.below (b.mono a.grown.size)
end
def oh(w:World)(s:St):World:=(w.alloc (.cells (bk s).toArray 264)).alloc (.cells #[.int .u64 0,.int .u64 0,.int .u64 0,.int .u64 0,.int .u64 0,.int .u64 0,.int .u64 0,.int .u64 0,.int .u64 0,.int .u64 0,.int .u64 0,.int .u64 0,.int .u64 0,.int .u64 0,.int .u64 0,.int .u64 0] 258)
theorem Ou(w:World)(s:St):Below w.heap.size w (oh w s)/\(oh w s).heap.size=w.heap.size+2/\(oh w s).heap[w.heap.size]?=some (.cells (bk s).toArray 264)/\(oh w s).rangeAt (w.heap.size+1) 0 (setRow 0)/\(oh w s).there (w.heap.size+1) 0 16:=by obtain⟨a,b,d,e⟩:=qo (w.alloc (.cells (bk s).toArray 264));rw[bI]at b d a;have c:=e;rw[bI (w:=w)]at c;unfold oh;refine⟨az.trans (a.mono ad),c,(a.block _ ad).trans (aC w _),b,d⟩
theorem qy(w:World):(zeroValue 258).run prog w=.ok (.agg (setRow 0).toArray) w:=ay
theorem yJ{w:World}{b:Nat}{s:St}(a:w.heap[b]?=some (.cells (bk s).toArray 264)):w.rangeAt b 1 (setRow s.2):=fun j v d=>by have c:=nQ a (j+1) v (by unfold bk;rw[gq];exact d);rw[show 1+j=0+(j+1) by omega];exact c
structure fa(w:World)(l:List ar)(ws:List Bytes)(no:Option Addr)(nc RB FB SB OB G Fm:Nat)(so:Option Addr)(sc:Nat)(WM:World)(c:Nat)(wr:World):Prop where
 at_:eA l ws no nc RB FB SB OB G Fm so sc WM wr
 come:wr.rangeAt (w.heap.size+1) 0 (setRow c)
 comeT:wr.there (w.heap.size+1) 0 16
 grown:w.grownBy wr (some Fm)
 size:w.heap.size+2<=wr.heap.size
 lo:WM.heap.size<=w.heap.size
section
variable{WM w wr wq:World} {l:List ar} {ws:List Bytes} {no:Option Addr} {nc RB FB SB OB G Fm:Nat} {so:Option Addr} {sc c:Nat}
theorem fa.below(a:fa w l ws no nc RB FB SB OB G Fm so sc WM c wr)(b:Below wr.heap.size wr wq):fa w l ws no nc RB FB SB OB G Fm so sc WM c wq:=
 ⟨a.at_.after b,gA a.come b,gn a.comeT b,a.grown.trans (bP b _),aR a.size b.size,a.lo⟩
theorem fa.low(b:fa w l ws no nc RB FB SB OB G Fm so sc WM c wr)(d:Below (w.heap.size+2) wr wq):fa w l ws no nc RB FB SB OB G Fm so sc WM c wq:=by have i:=b.lo;have e:=d.block (w.heap.size+1) ad;refine⟨b.at_.below (d.mono ad),og b.come e,fun j h=> ?_,⟨d.os.trans b.grown.os,d.tape.trans b.grown.tape,d.output.trans b.grown.output,aR b.grown.size d.size,fun k f g=>(d.block k ad).trans (b.grown.block k f g)⟩,aR b.size d.size,i⟩;obtain⟨f,g⟩:=b.comeT j h;exact⟨by rw[dB (a:=⟨w.heap.size+1,0+j,none⟩) e];exact f,by rw[m8 (a:=⟨w.heap.size+1,0+j,none⟩) e];exact g⟩
theorem fa.mapped(d:fa w l ws no nc RB FB SB OB G Fm so sc WM c wr)(e:wr.grownBy wq (some Fm))(o:∃g f,bn wq prog 3 Fm g f/\g<=py f/\vg l f):fa w l ws no nc RB FB SB OB G Fm so sc WM c wq:=by have q:=d.at_.lt;have p:=d.size;have n:=d.lo;refine⟨⟨d.at_.st,d.at_.grown.trans e,o⟩,og d.come (e.block _ ad (fun b=>by injection b with b;omega)),fun j m=> ?_,d.grown.trans e,aR p e.size,n⟩;obtain⟨h,i⟩:=d.comeT j m;have b:=e.block (w.heap.size+1) ad (fun b=>by injection b with b;omega);exact⟨by rw[dB (a:=⟨w.heap.size+1,0+j,none⟩) b];exact h,by rw[m8 (a:=⟨w.heap.size+1,0+j,none⟩) b];exact i⟩
theorem D4(f:Lit->Option Value):py f<=64:=by unfold py;exact aR (me _ _) ak
theorem D5{f:Lit->Option Value}{p:Nat}(d:p<64)(c:f (.int .i64 (p:Nat))=none)(v:Value):py (eO f (.int .i64 (p:Nat)) v)=py f+1:=by
 unfold py;have:=xR (fun q=>(f (.int .i64 (q:Nat))).isSome) (fun q=>(eO f (.int .i64 (p:Nat)) v (.int .i64 (q:Nat))).isSome) p (by simp[c]) (fun q=>by
  by_cases a:q=p
  ·subst a
   rw[jz];simp
  ·have:(Lit.int .i64 (q:Nat))≠ .int .i64 (p:Nat):=fun b=>a (by injection b with _ b;omega)
   rw[jX _ _ this];simp[a]) 64
 rw[au d]at this;exact this.symm
theorem D6{l:List ar}{f:Lit->Option Value}(d:vg l f)(p:Nat):vg l (eO f (.int .i64 (p:Nat)) (.agg (setRow (dV (aI (db l p)))).toArray)):=fun q v a=>by
 by_cases b:q=p
 ·subst b
  rw[jz]at a;injection a with a
  exact a.symm
 ·have:(Lit.int .i64 (q:Nat))≠ .int .i64 (p:Nat):=fun c=>b (by injection c with _ c;omega)
  rw[jX _ _ this]at a;exact d q v a
theorem fa.wrote(a:fa w l ws no nc RB FB SB OB G Fm so sc WM c wr){q:Nat}(d:eX wr wq (w.heap.size+1) 0 (setRow q)):fa w l ws no nc RB FB SB OB G Fm so sc WM q wq:=by have h:=a.size;have f:=a.lo;have b:Below w.heap.size wr wq:=d.below ((aA wr.heap.size wr).mono ad) ad;exact⟨a.at_.below (b.mono f),d.here,d.there a.comeT,⟨b.os.trans a.grown.os,b.tape.trans a.grown.tape,b.output.trans a.grown.output,aR a.grown.size b.size,fun k e g=>(b.block k e).trans (a.grown.block k e g)⟩,by have:=b.size;omega,f⟩
end
def ol(w:World)(l:List ar)(ws:List Bytes)(no:Option Addr)(nc RB FB SB OB G Fm:Nat)(so:Option Addr)(sc:Nat)(WM:World)(s:St)(c:Option Addr)(b:Nat)(a:Value)(wr:World):Prop:=
 ∃j,a=.int .i64 (j:Nat)/\j<=(aI s.2).length/\fa w l ws no nc RB FB SB OB G Fm so sc WM (gp l s.1 ((aI s.2).take j)) wr/\cO wr (w.heap.size+2) (.slice c (aI s.2).length b) (aI s.2)
def qz(w:World)(l:List ar)(ws:List Bytes)(no:Option Addr)(nc RB FB SB OB G Fm:Nat)(so:Option Addr)(sc:Nat)(WM:World)(s:St)(b a:Value)(wr:World):Prop:=
 ∃k,b=.int .i64 (k:Nat)/\k<=ws.length/\fa w l ws no nc RB FB SB OB G Fm so sc WM (gp l s.1 (aI s.2)) wr/\wr.ownsRow (w.heap.size+2) 264 17 a k (flatS ((cV l ws s).take k))
theorem Ov(l:List ar)(ws:List Bytes)(no:Option Addr)(nc RB FB SB OB G Fm:Nat)(so:Option Addr)(sc:Nat)(gb:cw l=0)(g5:l.length<=60)(h8:ws.length<=64)(s:St)(hG:uY l s)(WM w:World)(z:eA l ws no nc RB FB SB OB G Fm so sc WM w):
 Calls prog 182 #[.agg (bk s).toArray,.pointer (some ⟨RB,0,none⟩),.pointer (some ⟨FB,0,none⟩),.pointer (some ⟨SB,0,none⟩),.pointer (some ⟨OB,0,none⟩)] w (uU Fm (eA l ws no nc RB FB SB OB G Fm so sc WM) (cV l ws) s w):=by
 obtain⟨w1,cs⟩:=aj (oh w s);obtain⟨e8,h2,e9,ao,eN⟩:=Ou w s;rw[<-cs]at e8 h2 e9 ao eN;have J:=z.after e8;have f1:w1.cell? ⟨w.heap.size,0,none⟩=some (.bool s.1):=ai 0 e9;have hC:=ai 0 (J.cells J.st.rb);unfold oh at cs;obtain⟨hx,cp,cq,e7,e5,e6⟩:=gR z.grown.size J e9 ao e8 hG;clear J e9 ao e8 hG z;obtain⟨hP,m⟩:=s;simp only at f1;cases hP with
 |false=>
  have bd:=yJ cq.out;have Q:Hid (fa w l ws no nc RB FB SB OB G Fm so sc WM (gp l false []) w1):=ah ⟨cp.o,e7.out,eN,bP e5.out _,ad,hx.o⟩;clear eN hC;go_enter func182,ntmps182
  go_wp2_with(first
   |(rw[<-cs];clear cs)
   |((with_reducible apply dL (ty:=258));exact rfl;exact rfl;exact rfl;assumption;exact eI;exact rfl;exact cK)
   |fail)
  obtain⟨e1,hh⟩:=aj (w1);have be:Hid (e1.heap[w.heap.size]?=some (.cells (bk (false,m)).toArray 264)):=by rw[hh];exact cq
  rw[<-hh]at Q⊢;clear hh f1;have bm:=Q.o;have ce:=e6.o.1;unfold iS at ce;have ec:=Db m e1 bm.at_.gl ce;have dr:=ah ec;have hU:=bm.lo;clear ec ce bm;refine dr.o.mono ?_;rintro o hv ⟨⟨v,rfl,y⟩,bu⟩;clear dr;obtain⟨eD,I,rfl⟩:=cC y;have hR:(aI m).length<=64:=by unfold aI;exact aR (me _ _) ak
  have d8:Hid (ol w l ws no nc RB FB SB OB G Fm so sc WM (false,m) eD I (.int .i64 0) hv):=ah ⟨0,rfl,aK _,Q.o.below bu,fY y (by have:=Q.o.size;omega)⟩;have e3:=(bu.block _ (aL be.out)).trans be.out;have hM:=ah e3;clear y bu e3 bd Q be cq e7 e5 cp
  go_wp2
  go_loopw [23] (fun M wr=>ol w l ws no nc RB FB SB OB G Fm so sc WM (false,m) eD I M wr) (fun M _=>(aI m).length-(intOf M).toNat)
  case atStart=>exact d8.out
  case round=>
  clear d8;obtain⟨j,rfl,g3,d,a5⟩:=hrel;by_cases b9:j<(aI m).length
  ·obtain⟨p,ba⟩:∃p,(aI m)[j]?=some p:=⟨_,aF b9⟩
   have ci:=qw (aU ba);obtain⟨hj,el,er⟩:=e6.o.2 p ci.2;obtain⟨O,P,rfl,hW,e4⟩:=jJ.at (pp a5) ba;obtain⟨bZ,f,ch,d3,d5⟩:=d.at_.map;have cc:keyOf prog 3 (.int .i64 (p:Nat))=some (.int .i64 (p:Nat)):=oz cX (kt ad);have N:=ch.look_ok (ge cX) pP (qy wr) cD cc;have d0:=ai 0 (d.at_.cells d.at_.st.fb);obtain⟨e2,an⟩:=aj (wr.alloc (.cells #[.int .u64 0,.int .u64 0,.int .u64 0,.int .u64 0,.int .u64 0,.int .u64 0,.int .u64 0,.int .u64 0,.int .u64 0,.int .u64 0,.int .u64 0,.int .u64 0,.int .u64 0,.int .u64 0,.int .u64 0,.int .u64 0] 258));obtain⟨bF,_,co,cl⟩:=qo wr;rw[<-an]at bF co cl;have hY:(0:Int)<=j:=ad;have hZ:(j:Int)<((aI m).length:Int):=ad;have b8:=fun a=>uM (gp l false ((aI m).take j)) (dV (aI (db l p))) a (ve _ _ _) (vd _);obtain⟨e,F⟩:=aj (gp l false ((aI m).take j));obtain⟨Y,b2⟩:=aj (dV (aI (db l p)));rw[<-F,<-b2]at b8;rw[<-F]at d;obtain⟨c7,aq,W,a1,ds,fz,fu,fy,T,av⟩:=kB b8 F b2 b9 ba ci el er d a5;obtain⟨a2,c6,c8,bl,c5,hL⟩:=gR ch d3 d5 cc bF cl;clear b9 ba ci el er d a5 ch d3 d5 cc bF cl g3 b8 F b2;cases L:f (.int .i64 (p:Nat))with
   |some v=>
    have y:=c8.o p v L;rw[<-W.o]at y;subst y;rw[L]at N;simp only[pL,FN]at N;have bf:Hid (∀a,eX e2 a wr.heap.size 0 (setRow Y)->fa w l ws no nc RB FB SB OB G Fm so sc WM e a/\cO a (w.heap.size+2) (.slice (some ⟨O,P,none⟩) (aI m).length I) (aI m)/\(Instr.lookup 262 (.map (some Fm)) (.int .i64 (p:Nat)) false).run prog a=.ok (.agg (setRow Y).toArray) a):=fun a b5=>by have D:=b5.below c5.o (aB _);have hb:=a2.o.of_block (D.block _ a2.o.lt);have J:=hb.look (ge cX) pP (qy a) cD bl.o;rw[L]at J;exact⟨T.o.below D,aY av.o (fun g h=>D.block g (aV av.o h).2),J⟩
    clear L;go_wp2_with(first
     |(rw[<-an];clear an)
     |((with_reducible apply dL (ty:=258));exact rfl;exact rfl;exact rfl;assumption;exact eI;exact rfl;exact cK)
     |(((with_reducible apply cT (ty:=258));exact rfl;exact rfl;exact rfl;exact rfl;assumption;exact cK;exact eM _);intro a ag;obtain⟨t,X,g8⟩:=bf.o a ag;have ho:=t.come;have f2:=ai 0 (t.at_.cells t.at_.st.fb);have bi:=ah t;have R:=ah X;clear t X ag co N e4 d0)
     |fail)
    refine(c7.o a).mono ?_;rintro o E ⟨rfl,C⟩;clear ho f2 g8;have bo:=bi.o.below C;have ht:=bo.comeT;obtain⟨a0,cx⟩:=aE bo (aY R.o (fun g h=>C.block g (aV R.o h).2));clear bo C;go_wp2_with(first
     |(((with_reducible apply cT (ty:=258));exact rfl;exact rfl;exact rfl;exact rfl;assumption;exact cK;exact eM _);intro A b6;have V:=ah (a0.o.wrote b6);have cG:=ah (aY cx.o (fun g h=>b6.block g (fun o=>by have:=(aV cx.o h).1;omega)));clear b6 ht)
     |fail)
    have ab:Hid (ol w l ws no nc RB FB SB OB G Fm so sc WM (false,m) (some ⟨O,P,none⟩) I (.int .i64 ((j:Int)+1)) A):=ah ⟨j+1,rfl,by have:=a1.o;simp only at this⊢;omega,by rw[bG,ds.o,dR,vf,<-W.o,<-aq.o];exact V.o,cG.o⟩;clear V cG;go_roundw
    case rel=>exact ab.out
    case measure=>have:=a1.o;simp[intOf];omega
   |none=>
    rw[L]at N;simp only[vK,vL]at N;have fs:=ah L;have g7:(aI (db l p)).length<=1048576:=by unfold aI;exact aR (me _ _) ak
    have bf:Hid (∀a,eX e2 a wr.heap.size 0 (setRow 0)->fa w l ws no nc RB FB SB OB G Fm so sc WM e a/\cO a (w.heap.size+2) (.slice (some ⟨O,P,none⟩) (aI m).length I) (aI m)/\bn a prog 3 Fm bZ f):=fun a b5=>by have D:=b5.below c5.o (aB _);exact⟨T.o.below D,aY av.o (fun g h=>D.block g (aV av.o h).2),a2.o.of_block (D.block _ a2.o.lt)⟩
    have K:∀w',eA l ws no nc RB FB SB OB G Fm so sc WM w'->w'.cell? ⟨FB,0,none⟩=some (.map (some Fm))/\w'.cell? ⟨RB,0,none⟩=some (.slice no l.length nc):=fun w' z=>⟨ai 0 (z.cells z.st.fb),ai 0 (z.cells z.st.rb)⟩;have B:=ah K;have fc:Hid (∀A,fa w l ws no nc RB FB SB OB G Fm so sc WM e A->cO A (w.heap.size+2) (.slice (some ⟨O,P,none⟩) (aI m).length I) (aI m)->bn A prog 3 Fm bZ f->∃r,(Instr.mapUpdate 262 (.map (some Fm)) (.int .i64 (p:Nat)) (.agg (setRow Y).toArray)).run prog A=.ok () r/\fa w l ws no nc RB FB SB OB G Fm so sc WM e r/\cO r (w.heap.size+2) (.slice (some ⟨O,P,none⟩) (aI m).length I) (aI m)/\(Instr.lookup 262 (.map (some Fm)) (.int .i64 (p:Nat)) false).run prog r=.ok (.agg (setRow Y).toArray) r):=fun A gf b1 ed=>by obtain⟨r,hc,eg,d4,_⟩:=ed.set (ge cX) pP (by have:=c6.o;have:=D4 f;unfold maxLen;omega) (val:=.agg (setRow Y).toArray) cD bl.o;have J:=eg.look (ge cX) pP (qy r) cD bl.o;rw[jz]at J;have d6:=D6 c8.o p;rw[<-W.o]at d6;have gg:=gf.mapped d4 ⟨bZ+1,_,eg,by rw[D5 fz.o.1 fs.o];have:=c6.o;omega,d6⟩;obtain⟨hQ,c,gd⟩:=ed.block;exact⟨r,hc,gg,aY b1 (fun g h=>d4.block g (aV b1 h).2 (fun o=>by injection o with o;exact mQ b1 gd (by rw[h,o]))),J⟩
    clear L K;go_wp2_with(first
     |(rw[<-an];clear an)
     |((with_reducible apply dL (ty:=258));exact rfl;exact rfl;exact rfl;assumption;exact eI;exact rfl;exact cK)
     |(((with_reducible apply cT (ty:=258));exact rfl;exact rfl;exact rfl;exact rfl;assumption;exact cK;exact eM _);intro a ag;obtain⟨t,X,eE⟩:=bf.o a ag;have bi:=ah t;have R:=ah X;have c2:=ah eE;have d2:=B.o _ (t.at_.after (aA _ a).drew);have a6:=B.o _ t.at_;have en:=C8 l no nc p hj a.drew ((t.at_.after (aA _ a).drew).gl) fu.o fy.o gb g5 ((t.at_.after (aA _ a).drew).nodes);have fx:=ah en;clear t X eE ag co N e4 d0 en)
     |fail)
    obtain⟨hq,hr⟩:=a6;go_region_held3(fun w'=>w'.cell? ⟨FB,0,none⟩=some (.map (some Fm))/\w'.cell? ⟨RB,0,none⟩=some (.slice no l.length nc))
     (first|exact b4|exact af|exact ae|exact d2)
     (first
       |(go_at_call 185;refine fx.o.mono ?_;rintro o E ⟨⟨v,rfl,y⟩,C⟩;obtain⟨e0,eZ,rfl⟩:=cC y;have bw:Below a.heap.size a E:=(aA _ a).drew.trans C;have a0:=ah (bi.o.below bw);have ae:=B.o _ a0.o.at_;have fr:=ah (rP (aI (db l p)) e0 eZ E (pp y) g7 (fun q ez=>(qw ez).1));have cu:=ah bw;clear y C bw)
       |(go_at_call 180;refine fr.o.mono ?_;rintro o A ⟨rfl,bA⟩;rw[<-W.o];have V:=ah (a0.o.below bA);have af:=B.o _ V.o.at_;have bz:Below a.heap.size a A:=cu.out.trans (bA.mono cu.out.size);obtain⟨r,hd,bq,dz,g9⟩:=fc.o A V.o (aY R.o (fun g h=>bz.block g (aV R.o h).2)) (c2.o.of_block (bz.block _ c2.o.lt));have b4:=B.o _ bq.at_;have c3:=ah bq;have cN:=ah dz;clear bA bz bq dz))
    have hp:=c3.o.come;have f4:=b4.1;clear d2 ae af b4 hq hr hd;go_wp2_with(first
     |((with_reducible apply dL (ty:=258));exact rfl;exact rfl;exact rfl;assumption;exact eI;exact rfl;exact cK)
     |fail)
    refine(c7.o r).mono ?_;rintro o h4 ⟨rfl,bE⟩;clear hp f4 g9;have bt:=c3.o.below bE;have hu:=bt.comeT;obtain⟨fg,c0⟩:=aE bt (aY cN.o (fun g h=>bE.block g (aV cN.o h).2));clear bt bE;go_wp2_with(first
     |(((with_reducible apply cT (ty:=258));exact rfl;exact rfl;exact rfl;exact rfl;assumption;exact cK;exact eM _);intro hw b7;have c4:=ah (fg.o.wrote b7);have c1:=ah (aY c0.o (fun g h=>b7.block g (fun o=>by have:=(aV c0.o h).1;omega)));clear b7 hu)
     |fail)
    have ab:Hid (ol w l ws no nc RB FB SB OB G Fm so sc WM (false,m) (some ⟨O,P,none⟩) I (.int .i64 ((j:Int)+1)) hw):=ah ⟨j+1,rfl,by have:=a1.o;simp only at this⊢;omega,by rw[bG,ds.o,dR,vf,<-W.o,<-aq.o];exact c4.o,c1.o⟩;clear c4 c1;go_roundw
    case rel=>exact ab.out
    case measure=>have:=a1.o;simp[intOf];omega
  ·have ea:(aI m).take j=aI m:=bx ad
   simp only at d;rw[ea]at d;have hs:=ai 0 (d.at_.cells d.at_.st.sb);have eB:Hid (qz w l ws no nc RB FB SB OB G Fm so sc WM (false,m) (.int .i64 0) (.slice none 0 0) wr):=ah ⟨0,rfl,aK _,d,cR _ _ _ _⟩;have hS:(aI m).length<=j:=ad;clear d a5 ea
   go_wp2
   go_loopw [49,12] (fun M f7 wq=>qz w l ws no nc RB FB SB OB G Fm so sc WM (false,m) M f7 wq) (fun M _ _=>ws.length-(intOf M).toNat)
   case atStart=>exact eB.out
   case round=>
   clear eB hs;rename_i h6 _;obtain⟨k,rfl,hT,d,H⟩:=hrel;by_cases eb:k<ws.length
   ·obtain⟨x,bc⟩:∃x,ws[k]?=some x:=⟨_,aF eb⟩
    have a9:((cV l ws (false,m)).take k).length=k:=by unfold cV;rw[dx,cd];omega
    obtain⟨go,gc,rfl⟩:=cC H;have a7:=fun a=>yc (gp l false (aI m)) (ofN l x l.length) a (ve _ _ _) (px l x _ ad);have al:(cV l ws (false,m)).take (k+1)=(cV l ws (false,m)).take k++[(false,gp l false (aI m)&&&ofN l x l.length)]:=by rw[bG];unfold cV;rw[cb,bc];rfl
    have ao:=d.come;have bd:=d.at_.of_ k x bc;have hk:=ai 0 (d.at_.cells d.at_.st.ob);obtain⟨e,F⟩:=aj (gp l false (aI m));obtain⟨n,b3⟩:=aj (ofN l x l.length);simp only at d ao;rw[<-F]at a7 al d ao;rw[<-b3]at a7 al bd;obtain⟨fN,d1⟩:=aj ((cV l ws (false,m)).take k);rw[<-d1]at al a9 H;obtain⟨fo,fv,T,bg,fG,aq,fl,c9⟩:=oZ a7 al d H bc F b3 eb;have h0:(0:Int)<=k:=ad;have h1:(k:Int)<ws.length:=ad;obtain⟨hi,g2,he,hf,hg⟩:=cL yE;have K:∀w',Below (w.heap.size+2) wr w'->w'.rangeAt (w.heap.size+1) 0 (setRow e)/\w'.cell? ⟨OB,0,none⟩=some (.slice (some ⟨G,0,none⟩) ws.length ws.length)/\w'.rangeAt G (k*16) (setRow n):=fun w' D=>by have a4:=T.o.low D;refine⟨a4.come,ai 0 (a4.at_.cells a4.at_.st.ob),?_⟩;rw[fl.o];exact a4.at_.of_ k x fG.o
    have bb:=d.size;obtain⟨hI,B⟩:=aE H K;have a6:=K _ (aA _ wr).drew;obtain⟨hl,hm,hn⟩:=K _ (aA _ wr);have hX:=eI;have g0:(prog.info? 258).map (·.size)=some (setRow e).length:=cK;have g1:(prog.info? 258).map (·.size)=some (setRow n).length:=cK;have gs:∀w',(Instr.build 264 #[(1,.agg (setRow (e&&&n)).toArray)]).run prog w'=.ok (.agg (bk (false,e&&&n)).toArray) w':=fun _=>ay;have gv:=fun w'=>uT (false,e&&&n) w';clear K a7 al d H bc F b3 d1 ao bd hk a9;go_wp2_with fail
    refine wp_region_held_drew (S:=(fun w'=>w'.rangeAt (w.heap.size+1) 0 (setRow e)/\w'.cell? ⟨OB,0,none⟩=some (.slice (some ⟨G,0,none⟩) ws.length ws.length)/\w'.rangeAt G (k*16) (setRow n))) ay a6 (fun u=> ?_);refine mS (i:=0) rfl u ?_;simp only[Act.put,bp,bs,bj];refine sr (i:=1) (v:=.agg (setRow e).toArray) rfl (qV (by rfl) _ _ rfl (w.heap.size+1) (0) rfl (setRow e) _ (fun _ z=>z.1) eI rfl cK) u ?_;simp only[Act.put,bp,bs,bj];refine mS (i:=2) rfl u ?_;simp only[Act.put,bp,bs,bj];refine mS (i:=3) rfl u ?_;simp only[Act.put,bp,bs,bj];refine mS (i:=4) rfl u ?_;simp only[Act.put,bp,bs,bj];refine sr (i:=5) (v:=.agg (setRow n).toArray) rfl (qV (by rfl) _ _ rfl (G) (k*16) rfl (setRow n) _ (fun _ z=>z.2.2) eI rfl cK) u ?_;simp only[Act.put,bp,bs,bj];refine td (rs:=[6]) ay ak ?_;refine te rfl (fun du aa=> ?_) tg;go_simp;refine(fo.o _).mono ?_;rintro o E ⟨rfl,C⟩;have a3:Below wr.heap.size wr E:=(aA _ wr).drew.trans C;have Z:Below wr.heap.size wr (E.alloc (.cells (bk (false,e&&&n)).toArray 264)):=a3.alloc a3.size _;have ae:=B.o _ (a3.mono bb);have af:=B.o _ (Z.mono bb);have es:=aY bg.o (fun g h=>Z.block g (aV bg.o h).2);have em:=dt E (bk (false,e&&&n)) 264 _ rfl;have b0:w.heap.size+2<=(E.alloc (.cells (bk (false,e&&&n)).toArray 264)).heap.size:=aR bb Z.size;have fb:=ah Z;clear C a3 Z;refine aa.out _ _ ae (fun u=> ?_);try simp only[Act.put,bp,bs,bj]
    refine sr (i:=7) (v:=.agg (bk (false,e&&&n)).toArray) rfl (Or.inl ⟨by rfl,fun h7 _=>ay⟩) u ?_;simp only[Act.put,bp,bs,bj];refine td (rs:=[8]) ay ak ?_;refine te rfl (fun du aa=> ?_) tg;rw[au (by rfl)];refine D3 (false,e&&&n) _ rfl rfl ?_;simp only[Act.put,bp,bs,bj];refine aa.out _ _ af (fun u=> ?_);try simp only[Act.put,bp,bs,bj]
    refine td (rs:=[9]) ay ak ?_;refine te rfl (fun du aa=> ?_) tg;refine pO _ (by rfl) _ _ _ (by rfl) (w.heap.size+2) 264 hi _ 17 136 FP g2 he hf hg rfl ad (.slice go k gc) k (flatS fN) (by rfl) es ⟨E.heap.size,0,none⟩ 1 1 (bk (false,e&&&n)) (by rfl) (by rfl) em (pw _) ad bN ad b0 _ rfl ?_;intro f5 f6 r ex d7 gr ha;have bB:Below (w.heap.size+2) wr r:=od b0 (fb.out.mono bb) d7 (fun b o=>(aV bg.o o).1);refine aa.out _ _ (B.o _ bB) (fun u=> ?_);try simp only[Act.put,bp,bs,bj]
    refine mS (i:=10) rfl u ?_;simp only[Act.put,bp,bs,bj];refine wpAnyH_done ay ?_ _;have ab:Hid (qz w l ws no nc RB FB SB OB G Fm so sc WM (false,m) (.int .i64 ((k:Int)+1)) (.slice (some ⟨f5,0,none⟩) (k+1) f6) r):=ah ⟨k+1,rfl,by have:=c9.o;omega,by simp only;rw[<-aq.o];exact T.o.low bB,by rw[fv.o,yz];simpa[flatS]using ex⟩;clear ex d7 gr ha bB es em b0 ae af u a6 hl hm hn g0 g1 gs gv
    go_wp2
    go_roundw
    case rel=>exact ab.out
    case measure=>have:=c9.o;simp[intOf];omega
   ·have g4:k=ws.length:=ad
    subst g4;have gG:Hid (uU Fm (eA l ws no nc RB FB SB OB G Fm so sc WM) (cV l ws) (false,m) w (.returned u12) wr):=ah (by
     have a9:(cV l ws (false,m)).length=ws.length:=by unfold cV;simp
     rw[<-a9,pH]at H;exact⟨⟨u12,rfl,fY H (qP _ 2)⟩,d.grown,d.at_⟩)
    clear d H
    go_wp2
    go_ret;exact gG.out
 |true=>
  have hJ:Hid (fa w l ws no nc RB FB SB OB G Fm so sc WM 0 w1):=ah ⟨cp.o,e7.out,eN,bP e5.out _,ad,hx.o⟩;have hE:=LY l no nc w1 cp.o.gl gb g5 cp.o.nodes;have hA:=ah hE;have hV:(aI (cB (aS l (l.length-1)))).length<=1048576:=by unfold aI;exact aR (me _ _) ak
  clear eN hE;go_enter func182,ntmps182
  go_wp2_with(first
   |(rw[<-cs];clear cs)
   |fail)
  refine hA.o.mono ?_;rintro o h5 ⟨⟨v,rfl,y⟩,fT⟩;obtain⟨e0,eZ,rfl⟩:=cC y;have hD:=rP (aI (cB (aS l (l.length-1)))) e0 eZ h5 (pp y) hV (fun q ez=>(qw ez).1);obtain⟨hz,hK⟩:=aE hD (hJ.o.below fT);have hH:=(fT.block _ (aL cq.out)).trans cq.out;have hB:=ah hH;clear hD y fT hH f1 hC hA;go_wp2_with fail
  refine hz.o.mono ?_;rintro o h9 ⟨rfl,f0⟩;have hy:=ah (hK.o.below f0);have h3:=hy.o.comeT;have hN:=ah ((f0.block _ (aL hB.out)).trans hB.out);clear f0 hz;go_wp2_with(first
   |((with_reducible apply dL (ty:=258));exact rfl;exact rfl;exact rfl;assumption;exact eI;exact rfl;exact cK)
   |(((with_reducible apply cT (ty:=258));exact rfl;exact rfl;exact rfl;exact rfl;assumption;exact cK;exact eM _);intro e1 gl;have Q:=ah (hy.o.wrote gl);have be:=ah ((gl.block _ ad).trans hN.out);have bd:=yJ be.out;clear gl h3)
   |fail)
  have Q:Hid (fa w l ws no nc RB FB SB OB G Fm so sc WM (gp l true []) e1):=Q;have bm:=Q.o;have ce:=e6.o.1;unfold iS at ce;have ec:=Db m e1 bm.at_.gl ce;have dr:=ah ec;have hU:=bm.lo;clear ec ce bm;refine dr.o.mono ?_;rintro o hv ⟨⟨v,rfl,y⟩,bu⟩;clear dr;obtain⟨eD,I,rfl⟩:=cC y;have hR:(aI m).length<=64:=by unfold aI;exact aR (me _ _) ak
  have d8:Hid (ol w l ws no nc RB FB SB OB G Fm so sc WM (true,m) eD I (.int .i64 0) hv):=ah ⟨0,rfl,aK _,Q.o.below bu,fY y (by have:=Q.o.size;omega)⟩;have e3:=(bu.block _ (aL be.out)).trans be.out;have hM:=ah e3;clear y bu e3 bd Q be cq e7 e5 cp
  go_wp2
  go_loopw [23] (fun M wr=>ol w l ws no nc RB FB SB OB G Fm so sc WM (true,m) eD I M wr) (fun M _=>(aI m).length-(intOf M).toNat)
  case atStart=>exact d8.out
  case round=>
  clear d8;obtain⟨j,rfl,g3,d,a5⟩:=hrel;by_cases b9:j<(aI m).length
  ·obtain⟨p,ba⟩:∃p,(aI m)[j]?=some p:=⟨_,aF b9⟩
   have ci:=qw (aU ba);obtain⟨hj,el,er⟩:=e6.o.2 p ci.2;obtain⟨O,P,rfl,hW,e4⟩:=jJ.at (pp a5) ba;obtain⟨bZ,f,ch,d3,d5⟩:=d.at_.map;have cc:keyOf prog 3 (.int .i64 (p:Nat))=some (.int .i64 (p:Nat)):=oz cX (kt ad);have N:=ch.look_ok (ge cX) pP (qy wr) cD cc;have d0:=ai 0 (d.at_.cells d.at_.st.fb);obtain⟨e2,an⟩:=aj (wr.alloc (.cells #[.int .u64 0,.int .u64 0,.int .u64 0,.int .u64 0,.int .u64 0,.int .u64 0,.int .u64 0,.int .u64 0,.int .u64 0,.int .u64 0,.int .u64 0,.int .u64 0,.int .u64 0,.int .u64 0,.int .u64 0,.int .u64 0] 258));obtain⟨bF,_,co,cl⟩:=qo wr;rw[<-an]at bF co cl;have hY:(0:Int)<=j:=ad;have hZ:(j:Int)<((aI m).length:Int):=ad;have b8:=fun a=>uM (gp l true ((aI m).take j)) (dV (aI (db l p))) a (ve _ _ _) (vd _);obtain⟨e,F⟩:=aj (gp l true ((aI m).take j));obtain⟨Y,b2⟩:=aj (dV (aI (db l p)));rw[<-F,<-b2]at b8;rw[<-F]at d;obtain⟨c7,aq,W,a1,ds,fz,fu,fy,T,av⟩:=kB b8 F b2 b9 ba ci el er d a5;obtain⟨a2,c6,c8,bl,c5,hL⟩:=gR ch d3 d5 cc bF cl;clear b9 ba ci el er d a5 ch d3 d5 cc bF cl g3 b8 F b2;cases L:f (.int .i64 (p:Nat))with
   |some v=>
    have y:=c8.o p v L;rw[<-W.o]at y;subst y;rw[L]at N;simp only[pL,FN]at N;have bf:Hid (∀a,eX e2 a wr.heap.size 0 (setRow Y)->fa w l ws no nc RB FB SB OB G Fm so sc WM e a/\cO a (w.heap.size+2) (.slice (some ⟨O,P,none⟩) (aI m).length I) (aI m)/\(Instr.lookup 262 (.map (some Fm)) (.int .i64 (p:Nat)) false).run prog a=.ok (.agg (setRow Y).toArray) a):=fun a b5=>by have D:=b5.below c5.o (aB _);have hb:=a2.o.of_block (D.block _ a2.o.lt);have J:=hb.look (ge cX) pP (qy a) cD bl.o;rw[L]at J;exact⟨T.o.below D,aY av.o (fun g h=>D.block g (aV av.o h).2),J⟩
    clear L;go_wp2_with(first
     |(rw[<-an];clear an)
     |((with_reducible apply dL (ty:=258));exact rfl;exact rfl;exact rfl;assumption;exact eI;exact rfl;exact cK)
     |(((with_reducible apply cT (ty:=258));exact rfl;exact rfl;exact rfl;exact rfl;assumption;exact cK;exact eM _);intro a ag;obtain⟨t,X,g8⟩:=bf.o a ag;have ho:=t.come;have f2:=ai 0 (t.at_.cells t.at_.st.fb);have bi:=ah t;have R:=ah X;clear t X ag co N e4 d0)
     |fail)
    refine(c7.o a).mono ?_;rintro o E ⟨rfl,C⟩;clear ho f2 g8;have bo:=bi.o.below C;have ht:=bo.comeT;obtain⟨a0,cx⟩:=aE bo (aY R.o (fun g h=>C.block g (aV R.o h).2));clear bo C;go_wp2_with(first
     |(((with_reducible apply cT (ty:=258));exact rfl;exact rfl;exact rfl;exact rfl;assumption;exact cK;exact eM _);intro A b6;have V:=ah (a0.o.wrote b6);have cG:=ah (aY cx.o (fun g h=>b6.block g (fun o=>by have:=(aV cx.o h).1;omega)));clear b6 ht)
     |fail)
    have ab:Hid (ol w l ws no nc RB FB SB OB G Fm so sc WM (true,m) (some ⟨O,P,none⟩) I (.int .i64 ((j:Int)+1)) A):=ah ⟨j+1,rfl,by have:=a1.o;simp only at this⊢;omega,by rw[bG,ds.o,dR,vf,<-W.o,<-aq.o];exact V.o,cG.o⟩;clear V cG;go_roundw
    case rel=>exact ab.out
    case measure=>have:=a1.o;simp[intOf];omega
   |none=>
    rw[L]at N;simp only[vK,vL]at N;have fs:=ah L;have g7:(aI (db l p)).length<=1048576:=by unfold aI;exact aR (me _ _) ak
    have bf:Hid (∀a,eX e2 a wr.heap.size 0 (setRow 0)->fa w l ws no nc RB FB SB OB G Fm so sc WM e a/\cO a (w.heap.size+2) (.slice (some ⟨O,P,none⟩) (aI m).length I) (aI m)/\bn a prog 3 Fm bZ f):=fun a b5=>by have D:=b5.below c5.o (aB _);exact⟨T.o.below D,aY av.o (fun g h=>D.block g (aV av.o h).2),a2.o.of_block (D.block _ a2.o.lt)⟩
    have K:∀w',eA l ws no nc RB FB SB OB G Fm so sc WM w'->w'.cell? ⟨FB,0,none⟩=some (.map (some Fm))/\w'.cell? ⟨RB,0,none⟩=some (.slice no l.length nc):=fun w' z=>⟨ai 0 (z.cells z.st.fb),ai 0 (z.cells z.st.rb)⟩;have B:=ah K;have fc:Hid (∀A,fa w l ws no nc RB FB SB OB G Fm so sc WM e A->cO A (w.heap.size+2) (.slice (some ⟨O,P,none⟩) (aI m).length I) (aI m)->bn A prog 3 Fm bZ f->∃r,(Instr.mapUpdate 262 (.map (some Fm)) (.int .i64 (p:Nat)) (.agg (setRow Y).toArray)).run prog A=.ok () r/\fa w l ws no nc RB FB SB OB G Fm so sc WM e r/\cO r (w.heap.size+2) (.slice (some ⟨O,P,none⟩) (aI m).length I) (aI m)/\(Instr.lookup 262 (.map (some Fm)) (.int .i64 (p:Nat)) false).run prog r=.ok (.agg (setRow Y).toArray) r):=fun A gf b1 ed=>by obtain⟨r,hc,eg,d4,_⟩:=ed.set (ge cX) pP (by have:=c6.o;have:=D4 f;unfold maxLen;omega) (val:=.agg (setRow Y).toArray) cD bl.o;have J:=eg.look (ge cX) pP (qy r) cD bl.o;rw[jz]at J;have d6:=D6 c8.o p;rw[<-W.o]at d6;have gg:=gf.mapped d4 ⟨bZ+1,_,eg,by rw[D5 fz.o.1 fs.o];have:=c6.o;omega,d6⟩;obtain⟨hQ,c,gd⟩:=ed.block;exact⟨r,hc,gg,aY b1 (fun g h=>d4.block g (aV b1 h).2 (fun o=>by injection o with o;exact mQ b1 gd (by rw[h,o]))),J⟩
    clear L K;go_wp2_with(first
     |(rw[<-an];clear an)
     |((with_reducible apply dL (ty:=258));exact rfl;exact rfl;exact rfl;assumption;exact eI;exact rfl;exact cK)
     |(((with_reducible apply cT (ty:=258));exact rfl;exact rfl;exact rfl;exact rfl;assumption;exact cK;exact eM _);intro a ag;obtain⟨t,X,eE⟩:=bf.o a ag;have bi:=ah t;have R:=ah X;have c2:=ah eE;have d2:=B.o _ (t.at_.after (aA _ a).drew);have a6:=B.o _ t.at_;have en:=C8 l no nc p hj a.drew ((t.at_.after (aA _ a).drew).gl) fu.o fy.o gb g5 ((t.at_.after (aA _ a).drew).nodes);have fx:=ah en;clear t X eE ag co N e4 d0 en)
     |fail)
    obtain⟨hq,hr⟩:=a6;go_region_held3(fun w'=>w'.cell? ⟨FB,0,none⟩=some (.map (some Fm))/\w'.cell? ⟨RB,0,none⟩=some (.slice no l.length nc))
     (first|exact b4|exact af|exact ae|exact d2)
     (first
       |(go_at_call 185;refine fx.o.mono ?_;rintro o E ⟨⟨v,rfl,y⟩,C⟩;obtain⟨e0,eZ,rfl⟩:=cC y;have bw:Below a.heap.size a E:=(aA _ a).drew.trans C;have a0:=ah (bi.o.below bw);have ae:=B.o _ a0.o.at_;have fr:=ah (rP (aI (db l p)) e0 eZ E (pp y) g7 (fun q ez=>(qw ez).1));have cu:=ah bw;clear y C bw)
       |(go_at_call 180;refine fr.o.mono ?_;rintro o A ⟨rfl,bA⟩;rw[<-W.o];have V:=ah (a0.o.below bA);have af:=B.o _ V.o.at_;have bz:Below a.heap.size a A:=cu.out.trans (bA.mono cu.out.size);obtain⟨r,hd,bq,dz,g9⟩:=fc.o A V.o (aY R.o (fun g h=>bz.block g (aV R.o h).2)) (c2.o.of_block (bz.block _ c2.o.lt));have b4:=B.o _ bq.at_;have c3:=ah bq;have cN:=ah dz;clear bA bz bq dz))
    have hp:=c3.o.come;have f4:=b4.1;clear d2 ae af b4 hq hr hd;go_wp2_with(first
     |((with_reducible apply dL (ty:=258));exact rfl;exact rfl;exact rfl;assumption;exact eI;exact rfl;exact cK)
     |fail)
    refine(c7.o r).mono ?_;rintro o h4 ⟨rfl,bE⟩;clear hp f4 g9;have bt:=c3.o.below bE;have hu:=bt.comeT;obtain⟨fg,c0⟩:=aE bt (aY cN.o (fun g h=>bE.block g (aV cN.o h).2));clear bt bE;go_wp2_with(first
     |(((with_reducible apply cT (ty:=258));exact rfl;exact rfl;exact rfl;exact rfl;assumption;exact cK;exact eM _);intro hw b7;have c4:=ah (fg.o.wrote b7);have c1:=ah (aY c0.o (fun g h=>b7.block g (fun o=>by have:=(aV c0.o h).1;omega)));clear b7 hu)
     |fail)
    have ab:Hid (ol w l ws no nc RB FB SB OB G Fm so sc WM (true,m) (some ⟨O,P,none⟩) I (.int .i64 ((j:Int)+1)) hw):=ah ⟨j+1,rfl,by have:=a1.o;simp only at this⊢;omega,by rw[bG,ds.o,dR,vf,<-W.o,<-aq.o];exact c4.o,c1.o⟩;clear c4 c1;go_roundw
    case rel=>exact ab.out
    case measure=>have:=a1.o;simp[intOf];omega
  ·have ea:(aI m).take j=aI m:=bx ad
   simp only at d;rw[ea]at d;have hs:=ai 0 (d.at_.cells d.at_.st.sb);have eB:Hid (qz w l ws no nc RB FB SB OB G Fm so sc WM (true,m) (.int .i64 0) (.slice none 0 0) wr):=ah ⟨0,rfl,aK _,d,cR _ _ _ _⟩;have hS:(aI m).length<=j:=ad;clear d a5 ea
   go_wp2
   go_loopw [49,12] (fun M f7 wq=>qz w l ws no nc RB FB SB OB G Fm so sc WM (true,m) M f7 wq) (fun M _ _=>ws.length-(intOf M).toNat)
   case atStart=>exact eB.out
   case round=>
   clear eB hs;rename_i h6 _;obtain⟨k,rfl,hT,d,H⟩:=hrel;by_cases eb:k<ws.length
   ·obtain⟨x,bc⟩:∃x,ws[k]?=some x:=⟨_,aF eb⟩
    have a9:((cV l ws (true,m)).take k).length=k:=by unfold cV;rw[dx,cd];omega
    obtain⟨go,gc,rfl⟩:=cC H;have a7:=fun a=>yc (gp l true (aI m)) (ofN l x l.length) a (ve _ _ _) (px l x _ ad);have al:(cV l ws (true,m)).take (k+1)=(cV l ws (true,m)).take k++[(false,gp l true (aI m)&&&ofN l x l.length)]:=by rw[bG];unfold cV;rw[cb,bc];rfl
    have ao:=d.come;have bd:=d.at_.of_ k x bc;have hk:=ai 0 (d.at_.cells d.at_.st.ob);obtain⟨e,F⟩:=aj (gp l true (aI m));obtain⟨n,b3⟩:=aj (ofN l x l.length);simp only at d ao;rw[<-F]at a7 al d ao;rw[<-b3]at a7 al bd;obtain⟨fN,d1⟩:=aj ((cV l ws (true,m)).take k);rw[<-d1]at al a9 H;obtain⟨fo,fv,T,bg,fG,aq,fl,c9⟩:=oZ a7 al d H bc F b3 eb;have h0:(0:Int)<=k:=ad;have h1:(k:Int)<ws.length:=ad;obtain⟨hi,g2,he,hf,hg⟩:=cL yE;have K:∀w',Below (w.heap.size+2) wr w'->w'.rangeAt (w.heap.size+1) 0 (setRow e)/\w'.cell? ⟨OB,0,none⟩=some (.slice (some ⟨G,0,none⟩) ws.length ws.length)/\w'.rangeAt G (k*16) (setRow n):=fun w' D=>by have a4:=T.o.low D;refine⟨a4.come,ai 0 (a4.at_.cells a4.at_.st.ob),?_⟩;rw[fl.o];exact a4.at_.of_ k x fG.o
    have bb:=d.size;obtain⟨hI,B⟩:=aE H K;have a6:=K _ (aA _ wr).drew;obtain⟨hl,hm,hn⟩:=K _ (aA _ wr);have hX:=eI;have g0:(prog.info? 258).map (·.size)=some (setRow e).length:=cK;have g1:(prog.info? 258).map (·.size)=some (setRow n).length:=cK;have gs:∀w',(Instr.build 264 #[(1,.agg (setRow (e&&&n)).toArray)]).run prog w'=.ok (.agg (bk (false,e&&&n)).toArray) w':=fun _=>ay;have gv:=fun w'=>uT (false,e&&&n) w';clear K a7 al d H bc F b3 d1 ao bd hk a9;go_wp2_with fail
    refine wp_region_held_drew (S:=(fun w'=>w'.rangeAt (w.heap.size+1) 0 (setRow e)/\w'.cell? ⟨OB,0,none⟩=some (.slice (some ⟨G,0,none⟩) ws.length ws.length)/\w'.rangeAt G (k*16) (setRow n))) ay a6 (fun u=> ?_);refine mS (i:=0) rfl u ?_;simp only[Act.put,bp,bs,bj];refine sr (i:=1) (v:=.agg (setRow e).toArray) rfl (qV (by rfl) _ _ rfl (w.heap.size+1) (0) rfl (setRow e) _ (fun _ z=>z.1) eI rfl cK) u ?_;simp only[Act.put,bp,bs,bj];refine mS (i:=2) rfl u ?_;simp only[Act.put,bp,bs,bj];refine mS (i:=3) rfl u ?_;simp only[Act.put,bp,bs,bj];refine mS (i:=4) rfl u ?_;simp only[Act.put,bp,bs,bj];refine sr (i:=5) (v:=.agg (setRow n).toArray) rfl (qV (by rfl) _ _ rfl (G) (k*16) rfl (setRow n) _ (fun _ z=>z.2.2) eI rfl cK) u ?_;simp only[Act.put,bp,bs,bj];refine td (rs:=[6]) ay ak ?_;refine te rfl (fun du aa=> ?_) tg;go_simp;refine(fo.o _).mono ?_;rintro o E ⟨rfl,C⟩;have a3:Below wr.heap.size wr E:=(aA _ wr).drew.trans C;have Z:Below wr.heap.size wr (E.alloc (.cells (bk (false,e&&&n)).toArray 264)):=a3.alloc a3.size _;have ae:=B.o _ (a3.mono bb);have af:=B.o _ (Z.mono bb);have es:=aY bg.o (fun g h=>Z.block g (aV bg.o h).2);have em:=dt E (bk (false,e&&&n)) 264 _ rfl;have b0:w.heap.size+2<=(E.alloc (.cells (bk (false,e&&&n)).toArray 264)).heap.size:=aR bb Z.size;have fb:=ah Z;clear C a3 Z;refine aa.out _ _ ae (fun u=> ?_);try simp only[Act.put,bp,bs,bj]
    refine sr (i:=7) (v:=.agg (bk (false,e&&&n)).toArray) rfl (Or.inl ⟨by rfl,fun h7 _=>ay⟩) u ?_;simp only[Act.put,bp,bs,bj];refine td (rs:=[8]) ay ak ?_;refine te rfl (fun du aa=> ?_) tg;rw[au (by rfl)];refine D3 (false,e&&&n) _ rfl rfl ?_;simp only[Act.put,bp,bs,bj];refine aa.out _ _ af (fun u=> ?_);try simp only[Act.put,bp,bs,bj]
    refine td (rs:=[9]) ay ak ?_;refine te rfl (fun du aa=> ?_) tg;refine pO _ (by rfl) _ _ _ (by rfl) (w.heap.size+2) 264 hi _ 17 136 FP g2 he hf hg rfl ad (.slice go k gc) k (flatS fN) (by rfl) es ⟨E.heap.size,0,none⟩ 1 1 (bk (false,e&&&n)) (by rfl) (by rfl) em (pw _) ad bN ad b0 _ rfl ?_;intro f5 f6 r ex d7 gr ha;have bB:Below (w.heap.size+2) wr r:=od b0 (fb.out.mono bb) d7 (fun b o=>(aV bg.o o).1);refine aa.out _ _ (B.o _ bB) (fun u=> ?_);try simp only[Act.put,bp,bs,bj]
    refine mS (i:=10) rfl u ?_;simp only[Act.put,bp,bs,bj];refine wpAnyH_done ay ?_ _;have ab:Hid (qz w l ws no nc RB FB SB OB G Fm so sc WM (true,m) (.int .i64 ((k:Int)+1)) (.slice (some ⟨f5,0,none⟩) (k+1) f6) r):=ah ⟨k+1,rfl,by have:=c9.o;omega,by simp only;rw[<-aq.o];exact T.o.low bB,by rw[fv.o,yz];simpa[flatS]using ex⟩;clear ex d7 gr ha bB es em b0 ae af u a6 hl hm hn g0 g1 gs gv
    go_wp2
    go_roundw
    case rel=>exact ab.out
    case measure=>have:=c9.o;simp[intOf];omega
   ·have g4:k=ws.length:=ad
    subst g4;have gG:Hid (uU Fm (eA l ws no nc RB FB SB OB G Fm so sc WM) (cV l ws) (true,m) w (.returned u12) wr):=ah (by
     have a9:(cV l ws (true,m)).length=ws.length:=by unfold cV;simp
     rw[<-a9,pH]at H;exact⟨⟨u12,rfl,fY H (qP _ 2)⟩,d.grown,d.at_⟩)
    clear d H
    go_wp2
    go_ret;exact gG.out
end Go.Proofs.YtbacloblanpghaaGreatDoor
