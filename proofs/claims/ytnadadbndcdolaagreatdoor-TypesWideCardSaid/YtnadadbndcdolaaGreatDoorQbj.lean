import Derived.Test.YtnadadbndcdolaaGreatDoorQbg
set_option linter.unusedVariables false
set_option linter.unusedSimpArgs false
set_option maxRecDepth 100000
set_option maxHeartbeats 0
namespace Go.Proofs.YtnadadbndcdolaaGreatDoor
open Go.RowKit Tryz
theorem F1{b:Oper}{a:Act}{w:World}{c:Act->World->Prop}{Q:Exit->Act->World->Prop}(s:St)(y:Operand)(f:b.op=.buildSlice 326 1 #[(0,y)])(g:a.eval y=.agg (bx s).toArray)
 (e:c (a.put b.dst (.slice (some ⟨w.heap.size,0,none⟩) 1 1)) (w.alloc (.cells (bx s).toArray 325))):b.wp prog a w c Q:=by
 unfold Oper.wp execOp;simp only[f,BF,uF,BG];have d:(#[(0,y)]:Array (Nat×Operand)).map (fun p=>(p.1,a.eval p.2))=#[(0,.agg (bx s).toArray)]:=by simp[g]
 rw[d,wQ];exact e
def xh(l:List aj)(f:Lit->Option Value):Prop:=∀(q:Nat) (v:Value),f (.int .i64 (q:Nat))=some v->v=.agg (setRow (dq (aC (cK l q)))).toArray
def p8(f:Lit->Option Value):Nat:=((List.range 64).filter fun p=>(f (.int .i64 (p:Nat))).isSome).length
structure PU(l:List aj)(ws:List Bytes)(no:Option Addr)(nc RB FB SB OB G Fm:Nat)(so:Option Addr)(sc:Nat)(w:World):Prop where
 gl:Gl w
 nodes:cO w no nc l
 rb:w.heap[RB]?=some (.cells #[.slice no l.length nc] 51)
 fb:w.heap[FB]?=some (.cells #[.map (some Fm)] 323)
 sb:w.heap[SB]?=some (.cells #[.slice so ws.length sc] 48)
 ob:w.heap[OB]?=some (.cells #[.slice (some ⟨G,0,none⟩) ws.length ws.length] 319)
 of_:∀k x,ws[k]?=some x->w.rangeAt G (k*16) (setRow (ofN l x l.length))
 map:∃es c,w.heap[Fm]?=some (.map es c)
structure eX(l:List aj)(ws:List Bytes)(no:Option Addr)(nc RB FB SB OB G Fm:Nat)(so:Option Addr)(sc:Nat)(WM w:World):Prop where
 st:PU l ws no nc RB FB SB OB G Fm so sc WM
 grown:WM.grownBy w (some Fm)
 map:∃cnt f,bp w prog 3 Fm cnt f/\cnt<=p8 f/\xh l f
theorem oM{w w':World}{b o:Nat}{cs:List Value}(c:w.rangeAt b o cs)(d:w'.heap[b]?=w.heap[b]?):w'.rangeAt b o cs:=fun j v e=>(dD (a:=⟨b,o+j,none⟩) d).trans (c j v e)
section
variable{WM w w':World} {l:List aj} {ws:List Bytes} {no:Option Addr} {nc RB FB SB OB G Fm:Nat} {so:Option Addr} {sc:Nat}
theorem eX.cell(f:eX l ws no nc RB FB SB OB G Fm so sc WM w){b o:Nat}{v:Value}(d:WM.cell? ⟨b,o,none⟩=some v):w.cell? ⟨b,o,none⟩=some v:=by
 obtain⟨i,c,g⟩:=f.st.map;have h:b≠Fm:=fun e=>by subst e;rw[zC g rfl]at d;cases d
 exact(dD (a:=⟨b,o,none⟩) (f.grown.block b (nU WM _ d) (fun e=>h (by injection e)))).trans d
theorem eX.cells(f:eX l ws no nc RB FB SB OB G Fm so sc WM w){b a:Nat}{cs:Array Value}{e:Nat×Nat}(d:WM.heap[b]?=some (.cells cs a e)):w.heap[b]?=some (.cells cs a e):=by obtain⟨h,c,g⟩:=f.st.map;exact(f.grown.block b (ax d) (fun a=>by injection a with a;rw[a,g]at d;cases d)).trans d
theorem eX.nodes(c:eX l ws no nc RB FB SB OB G Fm so sc WM w):cO w no nc l:=by have a:=c.st.nodes;refine⟨a.1,a.2.1,a.2.2.1,fun h=> ?_⟩;obtain⟨b,i,d,g,e⟩:=a.2.2.2 h;exact⟨b,i,d,dn g c.grown.size,fun j u f=>c.cell (e j u f)⟩
theorem eX.gl(a:eX l ws no nc RB FB SB OB G Fm so sc WM w):Gl w:=
 ⟨dn a.st.gl.spans0 a.grown.size,fun i b=>a.cell (a.st.gl.spans i b),dn a.st.gl.tab0 a.grown.size,fun j c=>a.cell (a.st.gl.tab j c)⟩
theorem eX.of_(a:eX l ws no nc RB FB SB OB G Fm so sc WM w)(k:Nat)(x:Bytes)(c:ws[k]?=some x):w.rangeAt G (k*16) (setRow (ofN l x l.length)):=fun j v b=>a.cell (a.st.of_ k x c j v b)
theorem eX.lt(a:eX l ws no nc RB FB SB OB G Fm so sc WM w):Fm<WM.heap.size:=by obtain⟨d,c,b⟩:=a.st.map;exact ax b
theorem eX.below(a:eX l ws no nc RB FB SB OB G Fm so sc WM w)(b:Below WM.heap.size w w'):eX l ws no nc RB FB SB OB G Fm so sc WM w':=by obtain⟨d,f,e,g,h⟩:=a.map;exact⟨a.st,⟨b.os.trans a.grown.os,b.tape.trans a.grown.tape,b.output.trans a.grown.output,aJ a.grown.size b.size,fun k c i=>(b.block k c).trans (a.grown.block k c i)⟩,⟨d,f,e.of_block (b.block _ a.lt),g,h⟩⟩
theorem eX.after(a:eX l ws no nc RB FB SB OB G Fm so sc WM w)(b:Below w.heap.size w w'):eX l ws no nc RB FB SB OB G Fm so sc WM w':=a.below (b.mono a.grown.size)
end
def oN(w:World)(s:St):World:=(w.alloc (.cells (bx s).toArray 325)).alloc (.cells #[.int .u64 0,.int .u64 0,.int .u64 0,.int .u64 0,.int .u64 0,.int .u64 0,.int .u64 0,.int .u64 0,.int .u64 0,.int .u64 0,.int .u64 0,.int .u64 0,.int .u64 0,.int .u64 0,.int .u64 0,.int .u64 0] 320)
theorem PW(w:World)(s:St):Below w.heap.size w (oN w s)/\(oN w s).heap.size=w.heap.size+2/\(oN w s).heap[w.heap.size]?=some (.cells (bx s).toArray 325)/\(oN w s).rangeAt (w.heap.size+1) 0 (setRow 0)/\(oN w s).there (w.heap.size+1) 0 16:=by obtain⟨a,b,t1,d⟩:=qO (w.alloc (.cells (bx s).toArray 325));rw[bj]at b t1 a;have c:=d;rw[bj (w:=w)]at c;unfold oN;refine⟨aG.trans (a.mono ad),c,(a.block _ ad).trans (aB w _),b,t1⟩
theorem rm(w:World):(zeroValue 320).run prog w=.ok (.agg (setRow 0).toArray) w:=aA
theorem Al{w:World}{b:Nat}{s:St}(a:w.heap[b]?=some (.cells (bx s).toArray 325)):w.rangeAt b 1 (setRow s.2):=fun j v d=>by have c:=ol a (j+1) v (by unfold bx;rw[gI];exact d);rw[show 1+j=0+(j+1) by omega];exact c
structure fk(w:World)(l:List aj)(ws:List Bytes)(no:Option Addr)(nc RB FB SB OB G Fm:Nat)(so:Option Addr)(sc:Nat)(WM:World)(c:Nat)(wr:World):Prop where
 at_:eX l ws no nc RB FB SB OB G Fm so sc WM wr
 come:wr.rangeAt (w.heap.size+1) 0 (setRow c)
 comeT:wr.there (w.heap.size+1) 0 16
 grown:w.grownBy wr (some Fm)
 size:w.heap.size+2<=wr.heap.size
 lo:WM.heap.size<=w.heap.size
section
variable{WM w wr wq:World} {l:List aj} {ws:List Bytes} {no:Option Addr} {nc RB FB SB OB G Fm:Nat} {so:Option Addr} {sc c:Nat}
theorem fk.below(a:fk w l ws no nc RB FB SB OB G Fm so sc WM c wr)(b:Below wr.heap.size wr wq):fk w l ws no nc RB FB SB OB G Fm so sc WM c wq:=
 ⟨a.at_.after b,gN a.come b,gD a.comeT b,a.grown.trans (bJ b _),aJ a.size b.size,a.lo⟩
theorem fk.low(b:fk w l ws no nc RB FB SB OB G Fm so sc WM c wr)(d:Below (w.heap.size+2) wr wq):fk w l ws no nc RB FB SB OB G Fm so sc WM c wq:=by have i:=b.lo;have e:=d.block (w.heap.size+1) ad;refine⟨b.at_.below (d.mono ad),oM b.come e,fun j h=> ?_,⟨d.os.trans b.grown.os,d.tape.trans b.grown.tape,d.output.trans b.grown.output,aJ b.grown.size d.size,fun k f g=>(d.block k ad).trans (b.grown.block k f g)⟩,aJ b.size d.size,i⟩;obtain⟨f,g⟩:=b.comeT j h;exact⟨by rw[dD (a:=⟨w.heap.size+1,0+j,none⟩) e];exact f,by rw[mW (a:=⟨w.heap.size+1,0+j,none⟩) e];exact g⟩
theorem fk.mapped(d:fk w l ws no nc RB FB SB OB G Fm so sc WM c wr)(e:wr.grownBy wq (some Fm))(o:∃g f,bp wq prog 3 Fm g f/\g<=p8 f/\xh l f):fk w l ws no nc RB FB SB OB G Fm so sc WM c wq:=by have q:=d.at_.lt;have p:=d.size;have n:=d.lo;refine⟨⟨d.at_.st,d.at_.grown.trans e,o⟩,oM d.come (e.block _ ad (fun b=>by injection b with b;omega)),fun j m=> ?_,d.grown.trans e,aJ p e.size,n⟩;obtain⟨h,i⟩:=d.comeT j m;have b:=e.block (w.heap.size+1) ad (fun b=>by injection b with b;omega);exact⟨by rw[dD (a:=⟨w.heap.size+1,0+j,none⟩) b];exact h,by rw[mW (a:=⟨w.heap.size+1,0+j,none⟩) b];exact i⟩
theorem F3(f:Lit->Option Value):p8 f<=64:=by unfold p8;exact aJ (lq _ _) ak
theorem F4{f:Lit->Option Value}{p:Nat}(d:p<64)(c:f (.int .i64 (p:Nat))=none)(v:Value):p8 (eW f (.int .i64 (p:Nat)) v)=p8 f+1:=by
 unfold p8;have:=zq (fun q=>(f (.int .i64 (q:Nat))).isSome) (fun q=>(eW f (.int .i64 (p:Nat)) v (.int .i64 (q:Nat))).isSome) p (by simp[c]) (fun q=>by
  by_cases a:q=p
  ·subst a
   rw[jw];simp
  ·have:(Lit.int .i64 (q:Nat))≠ .int .i64 (p:Nat):=fun b=>a (by injection b with _ b;omega)
   rw[jS _ _ this];simp[a]) 64
 rw[ay d]at this;exact this.symm
theorem F5{l:List aj}{f:Lit->Option Value}(d:xh l f)(p:Nat):xh l (eW f (.int .i64 (p:Nat)) (.agg (setRow (dq (aC (cK l p)))).toArray)):=fun q v a=>by
 by_cases b:q=p
 ·subst b
  rw[jw]at a;injection a with a
  exact a.symm
 ·have:(Lit.int .i64 (q:Nat))≠ .int .i64 (p:Nat):=fun c=>b (by injection c with _ c;omega)
  rw[jS _ _ this]at a;exact d q v a
theorem fk.wrote(a:fk w l ws no nc RB FB SB OB G Fm so sc WM c wr){q:Nat}(d:dU wr wq (w.heap.size+1) 0 (setRow q)):fk w l ws no nc RB FB SB OB G Fm so sc WM q wq:=by have h:=a.size;have f:=a.lo;have b:Below w.heap.size wr wq:=d.below ((aE wr.heap.size wr).mono ad) ad;exact⟨a.at_.below (b.mono f),d.here,d.there a.comeT,⟨b.os.trans a.grown.os,b.tape.trans a.grown.tape,b.output.trans a.grown.output,aJ a.grown.size b.size,fun k e g=>(b.block k e).trans (a.grown.block k e g)⟩,by have:=b.size;omega,f⟩
end
def oO(w:World)(l:List aj)(ws:List Bytes)(no:Option Addr)(nc RB FB SB OB G Fm:Nat)(so:Option Addr)(sc:Nat)(WM:World)(s:St)(c:Option Addr)(b:Nat)(a:Value)(wr:World):Prop:=
 ∃j,a=.int .i64 (j:Nat)/\j<=(aC s.2).length/\fk w l ws no nc RB FB SB OB G Fm so sc WM (df l s.1 ((aC s.2).take j)) wr/\cW wr (w.heap.size+2) (.slice c (aC s.2).length b) (aC s.2)
def rn(w:World)(l:List aj)(ws:List Bytes)(no:Option Addr)(nc RB FB SB OB G Fm:Nat)(so:Option Addr)(sc:Nat)(WM:World)(s:St)(b a:Value)(wr:World):Prop:=
 ∃k,b=.int .i64 (k:Nat)/\k<=ws.length/\fk w l ws no nc RB FB SB OB G Fm so sc WM (df l s.1 (aC s.2)) wr/\wr.ownsRow (w.heap.size+2) 325 17 a k (flatS ((cB l ws s).take k))
theorem PY(l:List aj)(ws:List Bytes)(no:Option Addr)(nc RB FB SB OB G Fm:Nat)(so:Option Addr)(sc:Nat)(fT:bG l=0)(g3:l.length<=60)(h4:ws.length<=64)(s:St)(hB:lM l s)(WM w:World)(z:eX l ws no nc RB FB SB OB G Fm so sc WM w):
 Calls prog 241 #[.agg (bx s).toArray,.pointer (some ⟨RB,0,none⟩),.pointer (some ⟨FB,0,none⟩),.pointer (some ⟨SB,0,none⟩),.pointer (some ⟨OB,0,none⟩)] w (wR Fm (eX l ws no nc RB FB SB OB G Fm so sc WM) (cB l ws) s w):=by
 obtain⟨eE,ch⟩:=ar (oN w s);obtain⟨e3,hY,e4,ao,t1⟩:=PW w s;rw[<-ch]at e3 hY e4 ao t1;have J:=z.after e3;have fw:eE.cell? ⟨w.heap.size,0,none⟩=some (.bool s.1):=ai 0 e4;have hy:=ai 0 (J.cells J.st.rb);unfold oN at ch;obtain⟨ht,cd,ce,e2,e0,e1⟩:=g6 z.grown.size J e4 ao e3 hB;clear J e4 ao e3 hB z;obtain⟨hK,m⟩:=s;simp only at fw;cases hK with
 |false=>
  have bc:=Al ce.out;have Q:Hid (fk w l ws no nc RB FB SB OB G Fm so sc WM (df l false []) eE):=ah ⟨cd.o,e2.out,t1,bJ e0.out _,ad,ht.o⟩;clear t1 hy;go_enter func241,ntmps241
  go_wp2_with(first
   |(rw[<-ch];clear ch)
   |((with_reducible apply dj (ty:=320));exact rfl;exact rfl;exact rfl;assumption;exact eY;exact rfl;exact cX)
   |fail)
  obtain⟨eN,hf⟩:=ar (eE);have bd:Hid (eN.heap[w.heap.size]?=some (.cells (bx (false,m)).toArray 325)):=by rw[hf];exact ce
  rw[<-hf]at Q⊢;clear hf fw;have bl:=Q.o;have b8:=e1.o.1;unfold jz at b8;have ek:=EE m eN bl.at_.gl b8;have c2:=ah ek;have hQ:=bl.lo;clear ek b8 bl;refine c2.o.mono ?_;rintro o hr ⟨⟨v,rfl,y⟩,bu⟩;clear c2;obtain⟨eA,I,rfl⟩:=bL y;have hM:(aC m).length<=64:=by unfold aC;exact aJ (lq _ _) ak
  have ec:Hid (oO w l ws no nc RB FB SB OB G Fm so sc WM (false,m) eA I (.int .i64 0) hr):=ah ⟨0,rfl,aZ _,Q.o.below bu,dR y (by have:=Q.o.size;omega)⟩;have eV:=(bu.block _ (ax bd.out)).trans bd.out;have hI:=ah eV;clear y bu eV bc Q bd ce e2 e0 cd
  go_wp2
  go_loopw [23] (fun M wr=>oO w l ws no nc RB FB SB OB G Fm so sc WM (false,m) eA I M wr) (fun M _=>(aC m).length-(intOf M).toNat)
  case atStart=>exact ec.out
  case round=>
  clear ec;obtain⟨j,rfl,g1,d,a5⟩:=hrel;by_cases b6:j<(aC m).length
  ·obtain⟨p,a9⟩:∃p,(aC m)[j]?=some p:=⟨_,aH b6⟩
   have ca:=iA (aX a9);obtain⟨hh,en,es⟩:=e1.o.2 p ca.2;obtain⟨O,P,rfl,hS,eZ⟩:=kh.at (jx a5) a9;obtain⟨bE,f,b9,c9,ds⟩:=d.at_.map;have b7:keyOf prog 3 (.int .i64 (p:Nat))=some (.int .i64 (p:Nat)):=pj cU (kM ad);have N:=b9.look_ok (gw cU) qq (rm wr) dH b7;have c6:=ai 0 (d.at_.cells d.at_.st.fb);obtain⟨eU,an⟩:=ar (wr.alloc (.cells #[.int .u64 0,.int .u64 0,.int .u64 0,.int .u64 0,.int .u64 0,.int .u64 0,.int .u64 0,.int .u64 0,.int .u64 0,.int .u64 0,.int .u64 0,.int .u64 0,.int .u64 0,.int .u64 0,.int .u64 0,.int .u64 0] 320));obtain⟨bD,_,cc,cb⟩:=qO wr;rw[<-an]at bD cc cb;have hU:(0:Int)<=j:=ad;have hV:(j:Int)<((aC m).length:Int):=ad;have b5:=fun a=>wJ (df l false ((aC m).take j)) (dq (aC (cK l p))) a (oK _ _ _) (tE _);obtain⟨e,F⟩:=ar (df l false ((aC m).take j));obtain⟨Y,bZ⟩:=ar (dq (aC (cK l p)));rw[<-F,<-bZ]at b5;rw[<-F]at d;obtain⟨cN,aq,W,a1,c3,fq,fd,fo,T,av⟩:=ju b5 F bZ b6 a9 ca en es d a5;obtain⟨a2,cG,c0,bi,cF,hH⟩:=g6 b9 c9 ds b7 bD cb;clear b6 a9 ca en es d a5 b9 c9 ds b7 bD cb g1 b5 F bZ;cases L:f (.int .i64 (p:Nat))with
   |some v=>
    have y:=c0.o p v L;rw[<-W.o]at y;subst y;rw[L]at N;simp only[qj,BK]at N;have be:Hid (∀a,dU eU a wr.heap.size 0 (setRow Y)->fk w l ws no nc RB FB SB OB G Fm so sc WM e a/\cW a (w.heap.size+2) (.slice (some ⟨O,P,none⟩) (aC m).length I) (aC m)/\(Instr.lookup 323 (.map (some Fm)) (.int .i64 (p:Nat)) false).run prog a=.ok (.agg (setRow Y).toArray) a):=fun a b2=>by have D:=b2.below cF.o (az _);have g9:=a2.o.of_block (D.block _ a2.o.lt);have J:=g9.look (gw cU) qq (rm a) dH bi.o;rw[L]at J;exact⟨T.o.below D,aP av.o (fun g h=>D.block g (aF av.o h).2),J⟩
    clear L;go_wp2_with(first
     |(rw[<-an];clear an)
     |((with_reducible apply dj (ty:=320));exact rfl;exact rfl;exact rfl;assumption;exact eY;exact rfl;exact cX)
     |(((with_reducible apply cQ (ty:=320));exact rfl;exact rfl;exact rfl;exact rfl;assumption;exact cX;exact fa _);intro a ag;obtain⟨t,X,g5⟩:=be.o a ag;have hm:=t.come;have fx:=ai 0 (t.at_.cells t.at_.st.fb);have bg:=ah t;have R:=ah X;clear t X ag cc N eZ c6)
     |fail)
    refine(cN.o a).mono ?_;rintro o E ⟨rfl,C⟩;clear hm fx g5;have bo:=bg.o.below C;have t5:=bo.comeT;obtain⟨a0,cl⟩:=aD bo (aP R.o (fun g h=>C.block g (aF R.o h).2));clear bo C;go_wp2_with(first
     |(((with_reducible apply cQ (ty:=320));exact rfl;exact rfl;exact rfl;exact rfl;assumption;exact cX;exact fa _);intro A b3;have V:=ah (a0.o.wrote b3);have co:=ah (aP cl.o (fun g h=>b3.block g (fun o=>by have:=(aF cl.o h).1;omega)));clear b3 t5)
     |fail)
    have ab:Hid (oO w l ws no nc RB FB SB OB G Fm so sc WM (false,m) (some ⟨O,P,none⟩) I (.int .i64 ((j:Int)+1)) A):=ah ⟨j+1,rfl,by have:=a1.o;simp only at this⊢;omega,by rw[bV,c3.o,fF,wW,<-W.o,<-aq.o];exact V.o,co.o⟩;clear V co;go_roundw
    case rel=>exact ab.out
    case measure=>have:=a1.o;simp[intOf];omega
   |none=>
    rw[L]at N;simp only[xV,xW]at N;have fc:=ah L;have g4:(aC (cK l p)).length<=1048576:=by unfold aC;exact aJ (lq _ _) ak
    have be:Hid (∀a,dU eU a wr.heap.size 0 (setRow 0)->fk w l ws no nc RB FB SB OB G Fm so sc WM e a/\cW a (w.heap.size+2) (.slice (some ⟨O,P,none⟩) (aC m).length I) (aC m)/\bp a prog 3 Fm bE f):=fun a b2=>by have D:=b2.below cF.o (az _);exact⟨T.o.below D,aP av.o (fun g h=>D.block g (aF av.o h).2),a2.o.of_block (D.block _ a2.o.lt)⟩
    have K:∀w',eX l ws no nc RB FB SB OB G Fm so sc WM w'->w'.cell? ⟨FB,0,none⟩=some (.map (some Fm))/\w'.cell? ⟨RB,0,none⟩=some (.slice no l.length nc):=fun w' z=>⟨ai 0 (z.cells z.st.fb),ai 0 (z.cells z.st.rb)⟩;have B:=ah K;have e6:Hid (∀A,fk w l ws no nc RB FB SB OB G Fm so sc WM e A->cW A (w.heap.size+2) (.slice (some ⟨O,P,none⟩) (aC m).length I) (aC m)->bp A prog 3 Fm bE f->∃r,(Instr.mapUpdate 323 (.map (some Fm)) (.int .i64 (p:Nat)) (.agg (setRow Y).toArray)).run prog A=.ok () r/\fk w l ws no nc RB FB SB OB G Fm so sc WM e r/\cW r (w.heap.size+2) (.slice (some ⟨O,P,none⟩) (aC m).length I) (aC m)/\(Instr.lookup 323 (.map (some Fm)) (.int .i64 (p:Nat)) false).run prog r=.ok (.agg (setRow Y).toArray) r):=fun A gb bN el=>by obtain⟨r,ha,em,dr,_⟩:=el.set (gw cU) qq (by have:=cG.o;have:=F3 f;unfold maxLen;omega) (val:=.agg (setRow Y).toArray) dH bi.o;have J:=em.look (gw cU) qq (rm r) dH bi.o;rw[jw]at J;have ea:=F5 c0.o p;rw[<-W.o]at ea;have gf:=gb.mapped dr ⟨bE+1,_,em,by rw[F4 fq.o.1 fc.o];have:=cG.o;omega,ea⟩;obtain⟨hL,c,ga⟩:=el.block;exact⟨r,ha,gf,aP bN (fun g h=>dr.block g (aF bN h).2 (fun o=>by injection o with o;exact kD bN ga (by rw[h,o]))),J⟩
    clear L K;go_wp2_with(first
     |(rw[<-an];clear an)
     |((with_reducible apply dj (ty:=320));exact rfl;exact rfl;exact rfl;assumption;exact eY;exact rfl;exact cX)
     |(((with_reducible apply cQ (ty:=320));exact rfl;exact rfl;exact rfl;exact rfl;assumption;exact cX;exact fa _);intro a ag;obtain⟨t,X,eB⟩:=be.o a ag;have bg:=ah t;have R:=ah X;have cu:=ah eB;have c8:=B.o _ (t.at_.after (aE _ a).drew);have a6:=B.o _ t.at_;have er:=Ex l no nc p hh a.drew ((t.at_.after (aE _ a).drew).gl) fd.o fo.o fT g3 ((t.at_.after (aE _ a).drew).nodes);have fl:=ah er;clear t X eB ag cc N eZ c6 er)
     |fail)
    obtain⟨ho,hp⟩:=a6;go_region_held3(fun w'=>w'.cell? ⟨FB,0,none⟩=some (.map (some Fm))/\w'.cell? ⟨RB,0,none⟩=some (.slice no l.length nc))
     (first|exact b1|exact af|exact ae|exact c8)
     (first
       |(go_at_call 244;refine fl.o.mono ?_;rintro o E ⟨⟨v,rfl,y⟩,C⟩;obtain⟨eD,eC,rfl⟩:=bL y;have bw:Below a.heap.size a E:=(aE _ a).drew.trans C;have a0:=ah (bg.o.below bw);have ae:=B.o _ a0.o.at_;have fb:=ah (td (aC (cK l p)) eD eC E (jx y) g4 (fun q ex=>(iA ex).1));have ci:=ah bw;clear y C bw)
       |(go_at_call 239;refine fb.o.mono ?_;rintro o A ⟨rfl,bA⟩;rw[<-W.o];have V:=ah (a0.o.below bA);have af:=B.o _ V.o.at_;have bz:Below a.heap.size a A:=ci.out.trans (bA.mono ci.out.size);obtain⟨r,hb,bq,c5,g7⟩:=e6.o A V.o (aP R.o (fun g h=>bz.block g (aF R.o h).2)) (cu.o.of_block (bz.block _ cu.o.lt));have b1:=B.o _ bq.at_;have cv:=ah bq;have cp:=ah c5;clear bA bz bq c5))
    have hn:=cv.o.come;have fy:=b1.1;clear c8 ae af b1 ho hp hb;go_wp2_with(first
     |((with_reducible apply dj (ty:=320));exact rfl;exact rfl;exact rfl;assumption;exact eY;exact rfl;exact cX)
     |fail)
    refine(cN.o r).mono ?_;rintro o h0 ⟨rfl,bC⟩;clear hn fy g7;have bt:=cv.o.below bC;have t8:=bt.comeT;obtain⟨e7,cq⟩:=aD bt (aP cp.o (fun g h=>bC.block g (aF cp.o h).2));clear bt bC;go_wp2_with(first
     |(((with_reducible apply cQ (ty:=320));exact rfl;exact rfl;exact rfl;exact rfl;assumption;exact cX;exact fa _);intro hs b4;have cx:=ah (e7.o.wrote b4);have cs:=ah (aP cq.o (fun g h=>b4.block g (fun o=>by have:=(aF cq.o h).1;omega)));clear b4 t8)
     |fail)
    have ab:Hid (oO w l ws no nc RB FB SB OB G Fm so sc WM (false,m) (some ⟨O,P,none⟩) I (.int .i64 ((j:Int)+1)) hs):=ah ⟨j+1,rfl,by have:=a1.o;simp only at this⊢;omega,by rw[bV,c3.o,fF,wW,<-W.o,<-aq.o];exact cx.o,cs.o⟩;clear cx cs;go_roundw
    case rel=>exact ab.out
    case measure=>have:=a1.o;simp[intOf];omega
  ·have ed:(aC m).take j=aC m:=dh ad
   simp only at d;rw[ed]at d;have hq:=ai 0 (d.at_.cells d.at_.st.sb);have ez:Hid (rn w l ws no nc RB FB SB OB G Fm so sc WM (false,m) (.int .i64 0) (.slice none 0 0) wr):=ah ⟨0,rfl,aZ _,d,dc _ _ _ _⟩;have hN:(aC m).length<=j:=ad;clear d a5 ed
   go_wp2
   go_loopw [49,12] (fun M fN wq=>rn w l ws no nc RB FB SB OB G Fm so sc WM (false,m) M fN wq) (fun M _ _=>ws.length-(intOf M).toNat)
   case atStart=>exact ez.out
   case round=>
   clear ez hq;rename_i h2 _;obtain⟨k,rfl,hP,d,H⟩:=hrel;by_cases eg:k<ws.length
   ·obtain⟨x,bb⟩:∃x,ws[k]?=some x:=⟨_,aH eg⟩
    have a8:((cB l ws (false,m)).take k).length=k:=by unfold cB;rw[fm,cf];omega
    obtain⟨go,gc,rfl⟩:=bL H;have a7:=fun a=>zB (df l false (aC m)) (ofN l x l.length) a (oK _ _ _) (lN l x _ ad);have al:(cB l ws (false,m)).take (k+1)=(cB l ws (false,m)).take k++[(false,df l false (aC m)&&&ofN l x l.length)]:=by rw[bV];unfold cB;rw[bW,bb];rfl
    have ao:=d.come;have bc:=d.at_.of_ k x bb;have hi:=ai 0 (d.at_.cells d.at_.st.ob);obtain⟨e,F⟩:=ar (df l false (aC m));obtain⟨n,b0⟩:=ar (ofN l x l.length);simp only at d ao;rw[<-F]at a7 al d ao;rw[<-b0]at a7 al bc;obtain⟨fs,c7⟩:=ar ((cB l ws (false,m)).take k);rw[<-c7]at al a8 H;obtain⟨e9,fg,T,bf,fr,aq,e8,c1⟩:=s9 a7 al d H bb F b0 eg;have hW:(0:Int)<=k:=ad;have hX:(k:Int)<ws.length:=ad;obtain⟨hg,g0,hc,hd,he⟩:=cY z6;have K:∀w',Below (w.heap.size+2) wr w'->w'.rangeAt (w.heap.size+1) 0 (setRow e)/\w'.cell? ⟨OB,0,none⟩=some (.slice (some ⟨G,0,none⟩) ws.length ws.length)/\w'.rangeAt G (k*16) (setRow n):=fun w' D=>by have a4:=T.o.low D;refine⟨a4.come,ai 0 (a4.at_.cells a4.at_.st.ob),?_⟩;rw[e8.o];exact a4.at_.of_ k x fr.o
    have ba:=d.size;obtain⟨hD,B⟩:=aD H K;have a6:=K _ (aE _ wr).drew;obtain⟨hj,hk,hl⟩:=K _ (aE _ wr);have hT:=eY;have gv:(prog.info? 320).map (·.size)=some (setRow e).length:=cX;have gG:(prog.info? 320).map (·.size)=some (setRow n).length:=cX;have gr:∀w',(Instr.build 325 #[(1,.agg (setRow (e&&&n)).toArray)]).run prog w'=.ok (.agg (bx (false,e&&&n)).toArray) w':=fun _=>aA;have gs:=fun w'=>wQ (false,e&&&n) w';clear K a7 al d H bb F b0 c7 ao bc hi a8;go_wp2_with fail
    refine wp_region_held_drew (S:=(fun w'=>w'.rangeAt (w.heap.size+1) 0 (setRow e)/\w'.cell? ⟨OB,0,none⟩=some (.slice (some ⟨G,0,none⟩) ws.length ws.length)/\w'.rangeAt G (k*16) (setRow n))) aA a6 (fun u=> ?_);refine nL (i:=0) rfl u ?_;simp only[Act.put,aM,aN,aK];refine tL (i:=1) (v:=.agg (setRow e).toArray) rfl (pl (by rfl) _ _ rfl (w.heap.size+1) (0) rfl (setRow e) _ (fun _ z=>z.1) eY rfl cX) u ?_;simp only[Act.put,aM,aN,aK];refine nL (i:=2) rfl u ?_;simp only[Act.put,aM,aN,aK];refine nL (i:=3) rfl u ?_;simp only[Act.put,aM,aN,aK];refine nL (i:=4) rfl u ?_;simp only[Act.put,aM,aN,aK];refine tL (i:=5) (v:=.agg (setRow n).toArray) rfl (pl (by rfl) _ _ rfl (G) (k*16) rfl (setRow n) _ (fun _ z=>z.2.2) eY rfl cX) u ?_;simp only[Act.put,aM,aN,aK];refine uJ (rs:=[6]) aA ak ?_;refine uK rfl (fun c4 aa=> ?_) uL;go_simp;refine(e9.o _).mono ?_;rintro o E ⟨rfl,C⟩;have a3:Below wr.heap.size wr E:=(aE _ wr).drew.trans C;have Z:Below wr.heap.size wr (E.alloc (.cells (bx (false,e&&&n)).toArray 325)):=a3.alloc a3.size _;have ae:=B.o _ (a3.mono ba);have af:=B.o _ (Z.mono ba);have ev:=aP bf.o (fun g h=>Z.block g (aF bf.o h).2);have eo:=dK E (bx (false,e&&&n)) 325 _ rfl;have bF:w.heap.size+2<=(E.alloc (.cells (bx (false,e&&&n)).toArray 325)).heap.size:=aJ ba Z.size;have e5:=ah Z;clear C a3 Z;refine aa.out _ _ ae (fun u=> ?_);try simp only[Act.put,aM,aN,aK]
    refine tL (i:=7) (v:=.agg (bx (false,e&&&n)).toArray) rfl (Or.inl ⟨by rfl,fun h3 _=>aA⟩) u ?_;simp only[Act.put,aM,aN,aK];refine uJ (rs:=[8]) aA ak ?_;refine uK rfl (fun c4 aa=> ?_) uL;rw[ay (by rfl)];refine F1 (false,e&&&n) _ rfl rfl ?_;simp only[Act.put,aM,aN,aK];refine aa.out _ _ af (fun u=> ?_);try simp only[Act.put,aM,aN,aK]
    refine uJ (rs:=[9]) aA ak ?_;refine uK rfl (fun c4 aa=> ?_) uL;refine xY _ (by rfl) _ _ _ (by rfl) (w.heap.size+2) 325 hg _ 17 136 IR g0 hc hd he rfl ad (.slice go k gc) k (flatS fs) (by rfl) ev ⟨E.heap.size,0,none⟩ 1 1 (bx (false,e&&&n)) (by rfl) (by rfl) eo (pZ _) ad bI ad bF _ rfl ?_;intro fz fG r ew eb gl g8;have bB:Below (w.heap.size+2) wr r:=oI bF (e5.out.mono ba) eb (fun b o=>(aF bf.o o).1);refine aa.out _ _ (B.o _ bB) (fun u=> ?_);try simp only[Act.put,aM,aN,aK]
    refine nL (i:=10) rfl u ?_;simp only[Act.put,aM,aN,aK];refine wpAnyH_done aA ?_ _;have ab:Hid (rn w l ws no nc RB FB SB OB G Fm so sc WM (false,m) (.int .i64 ((k:Int)+1)) (.slice (some ⟨fz,0,none⟩) (k+1) fG) r):=ah ⟨k+1,rfl,by have:=c1.o;omega,by simp only;rw[<-aq.o];exact T.o.low bB,by rw[fg.o,zY];simpa[flatS]using ew⟩;clear ew eb gl g8 bB ev eo bF ae af u a6 hj hk hl gv gG gr gs
    go_wp2
    go_roundw
    case rel=>exact ab.out
    case measure=>have:=c1.o;simp[intOf];omega
   ·have g2:k=ws.length:=ad
    subst g2;have gu:Hid (wR Fm (eX l ws no nc RB FB SB OB G Fm so sc WM) (cB l ws) (false,m) w (.returned u12) wr):=ah (by
     have a8:(cB l ws (false,m)).length=ws.length:=by unfold cB;simp
     rw[<-a8,kH]at H;exact⟨⟨u12,rfl,dR H (rP _ 2)⟩,d.grown,d.at_⟩)
    clear d H
    go_wp2
    go_ret;exact gu.out
 |true=>
  have hE:Hid (fk w l ws no nc RB FB SB OB G Fm so sc WM 0 eE):=ah ⟨cd.o,e2.out,t1,bJ e0.out _,ad,ht.o⟩;have hA:=Ni l no nc eE cd.o.gl fT g3 cd.o.nodes;have hw:=ah hA;have hR:(aC (cE (aQ l (l.length-1)))).length<=1048576:=by unfold aC;exact aJ (lq _ _) ak
  clear t1 hA;go_enter func241,ntmps241
  go_wp2_with(first
   |(rw[<-ch];clear ch)
   |fail)
  refine hw.o.mono ?_;rintro o h1 ⟨⟨v,rfl,y⟩,fu⟩;obtain⟨eD,eC,rfl⟩:=bL y;have hz:=td (aC (cE (aQ l (l.length-1)))) eD eC h1 (jx y) hR (fun q ex=>(iA ex).1);obtain⟨hv,hG⟩:=aD hz (hE.o.below fu);have hC:=(fu.block _ (ax ce.out)).trans ce.out;have hx:=ah hC;clear hz y fu hC fw hy hw;go_wp2_with fail
  refine hv.o.mono ?_;rintro o h5 ⟨rfl,fv⟩;have hu:=ah (hG.o.below fv);have hZ:=hu.o.comeT;have hJ:=ah ((fv.block _ (ax hx.out)).trans hx.out);clear fv hv;go_wp2_with(first
   |((with_reducible apply dj (ty:=320));exact rfl;exact rfl;exact rfl;assumption;exact eY;exact rfl;exact cX)
   |(((with_reducible apply cQ (ty:=320));exact rfl;exact rfl;exact rfl;exact rfl;assumption;exact cX;exact fa _);intro eN gg;have Q:=ah (hu.o.wrote gg);have bd:=ah ((gg.block _ ad).trans hJ.out);have bc:=Al bd.out;clear gg hZ)
   |fail)
  have Q:Hid (fk w l ws no nc RB FB SB OB G Fm so sc WM (df l true []) eN):=Q;have bl:=Q.o;have b8:=e1.o.1;unfold jz at b8;have ek:=EE m eN bl.at_.gl b8;have c2:=ah ek;have hQ:=bl.lo;clear ek b8 bl;refine c2.o.mono ?_;rintro o hr ⟨⟨v,rfl,y⟩,bu⟩;clear c2;obtain⟨eA,I,rfl⟩:=bL y;have hM:(aC m).length<=64:=by unfold aC;exact aJ (lq _ _) ak
  have ec:Hid (oO w l ws no nc RB FB SB OB G Fm so sc WM (true,m) eA I (.int .i64 0) hr):=ah ⟨0,rfl,aZ _,Q.o.below bu,dR y (by have:=Q.o.size;omega)⟩;have eV:=(bu.block _ (ax bd.out)).trans bd.out;have hI:=ah eV;clear y bu eV bc Q bd ce e2 e0 cd
  go_wp2
  go_loopw [23] (fun M wr=>oO w l ws no nc RB FB SB OB G Fm so sc WM (true,m) eA I M wr) (fun M _=>(aC m).length-(intOf M).toNat)
  case atStart=>exact ec.out
  case round=>
  clear ec;obtain⟨j,rfl,g1,d,a5⟩:=hrel;by_cases b6:j<(aC m).length
  ·obtain⟨p,a9⟩:∃p,(aC m)[j]?=some p:=⟨_,aH b6⟩
   have ca:=iA (aX a9);obtain⟨hh,en,es⟩:=e1.o.2 p ca.2;obtain⟨O,P,rfl,hS,eZ⟩:=kh.at (jx a5) a9;obtain⟨bE,f,b9,c9,ds⟩:=d.at_.map;have b7:keyOf prog 3 (.int .i64 (p:Nat))=some (.int .i64 (p:Nat)):=pj cU (kM ad);have N:=b9.look_ok (gw cU) qq (rm wr) dH b7;have c6:=ai 0 (d.at_.cells d.at_.st.fb);obtain⟨eU,an⟩:=ar (wr.alloc (.cells #[.int .u64 0,.int .u64 0,.int .u64 0,.int .u64 0,.int .u64 0,.int .u64 0,.int .u64 0,.int .u64 0,.int .u64 0,.int .u64 0,.int .u64 0,.int .u64 0,.int .u64 0,.int .u64 0,.int .u64 0,.int .u64 0] 320));obtain⟨bD,_,cc,cb⟩:=qO wr;rw[<-an]at bD cc cb;have hU:(0:Int)<=j:=ad;have hV:(j:Int)<((aC m).length:Int):=ad;have b5:=fun a=>wJ (df l true ((aC m).take j)) (dq (aC (cK l p))) a (oK _ _ _) (tE _);obtain⟨e,F⟩:=ar (df l true ((aC m).take j));obtain⟨Y,bZ⟩:=ar (dq (aC (cK l p)));rw[<-F,<-bZ]at b5;rw[<-F]at d;obtain⟨cN,aq,W,a1,c3,fq,fd,fo,T,av⟩:=ju b5 F bZ b6 a9 ca en es d a5;obtain⟨a2,cG,c0,bi,cF,hH⟩:=g6 b9 c9 ds b7 bD cb;clear b6 a9 ca en es d a5 b9 c9 ds b7 bD cb g1 b5 F bZ;cases L:f (.int .i64 (p:Nat))with
   |some v=>
    have y:=c0.o p v L;rw[<-W.o]at y;subst y;rw[L]at N;simp only[qj,BK]at N;have be:Hid (∀a,dU eU a wr.heap.size 0 (setRow Y)->fk w l ws no nc RB FB SB OB G Fm so sc WM e a/\cW a (w.heap.size+2) (.slice (some ⟨O,P,none⟩) (aC m).length I) (aC m)/\(Instr.lookup 323 (.map (some Fm)) (.int .i64 (p:Nat)) false).run prog a=.ok (.agg (setRow Y).toArray) a):=fun a b2=>by have D:=b2.below cF.o (az _);have g9:=a2.o.of_block (D.block _ a2.o.lt);have J:=g9.look (gw cU) qq (rm a) dH bi.o;rw[L]at J;exact⟨T.o.below D,aP av.o (fun g h=>D.block g (aF av.o h).2),J⟩
    clear L;go_wp2_with(first
     |(rw[<-an];clear an)
     |((with_reducible apply dj (ty:=320));exact rfl;exact rfl;exact rfl;assumption;exact eY;exact rfl;exact cX)
     |(((with_reducible apply cQ (ty:=320));exact rfl;exact rfl;exact rfl;exact rfl;assumption;exact cX;exact fa _);intro a ag;obtain⟨t,X,g5⟩:=be.o a ag;have hm:=t.come;have fx:=ai 0 (t.at_.cells t.at_.st.fb);have bg:=ah t;have R:=ah X;clear t X ag cc N eZ c6)
     |fail)
    refine(cN.o a).mono ?_;rintro o E ⟨rfl,C⟩;clear hm fx g5;have bo:=bg.o.below C;have t5:=bo.comeT;obtain⟨a0,cl⟩:=aD bo (aP R.o (fun g h=>C.block g (aF R.o h).2));clear bo C;go_wp2_with(first
     |(((with_reducible apply cQ (ty:=320));exact rfl;exact rfl;exact rfl;exact rfl;assumption;exact cX;exact fa _);intro A b3;have V:=ah (a0.o.wrote b3);have co:=ah (aP cl.o (fun g h=>b3.block g (fun o=>by have:=(aF cl.o h).1;omega)));clear b3 t5)
     |fail)
    have ab:Hid (oO w l ws no nc RB FB SB OB G Fm so sc WM (true,m) (some ⟨O,P,none⟩) I (.int .i64 ((j:Int)+1)) A):=ah ⟨j+1,rfl,by have:=a1.o;simp only at this⊢;omega,by rw[bV,c3.o,fF,wW,<-W.o,<-aq.o];exact V.o,co.o⟩;clear V co;go_roundw
    case rel=>exact ab.out
    case measure=>have:=a1.o;simp[intOf];omega
   |none=>
    rw[L]at N;simp only[xV,xW]at N;have fc:=ah L;have g4:(aC (cK l p)).length<=1048576:=by unfold aC;exact aJ (lq _ _) ak
    have be:Hid (∀a,dU eU a wr.heap.size 0 (setRow 0)->fk w l ws no nc RB FB SB OB G Fm so sc WM e a/\cW a (w.heap.size+2) (.slice (some ⟨O,P,none⟩) (aC m).length I) (aC m)/\bp a prog 3 Fm bE f):=fun a b2=>by have D:=b2.below cF.o (az _);exact⟨T.o.below D,aP av.o (fun g h=>D.block g (aF av.o h).2),a2.o.of_block (D.block _ a2.o.lt)⟩
    have K:∀w',eX l ws no nc RB FB SB OB G Fm so sc WM w'->w'.cell? ⟨FB,0,none⟩=some (.map (some Fm))/\w'.cell? ⟨RB,0,none⟩=some (.slice no l.length nc):=fun w' z=>⟨ai 0 (z.cells z.st.fb),ai 0 (z.cells z.st.rb)⟩;have B:=ah K;have e6:Hid (∀A,fk w l ws no nc RB FB SB OB G Fm so sc WM e A->cW A (w.heap.size+2) (.slice (some ⟨O,P,none⟩) (aC m).length I) (aC m)->bp A prog 3 Fm bE f->∃r,(Instr.mapUpdate 323 (.map (some Fm)) (.int .i64 (p:Nat)) (.agg (setRow Y).toArray)).run prog A=.ok () r/\fk w l ws no nc RB FB SB OB G Fm so sc WM e r/\cW r (w.heap.size+2) (.slice (some ⟨O,P,none⟩) (aC m).length I) (aC m)/\(Instr.lookup 323 (.map (some Fm)) (.int .i64 (p:Nat)) false).run prog r=.ok (.agg (setRow Y).toArray) r):=fun A gb bN el=>by obtain⟨r,ha,em,dr,_⟩:=el.set (gw cU) qq (by have:=cG.o;have:=F3 f;unfold maxLen;omega) (val:=.agg (setRow Y).toArray) dH bi.o;have J:=em.look (gw cU) qq (rm r) dH bi.o;rw[jw]at J;have ea:=F5 c0.o p;rw[<-W.o]at ea;have gf:=gb.mapped dr ⟨bE+1,_,em,by rw[F4 fq.o.1 fc.o];have:=cG.o;omega,ea⟩;obtain⟨hL,c,ga⟩:=el.block;exact⟨r,ha,gf,aP bN (fun g h=>dr.block g (aF bN h).2 (fun o=>by injection o with o;exact kD bN ga (by rw[h,o]))),J⟩
    clear L K;go_wp2_with(first
     |(rw[<-an];clear an)
     |((with_reducible apply dj (ty:=320));exact rfl;exact rfl;exact rfl;assumption;exact eY;exact rfl;exact cX)
     |(((with_reducible apply cQ (ty:=320));exact rfl;exact rfl;exact rfl;exact rfl;assumption;exact cX;exact fa _);intro a ag;obtain⟨t,X,eB⟩:=be.o a ag;have bg:=ah t;have R:=ah X;have cu:=ah eB;have c8:=B.o _ (t.at_.after (aE _ a).drew);have a6:=B.o _ t.at_;have er:=Ex l no nc p hh a.drew ((t.at_.after (aE _ a).drew).gl) fd.o fo.o fT g3 ((t.at_.after (aE _ a).drew).nodes);have fl:=ah er;clear t X eB ag cc N eZ c6 er)
     |fail)
    obtain⟨ho,hp⟩:=a6;go_region_held3(fun w'=>w'.cell? ⟨FB,0,none⟩=some (.map (some Fm))/\w'.cell? ⟨RB,0,none⟩=some (.slice no l.length nc))
     (first|exact b1|exact af|exact ae|exact c8)
     (first
       |(go_at_call 244;refine fl.o.mono ?_;rintro o E ⟨⟨v,rfl,y⟩,C⟩;obtain⟨eD,eC,rfl⟩:=bL y;have bw:Below a.heap.size a E:=(aE _ a).drew.trans C;have a0:=ah (bg.o.below bw);have ae:=B.o _ a0.o.at_;have fb:=ah (td (aC (cK l p)) eD eC E (jx y) g4 (fun q ex=>(iA ex).1));have ci:=ah bw;clear y C bw)
       |(go_at_call 239;refine fb.o.mono ?_;rintro o A ⟨rfl,bA⟩;rw[<-W.o];have V:=ah (a0.o.below bA);have af:=B.o _ V.o.at_;have bz:Below a.heap.size a A:=ci.out.trans (bA.mono ci.out.size);obtain⟨r,hb,bq,c5,g7⟩:=e6.o A V.o (aP R.o (fun g h=>bz.block g (aF R.o h).2)) (cu.o.of_block (bz.block _ cu.o.lt));have b1:=B.o _ bq.at_;have cv:=ah bq;have cp:=ah c5;clear bA bz bq c5))
    have hn:=cv.o.come;have fy:=b1.1;clear c8 ae af b1 ho hp hb;go_wp2_with(first
     |((with_reducible apply dj (ty:=320));exact rfl;exact rfl;exact rfl;assumption;exact eY;exact rfl;exact cX)
     |fail)
    refine(cN.o r).mono ?_;rintro o h0 ⟨rfl,bC⟩;clear hn fy g7;have bt:=cv.o.below bC;have t8:=bt.comeT;obtain⟨e7,cq⟩:=aD bt (aP cp.o (fun g h=>bC.block g (aF cp.o h).2));clear bt bC;go_wp2_with(first
     |(((with_reducible apply cQ (ty:=320));exact rfl;exact rfl;exact rfl;exact rfl;assumption;exact cX;exact fa _);intro hs b4;have cx:=ah (e7.o.wrote b4);have cs:=ah (aP cq.o (fun g h=>b4.block g (fun o=>by have:=(aF cq.o h).1;omega)));clear b4 t8)
     |fail)
    have ab:Hid (oO w l ws no nc RB FB SB OB G Fm so sc WM (true,m) (some ⟨O,P,none⟩) I (.int .i64 ((j:Int)+1)) hs):=ah ⟨j+1,rfl,by have:=a1.o;simp only at this⊢;omega,by rw[bV,c3.o,fF,wW,<-W.o,<-aq.o];exact cx.o,cs.o⟩;clear cx cs;go_roundw
    case rel=>exact ab.out
    case measure=>have:=a1.o;simp[intOf];omega
  ·have ed:(aC m).take j=aC m:=dh ad
   simp only at d;rw[ed]at d;have hq:=ai 0 (d.at_.cells d.at_.st.sb);have ez:Hid (rn w l ws no nc RB FB SB OB G Fm so sc WM (true,m) (.int .i64 0) (.slice none 0 0) wr):=ah ⟨0,rfl,aZ _,d,dc _ _ _ _⟩;have hN:(aC m).length<=j:=ad;clear d a5 ed
   go_wp2
   go_loopw [49,12] (fun M fN wq=>rn w l ws no nc RB FB SB OB G Fm so sc WM (true,m) M fN wq) (fun M _ _=>ws.length-(intOf M).toNat)
   case atStart=>exact ez.out
   case round=>
   clear ez hq;rename_i h2 _;obtain⟨k,rfl,hP,d,H⟩:=hrel;by_cases eg:k<ws.length
   ·obtain⟨x,bb⟩:∃x,ws[k]?=some x:=⟨_,aH eg⟩
    have a8:((cB l ws (true,m)).take k).length=k:=by unfold cB;rw[fm,cf];omega
    obtain⟨go,gc,rfl⟩:=bL H;have a7:=fun a=>zB (df l true (aC m)) (ofN l x l.length) a (oK _ _ _) (lN l x _ ad);have al:(cB l ws (true,m)).take (k+1)=(cB l ws (true,m)).take k++[(false,df l true (aC m)&&&ofN l x l.length)]:=by rw[bV];unfold cB;rw[bW,bb];rfl
    have ao:=d.come;have bc:=d.at_.of_ k x bb;have hi:=ai 0 (d.at_.cells d.at_.st.ob);obtain⟨e,F⟩:=ar (df l true (aC m));obtain⟨n,b0⟩:=ar (ofN l x l.length);simp only at d ao;rw[<-F]at a7 al d ao;rw[<-b0]at a7 al bc;obtain⟨fs,c7⟩:=ar ((cB l ws (true,m)).take k);rw[<-c7]at al a8 H;obtain⟨e9,fg,T,bf,fr,aq,e8,c1⟩:=s9 a7 al d H bb F b0 eg;have hW:(0:Int)<=k:=ad;have hX:(k:Int)<ws.length:=ad;obtain⟨hg,g0,hc,hd,he⟩:=cY z6;have K:∀w',Below (w.heap.size+2) wr w'->w'.rangeAt (w.heap.size+1) 0 (setRow e)/\w'.cell? ⟨OB,0,none⟩=some (.slice (some ⟨G,0,none⟩) ws.length ws.length)/\w'.rangeAt G (k*16) (setRow n):=fun w' D=>by have a4:=T.o.low D;refine⟨a4.come,ai 0 (a4.at_.cells a4.at_.st.ob),?_⟩;rw[e8.o];exact a4.at_.of_ k x fr.o
    have ba:=d.size;obtain⟨hD,B⟩:=aD H K;have a6:=K _ (aE _ wr).drew;obtain⟨hj,hk,hl⟩:=K _ (aE _ wr);have hT:=eY;have gv:(prog.info? 320).map (·.size)=some (setRow e).length:=cX;have gG:(prog.info? 320).map (·.size)=some (setRow n).length:=cX;have gr:∀w',(Instr.build 325 #[(1,.agg (setRow (e&&&n)).toArray)]).run prog w'=.ok (.agg (bx (false,e&&&n)).toArray) w':=fun _=>aA;have gs:=fun w'=>wQ (false,e&&&n) w';clear K a7 al d H bb F b0 c7 ao bc hi a8;go_wp2_with fail
    refine wp_region_held_drew (S:=(fun w'=>w'.rangeAt (w.heap.size+1) 0 (setRow e)/\w'.cell? ⟨OB,0,none⟩=some (.slice (some ⟨G,0,none⟩) ws.length ws.length)/\w'.rangeAt G (k*16) (setRow n))) aA a6 (fun u=> ?_);refine nL (i:=0) rfl u ?_;simp only[Act.put,aM,aN,aK];refine tL (i:=1) (v:=.agg (setRow e).toArray) rfl (pl (by rfl) _ _ rfl (w.heap.size+1) (0) rfl (setRow e) _ (fun _ z=>z.1) eY rfl cX) u ?_;simp only[Act.put,aM,aN,aK];refine nL (i:=2) rfl u ?_;simp only[Act.put,aM,aN,aK];refine nL (i:=3) rfl u ?_;simp only[Act.put,aM,aN,aK];refine nL (i:=4) rfl u ?_;simp only[Act.put,aM,aN,aK];refine tL (i:=5) (v:=.agg (setRow n).toArray) rfl (pl (by rfl) _ _ rfl (G) (k*16) rfl (setRow n) _ (fun _ z=>z.2.2) eY rfl cX) u ?_;simp only[Act.put,aM,aN,aK];refine uJ (rs:=[6]) aA ak ?_;refine uK rfl (fun c4 aa=> ?_) uL;go_simp;refine(e9.o _).mono ?_;rintro o E ⟨rfl,C⟩;have a3:Below wr.heap.size wr E:=(aE _ wr).drew.trans C;have Z:Below wr.heap.size wr (E.alloc (.cells (bx (false,e&&&n)).toArray 325)):=a3.alloc a3.size _;have ae:=B.o _ (a3.mono ba);have af:=B.o _ (Z.mono ba);have ev:=aP bf.o (fun g h=>Z.block g (aF bf.o h).2);have eo:=dK E (bx (false,e&&&n)) 325 _ rfl;have bF:w.heap.size+2<=(E.alloc (.cells (bx (false,e&&&n)).toArray 325)).heap.size:=aJ ba Z.size;have e5:=ah Z;clear C a3 Z;refine aa.out _ _ ae (fun u=> ?_);try simp only[Act.put,aM,aN,aK]
    refine tL (i:=7) (v:=.agg (bx (false,e&&&n)).toArray) rfl (Or.inl ⟨by rfl,fun h3 _=>aA⟩) u ?_;simp only[Act.put,aM,aN,aK];refine uJ (rs:=[8]) aA ak ?_;refine uK rfl (fun c4 aa=> ?_) uL;rw[ay (by rfl)];refine F1 (false,e&&&n) _ rfl rfl ?_;simp only[Act.put,aM,aN,aK];refine aa.out _ _ af (fun u=> ?_);try simp only[Act.put,aM,aN,aK]
    refine uJ (rs:=[9]) aA ak ?_;refine uK rfl (fun c4 aa=> ?_) uL;refine xY _ (by rfl) _ _ _ (by rfl) (w.heap.size+2) 325 hg _ 17 136 IR g0 hc hd he rfl ad (.slice go k gc) k (flatS fs) (by rfl) ev ⟨E.heap.size,0,none⟩ 1 1 (bx (false,e&&&n)) (by rfl) (by rfl) eo (pZ _) ad bI ad bF _ rfl ?_;intro fz fG r ew eb gl g8;have bB:Below (w.heap.size+2) wr r:=oI bF (e5.out.mono ba) eb (fun b o=>(aF bf.o o).1);refine aa.out _ _ (B.o _ bB) (fun u=> ?_);try simp only[Act.put,aM,aN,aK]
    refine nL (i:=10) rfl u ?_;simp only[Act.put,aM,aN,aK];refine wpAnyH_done aA ?_ _;have ab:Hid (rn w l ws no nc RB FB SB OB G Fm so sc WM (true,m) (.int .i64 ((k:Int)+1)) (.slice (some ⟨fz,0,none⟩) (k+1) fG) r):=ah ⟨k+1,rfl,by have:=c1.o;omega,by simp only;rw[<-aq.o];exact T.o.low bB,by rw[fg.o,zY];simpa[flatS]using ew⟩;clear ew eb gl g8 bB ev eo bF ae af u a6 hj hk hl gv gG gr gs
    go_wp2
    go_roundw
    case rel=>exact ab.out
    case measure=>have:=c1.o;simp[intOf];omega
   ·have g2:k=ws.length:=ad
    subst g2;have gu:Hid (wR Fm (eX l ws no nc RB FB SB OB G Fm so sc WM) (cB l ws) (true,m) w (.returned u12) wr):=ah (by
     have a8:(cB l ws (true,m)).length=ws.length:=by unfold cB;simp
     rw[<-a8,kH]at H;exact⟨⟨u12,rfl,dR H (rP _ 2)⟩,d.grown,d.at_⟩)
    clear d H
    go_wp2
    go_ret;exact gu.out
end Go.Proofs.YtnadadbndcdolaaGreatDoor
