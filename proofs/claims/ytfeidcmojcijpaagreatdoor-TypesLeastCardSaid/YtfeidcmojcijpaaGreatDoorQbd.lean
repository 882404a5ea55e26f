import Derived.Test.YtfeidcmojcijpaaGreatDoorQbc
set_option linter.all false
set_option maxRecDepth 100000
set_option maxHeartbeats 0
namespace Go.Proofs.YtfeidcmojcijpaaGreatDoor
open Go.RowKit Tryz
def G3{b:Oper}{a w K Q} s y(d:b.op=.buildSlice 240 1 #[(0,y)])(f:a.eval y=.agg (bx s))
 (c:K (a.put b.dst (.slice w 1 1)) (cT w (bx s) 239)):b.wp prog a w K Q:=by
 unfold Oper.wp execOp;simp only[d,Dq,wR];have e:(#[(0,y)]:Array (Nat×Operand)).map (fun p=>(p.1,a.eval p.2))=#[(0,.agg (bx s).toArray)]:=by simp[f]
 rw[e,yG];exact c
def yL(l:List ax)(f:Lit->Option Value):Prop:=∀q v,f (.int .i64 (q:Nat))=some v->v=.agg (setRow (dS (aG (dO l q))))
def rM(f:Lit->Option Value):Nat:=((List.range 64).filter fun p=>(f (.int .i64 (p:Nat))).isSome)
structure Sb(l:List ax)(ws:List Bytes)(no:Option Addr)(nc RB FB SB OB G Fm:Nat)(so:Option Addr)(sc:Nat)(w:World):Prop where
 gl:Gl w
 E:dv w no nc l
 rb:w.heap[RB]?=some (.cells #[.slice no l.length nc] 52)
 fb:w.heap[FB]?=some (.cells #[.map (some Fm)] 237)
 sb:w.heap[SB]?=some (.cells #[.slice so ws.length sc] 53)
 ob:w.heap[OB]?=some (.cells #[.slice (some ⟨G,0,none⟩) ws.length ws.length] 232)
 of_:∀k x,ws[k]?=some x->w.rangeAt G (k*16) (setRow (ofN l x l.length))
 map:∃es c,w.heap[Fm]?=some (.map es c)
structure fJ(l:List ax)(ws:List Bytes)(no:Option Addr)(nc RB FB SB OB G Fm:Nat)(so:Option Addr)(sc:Nat)(WM w:World):Prop where
 st:Sb l ws no nc RB FB SB OB G Fm so sc WM
 zu:WM.grownBy w (some Fm)
 map:∃cnt f,bV w prog 3 Fm cnt f/\cnt<=rM f/\yL l f
def qi{w w':World}{b o cs}(a:w.rangeAt b o cs)(c:w'.heap[b]?=w.heap[b]?):w'.rangeAt b o cs:=fun j v hv=>(ej c).Z (a j v hv)
section
variable{WM w w':World} {l:List ax} {ws:List Bytes} {no:Option Addr} {nc RB FB SB OB G Fm:Nat} {so:Option Addr} {sc:Nat}
def fJ.cell(d:fJ l ws no nc RB FB SB OB G Fm so sc WM w){b o:Nat}{v:Value}(a:WM.cell? ⟨b,o,none⟩=some v):w.cell? ⟨b,o,none⟩=some v:=by
 obtain⟨h,c,f⟩:=d.st.map;have g:b≠Fm:=fun e=>by subst e;rw[vi f rfl]at a;cases a
 exact(ej (d.zu.J b (Dt WM _ a) (fun e=>g (by injection e)))).Z a
def fJ.cells(f:fJ l ws no nc RB FB SB OB G Fm so sc WM w){b e:Nat}{cs:Array Value}{d:Nat×Nat}(a:WM.heap[b]?=some (.cells cs e d)):w.heap[b]?=some (.cells cs e d):=by obtain⟨h,c,g⟩:=f.st.map;exact(f.zu.J b (aI a) (fun e=>by injection e with e;rw[e,g]at a;cases a)).Z a
def fJ.E(c:fJ l ws no nc RB FB SB OB G Fm so sc WM w):dv w no nc l:=by have a:=c.st.E;refine⟨a.1,a.2.1,a.2.2.1,fun h=> ?_⟩;obtain⟨b,i,e,g,d⟩:=a.2.2.2 h;exact⟨b,i,e,eU g c.zu.size,fun j u f=>c.cell (d j u f)⟩
def fJ.gl(a:fJ l ws no nc RB FB SB OB G Fm so sc WM w):Gl w:=
 ⟨eU a.st.gl.tab0 a.zu.size,fun j b=>a.cell (a.st.gl.tab j b)⟩
def fJ.of_(a:fJ l ws no nc RB FB SB OB G Fm so sc WM w)(k:Nat)(x:Bytes)(b:ws[k]?=some x):w.rangeAt G (k*16) (setRow (ofN l x l.length)):=fun j v hv=>a.cell (a.st.of_ k x b j v hv)
def fJ.lt(a:fJ l ws no nc RB FB SB OB G Fm so sc WM w):Fm<WM.heap.size:=by obtain⟨d,c,b⟩:=a.st.map;exact aI b
def fJ.O(a:fJ l ws no nc RB FB SB OB G Fm so sc WM w)(b:Below WM.heap.size w w'):fJ l ws no nc RB FB SB OB G Fm so sc WM w':=by obtain⟨d,f,e,g,h⟩:=a.map;exact⟨a.st,⟨b.os.Z a.zu.os,b.tape.Z a.zu.tape,b.output.Z a.zu.output,aW a.zu.size b.size,fun k c i=>(b.J k c).Z (a.zu.J k c i)⟩,⟨d,f,e.of_block (b.J _ a.lt),g,h⟩⟩
def fJ.after(a:fJ l ws no nc RB FB SB OB G Fm so sc WM w)(b:Below w.heap.size w w'):fJ l ws no nc RB FB SB OB G Fm so sc WM w':=a.O (b.zz a.zu.size)
end
def qj(w:World)(s:St):World:=cT (w.alloc (.cells (bx s) 239)) fe 233
def Sc w s:aR w (qj w s)/\(qj w s)=w.heap.size+2/\(qj w s).heap[w.heap.size]?=some (.cells (bx s) 239)/\(qj w s).rangeAt (w+1) 0 (setRow 0)/\(qj w s).there (w+1) 0 16:=by obtain⟨a,b,t1,d⟩:=ti (cT w (bx s) 239);rw[bP]at b t1 a;have c:=d;rw[bP (w:=w)]at c;unfold qj;refine⟨aP.Z (a.zz ad),c,(a.J _ ad).Z (aN w _),b,t1⟩
def tD w:(zeroValue 233).run prog w=.ok (.agg (setRow 0)) w:=az
def BY{w:World}{b s}(a:kq w b (bx s) 239):w.rangeAt b 1 (setRow s.2):=fun j v hv=>by have c:=pX a _ v (by unfold bx;rw[jw];exact hv);rw[show 1+j=0+(j+1) by omega];exact c
structure gj(w:World)(l:List ax)(ws:List Bytes)(no:Option Addr)(nc RB FB SB OB G Fm:Nat)(so:Option Addr)(sc:Nat)(WM:World)(c:Nat)(wr:World):Prop where
 at_:fJ l ws no nc RB FB SB OB G Fm so sc WM wr
 come:wr.rangeAt (w.heap.size+1) 0 (setRow c)
 comeT:wr.there (w.heap.size+1) 0 16
 zu:w.grownBy wr (some Fm)
 size:w.heap.size+2<=wr.heap.size
 lo:WM.heap.size<=w.heap.size
section
variable{WM w wr wq:World} {l:List ax} {ws:List Bytes} {no:Option Addr} {nc RB FB SB OB G Fm:Nat} {so:Option Addr} {sc c:Nat}
def gj.O(a:gj w l ws no nc RB FB SB OB G Fm so sc WM c wr)(b:Below wr.heap.size wr wq):gj w l ws no nc RB FB SB OB G Fm so sc WM c wq:=
 ⟨a.at_.after b,jA a.come b,kr a.comeT b,a.zu.Z (bL b _),aW a.size b.size,a.lo⟩
def gj.low(a:gj w l ws no nc RB FB SB OB G Fm so sc WM c wr)(b:Below (w.heap.size+2) wr wq):gj w l ws no nc RB FB SB OB G Fm so sc WM c wq:=by have h:=a.lo;have e:=b.J (w+1) ad;refine⟨a.at_.O (b.zz ad),qi a.come e,fun j g=> ?_,⟨b.os.Z a.zu.os,b.tape.Z a.zu.tape,b.output.Z a.zu.output,aW a.zu.size b.size,fun k d f=>(b.J k ad).Z (a.zu.J k d f)⟩,aW a.size b.size,h⟩;obtain⟨d,f⟩:=a.comeT j g;exact⟨by rw[ej e];exact d,by rw[ug e];exact f⟩
def gj.mapped(a:gj w l ws no nc RB FB SB OB G Fm so sc WM c wr)(b:wr.grownBy wq (some Fm))(n:∃d f,bV wq prog 3 Fm d f/\d<=rM f/\yL l f):gj w l ws no nc RB FB SB OB G Fm so sc WM c wq:=by have p:=a.at_.lt;have o:=a.size;have m:=a.lo;refine⟨⟨a.at_.st,a.at_.zu.Z b,n⟩,qi a.come (b.J _ ad (fun e=>by injection e with e;omega)),fun j i=> ?_,a.zu.Z b,aW o b.size,m⟩;obtain⟨g,h⟩:=a.comeT j i;have e:=b.J (w.heap.size+1) ad (fun e=>by injection e with e;omega);exact⟨by rw[ej e];exact g,by rw[ug e];exact h⟩
def G4 f:rM f<=64:=by unfold rM;exact aW (lf _ _) aj
def G5{f p}(c:p<64)(b:f (.int .i64 p)=none) v:rM (il f (.int .i64 (p:Nat)) v)=rM f+1:=by
 unfold rM;have:=Bl (fun q=>(f (.int .i64 (q:Nat))).isSome) (fun q=>(il f (.int .i64 (p:Nat)) v (.int .i64 (q:Nat))).isSome) p (by simp[b]) (fun q=>by by_cases e:q=p;subst e;rw[kt];simp;have:(Lit.int .i64 q)≠ .int .i64 p:=fun a=>e (by injection a with _ a;omega);rw[mj _ _ this];simp[e]) 64
 rw[au c]at this;omega
def G6{l f}(b:yL l f) p:yL l (il f (.int .i64 (p:Nat)) (.agg (setRow (dS (aG (dO l p)))))):=fun q v hv=>by
 by_cases e:q=p;subst e;rw[kt]at hv;injection hv with hv
 exact hv.zy;have:(Lit.int .i64 q)≠ .int .i64 p:=fun a=>e (by injection a with _ a;omega);rw[mj _ _ this]at hv;exact b q v hv
def gj.wrote(a:gj w l ws no nc RB FB SB OB G Fm so sc WM c wr){q:Nat}(d:gV wr wq (w.heap.size+1) 0 (setRow q)):gj w l ws no nc RB FB SB OB G Fm so sc WM q wq:=by have h:=a.size;have f:=a.lo;have b:Below w.heap.size wr wq:=d.O ((aA wr.heap.size wr).zz ad) ad;exact⟨a.at_.O (b.zz f),d.zn,d.there a.comeT,⟨b.os.Z a.zu.os,b.tape.Z a.zu.tape,b.output.Z a.zu.output,aW a.zu.size b.size,fun k e g=>(b.J k e).Z (a.zu.J k e g)⟩,by have:=b.size;omega,f⟩
end
def qk(w:World)(l:List ax)(ws:List Bytes)(no:Option Addr)(nc RB FB SB OB G Fm:Nat)(so:Option Addr)(sc:Nat)(WM:World)(s:St)(c:Option Addr)(b:Nat)(a:Value)(wr:World):Prop:=
 ∃j,a=.int .i64 (j:Nat)/\j<=(aG s.2)/\gj w l ws no nc RB FB SB OB G Fm so sc WM (dH l s.1 ((aG s.2).take j)) wr/\bW wr (w+2) (.slice c (aG s.2) b) (aG s.2)
def tE(w:World)(l:List ax)(ws:List Bytes)(no:Option Addr)(nc RB FB SB OB G Fm:Nat)(so:Option Addr)(sc:Nat)(WM:World)(s:St)(b a:Value)(wr:World):Prop:=
 ∃k,b=.int .i64 (k:Nat)/\k<=ws/\gj w l ws no nc RB FB SB OB G Fm so sc WM (dH l s.1 (aG s.2)) wr/\wr.ownsRow (w+2) 239 17 a k (flatS ((cD l ws s).take k))
def Sd l ws no nc RB FB SB OB G Fm so sc(fy:bK l=0)(gl:l.length<=60)(a:ws.length<=64) s(h:mx l s) WM w(u:fJ l ws no nc RB FB SB OB G Fm so sc WM w):
 dB 154 #[.agg (bx s),RB,FB,SB,OB] w (yH Fm (fJ l ws no nc RB FB SB OB G Fm so sc WM) (cD l ws) s w):=by
 obtain⟨w1,cq⟩:=am (qj w s);obtain⟨a,n,d,ao,t1⟩:=Sc w s;rw[<-cq]at a n d ao t1;have H:=u.after a;have fq:gC w1 _ 0 (.bool s.1):=ak 0 d;have hp:=ak 0 (H.cells H.st.rb);unfold qj at cq;have⟨hj,co,cp,e0,eE,eZ⟩:=iL u.zu.size H d ao a h;clear H d ao a h u;obtain⟨a,m⟩:=s;simp only at fq;cases a with
 |false=>
  have bd:=BY cp.out;have Q:Hid (gj w l ws no nc RB FB SB OB G Fm so sc WM (dH l false []) w1):=ah ⟨co.o,e0.out,t1,bL eE.out _,ad,hj.o⟩;clear t1 hp
  go_in
  go_wp2_with(first
   |(rw[<-cq];clear cq)
   |(refine lJ ?_)
   |fail)
  obtain⟨ey,a⟩:=am w1;have be:Hid (kq ey w (bx (false,m)) 239):=by rw[a];exact cp
  rw[<-a]at Q⊢;clear a fq;have bo:=Q.o;have cd:=eZ.o.1;unfold Low at cd;have dz:=Gi m ey bo.at_.gl cd;have c4:=ah dz;have hE:=bo.lo;clear dz cd bo;apply c4.o.zz;rintro e hh ⟨⟨v,rfl,hv⟩,bw⟩;clear c4;obtain⟨er,F,rfl⟩:=bs hv;have hB:(aG m).length<=64:=by unfold aG;exact aW (lf _ _) aj
  have ds:Hid (qk w l ws no nc RB FB SB OB G Fm so sc WM (false,m) er F (0:Int) hh):=ah ⟨0,rfl,aH _,Q.o.O bw,eR hv (aQ Q.o.size)⟩;have eB:=(bw.J _ (aI be.out)).Z be.out;have hy:=ah eB;clear hv bw eB bd Q be cp e0 eE co
  go_wp2
  go_loopw [23] (fun M wr=>qk w l ws no nc RB FB SB OB G Fm so sc WM (false,m) er F M wr) (fun M _=>(aG m)-(intOf M).toNat)
  case atStart=>exact ds.out
  case round=>
  clear ds;obtain⟨j,rfl,gf,d,a5⟩:=hrel;by_cases ca:j<(aG m)
  ·obtain⟨p,ba⟩:=aT ca
   have ch:=iQ (aK ba);have⟨nd,ec,ek⟩:=eZ.o.2 p ch.2;obtain⟨O,P,rfl,hH,eD⟩:=lp.at (dY a5) ba;have⟨b0,f,cg,dl,dn⟩:=d.at_.map;have cb:keyOf prog 3 (.int .i64 p)=some (.int .i64 p):=wT ei (oI ad);have N:=cg.look_ok (iY ei) sr (tD wr) eY cb;have c8:=ak 0 (d.at_.cells d.at_.st.fb);have⟨ez,an⟩:=am (wr.alloc (.cells fe 233));have⟨bZ,_,cl,ci⟩:=ti wr;rw[<-an]at bZ cl ci;have hJ:=aL j;have hK:j<((aG m):Int):=ad;have b9:=fun a=>yx (dH l false ((aG m).take j)) (dS (aG (dO l p))) a (qh _ _ _) (vy _);have⟨n,D⟩:=am (dH l false ((aG m).take j));have⟨Y,b3⟩:=am (dS (aG (dO l p)));rw[<-D,<-b3]at b9;rw[<-D]at d;have⟨c1,av,W,a1,c5,fc,e7,fb,T,aw⟩:=jB b9 D b3 ca ba ch ec ek d a5;have⟨a2,c0,c2,bl,cS,hx⟩:=iL cg dl dn cb bZ ci;clear ca ba ch ec ek d a5 cg dl dn cb bZ ci gf b9 D b3;cases K:f (.int .i64 (p:Nat))with
   |some v=>
    have hv:=c2.o p v K;rw[<-W.o]at hv;subst hv;rw[K]at N;simp only[gM,DF]at N;have bf:Hid (∀a,gV ez a wr.heap.size 0 (setRow Y)->gj w l ws no nc RB FB SB OB G Fm so sc WM n a/\bW a (w.heap.size+2) (.slice (some ⟨O,P,none⟩) (aG m).length F) (aG m)/\(Instr.lookup 237 (.map (some Fm)) (.int .i64 (p:Nat)) false).run prog a=.ok (.agg (setRow Y).toArray) a):=fun a b6=>by have B:=b6.O cS.o (ay _);have gG:=a2.o.of_block (B.J _ a2.o.lt);have H:=gG.look (iY ei) sr (tD a) eY bl.o;rw[K]at H;exact⟨T.o.O B,aX aw.o (fun g h=>B.J g (aV aw.o h).2),H⟩
    clear K;go_wp2_with(first
     |(rw[<-an];clear an)
     |(refine lJ ?_)
     |((refine nj ?_);intro a ag;obtain⟨o,X,gr⟩:=bf.o a ag;have hc:=o.come;have fr:=ak 0 (o.at_.cells o.at_.st.fb);have bi:=ah o;have R:=ah X;clear o X ag cl N eD c8)
     |fail)
    refine ar (c1.o a) ?_;intro I A;clear hc fr gr;have bq:=bi.o.O A;have t5:=bq.comeT;have⟨a0,cu⟩:=aC bq (aX R.o (fun g h=>A.J g (aV R.o h).2));clear bq A;go_wp2_with(first
     |((refine nj ?_);intro C b7;have V:=ah (a0.o.wrote b7);have cv:=ah (aX cu.o (fun g h=>b7.J g (fun e=>by have:=(aV cu.o h).1;omega)));clear b7 t5)
     |fail)
    have ab:Hid (qk w l ws no nc RB FB SB OB G Fm so sc WM (false,m) (some ⟨O,P,none⟩) F (.int .i64 ((j:Int)+1)) C):=ah ⟨j+1,rfl,by have:=a1.o;simp only at this⊢;omega,by rw[bH,c5.o,fp,yJ,<-W.o,<-av.o];exact V.o,cv.o⟩;clear V cv;go_roundw
    case rel=>exact ab.out
    case measure=>have:=a1.o;simp[intOf];omega
   |none=>
    rw[K]at N;simp only[K1,K2]at N;have e6:=ah K;have gn:(aG (dO l p)).length<=1048576:=by unfold aG;exact aW (lf _ _) aj
    have bf:Hid (∀a,gV ez a wr.heap.size 0 (setRow 0)->gj w l ws no nc RB FB SB OB G Fm so sc WM n a/\bW a (w.heap.size+2) (.slice (some ⟨O,P,none⟩) (aG m).length F) (aG m)/\bV a prog 3 Fm b0 f):=fun a b6=>by have B:=b6.O cS.o (ay _);exact⟨T.o.O B,aX aw.o (fun g h=>B.J g (aV aw.o h).2),a2.o.of_block (B.J _ a2.o.lt)⟩
    have J:∀w',fJ l ws no nc RB FB SB OB G Fm so sc WM w'->w'.cell? _=some (.map Fm)/\w'.cell? _=some (.slice no l nc):=fun w' u=>⟨ak 0 (u.cells u.st.fb),ak 0 (u.cells u.st.rb)⟩;have z:=ah J;have e2:Hid (∀C,gj w l ws no nc RB FB SB OB G Fm so sc WM n C->bW C (w.heap.size+2) (.slice (some ⟨O,P,none⟩) (aG m).length F) (aG m)->bV C prog 3 Fm b0 f->∃t,(Instr.mapUpdate 237 (.map (some Fm)) (.int .i64 (p:Nat)) (.agg (setRow Y).toArray)).run prog C=.ok () t/\gj w l ws no nc RB FB SB OB G Fm so sc WM n t/\bW t (w.heap.size+2) (.slice (some ⟨O,P,none⟩) (aG m).length F) (aG m)/\(Instr.lookup 237 (.map (some Fm)) (.int .i64 (p:Nat)) false).run prog t=.ok (.agg (setRow Y).toArray) t):=fun C fF b2 ea=>by obtain⟨t,g1,eb,dm,_⟩:=ea.set (iY ei) sr (by have:=c0.o;have:=G4 f;unfold maxLen;omega) (val:=.agg (setRow Y)) eY bl.o;have H:=eb.look (iY ei) sr (tD t) eY bl.o;rw[kt]at H;have dq:=G6 c2.o p;rw[<-W.o]at dq;have fG:=fF.mapped dm ⟨b0+1,_,eb,by rw[G5 fc.o.1 e6.o];have:=c0.o;omega,dq⟩;have⟨hA,c,fz⟩:=ea.J;exact⟨t,g1,fG,aX b2 (fun g h=>dm.J g (aV b2 h).2 (fun e=>by injection e with e;exact mv b2 fz (by rw[h,e]))),H⟩
    clear K J;go_wp2_with(first
     |(rw[<-an];clear an)
     |(refine lJ ?_)
     |((refine nj ?_);intro a ag;obtain⟨o,X,es⟩:=bf.o a ag;have bi:=ah o;have R:=ah X;have cN:=ah es;have dc:=z.o _ (o.at_.after (aA _ a).drew);have a6:=z.o _ o.at_;have eg:=Gf l no nc p nd _ ((o.at_.after (aA _ a).drew).gl) e7.o fb.o fy gl ((o.at_.after (aA _ a).drew).E);have e9:=ah eg;clear o X es ag cl N eD c8 eg)
     |fail)
    obtain⟨he,hf⟩:=a6;go_region_held3(fun w'=>w'.cell? ⟨FB,0,none⟩=some (.map (some Fm))/\w'.cell? ⟨RB,0,none⟩=some (.slice no l.length nc))
     (first|exact b5|exact af|exact ae|exact dc)
     (first
       |(go_at_call 157;apply e9.o.zz;rintro e I ⟨⟨v,rfl,hv⟩,A⟩;obtain⟨ex,et,rfl⟩:=bs hv;have bz:aR a I:=(aA _ a).drew.Z A;have a0:=ah (bi.o.O bz);have ae:=z.o _ a0.o.at_;have Hd:=ah (vh _ ex et I (dY hv) gn (fun q em=>(iQ em).1));have cs:=ah bz;clear hv A bz)
       |(go_at_call 152;refine ar Hd.o ?_;intro C bB;rw[<-W.o];have V:=ah (a0.o.O bB);have af:=z.o _ V.o.at_;have bA:=cs.out.Z (bB.zz cs.out.size);have⟨t,g2,bt,c7,gs⟩:=e2.o C V.o (aX R.o (fun g h=>bA.J g (aV R.o h).2)) (cN.o.of_block (bA.J _ cN.o.lt));have b5:=z.o _ bt.at_;have cO:=ah bt;have cx:=ah c7;clear bB bA bt c7))
    have hd:=cO.o.come;have fs:=b5.1;clear dc ae af b5 he hf g2;go_wp2_with(first
     |(refine lJ ?_)
     |fail)
    refine ar (c1.o t) ?_;intro hO bF;clear hd fs gs;have bu:=cO.o.O bF;have t8:=bu.comeT;have⟨e3,cG⟩:=aC bu (aX cx.o (fun g h=>bF.J g (aV cx.o h).2));clear bu bF;go_wp2_with(first
     |((refine nj ?_);intro hi b8;have cP:=ah (e3.o.wrote b8);have cL:=ah (aX cG.o (fun g h=>b8.J g (fun e=>by have:=(aV cG.o h).1;omega)));clear b8 t8)
     |fail)
    have ab:Hid (qk w l ws no nc RB FB SB OB G Fm so sc WM (false,m) (some ⟨O,P,none⟩) F (.int .i64 ((j:Int)+1)) hi):=ah ⟨j+1,rfl,by have:=a1.o;simp only at this⊢;omega,by rw[bH,c5.o,fp,yJ,<-W.o,<-av.o];exact cP.o,cL.o⟩;clear cP cL;go_roundw
    case rel=>exact ab.out
    case measure=>have:=a1.o;simp[intOf];omega
  ·have du:(aG m).take j=aG m:=bI ad
   simp only at d;rw[du]at d;have hg:=ak 0 (d.at_.cells d.at_.st.sb);have en:Hid (tE w l ws no nc RB FB SB OB G Fm so sc WM (false,m) (0:Int) () wr):=ah ⟨0,rfl,aH _,d,cW _ _ _ _⟩;have hC:(aG m)<=j:=ad;clear d a5 du
   go_wp2
   go_loopw [49,12] (fun M fx wq=>tE w l ws no nc RB FB SB OB G Fm so sc WM (false,m) M fx wq) (fun M _ _=>ws-(intOf M).toNat)
   case atStart=>exact en.out
   case round=>
   clear en hg;rename_i hQ _;obtain⟨k,rfl,hD,d,E⟩:=hrel;by_cases cc:k<ws
   ·obtain⟨x,bc⟩:=aT cc
    have a9:((cD l ws (false,m)).take k).length=k:=by unfold cD;rw[eh,bn];omega
    obtain⟨go,gc,rfl⟩:=bs E;have a7:=fun a=>Bw (dH l false (aG m)) (ofN l x l) a (qh _ _ _) (nt l x _ ad);have al:(cD l ws (false,m)).take (k+1)=(cD l ws (false,m)).take k++[(false,dH l false (aG m)&&&ofN l x l.length)]:=by rw[bH];unfold cD;rw[bR,bc];rfl
    have ao:=d.come;have bd:=d.at_.of_ k x bc;have g8:=ak 0 (d.at_.cells d.at_.st.ob);have⟨n,D⟩:=am (dH l false (aG m));have⟨y,b4⟩:=am (ofN l x l);simp only at d ao;rw[<-D]at a7 al d ao;rw[<-b4]at a7 al bd;have⟨hn,c9⟩:=am ((cD l ws (false,m)).take k);rw[<-c9]at al a9 E;have⟨e5,e8,T,bg,fg,av,e4,c3⟩:=rx a7 al d E bc D b4 cc;have hL:=aL k;have hM:=bk cc;have⟨g7,gb,g3,g4,g5⟩:=cZ BQ;have J:∀w',Below (w.heap.size+2) wr w'->w'.rangeAt (w.heap.size+1) 0 (setRow n)/\w'.cell? ⟨OB,0,none⟩=some (.slice (some ⟨G,0,none⟩) ws.length ws.length)/\w'.rangeAt G (k*16) (setRow y):=fun w' B=>by have a4:=T.o.low B;refine⟨a4.come,ak 0 (a4.at_.cells a4.at_.st.ob),?_⟩;rw[e4.o];exact a4.at_.of_ k x fg.o
    have bb:=d.size;have⟨ht,z⟩:=aC E J;have a6:=J _ (aA _ wr).drew;have⟨g9,ha,hb⟩:=J _ (aA _ wr);have hI:=l4;have fT:(prog.info? 233).map (·.size)=(setRow n).length:=kx;have ga:(prog.info? 233).map (·.size)=(setRow y).length:=kx;have fO:∀w',(Instr.build 239 #[(1,.agg (setRow (n&&&y)))]).run prog w'=.ok (.agg (bx (false,n&&&y))) w':=fun _=>az;have fP:=fun w'=>yG (false,n&&&y) w';clear J a7 al d E bc D b4 c9 ao bd g8 a9;go_wp2_with fail
    refine wp_region_held_drew (S:=(fun w'=>w'.rangeAt _ 0 _/\w'.cell? _=some (.slice G ws ws)/\w'.rangeAt G _ _)) az a6 (fun r=> ?_);refine oW (i:=0) rfl r ?_;simp only[Act.put,cK,ct];refine vz (i:=1) rfl (uk (by rfl) _ _ rfl _ _ rfl _ _ (fun _ u=>u.1) l4 rfl kx) r ?_;simp only[Act.put,ct];refine oW (i:=2) rfl r ?_;simp only[Act.put,ct];refine oW (i:=3) rfl r ?_;simp only[Act.put,ct];refine oW (i:=4) rfl r ?_;simp only[Act.put,ct];refine vz (i:=5) rfl (uk (by rfl) _ _ rfl _ _ rfl _ _ (fun _ u=>u.2.2) l4 rfl kx) r ?_;simp only[Act.put,ct];apply wY (rs:=[6]) az aj;refine wZ rfl (fun c6 aa=> ?_) xd;go_simp;refine ar (e5.o _) ?_;intro I A;have a3:aR wr I:=(aA _ wr).drew.Z A;have Z:aR wr (cT I (bx (false,n&&&y)) 239):=a3.alloc a3.size _;have ae:=z.o _ (a3.zz bb);have af:=z.o _ (Z.zz bb);have el:=aX bg.o (fun g h=>Z.J g (aV bg.o h).2);have ed:=eq I (bx (false,n&&&y)) 239 _ rfl;have b1:=aW bb Z.size;have e1:=ah Z;clear A a3 Z;refine aa.out _ _ ae (fun r=> ?_);try simp only[Act.put,cK,cR,ct]
    refine vz (i:=7) (v:=.agg (bx (false,n&&&y)).toArray) rfl (Or.inl ⟨by rfl,fun hR _=>az⟩) r ?_;simp only[Act.put,cK,ct];apply wY (rs:=[8]) az aj;refine wZ rfl (fun c6 aa=> ?_) xd;rw[au (by rfl)];apply G3 _ _ rfl rfl;simp only[Act.put,ct];refine aa.out _ _ af (fun r=> ?_);try simp only[Act.put,cK,cR,ct]
    apply wY (rs:=[9]) az aj;refine wZ rfl (fun c6 aa=> ?_) xd;apply nG _ (by rfl) _ _ _ (by rfl) _ 239 g7 _ 17 136 KZ gb g3 g4 g5 rfl ad _ k _ (by rfl) el _ 1 1 _ (by rfl) (by rfl) ed (BO _) ad bO ad b1 _ rfl;intro fu fv t g0 dr fN gv;have bE:=qf b1 (e1.out.zz bb) dr (fun b e=>(aV bg.o e).1);refine aa.out _ _ (z.o _ bE) (fun r=> ?_);try simp only[Act.put,ct]
    refine oW (i:=10) rfl r ?_;simp only[Act.put,ct];refine wpAnyH_done az ?_ _;have ab:Hid (tE w l ws no nc RB FB SB OB G Fm so sc WM (false,m) (.int .i64 ((k:Int)+1)) (.slice (some ⟨fu,0,none⟩) (k+1) fv) t):=ah ⟨k+1,rfl,by have:=c3.o;omega,by simp only;rw[<-av.o];exact T.o.low bE,by rw[e8.o,BN];assumption⟩;clear g0 dr fN gv bE el ed b1 ae af r a6 g9 ha hb fT ga fO fP
    go_wp2
    go_roundw
    case rel=>exact ab.out
    case measure=>have:=c3.o;simp[intOf];omega
   have gg:k=ws:=ad;subst gg;have fS:Hid (yH Fm (fJ l ws no nc RB FB SB OB G Fm so sc WM) (cD l ws) (false,m) w (.returned u12) wr):=ah (by
    have a9:(cD l ws (false,m))=ws.length:=by unfold cD;simp
    rw[<-a9,ol]at E;exact⟨⟨u12,rfl,eR E (wS _ 2)⟩,d.zu,d.at_⟩)
   clear d E
   go_wp2
   go_ret;exact fS.out
 |true=>
  have hu:Hid (gj w l ws no nc RB FB SB OB G Fm so sc WM 0 w1):=ah ⟨co.o,e0.out,t1,bL eE.out _,ad,hj.o⟩;have hr:=Qd l no nc w1 co.o.gl fy gl co.o.E;have hm:=ah hr;have hG:(aG (dt (trN l (l.length-1)))).length<=1048576:=by unfold aG;exact aW (lf _ _) aj
  clear t1 hr
  go_in
  go_wp2_with(first
   |(rw[<-cq];clear cq)
   |fail)
  apply hm.o.zz;rintro e hP ⟨⟨v,rfl,hv⟩,fl⟩;obtain⟨ex,et,rfl⟩:=bs hv;have hq:=vh _ ex et hP (dY hv) hG (fun q em=>(iQ em).1);have⟨hl,hw⟩:=aC hq (hu.o.O fl);have hs:=(fl.J _ (aI cp.out)).Z cp.out;have ho:=ah hs;clear hq hv fl hs fq hp hm;go_wp2_with fail
  refine ar hl.o ?_;intro hS fo;have hk:=ah (hw.o.O fo);have hN:=hk.o.comeT;have hz:=ah ((fo.J _ (aI ho.out)).Z ho.out);clear fo hl;go_wp2_with(first
   |(refine lJ ?_)
   |((refine nj ?_);intro ey fL;have Q:=ah (hk.o.wrote fL);have be:=ah ((fL.J _ ad).Z hz.out);have bd:=BY be.out;clear fL hN)
   |fail)
  have Q:Hid (gj w l ws no nc RB FB SB OB G Fm so sc WM (dH l true []) ey):=Q;have bo:=Q.o;have cd:=eZ.o.1;unfold Low at cd;have dz:=Gi m ey bo.at_.gl cd;have c4:=ah dz;have hE:=bo.lo;clear dz cd bo;apply c4.o.zz;rintro e hh ⟨⟨v,rfl,hv⟩,bw⟩;clear c4;obtain⟨er,F,rfl⟩:=bs hv;have hB:(aG m).length<=64:=by unfold aG;exact aW (lf _ _) aj
  have ds:Hid (qk w l ws no nc RB FB SB OB G Fm so sc WM (true,m) er F (.int .i64 0) hh):=ah ⟨0,rfl,aH _,Q.o.O bw,eR hv (aQ Q.o.size)⟩;have eB:=(bw.J _ (aI be.out)).Z be.out;have hy:=ah eB;clear hv bw eB bd Q be cp e0 eE co
  go_wp2
  go_loopw [23] (fun M wr=>qk w l ws no nc RB FB SB OB G Fm so sc WM (true,m) er F M wr) (fun M _=>(aG m)-(intOf M).toNat)
  case atStart=>exact ds.out
  case round=>
  clear ds;obtain⟨j,rfl,gf,d,a5⟩:=hrel;by_cases ca:j<(aG m)
  ·obtain⟨p,ba⟩:=aT ca
   have ch:=iQ (aK ba);have⟨nd,ec,ek⟩:=eZ.o.2 p ch.2;obtain⟨O,P,rfl,hH,eD⟩:=lp.at (dY a5) ba;have⟨b0,f,cg,dl,dn⟩:=d.at_.map;have cb:keyOf prog 3 (.int .i64 p)=some (.int .i64 p):=wT ei (oI ad);have N:=cg.look_ok (iY ei) sr (tD wr) eY cb;have c8:=ak 0 (d.at_.cells d.at_.st.fb);have⟨ez,an⟩:=am (wr.alloc (.cells fe 233));have⟨bZ,_,cl,ci⟩:=ti wr;rw[<-an]at bZ cl ci;have hJ:=aL j;have hK:j<((aG m):Int):=ad;have b9:=fun a=>yx (dH l true ((aG m).take j)) (dS (aG (dO l p))) a (qh _ _ _) (vy _);have⟨n,D⟩:=am (dH l true ((aG m).take j));have⟨Y,b3⟩:=am (dS (aG (dO l p)));rw[<-D,<-b3]at b9;rw[<-D]at d;have⟨c1,av,W,a1,c5,fc,e7,fb,T,aw⟩:=jB b9 D b3 ca ba ch ec ek d a5;have⟨a2,c0,c2,bl,cS,hx⟩:=iL cg dl dn cb bZ ci;clear ca ba ch ec ek d a5 cg dl dn cb bZ ci gf b9 D b3;cases K:f (.int .i64 (p:Nat))with
   |some v=>
    have hv:=c2.o p v K;rw[<-W.o]at hv;subst hv;rw[K]at N;simp only[gM,DF]at N;have bf:Hid (∀a,gV ez a wr.heap.size 0 (setRow Y)->gj w l ws no nc RB FB SB OB G Fm so sc WM n a/\bW a (w.heap.size+2) (.slice (some ⟨O,P,none⟩) (aG m).length F) (aG m)/\(Instr.lookup 237 (.map (some Fm)) (.int .i64 (p:Nat)) false).run prog a=.ok (.agg (setRow Y).toArray) a):=fun a b6=>by have B:=b6.O cS.o (ay _);have gG:=a2.o.of_block (B.J _ a2.o.lt);have H:=gG.look (iY ei) sr (tD a) eY bl.o;rw[K]at H;exact⟨T.o.O B,aX aw.o (fun g h=>B.J g (aV aw.o h).2),H⟩
    clear K;go_wp2_with(first
     |(rw[<-an];clear an)
     |(refine lJ ?_)
     |((refine nj ?_);intro a ag;obtain⟨o,X,gr⟩:=bf.o a ag;have hc:=o.come;have fr:=ak 0 (o.at_.cells o.at_.st.fb);have bi:=ah o;have R:=ah X;clear o X ag cl N eD c8)
     |fail)
    refine ar (c1.o a) ?_;intro I A;clear hc fr gr;have bq:=bi.o.O A;have t5:=bq.comeT;have⟨a0,cu⟩:=aC bq (aX R.o (fun g h=>A.J g (aV R.o h).2));clear bq A;go_wp2_with(first
     |((refine nj ?_);intro C b7;have V:=ah (a0.o.wrote b7);have cv:=ah (aX cu.o (fun g h=>b7.J g (fun e=>by have:=(aV cu.o h).1;omega)));clear b7 t5)
     |fail)
    have ab:Hid (qk w l ws no nc RB FB SB OB G Fm so sc WM (true,m) (some ⟨O,P,none⟩) F (.int .i64 ((j:Int)+1)) C):=ah ⟨j+1,rfl,by have:=a1.o;simp only at this⊢;omega,by rw[bH,c5.o,fp,yJ,<-W.o,<-av.o];exact V.o,cv.o⟩;clear V cv;go_roundw
    case rel=>exact ab.out
    case measure=>have:=a1.o;simp[intOf];omega
   |none=>
    rw[K]at N;simp only[K1,K2]at N;have e6:=ah K;have gn:(aG (dO l p)).length<=1048576:=by unfold aG;exact aW (lf _ _) aj
    have bf:Hid (∀a,gV ez a wr.heap.size 0 (setRow 0)->gj w l ws no nc RB FB SB OB G Fm so sc WM n a/\bW a (w.heap.size+2) (.slice (some ⟨O,P,none⟩) (aG m).length F) (aG m)/\bV a prog 3 Fm b0 f):=fun a b6=>by have B:=b6.O cS.o (ay _);exact⟨T.o.O B,aX aw.o (fun g h=>B.J g (aV aw.o h).2),a2.o.of_block (B.J _ a2.o.lt)⟩
    have J:∀w',fJ l ws no nc RB FB SB OB G Fm so sc WM w'->w'.cell? ⟨FB,0,none⟩=some (.map (some Fm))/\w'.cell? ⟨RB,0,none⟩=some (.slice no l.length nc):=fun w' u=>⟨ak 0 (u.cells u.st.fb),ak 0 (u.cells u.st.rb)⟩;have z:=ah J;have e2:Hid (∀C,gj w l ws no nc RB FB SB OB G Fm so sc WM n C->bW C (w.heap.size+2) (.slice (some ⟨O,P,none⟩) (aG m).length F) (aG m)->bV C prog 3 Fm b0 f->∃t,(Instr.mapUpdate 237 (.map (some Fm)) (.int .i64 (p:Nat)) (.agg (setRow Y).toArray)).run prog C=.ok () t/\gj w l ws no nc RB FB SB OB G Fm so sc WM n t/\bW t (w.heap.size+2) (.slice (some ⟨O,P,none⟩) (aG m).length F) (aG m)/\(Instr.lookup 237 (.map (some Fm)) (.int .i64 (p:Nat)) false).run prog t=.ok (.agg (setRow Y).toArray) t):=fun C fF b2 ea=>by obtain⟨t,g1,eb,dm,_⟩:=ea.set (iY ei) sr (by have:=c0.o;have:=G4 f;unfold maxLen;omega) (val:=.agg (setRow Y)) eY bl.o;have H:=eb.look (iY ei) sr (tD t) eY bl.o;rw[kt]at H;have dq:=G6 c2.o p;rw[<-W.o]at dq;have fG:=fF.mapped dm ⟨b0+1,_,eb,by rw[G5 fc.o.1 e6.o];have:=c0.o;omega,dq⟩;have⟨hA,c,fz⟩:=ea.J;exact⟨t,g1,fG,aX b2 (fun g h=>dm.J g (aV b2 h).2 (fun e=>by injection e with e;exact mv b2 fz (by rw[h,e]))),H⟩
    clear K J;go_wp2_with(first
     |(rw[<-an];clear an)
     |(refine lJ ?_)
     |((refine nj ?_);intro a ag;obtain⟨o,X,es⟩:=bf.o a ag;have bi:=ah o;have R:=ah X;have cN:=ah es;have dc:=z.o _ (o.at_.after (aA _ a).drew);have a6:=z.o _ o.at_;have eg:=Gf l no nc p nd _ ((o.at_.after (aA _ a).drew).gl) e7.o fb.o fy gl ((o.at_.after (aA _ a).drew).E);have e9:=ah eg;clear o X es ag cl N eD c8 eg)
     |fail)
    obtain⟨he,hf⟩:=a6;go_region_held3(fun w'=>w'.cell? ⟨FB,0,none⟩=some (.map (some Fm))/\w'.cell? ⟨RB,0,none⟩=some (.slice no l.length nc))
     (first|exact b5|exact af|exact ae|exact dc)
     (first
       |(go_at_call 157;apply e9.o.zz;rintro e I ⟨⟨v,rfl,hv⟩,A⟩;obtain⟨ex,et,rfl⟩:=bs hv;have bz:aR a I:=(aA _ a).drew.Z A;have a0:=ah (bi.o.O bz);have ae:=z.o _ a0.o.at_;have Hd:=ah (vh _ ex et I (dY hv) gn (fun q em=>(iQ em).1));have cs:=ah bz;clear hv A bz)
       |(go_at_call 152;refine ar Hd.o ?_;intro C bB;rw[<-W.o];have V:=ah (a0.o.O bB);have af:=z.o _ V.o.at_;have bA:=cs.out.Z (bB.zz cs.out.size);have⟨t,g2,bt,c7,gs⟩:=e2.o C V.o (aX R.o (fun g h=>bA.J g (aV R.o h).2)) (cN.o.of_block (bA.J _ cN.o.lt));have b5:=z.o _ bt.at_;have cO:=ah bt;have cx:=ah c7;clear bB bA bt c7))
    have hd:=cO.o.come;have fs:=b5.1;clear dc ae af b5 he hf g2;go_wp2_with(first
     |(refine lJ ?_)
     |fail)
    refine ar (c1.o t) ?_;intro hO bF;clear hd fs gs;have bu:=cO.o.O bF;have t8:=bu.comeT;have⟨e3,cG⟩:=aC bu (aX cx.o (fun g h=>bF.J g (aV cx.o h).2));clear bu bF;go_wp2_with(first
     |((refine nj ?_);intro hi b8;have cP:=ah (e3.o.wrote b8);have cL:=ah (aX cG.o (fun g h=>b8.J g (fun e=>by have:=(aV cG.o h).1;omega)));clear b8 t8)
     |fail)
    have ab:Hid (qk w l ws no nc RB FB SB OB G Fm so sc WM (true,m) (some ⟨O,P,none⟩) F (.int .i64 ((j:Int)+1)) hi):=ah ⟨j+1,rfl,by have:=a1.o;simp only at this⊢;omega,by rw[bH,c5.o,fp,yJ,<-W.o,<-av.o];exact cP.o,cL.o⟩;clear cP cL;go_roundw
    case rel=>exact ab.out
    case measure=>have:=a1.o;simp[intOf];omega
  ·have du:(aG m).take j=aG m:=bI ad
   simp only at d;rw[du]at d;have hg:=ak 0 (d.at_.cells d.at_.st.sb);have en:Hid (tE w l ws no nc RB FB SB OB G Fm so sc WM (true,m) (.int .i64 0) (.slice none 0 0) wr):=ah ⟨0,rfl,aH _,d,cW _ _ _ _⟩;have hC:(aG m)<=j:=ad;clear d a5 du
   go_wp2
   go_loopw [49,12] (fun M fx wq=>tE w l ws no nc RB FB SB OB G Fm so sc WM (true,m) M fx wq) (fun M _ _=>ws-(intOf M).toNat)
   case atStart=>exact en.out
   case round=>
   clear en hg;rename_i hQ _;obtain⟨k,rfl,hD,d,E⟩:=hrel;by_cases cc:k<ws
   ·obtain⟨x,bc⟩:=aT cc
    have a9:((cD l ws (true,m)).take k).length=k:=by unfold cD;rw[eh,bn];omega
    obtain⟨go,gc,rfl⟩:=bs E;have a7:=fun a=>Bw (dH l true (aG m)) (ofN l x l.length) a (qh _ _ _) (nt l x _ ad);have al:(cD l ws (true,m)).take (k+1)=(cD l ws (true,m)).take k++[(false,dH l true (aG m)&&&ofN l x l.length)]:=by rw[bH];unfold cD;rw[bR,bc];rfl
    have ao:=d.come;have bd:=d.at_.of_ k x bc;have g8:=ak 0 (d.at_.cells d.at_.st.ob);have⟨n,D⟩:=am (dH l true (aG m));have⟨y,b4⟩:=am (ofN l x l);simp only at d ao;rw[<-D]at a7 al d ao;rw[<-b4]at a7 al bd;have⟨hn,c9⟩:=am ((cD l ws (true,m)).take k);rw[<-c9]at al a9 E;have⟨e5,e8,T,bg,fg,av,e4,c3⟩:=rx a7 al d E bc D b4 cc;have hL:=aL k;have hM:=bk cc;have⟨g7,gb,g3,g4,g5⟩:=cZ BQ;have J:∀w',Below (w.heap.size+2) wr w'->w'.rangeAt (w.heap.size+1) 0 (setRow n)/\w'.cell? ⟨OB,0,none⟩=some (.slice (some ⟨G,0,none⟩) ws.length ws.length)/\w'.rangeAt G (k*16) (setRow y):=fun w' B=>by have a4:=T.o.low B;refine⟨a4.come,ak 0 (a4.at_.cells a4.at_.st.ob),?_⟩;rw[e4.o];exact a4.at_.of_ k x fg.o
    have bb:=d.size;have⟨ht,z⟩:=aC E J;have a6:=J _ (aA _ wr).drew;have⟨g9,ha,hb⟩:=J _ (aA _ wr);have hI:=l4;have fT:(prog.info? 233).map (·.size)=(setRow n).length:=kx;have ga:(prog.info? 233).map (·.size)=(setRow y).length:=kx;have fO:∀w',(Instr.build 239 #[(1,.agg (setRow (n&&&y)))]).run prog w'=.ok (.agg (bx (false,n&&&y))) w':=fun _=>az;have fP:=fun w'=>yG (false,n&&&y) w';clear J a7 al d E bc D b4 c9 ao bd g8 a9;go_wp2_with fail
    refine wp_region_held_drew (S:=(fun w'=>w'.rangeAt _ 0 _/\w'.cell? _=some (.slice G ws ws)/\w'.rangeAt G _ _)) az a6 (fun r=> ?_);refine oW (i:=0) rfl r ?_;simp only[Act.put,cK,ct];refine vz (i:=1) rfl (uk (by rfl) _ _ rfl _ _ rfl _ _ (fun _ u=>u.1) l4 rfl kx) r ?_;simp only[Act.put,ct];refine oW (i:=2) rfl r ?_;simp only[Act.put,ct];refine oW (i:=3) rfl r ?_;simp only[Act.put,ct];refine oW (i:=4) rfl r ?_;simp only[Act.put,ct];refine vz (i:=5) (v:=.agg (setRow y).toArray) rfl (uk (by rfl) _ _ rfl G (k*16) rfl (setRow y) _ (fun _ u=>u.2.2) l4 rfl kx) r ?_;simp only[Act.put,ct];refine wY (rs:=[6]) az aj ?_;refine wZ rfl (fun c6 aa=> ?_) xd;go_simp;refine ar (e5.o _) ?_;intro I A;have a3:aR wr I:=(aA _ wr).drew.Z A;have Z:Below wr.heap.size wr (I.alloc (.cells (bx (false,n&&&y)).toArray 239)):=a3.alloc a3.size _;have ae:=z.o _ (a3.zz bb);have af:=z.o _ (Z.zz bb);have el:=aX bg.o (fun g h=>Z.J g (aV bg.o h).2);have ed:=eq I (bx (false,n&&&y)) 239 _ rfl;have b1:=aW bb Z.size;have e1:=ah Z;clear A a3 Z;refine aa.out _ _ ae (fun r=> ?_);try simp only[Act.put,cK,cR,ct]
    refine vz (i:=7) (v:=.agg (bx (false,n&&&y)).toArray) rfl (Or.inl ⟨by rfl,fun hR _=>az⟩) r ?_;simp only[Act.put,cK,ct];refine wY (rs:=[8]) az aj ?_;refine wZ rfl (fun c6 aa=> ?_) xd;rw[au (by rfl)];apply G3 _ _ rfl rfl;simp only[Act.put,ct];refine aa.out _ _ af (fun r=> ?_);try simp only[Act.put,cK,cR,ct]
    refine wY (rs:=[9]) az aj ?_;refine wZ rfl (fun c6 aa=> ?_) xd;refine nG _ (by rfl) _ _ _ (by rfl) (w.heap.size+2) 239 g7 _ 17 136 KZ gb g3 g4 g5 rfl ad (.slice go k gc) k (flatS hn) (by rfl) el ⟨I.heap.size,0,none⟩ 1 1 (bx (false,n&&&y)) (by rfl) (by rfl) ed (BO _) ad bO ad b1 _ rfl ?_;intro fu fv t g0 dr fN gv;have bE:=qf b1 (e1.out.zz bb) dr (fun b e=>(aV bg.o e).1);refine aa.out _ _ (z.o _ bE) (fun r=> ?_);try simp only[Act.put,ct]
    refine oW (i:=10) rfl r ?_;simp only[Act.put,ct];refine wpAnyH_done az ?_ _;have ab:Hid (tE w l ws no nc RB FB SB OB G Fm so sc WM (true,m) (.int .i64 ((k:Int)+1)) (.slice (some ⟨fu,0,none⟩) (k+1) fv) t):=ah ⟨k+1,rfl,by have:=c3.o;omega,by simp only;rw[<-av.o];exact T.o.low bE,by rw[e8.o,BN];assumption⟩;clear g0 dr fN gv bE el ed b1 ae af r a6 g9 ha hb fT ga fO fP
    go_wp2
    go_roundw
    case rel=>exact ab.out
    case measure=>have:=c3.o;simp[intOf];omega
   have gg:k=ws:=ad;subst gg;have fS:Hid (yH Fm (fJ l ws no nc RB FB SB OB G Fm so sc WM) (cD l ws) (true,m) w (.returned u12) wr):=ah (by
    have a9:(cD l ws (true,m))=ws.length:=by unfold cD;simp
    rw[<-a9,ol]at E;exact⟨⟨u12,rfl,eR E (wS _ 2)⟩,d.zu,d.at_⟩)
   clear d E
   go_wp2
   go_ret;exact fS.out
end Go.Proofs.YtfeidcmojcijpaaGreatDoor
