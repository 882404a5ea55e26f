import Derived.Test.YtnadadbndcdolaaGreatDoorQbo
import Derived.Test.YtnadadbndcdolaaGreatDoorQbp
import Derived.Test.YtnadadbndcdolaaGreatDoorQbu
set_option linter.unusedVariables false
set_option linter.unusedSimpArgs false
set_option maxRecDepth 100000
set_option maxHeartbeats 0
namespace Go.Proofs.YtnadadbndcdolaaGreatDoor
open Go.RowKit Tryz
theorem RW(w:World):Calls prog 196 #[.slice none 0 0] w fun d w'=>d=.returned (.slice none 0 0)/\Below w.heap.size w w':=by
 have e:∀(w:World) (a:Option Addr) (n c n' b:Nat),(binOp .eql 48 (.slice a n c) (.slice none n' b)).run prog w=.ok (.bool a.isNone) w:=fun w a n c n' b=>xQ w _ _ a n c n' b mT;go_enter BY,B8
 go_wp2
 go_ret;exact⟨rfl,aE _ w⟩
theorem bY.base{a W W':World}{Q B e i n:Nat}{h j:Value}{k:Nat}{xs:List Value}(f:dL W Q B e h j k i n xs)(c:Below a.heap.size a W)(m:a.heap.size<=Q)(l:a.heap.size<=B)(d:bY Q W W'):Below a.heap.size a W':=
 ⟨d.os.trans c.os,d.tape.trans c.tape,d.output.trans c.output,aJ c.size d.kp.size,fun b g=>((d.kp.same b (f.sq_low ad ad (by have:=c.size;omega))).2).trans (c.block b g)⟩
theorem RX(l:List am)(o:Option Addr)(cap:Nat)(e:World)(f:bR e o cap l)(u:l.length<=64)(g:Nat->Prop)(d h i j k:Nat)(x:am)(c:l[k]?=some x)(p:x.t.text=true)(nv:Value)(w:World)(a:cT e g w d h i j o cap l):
 Calls prog 129 #[.pointer (some ⟨d,0,none⟩),.int .i64 (k:Nat),nv] w fun m w'=>m=.returned (.tuple #[.slice none 0 0,.int .i64 0])/\w'=w:=by
 have t:=(aL.1 c).1;have s:(k:Int)<l.length:=ad;have v:=ai 0 a.blk;obtain⟨b,y,n,r,z,A,B,C,q,D⟩:=(f.below a.base).at c;subst n;rw[p]at q;clear a c f;go_enter func129,ntmps129
 go_wp2
 go_ret2
 exact⟨rfl,rfl⟩
structure tY(w:World)(sg ng fg r0:Nat)(c0:Nat):Prop where
 sl:sg<w.heap.size
 nl:ng<w.heap.size
 fl:fg<w.heap.size
 rl:r0<w.heap.size
 sym:w.cell? ⟨sg,0,none⟩=some (.string ⟨#[98]⟩)
 next:w.cell? ⟨ng,0,none⟩=some (.slice (some ⟨r0,0,none⟩) 1 c0)
 tq:w.cell? ⟨r0,0,none⟩=some (.int .i64 1)
 fin0:w.cell? ⟨fg,0,none⟩=some (.bool false)
 fin1:w.cell? ⟨fg,1,none⟩=some (.bool true)
theorem tY.below{w w':World}{f d c e g:Nat}(a:tY w f d c e g)(b:Below w.heap.size w w'):tY w' f d c e g:=
 ⟨dn a.sl b.size,dn a.nl b.size,dn a.fl b.size,dn a.rl b.size,(b.cell (p:=⟨f,0,none⟩) a.sl).trans a.sym,(b.cell (p:=⟨d,0,none⟩) a.nl).trans a.next,(b.cell (p:=⟨e,0,none⟩) a.rl).trans a.tq,(b.cell (p:=⟨c,0,none⟩) a.fl).trans a.fin0,(b.cell (p:=⟨c,1,none⟩) a.fl).trans a.fin1⟩
theorem RY{w:World}{B:Nat}{v:Value}(o:iV w B v fO):∃c h b f a e g d,v=.agg #[.slice (some ⟨c,0,none⟩) 1 h,.slice (some ⟨b,0,none⟩) 3 f,.slice (some ⟨a,0,none⟩) 3 e]/\tY w c b a g d:=by obtain⟨n,keys,C,D,nv,A,m,d1,d2,rfl,d4,d5,d6,d7,d8⟩:=o;rw[GQ]at d1 d4;obtain⟨rfl,rfl⟩:=RL d1 d2;rw[RQ]at d8;have z:m.length=3:=d6;obtain⟨i,l⟩:∃i,m[0]?=some i:=⟨_,aH ad⟩;have s:=d7 0 i [1] l rfl;obtain⟨c,h,rfl,_,x,y⟩:=oS d4 ap;rw[z]at d5;obtain⟨b,f,rfl,_,q,r⟩:=oS d5 ap;obtain⟨a,e,rfl,_,p,j⟩:=oS d8 ap;obtain⟨g,d,rfl,_,t,u⟩:=oS s ap;exact⟨c,h,b,f,a,e,g,d,rfl,x,q,p,t,y 0 _ ap rfl,r 0 _ ap l,u 0 _ ap rfl,j 0 _ ap rfl,j 1 _ ap rfl⟩
theorem GZ{W W':World}{Q B l s n M:Nat}{r u:Value}{k:Nat}{xs:List Value}(a:dL W Q B l r u k s n xs)(p:W.grownBy W' (some M))(f:∃m c,W.heap[M]?=some (Obj.map m c)):dL W' Q B l r u k s n xs:=by obtain⟨m,c,f⟩:=f;obtain⟨ys,q⟩:=a.swaps;have d:∀b,(∃cs t o,W.heap[b]?=some (Obj.cells cs t o))->W'.heap[b]?=W.heap[b]?:=fun b ⟨cs,t,o,h⟩=>p.block b (ax h) (fun e=>by injection e with e;rw[e,f]at h;cases h);exact⟨(d _ ⟨_,_,_,a.box⟩).trans a.box,aP a.items (fun g j=>by obtain⟨cs,i⟩:=jV a.items j;exact d _ ⟨_,_,_,i⟩),⟨ys,aP q (fun g j=>by obtain⟨cs,i⟩:=jV q j;exact d _ ⟨_,_,_,i⟩)⟩,a.apart,a.low,aJ a.lowB p.size,(d _ ⟨_,_,_,a.ob⟩).trans a.ob,a.obB,a.obQ⟩
theorem RZ{W:World}{Q B e i n M:Nat}{h j:Value}{k:Nat}{xs:List Value}(b:dL W Q B e h j k i n xs)(a:∃d c,W.heap[M]?=some (Obj.map d c)):SQ Q W M:=by obtain⟨d,c,a⟩:=a;obtain⟨ys,g⟩:=b.swaps;exact b.sq (kD b.items a) (kD g a) (fun f=>by have:=b.box;rw[<-f,a]at this;cases this) (ax a)
def ld:Value:=.agg #[.int .i64 0,.int .i64 0,.slice none 0 0]
structure G0(W2:World)(M put pm:Nat)(y:Wy)(wr:World):Prop where
 base:Below W2.heap.size W2 wr
 q:∃iv sv k,dL wr (W2.heap.size+1) (W2.heap.size+2) W2.heap.size iv sv k put 1 (wyC y pm)
def R2(a:World)(M:Nat)(wr:World):Prop:=G0 a M 1 0 ⟨0,0,none,0,0⟩ wr/\bp wr prog 3 M 1 (eW (fun _=>none) (.int .i64 0) ld)
def AM(a:World)(M:Nat)(wr:World):Prop:=∃g c,G0 a M 2 1 ⟨1,1,some ⟨g,0,none⟩,1,c⟩ wr/\cn wr a.heap.size (.slice (some ⟨g,0,none⟩) 1 c) [[98]]
def R3(b:World)(M:Nat)(c:World)(a:Value)(wr:World):Prop:=(a=.int .i64 0/\wr=c)∨(a=.int .i64 1/\AM b M wr)
def R4(a:World)(M g:Nat)(wr:World):Prop:=(g=2/\R2 a M wr)∨(g=1/\AM a M wr)
theorem R5{W:World}{B a size n M g:Nat}{v:Value}{xs:List Value}(f:W.ownsRow B a size v n xs)(b:∃d c,W.heap[M]?=some (Obj.map d c))(e:v.ownBlock=some g):some g≠some M:=fun a=>by
 obtain⟨d,c,b⟩:=b;injection a with a
 subst a;exact kD f b e
theorem row_sq{W:World}{Q B d l n g m c:Nat}{j o v:Value}{k:Nat}{xs ys:List Value}(a:dL W Q B d j o k l n xs)(h:W.ownsRow c 9 1 v m ys)(f:v.ownBlock=some g):SQ Q W g:=by obtain⟨cs,b⟩:=jV h f;obtain⟨zs,i⟩:=a.swaps;exact a.sq (gR a.items b ap) (gR i b ap) (fun e=>by have:=a.box;rw[<-e,b]at this;injection this with this;injection this with _ this;exact absurd this ap) (ax b)
theorem R6{W:World}{M:Nat}(b:bp W prog 3 M 1 (eW (fun _=>none) (.int .i64 0) ld)):(Instr.lookup 278 (.map (some M)) (.int .i64 1) true).run prog W=.ok (.tuple #[.agg #[.int .i64 0,.int .i64 0,.slice none 0 0],.bool false]) W:=by have c:(zeroValue 269).run prog W=.ok ld W:=aA;have:=b.look_ok (gw cU) Cb c (key:=.int .i64 1) (kl:=.int .i64 1) dH (pj cU (kM (n:=1) ad));rw[jS _ _ (by intro a;injection a with _ a;omega)]at this;exact this
theorem R9{W e a:World}{M X c gc:Nat}(f:W.heap[X]?=some (.cells #[.int .i64 1,.int .i64 1,.slice (some ⟨c,0,none⟩) 1 gc] 269))(l:Below e.heap.size e W)(j:Below a.heap.size a W)(h:bp W prog 3 M 1 (eW (fun _=>none) (.int .i64 0) ld))
 (i:W.ownsRow a.heap.size 9 1 (.slice (some ⟨c,0,none⟩) 1 gc) 1 [.string ⟨#[98]⟩]) {W14:World} (m:W14=W.alloc (.cells #[.int .i64 0,.int .i64 0,.slice none 0 0] 269)):
 (W14.cell? ⟨X,0,none⟩=some (.int .i64 1)/\W14.cell? ⟨X,1,none⟩=some (.int .i64 1)/\W14.cell? ⟨X,2,none⟩=some (.slice (some ⟨c,0,none⟩) 1 gc))/\Below e.heap.size e W14/\Below a.heap.size a W14/\bp W14 prog 3 M 1 (eW (fun _=>none) (.int .i64 0) ld)/\
 W14.ownsRow a.heap.size 9 1 (.slice (some ⟨c,0,none⟩) 1 gc) 1 [.string ⟨#[98]⟩]/\W14.heap[X]?=some (.cells #[.int .i64 1,.int .i64 1,.slice (some ⟨c,0,none⟩) 1 gc] 269):=by
 have b:Below W.heap.size W W14:=by rw[m];exact aG
 have d:=(b.block _ (ax f)).trans f;exact⟨⟨ai 0 d,ai 1 d,ai 2 d⟩,aO l b,aO j b,h.of_block (b.block _ h.lt),aP i (fun g n=>b.block g (aF i n).2),d⟩
theorem Sa(F Q:am)(al:F.t=ja)(h7:Q.t=kG)(o:Option Addr)(cap:Nat)(K:World)(hD:Gl K)(bB:bR K o cap [F,Q])(ab:Nat->Prop)(G A J a3:Nat)(hA:ab J)(no:Option Addr)(b2:Nat)(w:World)(af:cT K ab w G A J a3 o cap [F,Q])(co:gp w K.heap.size J [F,Q])(fu:ry w no b2 [2,1]):
 Calls prog 129 #[.pointer (some ⟨G,0,none⟩),.int .i64 0,.slice no 2 b2] w fun f w'=>(∃g c,f=.returned (.tuple #[.slice (some ⟨g,0,none⟩) 1 c,.int .i64 0])/\cn w' w.heap.size (.slice (some ⟨g,0,none⟩) 1 c) [[98]])/\k8 K ab G A J a3 o cap [F,Q] w w':=by
 have fz:=xm [F,Q] o cap K hD bB ak ab G A J a3 hA 0 F rfl (by rw[al];exact rC) (by rw[al];decide) w af co;have ii:=ai 0 af.blk;obtain⟨b,he,hw,j3,i5,i7,i9,jb,ed,jc⟩:=(bB.below af.base).at (k:=0) (x:=F) rfl;subst hw;rw[al]at ed;obtain⟨ew,a0,hi,js⟩:=cr fz fu co bB;clear af co fz fu bB;simp only[ui,jX,ja]at ed;go_enter func129,ntmps129
 go_wp2_with fail
 refine ew.o.mono ?_;rintro f P ⟨⟨fo,cp,bE⟩,hI⟩;clear ew ii i5 i7 i9 jb ed jc;rcases hI with⟨v,rfl,cs⟩|⟨b1,rfl⟩
 ·rw[al]at cs
  obtain⟨ds,hf,Y,b3,cl,fd,be,a6,rfl,fy⟩:=RY cs;have fG:k8 K ab G A J a3 (some ⟨b,he,none⟩) cap [F,Q] w P:=⟨fo,cp,bE⟩;have fv:ry P no b2 [2,1]:=by
   refine⟨a0.o.1,a0.o.2.1,a0.o.2.2.1,fun c2=> ?_⟩;obtain⟨X,ao,hx,cF,fN⟩:=a0.o.2.2.2 c2;refine⟨X,ao,hx,dn cF bE.size,fun j u hL=> ?_⟩;have c4:some X≠some J:=fun f=>by
    injection f with f
    subst f;obtain⟨kc,f2,bF,_⟩:=cp;obtain⟨fc,e8,j2⟩:=bF.block;have a9:=fN 0 (nV 2) rfl;obtain⟨kg,j0,hN,_⟩:=hi.o;obtain⟨jy,jv,hG⟩:=hN.block;simp[World.cell?,hG]at a9
   exact(bE.cell_far ⟨X,ao+j,none⟩ cF c4).trans (fN j u hL)
  obtain⟨e,g8,bq,fb⟩:=cm P (.cells #[.slice (some ⟨ds,0,none⟩) 1 hf,.slice (some ⟨Y,0,none⟩) 3 b3,.slice (some ⟨cl,0,none⟩) 3 fd] 174);obtain⟨ev,b8,er,bi⟩:=cr (fy.below bq) (fG.below bq) (dp.below fv bq) fb;have gr:=Rr e;have eB:=ah gr;clear fo cp bE cs fy fG fv bq fb gr a0;go_wp2_with(first|(rw[<-g8];clear g8)|fail)
  refine eB.o.mono ?_;rintro f ec ⟨rfl,c7,e2⟩;clear eB;have bb:Calls prog 194 #[.pointer (some ⟨e.heap.size+1,0,none⟩),.agg #[.int .i64 0,.int .i64 0,.slice none 0 0]] ec (tW ec (e.heap.size+1) (e.heap.size+2) e.heap.size 0 ⟨0,0,none,0,0⟩):=GE ec _ _ _ 0 0 _ _ ⟨0,0,none,0,0⟩ c7 ad;obtain⟨eC,eD,ek⟩:=bH bb c7 e2;clear bb c7 e2;go_wp2_with fail
  refine eC.o.mono ?_;rintro f aq ⟨rfl,⟨j7,km,kb,g2⟩,gb⟩;clear eC;have ae:=bY.base eD.o ek.out ad ad gb;obtain⟨i3,c8,bu⟩:=dF aq (.map #[] 0);have dr:bp i3 prog 3 aq.heap.size 0 (fun _=>none):=by rw[c8];exact bp.made aq _ _
  have cx:∀a:Nat,a<=64->keyOf prog 3 (.int .i64 (a:Nat))=some (.int .i64 (a:Nat)):=fun a j1=>pj cU (kM ad);obtain⟨i4,g5,gl,cu,h4⟩:=dr.set (gw cU) Cb bI (key:=.int .i64 0) (val:=ld) (kl:=.int .i64 0) dH (cx 0 ad);unfold ld at g5;have j5:= @l8 prog;have g3:=g2.below bu;have e3:Below e.heap.size e i4:=(ae.trans (bu.mono ae.size)).grown cu (by have:=ae.size;have:=bu.size;omega) (fun q f=>by cases f;exact ae.size);have gf:=GZ g3 cu dr.block;obtain⟨eE,el⟩:=aD gf e3;have hj:Hid (e.heap.size<=aq.heap.size):=ah ae.size;have cb:=ah gl;clear g2 gb ae bu dr gl cu g3 e3 gf h4 eD ek;go_wp2_with(first|(rw[<-c8];clear c8)|fail)
  clear g5;have eo:Hid (e.heap.size<=aq.heap.size):=ah hj.o;generalize aq.heap.size=M at cb eo;go_loopg [] 2 (fun g wr=>R4 e M g wr)
  case atStart=>exact .inl ⟨rfl,⟨el.out,⟨_,_,_,eE.o⟩⟩,cb.o⟩
  case round=>
  clear cb eE el;rcases hrel with⟨r,hB⟩|⟨r,hC⟩
  ·obtain⟨⟨ba,B,Z,c9,W⟩,bF⟩:=hB
   have bc:Calls prog 195 #[.pointer (some ⟨e.heap.size+1,0,none⟩)] wr (fun f w'=>f=.returned (.tuple #[.agg #[.int .i64 0,.int .i64 0,.slice none 0 0],.int .i64 0])/\(∃B Z k,dL w' (e.heap.size+1) (e.heap.size+2) e.heap.size B Z k 1 0 [])/\bY (e.heap.size+1) wr w'):=GG wr _ _ _ c9 1 0 _ _ ⟨0,0,none,0,0⟩ W;obtain⟨a2,a1,ca,ez⟩:=cr bc W ba bF;clear bc W ba bF;go_wp2_with fail
   refine a2.o.mono ?_;rintro f l ⟨rfl,⟨ic,i1,ip,b0⟩,T⟩;clear a2;have R:=bY.base a1.o ca.o ad ad T;have c0:bp l prog 3 M 1 (eW (fun _=>none) (.int .i64 0) ld):=ez.o.of_block (T.kp.same M (RZ a1.o ez.o.block)).2;obtain⟨s,ag,L,N⟩:=cm l (.cells #[.int .i64 0,.int .i64 0,.slice none 0 0] 269);have H:Below e.heap.size e s:=R.trans (L.mono R.size);have c1:=c0.of_block (L.block _ c0.lt);have bl:Hid (∀n,Below s.heap.size s n->tY n ds Y cl be a6/\(n.cell? ⟨P.heap.size,0,none⟩=some (.slice (some ⟨ds,0,none⟩) 1 hf)/\n.cell? ⟨P.heap.size,1,none⟩=some (.slice (some ⟨Y,0,none⟩) 3 b3)/\n.cell? ⟨P.heap.size,2,none⟩=some (.slice (some ⟨cl,0,none⟩) 3 fd))/\
    (n.cell? ⟨l.heap.size,0,none⟩=some (.int .i64 0)/\n.cell? ⟨l.heap.size,1,none⟩=some (.int .i64 0)/\n.cell? ⟨l.heap.size,2,none⟩=some (.slice none 0 0))/\n.cell? ⟨G,1,none⟩=some (.map (some A))/\eF n A cM/\ry n no b2 [2,1]):=ah (fun n E=>by
    have bC:Below e.heap.size e n:=H.trans (E.mono H.size);have d:=(bC.block _ (ax bi.out)).trans bi.out;have y:=(E.block _ (ax N)).trans N;have fs:=b8.o.1.kept (bJ bC none) (fun q f=>by cases f);exact⟨ev.o.below bC,⟨ai 0 d,ai 1 d,ai 2 d⟩,⟨ai 0 y,ai 1 y,ai 2 y⟩,ai 1 fs.blk,by have:=fs.places;simpa[al,h7,cM]using this,dp.below er.o bC⟩)
   obtain⟨hb,⟨d0,d1,d2⟩,⟨aa,av,bg⟩,an,h1,hQ⟩:=bl.o s (aE _ _);have fT:=hb.fin0;have bd:(zeroValue 269).run prog s=.ok ld s:=aA;have V:=c1.look (gw cU) Cb bd dH (cx 0 ad);rw[show((0:Nat):Int)=0 from rfl,jw]at V;simp only[qj,ld]at V;have hH:∀(args:Array Value) (n:World),(callFunc 189 args).run prog n=.ok (.enter 189 args) n:=fun _ _=>rfl;have g4:=Rq s;obtain⟨eN,hk⟩:=aD g4 ag;rw[ag]at d0 d1 d2 aa av bg an fT V;obtain⟨hn,eA,b4⟩:=bH b0 c1 H;have hl:Hid (l.heap.size<s.heap.size):=ah (ax N);have b5:=ah L;clear R T c0 L N H hb h1 hQ bd g4 ag b0 c1;go_wp2_with fail
   rw[<-hk.o];refine eN.o.mono ?_;rintro f m ⟨rfl,e7⟩;clear eN V hH d0 d1 d2 aa av bg an fT;obtain⟨hc,⟨d0,d1,d2⟩,⟨aa,av,bg⟩,an,h2,hR⟩:=bl.o m e7;have h5:=hc.sym;have C:=ah e7;clear hc h2 hR;go_wp2_with fail
   clear d0 d1 d2 aa av bg an h5;obtain⟨kv,h6⟩:=ar (wr);subst h6;go_loopw [76] (fun B wr=>R3 e M m B wr) (fun B _=>1-(intOf B).toNat)
   case atStart=>exact .inl ⟨rfl,rfl⟩
   case round=>
   rcases hrel with⟨rfl,b1⟩|⟨rfl,fg⟩
   ·rw[b1]
    clear b1 wr;obtain⟨X,ao,hX,_,hS⟩:=er.o.2.2.2 ap;subst hX;obtain⟨hd,⟨ht,hu,hv⟩,⟨jd,je,hg⟩,iv,h3,c3⟩:=bl.o m C.o;have i0:=hd.sym;have hU:=c3.2.2.1;have hV:=c3.2.1;unfold maxLen at hU;simp only[db,ge]at hV;have b9:Hid (∀w',Below s.heap.size s w'->w'.cell? ⟨P.heap.size,1,none⟩=some (.slice (some ⟨Y,0,none⟩) 3 b3)/\(w'.cell? ⟨l.heap.size,0,none⟩=some (.int .i64 0)/\w'.cell? ⟨l.heap.size,1,none⟩=some (.int .i64 0))/\(w'.cell? ⟨Y,0,none⟩=some (.slice (some ⟨be,0,none⟩) 1 a6)/\w'.cell? ⟨be,0,none⟩=some (.int .i64 1))/\w'.cell? ⟨G,1,none⟩=some (.map (some A))/\w'.cell? ⟨X,ao+1,none⟩=some (.int .i64 1)/\(Instr.lookup 74 (.map (some A)) (.string ⟨#[98]⟩) false).run prog w'=.ok (.int .i64 1) w'):=ah (fun w' E=>by
     obtain⟨ha,⟨_,d1,_⟩,⟨aa,av,_⟩,an,h0,c2⟩:=bl.o w' E;have V:=tS (b:=[98]) h0 ap;rw[GS]at V;obtain⟨iw,iT,hY,_,hT⟩:=c2.2.2.2 ap;have hZ:X=iw/\ao=iT:=by injection hY with a9;injection a9 with a9 hz;exact⟨a9,hz⟩
     obtain⟨rfl,rfl⟩:=hZ;exact⟨d1,⟨aa,av⟩,⟨ha.next,ha.tq⟩,an,hT 1 (nV 1) rfl,V⟩)
    have h:=b9.o m.drew C.o.drew;have fw:=b9.o (m.drew.alloc (.cells #[.int .i64 0,.int .i64 0,.slice none 0 0] 269)) (C.o.drew.alloc C.o.size _);clear hd h3 c3 hS;go_wp2_with fail
    clear ht hu hv jd je iv;refine oQ (S:=(fun w'=>w'.cell? ⟨P.heap.size,1,none⟩=some (.slice (some ⟨Y,0,none⟩) 3 b3)/\(w'.cell? ⟨l.heap.size,0,none⟩=some (.int .i64 0)/\w'.cell? ⟨l.heap.size,1,none⟩=some (.int .i64 0))/\(w'.cell? ⟨Y,0,none⟩=some (.slice (some ⟨be,0,none⟩) 1 a6)/\w'.cell? ⟨be,0,none⟩=some (.int .i64 1))/\w'.cell? ⟨G,1,none⟩=some (.map (some A))/\w'.cell? ⟨X,ao+1,none⟩=some (.int .i64 1)/\(Instr.lookup 74 (.map (some A)) (.string ⟨#[98]⟩) false).run prog w'=.ok (.int .i64 1) w')) (last:=23) aA ?_;refine br (i:=0) rfl h ?_;simp only[Act.put,aM,aN,aK];refine br (i:=1) rfl h ?_;simp only[Act.put,aM,aN,aK];refine br (i:=2) rfl h ?_;simp only[Act.put,aM,aN,aK];refine br (i:=3) rfl h ?_;simp only[Act.put,aM,aN,aK];refine br (i:=4) rfl h ?_;simp only[Act.put,aM,aN,aK];refine br (i:=5) rfl h ?_;simp only[Act.put,aM,aN,aK];refine br (i:=6) rfl h ?_;simp only[Act.put,aM,aN,aK];refine br (i:=7) rfl h ?_;simp only[Act.put,aM,aN,aK];refine br (i:=8) rfl h ?_;simp only[Act.put,aM,aN,aK];refine br (i:=9) rfl h ?_;simp only[Act.put,aM,aN,aK];refine br (i:=10) rfl h ?_;simp only[Act.put,aM,aN,aK];refine br (i:=11) rfl h ?_;simp only[Act.put,aM,aN,aK];refine br (i:=12) rfl h ?_;simp only[Act.put,aM,aN,aK];refine br (i:=13) rfl h ?_;simp only[Act.put,aM,aN,aK];refine br (i:=14) rfl h ?_;simp only[Act.put,aM,aN,aK];refine br (i:=15) rfl h ?_;simp only[Act.put,aM,aN,aK];refine br (i:=16) rfl h ?_;simp only[Act.put,aM,aN,aK];refine br (i:=17) rfl h ?_;simp only[Act.put,aM,aN,aK];refine br (i:=18) rfl h ?_;simp only[Act.put,aM,aN,aK];refine br (i:=19) rfl h ?_;simp only[Act.put,aM,aN,aK];refine br (i:=20) rfl h ?_;simp only[Act.put,aM,aN,aK];refine br (i:=21) rfl h ?_;simp only[Act.put,aM,aN,aK];refine gn (i:=22) aA rfl (fun ho fq=> ?_);go_simp;refine fq.out _ _ (fun _=>fw) (fun _=> ?_);try simp only[Act.put,aM,aN,aK]
    refine gn (i:=23) aA rfl (fun hp fr=> ?_);go_simp;refine fr.out _ _ (fun af=>absurd rfl af) (fun _=> ?_);try simp only[Act.put,aM,aN,aK]
    refine oP aA ?_ _;clear fq fr ho hp;all_goals
     (rw[show IntKind.i64.wrap 1=1 from ap]
      obtain⟨cd,bD⟩:=ar ((m.alloc (.cells #[.int .i64 1,.int .i64 1,.slice none 0 0] 269)).drew);rw[<-bD];have ch:Below m.heap.size m cd:=by rw[bD];exact aG.drew
      have a8:cd.heap[m.heap.size]?=some (.cells #[.int .i64 1,.int .i64 1,.slice none 0 0] 269):=by rw[bD];exact aB m _
      have a6:=ai 0 a8;have hr:=ai 1 a8;have hs:=ai 2 a8;have k0:=(ch.cell (p:=⟨l.heap.size,2,none⟩) (by show l.heap.size<_;have:=b5.out.size;have:=C.o.size;have:=hl.o;omega)).trans hg;obtain⟨en,b6⟩:=aD a8 ch;clear bD ch a8 hg i0 h fw b9;go_wp2_with fail
      refine(RW cd).mono ?_;rintro f bf ⟨rfl,a4⟩;have ci:=(a4.block _ (ax en.out)).trans en.out;have e4:Below l.heap.size l bf:=aO (aO (aO b5.out C.o) b6.out) a4;have eV:Below e.heap.size e bf:=b4.out.trans ((aO (aO C.o b6.out) a4).mono b4.out.size);obtain⟨ib,hK,h8,h9,ia⟩:=cY qy;obtain⟨ea,g7,a5⟩:=dF bf (.cells #[.string ⟨#[98]⟩] 9);have hW:=dK bf [.string ⟨#[98]⟩] 9 _ rfl;have bw:=(a5.block _ (ax ci)).trans ci;have ce:=aO e4 a5;have bt:=aO eV a5;have cG:bp ea prog 3 M 1 (eW (fun _=>none) (.int .i64 0) ld):=eA.o.of_block ((aO (aO (aO C.o b6.out) a4) a5).block _ eA.o.lt);have es:Hid (∀t gc I,I.ownsRow e.heap.size 9 1 (.slice (some ⟨t,0,none⟩) 1 gc) 1 [.string ⟨#[98]⟩]->ea.grownBy I none->(I.cell? ⟨m.heap.size,2,none⟩=some (.slice none 0 0)/\I.frozen? ⟨m.heap.size,2,none⟩=false)/\
       (∀D,D=I.setCell ⟨m.heap.size,2,none⟩ (.slice (some ⟨t,0,none⟩) 1 gc)->D.heap[m.heap.size]?=some (.cells #[.int .i64 1,.int .i64 1,.slice (some ⟨t,0,none⟩) 1 gc] 269)/\Below l.heap.size l D/\Below e.heap.size e D/\bp D prog 3 M 1 (eW (fun _=>none) (.int .i64 0) ld)/\D.ownsRow e.heap.size 9 1 (.slice (some ⟨t,0,none⟩) 1 gc) 1 [.string ⟨#[98]⟩])):=ah (fun t gc I gs r=>by
       have bz:=(r.block _ (ax bw) ak).trans bw;refine⟨⟨ai 2 bz,aT bz 2⟩,fun D hy=> ?_⟩;have gg:l.heap.size<=m.heap.size/\e.heap.size<=m.heap.size:=⟨aJ b5.out.size C.o.size,aJ b4.out.size C.o.size⟩;have c4:M≠m.heap.size:=fun f=>by obtain⟨fc,e8,E⟩:=cG.block;rw[f,bw]at E;cases E
       rw[hy];exact⟨bn _ _ 2 _ bz,(ce.grown r ce.size (fun q f=>by cases f)).setCell gg.1 _,(bt.grown r bt.size (fun q f=>by cases f)).setCell gg.2 _,(cG.kept r ak).of_block (aS _ _ _ _ _ c4),aP gs (fun g hJ=>aS _ _ _ _ _ (fun f=>gR gs bz ap (by rw[hJ,f])))⟩)
      have fl:e.heap.size<=ea.heap.size:=bt.size;rw[g7]at es fl;clear ci e4 eV g7 a5 bw ce bt cG a4 a6 hr hs;go_wp2_with(first
       |(at_builtin;go_must (refine is _ rfl _ _ 48 rfl e.heap.size 9 ib _ 1 16 mT hK h8 h9 ia rfl ad (.slice none 0 0) 0 [] rfl (dc _ _ _ _) ⟨bf.heap.size,0,none⟩ 1 1 [.string ⟨#[98]⟩] rfl rfl hW (fun z bd=>by simp at bd;subst bd;rfl) ad bI ad fl _ rfl ?_);intro t gc I gG ga hE cF;obtain⟨⟨t0,t1⟩,fx⟩:=es.o t gc I gG ga;obtain⟨D,cq⟩:=ar (I.setCell ⟨m.heap.size,2,none⟩ (.slice (some ⟨t,0,none⟩) 1 gc));obtain⟨a7,e5,eZ,cN,gu⟩:=fx D cq;have u0:=ai 0 a7;have u1:=ai 1 a7;have u2:=ai 2 a7;have hM:=R6 cN;obtain⟨⟨ji,jj,jp⟩,e6,e0,bN,gv,e9⟩:=R9 a7 e5 eZ cN gu (W14:=D.alloc (.cells #[.int .i64 0,.int .i64 0,.slice none 0 0] 269)) rfl;have em:=ah e6;have eg:=ah e0;have cc:=ah gv;have b7:=ah e9;clear fx gG ga hE a7 e5 eZ gu e6 e0 gv e9)
       |(rw[<-cq];clear cq t0 t1)
       |(at_mapUpdate;go_must (refine oy bN rfl _ _ _ 278 rfl 269 (gw cU) Cb rfl bI _ _ _ rfl rfl dH (cx 1 ad) ?_);intro eb hP O;have bA:=(O.block _ (ax b7.out) (fun f=>by injection f with f;obtain⟨fc,e8,E⟩:=bN.block;rw[<-f,b7.out]at E;cases E)).trans b7.out;have ko:=ai 0 bA;have kp:=ai 1 bA;have ks:=ai 2 bA;have hm:=ah O;have ex:=ah bN.block;clear hP O bA u0 u1 u2 hM cN ji jj jp bN)
       |fail)
      have O:=hm.o;have hq:Below l.heap.size l _:=em.out;obtain⟨j6,kk,io,g0⟩:∃B Z k,dL _ (e.heap.size+1) (e.heap.size+2) e.heap.size B Z k 1 0 []:=⟨_,_,_,hn.o.below em.out⟩;have bZ:=GZ g0 O ex.o;have e1:=eg.out.grown O eg.out.size (fun q f=>by cases f;exact eo.o);have bb:Calls prog 194 #[.pointer (some ⟨e.heap.size+1,0,none⟩),.agg #[.int .i64 1,.int .i64 1,.slice (some ⟨t,0,none⟩) 1 gc]] eb (tW eb (e.heap.size+1) (e.heap.size+2) e.heap.size 1 ⟨1,1,some ⟨t,0,none⟩,1,gc⟩):=GE eb _ _ _ io 1 _ _ ⟨1,1,some ⟨t,0,none⟩,1,gc⟩ bZ ad;have c5:=aP cc.o (fun g r=>O.block g (aF cc.o r).2 (R5 cc.o ex.o r));refine bb.mono ?_;rintro f i2 ⟨rfl,g1,cv⟩;have bo:Hid (AM e M i2):=ah ⟨t,gc,⟨bY.base bZ e1 ad ad cv,g1⟩,aP c5 (fun g r=>(cv.kp.same g (row_sq bZ c5 r)).2)⟩;clear bb g1 cv c5 bZ e1 g0 hq O;go_wp2_with fail
      exact⟨.inr ⟨rfl,bo.o⟩,by simp[intOf]⟩)
   ·have hh:=ah fg
    clear fg
    go_wp2
    go_roundg 1
    case rel=>exact .inr ⟨rfl,hh.o⟩
    case measure=>omega
  ·obtain⟨g,c,⟨ba,B,Z,c9,W⟩,g9⟩:=hC
   have bc:Calls prog 195 #[.pointer (some ⟨e.heap.size+1,0,none⟩)] wr (fun f w'=>f=.returned (.tuple #[.agg #[.int .i64 1,.int .i64 1,.slice (some ⟨g,0,none⟩) 1 c],.int .i64 0])/\(∃B Z k,dL w' (e.heap.size+1) (e.heap.size+2) e.heap.size B Z k 2 0 [])/\bY (e.heap.size+1) wr w'):=GG wr _ _ _ c9 2 1 _ _ ⟨1,1,some ⟨g,0,none⟩,1,c⟩ W;obtain⟨a2,a1,ca,eU⟩:=cr bc W ba g9;clear bc W ba g9;go_wp2_with fail
   refine a2.o.mono ?_;rintro f l ⟨rfl,⟨ic,i1,ip,b0⟩,T⟩;clear a2;have R:=bY.base a1.o ca.o ad ad T;have c6:=aP eU.o (fun g r=>(T.kp.same g (row_sq a1.o eU.o r)).2);obtain⟨s,ag,L,N⟩:=cm l (.cells #[.int .i64 1,.int .i64 1,.slice (some ⟨g,0,none⟩) 1 c] 269);have H:Below e.heap.size e s:=R.trans (L.mono R.size);have d:=(H.block _ (ax bi.out)).trans bi.out;have d2:=ai 2 d;have aa:=ai 0 N;have bg:=ai 2 N;have j4:=(ev.o.below H).fin1;have bo:Hid (cn s w.heap.size (.slice (some ⟨g,0,none⟩) 1 c) [[98]]/\k8 K ab G A J a3 (some ⟨b,he,none⟩) cap [F,Q] w s):=ah ⟨dR (aP c6 (fun g r=>L.block g (aF c6 r).2)) (aJ b8.o.2.2.size (az _)),b8.o.below H⟩;clear R T b0 c6 L N H d;go_wp2_with(first|(rw[<-ag];clear ag)|fail)
   go_ret2
   exact⟨⟨g,c,rfl,bo.o.1⟩,bo.o.2⟩
 ·exact absurd b1 (by rw[al];exact GY)
structure lX(W0:World)(A:Nat->Prop)(K M1 M2 M3 RM:Nat)(o:Option Addr)(cap:Nat)(l:List am)(n:Nat)(f:Lit->Option Value)(wr:World):Prop where
 known:cT W0 A wr K M1 M2 M3 o cap l
 made:gp wr W0.heap.size M2 l
 rows:bp wr prog 3 RM n f
section
variable{W0 w w':World} {A:Nat->Prop} {K M1 M2 M3 RM:Nat} {o:Option Addr} {cap:Nat} {l:List am} {n:Nat} {f:Lit->Option Value}
theorem lX.below(a:lX W0 A K M1 M2 M3 RM o cap l n f w)(c:Below w.heap.size w w'):lX W0 A K M1 M2 M3 RM o cap l n f w':=
 ⟨a.known.kept (bJ c none) (fun q b=>by cases b),a.made.grown (bJ c none) (fun q b=>by cases b),a.rows.of_block (c.block _ a.rows.lt)⟩
theorem lX.put(c:lX W0 A K M1 M2 M3 RM o cap l n f w)(e:w.grownBy w' (some RM)){n':Nat}{d:Lit->Option Value}(g:bp w' prog 3 RM n' d)(a:W0.heap.size<=RM/\RM≠K/\RM≠M1/\RM≠M2/\RM≠M3/\A RM):lX W0 A K M1 M2 M3 RM o cap l n' d w':=
 ⟨c.known.kept e (fun q b=>by cases b;exact⟨a.1,a.2.1,.inr a.2.2⟩),c.made.grown e (fun q b=>by cases b;exact⟨.inl c.rows.block,a.2.2.2.1⟩),g⟩
end
def G1(a d:World)(b:Value)(wr:World):Prop:=(b=.int .i64 0/\wr=d)∨(b=.int .i64 1/\∃g c,wr.heap[a.heap.size+1]?=some (.cells #[.string ⟨#[98]⟩,.string ⟨#[]⟩,.slice (some ⟨g,0,none⟩) 1 c,.slice none 0 0] 29)/\wr.ownsRow a.heap.size 69 2 (.slice (some ⟨g,0,none⟩) 1 c) 1 [.string ⟨#[107]⟩,.string ⟨#[]⟩]/\Below a.heap.size a wr)
theorem Sb(H d:am)(cu:H.t=ja)(ab:d.t=kG)(o:Option Addr)(cap:Nat)(W0:World)(X:bR W0 o cap [H,d])(A:Nat->Prop)(K M1 M2 M3 RM:Nat)(a6:W0.heap.size<=RM/\RM≠K/\RM≠M1/\RM≠M2/\RM≠M3/\A RM)(nv:Value)(n:Nat)(f:Lit->Option Value)(cq:n<=64)(bE:f (.int .i64 1)=none)
 (w:World) (W:lX W0 A K M1 M2 M3 RM o cap [H,d] n f w):
 Calls prog 56 #[.pointer (some ⟨K,0,none⟩),.int .i64 1,nv,.map (some RM),.int .i64 31] w fun p w'=>
  (∃g c,p=.returned (.tuple #[.agg #[.string ⟨#[98]⟩,.string ⟨#[]⟩,.slice (some ⟨g,0,none⟩) 1 c,.slice none 0 0],.int .i64 0])/\w'.ownsRow w.heap.size 69 2 (.slice (some ⟨g,0,none⟩) 1 c) 1 [.string ⟨#[107]⟩,.string ⟨#[]⟩])/\w.grownBy w' (some RM)/\∃bA,lX W0 A K M1 M2 M3 RM o cap [H,d] (n+1) bA w':=by
 have bc:∀a:Nat,a<=64->keyOf prog 3 (.int .i64 (a:Nat))=some (.int .i64 (a:Nat)):=fun a ci=>pj cU (kM ad);obtain⟨ae,bi,T,a5⟩:=cm w (.cells #[.string ⟨#[]⟩,.string ⟨#[]⟩,.slice none 0 0,.slice none 0 0] 29);have L:=W.below T;have F:(zeroValue 48).run prog ae=.ok (.slice none 0 0) ae:=aA;have Z:=L.rows.look_ok (gw cU) Cc F (key:=.int .i64 1) (kl:=.int .i64 1) dH (bc 1 ad);rw[bE]at Z;simp only[xV,xW]at Z;have bg:=RX [H,d] o cap W0 X ak A K M1 M2 M3 1 d rfl (by rw[ab];rfl) nv ae L.known;obtain⟨a4,a3,a0,C,m,av⟩:=g6 bg W L a5 T X;clear W L bg a5 T F X;go_enter func56,ntmps56
 go_wp2_with(first|(rw[<-bi];clear bi)|fail)
 refine a4.o.mono ?_;rintro p cd ⟨rfl,r⟩;rw[r];clear r a4 Z cd;have bd:=a0.o.rows;go_wp2_with(first
  |(at_mapUpdate;go_must (refine oy bd rfl _ _ _ 128 rfl 48 (gw cU) Cc rfl bI _ _ _ rfl rfl dH (bc 1 ad) ?_);intro e be Y;clear bd;have M:=a0.o.put Y be a6;have R:=ah M;have i:=ah Y;have ca:=ai 0 M.known.blk;obtain⟨b,cv,bz,O,af,ag,al,an,ao,aq⟩:=(av.o.below M.known.base).at (k:=1) (x:=d) rfl;rw[ab]at af ag al an ao aq;dsimp only[kG,db,ge]at af ag al an ao aq;subst bz;clear M Y be)
  |fail)
 clear ca af ag al an ao aq;obtain⟨h,N⟩:=ar ((e.alloc (.cells #[.string ⟨#[98]⟩,.string ⟨#[98]⟩,.slice d.ao 1 d.ac,.string ⟨#[]⟩,.bool true,.slice d.no 0 d.nc] 53)).alloc (.cells #[.string ⟨#[98]⟩,.string ⟨#[]⟩,.slice none 0 0,.slice none 0 0] 29));have V:Below e.heap.size e h:=by rw[N];exact aG.alloc ak _
 have t4:h.heap[e.heap.size+1]?=some (.cells #[.string ⟨#[98]⟩,.string ⟨#[]⟩,.slice none 0 0,.slice none 0 0] 29):=by rw[N];have:=aB (e.alloc (.cells #[.string ⟨#[98]⟩,.string ⟨#[98]⟩,.slice d.ao 1 d.ac,.string ⟨#[]⟩,.bool true,.slice d.no 0 d.nc] 53)) (.cells #[.string ⟨#[98]⟩,.string ⟨#[]⟩,.slice none 0 0,.slice none 0 0] 29);rwa[bj]at this
 rw[<-N];have bl:dZ h d.ao d.ac [[107]]:=by have:=((av.o.below ((R.o.below V).known.base)).2 d ak).1;rw[ab]at this;exact this
 obtain⟨ce,ch,bZ,co,a8⟩:=bl.2.2.2 ap;have bb:=a8 0 (.string ⟨#[107]⟩) rfl;rw[jX]at bb;obtain⟨I,S⟩:=aD V t4;rw[bZ];clear bl a8 V t4 N;go_loopw [66] (fun G wr=>G1 e h G wr) (fun G _=>1-(intOf G).toNat)
 case atStart=>exact .inl ⟨rfl,rfl⟩
 case round=>
 rcases hrel with⟨rfl,r⟩|⟨rfl,bB⟩
 ·rw[r]
  clear r wr;obtain⟨b9,b0,b6,b7,b8⟩:=cY Mx;have t2:=ai 2 S.o;have b2:=dK h [.string ⟨#[107]⟩,.string ⟨#[]⟩] 69 _ rfl;have bt:Hid (∀y gc s,s.ownsRow e.heap.size 69 2 (.slice (some ⟨y,0,none⟩) 1 gc) 1 [.string ⟨#[107]⟩,.string ⟨#[]⟩]->(h.alloc (.cells #[.string ⟨#[107]⟩,.string ⟨#[]⟩] 69)).grownBy s none->(s.cell? ⟨e.heap.size+1,2,none⟩=some (.slice none 0 0)/\s.frozen? ⟨e.heap.size+1,2,none⟩=false)/\G1 e h (.int .i64 1) (s.setCell ⟨e.heap.size+1,2,none⟩ (.slice (some ⟨y,0,none⟩) 1 gc))):=ah (fun y gc s D P=>by
   have bw:Below h.heap.size h (h.alloc (.cells #[.string ⟨#[107]⟩,.string ⟨#[]⟩] 69)):=aG;have t5:=(bw.block _ (ax S.o)).trans S.o;have t12:=(P.block _ (ax t5) ak).trans t5;refine⟨⟨ai 2 t12,aT t12 2⟩,.inr ⟨rfl,y,gc,bn _ _ 2 _ t12,?_,?_⟩⟩
   ·exact aP D (fun g bN=>aS _ _ _ _ _ (fun p=>gR D t12 ap (by rw[bN,p])))
   ·exact(((I.o.alloc I.o.size _)).grown P (by simp;have:=I.o.size;omega) (fun q p=>by cases p)).setCell ak _)
  have bC:e.heap.size<=(h.alloc (.cells #[.string ⟨#[107]⟩,.string ⟨#[]⟩] 69)).heap.size:=by simp;have:=I.o.size;omega
  go_wp2_with(first
   |(at_builtin;go_must (refine is _ rfl _ _ 26 rfl e.heap.size 69 b9 _ 2 32 underlying26 b0 b6 b7 b8 rfl ad (.slice none 0 0) 0 [] rfl (dc _ _ _ _) ⟨h.heap.size,0,none⟩ 1 1 [.string ⟨#[107]⟩,.string ⟨#[]⟩] rfl rfl b2 (fun z F=>by simp at F;rcases F with rfl|rfl<;>rfl) ad bI ad bC _ rfl ?_);intro y gc s bf a9 bD cp;obtain⟨⟨bo,bq⟩,a7⟩:=bt.o y gc s bf a9;have bu:=ah a7;clear a7 bf a9 bD)
   |fail)
  exact⟨bu.o,by simp[intOf]⟩
 ·obtain⟨g,c,E,D,l⟩:=bB
  obtain⟨a2,u⟩:=aD D l;have cl:decide ((1:Int)<1)=false:=ap;have aa:w.heap.size≠RM:=by have:=a3.o.rows.lt;omega
  have j:=(l.block _ (ax ((i.o.block _ (ax C.out) aR).trans C.out))).trans ((i.o.block _ (ax C.out) aR).trans C.out);have t0:=ai 0 E;have t1:=ai 1 E;have t2:=ai 2 E;have t3:=ai 3 E;have cx:=ai 0 j;have cF:=ai 1 j;have cG:=ai 2 j;have cN:=ai 3 j;have f0:=aT j 0;have f1:=aT j 1;have f2:=aT j 2;have f3:=aT j 3;have a1:=ah j;have cs:w.heap.size≠e.heap.size+1:=by have:=i.o.size;have:=ax C.out;omega
  clear D l j E bb;go_wp2_with fail
  obtain⟨Q,b5⟩:=ar (wr);subst b5;go_loopw [80] (fun G wr=>G=.int .i64 0/\wr=Q) (fun _ _=>0)
  case atStart=>exact⟨rfl,rfl⟩
  case round=>
  obtain⟨rfl,r⟩:=hrel;rw[r];clear r wr;go_wp2_with fail
  obtain⟨B,t⟩:=ar ((((Q.setCell ⟨w.heap.size,0,none⟩ (.string ⟨#[98]⟩)).setCell ⟨w.heap.size,1,none⟩ (.string ⟨#[]⟩)).setCell ⟨w.heap.size,2,none⟩ (.slice (some ⟨g,0,none⟩) 1 c)).setCell ⟨w.heap.size,3,none⟩ (.slice none 0 0));have J:B.heap[w.heap.size]?=some (.cells #[.string ⟨#[98]⟩,.string ⟨#[]⟩,.slice (some ⟨g,0,none⟩) 1 c,.slice none 0 0] 29):=by rw[t];exact bn _ _ 3 _ (bn _ _ 2 _ (bn _ _ 1 _ (bn _ _ 0 _ a1.o)))
  have O:∀b,b≠w.heap.size->B.heap[b]?=Q.heap[b]?:=fun b l=>by rw[t,aS _ _ _ _ _ l,aS _ _ _ _ _ l,aS _ _ _ _ _ l,aS _ _ _ _ _ l]
  have b4:B.heap.size=Q.heap.size:=by rw[t];simp only[dE]
  have ba:w.grownBy B (some RM):=⟨by rw[t];exact u.o.os.trans (i.o.os.trans m.out.os),by rw[t];exact u.o.tape.trans (i.o.tape.trans m.out.tape),by rw[t];exact u.o.output.trans (i.o.output.trans m.out.output),by rw[b4];exact aJ m.out.size (aJ i.o.size u.o.size),
   fun b l aa=>(O b ad).trans ((u.o.block b (by have:=m.out.size;have:=i.o.size;omega)).trans ((i.o.block b (by have:=m.out.size;omega) aa).trans (m.out.block b l)))⟩
  have b1:bp B prog 3 RM (n+1) _:=(R.o.rows.of_block (u.o.block RM R.o.rows.lt)).of_block (O RM aa.symm);have b3:=aP a2.o (W':=B) (fun g P=>O g (fun p=>gR a2.o a1.o ap (by rw[P,p])));have bF:=a3.o.put ba b1 a6;rw[<-t];have bo:=ai 0 J;have bq:=ai 1 J;have cb:=ai 2 J;have cc:=ai 3 J;exact cg (v:=.tuple #[.agg #[.string ⟨#[98]⟩,.string ⟨#[]⟩,.slice (some ⟨g,0,none⟩) 1 c,.slice none 0 0],.int .i64 0]) (by simp[results,results56,go_sem,bo,bq,cb,cc,I2]) rfl ⟨⟨g,c,rfl,dR b3 (aJ m.out.size i.o.size)⟩,ba,_,bF⟩
theorem lY{w:World}{B b size n g c:Nat}{xs:List Value}(d:w.ownsRow B b size (.slice (some ⟨g,0,none⟩) n c) n xs)(i:0<n):B<=g/\g<w.heap.size/\∀j u,j<n*size->xs[j]?=some u->w.cell? ⟨g,j,none⟩=some u:=by
 obtain⟨m,l,a,e,f,h⟩:=oS d i;injection a with a _ _
 injection a with a
 injection a with a _ _
 subst a;exact⟨e,f,h⟩
theorem G2{W:World}{B f size n c g:Nat}{xs:List Value}(d:W.ownsRow B f size (.slice (some ⟨g,0,none⟩) n c) n xs):mf W (fun b=>B<=b) (some ⟨g,0,none⟩) n c size xs:=by have a:=jx d;refine⟨a.1,a.2.1,a.2.2.1,fun m=> ?_⟩;obtain⟨h,i,l⟩:=lY d m;refine⟨g,0,rfl,i,h,fun j u e=> ?_⟩;rw[cD];exact l j u (by have:=a.1;have:=(aL.1 e).1;omega) e
theorem G3{W:World}{B g c d ac:Nat}(j:W.ownsRow B 29 4 (.slice (some ⟨g,0,none⟩) 1 c) 1 [.string ⟨#[98]⟩,.string ⟨#[]⟩,.slice (some ⟨d,0,none⟩) 1 ac,.slice none 0 0])
 (h:W.ownsRow B 69 2 (.slice (some ⟨d,0,none⟩) 1 ac) 1 [.string ⟨#[107]⟩,.string ⟨#[]⟩]):dm W (fun b=>B<=b) fP ⟨none,0,some ⟨g,0,none⟩,c⟩:=by
 refine .mk ⟨rfl,az _,aZ _,fun e=>absurd e ap⟩ [⟨some ⟨d,0,none⟩,ac,none,0⟩] rfl (G2 j) ?_;intro i k q a f;match i with
 |0=>
  simp at a f;subst a f;exact .mk (G2 h) [] rfl ⟨rfl,az _,aZ _,fun e=>absurd e ap⟩ (fun i k q a=>by simp at a)
 |i+1=>simp at a
def G4(W0:World)(e:Nat)(a:World)(f:Nat)(d:Value)(wr:World):Prop:=(d=.int .i64 0/\wr=a)∨(d=.int .i64 1/\∃g c b ac,wr.heap[f]?=some (.cells #[.string ⟨#[97]⟩,.string ⟨#[]⟩,.slice none 0 0,.slice (some ⟨g,0,none⟩) 1 c] 29)/\
 wr.ownsRow a.heap.size 29 4 (.slice (some ⟨g,0,none⟩) 1 c) 1 [.string ⟨#[98]⟩,.string ⟨#[]⟩,.slice (some ⟨b,0,none⟩) 1 ac,.slice none 0 0]/\wr.ownsRow a.heap.size 69 2 (.slice (some ⟨b,0,none⟩) 1 ac) 1 [.string ⟨#[107]⟩,.string ⟨#[]⟩]/\Below W0.heap.size W0 wr/\
 wr.heap[e]?=some (.cells #[.string ⟨#[]⟩,.string ⟨#[]⟩,.slice none 0 0,.slice none 0 0] 29))
theorem Sc(e B:am)(ae:e.t=ja)(bi:B.t=kG)(o:Option Addr)(cap:Nat)(W0:World)(ex:Gl W0)(a8:bR W0 o cap [e,B])(A:Nat->Prop)(K M1 M2 M3 RM:Nat)(es:A M2)(X:W0.heap.size<=RM/\RM≠K/\RM≠M1/\RM≠M2/\RM≠M3/\A RM)(no:Option Addr)(af:Nat)
 (w:World) (a7:lX W0 A K M1 M2 M3 RM o cap [e,B] 0 (fun _=>none) w) (b9:ry w no af [2,1]):
 Calls prog 56 #[.pointer (some ⟨K,0,none⟩),.int .i64 0,.slice no 2 af,.map (some RM),.int .i64 32] w fun d w'=>
  ∃c4:KA,d=.returned (.tuple #[cP fP c4,.int .i64 0])/\dm w' (fun b=>W0.heap.size<=b) fP c4/\Below W0.heap.size W0 w':=by
 have cl:∀a:Nat,a<=64->keyOf prog 3 (.int .i64 (a:Nat))=some (.int .i64 (a:Nat)):=fun a bc=>pj cU (kM ad);obtain⟨al,cN,S,b3⟩:=cm w (.cells #[.string ⟨#[]⟩,.string ⟨#[]⟩,.slice none 0 0,.slice none 0 0] 29);have F:=a7.below S;have N:(zeroValue 48).run prog al=.ok (.slice none 0 0) al:=aA;have Z:=F.rows.look_ok (gw cU) Cc N (key:=.int .i64 0) (kl:=.int .i64 0) dH (cl 0 ad);simp only[xV,xW]at Z;have cF:=Sa e B ae bi o cap W0 ex a8 A K M1 M2 M3 es no af al F.known F.made (dp.below b9 S);obtain⟨bN,a5,bu,a0,fs,bt⟩:=g6 cF a7 F b3 S a8;clear a7 F cF b3 S N a8 b9;go_enter func56,ntmps56
 go_wp2_with(first|(rw[<-cN];clear cN)|fail)
 refine bN.o.mono ?_;rintro d c5 ⟨⟨bq,wc,rfl,c1⟩,b7,b8,bf⟩;clear bN Z;have eB:some RM≠some M2:=fun d=>by injection d with d;exact X.2.2.2.1 d
 have ba:lX W0 A K M1 M2 M3 RM o cap [e,B] 0 (fun _=>none) c5:=⟨b7,b8,bu.o.rows.kept bf eB⟩;have cq:=ba.rows;obtain⟨bB,a6⟩:=aD ba c1;have R:Hid (c5.heap[w.heap.size]?=some (.cells #[.string ⟨#[]⟩,.string ⟨#[]⟩,.slice none 0 0,.slice none 0 0] 29)):=ah ((bf.block _ (ax a0.out) (by obtain⟨gb,f2,eV,_⟩:=bu.o.made;intro d;injection d with d;obtain⟨er,en,l⟩:=eV.block;rw[<-d,a0.out]at l;cases l)).trans a0.out);clear b7 b8 bf c1 ba;go_wp2_with(first
  |(at_mapUpdate;go_must (refine oy cq rfl _ _ _ 128 rfl 48 (gw cU) Cc rfl bI _ _ _ rfl rfl dH (cl 0 ad) ?_);intro i cs bg;clear cq;have W:=bB.o.put bg cs X;have c9:Hid (∃f1,f1 (.int .i64 1)=none/\lX W0 A K M1 M2 M3 RM o cap [e,B] 1 f1 i):=ah ⟨_,jS _ _ (by intro d;injection d with _ d;revert d;decide),W⟩;have H:=ah bg;have fc:=ai 0 W.known.blk;obtain⟨b,fg,eo,bd,an,ao,aq,y,E,av⟩:=(bt.o.below W.known.base).at (k:=0) (x:=e) rfl;rw[ae]at an ao aq y E av;dsimp only[ja,db,ge]at an ao aq y E av;rw[ui,jX]at an ao aq y E av;subst eo;clear W bg cs)
  |fail)
 clear fc an ao aq y E av;obtain⟨h,J⟩:=ar ((i.alloc (.cells #[.string ⟨#[97]⟩,.string ⟨#[97]⟩,.slice e.ao 0 e.ac,.string ⟨#[]⟩,.bool false,.slice e.no fO.length e.nc] 53)).alloc (.cells #[.string ⟨#[97]⟩,.string ⟨#[]⟩,.slice none 0 0,.slice none 0 0] 29));have b0:Below i.heap.size i h:=by rw[J];exact aG.alloc ak _
 have t4:h.heap[i.heap.size+1]?=some (.cells #[.string ⟨#[97]⟩,.string ⟨#[]⟩,.slice none 0 0,.slice none 0 0] 29):=by rw[J];have:=aB (i.alloc (.cells #[.string ⟨#[97]⟩,.string ⟨#[97]⟩,.slice e.ao 0 e.ac,.string ⟨#[]⟩,.bool false,.slice e.no fO.length e.nc] 53)) (.cells #[.string ⟨#[97]⟩,.string ⟨#[]⟩,.slice none 0 0,.slice none 0 0] 29);rwa[bj]at this
 have E:h.heap[i.heap.size]?=some (.cells #[.string ⟨#[97]⟩,.string ⟨#[97]⟩,.slice e.ao 0 e.ac,.string ⟨#[]⟩,.bool false,.slice e.no fO.length e.nc] 53):=by rw[J];exact(aG.block _ ak).trans (aB i _)
 have cG:[e,B].map am.t=cM:=by simp[ae,bi,cM]
 rw[<-J];obtain⟨Q,bC⟩:=aD b0 t4;have fy:decide ((0:Int)<0)=false:=ap;obtain⟨ed,ec⟩:=aD E cG;clear b0 t4 E cG J;go_loopw [66] (fun r wr=>r=.int .i64 0/\wr=h) (fun _ _=>0)
 case atStart=>exact⟨rfl,rfl⟩
 case round=>
 obtain⟨rfl,m⟩:=hrel;rw[m];clear m wr
 go_wp2
 go_loopw [80] (fun r wr=>G4 W0 w.heap.size h (i.heap.size+1) r wr) (fun r _=>1-(intOf r).toNat)
 case atStart=>exact .inl ⟨rfl,rfl⟩
 case round=>
 rcases hrel with⟨rfl,m⟩|⟨rfl,ev⟩
 ·rw[m]
  clear m wr;obtain⟨f1,ce,a9⟩:=c9.o;have I:=a9.below Q.o;have dr:=ah I;have fd:=ai 1 I.known.blk;have Z:(Instr.lookup 74 (.map (some M1)) (.string ⟨#[98]⟩) false).run prog h=.ok (.int .i64 1) h:=by have:=tS (b:=[98]) I.known.places ap;rw[ec.o,GS]at this;exact this
  have co:=Sb e B ae bi _ cap W0 bt.o A K M1 M2 M3 RM X (.slice no 2 af) 1 f1 ad ce h I;have bF:=ah co;have ca:=a9.rows.lt;have a4:=ah ca;have c0:h.ownsRow al.heap.size 9 1 (.slice (some ⟨bq,0,none⟩) 1 wc) 1 ([([98]:Bytes)].map encStr):=aP a6.o (fun q f=>by
   have d:bq=q:=by injection f
   have:=(lY a6.o ap).2.1;have ga:=H.o.size;have eZ:bq≠RM:=fun d=>by obtain⟨er,en,l⟩:=bB.o.rows.block;exact kD a6.o l (by rw[<-d];rfl)
   subst d;exact(Q.o.block _ ad).trans (H.o.block _ ad aR))
  have em:=(lY c0 ap).2.2 0 (.string ⟨#[98]⟩) ap rfl;clear c0 a9 I co ca ce;go_wp2_with fail
  refine bF.o.mono ?_;rintro d bo ⟨⟨g,c,rfl,cv⟩,ch,f2,cb⟩;clear Z fd em bF;obtain⟨j,cd,b1,c6⟩:=cm bo (.cells #[.string ⟨#[98]⟩,.string ⟨#[]⟩,.slice (some ⟨g,0,none⟩) 1 c,.slice none 0 0] 29);obtain⟨t,bZ,bE,bA,ds⟩:=jJ b1 c6 ch cv cb;clear b1 c6 ch cv cb;have aa:=aP bA.o (W':=j) (fun q f=>by
   have d:g=q:=by injection f
   subst d;exact t.out.block _ (lY bA.o ap).2.1)
  have a3:=ah aa;have eg:=(lY aa ap).2.2 0 (.string ⟨#[107]⟩) ap rfl;have a1:=(lY aa ap).2.2 1 (.string ⟨#[]⟩) ap rfl;have G:∀q D,h.heap[q]?=some D->q≠RM->j.heap[q]?=some D:=fun q D f eZ=>by have b4:=(bE.o.block q (ax f) aR).trans f;exact(t.out.block q (ax b4)).trans b4
  have y:=G _ _ ed.o (by have:=a4.o;omega);have d3:=ai 3 ((((aE j.heap.size j).alloc (az _) (.cells #[.string ⟨#[107]⟩,.string ⟨#[]⟩] 69)).block _ (ax y)).trans y);clear y;have bD:=ah G;clear aa G;go_wp2_with fail
  rw[<-cd];clear cd;go_loopw [107] (fun r wr=>(r=.int .i64 0/\wr=j)∨(r=.int .i64 1/\wr=j.alloc (.cells #[.string ⟨#[107]⟩,.string ⟨#[]⟩] 69))) (fun r _=>1-(intOf r).toNat)
  case atStart=>exact .inl ⟨rfl,rfl⟩
  case round=>
  rcases hrel with⟨rfl,m⟩|⟨rfl,m⟩
  ·rw[m]
   clear m wr;go_wp2_with fail
   refine⟨Or.inr ak,by simp[intOf]⟩
  ·obtain⟨s,bb⟩:=ar (j.alloc (.cells #[.string ⟨#[107]⟩,.string ⟨#[]⟩] 69))
   rw[m,<-bb];have T:Below j.heap.size j s:=by rw[bb];exact aG
   clear m wr bb eg a1 d3;have P:=(T.block _ (ax bZ.out)).trans bZ.out;have gs:=ai 0 P;have gu:=ai 1 P;have gv:=ai 2 P;have gG:=ai 3 P;have cu:i.heap.size+1≠RM:=by have:=a4.o;omega
   have ag:=bD.o _ _ bC.o cu;have bl:=(T.block _ (ax ag)).trans ag;have t3:=ai 3 bl;obtain⟨fu,u⟩:=aD bl T;obtain⟨it,eN,e8,e9,fb⟩:=cY DV;have e0:=dK s [.string ⟨#[98]⟩,.string ⟨#[]⟩,.slice (some ⟨g,0,none⟩) 1 c,.slice none 0 0] 29 _ rfl;have e5:h.heap.size<=bo.heap.size:=bE.o.size;have e6:bo.heap.size<=j.heap.size:=t.out.size;have e7:j.heap.size<=s.heap.size:=u.out.size;have e4:i.heap.size+1<h.heap.size:=ax bC.o;have ea:Hid (∀C gc n,n.ownsRow h.heap.size 29 4 (.slice (some ⟨C,0,none⟩) 1 gc) 1 [.string ⟨#[98]⟩,.string ⟨#[]⟩,.slice (some ⟨g,0,none⟩) 1 c,.slice none 0 0]->(s.alloc (.cells #[.string ⟨#[98]⟩,.string ⟨#[]⟩,.slice (some ⟨g,0,none⟩) 1 c,.slice none 0 0] 29)).grownBy n none->(n.cell? ⟨i.heap.size+1,3,none⟩=some (.slice none 0 0)/\n.frozen? ⟨i.heap.size+1,3,none⟩=false)/\G4 W0 w.heap.size h (i.heap.size+1) (.int .i64 1) (n.setCell ⟨i.heap.size+1,3,none⟩ (.slice (some ⟨C,0,none⟩) 1 gc))):=ah (fun C gc n L be=>by
    have b2:Below s.heap.size s (s.alloc (.cells #[.string ⟨#[98]⟩,.string ⟨#[]⟩,.slice (some ⟨g,0,none⟩) 1 c,.slice none 0 0] 29)):=aG;have G:∀q D,j.heap[q]?=some D->n.heap[q]?=some D:=fun q D f=>by have b5:=(u.out.block q (ax f)).trans f;have b6:=(b2.block q (ax b5)).trans b5;exact(be.block q (ax b6) ak).trans b6
    have t12:=G _ _ ag;have fN:=(lY L ap).1;have fG:=(lY a3.o ap).1;have e1:=aP a3.o (W':=n) (fun q f=>by
     have e3:q<j.heap.size:=by
      have d:g=q:=by injection f
      subst d;exact(lY a3.o ap).2.1
     exact(be.block q aR ak).trans ((b2.block q ad).trans (u.out.block q e3)))
    have fx:=dr.o.known.base.size;have eA:w.heap.size<i.heap.size:=by have:=ax R.o;have:=H.o.size;omega
    have fr:h.heap[w.heap.size]?=some (.cells #[.string ⟨#[]⟩,.string ⟨#[]⟩,.slice none 0 0,.slice none 0 0] 29):=(Q.o.block _ eA).trans ((H.o.block _ (ax R.o) (by have:=a5.o.rows.lt;simp;omega)).trans R.o);have fq:=G _ _ (bD.o _ _ fr (by have:=a5.o.rows.lt;omega));have ez:W0.heap.size<=i.heap.size+1:=by have:=X.1;have:=a4.o;omega
    have el:Below W0.heap.size W0 n:=((((ds.o.known.base.trans ⟨t.out.os,t.out.tape,t.out.output,t.out.size,fun k eU=>t.out.block k ad⟩).trans ⟨u.out.os,u.out.tape,u.out.output,u.out.size,fun k eU=>u.out.block k ad⟩).alloc ad _).grown be aR (fun k d=>by cases d));refine⟨⟨ai 3 t12,aT t12 3⟩,.inr ⟨rfl,C,gc,g,c,bn _ _ 3 _ t12,?_,?_,el.setCell ez _,?_⟩⟩
    ·exact aP L (fun q f=>aS _ _ _ _ _ (by have d:C=q:=(by injection f);omega))
    ·exact aP e1 (fun q f=>aS _ _ _ _ _ (by have d:g=q:=(by injection f);omega))
    ·exact(aS _ _ _ _ _ ad).trans fq)
   have ew:h.heap.size<=(s.alloc (.cells #[.string ⟨#[98]⟩,.string ⟨#[]⟩,.slice (some ⟨g,0,none⟩) 1 c,.slice none 0 0] 29)).heap.size:=aR;clear P ag bl T e5 e6 e7 e4 cu;go_wp2_with(first
    |(at_builtin;go_must (refine is _ rfl _ _ 27 rfl h.heap.size 29 it _ 4 80 underlying27 eN e8 e9 fb rfl ad (.slice none 0 0) 0 [] rfl (dc _ _ _ _) ⟨s.heap.size,0,none⟩ 1 1 [.string ⟨#[98]⟩,.string ⟨#[]⟩,.slice (some ⟨g,0,none⟩) 1 c,.slice none 0 0] rfl rfl e0 (fun z N=>by simp at N;rcases N with rfl|rfl|rfl|rfl<;>rfl) ad bI ad ew _ rfl ?_);intro C gc n cx ci eD fT;obtain⟨⟨c2,c3⟩,cc⟩:=ea.o C gc n cx ci;have eb:=ah cc;clear cc cx ci eD)
    |fail)
   exact⟨eb.o,by simp[intOf]⟩
 ·obtain⟨g,c,ek,ac,M,L,bc,l,p⟩:=ev
  have t0:=ai 0 M;have t1:=ai 1 M;have t2:=ai 2 M;have t3:=ai 3 M;have gf:=ai 0 p;have gg:=ai 1 p;have gl:=ai 2 p;have gr:=ai 3 p;have f0:=aT p 0;have f1:=aT p 1;have f2:=aT p 2;have f3:=aT p 3;obtain⟨c8,bz,bw,c7⟩:=cr p L bc l;have fz:decide ((1:Int)<1)=false:=ap;have cp:w.heap.size<h.heap.size:=by have F:=ax R.o;have fv:=H.o.size;have fw:=Q.o.size;omega
  have a2:=ah cp;clear L bc l p M cp;go_wp2_with fail
  obtain⟨O,ab⟩:=ar ((((wr.setCell ⟨w.heap.size,0,none⟩ (.string ⟨#[97]⟩)).setCell ⟨w.heap.size,1,none⟩ (.string ⟨#[]⟩)).setCell ⟨w.heap.size,2,none⟩ (.slice none 0 0)).setCell ⟨w.heap.size,3,none⟩ (.slice (some ⟨g,0,none⟩) 1 c));have V:O.heap[w.heap.size]?=some (.cells #[.string ⟨#[97]⟩,.string ⟨#[]⟩,.slice none 0 0,.slice (some ⟨g,0,none⟩) 1 c] 29):=by rw[ab];exact bn _ _ 3 _ (bn _ _ 2 _ (bn _ _ 1 _ (bn _ _ 0 _ c8.o)))
  have bd:∀b,b≠w.heap.size->O.heap[b]?=wr.heap[b]?:=fun b l=>by rw[ab,aS _ _ _ _ _ l,aS _ _ _ _ _ l,aS _ _ _ _ _ l,aS _ _ _ _ _ l]
  have Y:W0.heap.size<=w.heap.size:=a5.o.known.base.size;have eE:Below W0.heap.size W0 O:=by rw[ab];exact(((c7.o.setCell Y _).setCell Y _).setCell Y _).setCell Y _
  have e2:=aP bz.o (W':=O) (fun q f=>bd q (by
   have d:g=q:=by injection f
   have:=(lY bz.o ap).1;have:=a2.o;omega))
  have eC:=aP bw.o (W':=O) (fun q f=>bd q (by
   have d:ek=q:=by injection f
   have:=(lY bw.o ap).1;have:=a2.o;omega))
  rw[<-ab];have c2:=ai 0 V;have c3:=ai 1 V;have fl:=ai 2 V;have fo:=ai 3 V;exact cg (v:=.tuple #[.agg #[.string ⟨#[97]⟩,.string ⟨#[]⟩,.slice none 0 0,.slice (some ⟨g,0,none⟩) 1 c],.int .i64 0]) (by simp[results,results56,go_sem,c2,c3,fl,fo,I2]) rfl ⟨⟨none,0,some ⟨g,0,none⟩,c⟩,rfl,(G3 e2 eC).kept (az _) (fun b fg _ l=>⟨rfl,by have:=a2.o;omega⟩),eE⟩
end Go.Proofs.YtnadadbndcdolaaGreatDoor
