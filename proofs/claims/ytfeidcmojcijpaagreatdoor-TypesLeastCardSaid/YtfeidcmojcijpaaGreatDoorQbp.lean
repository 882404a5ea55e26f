import Derived.Test.YtfeidcmojcijpaaGreatDoorQbo
set_option linter.all false
set_option maxRecDepth 100000
set_option maxHeartbeats 0
namespace Go.Proofs.YtfeidcmojcijpaaGreatDoor
open Go.RowKit Tryz
section
open Wey
def Un:(prog.info? 85).map (fun i=>(i.zero,i.size,i.bytes))=some (some (.agg #[.bool false,.int .i64 0,.slice none 0 0]),3,40):=az
def Uo(w:World)(o a:Obj):((w.alloc o).alloc a).heap[w.heap.size]?=some o:=(br _ _ _ aj).Z (aN w o)
def Up(w:World)(o a:Obj):((w.alloc o).alloc a).heap[w.heap.size+1]?=some a:=by have:=aN (w.alloc o) a;rwa[bP]at this
def Uq(w:World)(o a:Obj):((w.alloc o).alloc a).drew.heap[w.heap.size]?=some o:=Uo w o a
def Ur(w:World)(o a:Obj):((w.alloc o).alloc a).drew.heap[w.heap.size+1]?=some a:=Up w o a
def CG(W wr:World)(m:Nat)(ws:List Bytes)(d:Value)(b:World):Prop:=∃a g c,d=.pointer (some ⟨a,0,none⟩)/\W.heap.size<=a/\b.heap[a]?=some (.cells #[.bool true,.int .i64 (m:Nat),.slice (some ⟨g,0,none⟩) ws.length c] 85 (0,0))/\bN b wr.heap.size (.slice (some ⟨g,0,none⟩) ws.length c) ws/\Below wr.heap.size wr b
def Us{n q:Nat}(a:n<=4097)(b:q<=4097):min 4097 (IntKind.i64.wrap ((n:Int)+(q:Int)))=((min 4097 (n+q):Nat):Int):=by rw[K7];omega
def Ut{c wr u:World}{a gc n m:Nat}{ws:List Bytes}{xs:List Value}(d:c.heap.size<=u.heap.size)(g:u.ownsRow wr.heap.size 9 1 (.slice (some ⟨a,0,none⟩) n gc) n xs)(f:n=ws.length)(h:xs=ws.map fun b=>Value.string ⟨b.toArray⟩)(e:Below wr.heap.size wr u)(i:wr.heap.size<=c.heap.size):
 CG c wr m ws (.pointer (some ⟨u.heap.size,0,none⟩)) (u.alloc (.cells #[.bool true,.int .i64 (m:Nat),.slice (some ⟨a,0,none⟩) n gc] 85)):=by
 subst f;subst h;exact⟨u.heap.size,a,gc,rfl,d,aN u _,dp g _,e.alloc ad _⟩
def Jy{d wr u:World}{a c gc n m:Nat}{ws:List Bytes}{xs:List Value}(h:u.heap[a]?=some (.cells #[.bool false,.int .i64 0,.slice none 0 0] 85 (0,0)))(o:d.heap.size<=a)(g:u.ownsRow wr.heap.size 9 1 (.slice (some ⟨c,0,none⟩) n gc) n xs)(q:n=ws.length)(r:xs=ws.map fun b=>Value.string ⟨b.toArray⟩)(p:Below wr.heap.size wr u)(t:wr.heap.size<=d.heap.size):
 CG d wr m ws (.pointer (some ⟨a,0,none⟩)) (((u.setCell ⟨a,0,none⟩ (.bool true)).setCell ⟨a,1,none⟩ (.int .i64 (m:Nat))).setCell ⟨a,2,none⟩ (.slice (some ⟨c,0,none⟩) n gc)):=by
 subst q;subst r;have e:=a8 u a 0 (.bool true) h;have f:=a8 _ a 1 (.int .i64 (m:Nat)) e;have l:=a8 _ a 2 (.slice (some ⟨c,0,none⟩) ws.length gc) f;have i:=cm g (gi u a 0 (.bool true)) (.inr (iP g h aq));have j:=cm i (gi _ a 1 (.int .i64 (m:Nat))) (.inr (iP i e aq));have s:=cm j (gi _ a 2 (.slice (some ⟨c,0,none⟩) ws.length gc)) (.inr (iP j f aq));exact⟨a,c,gc,rfl,o,l,s,((p.setCell (by show wr.heap.size<=a;omega) _).setCell (by show wr.heap.size<=a;omega) _).setCell (by show wr.heap.size<=a;omega) _⟩
def vQ(d:List Bytes)(n:Nat)(a c:List BR)(b:Bool)(S:Prop):Prop:=(b=false->c=a/\S)/\(b=true->ranksR bM d n (c.map BR.o)<ranksR bM d n (a.map BR.o))
structure rU(w:World)(D TB:Nat)(l:List ax)(keys:List St)(rows:List (List Nat))(sv nv fv:Value)(vs:List Value)(W:World):Prop where
 res:W.heap[w.heap.size]?=some (.cells #[.bool false,.int .i64 0,.slice none 0 0] 85 (0,0))
 box:W.heap[D]?=some (.cells #[sv,nv,fv] 122 (0,0))
 auto:ev l keys rows
 syms:bN W w.heap.size sv (unionB (symsS l))
 nx:W.ownsRow w.heap.size 41 1 nv vs.length vs
 nl:vs.length=rows.length
 nr:∀(j:Nat) (v:Value) (r:List Nat),vs[j]?=some v->rows[j]?=some r->bW W w.heap.size v r
 fo:W.ownsRow w.heap.size 4 1 fv keys.length (keys.map fun s=>.bool (finM l s))
 O:Below w.heap.size w W
 tb:∃cs,W.heap[TB]?=some (.cells cs 85 (0,0))
 low:w.heap.size<D/\D<TB
def rU.at{w:World}{D d:Nat}{l:List ax}{keys:List St}{h:List (List Nat)}{i nv f:Value}{m:List Value}{W wr:World}{o:List BR}(a:rU w D d l keys h i nv f m W)(b:j8 W d o wr):rU w D d l keys h i nv f m wr:=by obtain⟨cs,t⟩:=a.tb;obtain⟨p,s,_⟩:=b.tab;have u:=a.low;have c:∀{e size n:Nat} {v:Value} {xs:List Value},W.ownsRow w.heap.size e size v n xs->e≠85->wr.ownsRow w.heap.size e size v n xs:=fun g x=>cm g b.far (.inr (iP g t x));exact⟨(b.far.J _ (aI a.res) (fun e=>by injection e with e;omega)).Z a.res,(b.far.J _ (aI a.box) (fun e=>by injection e with e;omega)).Z a.box,a.auto,c a.syms aq,c a.nx aq,a.nl,fun j v r hv y=>c (a.nr j v r hv y) aq,c a.fo aq,a.O.zu b.far a.O.size (fun q e=>by injection e with e;omega),⟨p,s⟩,u⟩
def rU.below'{w:World}{D d:Nat}{l:List ax}{keys:List St}{m:List (List Nat)}{o nv f:Value}{p:List Value}{W u:World}(a:rU w D d l keys m o nv f p W)(b:Below W.heap.size W u):rU w D d l keys m o nv f p u:=by obtain⟨cs,h⟩:=a.tb;have c:∀{e size n:Nat} {v:Value} {xs:List Value},W.ownsRow w.heap.size e size v n xs->u.ownsRow w.heap.size e size v n xs:=fun i=>aX i (fun g q=>b.J g (aY i g q).2);exact⟨(b.J _ (aI a.res)).Z a.res,(b.J _ (aI a.box)).Z a.box,a.auto,c a.syms,c a.nx,a.nl,fun j v r hv s=>c (a.nr j v r hv s),c a.fo,aE a.O b,⟨cs,(b.J _ (aI h)).Z h⟩,a.low⟩
def CH{l ws:List Bytes}{p:Bytes->Nat}{nx:Nat->Bytes->Nat}{n i j:Nat}{e f:List BR}{b:Bool}{g:Prop}{a:Bytes}(h:vQ l n e f b (g/\∀a∈ws.take j,o9 p nx n e i a))(q:ws[j]?=some a)(s:o9 p nx n f i a):vQ l n e f b (g/\∀a∈ws.take (j+1),o9 p nx n e i a):=
 ⟨fun r=>by
   obtain⟨rfl,m,o⟩:=h.1 r;refine⟨rfl,m,fun c d=> ?_⟩;rw[bH,q]at d;rcases dk.1 d with d|d
   exact o c d;simp at d;subst d;exact s,h.2⟩
def Jz(P:Prop):∃b:Bool,b=true↔P:=by by_cases a:P;exact⟨true,by simp[a]⟩;exact⟨false,by simp[a]⟩
def Uu{l:List ax}{i:Nat}{a:Bytes}(b:(unionB (symsS l))[i]?=some a):(unionB (symsS l)).idxOf a=i:=by
 have e:(unionB (symsS l)).Nodup:=by rw[zz];exact(vr _).imp fun b=>b.2
 obtain⟨c,d⟩:=aF.1 b;rw[<-d];exact e.idxOf_getElem i c
def JA(l:List ai)(o:Option Addr)(cap:Nat)(w:World)(h:cw w o cap l)(rk:l.length<=64)(k:Nat)(x:ai)(ba:l[k]?=some x)(be:bK x.t.E=0)(kd:x.t.E.length<=20)
 (hA:∀a∈unionB (symsS x.t.E),fi (l.map ai.t) a=(kidOf (l.map ai.t) a:Nat)/\kidOf (l.map ai.t) a<l.length) (ov:(unionB (symsS x.t.E)).length<=64) (N:List Nat) (jd:N.length=l.length) (jb:∀a∈N,a<=4097) (no:Option Addr) (lc:Nat) (jc:gX w no lc N):
 Calls prog 32 #[.slice o l.length cap,.int .i64 (k:Nat),.slice no N.length lc] w fun e w'=>(∃r:BR,e=.returned r.val/\k9 w.heap.size r w'/\qs (l.map ai.t) N x.t r.o)/\Below w.heap.size w w':=by
 obtain⟨hm,fL⟩:=am (w.alloc (.cells #[.bool false,.int .i64 0,.slice none 0 0] 85));have cg:=iC fL;have fu:=kj fL;have ns:=h.1.2.2.1;unfold maxLen at ns;have ob:=(aF.1 ba).1;have oc:(k:Int)<l.length:=ad;have n8:=aL k;have ed:dv w x.no x.nc x.t.E:=(h.2 x (aK ba)).2;have kc:=Ug x.t.E x.no x.nc be ad (Co be ad (Cn be kd)) hm (ed.O fu);obtain⟨b,pb,ht,nr,e9,a3,a4,cO,pt,pu⟩:=(h.O fu).at ba;subst ht;obtain⟨ha,g9,h3,hX,h5⟩:=iz cg fu kc h jd;clear jd;clear cg fu kc h e9 a3 a4 cO pt;go_enter func32,ntmps32
 go_wp2_with(first|(rw[<-fL];clear fL)|fail)
 refine h3.o.zz ?_;rintro e T ⟨⟨sn,nv,qx,keys,g7,g8,rfl,c9,bc,bd,hw,i3,hx⟩,H⟩;obtain⟨hV,bl,rfl⟩:=bs bc;obtain⟨lo,lg,rfl⟩:=bs bd;obtain⟨i2,fy,rfl⟩:=bs hx;obtain⟨n,e1⟩:=am g8.length;rw[<-e1]at bd;have gv:n=keys.length:=by rw[e1,hw];exact c9.ok.len
 have rs:n<=256:=by rw[gv];exact c9.ok.most
 have gs:0<n:=by rw[gv];exact(aF.1 c9.ok.first).1
 rw[<-e1];obtain⟨ws,g2⟩:=am (unionB (symsS x.t.E));rw[<-g2]at bc hA ov⊢;obtain⟨bu,eE⟩:=am (T.alloc (.cells #[.slice hV ws.length bl,.slice lo n lg,.slice i2 keys.length fy] 122));obtain⟨a6,V⟩:=am (madeCells #[.bool false,.int .i64 0,.slice none 0 0] (n*3));obtain⟨a7,fN⟩:=am (bu.alloc (.cells a6 85));have hq:=kj eE;have fv:=kj fN;have lU:=fH eE;have t7:=iC fN;have d6:=iC eE;have d7:=(fv.J _ (aI d6)).Z d6;have oj:∀f,(Instr.makeSlice 125 (.int .i64 (n:Int)) (.int .i64 (n:Int))).run prog f=.ok (.slice (some ⟨f.heap.size,0,none⟩) n n) (f.alloc (.cells a6 85)):=fun f=>by obtain⟨o1,n3,pG,p0,p1⟩:=cZ Un;have:=sj (P:=prog) f 125 85 o1 (.agg #[.bool false,.int .i64 0,.slice none 0 0]) underlying125 n3 pG .i64 .i64 n n ad ad (by rw[p1];omega) ad;simp only[nH,p0]at this;rw[this,V];rfl
 have iT:=aE (aE (aE g9.out H) hq) fv;have hp:=aE hq fv;have cN:w.heap.size<hm.heap.size:=aI ha.out;have e0:∀{e size n:Nat} {v:Value} {xs:List Value},T.ownsRow hm.heap.size e size v n xs->a7.ownsRow w.heap.size e size v n xs:=fun kp=>eR (aX kp (fun g bf=>hp.J g (aY kp g bf).2)) g9.out.size;have k0:rU w T.heap.size bu.heap.size x.t.E keys g7 (.slice hV ws.length bl) (.slice lo n lg) (.slice i2 keys.length fy) g8 a7:=⟨(hp.J _ (aQ H.size)).Z ((H.J _ cN).Z ha.out),d7,c9,by rw[<-g2];exact e0 bc,by rw[<-e1];exact e0 bd,hw,fun j v r hv O=>e0 (i3 j v r hv O),e0 hx,iT,⟨a6,t7⟩,by have:=H.size;omega⟩;have ec:j8 a7 bu.heap.size (List.replicate n rT) a7:=by
  refine⟨⟨a6,t7,fun s r O=> ?_⟩,fun r O=> ?_,⟨rfl,rfl,rfl,ay _,fun _ _ _=>rfl⟩⟩;rw[nD]at O;split at O;rename_i av;injection O with O
  subst O;have o2:=pZ [Value.bool false,.int .i64 0,.slice none 0 0] (n:=n) (i:=s) (j:=0) av aq;have o3:=pZ [Value.bool false,.int .i64 0,.slice none 0 0] (n:=n) (i:=s) (j:=1) av aq;have o4:=pZ [Value.bool false,.int .i64 0,.slice none 0 0] (n:=n) (i:=s) (j:=2) av aq;rw[V];exact⟨o2,o3,o4⟩;cases O
  obtain rfl:=DI O;exact⟨cW _ _ _ _,fun _=>⟨rfl,rfl⟩,aH _⟩
 have hR:=ec.put (s:=0) (x:=⟨true,0,[],.slice none 0 0⟩) (r:=rT) (by rw[nD,au gs]) ⟨cW _ _ _ _,(fun h=>by cases h),aH _⟩;rw[wu,cH,cH]at hR;obtain⟨hn,dl⟩:=am (((a7.setCell ⟨bu.heap.size,0,none⟩ (.bool true)).setCell ⟨bu.heap.size,1,none⟩ (.int .i64 0)).setCell ⟨bu.heap.size,2,none⟩ (.slice none 0 0));have k3:j8 a7 bu.heap.size ((List.replicate n rT).set 0 ⟨true,0,[],.slice none 0 0⟩) hn:=by rw[dl];exact hR
 have f0:=ec.free 0;have f1:=ec.free 1;have f2:=ec.free 2;have a0:=ec.at (s:=0) (r:=rT) (by rw[nD,au gs]);rw[wu,cH,cH]at a0;obtain⟨a0,eg,ek⟩:=a0;have fx:=ak 1 d6;have q2:decide ((256:Int)<n)=false:=bU;have q3:decide (256<n)=false:=bU;obtain⟨c1,hg,c4,bA,hY,is⟩:=iL k0 k3 g2 gv c9 lU;clear k0 ec hR k3 g2 gv c9 bc bd hw i3 hx e0 hq fv iT hp lU t7 d6 d7 V e1;go_wp2_with(first|(rw[<-eE];clear eE)|(rw[<-fN];clear fN)|fail)
 rw[<-dl];have i7:T.heap.size<bu.heap.size/\w.heap.size<T.heap.size:=jO is.out H.size;clear dl oj a0 eg ek f0 f1 f2 fx pu H;generalize bu.heap.size=B at hg c1 i7⊢;generalize T.heap.size=D at c1 i7⊢;generalize hpp:(fun a=>N.getD (kidOf (l.map ai.t) a) 0)=p;generalize hnx:nxA x.t.E g7=nx;obtain⟨fq,fo⟩:=aC hpp hnx;clear hpp hnx;have k1:RInv ws p nx n (eM ((List.replicate n rT).set 0 ⟨true,0,[],.slice none 0 0⟩)):=by
  have e:∀s,eM ((List.replicate n rT).set 0 ⟨true,0,[],.slice none 0 0⟩) s=if s=0 then some (0,[])else none:=fun s=>by unfold eM;by_cases ez:s=0;subst ez;rw[su (by simpa using gs)];rfl;rw[un (fun h=>ez h.zy),nD,ap ez];split<;>rfl
  refine⟨by rw[e,au rfl],fun s a6 W av=> ?_⟩;rw[e]at av;split at av;rename_i ez;injection av with av
  injection av with al bZ
  subst ez;subst al;subst bZ;exact⟨fun a an=>(by simp at an),rfl,by simp[wt],aH _⟩;cases av
 have h6:=ah k1;clear k1;go_loopg [10] (2*ranksR bM ws n (((List.replicate n rT).set 0 ⟨true,0,[],.slice none 0 0⟩).map BR.o)+1) (fun g bv wr=>∃(G:Bool) (K:List BR),bv=.bool G/\K.length=n/\RInv ws p nx n (eM K)/\(G=false->Stable bM ws p nx n (eM K))/\g=2*ranksR bM ws n (K.map BR.o)+(if G then 1 else 0)/\j8 a7 B K wr)
 case atStart=>exact⟨true,_,rfl,aj,h6.o,fun h=>(by cases h),rfl,hg.o⟩
 case round=>
  obtain⟨G,K,rfl,jy,je,ji,bf,js⟩:=hrel;obtain⟨fs,hd,c2,h0,fr⟩:=iz jy je ji bf js;clear jy je ji bf js h6 hg;cases G with
  |true=>
   go_wp2
   go_loopw [10,11] (fun bv cp wr=>∃(cd:Bool) (i:Nat) (bF:List BR),bv=.bool cd/\cp=.int .i64 i/\i<=n/\Hid (bF.length=n)/\Hid (RInv ws p nx n (eM bF))/\Hid (vQ ws n K bF cd (∀s,s<i->∀a∈ws,o9 p nx n K s a))/\Hid (j8 a7 B bF wr)) (fun _ cp _=>n-(intOf cp).toNat)
   case atStart=>exact⟨false,0,K,rfl,rfl,aH _,fs,hd,ah ⟨fun _=>⟨rfl,fun s av=>absurd av ad⟩,fun h=>(by cases h)⟩,fr⟩
   case round=>
    obtain⟨cd,i,bF,rfl,rfl,n1,hj,he,ca,hi⟩:=hrel;by_cases ao:i<n
    ·have hH:=bC ao
     have hI:=od ao;have n4:=bk ao;have n2:=aL i
     go_wp2
     go_loopw [10,12] (fun bv hT wr=>∃(bw:Bool) (j:Nat) (M:List BR),bv=.bool bw/\hT=.int .i64 j/\j<=ws.length/\Hid (M.length=n)/\Hid (RInv ws p nx n (eM M))/\Hid (vQ ws n K M bw ((∀s,s<i->∀a∈ws,o9 p nx n K s a)/\∀a∈ws.take j,o9 p nx n K i a))/\Hid (j8 a7 B M wr)) (fun _ hT _=>ws.length-(intOf hT).toNat)
     case atStart=>exact⟨cd,0,bF,rfl,rfl,aH _,hj,he,ah ⟨fun h=>⟨(ca.o.1 h).1,(ca.o.1 h).2,fun a an=>(by simp at an)⟩,ca.o.2⟩,hi⟩
     case round=>
      obtain⟨bw,j,M,rfl,rfl,kb,bB,cb,bo,bt⟩:=hrel;obtain⟨r,O⟩:=df M i (aQ bB.o);obtain⟨a0,eg,ek⟩:=bt.o.at O;have gG:=c1.o.at bt.o;have i1:=ak 0 gG.box;have fx:=ak 1 gG.box;obtain⟨cc,bq⟩:=aC O gG;clear gG O;by_cases fS:j<ws.length/\r.is=true
      ·obtain⟨oi,hP⟩:=fS
       have q4:decide ((j:Int)<ws.length)=true:=bT;have q5:decide (j<ws.length)=true:=bT;have rd:(j:Int)<ws.length:=ad;have rc:=aL j;rw[hP]at a0;have hf:=ah hP;clear hP;obtain⟨a,an⟩:=aT oi;have hD:=aK an;obtain⟨j3,nP⟩:=hA a hD;have la:cI wr hV bl ws:=by have:=bq.o.syms;rw[<-c4.o]at this;exact dY this
       obtain⟨g,Z,rfl,j6,el⟩:=la.at an;have hJ:∀A,Below w.heap.size w A->Calls prog 12 #[.slice (some ⟨b,pb,none⟩) l.length cap,.string ⟨a.toArray⟩] A fun e w'=>e=.returned (.int .i64 (kidOf (l.map ai.t) a:Nat))/\A=w':=fun A F=>by have:=A2 l _ cap A (hX.o.O F) ad a;rw[j3]at this;exact this
       have kg:=cn.O jc bq.o.O;obtain⟨q,dz⟩:=df N (kidOf (l.map ai.t) a) (aQ h5.o);have ky:p a=q:=by rw[<-fq.o];simp only;rw[cB,dz];rfl
       obtain⟨nd,pc,rfl,ra,kk⟩:=kg.2.2.2 (by have:=(aF.1 dz).1;omega);have lb:wr.cell? ⟨nd,pc+kidOf (l.map ai.t) a,none⟩=some (.int .i64 (q:Nat)):=kk (kidOf (l.map ai.t) a) _ (by rw[bR,dz];rfl);have op:q<=4097:=jb q (aK dz);have n9:((kidOf (l.map ai.t) a:Nat):Int)<(N.length:Int):=aQ h5.o;generalize kidOf (l.map ai.t) a=sa at hJ lb n9 dz;obtain⟨hZ,en,et,hl⟩:=dE hJ ky an hD;have eb:=bt.o.rows r (aK cc.o);obtain⟨g5,gg,gl,gn,gr⟩:=cZ pB;obtain⟨b9,t,cg,pe,ls,pf⟩:=Jo wr 53 9 53 g5 _ 1 16 jM gg gl gn gr rfl aq (cW wr wr.heap.size 9 1) eb.own (fun u g1=>by obtain⟨b,_,rfl⟩:=dL.1 g1;rfl) (by have:=eb.len;simp;unfold maxLen;omega) (by have:=eb.len;simp;omega) (ay _);have fP:Below wr.heap.size wr t:=(aA _ wr).zu ls (ay _) (fun j e=>by cases e);obtain⟨a1,mP,bE⟩:=bm fP eb pe;have j0:∀A,Below t.heap.size t A->A.cell? ⟨B,i*3+1,none⟩=some (.int .i64 (r.n:Nat))/\A.cell? ⟨D,0,none⟩=some (.slice (some ⟨g,Z,none⟩) ws.length bl)/\A.cell? ⟨g,Z+j,none⟩=some (.string ⟨a.toArray⟩):=fun A F=>by have hG:=aE fP F;obtain⟨_,bz,_⟩:=(bt.o.O hG).at cc.o;exact⟨bz,ak 0 (bq.o.below' hG).box,(hG.cell (p:=⟨g,Z+j,none⟩) j6).Z el⟩
       have es:=ah j0;have j7:B<wr.heap.size/\D<wr.heap.size:=by obtain⟨cs,ci,_⟩:=bt.o.tab;exact⟨aI ci,aI bq.o.box⟩
       obtain⟨h1,ia⟩:=aC j7 j6;have fl:Hid (∀u aw:World,Below t.heap.size t u->u.grownBy aw b9.ownBlock->aw.cell? ⟨B,i*3+1,none⟩=some (.int .i64 (r.n:Nat))/\aw.cell? ⟨D,0,none⟩=some (.slice (some ⟨g,Z,none⟩) ws.length bl)/\aw.cell? ⟨g,Z+j,none⟩=some (.string ⟨a.toArray⟩)):=ah fun u aw F bf=>by
        obtain⟨bz,cu,e4⟩:=es.o u F;have rB:=F.size;have os:=a1.o.size;have e3:=h1.o;have hQ:=ia.o;have hN:∀J,J<wr.heap.size->some J≠b9.ownBlock:=fun J ng e=>by have:=(aY bE.out _ e.zy).1;omega
        exact⟨(bf.cell_far ⟨B,i*3+1,none⟩ (by show B<_;omega) (hN _ e3.1)).Z bz,(bf.cell_far ⟨D,0,none⟩ (by show D<_;omega) (hN _ e3.2)).Z cu,(bf.cell_far ⟨g,Z+j,none⟩ (by show g<_;omega) (hN _ hQ)).Z e4⟩
       have c3:Hid (∀(A:World) (cq:Obj),(A.cell? ⟨B,i*3+1,none⟩=some (.int .i64 (r.n:Nat))/\A.cell? ⟨D,0,none⟩=some (.slice (some ⟨g,Z,none⟩) ws.length bl)/\A.cell? ⟨g,Z+j,none⟩=some (.string ⟨a.toArray⟩))->((A.alloc cq).cell? ⟨B,i*3+1,none⟩=some (.int .i64 (r.n:Nat))/\(A.alloc cq).cell? ⟨D,0,none⟩=some (.slice (some ⟨g,Z,none⟩) ws.length bl)/\(A.alloc cq).cell? ⟨g,Z+j,none⟩=some (.string ⟨a.toArray⟩))):=ah fun A cq ⟨bz,cu,e4⟩=>⟨p6 bz cq,p6 cu cq,p6 e4 cq⟩;have p3:Hid (∀(A:World) (y:Nat) (a3 a4 cO:Value),t.heap.size<=y->(A.cell? ⟨B,i*3+1,none⟩=some (.int .i64 (r.n:Nat))/\A.cell? ⟨D,0,none⟩=some (.slice (some ⟨g,Z,none⟩) ws.length bl)/\A.cell? ⟨g,Z+j,none⟩=some (.string ⟨a.toArray⟩))->((((A.setCell ⟨y,0,none⟩ a3).setCell ⟨y,1,none⟩ a4).setCell ⟨y,2,none⟩ cO).cell? ⟨B,i*3+1,none⟩=some (.int .i64 (r.n:Nat))/\(((A.setCell ⟨y,0,none⟩ a3).setCell ⟨y,1,none⟩ a4).setCell ⟨y,2,none⟩ cO).cell? ⟨D,0,none⟩=some (.slice (some ⟨g,Z,none⟩) ws.length bl)/\(((A.setCell ⟨y,0,none⟩ a3).setCell ⟨y,1,none⟩ a4).setCell ⟨y,2,none⟩ cO).cell? ⟨g,Z+j,none⟩=some (.string ⟨a.toArray⟩))):=ah fun A y a3 a4 cO nn ⟨bz,cu,e4⟩=>by have os:=a1.o.size;have e3:=h1.o;have hQ:=ia.o;have ci:∀(J o':Nat) (v:Value),J<wr.heap.size->A.cell? ⟨J,o',none⟩=some v->(((A.setCell ⟨y,0,none⟩ a3).setCell ⟨y,1,none⟩ a4).setCell ⟨y,2,none⟩ cO).cell? ⟨J,o',none⟩=some v:=fun J o' v ng hv=>(ej (a:=⟨J,o',none⟩) (by rw[aU _ _ _ _ _ (by show J≠y;omega),aU _ _ _ _ _ (by show J≠y;omega),aU _ _ _ _ _ (by show J≠y;omega)])).Z hv;exact⟨ci _ _ _ e3.1 bz,ci _ _ _ e3.2 cu,ci _ _ _ hQ e4⟩
       have c0:Hid (∀(u aw:World) (y:Nat),u.heap[y]?=some (.cells #[.bool false,.int .i64 0,.slice none 0 0] 85)->t.heap.size<=y->u.grownBy aw b9.ownBlock->aw.cell? ⟨y,0,none⟩=some (.bool false)/\aw.cell? ⟨y,1,none⟩=some (.int .i64 0)/\aw.cell? ⟨y,2,none⟩=some (.slice none 0 0)/\aw.frozen? ⟨y,0,none⟩=false/\aw.frozen? ⟨y,1,none⟩=false/\aw.frozen? ⟨y,2,none⟩=false):=ah fun u aw y g1 dm bf=>by have ba:=(bf.J y (aI g1) (fun e=>by have:=(aY bE.out _ e.zy).2;omega)).Z g1;exact⟨ak 0 ba,ak 1 ba,ak 2 ba,aJ ba 0,aJ ba 1,aJ ba 2⟩
       have ry:=eb.len;have oq:r.n<=4097:=by have:=(cb.o.rg i r.n r.ws (by unfold eM;rw[cc.o];simp[BR.o,gJ,hf.o])).2.2.1;omega
       have q1:=fP.size;clear j3 nP la hJ kg kk dz ky an hD eb ls pf fP j0 j7;go_wp2_with fail
       refine ar (hZ.o wr bq.o.O) ?_;rintro f rfl
       go_upto_region 18 with(first
        |(at_builtin;refine qI _ rfl _ _ _ _ rfl _ _ rfl rfl _ _ cg ?_)
        |fail)
       go_cut [15]from 47 to 124 (fun pv ps=>CG t wr (min 4097 (r.n+q)) (r.ws++[a]) pv ps)
       case first=>
        rename_i m2 qo m1 qm r7 m0 r6 mS r4 r5 hs hr;clear m2 m1 m0 mS a0 eg ek i1 fx el lb cg ba be kd jb ob oc n8 nr ha g9 h3 hA c4 bA hY is fq fo fs hd fr c2 h0 hj he ca hi bB cb bo hZ en et hl cc hf c1 jc ed hX bq bt;have C:=es.o t.drew (aA _ t).drew;refine tF (S:=fun f=>f.cell? ⟨B,i*3+1,none⟩=some (.int .i64 (r.n:Nat))/\f.cell? ⟨D,0,none⟩=some (.slice (some ⟨g,Z,none⟩) ws.length bl)/\f.cell? ⟨g,Z+j,none⟩=some (.string ⟨a.toArray⟩)) (last:=18) az ?_;(refine cj (i:=0) rfl C ?_;refine cj (i:=1) rfl C ?_;refine cj (i:=2) rfl C ?_;refine cj (i:=3) rfl C ?_;refine cj (i:=4) rfl C ?_;refine cj (i:=5) rfl C ?_;refine cj (i:=6) rfl C ?_;refine cj (i:=7) rfl C ?_;refine cj (i:=8) rfl C ?_;refine cj (i:=9) rfl C ?_;refine cj (i:=10) rfl C ?_;refine cj (i:=11) rfl C ?_;refine cj (i:=12) rfl C ?_;refine cj (i:=13) rfl C ?_)
        have aa:=bE.out;simp only[cH,qE]at aa;have ro:min 4097 (IntKind.i64.wrap ((r.n:Int)+(q:Int)))=((min 4097 (r.n+q):Nat):Int):=Us oq op;have rA:r.ws.length<=1048576:=aQ a1.o.size;refine Jw (i:=14) (j:=17) az rfl rfl (fun p5 hB=> ?_) (fun KA i9=> ?_)
        ·go_simp
         have jp:=c3.o _ (.cells #[.string ⟨a.toArray⟩] 9) (es.o t (aA _ t));refine hB.out _ _ (fun _=>jp) (fun _=> ?_);try simp only[Act.put,cK,cR,ct]
         have hE:Below t.heap.size t (t.alloc (.cells #[.string ⟨a.toArray⟩] 9)).drew:=aP.drew;have hO:∀J,some J=b9.ownBlock->J<t.heap.size:=fun J e=>(aY bE.out _ e.zy).2;refine Jw (i:=15) (j:=17) az rfl rfl (fun ic b0=> ?_) (fun ic b0=> ?_)
         ·refine nG _ (by rfl) _ _ _ (by rfl) wr.heap.size 9 g5 _ 1 16 jM gg gl gn gr rfl aq b9 r.ws.length (r.ws.map encStr) (by rfl) (dp aa _).drew ⟨t.heap.size,0,none⟩ 1 1 [.string ⟨a.toArray⟩] (by rfl) (by rfl) (by exact ln t [.string ⟨a.toArray⟩] _ _ rfl) (fun z b7=>by simp at b7;subst b7;rfl) aq bO ad aO _ rfl ?_
          intro i4 gc T e2 a2 j1 ao;have C:=fl.o _ _ hE a2;refine b0.out _ _ (fun _=>C) (fun _=> ?_);try simp only[Act.put,cK,cR,ct]
          (refine cj (i:=16) rfl C ?_)
          refine gy (i:=17) az rfl (fun ii b1=> ?_);go_simp;refine b1.out _ _ (fun _=>c3.o _ _ C) (fun _=> ?_);try simp only[Act.put,cK,cR,ct]
          refine gy (i:=18) az rfl (fun io b2=> ?_);have Y:=aN T (.cells #[.bool false,.int .i64 0,.slice none 0 0] 85);obtain⟨iu,iv,iw⟩:=dP Y;have f50:=aJ Y 0;have f51:=aJ Y 1;have f52:=aJ Y 2;go_simp;refine b2.out _ _ (fun h=>absurd rfl h) (fun _=> ?_);refine ql az ?_ _;simp only[Exit.then];refine hr _ _ ?_;clear hB b0 b1 b2;refine hs _ _ ?_;have ot:t.heap.size<=T.heap.size:=aW hE.size a2.size;have be:=Ut (m:=min 4097 (r.n+q)) (ws:=r.ws++[a]) ot e2 aj (by simp[encStr]) ((a1.o.Z (hE.zz a1.o.size)).zu a2 aO (fun q e=>(aY bE.out q e).1)) a1.o.size;(repeat apply Exists.intro)
          exact⟨be,rfl⟩
         ·go_simp
          have nm:=c3.o _ (.cells #[.bool false,.int .i64 0,.slice none 0 0] 85) jp;refine b0.out _ _ (fun _=>nm) (fun _=> ?_);try simp only[Act.put,cK,cR,ct]
          refine gy (i:=15) az rfl (fun ii b1=> ?_);have dn:Below t.heap.size t ((t.alloc (.cells #[.string ⟨a.toArray⟩] 9)).alloc (.cells #[.bool false,.int .i64 0,.slice none 0 0] 85)).drew:=(aP.alloc aj _).drew;refine nG _ (by rfl) _ _ _ (by rfl) wr.heap.size 9 g5 _ 1 16 jM gg gl gn gr rfl aq b9 r.ws.length (r.ws.map encStr) (by rfl) (dp (dp aa _) _).drew ⟨t.heap.size,0,none⟩ 1 1 [.string ⟨a.toArray⟩] (by rfl) (by rfl) (fun j u kb=>p6 (ln t [.string ⟨a.toArray⟩] _ _ rfl j u kb) _) (fun z b7=>by simp at b7;subst b7;rfl) aq bO ad aO _ rfl ?_;intro i4 gc T e2 a2 j1 ao;have C:=fl.o _ _ dn a2;refine b1.out _ _ (fun _=>C) (fun _=> ?_);try simp only[Act.put,cK,cR,ct]
          (refine cj (i:=16) rfl C ?_)
          refine gy (i:=18) az rfl (fun io b2=> ?_);have Y:T.heap[t.heap.size+1]?=some (.cells #[.bool false,.int .i64 0,.slice none 0 0] 85 (0,0)):=(a2.J _ (by show t.heap.size+1<_;simp) (fun e=>by have:=hO _ e;omega)).Z (Ur t _ _);obtain⟨iu,iv,iw⟩:=dP Y;have f50:=aJ Y 0;have f51:=aJ Y 1;have f52:=aJ Y 2;go_simp;refine b2.out _ _ (fun h=>absurd rfl h) (fun _=> ?_);refine ql az ?_ _;simp only[Exit.then];refine hr _ _ ?_;clear hB b0 b1 b2;refine hs _ _ ?_;have be:=Jy (m:=min 4097 (r.n+q)) (ws:=r.ws++[a]) Y (sk _) e2 aj (by simp[encStr]) ((a1.o.Z (dn.zz a1.o.size)).zu a2 aO (fun q e=>(aY bE.out q e).1)) a1.o.size;(repeat apply Exists.intro)
          exact⟨be,rfl⟩
        ·go_simp
         refine i9.out _ _ (fun _=>c3.o _ _ (es.o t (aA _ t))) (fun _=> ?_);try simp only[Act.put,cK,cR,ct]
         refine gy (i:=14) az rfl (fun ic b0=> ?_);go_simp;have nl:=c3.o _ (.cells #[.string ⟨a.toArray⟩] 9) (c3.o _ (.cells #[.bool false,.int .i64 0,.slice none 0 0] 85) (es.o t (aA _ t)));refine b0.out _ _ (fun _=>nl) (fun _=> ?_);try simp only[Act.put,cK,cR,ct]
         refine gy (i:=15) az rfl (fun ii b1=> ?_);have dn:Below t.heap.size t ((t.alloc (.cells #[.bool false,.int .i64 0,.slice none 0 0] 85)).alloc (.cells #[.string ⟨a.toArray⟩] 9)).drew:=(aP.alloc aj _).drew;refine nG _ (by rfl) _ _ _ (by rfl) wr.heap.size 9 g5 _ 1 16 jM gg gl gn gr rfl aq b9 r.ws.length (r.ws.map encStr) (by rfl) (dp (dp aa _) _).drew ⟨t.heap.size+1,0,none⟩ 1 1 [.string ⟨a.toArray⟩] (by rfl) (by rfl) (by exact ln (t.alloc (.cells #[.bool false,.int .i64 0,.slice none 0 0] 85)) [.string ⟨a.toArray⟩] _ _ aj) (fun z b7=>by simp at b7;subst b7;rfl) aq bO ad aO _ rfl ?_;intro i4 gc T e2 a2 j1 ao;refine b1.out _ _ (fun _=>fl.o _ _ dn a2) (fun _=> ?_);try simp only[Act.put,cK,cR,ct]
         have C:=fl.o _ _ dn a2;(refine cj (i:=16) rfl C ?_)
         refine gy (i:=18) az rfl (fun io b2=> ?_);have hO:∀J,some J=b9.ownBlock->J<t.heap.size:=fun J e=>(aY bE.out _ e.zy).2;have Y:T.heap[t.heap.size]?=some (.cells #[.bool false,.int .i64 0,.slice none 0 0] 85 (0,0)):=(a2.J _ (by show t.heap.size<_;simp;omega) (fun e=>by have:=hO _ e;omega)).Z (Uq t _ _);obtain⟨iu,iv,iw⟩:=dP Y;have f50:=aJ Y 0;have f51:=aJ Y 1;have f52:=aJ Y 2;go_simp;refine b2.out _ _ (fun h=>absurd rfl h) (fun _=> ?_);refine ql az ?_ _;simp only[Exit.then];refine hr _ _ ?_;clear i9 b0 b1 b2;refine hs _ _ ?_;have be:=Jy (m:=min 4097 (r.n+q)) (ws:=r.ws++[a]) Y (ay _) e2 aj (by simp[encStr]) ((a1.o.Z (dn.zz a1.o.size)).zu a2 aO (fun q e=>(aY bE.out q e).1)) a1.o.size;(repeat apply Exists.intro)
         exact⟨be,rfl⟩
       case rest=>
        obtain⟨y,cS,cP,rfl,nn,g4,hS,g3⟩:=hcut;have dc:=bq.o.below' g3;have b3:=bt.o.O g3;obtain⟨row,u1,u2,u3⟩:=zb bq.o.auto (s:=i) (aQ bA.o) (by rw[<-c4.o];exact hl.o);rw[Uu (l:=x.t.E) (by rw[<-c4.o];exact et.o)]at u2;rw[fo.o]at u2 u3;obtain⟨E,g0⟩:=am (nx i a);rw[<-g0]at u2 u3;rw[<-bA.o]at u3;obtain⟨v,hv⟩:=df g8 i (by have:=dc.nl;have:=(aF.1 u1).1;omega);have k7:g8.length=n:=by have qT:=dc.nl;have q0:g7.length=keys.length:=bq.o.auto.ok.len;have:=bA.o;omega
        obtain⟨o5,o6,rfl,rt,kl⟩:=(dY (by have:=dc.nx;rw[k7]at this;exact this)).2.2.2 gs;have hL:=dc.nr i v row hv u1;obtain⟨sg,po,rfl⟩:=bs hL;obtain⟨lF,lP,rfl,rv,k2⟩:=(dY hL).2.2.2 (by have:=(aF.1 u2).1;omega);have ht:wc.cell? ⟨o5,o6+i,none⟩=some (.slice (some ⟨lF,lP,none⟩) row.length po):=kl i _ hv;have nc:wc.cell? ⟨lF,lP+j,none⟩=some (.int .i64 (E:Nat)):=k2 j _ (by unfold fB;rw[bR,u2];rfl);have rg:(j:Int)<row.length:=by have:=(aF.1 u2).1;omega
        have r2:(E:Int)<n:=ad;have r1:=aL E;obtain⟨hU,co⟩:=df M E (aQ bB.o);obtain⟨t0,t1,t2⟩:=b3.at co;have nb:=ak 1 dc.box;obtain⟨e9,a3,a4⟩:=dP g4;have f0:=b3.free (E*3);have f1:=b3.free (E*3+1);have f2:=b3.free (E*3+2);have fT:=b3.rows hU (aK co);obtain⟨cv,cx,b8,sd⟩:=hU;obtain⟨e6,e5,rfl⟩:=bs (n:=b8.length) fT.own;simp only at t0 t1 t2;obtain⟨X,dm⟩:∃X:BR,X=⟨true,min 4097 (r.n+q),r.ws++[a],.slice (some ⟨cS,0,none⟩) (r.ws++[a]).length cP⟩:=⟨_,rfl⟩;obtain⟨G,Q⟩:∃G:Bool,G=true↔ahR bM (gJ true (min 4097 (r.n+q)) (r.ws++[a])) (gJ cv cx b8):=Jz _;have hC:eM M i=some (r.n,r.ws):=by unfold eM;rw[cc.o];simp[BR.o,gJ,hf.o]
        have jv:eM M (nx i a)=gJ cv cx b8:=by unfold eM;rw[<-g0,co];rfl
        obtain⟨ag,b6⟩:=am ((r.ws++[a]).length);have o0:ag=r.ws.length+1:=by rw[b6];simp
        have k4:¬(0<q/\ag<=n/\G=true)->o9 p nx n M i a:=fun oo qa W' V kv rn b4=>by
         rw[hC]at V;injection V with V
         injection V with cg ex
         subst cg;subst ex;rw[jv,en.o]at b4;rw[en.o]at kv;exact oo ⟨kv,ad,Q.2 b4⟩
        have hh:=ah k4;have k5:0<q->ag<=n->G=true->RInv ws p nx n (eM (M.set E X))/\ranksR bM ws n ((M.set E X).map BR.o)<ranksR bM ws n (M.map BR.o):=fun al bZ fF=>
         Uh cb.o hC hl.o (by rw[en.o];exact al) ad g0 co (by rw[dm,en.o];rfl) (by rw[dm];exact Q.1 fF)
        have mB:=ah k5;have b4:∀f,Below wc.heap.size wc f->Calls prog 56 #[.agg #[.bool true,.int .i64 (min 4097 (r.n+q):Nat),.slice (some ⟨cS,0,none⟩) ag cP],.agg #[.bool cv,.int .i64 (cx:Nat),.slice e6 b8.length e5]] f fun e w'=>e=.returned (.bool G)/\Below f.heap.size f w':=fun f F=>by
         have i5:=Jq true cv (min 4097 (r.n+q)) cx (r.ws++[a]) b8 (some ⟨cS,0,none⟩) e6 cP e5 f (cn.O (dY hS) F) (cn.O (dY fT.own) F) (by rw[<-b6];omega) (fun h=>by cases h) fT.zero;rw[<-b6]at i5;refine i5.zz ?_;rintro e w' ⟨⟨c5,rfl,hy⟩,hz⟩;have:c5=G:=by rw[ft,hy,Q]
         rw[this];exact⟨rfl,hz⟩
        have fb:=ah b4;have mG:Hid (ag<=n->k9 a7.heap.size X wc):=ah fun al=>by rw[dm];exact⟨eR hS bt.o.far.size,(fun h=>by cases h),(by show(r.ws++[a]).length<=256;rw[<-b6];omega)⟩
        obtain⟨a6,V⟩:=am (min 4097 (r.n+q));have mL:Hid (X.is=true/\X.n=a6/\X.v=.slice (some ⟨cS,0,none⟩) ag cP):=ah (by rw[dm,V,b6];exact⟨rfl,rfl,rfl⟩);rw[<-V]at a3 fb;rw[<-b6]at a4;obtain⟨hk,mO,p4⟩:=bm b3 co g3;have r3:(ag:Int)<=257:=aQ mP.o.len;have c2:Hid (∀f,Below wc.heap.size wc f->Below wc.heap.size wc f/\(f.cell? ⟨y,0,none⟩=some (.bool true)/\f.cell? ⟨y,1,none⟩=some (.int .i64 (a6:Nat))/\f.cell? ⟨y,2,none⟩=some (.slice (some ⟨cS,0,none⟩) ag cP))/\
         (f.cell? ⟨B,E*3,none⟩=some (.bool cv)/\f.cell? ⟨B,E*3+1,none⟩=some (.int .i64 (cx:Nat))/\f.cell? ⟨B,E*3+2,none⟩=some (.slice e6 b8.length e5))):=ah fun f F=>by
         have b5:=(F.J _ (aI g4)).Z g4;obtain⟨e7,cN,e8⟩:=(b3.O F).at co;rw[<-V,<-b6]at b5;exact⟨F,⟨ak 0 b5,ak 1 b5,ak 2 b5⟩,e7,cN,e8⟩
        clear dc b3 g0 co g3 hS fT dm V b6 u1 u2 u3 hv hL kl k2 g4 k7 Q hC jv k4 k5 b4 o0;clear a0 eg ek i1 fx t0 t1 t2 e9 a3 a4;go_wp2_with fail
        clear ht nc nb f0 f1 f2;by_cases cl:0<q
        ·have m5:=bC cl
         have na:=od cl;have mw:=ah cl;by_cases ed:ag<=n
         ·have m3:decide ((ag:Int)<=n)=true:=bT
          have m4:decide (ag<=n)=true:=bT;have h9:=ah ed;refine zj (S:=fun f=>Below wc.heap.size wc f/\(f.cell? ⟨y,0,none⟩=some (.bool true)/\f.cell? ⟨y,1,none⟩=some (.int .i64 (a6:Nat))/\f.cell? ⟨y,2,none⟩=some (.slice (some ⟨cS,0,none⟩) ag cP))/\(f.cell? ⟨B,E*3,none⟩=some (.bool cv)/\f.cell? ⟨B,E*3+1,none⟩=some (.int .i64 (cx:Nat))/\f.cell? ⟨B,E*3+2,none⟩=some (.slice e6 b8.length e5))) az az (fun c a d v w h=>by cases d<;>exact h) (c2.o _ (aA _ wc).drew) ?_;(iterate 16 refine qu ?_)
          refine Jv (i:=16) (v:=.bool G) rfl (.inr ⟨by rfl,56,_,(fun _=>az),fun A eB=>(fb.o A eB.1).zz fun e w' eZ=>⟨eZ.1,c2.o _ (aE eB.1 eZ.2)⟩⟩) ?_;simp only[Act.put,cK,cR,ct,List.getElem_toArray,List.getElem_cons_zero,List.getElem_cons_succ];refine qu ?_;refine vP rfl (fun T a9=> ?_);obtain⟨H,⟨e9,a3,a4⟩,_⟩:=a9;have ch:=hk.o.O H;have er:=ah ch;cases Q:G with
          |false=>
           have a5:=ah (CH bo.o et.o (hh.o (fun h=>by rw[Q]at h;exact absurd h.2.2 aq)));clear Q ch e9 a3 a4;go_wp2_with fail
           exact⟨⟨bw,j+1,M,rfl,aD,ad,bB,cb,a5,er⟩,by simp[intOf];omega⟩
          |true=>
           have f0:=ch.free (E*3);have f1:=ch.free (E*3+1);have f2:=ch.free (E*3+2);obtain⟨l0,l1,l2⟩:=mL.o;have aa:=ch.put mO.o ((mG.o h9.o).zw (bL H none) (fun q e=>by cases e));rw[l0,l1,l2]at aa;obtain⟨mm,h8⟩:=aC aa (mB.o mw.o h9.o Q);have mz:Hid ((M.set E X).length=n):=ah (by rw[l6];exact bB.o);clear Q ch aa l0 l1 l2;go_wp2_with fail
           exact⟨⟨true,j+1,M.set E X,rfl,aD,ad,mz,ah h8.o.1,ah ⟨fun h=>(by cases h),fun _=>by
            have al:=h8.o.2;cases bw with
            |true=>have:=bo.o.2 rfl;omega
            |false=>rw[<-(bo.o.1 rfl).1];exact al⟩,mm⟩,by simp[intOf];omega⟩
         ·have m3:decide ((ag:Int)<=n)=false:=bU
          have m4:decide (ag<=n)=false:=bU;have a5:=ah (CH bo.o et.o (hh.o (fun h=>ed h.2.1)));refine zj (S:=fun f=>Below wc.heap.size wc f/\(f.cell? ⟨y,0,none⟩=some (.bool true)/\f.cell? ⟨y,1,none⟩=some (.int .i64 (a6:Nat))/\f.cell? ⟨y,2,none⟩=some (.slice (some ⟨cS,0,none⟩) ag cP))/\(f.cell? ⟨B,E*3,none⟩=some (.bool cv)/\f.cell? ⟨B,E*3+1,none⟩=some (.int .i64 (cx:Nat))/\f.cell? ⟨B,E*3+2,none⟩=some (.slice e6 b8.length e5))) az az (fun c a d v w h=>by cases d<;>exact h) (c2.o _ (aA _ wc).drew) ?_;(iterate 18 refine qu ?_)
          refine vP rfl (fun T a9=> ?_);have er:=ah (hk.o.O a9.1);clear a9 ed;go_wp2_with fail
          exact⟨⟨bw,j+1,M,rfl,aD,ad,bB,cb,a5,er⟩,by simp[intOf];omega⟩
        ·have m5:=bG cl
         have na:=mH cl;have a5:=ah (CH bo.o et.o (hh.o (fun h=>cl h.1)));refine zj (S:=fun f=>Below wc.heap.size wc f) az az (fun c a d v w h=>by cases d<;>exact h) (aA _ wc).drew ?_;(iterate 9 refine qu ?_)
         (iterate 9 refine qu ?_)
         refine vP rfl (fun T a9=> ?_);have er:=ah (hk.o.O a9);clear a9 cl;go_wp2_with fail
         exact⟨⟨bw,j+1,M,rfl,aD,ad,bB,cb,a5,er⟩,by simp[intOf];omega⟩
      ·have mE:Hid (vQ ws n K M bw (∀s,s<i+1->∀a∈ws,o9 p nx n K s a)):=ah ⟨fun h=>⟨(bo.o.1 h).1,fun s av a an=>by
        obtain⟨al,bZ,fF⟩:=bo.o.1 h;by_cases e:s<i;exact bZ s e a an;obtain rfl:s=i:=ad;by_cases ex:j<ws.length;intro a6 W V;exfalso;rw[<-al]at V;unfold eM at V;rw[cc.o]at V;have:r.is=false:=by cases hK:r.is;rfl;exact absurd ⟨ex,hK⟩ fS
        simp[BR.o,gJ,this]at V;rw[bI ad]at fF;exact fF a an⟩,bo.o.2⟩
       have ci:(decide ((j:Int)<ws.length)=false/\decide (j<ws.length)=false)∨(decide ((j:Int)<ws.length)=true/\decide (j<ws.length)=true/\wr.cell? ⟨B,i*3,none⟩=some (.bool false)):=by by_cases ex:j<ws.length;exact .inr ⟨by rw[cf];omega,by rw[cf];omega,by have:r.is=false:=(by cases hK:r.is;rfl;exact absurd ⟨ex,hK⟩ fS);rw[<-this];exact a0⟩;exact .inl ⟨by rw[dd];omega,by rw[dd];omega⟩
       clear fS a0;rcases ci with⟨d1,d2⟩|⟨d1,d2,a0⟩
       all_goals
        go_wp2
        go_roundw
        case rel=>exact⟨bw,i+1,M,rfl,aD,ad,bB,cb,mE,bt⟩
        case measure=>exact aM
    ·have hH:=bG ao
     have hI:=mH ao
     go_wp2
     go_roundg(2*ranksR bM ws n (bF.map BR.o)+(if cd then 1 else 0))
     case rel=>
      refine⟨cd,bF,rfl,hj.o,he.o,fun h=> ?_,rfl,hi.o⟩;obtain⟨al,bZ⟩:=ca.o.1 h;rw[al];exact Ui fs.o fun s av=>bZ s ad
     case measure=>
      have al:=h0.o;rw[al];cases cd with
      |true=>have:=ca.o.2 rfl;simp;omega
      |false=>rw[(ca.o.1 rfl).1];simp
  |false=>
   have ms:=ah (c1.o.at fr.o);obtain⟨hn,dl,i0,c6⟩:=dy wr (.cells #[.bool false,.int .i64 0,.slice none 0 0] 85);obtain⟨ho,fO⟩:=am (((hn.setCell ⟨wr.heap.size,0,none⟩ (.bool false)).setCell ⟨wr.heap.size,1,none⟩ (.int .i64 0)).setCell ⟨wr.heap.size,2,none⟩ (.slice none 0 0));have hu:ho.heap[wr.heap.size]?=some (.cells #[.bool false,.int .i64 0,.slice none 0 0] 85 (0,0)):=by rw[fO];exact a8 _ _ 2 _ (a8 _ _ 1 _ (a8 _ _ 0 _ c6))
   have c5:Below wr.heap.size wr ho:=by rw[fO];exact((i0.setCell (ay _) _).setCell (ay _) _).setCell (ay _) _
   obtain⟨a0,eg,ek⟩:=dP c6;have f0:=aJ c6 0;have f1:=aJ c6 1;have f2:=aJ c6 2;have r0:=aI hu;obtain⟨hW,l3⟩:=aC c5 hu;clear i0 c6 c5 hu;go_wp2_with(first|(rw[<-dl];clear dl)|fail)
   rw[<-fO];clear fO a0 eg ek f0 f1 f2;obtain⟨af,oz⟩:=am wr;subst oz;go_loopw [18] (fun cp f=>∃(i:Nat) (R:Bool) (on:Nat) (I:List Bytes) (ae:Option Addr) (ab:Nat),cp=.int .i64 i/\i<=n/\Hid (OutOf bM (finA x.t.E keys) i (eM K) (gJ R on I))/\Hid (k9 a7.heap.size ⟨R,on,I,.slice ae I.length ab⟩ f)/\f.heap[af.heap.size]?=some (.cells #[.bool R,.int .i64 (on:Nat),.slice ae I.length ab] 85 (0,0))/\ho.grownBy f (some af.heap.size)) (fun cp _=>n-(intOf cp).toNat)
   case atStart=>exact⟨0,false,0,[],none,0,rfl,aH _,ah OutOf.none,ah ⟨cW _ _ _ _,fun _=>⟨rfl,rfl⟩,aH _⟩,l3.out,⟨rfl,rfl,rfl,ay _,fun _ _ _=>rfl⟩⟩
   case round=>
    obtain⟨i,R,on,I,ae,ab,rfl,n1,hc,em,dq,gf⟩:=hrel;have ga:Below af.heap.size af wr:=hW.out.zu gf hW.out.size (fun q e=>by injection e with e;omega);have aa:=ms.o.below' ga;have eD:=fr.o.O ga;obtain⟨o7,o8,pa⟩:=dP dq;by_cases ao:i<n
    ·have hH:=bC ao
     have hI:=od ao;have n4:=bk ao;have n2:=aL i;have rb:(i:Int)<keys.length:=aQ bA.o;obtain⟨r,O⟩:=df K i (aQ fs.o);have dr:=eD.rows r (aK O);obtain⟨bg,bi,bb,sl⟩:=r;obtain⟨cL,cG,rfl⟩:=bs (n:=bb.length) dr.own;have fG:eM K i=gJ bg bi bb:=by unfold eM;rw[O];rfl
     obtain⟨ks,hM⟩:=df keys i;obtain⟨c7,c8,rfl,n0,j5⟩:=(dY aa.fo).2.2.2 ad;have el:wr.cell? ⟨c7,c8+i,none⟩=some (.bool (finM x.t.E ks)):=j5 i _ (by rw[bR,hM];rfl);have gb:finA x.t.E keys i↔finM x.t.E ks=true:=by unfold finA;rw[cB,hM,gM]
     obtain⟨ey,j4⟩:=am (finM x.t.E ks);rw[<-j4]at el gb;obtain⟨G,Q⟩:=Jz (ahR bM (gJ bg bi bb) (gJ R on I));have km:ey=false∨G=false->OutOf bM (finA x.t.E keys) (i+1) (eM K) (gJ R on I):=fun h=>hc.o.skip fun nz an=>by
      rw[fG]at an;rcases h with h|h
      rw[gb.1 nz]at h;cases h;rw[Q.2 an]at h;cases h
     have ko:ey=true->G=true->OutOf bM (finA x.t.E keys) (i+1) (eM K) (gJ bg bi bb):=fun al bZ=>by rw[<-fG];exact hc.o.take dw (gb.2 al) (by rw[fG];exact Q.1 bZ)
     obtain⟨h4,md⟩:=aC km ko;have b4:∀f,Below wr.heap.size wr f->Calls prog 56 #[.agg #[.bool bg,.int .i64 (bi:Nat),.slice cL bb.length cG],.agg #[.bool R,.int .i64 (on:Nat),.slice ae I.length ab]] f fun e w'=>e=.returned (.bool G)/\Below f.heap.size f w':=fun f F=>by
      refine(Jq bg R bi on bb I cL ae cG ab f (cn.O (dY dr.own) F) (cn.O (dY em.o.own) F) (by have:=dr.len;simp only at this;omega) dr.zero em.o.zero).zz ?_;rintro e w' ⟨⟨c5,rfl,hy⟩,hz⟩;have:c5=G:=by rw[ft,hy,Q]
      rw[this];exact⟨rfl,hz⟩
     have fb:=ah b4;have h7:Hid (∀f,Below wr.heap.size wr f->Below wr.heap.size wr f/\(f.cell? ⟨D,2,none⟩=some (.slice (some ⟨c7,c8,none⟩) keys.length fy)/\f.cell? ⟨c7,c8+i,none⟩=some (.bool ey))/\
      (f.cell? ⟨B,i*3,none⟩=some (.bool bg)/\f.cell? ⟨B,i*3+1,none⟩=some (.int .i64 (bi:Nat))/\f.cell? ⟨B,i*3+2,none⟩=some (.slice cL bb.length cG))/\
      (f.cell? ⟨af.heap.size,0,none⟩=some (.bool R)/\f.cell? ⟨af.heap.size,1,none⟩=some (.int .i64 (on:Nat))/\f.cell? ⟨af.heap.size,2,none⟩=some (.slice ae I.length ab))):=ah fun f F=>by
      have b5:=(F.J _ (aI dq)).Z dq;obtain⟨e7,cN,e8⟩:=(eD.O F).at O;exact⟨F,⟨ak 2 (aa.below' F).box,(F.cell (p:=⟨c7,c8+i,none⟩) n0).Z el⟩,⟨e7,cN,e8⟩,ak 0 b5,ak 1 b5,ak 2 b5⟩
     obtain⟨fc,h2,l5⟩:=bm dq gf dr;have p2:=ah eD;have cc:=ah O;clear km ko b4 Q j4 gb hM fG j5 el aa dq gf dr eD O o7 o8 pa ga;go_wp2_with fail
     refine zj (S:=fun f=>Below wr.heap.size wr f/\(f.cell? ⟨D,2,none⟩=some (.slice (some ⟨c7,c8,none⟩) keys.length fy)/\f.cell? ⟨c7,c8+i,none⟩=some (.bool ey))/\
      (f.cell? ⟨B,i*3,none⟩=some (.bool bg)/\f.cell? ⟨B,i*3+1,none⟩=some (.int .i64 (bi:Nat))/\f.cell? ⟨B,i*3+2,none⟩=some (.slice cL bb.length cG))/\
      (f.cell? ⟨af.heap.size,0,none⟩=some (.bool R)/\f.cell? ⟨af.heap.size,1,none⟩=some (.int .i64 (on:Nat))/\f.cell? ⟨af.heap.size,2,none⟩=some (.slice ae I.length ab))) az az (fun c a d v w h=>by cases d<;>exact h) (h7.o _ (aA _ wr).drew) ?_
     (iterate 6 refine qu ?_)
     cases ey with
     |false=>
      have a5:=ah (h4.o (.inl rfl));(iterate 7 refine qu ?_)
      refine vP rfl (fun T a9=> ?_);obtain⟨H,_⟩:=a9;obtain⟨c0,hb,fg⟩:=bm ((H.J _ (aI fc.o)).Z fc.o) (em.o.zw (bL H none) (fun q e=>by cases e)) (h2.o.Z (bL H (some af.heap.size)));clear H;go_wp2_with fail
      exact⟨⟨i+1,R,on,I,ae,ab,aD,ad,a5,hb,c0.o,fg.o⟩,by simp[intOf];omega⟩
     |true=>
      (iterate 5 refine qu ?_)
      refine Jv (i:=11) (v:=.bool G) rfl (.inr ⟨by rfl,56,_,(fun _=>az),fun A eB=>(fb.o A eB.1).zz fun e w' eZ=>⟨eZ.1,h7.o _ (aE eB.1 eZ.2)⟩⟩) ?_;simp only[Act.put,cK,cR,ct,List.getElem_toArray,List.getElem_cons_zero,List.getElem_cons_succ];refine qu ?_;refine vP rfl (fun T a9=> ?_);obtain⟨H,_,⟨e7,cN,e8⟩,_⟩:=a9;have du:=(H.J _ (aI fc.o)).Z fc.o;obtain⟨c0,hb,fg⟩:=bm du (em.o.zw (bL H none) (fun q e=>by cases e)) (h2.o.Z (bL H (some af.heap.size)));cases Q:G with
      |false=>
       have a5:=ah (h4.o (.inr Q));clear Q H du e7 cN e8;go_wp2_with fail
       exact⟨⟨i+1,R,on,I,ae,ab,aD,ad,a5,hb,c0.o,fg.o⟩,by simp[intOf];omega⟩
      |true=>
       have a5:=ah (md.o rfl Q);have f0:=aJ du 0;have f1:=aJ du 1;have f2:=aJ du 2;have l7:=ah (l5.o.zw (bL H none) (fun q e=>by cases e));clear Q H du;go_wp2_with fail
       have bc:=a8 _ _ 0 (.bool bg) c0.o;have bd:=a8 _ _ 1 (.int .i64 (bi:Nat)) bc;have fz:=a8 _ _ 2 (.slice cL bb.length cG) bd;have ds:=((l7.o.zw (gi T af.heap.size 0 (.bool bg)) (fun q e=>by cases e;exact⟨_,c0.o⟩)).zw (gi _ af.heap.size 1 (.int .i64 (bi:Nat))) (fun q e=>by cases e;exact⟨_,bc⟩)).zw (gi _ af.heap.size 2 (.slice cL bb.length cG)) (fun q e=>by cases e;exact⟨_,bd⟩);exact⟨⟨i+1,bg,bi,bb,cL,cG,aD,ad,a5,ah ds,fz,((fg.o.Z (gi _ _ _ _)).Z (gi _ _ _ _)).Z (gi _ _ _ _)⟩,by simp[intOf];omega⟩
    have hH:=bG ao;have hI:=mH ao;obtain rfl:i=n:=ad;have ea:=aa.res;obtain⟨sb,sc,hU⟩:=dP ea;have f0:=aJ ea 0;have f1:=aJ ea 1;have f2:=aJ ea 2;obtain⟨ib,mN⟩:=aC ea aa.O;clear aa eD dq gf ea ga;go_wp2_with fail
    have bc:=a8 _ _ 0 (.bool R) ib.o;have bd:=a8 _ _ 1 (.int .i64 (on:Nat)) bc;have fz:=a8 _ _ 2 (.slice ae I.length ab) bd;have ds:=((em.o.zw (gi wr w.heap.size 0 (.bool R)) (fun q e=>by cases e;exact⟨_,ib.o⟩)).zw (gi _ w.heap.size 1 (.int .i64 (on:Nat))) (fun q e=>by cases e;exact⟨_,bc⟩)).zw (gi _ w.heap.size 2 (.slice ae I.length ab)) (fun q e=>by cases e;exact⟨_,bd⟩);have j2:Below w.heap.size w (((wr.setCell ⟨w.heap.size,0,none⟩ (.bool R)).setCell ⟨w.heap.size,1,none⟩ (.int .i64 (on:Nat))).setCell ⟨w.heap.size,2,none⟩ (.slice ae I.length ab)):=((mN.o.setCell (ay _) _).setCell (ay _) _).setCell (ay _) _;obtain⟨so,ow⟩:=am (((wr.setCell ⟨w.heap.size,0,none⟩ (.bool R)).setCell ⟨w.heap.size,1,none⟩ (.int .i64 (on:Nat))).setCell ⟨w.heap.size,2,none⟩ (.slice ae I.length ab));rw[<-ow]at j2 ds fz⊢;obtain⟨pn,bz,cu⟩:=dP fz;have np:qs (l.map ai.t) N x.t (gJ R on I):=by refine⟨keys,g7,hY.o,eM K,?_,?_,?_⟩;rw[fq.o,fo.o,<-bA.o,<-c4.o];exact hd.o;rw[fq.o,fo.o,<-bA.o,<-c4.o];exact c2.o trivial;rw[<-bA.o];exact hc.o
    exact cQ (v:=.agg #[.bool R,.int .i64 (on:Nat),.slice ae I.length ab]) (by simp[results,results32,go_sem,pn,bz,cu,underlying85]) rfl ⟨⟨⟨R,on,I,.slice ae I.length ab⟩,rfl,⟨eR ds.own c1.o.O.size,ds.zero,ds.len⟩,np⟩,j2⟩
end
section
open Wey
def rV(N:List Nat):Nat:=(N.map fun x=>if x=0 then 4098 else x).sum
def Uv{N i n}(c:i<N.length)(e:0<n)(d:n<=4097)(b:N.getD i 0=0∨n<N.getD i 0):rV (N.set i n)<rV N:=by obtain⟨y,a⟩:=aT c;rw[cB,a,gM]at b;apply sum_set_lt a;rw[ap ad];split<;>omega
def Uw(ts:List aB)(N:List Nat)(j:Nat):Prop:=∀t,ts[j]?=some t->∃n,vK ts N t n/\¬(0<n/\(N.getD j 0=0∨n<N.getD j 0))
def oe(ts:List aB)(N a:List Nat)(b:Bool)(i:Nat):Prop:=(b=false->a=N/\∀j,j<i->Uw ts N j)/\(b=true->rV a<rV N)
def oe.still{ts:List aB}{N a:List Nat}{b:Bool}{i n:Nat}{t:aB}(c:oe ts N a b i)(l:ts[i]?=some t)(hv:vK ts a t n)(h:¬(0<n/\(a.getD i 0=0∨n<a.getD i 0))):oe ts N a b (i+1):=
 ⟨fun g=>by
   obtain⟨rfl,f⟩:=c.1 g;refine⟨rfl,fun j m=> ?_⟩;by_cases e:j=i;subst e;intro u d;obtain rfl:=by rw[l]at d;injection d
   exact⟨n,hv,h⟩;exact f j ad,c.2⟩
def oe.turn{ts:List aB}{N a:List Nat}{b:Bool}{i n k:Nat}(c:oe ts N a b i)(g:i<a.length)(j:0<n)(f:n<=4097)(h:a.getD i 0=0∨n<a.getD i 0):oe ts N (a.set i n) true k:=
 ⟨(fun e=>by cases e),fun _=>by
   have d:=Uv g j f h;cases b with
   |true=>have:=c.2 rfl;omega
   |false=>obtain⟨rfl,_⟩:=c.1 rfl;exact d⟩
def oe.end{ts:List aB}{N a:List Nat}{i:Nat}(c:oe ts N a false i)(e:ts.length<=i):oa ts a:=by obtain⟨rfl,d⟩:=c.1 rfl;exact fun j t b=>d j (by have:=(aF.1 b).1;omega) t b
end
section
open Wey
def JB(l:List ai)(x:ai):Prop:=bK x.t.E=0/\x.t.E.length<=20/\(∀a∈unionB (symsS x.t.E),fi (l.map ai.t) a=kidOf (l.map ai.t) a/\kidOf (l.map ai.t) a<l)/\(unionB (symsS x.t.E)).length<=64
def Ux{ts N t m V}(a:qs ts N t (some (m,V))):m<=4097:=by
 obtain⟨keys,f,_,d,b,_,c⟩:=a;rcases c.at_ with e|⟨i,_,_,e⟩
 cases e
 have:=(b.rg i m V e.zy).2.2.1;omega
def JC(ts:List aB)(w:World)(e:Ending)(w':World):Prop:=∃H N,e=.returned (.slice (some ⟨H,0,none⟩) ts ts)/\jZ ts N/\oa ts N/\iD w ts H N w'
def Uy l o cap w(d:cw w o cap l)(cd:l.length<=64)(cg:1<=l.length)(a7:∀x∈l,x.t.text=false->JB l x):
 dB 11 #[.slice o l cap] w (JC (l.map ai.t) w):=by
 obtain⟨n,R⟩:=am l.length;have bi:(l.map ai.t)=n:=by rw[bn,R]
 have⟨cp,bg,bt,bu,bw⟩:=cZ lm;have⟨a3,Z⟩:=am (madeCells #[.int .i64 0] n);have ci:∀G,(Instr.makeSlice 41 (.int .i64 (n:Int)) (.int .i64 (n:Int))).run prog G=.ok (.slice (some ⟨G.heap.size,0,none⟩) n n) (G.alloc (.cells a3 3)):=fun G=>by have:=sj (P:=prog) G 41 3 cp (.int .i64 0) j9 bg bt .i64 .i64 n n ad ad (by rw[bw];omega) ad;simp only[nH,bu,wj]at this;rw[this,Z];rfl
 have⟨w1,y⟩:=am (w.alloc (.cells a3 3));have bo:iD w n w.heap.size (List.replicate n 0) w1:=by
  refine⟨y▸aP,ay _,?_,aj,fun a b9=>by have:=DI b9;omega⟩;rw[y,aN];congr 2
  rw[Z];apply lW;rw[DH];simp[nV]
 have⟨T,I,B,bA,bB⟩:=iz bo R bi d a7;have cl:n<=64:=ad;have c5:1<=n:=ad;rw[<-R];clear d a7 bo Z bg bt bu bw R bi cd cg
 go_in
 go_wp2_with(first|(rw[<-y];clear y)|fail)
 try(rw[<-y];clear y)
 clear ci;generalize w.heap.size=H at T⊢;obtain⟨ts,ae⟩:=am (l.map ai.t);rw[<-ae]at B⊢;have X:=ah ae;clear ae;go_loopg [4] (2*rV (List.replicate n 0)+1) (fun g bv wr=>∃C N,bv=.bool C/\jZ ts N/\(C=false->oa ts N)/\g=2*rV N+(if C then 1 else 0)/\iD w n H N wr)
 case atStart=>exact⟨true,_,rfl,B.o▸ .start,fun d=>(by cases d),rfl,T.o⟩
 case round=>
 clear T;obtain⟨C,N,rfl,a9,ba,bf,bb⟩:=hrel;obtain⟨a1,bZ,bF,a2⟩:=dE a9 ba bf bb;clear a9 ba bf bb;cases C with
 |true=>
  go_wp2_with fail
  obtain⟨dc,rfl⟩:=am wr;go_loopw [4,5] (fun bv ag wr=>∃(p:Bool) (i:Nat) (f:List Nat),bv=p/\ag=.int .i64 i/\i<=n/\Hid (jZ ts f)/\Hid (oe ts N f p i)/\Hid (iD w n H f wr)) (fun _ ag _=>n-(intOf ag).toNat)
  case atStart=>exact⟨false,0,N,rfl,rfl,aH _,a1,ah ⟨fun _=>⟨rfl,fun j cc=>absurd cc ad⟩,fun d=>(by cases d)⟩,a2⟩
  case round=>
  obtain⟨p,i,f,rfl,rfl,c2,z,v,h⟩:=hrel;by_cases q:i<n
  ·have ca:=bC q
   have cb:=od q;have c4:=bk q;have c3:=aL i;have⟨x,F⟩:=df l i (I.o▸q);have bq:ts[i]?=x.t:=by rw[X.o,bR,F];rfl
   have Y:=ah bq;have af:=bA.o.O h.o.base;have be:x.t.text=false->Calls prog 32 #[.slice o n cap,.int .i64 (i:Nat),.slice (some ⟨H,0,none⟩) n n] wr fun e w'=>(∃r:BR,e=.returned r.val/\k9 wr.heap.size r w'/\qs ts f x.t r.o)/\Below wr.heap.size wr w':=fun co=>by obtain⟨b4,b5,b6,b7⟩:=bB.o x (aK F) co;have:=JA l o cap wr af (by rw[<-I.o];exact cl) i x F b4 b5 b6 b7 f (by rw[h.o.len];exact I.o) h.o.le (some ⟨H,0,none⟩) n (by have:=h.o.nums ad;exact this);rwa[<-I.o,h.o.len,<-X.o]at this
   have aw:=ah be;obtain⟨b,c7,rfl,c0,cG,cL,cN,cO,S,cP⟩:=af.at F;clear F bq af be cG cL cN cO cP
   go_upto_if 22 with(fail)
   go_cut [6]from 12 to 53 (fun nv cx=>∃m,nv=.int .i64 (m:Nat)/\Hid (vK ts f x.t m)/\m<=4097/\aR wr cx)
   case first=>
    cases E:x.t.text with
    |true=>
     rw[E]at S;go_wp2_with fail
     go_meet
     exact⟨1,rfl,ah ⟨fun _=>rfl,(fun d=>by rw[E]at d;cases d)⟩,ad,aA _ _⟩
    |false=>
     rw[E]at S;have V:=ah E;clear E;go_wp2_with fail
     apply(aw.o V.o).zz;rintro e cv ⟨⟨r,rfl,ab,aa⟩,bc⟩;obtain⟨cs,cq,hv⟩:=bs ab.own;obtain⟨al,an,cu,c8⟩:=r;simp only at hv;subst hv;unfold BR.val;have c6:an<=4097:=by
      cases al with
      |true=>exact Ux aa
      |false=>have:=(ab.zero rfl).1;simp only at this;omega
     have⟨cS,K,a4,bz⟩:=dy cv (.cells #[al,.int .i64 an,.slice cs cu cq] 85);have⟨dl,dm⟩:=ku bz;have⟨ao,av⟩:=aC (aE bc a4) aa;clear bz a4 bc aa ab S;cases al with
     |true=>
      go_wp2_with(first|(rw[<-K];clear K)|fail)
      go_meet
      exact⟨min 4097 (an+1),gA _ ad,ah ⟨(fun d=>by rw[V.o]at d;cases d),fun _=>⟨_,av.o,rfl⟩⟩,ad,ao.o⟩
     |false=>
      go_wp2_with(first|(rw[<-K];clear K)|fail)
      go_meet
      exact⟨0,rfl,ah ⟨(fun d=>by rw[V.o]at d;cases d),fun _=>⟨_,av.o,rfl⟩⟩,ad,ao.o⟩
   case rest=>
    obtain⟨m,rfl,W,Q,bd⟩:=hcut;have D:=h.o.O bd;have u0:=D.at q;have c9:=D.free i;have⟨c,M⟩:=am (f.getD i 0);rw[<-M]at u0;have c1:c<=4097:=by rw[M];exact tP D.le i
    have⟨A,J⟩:=aC M D;clear M D S bd aw;by_cases u:0<m/\(c=0∨m<c)
    ·have s:=ah u
     obtain⟨t,bl⟩:=u;have a5:decide ((0:Int)<m)=true:=bT;have a6:decide (0<m)=true:=bT;by_cases O:c=0
     ·subst O
      clear bl
      go_wp2
      go_roundw
      case rel=>exact⟨true,i+1,_,rfl,aD,ad,ah (.step z.o ⟨i,x.t,m,Y.o,W.o,s.o.1,A.o▸s.o.2,rfl⟩),ah (v.o.turn (h.o.len▸q) s.o.1 Q (A.o▸s.o.2)),ah (J.o.put i Q)⟩
      case measure=>exact aM
     ·have b0:((c:Int)==0)=false:=by simpa using O
      have b1:(c==0)=false:=by simpa using O
      have ch:m<c:=ad;have b2:decide ((m:Int)<c)=true:=bT;have b3:decide (m<c)=true:=bT;clear bl O
      go_wp2
      go_roundw
      case rel=>exact⟨true,i+1,_,rfl,aD,ad,ah (.step z.o ⟨i,x.t,m,Y.o,W.o,s.o.1,A.o▸s.o.2,rfl⟩),ah (v.o.turn (h.o.len▸q) s.o.1 Q (A.o▸s.o.2)),ah (J.o.put i Q)⟩
      case measure=>exact aM
    ·have a0:Hid (oe ts N f p (i+1)):=ah (v.o.still Y.o W.o (by rw[<-A.o];exact u))
     by_cases t:0<m
     ·have a5:=bC t
      have a6:=od t;have b0:((c:Int)==0)=false:=by have:c≠0:=fun d=>u ⟨t,.inl d⟩;simpa using this
      have b1:(c==0)=false:=by have:c≠0:=fun d=>u ⟨t,.inl d⟩;simpa using this
      have ch:¬m<c:=fun d=>u ⟨t,.inr d⟩;have b2:decide ((m:Int)<c)=false:=bU;have b3:=bU;clear u
      go_wp2
      go_roundw
      case rel=>exact⟨p,_,f,rfl,aD,ad,z,a0,J⟩
      case measure=>exact aM
     ·have a5:=bG t
      have a6:=mH t;clear u
      go_wp2
      go_roundw
      case rel=>exact⟨p,_,f,rfl,aD,ad,z,a0,J⟩
      case measure=>exact aM
  ·have ca:=bG q
   have cb:=mH q
   go_wp2
   go_roundg(2*rV f+(if p then 1 else 0))
   case rel=>
    refine⟨p,f,rfl,z.o,fun d=> ?_,rfl,h.o⟩;subst d;exact v.o.end (by rw[B.o];omega)
   case measure=>
    have b8:=bF.o;rw[b8];cases p with
    |true=>have:=v.o.2 rfl;simp;omega
    |false=>rw[(v.o.1 rfl).1];simp
 |false=>
  have bE:Hid (JC ts w (.returned (.slice H n n)) wr):=ah ⟨H,N,by rw[B.o],a1.o,bZ.o rfl,by rw[B.o];exact a2.o⟩
  go_wp2
  go_ret;rw[<-X.o];exact bE.o
end
end Go.Proofs.YtfeidcmojcijpaaGreatDoor
