import Derived.Test.YtfeidcmojcijpaaGreatDoorQbd
set_option linter.all false
set_option maxRecDepth 100000
set_option maxHeartbeats 0
namespace Go.Proofs.YtfeidcmojcijpaaGreatDoor
open Go.RowKit Tryz
def Se x w:(binOp BinOp.neq 233 (.agg (setRow x)) (.agg fe)).run prog w=.ok (.bool (!(x==0))) w:=by
 cases x with
 |zero=>kernel_rfl
 |succ y=>kernel_rfl
def G7{P ops rest c a w Q}(m:Region.wanted c (yielded ops a.tmps)=true) ty x(j:c.op=.load ty x)
 b o(n:a.eval x=.pointer (some ⟨b,o,none⟩)) cs d(g:w.rangeAt b o cs)
 (l:P.underlying ty=some d) (h:d.isRow=true) (i:(P.info? ty).map (·.size)=cs.length)
 (e:wpList P ops Q rest (a.put c.dst (.agg cs)) w):wpList P ops Q (c::rest) a w:=
 wpList_step fun p f=>by rw[au m];exact wp_load_mid ty x j b o n cs d g l h i (f _ _ e)
def Sf s emp last EB LB w(d:Low s)(o:last<18446744073709551616)(h:kq w EB #[.bool emp] 4)(r:w.rangeAt LB 0 (setRow last))(u:LB<w):
 cX 162 #[.agg (bx s),EB,LB] w (.bool ((s.1&&emp)|| !(s.2&&&last==0))):=by
 obtain⟨w1,a,b,j⟩:=dy w (.cells (bx s) 239);have t:gC w1 _ 0 (.bool s.1):=ak 0 j;have z:=ak 0 ((b.J _ (aI h)).Z h);have x:=BY j;have A:=qi r (b.J _ u);unfold Low at d;obtain⟨c,m⟩:=s;simp only at t x d⊢;have n:=Bw m last w1 d o;have v:=fun w'=>Se (m&&&last) w';have⟨l,e⟩:=aC n b;clear b j r h d o n;have⟨q,p⟩:=am (!(m&&&last==0));rw[<-p]at v⊢;clear p;by_cases g:c=true/\emp=true;obtain⟨rfl,rfl⟩:=g
 go_in
 go_wp2_with(first
  |(rw[<-a];clear a)
  |fail)
 go_ret;exact⟨aj,e.out⟩;have i:(c&&emp)=false:=by cases c<;>cases emp<;>simp_all
 rw[i];simp only[ou];cases c with
 |false=>
  clear g i
  go_in
  go_wp2_with(first
   |(rw[<-a];clear a)
   |((with_reducible apply G7 (ty:=233));exact rfl;exact rfl;exact rfl;assumption;exact l4;exact rfl;rfl)
   |fail)
  refine ar l.o ?_;intro y f
  go_wp2
  go_ret;exact⟨rfl,aE e.out f⟩
 |true=>
  obtain rfl:emp=false:=by cases emp<;>simp_all
  clear g i
  go_in
  go_wp2_with(first
   |(rw[<-a];clear a)
   |((with_reducible apply G7 (ty:=233));exact rfl;exact rfl;exact rfl;assumption;exact l4;exact rfl;rfl)
   |fail)
  refine ar l.o ?_;intro y f
  go_wp2
  go_ret;exact⟨rfl,aE e.out f⟩
def Sh ws o c w(b:cI w o c ws)(M:1<=ws.length)(O:ws.length<=1048576):
 dB 90 #[.slice o ws c] w fun e w'=>(∃v,e=.returned v/\bN w' w v ws)/\aR w w':=by
 obtain⟨g,m,rfl,N,q⟩:=b.2.2.2 ad;have P:=b.2.1;have z:=b.2.2.1;unfold maxLen at z;have f:∀j u,(ws.map encStr)[j]?=some u->(w.alloc (.cells #[] 9)).cell? ((⟨g,m,none⟩:Addr).add j)=some u:=by
  intro j u C;have y:(⟨g,m,none⟩:Addr).add j=⟨g,m+j,none⟩:=by by_cases p:j=0;subst p;rfl;simp[Addr.add,p]
  rw[y];exact Lib.cell?_alloc_some _ (q j u C)
 have i:∀u∈ws.map encStr,u.oneCell'=true:=by intro u F;obtain⟨n,_,rfl⟩:=dL.1 F;rfl
 have⟨J,B,G,H,I⟩:=cZ pB;have h:(ws.map encStr)=ws.length*1:=aj;have R:∀w a n c n' d,(binOp .eql 53 (.slice a n c) (.slice none n' d)).run _ w=.ok a.isNone w:=fun w a n c n' d=>Kz w _ _ a n c n' d jM;have⟨xs,l⟩:=am (ws.map encStr);rw[<-l]at f i h;have⟨x,s,r,t⟩:=dE l h f i;clear b q l h f i
 go_in
 go_wp2_with(first
  |(at_builtin;go_must (refine iV _ rfl _ _ 53 rfl _ 9 J _ 1 16 jM B G H I rfl aq _ _ _ rfl (KF w _ 0 (ay _) (aH _) rfl) _ _ c xs rfl s.o r.o t.o bO ad aj ?_);intro K S E A Q)
  |go_in)
 go_ret;refine⟨⟨K,rfl,?_⟩,?_⟩;unfold bN;rw[<-x.o];simpa using E;exact aP.zu A aj (by intro k D;cases D;simp)
def Si Y g c2 o ty:(Builtin.append_ #[53,53] ty #[.slice (some ⟨g,0,none⟩) 0 0,.slice o 0 c2]).run prog Y=.ok (.slice g 0 0) Y:=by cases o<;>rfl
def Sj o c w:
 dB 90 #[.slice o 0 c] w fun e w'=>(∃v,e=.returned v/\bN w' w v [])/\aR w w':=by
 have f:∀w a n c n' b,(binOp .eql 53 (.slice a n c) (.slice none n' b)).run _ w=.ok a.isNone w:=fun w a n c n' b=>Kz w _ _ a n c n' b jM;cases o with
 |none=>
  go_in
  go_wp2
  go_ret;exact⟨⟨_,rfl,cW _ _ _ _⟩,aA _ w⟩
 |some p=>
  have d:=fun Y g ty=>Si Y g c p ty
  go_in
  go_wp2_with(first
   |(at_builtin;refine qI _ rfl _ _ _ _ rfl _ _ rfl rfl _ _ (d _ _ _) ?_)
   |fail)
  go_ret;exact⟨⟨_,rfl,KF w _ 0 (ay _) (aH _) rfl⟩,aP⟩
def G9 ws o c w(d:cI w o c ws)(b:ws.length<=1048576):
 dB 90 #[.slice o ws c] w fun e w'=>(∃v,e=.returned v/\bN w' w v ws)/\aR w w':=by
 rcases zM ws with a|a
 obtain rfl:=pp a;exact Sj o c w;exact Sh ws o c w d a b
def He(ws:List Bytes)(keys:List St)(fin:St->Bool)(nv:Value)(w:World)(e:Ending)(w':World):Prop:=
 (∃sv fv,e=.returned (.agg #[sv,nv,fv])/\bN w' w sv ws/\w'.ownsRow w 4 1 fv keys (keys.map fun s=>.bool (fin s)))/\aR w w'
structure AS(ws:List Bytes)(keys:List St)(fin:St->Bool)(tv nv sv fv:Value)(D j:Nat)(w wr:World):Prop where
 base:Below w.heap.size w wr
 size:w.heap.size+2<=wr.heap.size
 tour:wr.heap[w.heap.size]?=some (.cells #[tv,nv,fv] 246)∨True
 res:wr.heap[w.heap.size+1]?=some (.cells dx 108)
 box:wr.heap[D]?=some (.cells #[sv,nv,fv] 108)
 ne:w.heap.size+2<=D
 syms:wr.ownsRow (w.heap.size+2) 9 1 sv ws.length (ws.map encStr)
 fins:wr.ownsRow (w.heap.size+2) 4 1 fv j ((keys.take j).map fun s=>.bool (fin s))
section
variable{ws:List Bytes} {keys:List St} {fin:St->Bool} {tv nv sv fv:Value} {D j:Nat} {w wr wq:World}
def AS.O(a:AS ws keys fin tv nv sv fv D j w wr)(b:Below wr.heap.size wr wq):AS ws keys fin tv nv sv fv D j w wq:=
 ⟨aE a.base ((b.zz (ay _))),aW a.size b.size,.inr trivial,(b.J _ (aI a.res)).Z a.res,(b.J _ (aI a.box)).Z a.box,a.ne,aX a.syms (fun g c=>b.J g (aV a.syms c).2),aX a.fins (fun g c=>b.J g (aV a.fins c).2)⟩
def AS.put(a:AS ws keys fin tv nv sv fv D j w wr){f:World}(d:wr.grownBy f fv.ownBlock){i gc:Nat}{s:St}(q:keys[j]?=some s)(l:f.ownsRow (w.heap.size+2) 4 1 (.slice (some ⟨i,0,none⟩) (j+1) gc) (j+1) ((keys.take j).map (fun s=>.bool (fin s))++[.bool (fin s)])):
 AS ws keys fin tv nv sv (.slice (some ⟨i,0,none⟩) (j+1) gc) D (j+1) w (f.setCell ⟨D,2,none⟩ (.slice (some ⟨i,0,none⟩) (j+1) gc)):=by
 have r:=a.size;have p:=a.ne;have h:=(d.J D (aI a.box) (jn a.fins a.box aq)).Z a.box;have n:=(d.J _ (aI a.res) (jn a.fins a.res aq)).Z a.res;have o:Below w.heap.size w f:=qf ad a.base d (fun b e=>by have:=(aV a.fins e).1;omega);have m:=aX a.syms (fun g c=>d.J g (aV a.syms c).2 (qg a.syms a.fins aq g c));refine⟨o.setCell aO _,by rw[eF];exact aW r d.size,.inr trivial,(aU _ _ _ _ _ ad).Z n,a8 f D 2 _ h,p,aX m (fun g c=>aU _ _ _ _ _ (fun e=>iP m h aq (by rw[c,e]))),?_⟩;have e:(keys.take (j+1)).map (fun s=>Value.bool (fin s))=(keys.take j).map (fun s=>.bool (fin s))++[.bool (fin s)]:=by rw[bH,q,fp,gL];rfl
 rw[e];exact aX l (fun g c=>aU _ _ _ _ _ (fun e=>iP l h aq (by rw[c,e])))
end
def Ca(ws:List Bytes)(keys:List St)(fin:St->Bool)(tv nv sv:Value)(D:Nat)(w:World)(a:Value)(wr:World):Prop:=
 ∃j fv,a=.int .i64 (j:Nat)/\j<=keys/\AS ws keys fin tv nv sv fv D j w wr
def Ho:(prog.info? 4).map (fun i=>(i.zero,i.size,i.bytes))=some (some (.bool false),1,1):=az
def Sk ws o c keys kg kc R fn fc n fo no a fin p1 p2 w(C:cI w o c ws)(h:ws.length<=1048576)
 (x:w.ownsRow R 239 17 (.slice (some ⟨kg,0,none⟩) keys.length kc) keys.length (flatS keys)) (f:keys.length<=256) (Inv:World->Prop) (y:∀w1 d,Inv w1->Below w w1 d->Inv d) (p:Inv w)
 (t:∀s w',s∈keys->Inv w'->w<=w'.heap.size->cX 162 #[.agg (bx s),p1,p2] w' (.bool (fin s))):
 dB 161 #[.agg #[.slice kg keys kc,.slice no n a,.slice fo fn fc],.slice o ws c,.func (.func 162) #[] #[p1,p2]] w (He ws keys fin (.slice no n a) w):=by
 obtain⟨w1,d⟩:=am ((w.alloc (.cells #[.slice kg keys kc,.slice no n a,.slice fo fn fc] 246)).alloc (.cells dx 108));have f:aR w w1:=by rw[d];exact aP.alloc aj _
 have l:w1.heap[w.heap.size]?=some (.cells #[.slice (some ⟨kg,0,none⟩) keys.length kc,.slice no n a,.slice fo fn fc] 246):=by rw[d];exact(br _ _ _ aj).Z (aN w _)
 have H:w1.heap[w.heap.size+1]?=some (.cells dx 108):=by rw[d];have:=aN (cT w #[.slice kg keys kc,.slice no n a,.slice fo fn fc] 246) (.cells dx 108);rwa[bP]at this
 have G:w1=w.heap.size+2:=by rw[d];simp
 have r:=fun w' m=>G9 ws o c w' ((C.O f).O m) h;have⟨ao,A,N,O,u,bb,ca,b4,b8⟩:=BV r f l H G x y p t;have E:∀w',aR w1 w'->w'.cell? _=some (.slice no n a):=fun w' m=>ak 1 ((m.J _ ad).Z l);have B:=ah E;have F:=E _ (aA _ w1).drew;have h:aR w1 w1.drew:=(aA _ w1).drew;have q:aR w1 (cT w1.drew dx 108):=h.alloc (ay _) _;have⟨an,T⟩:=aC h q;clear r f l H G x y p t C E h q
 go_in
 go_wp2_with(first
  |(rw[<-d];clear d)
  |fail)
 go_region_held3(fun w'=>w'.cell? ⟨w.heap.size,1,none⟩=some (.slice no n a))
  (first|exact F|exact P|exact I|exact B.o _ T.o|exact B.o _ (q.out.alloc q.out.size _)|exact(li _ _ _ _ aO).Z fX)
  (first
    |(go_at_call 90;refine(ao.o w1.drew an.o).zz ?_;rintro e d ⟨⟨sv,rfl,r⟩,t⟩;have p:=aE an.o t;have I:=B.o d p;obtain⟨h,f,rfl⟩:=bs r;have H:=ah r;have q:=ah p;have ag:=ah t;clear r t p)
    |(go_at_call 90;apply(ao.o _ T.o).zz;rintro e d ⟨⟨sv,rfl,r⟩,t⟩;have p:=aE T.o t;have I:=B.o d p;obtain⟨h,f,rfl⟩:=bs r;have H:=ah r;have q:=ah p;have ag:=ah t;have l:kq d w1 dx 108:=(ag.out.J _ aj).Z (aN _ _);have d0:=ak 0 l;have d1:=ak 1 l;have d2:=ak 2 l;have f0:=aJ l 0;have f1:=aJ l 1;have f2:=aJ l 2;have P:(((d.setCell ⟨w1.heap.size,0,none⟩ (.slice h ws.length f)).setCell ⟨w1.heap.size,1,none⟩ (.slice no n a)).setCell ⟨w1.heap.size,2,none⟩ (.slice none 0 0)).cell? ⟨w.heap.size,1,none⟩=some (.slice no n a):=(by rw[li _ _ _ _ (fun e=>by injection e with e;have:=u.out;omega),li _ _ _ _ (fun e=>by injection e with e;have:=u.out;omega),li _ _ _ _ (fun e=>by injection e with e;have:=u.out;omega)];exact I);have x:=ah l;clear r t p))
 all_goals(first
  |(obtain⟨r,l⟩:=am (d.alloc (.cells #[.slice h ws f,.slice no n a,.slice none 0 0] 108))
    rw[<-l];have y:Hid (AS ws keys fin (.slice (some ⟨kg,0,none⟩) keys.length kc) (.slice no n a) (.slice h ws.length f) (.slice none 0 0) d.heap.size 0 w r):=ah (by have C:=u.out;have M:=q.out.size;have b:=q.out.alloc q.out.size (.cells #[.slice h ws f,.slice no n a,.slice none 0 0] 108);have K:=(aA _ d).alloc (ay _) (.cells #[.slice h ws f,.slice no n a,.slice none 0 0] 108);rw[l];exact⟨aE A.o b,aO,.inr trivial,(b.J _ (aI O.out)).Z O.out,aN d _,ad,eR (aX H.o (fun g G=>K.J g (aV H.o G).2)) aO,cW _ _ _ _⟩)
    have aw:Hid (r.heap[w.heap.size]?=some (.cells #[.slice (some ⟨kg,0,none⟩) keys.length kc,.slice no n a,.slice fo fn fc] 246)):=ah (by rw[l];exact((q.out.alloc q.out.size _).J _ (aI N.out)).Z N.out);generalize d.heap.size=D at y⊢;clear l)
  |(obtain⟨r,l⟩:=am ((((d.setCell w1 (.slice h ws f)).setCell ⟨w1,1,none⟩ (.slice no n a)).setCell ⟨w1,2,none⟩ ()))
    rw[<-l];have y:Hid (AS ws keys fin (.slice (some ⟨kg,0,none⟩) keys.length kc) (.slice no n a) (.slice h ws.length f) (.slice none 0 0) w1.heap.size 0 w r):=ah (by
     have C:=u.out;have M:=q.out.size;have p:∀b,b≠w1.heap.size->r.heap[b]?=d.heap[b]?:=fun b m=>by rw[l,aU _ _ _ _ _ m,aU _ _ _ _ _ m,aU _ _ _ _ _ m]
     have b:=aE A.o q.out;have J:Below w.heap.size w r:=by rw[l];exact((b.setCell aO _).setCell aO _).setCell aO _
     have W:r.heap[w1.heap.size]?=some (.cells #[.slice h ws.length f,.slice no n a,.slice none 0 0] 108):=by rw[l];exact a8 _ _ 2 _ (a8 _ _ 1 _ (a8 _ _ 0 _ x.out))
     have Q:r.heap.size=d.heap.size:=by rw[l];simp
     exact⟨J,ad,.inr trivial,(p _ ad).Z ((q.out.J _ (aI O.out)).Z O.out),W,ad,eR (aX H.o (fun g G=>p g (fun e=>by subst e;exact iP H.o x.out aq G))) aO,cW _ _ _ _⟩)
    have aw:Hid (r.heap[w.heap.size]?=some (.cells #[.slice (some ⟨kg,0,none⟩) keys.length kc,.slice no n a,.slice fo fn fc] 246)):=ah (by have C:=u.out;rw[l,aU _ _ _ _ _ ad,aU _ _ _ _ _ ad,aU _ _ _ _ _ ad];exact(q.out.J _ (aI N.out)).Z N.out);generalize w1.heap.size=D at y⊢;clear l))
 all_goals
  (have bg:=ak 0 aw.out
   have bq:Hid (Ca ws keys fin (.slice kg keys kc) (.slice no n a) (.slice h ws f) D w (0:Int) r):=ah ⟨0,_,rfl,aH _,y.o⟩;have c4:∀args K,(callFunc 162 args).run prog K=.ok (.enter 162 args) K:=fun _ _=>rfl;clear y aw ao an T N O H q ag
   go_wp2
   go_loopw [18] (fun a6 wr=>Ca ws keys fin (.slice kg keys kc) (.slice no n a) (.slice h ws f) D w a6 wr) (fun a6 _=>keys-(intOf a6).toNat)
   case atStart=>exact bq.out
   case round=>
   clear bq bg;obtain⟨j,fv,rfl,cx,l⟩:=hrel;obtain⟨x,u,rfl⟩:=bs l.fins;by_cases ab:j<keys
   ·obtain⟨s,a4⟩:=aT ab
    obtain⟨cL,cv,co,cp,cq⟩:=cZ Ho;have bt:=aX bb.o (fun g G=>l.base.J g (aV bb.o G).2);have cS:=BP bt a4;have⟨K,ae,bf⟩:=fQ wr (.cells #[false,.int .u64 0,.int .u64 0,.int .u64 0,.int .u64 0,.int .u64 0,.int .u64 0,.int .u64 0,.int .u64 0,.int .u64 0,.int .u64 0,.int .u64 0,.int .u64 0,.int .u64 0,.int .u64 0,.int .u64 0,.int .u64 0] 239);have c0:K.there wr.heap.size 0 17:=by rw[ae];exact oO (aN wr _) (ay _)
    have bB:wr<K.heap.size:=by rw[ae];simp
    have c5:=aL j;have c6:=bk ab;have⟨a9,bl⟩:=am (fin s);have⟨Y,X⟩:=am wr.heap.size;have b7:Hid ((Value.slice x j u).ownBlock≠some Y):=ah (fun e=>by have:=(aV l.fins e).2;omega);have b2:Hid (∀p,gV K p wr.heap.size 0 (bx s)->AS ws keys fin (.slice (some ⟨kg,0,none⟩) keys.length kc) (.slice no n a) (.slice h ws.length f) (.slice x j u) D j w p/\p.rangeAt Y 0 (bx s)/\Y<p.heap.size):=fun p a3=>⟨l.O (a3.O bf (ay _)),by rw[X];exact a3.zn,by rw[a3.size,X];exact bB⟩;have⟨be,ba,bd,b6⟩:=dE a4 bl ab X;clear l bt bf bB a4 bl ab cx X;go_wp2_with(first
     |(rw[<-ae];clear ae)
     |(refine vn ?_)
     |((refine BW ?_);intro p bo;obtain⟨Q,b1,b0⟩:=b2.o p bo;have al:=ah Q;have J:=b8.o s _ (aK be.o) (ca.o _ _ b4.o Q.base.drew) Q.base.size;rw[<-ba.o]at J;have b9:=ah J;have b5:=ah b1;have bc:=ah b0;clear Q bo c0 cS J b1 b0)
     |fail)
    rw[<-b6.o];have E:∀w',Below p.heap.size p w'->w'.cell? ⟨D,2,none⟩=some (.slice x j u)/\w'.rangeAt Y 0 (bx s):=fun w' m=>⟨ak 2 ((m.J _ (aI al.o.box)).Z al.o.box),jA b5.o m⟩;have B:=ah E;have F:=E _ (aA _ p).drew;have c1:Hid (∀d,aR p d->Y<d):=fun d m=>eU bc.o m.size;clear E;refine tF (S:=(fun w'=>w'.cell? ⟨D,2,none⟩=some (.slice x j u)/\w'.rangeAt Y 0 (bx s))) (last:=8) az ?_;refine cj (i:=0) rfl F ?_;refine cj (i:=1) rfl F ?_;refine cj (i:=2) rfl F ?_;refine HZ (i:=3) rfl (uk (by rfl) _ _ rfl _ _ rfl _ _ (fun _ a1=>a1.2) zY rfl RI) F ?_;simp only[Act.put,cK,ct];refine gy (i:=4) az rfl (fun av C=> ?_);go_simp;refine ar b9.o ?_;intro d t;have V:aR p d:=(aA _ p).drew.Z t;have I:=B.o _ V;have Z:aR p (cT d #[a9] 4):=V.alloc V.size _;have P:=B.o _ Z;have⟨b3,A⟩:=aC Z.size (al.o.O Z);have bz:=A.o.fins;have bu:=eq d [a9] 4 _ rfl;have bi:=A.o.size;clear t V Z;refine C.out _ _ (fun _=>I) (fun _=> ?_);try simp only[Act.put,cK,cR,ct]
    refine gy (i:=5) az rfl (fun av C=> ?_);go_simp;refine C.out _ _ (fun _=>P) (fun _=> ?_);try simp only[Act.put,cK,cR,ct]
    refine gy (i:=6) az rfl (fun av C=> ?_);refine nG _ (by rfl) _ _ _ (by rfl) _ 4 cL _ 1 1 K4 cv co cp cq rfl ad _ j _ (by rfl) bz _ 1 1 _ (by rfl) (by rfl) bu (fun z bF=>by simp at bF;subst bF;rfl) ad bO ad bi _ rfl ?_;intro cc cd a7 bA aa ch cG;have a0:=(aa.J D (aI A.o.box) (jn A.o.fins A.o.box aq)).Z A.o.box;have bZ:=ak 2 a0;have f72:=aJ a0 2;have a2:gC a7 D 2 (.slice x j u)/\a7.rangeAt Y 0 (bx s):=⟨bZ,qi P.2 (aa.J Y (jO bc.o b3.o) (fun e=>b7.o e.zy))⟩;refine C.out _ _ (fun _=>a2) (fun _=> ?_);try simp only[Act.put,cK,ct]
    refine cj (i:=7) rfl a2 ?_;refine gy (i:=8) az rfl (fun av C=> ?_);go_simp;refine C.out _ _ (fun a1=>absurd rfl a1) (fun _=> ?_);try simp only[Act.put,cK,cR,ct]
    refine ql az ?_ _;have cg:Hid (Ca ws keys fin (.slice (some ⟨kg,0,none⟩) keys.length kc) (.slice no n a) (.slice h ws.length f) D w (.int .i64 ((j:Int)+1)) (a7.setCell ⟨D,2,none⟩ (.slice (some ⟨cc,0,none⟩) (j+1) cd))):=ah ⟨j+1,_,rfl,by have:=bd.o;omega,A.o.put aa be.o (by rw[<-ba.o];exact bA)⟩;clear bA aa ch cG a0 bZ f72 a2 I P F bz bu bi
    go_wp2
    go_roundw
    case rel=>exact cg.out
    case measure=>have:=bd.o;simp[intOf];omega
   obtain rfl:j=keys:=ad;have bg:=ak 0 l.box;have c2:=ak 1 l.box;have c3:=ak 2 l.box;have d0:=ak 0 l.res;have d1:=ak 1 l.res;have d2:=ak 2 l.res;have f0:=aJ l.res 0;have f1:=aJ l.res 1;have f2:=aJ l.res 2;have y:=ah l;clear l;go_wp2_with fail
   have M:=y.o;have W:(((wr.setCell _ (.slice h ws f)).setCell ⟨_,1,none⟩ (.slice no n a)).setCell ⟨_,2,none⟩ (.slice x keys u)).heap[w.heap.size+1]?=some (.cells #[.slice h ws f,.slice no n a,.slice x keys u] 108):=
    a8 _ _ 2 _ (a8 _ _ 1 _ (a8 _ _ 0 _ M.res))
   have⟨af,a5⟩:=am ((((wr.setCell ⟨w+1,0,none⟩ (.slice h ws f)).setCell ⟨w+1,1,none⟩ (.slice no n a)).setCell ⟨w+1,2,none⟩ (.slice x keys u)));have ci:∀b,b≠w.heap.size+1->af.heap[b]?=wr.heap[b]?:=fun b m=>by rw[a5,aU _ _ _ _ _ m,aU _ _ _ _ _ m,aU _ _ _ _ _ m]
   have cl:Below w.heap.size w af:=by rw[a5];exact((M.base.setCell aj _).setCell aj _).setCell aj _
   have bE:∀{R e size n:Nat} {v} {xs},e≠108->wr.ownsRow R e size v n xs->af.ownsRow R e size v n xs:=fun cs bw=>aX bw (fun g G=>ci g (fun cb=>iP bw M.res cs (by rw[G,cb])));rw[<-a5]at W⊢;have J:=M.fins;rw[ol]at J;have cu:He ws keys fin (.slice no n a) w (.returned (.agg #[.slice h ws.length f,.slice no n a,.slice x keys.length u])) af:=
    ⟨⟨_,_,rfl,eR (bE aq M.syms) (wS _ 2),eR (bE aq J) (wS _ 2)⟩,cl⟩
   have⟨cN,cO,cP⟩:=dP W;exact cQ (by simp[results,go_sem,cN,cO,cP]) rfl cu)
structure jo(W0:World)(l:List ax)(ws:List Bytes)(no:Option Addr)(nc SB:Nat)(so:Option Addr)(sc k q:Nat)(w:World):Prop where
 base:Below W0.heap.size W0 w
 size:SB+4<=w.heap.size
 lo:W0.heap.size+2<=SB
 rb:w.heap[W0.heap.size]?=some (.cells #[.slice no l.length nc] 52)
 res:w.heap[W0.heap.size+1]?=some (.cells dx 108)
 sb:w.heap[SB]?=some (.cells #[.slice so ws.length sc] 53)
 ob:w.heap[SB+2]?=some (.cells #[.slice (some ⟨SB+1,0,none⟩) ws.length ws.length] 232)
 words:bN w W0.heap.size (.slice so ws.length sc) ws
 wlt:∀g,(Value.slice so ws.length sc).ownBlock=some g->g<SB
 of_:∀i x,ws[i]?=some x->w.rangeAt (SB+1) (i*16) (setRow (ofN l x k))/\w.there (SB+1) (i*16) 16
 last:w.rangeAt (SB+3) 0 (setRow q)/\w.there (SB+3) 0 16
def Ia{w w':World}{b o n}(c:w.there b o n)(a:w'.heap[b]?=w.heap[b]?):w'.there b o n:=fun j f=>by obtain⟨d,e⟩:=c j f;exact⟨by rw[ej a];exact d,by rw[ug a];exact e⟩
section
variable{W0 w wq:World} {l:List ax} {ws:List Bytes} {no so:Option Addr} {nc SB sc k q:Nat}
def jo.O(a:jo W0 l ws no nc SB so sc k q w)(b:Below w.heap.size w wq):jo W0 l ws no nc SB so sc k q wq:=by
 have e:=a.size;exact⟨a.base.Z (b.zz a.base.size),aW e b.size,a.lo,(b.J _ (aI a.rb)).Z a.rb,(b.J _ (aI a.res)).Z a.res,(b.J _ (aI a.sb)).Z a.sb,(b.J _ (aI a.ob)).Z a.ob,aX a.words (fun g d=>b.J g (aV a.words d).2),a.wlt,
  fun i x c=>⟨jA (a.of_ i x c).1 b,kr (a.of_ i x c).2 b⟩,⟨jA a.last.1 b,kr a.last.2 b⟩⟩
def jo.skip(a:jo W0 l ws no nc SB so sc k q w){n:ax}(b:l[k]?=some n)(d:n.op≠2):jo W0 l ws no nc SB so sc (k+1) q w:=
 ⟨a.base,a.size,a.lo,a.rb,a.res,a.sb,a.ob,a.words,a.wlt,fun i x f=>by
   have e:ofN l x (k+1)=ofN l x k:=by simp only[ofN,b];exact ap (fun c=>d c.1)
   rw[e];exact a.of_ i x f,a.last⟩
def jo.setOf(a:jo W0 l ws no nc SB so sc k q w)(o:jV ws){i:Nat}{n:ax}(m:l[k]?=some n)(u:n.op=2)(h:ws[i]?=some n.sym)(b:gV w wq (SB+1) (i*16) (setRow (ofN l n.sym k|||dS [k]))):
 jo W0 l ws no nc SB so sc (k+1) q wq:=by
 have v:=a.size;have s:=a.lo;refine⟨b.O a.base ad,b.size▸v,s,(b.J _ ad).Z a.rb,(b.J _ ad).Z a.res,(b.J _ ad).Z a.sb,(b.J _ ad).Z a.ob,
  aX a.words (fun g p=>b.J g (aQ (a.wlt g p))),a.wlt,fun j x d=> ?_,qi a.last.1 (b.J _ ad),Ia a.last.2 (b.J _ ad)⟩
 refine⟨?_,b.there (a.of_ j x d).2⟩;by_cases r:j=i;subst r;rw[h]at d;cases d
 have e:ofN l n.sym (k+1)=ofN l n.sym k|||dS [k]:=by simp only[ofN,m];exact au ⟨u,trivial⟩
 rw[e];exact b.zn;have t:n.sym≠x:=by
  rcases kF j i with f|f
  exact(vt o f d h).2.zy;exact(vt o (by omega) h d).2
 have e:ofN l x (k+1)=ofN l x k:=by simp only[ofN,m];exact ap (fun c=>t c.2)
 rw[e];refine b.range (a.of_ j x d).1 (.inr ?_);rw[kV,kV];rcases kF j i with f|f
 left;omega;right;omega
def jo.setLast(a:jo W0 l ws no nc SB so sc k q w){d:Nat}(b:gV w wq (SB+3) 0 (setRow d)):jo W0 l ws no nc SB so sc k d wq:=by
 have h:=a.size;have f:=a.lo;exact⟨b.O a.base ad,b.size▸h,f,(b.J _ ad).Z a.rb,(b.J _ ad).Z a.res,(b.J _ ad).Z a.sb,(b.J _ ad).Z a.ob,
  aX a.words (fun g e=>b.J g (aQ (a.wlt g e))),a.wlt,fun j x c=>⟨qi (a.of_ j x c).1 (b.J _ ad),Ia (a.of_ j x c).2 (b.J _ ad)⟩,b.zn,b.there a.last.2⟩
end
def Ib{P ops o a w K Q E}(e:o.guard=none) ty x y(f:o.op=.store ty x y)
 b off cs(i:a.eval x=.pointer (some ⟨b,off,none⟩))(j:a.eval y=.agg cs)
 (g:w.there b off cs) (l:(P.info? ty).map (·.size)=cs.length) (d:∀v∈cs,v.oneCell'=true)
 (c:∀w',gV w w' b off cs->K (a.put o.dst undef) w'):if Region.wanted o (yielded ops a.tmps)=true then Oper.wp P o a w K Q else E:=by
 have h:Region.wanted o (yielded ops a.tmps)=true:=by simp[Region.wanted,e]
 rw[au h];exact wp_store_mid ty x y f b off _ i j (by omega) (by omega) (all_oneCell_toArray d) (c _ (by simpa using Bb g))
def Ic(w:World) k:lp (cT w #[.int .i64 (k:Nat)] 3) w 1 [k]:=by
 refine⟨rfl,ay _,by unfold maxLen;simp,fun _=>⟨_,_,rfl,aj,fun j u a=> ?_⟩⟩;obtain rfl:=by have:=(aF.1 a).1;simp[fB]at this;omega
 rw[ak _ (aN w _)];exact a
def Id(l:List ax)(ws:List Bytes)(w:World)(e:Ending)(w':World):Prop:=
 aR w w'/\
 ((∃n keys a d nv c b,fR (true,0) 256 (cD l ws) n=some (keys,a)/\keys=n/\e=.returned (.tuple #[.agg #[d,nv,c],.int .i64 0])/\bN w' w d ws/\w'.ownsRow w 41 1 nv b.length b/\b=a.length/\
    (∀(j:Nat) v r,b[j]?=some v->a[j]?=some r->bW w' w v r)/\w'.ownsRow w 4 1 c keys (keys.map fun s=>.bool (finM l s)))∨
  (∃n keys a k,fR (true,0) 256 (cD l ws) n=some (keys,a)/\keys[n]?=some k/\eu 256 keys (cD l ws k)=none/\e=.returned (.tuple #[.agg dx,.int .i64 17])))
def Sl:(prog.info? 233).map (fun i=>(i.zero,i.size,i.bytes))=some (some (.agg (setRow 0)),16,128):=az
def Ie l:(dN l)<=l.length:=by rw[<-xn];exact C5 l
def yM l:(symsS l)<=l.length:=by unfold symsS;split;apply aW (Ie _);rw[Ku];exact xq l;simp
def Cb ws:(unionB ws)<=ws.length:=by unfold unionB;apply aW (Ie _);rw[Ku];simp
def Sm{w w4 l ws no so nc sc M1}(K:aR w w4)(N:w+2<=w4.heap.size)
 (C:kq w4 w #[.slice no l.length nc] 52) (D:kq w4 (w+1) dx 108)
 (m:bN w4 w (.slice so ws.length sc) ws) (J:M1=madeCells (setRow 0) (ws*16)):
 jo w l ws no nc w4 so sc 0 0 (cT (((w4.alloc (.cells #[.slice so ws sc] 53)).alloc (.cells M1 233)).alloc (.cells #[.slice (some ⟨w4+1,0,none⟩) ws ws] 232)) fe 233):=by
 obtain⟨B,d⟩:=am (w4.alloc (.cells #[.slice so ws sc] 53));obtain⟨o,e⟩:=am (B.alloc (.cells M1 233));obtain⟨wc,f⟩:=am (o.alloc (.cells #[.slice (some ⟨w4+1,0,none⟩) ws ws] 232));obtain⟨b,h⟩:=am (wc.alloc (.cells fe 233));rw[<-d,<-e,<-f,<-h];have y:=fH d;have z:o=w4.heap.size+2:=by rw[e,bP,y]
 have A:wc=w4.heap.size+3:=by rw[f,bP,z]
 have P:b=w4.heap.size+4:=by rw[h,bP,A]
 have E:=kj d;have F:=kj e;have G:=kj f;have r:=kj h;have q:=aE G r;have p:=aE F q;have c:=aE E p;have H:b.heap[w4.heap.size]?=some (.cells #[.slice so ws.length sc] 53):=(p.J _ ad).Z (by rw[d];exact aN w4 _);have s:b.heap[w4.heap.size+1]?=some (.cells M1 233):=(q.J _ ad).Z (by have:=aN B (.cells M1 233);rw[y]at this;rw[e];exact this);have I:b.heap[w4.heap.size+2]?=some (.cells #[.slice (some ⟨w4.heap.size+1,0,none⟩) ws.length ws.length] 232):=(r.J _ ad).Z (by have:=aN o (.cells #[.slice (some ⟨w4+1,0,none⟩) ws ws] 232);rw[z]at this;rw[f];exact this);have t:b.heap[w4.heap.size+3]?=some (.cells (setRow 0).toArray 233):=by have:=aN wc (.cells fe 233);rw[A]at this;rw[h];exact this
 refine⟨aE K c,ad,N,(c.J _ (aI C)).Z C,(c.J _ (aI D)).Z D,H,I,aX m (fun g n=>c.J g (aV m n).2),fun g n=>(aV m n).2,fun i x O=> ?_,?_,?_⟩;have M:=(aF.1 O).1;have u:∀j,j<16->b.cell? ⟨w4.heap.size+1,i*16+j,none⟩=(setRow 0)[j]?:=fun j a=>by rw[ak _ s,J];have:=pZ (setRow 0) M (by rw[kV];exact a);rwa[kV]at this
 refine⟨fun j v hv=> ?_,fun j a=>⟨?_,aJ s _⟩⟩;have a:=(aF.1 hv).1;rw[kV]at a;exact(u j a).Z hv;rw[u j a,cV (by rw[kV];exact a)];rfl;intro j v hv;rw[cH,ak _ t];rw[iU];exact hv;exact oO t (by rw[kV];simp)
def Sn(w:World)(l:List ax)(ws:List Bytes)(no:Option Addr)(nc SB:Nat)(so:Option Addr)(sc:Nat)(a:Value)(wr:World):Prop:=∃k,a=.int .i64 (k:Nat)/\k<=l/\jo w l ws no nc SB so sc k (fj l k) wr
def So{w wr l ws no so nc SB sc q}(m:jo w l ws no nc SB so sc l q wr)(n:Gl w)(o:dv w no nc l):
 fJ l ws no nc w (wr+1) SB (SB+2) (SB+1) wr so sc (cT (wr.alloc (.map #[] 0)) #[.map wr] 237) (cT (wr.alloc (.map #[] 0)) #[.map wr] 237)/\
 jo w l ws no nc SB so sc l q (cT (wr.alloc (.map #[] 0)) #[.map wr] 237):=by
 obtain⟨e,b⟩:=am (wr.alloc (.map #[] 0));obtain⟨g,d⟩:=am (e.alloc (.cells #[.map wr] 237));rw[<-b,<-d];have s:=fH b;have h:=kj b;have c:=kj d;have j:g.heap[wr.heap.size]?=some (.map #[] 0):=(c.J _ ad).Z (by rw[b];exact aN wr _);have i:g.heap[wr.heap.size+1]?=some (.cells #[.map (some wr.heap.size)] 237):=by rw[<-s,d];exact aN e _
 have p:bV e prog 3 wr 0 (fun _=>none):=by rw[b];exact bV.made wr _ _
 have a:=m.O (aE h c);have f:=a.base;refine⟨⟨⟨n.O f,o.O f,a.rb,i,a.sb,a.ob,fun k x r=>(a.of_ k x r).1,⟨_,_,j⟩⟩,⟨rfl,rfl,rfl,ay _,fun _ _ _=>rfl⟩,⟨0,_,p.of_block (c.J _ ad),aH _,fun q v hv=>by cases hv⟩⟩,a⟩
def Sp l no nc w(z:Gl w)(o:bK l=0)(Y:l.length<=60)(p:dv w no nc l):
 dB 81 #[.agg #[.slice no l nc],.slice none 0 0] w (Id l (unionB (symsS l)) w):=by
 have u:=th o;have⟨w1,d⟩:=am ((w.alloc (.cells #[.slice no l nc] 52)).alloc (.cells dx 108));have f:aR w w1:=by rw[d];exact aP.alloc aj _
 have y:w1.heap[w.heap.size]?=some (.cells #[.slice no l.length nc] 52):=by rw[d];exact(br _ _ _ aj).Z (aN w _)
 have B:w1.heap[w.heap.size+1]?=some (.cells dx 108):=by rw[d];have:=aN (cT w #[.slice no l nc] 52) (.cells dx 108);rwa[bP]at this
 have A:w1=w.heap.size+2:=by rw[d];simp
 have a0:=ak 0 y;have q:=xm l no nc w1 (p.O f) u;rw[o]at q;have⟨C,D,h,m,G,an,cN,F,ag⟩:=BV q f y B A p z u o;clear q f y B A p z u
 go_in
 go_wp2_with(first
  |(rw[<-d];clear d)
  |fail)
 refine ar C.o ?_;intro d f;have z:=(f.J _ (aI h.out)).Z h.out;have d0:=ak 0 z;have E:=aE D.out f;have⟨q,u,A⟩:=bm E z ((f.J _ (aI m.out)).Z m.out);have J:Hid (w+2<=d.heap.size):=ah (jO f.size G.out);clear f z a0 C h m E
 go_wp2
 go_loopw [29] (fun D wr=>D=.int .i64 0/\wr=d) (fun _ _=>0)
 case atStart=>simp
 case round=>
 obtain⟨rfl,h⟩:=hrel;rw[h];clear h wr;have h:=xr l no nc d (an.o.O q.out) F.o;have m:=ah h;clear h;go_wp2_with fail
 apply m.o.zz;rintro e F ⟨⟨v,rfl,d⟩,p⟩;obtain⟨o,h,rfl⟩:=bs d;have C:=Qr _ o h F (pC d).2 (aW (yM l) ad);have⟨o,h⟩:=aC C p;clear C p d m;go_wp2_with fail
 apply o.o.zz;rintro e p ⟨⟨v,rfl,d⟩,m⟩;clear o;obtain⟨ws,o⟩:=am (unionB (symsS l));have I:ws.length<=60:=by rw[o];exact aW (Cb _) (aW (yM l) Y)
 rw[<-o]at d⊢;obtain⟨so,sc,rfl⟩:=bs d;have F:=ah (aE (aE q.out h.out) m);have H:Hid (w.heap.size+2<=p.heap.size):=ah (by have:=m.size;have:=h.out.size;have:=J.out;omega);have⟨G,aw,J,K⟩:=dE (eR d (aW q.out.size h.out.size)) o (((aE h.out m).J _ (aI u.out)).Z u.out) (((aE h.out m).J _ (aI A.out)).Z A.out);clear m d o u A h d0;have⟨aa,C,d⟩:∃i,prog.info? 233=some i/\i.zero=some (.agg (setRow 0))/\i.size=16/\i.bytes=128:=by obtain⟨i,o,Z⟩:=qH.1 Sl;simp only[ww]at Z;exact⟨i,o,Z.1,Z.2.1,Z.2.2⟩
 have⟨A,h⟩:=am (madeCells (setRow 0) (ws*16));have M:∀m,(Instr.makeSlice 232 (.int .i64 (ws.length:Int)) (.int .i64 (ws.length:Int))).run prog m=.ok (.slice (some ⟨m.heap.size,0,none⟩) ws.length ws.length) (m.alloc (.cells A 233)):=fun m=>by have:=sj (P:=prog) m 232 233 aa (.agg (setRow 0).toArray) underlying232 C d.1 .i64 .i64 ws.length ws.length ad ad (by rw[d.2.2];omega) ad;simp only[nH,d.2.1]at this;rw[this,h];rfl
 have u:=ah h;clear h C d;have q:=ah (Sm F.out H.out J.out K.out G.o u.o);have⟨h,d⟩:=am (((((p.alloc (.cells #[.slice so ws sc] 53)).alloc (.cells A 233)).alloc (.cells #[.slice (some ⟨p+1,0,none⟩) ws ws] 232)).alloc (.cells fe 233)));rw[<-d]at q;have ba:=ak 0 q.o.rb;go_wp2_with(first
  |(rw[<-d];clear d)
  |fail)
 generalize p.heap.size=SB at q⊢;clear u M J K G H F ba;go_loopw [48] (Sn w l ws no nc SB so sc) (fun D _=>l-(intOf D).toNat)
 case atStart=>exact⟨0,rfl,aH _,q.o⟩
 case round=>
 clear q;obtain⟨k,rfl,A,d⟩:=hrel;have cd:(k:Int)<l∨¬((k:Int)<l):=ad;by_cases K:k<l
 ·have h:=aL k
  have dl:=bk K;clear cd;have⟨n,h⟩:=aT K;have D:=aK h;obtain⟨b,ds,rfl,cc,F,y,z,G⟩:=(an.o.O d.base).at h;obtain⟨bw,sym,a,f⟩:=n;simp only at F y z G;have⟨m,a3,p,u⟩:=dy wr (.cells #[bw,sym,a,f] 104);have⟨M,B⟩:=ku u;have al:=ah (d.O p);have J:=ak 0 al.o.sb;have⟨f,H⟩:=aC D h;have a0:=ak 0 d.rb;clear D h d p u;by_cases u:bw=2
  ·subst u
   have p:sym∈ws:=by rw[aw.o];exact tA.2 ((rL ag.o).2 ⟨_,f.o,rfl,rfl⟩)
   have⟨i,o⟩:=mU p;have D:=(aF.1 o).1;have f:=aL i;have C:(i:Int)<ws:=ad;have f:jV ws:=by rw[aw.o];exact vr _
   have⟨C,c3,a9⟩:=bm (R9 ws so sc i sym m (pC al.o.words).2 f o ad) f o;clear p o f D;go_wp2_with(first
    |(rw[<-a3];clear a3)
    |fail)
   refine ar C.o ?_;intro p T;clear C F y z G M B J a0;have z:=ah (al.o.O T);clear T;go_wp2_with fail
   obtain⟨M,f⟩:=am (ofN l sym k);have C:∀w',Below p.heap.size p w'->w'.cell? ⟨SB+2,0,none⟩=some (.slice (some ⟨SB+1,0,none⟩) ws.length ws.length)/\w'.rangeAt (SB+1) (i*16) (setRow M):=fun w' o=>⟨ak 0 ((o.J _ (aI z.o.ob)).Z z.o.ob),by rw[f];exact jA (z.o.of_ i _ a9.o).1 o⟩;have bE:Hid (M<18446744073709551616):=ah (by rw[f];exact nt l sym k ad);have⟨bB,y⟩:=aC f C;have m:=C _ (aA _ p).drew;clear C f;refine tF (S:=(fun w'=>w'.cell? ⟨SB+2,0,none⟩=some (.slice (some ⟨SB+1,0,none⟩) ws.length ws.length)/\w'.rangeAt (SB+1) (i*16) (setRow M))) (last:=11) az ?_;refine cj (i:=0) rfl m ?_;refine cj (i:=1) rfl m ?_;refine cj (i:=2) rfl m ?_;refine cj (i:=3) rfl m ?_;refine cj (i:=4) rfl m ?_;refine HZ (i:=5) rfl (uk (by rfl) _ _ rfl _ _ rfl _ _ (fun _ f=>f.2) l4 rfl kx) m ?_;simp only[Act.put,cK,ct];refine cj (i:=6) rfl m ?_;refine gy (i:=7) az rfl (fun B d=> ?_);go_simp;have D:aR p (cT p.drew #[.int .i64 k] 3):=(aA _ p).drew.alloc (ay _) _;have R:=y.o _ D;have⟨a7,G⟩:=aC D (vh _ _ 1 _ (Ic p.drew k) aj (fun x h=>by simp at h;omega));clear D;refine d.out _ _ (fun _=>R) (fun _=> ?_);try simp only[Act.put,cK,cR,ct]
   refine gy (i:=8) az rfl (fun B d=> ?_);go_simp;refine ar G.o ?_;intro af V;have J:=aE a7.o V;have b9:=y.o _ J;have⟨O,F⟩:=aC J (yx M (dS [k]) af bE.o (vu (fun x h=>by simp at h;omega)));clear V J G;refine d.out _ _ (fun _=>b9) (fun _=> ?_);try simp only[Act.put,cK,cR,ct]
   refine gy (i:=9) az rfl (fun B d=> ?_);go_simp;refine ar F.o ?_;intro N W;have J:=aE O.out W;have bc:=y.o _ J;have X:=ah (z.o.O J);clear W J F;refine d.out _ _ (fun _=>bc) (fun _=> ?_);try simp only[Act.put,cK,cR,ct]
   refine cj (i:=10) rfl bc ?_;refine gy (i:=11) az rfl (fun B d=> ?_);refine Ib (by rfl) 233 _ _ rfl (SB+1) (i*16) (setRow (M|||dS [k])) (by rfl) (by rfl) (by rw[kV];exact(X.o.of_ i _ a9.o).2) (by rw[kV];rfl) (uX _) (fun O M=> ?_);refine d.out _ _ (fun f=>absurd rfl f) (fun _=> ?_);try simp only[Act.put,cK,ct]
   refine ql az ?_ _;have Q:=ah (X.o.setOf c3.o H.o rfl a9.o (by rw[<-bB.o];exact M));clear m R b9 bc M y X z bE bB;have av:=ah (Qe l _ nc k O K ag.o Y (an.o.O Q.o.base));have X:=ak 0 Q.o.rb;go_wp2_with fail
   refine ar av.o ?_;intro z b6;clear av X;have X:=ah (Q.o.O b6);clear b6 Q;rcases cb:(eH (trN l (l-1))).testBit k with _|_
   ·go_wp2_with fail
    go_roundw
    case rel=>exact⟨k+1,aD,ad,by rw[show fj l (k+1)=fj l k by simp only[fj,H.o];exact ap (fun c=>by rw[cb]at c;cases c.2)];exact X.o⟩
    case measure=>exact aM
   ·go_wp2_with fail
    obtain⟨Q,a1⟩:=am (fj l k);have C:∀w',Below z.heap.size z w'->w'.rangeAt (SB+3) 0 (setRow Q):=fun w' o=>by rw[a1];exact jA X.o.last.1 o
    have bZ:Hid (Q<18446744073709551616):=ah (by rw[a1];exact vx l k ad);have⟨bF,y⟩:=aC a1 C;have m:=C _ (aA _ z).drew;clear C a1;refine tF (S:=(fun w'=>w'.rangeAt (SB+3) 0 (setRow Q))) (last:=5) az ?_;refine HZ (i:=0) rfl (uk (by rfl) _ _ rfl _ _ rfl _ _ (fun _ f=>f) l4 rfl kx) m ?_;simp only[Act.put,cK,ct];refine cj (i:=1) rfl m ?_;refine gy (i:=2) az rfl (fun B d=> ?_);go_simp;have D:Below z.heap.size z (z.drew.alloc (.cells #[.int .i64 (k:Nat)] 3)):=(aA _ z).drew.alloc (ay _) _;have R:=y.o _ D;have⟨a7,G⟩:=aC D (vh _ _ 1 _ (Ic z.drew k) aj (fun x h=>by simp at h;omega));clear D;refine d.out _ _ (fun _=>R) (fun _=> ?_);try simp only[Act.put,cK,cR,ct]
    refine gy (i:=3) az rfl (fun B d=> ?_);go_simp;refine ar G.o ?_;intro dz C;have z:=aE a7.o C;have D:=y.o _ z;have⟨cx,F⟩:=aC z (yx Q (dS [k]) dz bZ.o (vu (fun x h=>by simp at h;omega)));clear C z G;refine d.out _ _ (fun _=>D) (fun _=> ?_);try simp only[Act.put,cK,cR,ct]
    refine gy (i:=4) az rfl (fun B d=> ?_);go_simp;refine ar F.o ?_;intro z C;have E:=aE cx.out C;have G:=y.o _ E;have z:=ah (X.o.O E);clear C E F;refine d.out _ _ (fun _=>G) (fun _=> ?_);try simp only[Act.put,cK,cR,ct]
    refine gy (i:=5) az rfl (fun B d=> ?_);refine Ib (by rfl) 233 _ _ rfl (SB+3) 0 (setRow (Q|||dS [k])) (by rfl) (by rfl) (by rw[kV];exact z.o.last.2) (by rw[kV];rfl) (uX _) (fun E B=> ?_);refine d.out _ _ (fun f=>absurd rfl f) (fun _=> ?_);try simp only[Act.put,cK,ct]
    refine ql az ?_ _;have C:Hid (jo w l ws (some ⟨b,ds,none⟩) nc SB so sc (k+1) (fj l (k+1)) E):=ah (by rw[show fj l (k+1)=fj l k|||dS [k] by simp only[fj,H.o];exact au ⟨trivial,cb⟩];rw[<-bF.o];exact z.o.setLast B);clear m R D G B y z X bZ bF
    go_wp2
    go_roundw
    case rel=>exact⟨_,aD,ad,C.o⟩
    case measure=>exact aM
  ·have m:(bw==2)=false:=by rw[dF];exact u
   go_wp2_with(first
    |(rw[<-a3];clear a3)
    |fail)
   go_roundw
   case rel=>exact⟨k+1,aD,ad,by rw[show fj l (k+1)=fj l k by simp only[fj,H.o];exact ap (fun c=>u c.1)];exact al.o.skip H.o u⟩
   case measure=>exact aM
 ·obtain rfl:k=l:=ad
  clear cd;have a0:=ak 0 d.rb;have q:=ah d;clear d;have⟨F,d⟩:=am ((wr.alloc (.map #[] 0)).alloc (.cells #[.map wr] 237));have m:=So q.o cN.o an.o;rw[<-d]at m;obtain⟨z,D⟩:=m;have⟨cO,m⟩:=aC z D;have y:= @pq prog;have dq:=qd;have E:=RZ F wr.heap.size (fJ l ws no nc w.heap.size (wr.heap.size+1) SB (SB+2) (SB+1) wr.heap.size so sc F) (mx l) (cD l ws) (true,0) (.pointer (some ⟨w.heap.size,0,none⟩)) (.pointer (some ⟨wr.heap.size+1,0,none⟩)) (.pointer (some ⟨SB,0,none⟩)) (.pointer (some ⟨SB+2,0,none⟩)) (by rw[d];simp;omega) z (fun _ _ f b=>f.O b) (fun _ f=>f.1)
   (fun s w' bg f _=>Sd l ws no nc w.heap.size (wr.heap.size+1) SB (SB+2) (SB+1) wr.heap.size so sc ag.o Y ad s bg F w' f) (yK l) (fun s _ t y=>Sa Y y) (fun s=>by unfold cD;rw[bn];omega)
  have B:=ah E;have C:=ah q.o.base.size;have c9:=ah q.o.size;clear z D E q;go_wp2_with(first
   |(rw[<-d];clear d)
   |fail)
  generalize wr.heap.size=d at*;apply B.o.zz;rintro e wt ⟨⟨d,f⟩,D⟩;clear B;have z:Below w.heap.size w wt:=m.o.base.zu d m.o.base.size (fun k A=>by injection A with A;rw[<-A];exact C.out);have B:=f.cells m.o.res;have dr:=aW (aW m.o.lo (aQ m.o.size)) d.size;have⟨q,Q,R⟩:=bm f z B;clear d f z B C;rcases D with⟨n,keys,E,f,nv,c8,B,y,K,ci,rfl,⟨b8,b7,rfl⟩,C,a2,cl,bo⟩|⟨n,keys,E,k,y,A,hv,rfl⟩
  ·have bl:=rK ad _ _ y
   have dl:0<keys.length:=(aF.1 bl.first).1;have dm:keys.length<=256:=bl.most;obtain⟨a5,a4,rfl⟩:∃a5 a4,f=.slice (some ⟨a5,0,none⟩) keys a4:=by
    rcases C.2 with⟨I,X⟩|⟨g,cap,f,hv,_⟩
    omega;exact⟨g,cap,hv⟩
   obtain⟨H,G,rfl⟩:=bs a2;have f:=m.o.size;have dn:=m.o.lo;have dc:=aW (ay _) q.o.zu.size;have ch:wt.rangeAt (SB+3) 0 (setRow (fj l l.length)):=qi m.o.last.1 (q.o.zu.J (SB+3) ad (by have:=c9.out;simp;omega));have bq:bN wt w.heap.size (.slice so ws.length sc) ws:=aX m.o.words (fun g d=>by obtain⟨cs,f⟩:=nk m.o.words d;exact(q.o.cells f).Z f.zy)
   have o:=q.o.E;have⟨z,D,f,d5⟩:=dy wt (.cells #[.slice a5 keys a4,.slice H B G,.slice b8 keys b7] 246);have cu:=(f.J _ (aI (q.o.cells m.o.rb))).Z (q.o.cells m.o.rb);have ba:=ak 0 cu;have⟨bb,bd⟩:=am ((factN l (l-1)).empty);have bf:=Qc l no nc z ag.o Y (o.O f);rw[<-bd]at bf;have⟨b4,cP,ea,Y⟩:=dE bf bd f d5;have b1:=ah ((f.J _ (aI (q.o.cells m.o.sb))).Z (q.o.cells m.o.sb));have⟨av,b5,b3,c1⟩:=dE (jA ch f) (aX bq (fun g d=>f.J g (aV bq d).2)) (aX C (fun g d=>f.J g (aV C d).2)) (aX a2 (fun g d=>f.J g (aV a2 d).2));have c7:Hid (∀j v r,B[j]?=some v->E[j]?=some r->bW z (F+3) v r):=ah (fun j v r I X=>aX (bo j v r I X) (fun g d=>f.J g (aV (bo j v r I X) d).2));have⟨b0,bA⟩:=aC ((f.J _ (aI R.o)).Z R.o) (Q.o.Z (f.zz (aQ dr)));have ao:Hid (SB+4<=z.heap.size/\w.heap.size+2<=SB/\F.heap.size<=z.heap.size):=ah ⟨by have:=f.size;omega,dn,by have:=f.size;omega⟩;have⟨c2,c5,c6,c0⟩:=dE ci y cl K;clear bf bd f d5 cu ch bq o C a2 bo ci y cl K m cO q Q R dc bl;go_wp2_with(first
    |(rw[<-D];clear D)
    |fail)
   refine ar b4.o ?_;intro p T;clear b4 ba;obtain⟨af,co,V,K⟩:=dy p (.cells #[bb] 4);have C:=aE T V;have d7:=(C.J _ (aI Y.o)).Z Y.o;have cv:=(C.J _ (aI b1.o)).Z b1.o;have⟨Y,ab,ae⟩:=dP d7;have du:=ak 0 cv;have dq:=qd;have cg:=aX b3.o (fun g d=>C.J g (aV b3.o d).2);have cp:=aX b5.o (fun g d=>C.J g (aV b5.o d).2);have eb:=C.size;have ca:=Sk ws so sc keys a5 a4 (F.heap.size+3) keys.length b7 B.length b8 H G (finM l) (.pointer (some ⟨p.heap.size,0,none⟩)) (.pointer (some ⟨SB+1+1+1,0,none⟩)) af (pC cp).2 ad cg dm
    (fun w'=>w'.heap[p.heap.size]?=some (.cells #[.bool bb] 4)/\w'.rangeAt (SB+3) 0 (setRow (fj l l.length))/\SB+3<w'.heap.size/\af.heap.size<=w'.heap.size)
    (fun u1 u2 ⟨aa,bt,bu,cq⟩ p=>by have Z:Below u1.heap.size u1 u2->True:=fun _=>trivial;exact⟨(p.J _ (aQ (aI K))).Z aa,qi bt (p.J _ (aQ ao.o)),eU bu p.size,aW cq p.size⟩)
    ⟨K,jA av.o C,by have:=ao.o;omega,ay _⟩
    (fun s w' bg ⟨aa,bt,bu,cq⟩ _=>by
      have p:=Sf s bb _ _ _ w' (c2.o s bg).1 (vx l _ ad) aa bt bu;rwa[cP.o]at p
                                                                       )
   have⟨b2,a6⟩:=aC ca C;clear ca C T V K d7 cv cg cp;go_wp2_with(first
    |(rw[<-co];clear co)
    |fail)
   apply b2.o.zz;rintro e N ⟨⟨p,c8,rfl,bi,be⟩,W⟩;obtain⟨V,T,rfl⟩:=bs bi;obtain⟨K,C,rfl⟩:=bs be;have Z:=a6.out.Z (W.zz a6.out.size);have p:=(Z.J _ (aI b0.o)).Z b0.o;have J:=bA.o.Z (Z.zz bA.o.size);have⟨d0,d1,d2⟩:=dP p;have f0:=aJ p 0;have f1:=aJ p 1;have f2:=aJ p 2;have⟨bz,cL,cG,c4,cS⟩:=iz p J Z bi be;clear bi be W Z p J Y ab ae du b2;go_wp2_with fail
   have p:(((N.setCell ⟨w.heap.size+1,0,none⟩ (.slice V ws.length T)).setCell ⟨w.heap.size+1,1,none⟩ (.slice H B.length G)).setCell ⟨w.heap.size+1,2,none⟩ (.slice K keys.length C)).heap[w.heap.size+1]?=some (.cells #[.slice V ws.length T,.slice H B.length G,.slice K keys.length C] 108):=
    a8 _ _ 2 _ (a8 _ _ 1 _ (a8 _ _ 0 _ bz.out))
   have⟨O,M⟩:=am ((((N.setCell ⟨w+1,0,none⟩ (.slice V ws T)).setCell ⟨w+1,1,none⟩ (.slice H B G)).setCell ⟨w+1,2,none⟩ (.slice K keys C)));have J:Below w.heap.size w O:=by rw[M];exact((cL.o.setCell aj _).setCell aj _).setCell aj _
   have cc:∀b,b≠w.heap.size+1->O.heap[b]?=N.heap[b]?:=fun b o=>by rw[M,aU _ _ _ _ _ o,aU _ _ _ _ _ o,aU _ _ _ _ _ o]
   have h:∀{o e size n:Nat} {v:Value} {xs:List Value},e≠108->N.ownsRow o e size v n xs->O.ownsRow o e size v n xs:=fun Z u=>aX u (fun g d=>cc g (fun W=>iP u bz.out Z (by rw[d,W])));have W:∀{o e size n:Nat} {v:Value} {xs:List Value},z.ownsRow o e size v n xs->N.ownsRow o e size v n xs:=fun u=>aX u (fun g d=>cG.out.J g (aV u d).2);have d:w.heap.size<=F.heap.size+3/\w.heap.size<=af.heap.size:=⟨by have:=ao.o;omega,by have:=ao.o;have:=a6.out.size;omega⟩;rw[<-M]at p⊢;have⟨Y,ab,ae⟩:=dP p;have o:Id l ws w (.returned (.tuple #[.agg #[.slice V ws.length T,.slice H B.length G,.slice K keys.length C],.int .i64 0])) O:=
    ⟨J,.inl ⟨n,keys,E,_,_,_,B,c5.o,c0.o,rfl,eR (h aq c4.o) d.2,eR (h aq (W c1.o)) d.1,c6.o,fun j v r I X=>eR (h aq (W (c7.o j v r I X))) d.1,eR (h aq cS.o) d.2⟩⟩
   exact cQ (v:=.tuple #[.agg #[.slice V ws.length T,.slice H B.length G,.slice K keys.length C],.int .i64 0]) (by simp[results,go_sem,Y,ab,ae]) rfl (by rw[<-aw.o];exact o)
  ·have h:Hid (∃n keys E k,fR (true,0) 256 (cD l ws) n=some (keys,E)/\keys[n]?=some k/\eu 256 keys (cD l ws k)=none):=ah ⟨n,keys,E,k,y,A,hv⟩
   clear y A hv q m;have⟨z,D⟩:=am (wt.alloc (.cells dx 246));have d:z.heap[w.heap.size+1]?=some (.cells dx 108):=by rw[D];exact(br _ _ _ ad).Z R.o
   have f:Below w.heap.size w z:=by rw[D];exact Q.o.alloc Q.o.size _
   have⟨d0,d1,d2⟩:=dP d;have f0:=aJ d 0;have f1:=aJ d 1;have f2:=aJ d 2;have⟨o,m⟩:=aC d f;rw[D]at d0 d1 d2 f0 f1 f2;have q:=ah D;have u:wt≠w.heap.size+1:=ad;clear d f R Q D;go_wp2_with fail
   rw[<-q.o];have p:(((z.setCell ⟨w.heap.size+1,0,none⟩ (.slice none 0 0)).setCell ⟨w.heap.size+1,1,none⟩ (.slice none 0 0)).setCell ⟨w.heap.size+1,2,none⟩ (.slice none 0 0)).heap[w.heap.size+1]?=some (.cells dx 108):=
    a8 _ _ 2 _ (a8 _ _ 1 _ (a8 _ _ 0 _ o.o))
   have J:Below w.heap.size w (((z.setCell ⟨w.heap.size+1,0,none⟩ (.slice none 0 0)).setCell ⟨w.heap.size+1,1,none⟩ (.slice none 0 0)).setCell ⟨w.heap.size+1,2,none⟩ (.slice none 0 0)):=((m.o.setCell aj _).setCell aj _).setCell aj _;have⟨Y,ab,ae⟩:=dP p;have⟨n,keys,E,k,y,A,hv⟩:=h.o;exact cQ (v:=.tuple #[.agg dx,.int .i64 17]) (by simp[results,go_sem,Y,ab,ae]) rfl (by rw[<-aw.o];exact⟨J,.inr ⟨n,keys,E,k,y,A,hv,rfl⟩⟩)
def ff:Bool×Bool:=(false,false)
def vA(ts:List aB)(hv:List Bool)(a:List (Bool×Bool))(n:ax):Bool×Bool:=
 if n.op=1 then(true,false)
 else if n.op=2 then(hv.getD (kidOf ts n.sym) false,hv.getD (kidOf ts n.sym) false)
 else if n.op=3 then((a.getD n.a.toNat ff).1&&(a.getD n.b.toNat ff).1,(a.getD n.a.toNat ff).1&&(a.getD n.b.toNat ff).1&&((a.getD n.a.toNat ff).2||(a.getD n.b.toNat ff).2))
 else if n.op=4 then((a.getD n.a.toNat ff).1||(a.getD n.b.toNat ff).1,(a.getD n.a.toNat ff).2||(a.getD n.b.toNat ff).2)
 else if n.op=5 then(true,(a.getD n.a.toNat ff).2)
 else ff
def factsU(ts:List aB)(hv:List Bool)(l:List ax):List (Bool×Bool):=l.foldl (fun a n=>a++[vA ts hv a n]) []
def my(ts:List aB)(hv:List Bool)(t:aB):Bool×Bool:=if t.text then(true,false)else(factsU ts hv t.E).getD (t.E-1) ff
def Cc ts hv{l:List ax}{k n}(a:l[k]?=some n):factsU ts hv (l.take (k+1))=factsU ts hv (l.take k)++[vA ts hv (factsU ts hv (l.take k)) n]:=by rw[bH,a];simp[factsU]
def tI ts hv l:(factsU ts hv l)=l.length:=by
 have:∀(l:List ax) (a:List (Bool×Bool)),(l.foldl (fun a n=>a++[vA ts hv a n]) a).length=a.length+l.length:=by
  intro l;induction l with
  |nil=>intro a;rfl
  |cons n l ih=>intro a;rw[oA,ih];simp;omega
 rw[factsU,this];simp
def If(a:Bool×Bool):List Value:=[.bool a.1,.bool a.2]
def mA(L:List (Bool×Bool)):List Value:=L.flatMap If
def Sq(L:List _):(mA L)=L.length*2:=by
 induction L with
 |nil=>rfl
 |cons a L ih=>simp[mA,If]at ih⊢;omega
def Cd{L:List _}{i a}(b:L[i]?=some a):(mA L)[i*2]?=some (.bool a.1)/\(mA L)[i*2+1]?=some (.bool a.2):=
 ⟨(oC 2 (fun _=>rfl) b 0 ad).Z rfl,(oC 2 (fun _=>rfl) b 1 ad).Z rfl⟩
def Sr(L:List _) i a:mA (L.set i a)=((mA L).set (i*2) (.bool a.1)).set (i*2+1) (.bool a.2):=by
 induction L generalizing i with
 |nil=>simp[mA]
 |cons x L ih=>
  cases i with
  |zero=>rfl
  |succ i=>
   rw[ct,show mA (x::L.set i a)=.bool x.1::.bool x.2::mA (L.set i a)from rfl,show mA (x::L)=.bool x.1::.bool x.2::mA L from rfl,ih,show(i+1)*2=i*2+1+1 by omega];rfl
def jE(w:World)(F n:Nat)(a:List (Bool×Bool)):Prop:=a<=n/\kq w F (mA (a++List.replicate (n-a) ff)) 166
def Ss:(prog.info? 166).map (fun i=>(i.zero,i.size,i.bytes))=some (some (.agg #[false,false]),2,2):=az
def Su{w F n}(g:kq w F (madeCells #[false,false] (n*2)) 166):jE w F n []:=by
 refine⟨aH _,g.Z ?_⟩;congr 2
 apply lW;apply zQ;intro j;by_cases h:j<n*2;have e:j=j/2*2+j % 2:=ad;have d:j/2<n:=ad;have b:=pZ [Value.bool false,Value.bool false] (j:=j % 2) d aO;have f:=Cd (L:=List.replicate n ff) (i:=j/2) (a:=ff) (by simp[d]);simp only[ef,gN,cH]at b;simp only[qE,gN,Nat.sub_zero];rw[<-Array.getElem?_toList]at b;rw[e];rw[show 1+1=2 from rfl]at b;apply b.Z;rcases Nat.mod_two_eq_zero_or_one j with c|c
 rw[c];exact f.1.zy;rw[c];exact f.2.zy;rw[jL,jL];simp[Sq];omega;simp[size_madeCells];omega
def jE.at{w:World}{F n j:Nat}{b:List (Bool×Bool)}{a:Bool×Bool}(c:jE w F n b)(d:b[j]?=some a):w.cell? ⟨F,j*2,none⟩=some (.bool a.1)/\w.cell? ⟨F,j*2+1,none⟩=some (.bool a.2):=by have e:=(aF.1 d).1;have:=Cd (L:=b++List.replicate (n-b) ff) (by rw[eC e];exact d);exact⟨(ak _ c.2).Z (by simpa using this.1),(ak _ c.2).Z (by simpa using this.2)⟩
def jE.rest{w:World}{F n:Nat}{b:List (Bool×Bool)}(c:jE w F n b)(d:b.length<n):w.cell? ⟨F,b.length*2,none⟩=some (.bool false)/\w.cell? ⟨F,b.length*2+1,none⟩=some (.bool false):=by have:=Cd (L:=b++List.replicate (n-b.length) ff) (i:=b.length) (a:=ff) (by rw[gp (ay _),qy,nD,au ad]);exact⟨(ak _ c.2).Z (iU▸this.1),(ak _ c.2).Z (iU▸this.2)⟩
def jE.free{w:World}{F n:Nat}{a:List (Bool×Bool)}(b:jE w F n a)(j:Nat):w.frozen? ⟨F,j,none⟩=false:=aJ b.2 j
def jE.skip{w:World}{F n:Nat}{a:List (Bool×Bool)}(b:jE w F n a)(c:a.length<n):jE w F n (a++[ff]):=by refine⟨aO,b.2.Z ?_⟩;rw[show n-a=(n-(a++[ff]).length)+1 by simp;omega,um];simp
def jE.put{w:World}{F n k:Nat}{c:List (Bool×Bool)}(d:jE w F n c)(g:c.length<n)(f:k=c.length)(a b:Bool):
 jE ((w.setCell ⟨F,k*2,none⟩ (.bool a)).setCell ⟨F,k*2+1,none⟩ (.bool b)) F n (c++[(a,b)]):=by
 subst f;refine⟨aO,(a8 _ _ _ _ (a8 _ _ _ _ d.2)).Z ?_⟩;congr 2
 apply lW;rw[wU,wU];have e:c++[(a,b)]++List.replicate (n-(c++[(a,b)]).length) ff=(c++List.replicate (n-c.length) ff).set c.length (a,b):=by rw[show n-c=(n-(c++[(a,b)]).length)+1 by simp;omega,um,DG _ _ (ay _)];simp
 rw[e,Sr]
def jE.O{w w':World}{F n:Nat}{b:List (Bool×Bool)}(a:jE w F n b)(c:Below w.heap.size w w'):jE w' F n b:=⟨a.1,(c.J _ (aI a.2)).Z a.2⟩
def yN{w M ts b}(a:fA w M ts)(f:b.length<=1048576):
 (Instr.lookup 72 (.map M) (.string ⟨b.toArray⟩) false).run prog w=.ok (.int .i64 (kidOf ts b)) w:=by
 obtain⟨D,n,d,i,g⟩:=a;obtain⟨c,h,e,_⟩:=g.lookup_int (om iI) lT ei (sD _) (qS b f);have:=d.at0 b;rw[e]at this;injection this with this
 injection this with _ this
 rw[h,this];rfl
def yO{ts x}(d:bY ts=0)(f:x∈ts){b}(e:b∈symsS x.E):kidOf ts b<ts:=by
 have:=(uR d).placed x f b e;unfold kidOf;cases a:placeS ts b with
 |none=>rw[a]at this;cases this
 |some c=>exact sF a
def Ig(w:World)(o:Option Addr)(cap:Nat)(l:List Bool):Prop:=cn w o l cap 1 (l.map Value.bool)
structure lO(ts:List aB)(hv:List Bool)(x:ai)(F:Nat)(w:World)(k:Nat)(wr:World):Prop where
 base:Below w.heap.size w wr
 size:w.heap.size<=F
 box:wr.heap[w.heap.size]?=some (.cells (typeRow x).toArray 55)
 zj:jE wr F x.t.E.length (factsU ts hv (x.t.E.take k))
 ne:F≠w.heap.size
section
variable{ts:List aB} {hv:List Bool} {x:ai} {F:Nat} {w:World} {k:Nat} {wr wz:World}
def lO.O(a:lO ts hv x F w k wr)(b:Below wr.heap.size wr wz):lO ts hv x F w k wz:=⟨aE a.base b,a.size,(b.J _ (aI a.box)).Z a.box,a.zj.O b,a.ne⟩
def lO.put(c:lO ts hv x F w k wr)(f:k<x.t.E.length)(a b:Bool)(d:factsU ts hv (x.t.E.take (k+1))=factsU ts hv (x.t.E.take k)++[(a,b)]):lO ts hv x F w (k+1) ((wr.setCell ⟨F,k*2,none⟩ (.bool a)).setCell ⟨F,k*2+1,none⟩ (.bool b)):=by
 have e:(factsU ts hv (x.t.E.take k)).length=k:=by rw[tI,eh];omega
 exact⟨(c.base.setCell c.size _).setCell c.size _,c.size,(aU _ _ _ _ _ c.ne.zy).Z ((aU _ _ _ _ _ c.ne.zy).Z c.box),d▸c.zj.put ad e.zy a b,c.ne⟩
def lO.skip(a:lO ts hv x F w k wr)(c:k<x.t.E.length)(b:factsU ts hv (x.t.E.take (k+1))=factsU ts hv (x.t.E.take k)++[ff]):lO ts hv x F w (k+1) wr:=by
 have d:(factsU ts hv (x.t.E.take k))=k:=by rw[tI,eh];omega
 exact⟨a.base,a.size,a.box,b▸a.zj.skip ad,a.ne⟩
def lO.at(a:lO ts hv x F w k wr){j:Nat}(b:j<k)(c:k<=x.t.E.length):wr.cell? ⟨F,j*2,none⟩=some (.bool ((factsU ts hv (x.t.E.take k)).getD j ff).1)/\wr.cell? ⟨F,j*2+1,none⟩=some (.bool ((factsU ts hv (x.t.E.take k)).getD j ff).2):=by
 have d:(factsU ts hv (x.t.E.take k)).length=k:=by rw[tI,eh];omega
 exact a.zj.at (by rw[cB,cV ad];rfl)
end
def rN(ts:List aB)(hv:List Bool)(x:ai)(F:Nat)(w:World)(a:Value)(wr:World):Prop:=∃k,a=.int .i64 (k:Nat)/\k<=x.t.E/\lO ts hv x F w k wr
end Go.Proofs.YtfeidcmojcijpaaGreatDoor
