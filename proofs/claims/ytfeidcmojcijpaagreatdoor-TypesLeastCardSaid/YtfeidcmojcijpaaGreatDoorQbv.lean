import Derived.Test.YtfeidcmojcijpaaGreatDoorQbp
import Derived.Test.YtfeidcmojcijpaaGreatDoorQbt
set_option linter.all false
set_option maxRecDepth 100000
set_option maxHeartbeats 0
namespace Go.Proofs.YtfeidcmojcijpaaGreatDoor
open Go.RowKit Tryz
section
open Wey
def CN(a:Tr)(w:World)(e:Ending)(w':World):Prop:=(∃r,e=.returned (cA a r)/\jr w' w a r)/\aR w w'
def JY{w wr nm}{av:List _}{ks rs avo kvo avc kvc n m}{cs:Array Value}(g:n=av.length)(f:m=ks.length)(d:ie (w.heap.size+1) nm av (.slice avo av avc) ks rs (.slice kvo ks kvc) wr)(h:wr.heap[w.heap.size]?=some (.cells cs 36 (0,0)))(e:cs=ik)(c:aR w wr):
 ∃a,a=(((wr.setCell w nm).setCell ⟨w,1,none⟩ (.string ⟨#[]⟩)).setCell ⟨w,2,none⟩ (.slice avo n avc)).setCell ⟨w,3,none⟩ (.slice kvo m kvc)/\
  a.heap[w.heap.size]?=some (.cells #[nm,.string ⟨#[]⟩,.slice avo n avc,.slice kvo m kvc] 36 (0,0))/\jr a w (.mk nm [] av ks) ⟨avo,avc,kvo,kvc⟩/\aR w a:=by
 subst e;subst g;subst f;refine⟨_,rfl,a8 _ _ 3 _ (a8 _ _ 2 _ (a8 _ _ 1 _ (a8 _ _ 0 _ h))),?_,(((c.setCell (ay _) _).setCell (ay _) _).setCell (ay _) _).setCell (ay _) _⟩;exact(d.done.keep aj fun b c _=>by rw[aU _ _ _ _ _ ad,aU _ _ _ _ _ ad,aU _ _ _ _ _ ad,aU _ _ _ _ _ ad]).low ad
def Vi(l:List ai)(o:Option Addr)(cap:Nat)(i3:l.length<=64)(f:Nat->List Bytes)(N:List Nat)(no:Option Addr)(a4 k:Nat)(x:ai)(a1:l[k]?=some x)(ib:x.t.zx.length<=1048576)(jc:(f k).length<100)
 (e9:∀n∈f k,fi (l.map ai.t) n=(kidOf (l.map ai.t) n:Nat)) (fo:x.t.text=true->f k=[])
 (e4:x.t.text=false->∀w,cw w o cap l->gX w no a4 N->Calls prog 32 #[.slice o l.length cap,.int .i64 (k:Nat),.slice no N.length a4] w fun e w'=>(∃r:BR,e=.returned r.val/\k9 w.heap.size r w'/\r.ws=f k)/\Below w.heap.size w w')
 (us:List Tr) (fq:us.length=(f k).length)
 (ih:∀(i:Nat) (n:Bytes) (U:Tr),(f k)[i]?=some n->us[i]?=some U->∀w,cw w o cap l->gX w no a4 N->
   Calls prog 13 #[.slice o l.length cap,.int .i64 (kidOf (l.map ai.t) n:Nat),.slice no N.length a4] w (CN U w))
 (w:World) (T:cw w o cap l) (eZ:gX w no a4 N):
 Calls prog 13 #[.slice o l.length cap,.int .i64 (k:Nat),.slice no N.length a4] w (CN (.mk x.t.zv [] (x.t.zx.map fun a=>(a,[])) (us.mapIdx fun i u=>ew x.t.key (Lib.decDigits i) u)) w):=by
 have i2:=(aF.1 a1).1;have iw:(k:Int)<l.length:=ad;have iv:=aL k;obtain⟨b0,bf⟩:=am ((w.alloc (.cells ik 36)).alloc (.cells #[.string ⟨x.t.zv.toArray⟩,.string ⟨#[]⟩,.slice none 0 0,.slice none 0 0] 36));have ex:Below w.heap.size w b0:=by rw[bf];exact aP.alloc aj _
 have bc:b0.heap[w.heap.size]?=some (.cells ik 36):=by rw[bf];exact(br _ _ _ aj).Z (aN w _)
 have t4:b0.heap[w.heap.size+1]?=some (.cells #[.string ⟨x.t.zv.toArray⟩,.string ⟨#[]⟩,.slice none 0 0,.slice none 0 0] 36):=by rw[bf];have:=aN (w.alloc (.cells ik 36)) (.cells #[.string ⟨x.t.zv.toArray⟩,.string ⟨#[]⟩,.slice none 0 0,.slice none 0 0] 36);rwa[bP]at this
 obtain⟨b,E,rfl,c0,hM,hN,b9,fv,fx,hO⟩:=T.at a1;have c9:cI w x.ao x.ac x.t.zx:=(T.2 x (aK a1)).1;have e2:∀d,Below w.heap.size w d->d.cell? ⟨b,E+k*6+2,none⟩=some (.slice x.ao x.t.zx.length x.ac)/\d.cell? ⟨b,E+k*6+3,none⟩=some (.string ⟨x.t.key.toArray⟩)/\d.cell? ⟨b,E+k*6+4,none⟩=some (.bool x.t.text):=fun d c=>
  ⟨(c.cell (p:=⟨b,E+k*6+2,none⟩) c0).Z b9,(c.cell (p:=⟨b,E+k*6+3,none⟩) c0).Z fv,(c.cell (p:=⟨b,E+k*6+4,none⟩) c0).Z fx⟩
 obtain⟨em,dz,el,fz,du,ga,es,fP,fN,cs⟩:=jB e2 T eZ ex bc t4 c9 e4 ih fq;obtain⟨fS,fT⟩:=aC e9 fo;have ho:=c9.2.2.1;unfold maxLen at ho;clear T eZ ex bc t4 c9 e4 ih fq e9 fo e2 b9 fv fx;go_enter func13,ntmps13
 go_wp2_with(first|(rw[<-bf];clear bf)|fail)
 clear hM hN hO;go_loopw [8] (fun D wr=>∃(j:Nat) (et:Value),D=.int .i64 j/\j<=x.t.zx.length/\ie (w.heap.size+1) x.t.zv ((x.t.zx.take j).map fun a=>(a,[])) et [] [] (.slice none 0 0) wr/\Below (w.heap.size+1) b0 wr) (fun D _=>x.t.zx.length-(intOf D).toNat)
 case atStart=>exact⟨0,_,rfl,aH _,ie.start ga.out,aA _ _⟩
 case round=>
  obtain⟨j,et,rfl,io,B,al⟩:=hrel;have W:Below w.heap.size w wr:=fz.out.Z (al.zz ad);obtain⟨ca,ds,cb⟩:=em.o wr W;by_cases ao:j<x.t.zx.length
  ·have g8:=bC ao
   have g9:=od ao;have iu:=bk ao;have is:=aL j;obtain⟨a,V⟩:=aT ao;have C:∀{q:Nat} {hz:Nat},x.ao=some ⟨q,hz,none⟩->q<w.heap.size:=fun e=>by
    obtain⟨j4,j5,bb,h4,_⟩:=es.o.at V;rw[e]at bb;injection bb with bb
    injection bb with bb
    omega
   obtain⟨g,Q,R,e7,fy⟩:=(es.o.O W).at V;have C:=C R;rw[R]at ca;obtain⟨hy,e8,hr,hs,ht⟩:=cZ FO;obtain⟨G,F,rfl⟩:=bs B.aown;have bg:((x.t.zx.take j).map fun a=>(a,([]:Bytes))).length=j:=aO;have bo:((x.t.zx.take (j+1)).map fun a=>(a,([]:Bytes)))=((x.t.zx.take j).map fun a=>(a,([]:Bytes)))++[(a,[])]:=by rw[bH,V];simp
   have ab:=ak 2 B.box;have s:=ah B;have g3:=B.aown;generalize((x.t.zx.take j).map fun a=>(a,([]:Bytes)))=av at*;obtain⟨ci,fF⟩:=aC bo bg;have ia:av.length<=1048576:=ad;have j1:=B.size;have j2:=aI du.out;have co:Hid (∀d,Below wr.heap.size wr d->d.cell? ⟨w.heap.size+1,2,none⟩=some (.slice G av.length F)/\d.cell? ⟨b,E+k*6+2,none⟩=some (.slice (some ⟨g,Q,none⟩) x.t.zx.length x.ac)/\d.cell? ⟨g,Q+j,none⟩=some (.string ⟨a.toArray⟩)):=ah fun d c=>by have hq:=(c.J _ s.o.size).Z s.o.box;exact⟨ak 2 hq,(c.cell (p:=⟨b,E+k*6+2,none⟩) (by show b<_;omega)).Z ca,(c.cell (p:=⟨g,Q+j,none⟩) e7).Z fy⟩
   have cp:Hid (∀u a7:World,Below wr.heap.size wr u->u.grownBy a7 (Value.slice G av.length F).ownBlock->(a7.cell? ⟨w.heap.size+1,2,none⟩=some (.slice G av.length F)/\a7.cell? ⟨b,E+k*6+2,none⟩=some (.slice (some ⟨g,Q,none⟩) x.t.zx.length x.ac)/\a7.cell? ⟨g,Q+j,none⟩=some (.string ⟨a.toArray⟩))/\a7.frozen? ⟨w.heap.size+1,2,none⟩=false):=ah fun u a7 c J=>by
    have c4:∀cc,cc<=w.heap.size+1->some cc≠(Value.slice G av.length F).ownBlock:=fun cc h6 e=>by have:=(aY s.o.aown _ e.zy).1;omega
    have a1:=(J.J (w.heap.size+1) (aQ c.size) (c4 _ (ay _))).Z ((c.J _ s.o.size).Z s.o.box);obtain⟨_,gs,gv⟩:=co.o u c;have hh:=c.size;exact⟨⟨ak 2 a1,(J.cell_far ⟨b,E+k*6+2,none⟩ (by show b<_;omega) (c4 b (by omega))).Z gs,(J.cell_far ⟨g,Q+j,none⟩ (by show g<_;omega) (c4 g (by omega))).Z gv⟩,aJ a1 2⟩
   clear B V bo bg ds cb ab fy;go_wp2_with fail
   clear ca;refine tF (S:=fun d=>d.cell? ⟨w.heap.size+1,2,none⟩=some (.slice G av.length F)/\d.cell? ⟨b,E+k*6+2,none⟩=some (.slice (some ⟨g,Q,none⟩) x.t.zx.length x.ac)/\d.cell? ⟨g,Q+j,none⟩=some (.string ⟨a.toArray⟩)) (last:=14) az ?_;have t:=co.o wr.drew (aA _ wr).drew;(refine cj (i:=0) rfl t ?_;refine cj (i:=1) rfl t ?_;refine cj (i:=2) rfl t ?_;refine cj (i:=3) rfl t ?_;refine cj (i:=4) rfl t ?_;refine cj (i:=5) rfl t ?_;refine cj (i:=6) rfl t ?_;refine cj (i:=7) rfl t ?_;refine cj (i:=8) rfl t ?_;refine cj (i:=9) rfl t ?_;refine cj (i:=10) rfl t ?_)
   have bi:Below wr.heap.size wr (wr.alloc (.cells #[.string ⟨a.toArray⟩,.string ⟨#[]⟩] 59)):=aP;refine gy (i:=11) az rfl (fun hS eB=> ?_);go_simp;refine eB.out _ _ (fun _=>co.o _ bi.drew) (fun _=> ?_);try simp only[Act.put,cK,cR,ct]
   refine gy (i:=12) az rfl (fun hT eD=> ?_);refine nG _ (by rfl) _ _ _ (by rfl) (w.heap.size+1+1) 59 hy _ 2 32 underlying33 e8 hr hs ht rfl aq (.slice G av.length F) av.length (av.flatMap kL) (by rfl) (dp g3 _).drew ⟨wr.heap.size,0,none⟩ 1 1 [.string ⟨a.toArray⟩,.string ⟨#[]⟩] (by rfl) (by rfl) (by exact eq wr [.string ⟨a.toArray⟩,.string ⟨#[]⟩] _ _ rfl) (fun z bt=>by simp at bt;rcases bt with rfl|rfl<;>rfl) aq bO ad aO _ rfl ?_;intro b2 gc fs c5 A b3 i5;obtain⟨t,h2⟩:=cp.o _ _ bi.drew A;refine eD.out _ _ (fun _=>t) (fun _=> ?_);try simp only[Act.put,cK,cR,ct]
   (refine cj (i:=13) rfl t ?_)
   refine gy (i:=14) az rfl (fun hU eE=> ?_);go_simp;refine eE.out _ _ (fun T=>absurd rfl T) (fun _=> ?_);refine ql az ?_ _;try simp only[Exit.then]
   clear eB eD eE
   go_wp2
   go_roundw
   case rel=>
    refine⟨j+1,.slice (some ⟨b2,0,none⟩) (av.length+1) gc,aD,ad,?_,?_⟩;rw[ci.o];exact(s.o.keep bi.drew.size (fun b _ c=>bi.drew.J b c)).addAttr (a:=(a,[])) A c5;exact((((al.alloc ad _).drew).zu A aO (fun q e=>by have:=(aY s.o.aown q e).1;omega))).setCell (by show w.heap.size+1<=w.heap.size+1;omega) _
   case measure=>exact aM
  ·have g8:=bG ao
   have g9:=mH ao;rw[bI ad]at B;obtain⟨G,F,rfl⟩:=bs B.aown;have h:=(al.J _ ad).Z du.out;obtain⟨s,hR,ae⟩:=bm B al h;cases a0:x.t.text with
   |true=>
    rw[a0]at cb;have hm:us=[]:=by
     have:=cs.o;rw[fT.o a0]at this;cases us with
     |nil=>rfl
     |cons u us=>simp at this
    subst hm;have a5:=ak 0 s.o.box;have a6:=ak 1 s.o.box;have ab:=ak 2 s.o.box;have bu:=ak 3 s.o.box;obtain⟨hA,hB,hC,hD⟩:=dC h;have f0:=aJ h 0;have f1:=aJ h 1;have f2:=aJ h 2;have f3:=aJ h 3;have cg:=ah W;clear B al h a0 W;go_wp2_with fail
    obtain⟨hJ,c8,cx,cL,cS⟩:=JY (n:=x.t.zx.length) (m:=0) aj rfl s.o ae.o rfl cg.o;rw[<-c8];obtain⟨a5,a6,ab,bu⟩:=dC cx;exact cQ (v:=cA (.mk x.t.zv [] (x.t.zx.map fun a=>(a,[])) []) ⟨G,F,none,0⟩) (by simp[results,results13,go_sem,a5,a6,ab,bu,sw,cA,Tr.zv,Tr.text,Tr.zx,Tr.zs]) rfl ⟨⟨_,rfl,cL⟩,cS⟩
   |false=>
    rw[a0]at cb;have e5:=fP.o a0 wr (dz.o.O W) (cn.O el.o W);obtain⟨en,cg⟩:=aC e5 W;clear B al h a0 e5 W ds;go_wp2_with fail
    refine en.o.zz ?_;rintro e fs ⟨⟨r,rfl,b6,fl⟩,cO⟩;obtain⟨hG,hH,j7,j6⟩:=r;simp only at fl;subst fl;obtain⟨dn,dm,hv⟩:=bs (n:=(f k).length) b6.own;simp only at hv;subst hv;unfold BR.val;obtain⟨ba,e0,cu,dq⟩:=dy fs (.cells #[.bool hG,.int .i64 (hH:Nat),.slice dn (f k).length dm] 85);have ag:=aE cO cu;have fc:bN ba wr.heap.size (.slice dn (f k).length dm) (f k):=aX b6.own (fun g J=>cu.J g (aY b6.own g J).2);obtain⟨fL,ea,er,cl,gf⟩:=iz (s.o.keep ag.size (fun b _ c=>ag.J b c)) (aE cg.o ag) ((ag.J _ (aI ae.o)).Z ae.o) fc dq;have jp:=ag.size;have ji:=cO.size;have h8:w.heap.size+1<wr.heap.size:=s.o.size;have hi:=aI dq;clear cu dq ag fc b6 cO en cb ca ae s;go_wp2_with(first|(rw[<-e0];clear e0)|fail)
    obtain⟨hL,hp⟩:=am wr;subst hp;go_loopw [10] (fun D wr=>∃(i:Nat) (rs:List KA) (dl:Value),D=.int .i64 i/\i<=(f k).length/\ie (w.heap.size+1) x.t.zv (x.t.zx.map fun a=>(a,[])) (.slice G (x.t.zx.map fun a=>(a,([]:Bytes))).length F) ((us.take i).mapIdx fun i u=>ew x.t.key (Lib.decDigits i) u) rs dl wr/\ba.grownBy wr (some (w.heap.size+1))/\(∀q,dl.ownBlock=some q->ba.heap.size<=q)) (fun D _=>(f k).length-(intOf D).toNat)
    case atStart=>exact⟨0,[],.slice none 0 0,rfl,aH _,by simpa using fL.o,⟨rfl,rfl,rfl,ay _,fun _ _ _=>rfl⟩,fun q T=>by cases T⟩
    case round=>
     obtain⟨i,rs,dl,rfl,ic,H,C,c3⟩:=hrel;have dc:=(C.J _ hi (fun e=>by injection e with e;omega)).Z gf.out;have an:Below w.heap.size w wr:=ea.o.zu C ea.o.size (fun q e=>by injection e with e;omega);have c6:bN wr hL.heap.size (.slice dn (f k).length dm) (f k):=aX cl.o (fun g J=>C.J g (aY cl.o g J).2 (fun e=>by injection e with e;have:=(aY cl.o g J).1;omega));have h:=(C.J _ (aI er.o) (fun e=>by injection e with e;omega)).Z er.o;have b9:=ak 2 dc;by_cases hf:i<(f k).length
     ·have g5:decide ((i:Int)<((f k).length:Int))=true:=bT
      have g7:decide (i<(f k).length)=true:=bT;have ii:(i:Int)<((f k).length:Int):=ad;have e8:=aL i;obtain⟨b7,b5⟩:=aT hf;obtain⟨U,cN⟩:=df us i (aQ cs.o);obtain⟨hE,hI,rfl,jd,fg⟩:=(dY c6).2.2.2 ad;have gl:wr.cell? ⟨hE,hI+i,none⟩=some (.string ⟨b7.toArray⟩):=fg i _ (by rw[bR,b5];rfl);have c7:=dz.o.O an;have c2:=A2 l _ cap wr c7 ad b7;rw[fS.o b7 (aK b5)]at c2;have e6:=fN.o i b7 U b5 cN wr c7 (cn.O el.o an);obtain⟨ec,eb,Z,ed,eg,cq,a9⟩:=td c2 e6 H C c3 cN an;have j0:=C.size;clear c2 e6 H C c3 cN an c7 h c6 b5 fg dc;go_wp2_with fail
      refine ar ec.o ?_;rintro d rfl;go_wp2_with fail
      refine eb.o.zz ?_;rintro e fu ⟨⟨r,rfl,cG⟩,cP⟩;clear gl b9 eb ec;obtain⟨bB,bE,y,bA⟩:=U;obtain⟨Y,M,bz,bw⟩:=r;unfold cA;simp only[Tr.zv,Tr.text,Tr.zx,Tr.zs];obtain⟨gb,e1,b1,dr⟩:=dy fu (.cells (fZ bB bE Y y M bz bA bw) 36);have bZ:Hid (∀q,(Value.slice Y y.length M).ownBlock=some q->wr<=q/\q<fu):=ah fun q K=>aY cG.1 q K;have⟨fO,O,gg⟩:=bm (cG.keep b1.size (fun b _ c=>b1.J b c)) (aE cP b1) dr;have js:=cP.size;have hj:=aI dr;clear b1 dr cG cP;go_wp2_with(first|(rw[<-e1];clear e1)|fail)
      obtain⟨b8,rfl⟩:=am wr;go_loopw [12] (fun D d=>∃m:Nat,D=.int .i64 m/\m<=y/\jr d b8 (.mk bB bE (iH x.t.key (Lib.decDigits i) m y) bA) ⟨Y,M,bz,bw⟩/\gb.grownBy d (Value.slice Y y M).ownBlock) (fun D _=>y-(intOf D).toNat)
      case atStart=>exact⟨0,rfl,aH _,JR▸fO.o,⟨rfl,rfl,rfl,ay _,fun _ _ _=>rfl⟩⟩
      case round=>
       obtain⟨m,rfl,i7,I,X⟩:=hrel;have bq:=(X.J _ hj (fun e=>by have:=(bZ.o _ e.zy).2;omega)).Z gg.out;have c1:Below w.heap.size w wr:=(aE a9.o O.o).zu X (jO a9.o.size O.o.size) (fun q e=>by have:=(bZ.o q e).1;have:=a9.o.size;omega);have j3:=ak 2 bq;by_cases aw:m<y
       ·have ha:=bC aw
        have hb:=od aw;have jb:=bk aw;have i9:=aL m;have⟨a,V⟩:=aT aw;have⟨g,h0,gn,h7,e7,_⟩:=yY I.1 (by show 0<(iH _ _ _ _).length;rw[zn];omega);injection gn with cv _ bc
        simp only at cv bc;subst cv;subst bc;have⟨h3,Q,R,_,hP,hQ⟩:=pA (dY I.1) (zo V);injection R with R
        injection R with R gr _
        subst R;subst gr;rw[cH]at hP hQ;have⟨_,ds,_⟩:=em.o wr c1;have⟨h1,g4⟩:=JT I.1;have kc:=aJ g4 (m*2+1);have hc:i<100:=ad;have hl:y.length<=maxLen:=by have bd:(iH x.t.key (Lib.decDigits i) m y)<=M:=(dY I.1).2.1;have h5:M<=maxLen:=(dY I.1).2.2.1;rw[zn]at bd;omega
        unfold maxLen at hl;have⟨bF,aa,cd⟩:=bm I X V;clear I X V bq c1;by_cases b4:a.1=x.t.key
        ·obtain⟨hV,hW⟩:=a
         simp only at b4;subst b4
         go_wp2
         go_quiet(fail)
         go_wp2_with fail
         go_region_law (first
          |(refine vO (by rfl) 34 _ _ (fun _ _=>az) (by rfl) ?_;go_simp;refine ar (Ub i _ hc) ?_;rintro kb rfl;refine⟨_,rfl,?_⟩))
         all_goals(
          go_wp2_with fail
          refine⟨⟨m+1,aD,ad,?_,?_⟩,by simp[intOf];omega⟩;rw[zp cd.o,au rfl];have bl:=ee (aA wr.heap.size wr) (nq+1);exact(bF.o.keep bl.size (fun b _ c=>bl.J b c)).store (zo cd.o) rfl _;exact(aa.o.Z (bL (ee (aA _ wr) _) _)).Z (gi _ g _ _))
        ·have i1:(a.1==x.t.key)=false:=by simpa using b4
         go_wp2
         go_quiet(fail)
         go_wp2
         go_roundw
         case rel=>
          refine⟨m+1,aD,ad,?_,?_⟩;rw[zp cd.o,ap b4];have bl:=ee (aA wr.heap.size wr) nq;exact bF.o.keep bl.size (fun b _ c=>bl.J b c);exact aa.o.Z (bL (ee (aA _ wr) nq) _)
         case measure=>exact aM
       ·have ha:=bG aw
        have hb:=mH aw;have ey:m=y:=ad;rw[ey,JS]at I;have fb:∀q,q<b8.heap.size->some q≠(Value.slice Y y.length M).ownBlock:=fun q K e=>by have:=(bZ.o q e.zy).1;omega
        have jv:=X.size;have je:=O.o.size;have be:=Z.o.keep (w':=wr) ad (fun b bi e3=>(X.J b ad (fb b e3)).Z (O.o.J b e3));obtain⟨a3,a2,rfl⟩:=bs be.kown;have bo:((us.take (i+1)).mapIdx fun i u=>ew x.t.key (Lib.decDigits i) u)=((us.take i).mapIdx fun i u=>ew x.t.key (Lib.decDigits i) u)++[ew x.t.key (Lib.decDigits i) (.mk bB bE y bA)]:=by rw[bH,cq.o,List.mapIdx_append];have:=(aF.1 cq.o).1;simp[rX (DJ this)]
        have bg:((us.take i).mapIdx fun i u=>ew x.t.key (Lib.decDigits i) u).length=i:=by have:=(aF.1 cq.o).1;simp;omega
        have ek:Hid (∀q,(Value.slice a3 ((us.take i).mapIdx fun i u=>ew x.t.key (Lib.decDigits i) u) a2).ownBlock=some q->w+2<=q/\q<b8):=ah fun q K=>aY Z.o.kown q K;have fG:=ah fun q K=>(aY Z.o.aown q K).2;generalize((us.take i).mapIdx fun i u=>ew x.t.key (Lib.decDigits i) u)=ks at*;have he:=be.kown;have⟨ci,fF⟩:=aC bo bg;have iT:ks.length<=100:=ad;have⟨ch,bF,aa⟩:=bm be I X;have⟨it,hd,hu,hw,hx⟩:=cZ A5;have h9:=Z.o.size;have cp:Hid (∀u d:World,Below wr.heap.size wr u->u.grownBy d (Value.slice a3 ks.length a2).ownBlock->d.cell? ⟨w.heap.size+1,3,none⟩=some (.slice a3 ks.length a2)/\d.frozen? ⟨w.heap.size+1,3,none⟩=false):=ah fun u d c J=>by have hh:=c.size;have bd:=(J.J (w.heap.size+1) ad (fun e=>by have:=(ek.o _ e.zy).1;omega)).Z ((c.J _ ch.o.size).Z ch.o.box);exact⟨ak 3 bd,aJ bd 3⟩
        have cv:=ak 3 be.box;have⟨hX,hY⟩:=ku bq;have hZ:=ak 3 bq;clear I X bq ey be bo bg fb c1 Z;go_wp2_with(first
         |(at_builtin;go_must (apply kI _ rfl _ _ 34 rfl _ 36 it _ 4 80 KV hd hu hw hx rfl ad (.slice a3 ks a2) _ _ rfl (dp he _) _ 1 1 _ rfl rfl (eq wr _ _ _ rfl) (fun z bt=>by simp at bt;rcases bt with rfl|rfl|rfl|rfl<;>rfl) ad bO ad aO _ rfl);intro b2 gc fr c5 A b3 i4;obtain⟨a5,a6⟩:=cp.o _ _ aP A)
         |fail)
        go_roundw
        case rel=>
         obtain⟨hK,hn,P⟩:=fQ wr (.cells (fZ bB bE Y y M bz bA bw) 36);rw[<-hn]at A b3;have g1:=bF.o.keep P.size (fun b _ c=>P.J b c);have g0:=ch.o.keep P.size (fun b _ c=>P.J b c);have jy:=P.size;have hk:cE hK (fun b=>w.heap.size+1<b/\some b≠(Value.slice a3 ks.length a2).ownBlock/\some b≠(Value.slice G (x.t.zx.map fun a=>(a,([]:Bytes))).length F).ownBlock) (ew x.t.key (Lib.decDigits i) (.mk bB bE y bA)) ⟨Y,M,bz,bw⟩:=
          g1.tr.weak fun b _ c=>have c:b8.heap.size<=b:=c;⟨ad,fun e=>by have:=(ek.o _ e.zy).2;omega,fun e=>by have:=fG.o _ e.zy;omega⟩
         have gG:=g0.addKid hk A b3 (by simpa[oH,ew,Tr.zv,Tr.text,Tr.zx,Tr.zs]using c5);refine⟨i+1,rs++[⟨Y,M,bz,bw⟩],.slice (some ⟨b2,0,none⟩) (ks.length+1) gc,aD,ad,?_,?_,?_⟩;rw[ci.o];exact gG;have af:=ed.o;have i0:=bL O.o none;have g2:ba.grownBy fr (some (w.heap.size+1)):=⟨A.os.Z (P.os.Z (aa.o.os.Z (O.o.os.Z af.os))),A.tape.Z (P.tape.Z (aa.o.tape.Z (O.o.tape.Z af.tape))),A.output.Z (P.output.Z (aa.o.output.Z (O.o.output.Z af.output))),by have:=A.size;have:=af.size;omega,fun q K hg=>by have bd:=af.size;refine(A.J q ad (fun e=>by have:=eg.o _ e.zy;omega)).Z ((P.J q ad).Z ((aa.o.J q ad (fun e=>by have:=(bZ.o _ e.zy).1;omega)).Z ((O.o.J q ad).Z (af.J q K hg))))⟩
         exact g2.Z (gi fr _ 3 _);intro q K;cases K
         rcases b3 with ez|ez
         exact eg.o _ ez;have:=ed.o.size;show ba<=b2
         omega
        case measure=>exact aM
     have g5:decide (i<((f k):Int))=false:=bU;have g7:=bU;rw[bI (aQ cs.o)]at H;obtain⟨a3,a2,rfl⟩:=bs H.kown;have a5:=ak 0 H.box;have a6:=ak 1 H.box;have ab:=ak 2 H.box;have bu:=ak 3 H.box;have⟨hA,hB,hC,hD⟩:=dC h;have f0:=aJ h 0;have f1:=aJ h 1;have f2:=aJ h 2;have f3:=aJ h 3;have⟨Z,ae,a9⟩:=bm H h an;clear H C c3 an h c6 dc;go_wp2_with fail
     obtain⟨hJ,c8,cx,cL,cS⟩:=JY (n:=x.t.zx) (m:=us) aj aj Z.o ae.o rfl a9.o;rw[<-c8];obtain⟨a5,a6,ab,bu⟩:=dC cx;exact cQ (by simp[results,go_sem,a5,a6,ab,bu,cA,Tr.zv,Tr.text,Tr.zx,Tr.zs]) rfl ⟨⟨_,rfl,cL⟩,cS⟩
def Vj l o cap(B:l.length<=64) a N no nc(d:Nat->Prop)
 (v:∀k,d k->∃x,l[k]?=some x/\x.t.zx.length<=1048576/\(a k).length<100/\(∀n∈a k,fi (l.map ai.t) n=kidOf (l.map ai.t) n/\d (kidOf (l.map ai.t) n))/\(x.t.text=true->a k=[])/\
   (x.t.text=false->∀w,cw w o cap l->gX w no nc N->dB 32 #[.slice o l cap,.int .i64 k,.slice no N nc] w fun e w'=>(∃r,e=.returned r.val/\k9 w r w'/\r.ws=a k)/\aR w w'))
 {k} {T} (y:iE (l.map ai.t) a k T):d k->∀w,cw w o cap l->gX w no nc N->dB 13 #[.slice o l cap,.int .i64 k,.slice no N nc] w (CN T w):=by
 induction y with
 | @mk k t us b u C ih=>
   intro A w f g;obtain⟨x,j,m,p,h,q,s⟩:=v k A;obtain rfl:t=x.t:=by rw[bR,j]at b;injection b with b;exact b.zy
   exact Vi l o cap B a N no nc k x j m p (fun n c=>(h n c).1) q s us u (fun i n U c z w f g=>ih i n U c z (h n (aK c)).2 w f g) w f g
end
end Go.Proofs.YtfeidcmojcijpaaGreatDoor
