import Derived.Test.YtfeidcmojcijpaaGreatDoorQas
import Derived.Test.YtfeidcmojcijpaaGreatDoorQat
set_option linter.all false
set_option maxRecDepth 100000
set_option maxHeartbeats 0
namespace Go.Proofs.YtfeidcmojcijpaaGreatDoor
open Go.RowKit Tryz

def P0 l no nc F U p PB LB np ws x vo vc w(hF:eG l)(G:l.length<=60)(a:dv w no nc l)(r:lI w F U l)(u:l[p]?=some np)
 (v:kq w PB (zz_m3 no l nc F U) 216) (t:kq w LB #[.slice vo ws.length vc] 53)
 (h:cI w vo vc ws) (A:ws[ws.length-1]?=some x):
 cX 147 #[.int .i64 (p:Nat),PB,LB] w (.bool (np.sym==x&&(eH (trN l (l-1))).testBit p)):=by
 have bc:=(aF.1 u).1;have an:=(aF.1 A).1;have Y:=a.2.2.1;unfold maxLen at Y;have a9:=a.2.1;have aa:=h.2.2.1;unfold maxLen at aa;have Z:=h.2.1;obtain⟨b,f,rfl,E,av,B,aw,a0⟩:=a.at u;obtain⟨j,m,rfl,M,Q⟩:=h.at A;have I:=aI v;have H:=aI t;have bb:(p:Int)<l:=ad;have ba:=aL p;have al:ws-1<(ws:Int):=ad;have ab:(0:Int)<=ws-1:=ad;have ao:((ws:Int)-1).toNat=ws-1:=ad;have J:l-1<l.length:=ad;have ae:(1:Int)<=ws:=ad;have af:1<=ws.length:=ad;have z:0<ws.length:=ad;have ag:ws≠[]:=by intro e;rw[e]at z;simp at z
 have O:=r.zj _ J 18 _ rfl;have s:∀w',Below w.heap.size w w'->w'.cell? ⟨PB,0,none⟩=some (.slice (some ⟨b,f,none⟩) l.length nc)/\w'.cell? ⟨PB,1,none⟩=some (.slice (some ⟨F,0,none⟩) l.length l.length)/\w'.cell? ⟨PB,2,none⟩=some (.slice (some ⟨U,0,none⟩) l.length l.length)/\w'.cell? ⟨LB,0,none⟩=some (.slice (some ⟨j,m,none⟩) ws.length vc)/\w'.cell? ⟨b,f+p*4+1,none⟩=some (.string ⟨np.sym.toArray⟩)/\w'.cell? ⟨j,m+(ws.length-1),none⟩=some (encStr x):=fun w' c=>by have q:=(c.J _ I).Z v;have V:=(c.J _ H).Z t;exact⟨ak 0 q,ak 1 q,ak 2 q,ak 0 V,(c.cell E).Z B,(c.cell M).Z Q⟩
 have d:=ah s;have R:Hid (∀w',aR w w'->cX 142 #[.agg (zz_m3 (some ⟨b,f,none⟩) l nc F U)] w' (.pointer (some ⟨F,_,none⟩))):=fun w' c=>rG _ _ _ _ _ w' ad G;have C:Hid (∀w',aR w w'->de 148 #[.pointer (some ⟨F,_,none⟩),.int .i64 p] w' (.bool ((eH (trN l (l-1))).testBit p)) fun P=>P=w'):=fun w' c=>
  A7 F _ _ p w' ad (mi hF G J).2 ((c.cell r.lF).Z O)
 have⟨a2,a3,a4,S,T,o⟩:=s w (aA _ _);have a7:=(aA w w).drew;have⟨i,K⟩:=am np.sym;rw[<-K]at d B T⊢;unfold encStr at d o;have⟨a1,D⟩:=am ((eH (trN l (l-1))).testBit p);rw[<-D]at C⊢;clear s a r v t h av B aw a0 Q O D K u A M E I H;have⟨N,a⟩:∃N,ws.length=N+1:=⟨ws-1,ad⟩;rw[a]at d S o Z;simp only[Nat.add_sub_cancel]at d o;have a6:(N:Int)<N+1:=ad;have a5:=aL N;have bd:IntKind.i64.wrap N=N:=ox _ ad;clear a ae af z ag al ab ao an
 go_in
 by_cases g:i=x
 ·have y:(i==x)=true:=by simpa using g
  have n:=ah y;clear g;go_wp2_with fail
  go_region_held3(fun w'=>Below w.heap.size w w'/\w'.cell? ⟨PB,0,none⟩=some (.slice (some ⟨b,f,none⟩) l.length nc)/\w'.cell? ⟨PB,1,none⟩=some (.slice (some ⟨F,0,none⟩) l.length l.length)/\w'.cell? ⟨PB,2,none⟩=some (.slice (some ⟨U,0,none⟩) l.length l.length)/\w'.cell? ⟨LB,0,none⟩=some (.slice (some ⟨j,m,none⟩) (N+1) vc)/\w'.cell? ⟨b,f+p*4+1,none⟩=some (.string ⟨i.toArray⟩)/\w'.cell? ⟨j,m+N,none⟩=some (.string ⟨x.toArray⟩)) (first|exact⟨fX,d.o _ fX⟩)
   (first
     |(go_at_call 142;refine ar (R.o _ fX) ?_;intro P W;have X:=aE fX W)
     |(go_at_call 148;refine ar (C.o _ fX) ?_;rintro be rfl))
  go_wp2
  go_ret;exact⟨by rw[n.o];rfl,by first|exact X|assumption⟩
 ·have y:(i==x)=false:=by simpa using g
  have n:=ah y;clear g
  go_wp2
  go_quiet(fail)
  go_wp2
  go_ret;exact⟨by rw[n.o];rfl,ee (aA _ w) nq⟩
structure yv(w0 w:World)(PB LB F U:Nat)(no:Option Addr)(nc:Nat)(l:List ax)(vo:Option Addr)(vc n:Nat):Prop where
 base:Below w0.heap.size w0 w
 pb:w.heap[PB]?=some (.cells (zz_m3 no l nc F U) 216)
 lb:w.heap[LB]?=some (.cells #[.slice vo n vc] 53)
 plan:lI w F U l
def yv.O{h w i:World}{d c F U:Nat}{no:Option Addr}{e:Nat}{l:List ax}{g:Option Addr}{f n:Nat}(a:yv h w d c F U no e l g f n)(b:Below w.heap.size w i):yv h i d c F U no e l g f n:=
 ⟨a.base.Z (b.zz a.base.size),(b.J _ (aI a.pb)).Z a.pb,(b.J _ (aI a.lb)).Z a.lb,a.plan.O b⟩
def th{l}(b:bK l=0):∀n∈l,n.sym.length<=1048576:=by
 intro n d;obtain⟨i,h⟩:=qG.1 d;have a:=iA l 0 i n (iM b).1.ok h;by_cases f:n.op=2;unfold bK at b;split at b;omega;split at b;omega;split at b;omega;rename_i c;rw[jx]at c;have:bp n.sym=true:=by
  cases e:bp n.sym with
  |true=>rfl
  |false=>exact absurd ⟨n,d,by simp[f,e]⟩ c
 unfold bp at this;simp at this;omega;have g:n.sym=[]:=by unfold eA at a;split at a;simp at a;exact a.1.1;split at a;simp at a;exact a.1.1;split at a;simp at a;exact a.1.1;cases a
 rw[g];simp
def Qa:∀args a,(callFunc 147 args).run prog a=.ok (.enter 147 args) a:=fun _ _=>rfl
def Qb:Bq:=by
 intro l no c ws o n w bd s u ed h N cc;have hF:=(iM s).1;have bA:=(iM s).2;have bt:=(Gd hF u ws).2 cc;have ch:=h.2.2.1;unfold maxLen at ch;have ds:=h.2.1;have cp:=N.2.2.1;unfold maxLen at cp;have ec:=N.2.1;obtain⟨w1,y⟩:=am ((w.alloc (.cells #[.slice no l.length c] 52)).alloc (.cells #[.slice o ws.length n] 53));have T:Below w.heap.size w w1:=by rw[y];exact aP.alloc aj _
 have ek:w1.heap.size=w.heap.size+2:=by rw[y];simp
 have a6:w1.heap[w.heap.size+1]?=some (.cells #[.slice o ws.length n] 53):=by rw[y];have:=aN (w.alloc (.cells #[.slice no l.length c] 52)) (.cells #[.slice o ws.length n] 53);rwa[bP]at this
 have a5:w1.heap[w.heap.size]?=some (.cells #[.slice no l.length c] 52):=by rw[y];exact(br _ _ _ aj).Z (aN w _)
 have cb:=ak 0 a5;have bz:=va l no c w1 s u (h.O T) (th s);obtain⟨c7,b3,b6,b2,E,P,a3,a2⟩:=rx s h N bd T a6 bz bt;clear s h N bd T a6 a5 bz bt;go_enter func80,ntmps80
 go_wp2_with(first
  |(rw[<-y];clear y)
  |fail)
 refine a3.o.zz ?_;rintro e a ⟨F,U,rfl,M,V⟩;clear a3 cb;obtain⟨R,B,Q,b5⟩:=dE M V M.lF M.lU;have em:=V.size;clear M V;obtain⟨f,z,X⟩:=fQ a (.cells (zz_m3 no l c F U) 216);have bZ:=fH z;have ab:=iC z;obtain⟨cO,cP,cS⟩:=dP ab;have cq:f.cell? ⟨w.heap.size+1,0,none⟩=some (.slice o ws.length n):=ak 0 ((X.J _ ad).Z ((B.o.J _ ad).Z P.o));obtain⟨G,b1⟩:=aC X ab;clear X ab;unfold jC;by_cases J:ws=[]
 ·subst J
  have j:=rG no c l.length F U f bA u;unfold jC at j;have C:=ah j;have bF:=R.o.zj (l.length-1) ad 1 _ rfl;have b9:=ah bF;clear j bF;go_wp2_with(first
   |(rw[<-z];clear z)
   |fail)
  refine ar C.o ?_;intro r g;have eg:r.cell? ⟨F,(l.length-1)*34+1,none⟩=some (.bool (trN l (l.length-1)).null):=(g.cell (p:=⟨F,_,none⟩) (by have:=Q.o;show F<_;omega)).Z ((G.o.cell (p:=⟨F,_,none⟩) Q.o).Z b9.o);have H:=ah g;clear g C
  go_wp2
  go_ret;refine⟨?_,((E.o.Z (B.o.zz E.o.size)).Z (G.o.zz ad)).Z (H.o.zz ad)⟩;exact gA (fun q=>Ending.returned (.bool q)) a2.o
 ·have h:ws.length=1:=by have:0<ws.length:=zV.2 J;omega
  have dz:(((ws.length:Nat):Int)==0)=false:=fU;obtain⟨x,af⟩:=df ws (ws.length-1);have bi:ws.getLast?=some x:=by rw[List.getLast?_eq_getElem?];exact af
  have bq:yt l ws=(aG (tg l (dt (trN l (l.length-1))) ws.dropLast)).any fun p=>symAt l p==x&&(eH (trN l (l.length-1))).testBit p:=by unfold yt;rw[bi]
  obtain⟨b8,ca,av⟩:=bm bq af h;have dm:=ah J;clear bq bi af J;obtain⟨r,A⟩:=am ((f.alloc (.map #[] 0)).alloc (.cells #[.map (some (a.heap.size+1))] 226));have g:Below f.heap.size f r:=by rw[A];exact aP.alloc aj _
  have el:r.heap.size=f.heap.size+2:=by rw[A];simp
  have bE:bV r prog 3 (a.heap.size+1) 0 (fun _=>none):=by rw[A,<-bZ];exact(bV.made f prog 3).zw (kf _ _ none) aj
  have a7:r.heap[a.heap.size+1+1]?=some (.cells #[.map (some (a.heap.size+1))] 226):=by rw[A];have:=aN (f.alloc (.map #[] 0)) (.cells #[.map (some (a.heap.size+1))] 226);rwa[bP,bZ]at this
  have ag:=(g.J _ ad).Z b1.o;obtain⟨cG,cL,cN⟩:=dP ag;have cl:= @pq prog;obtain⟨H,c9,c8,b4⟩:=dE g bE a7 ag;have j:=rG no c l.length F U r bA u;unfold jC at j;have C:=ah j;clear g bE a7 ag j;go_wp2_with(first
   |(rw[<-z];clear z)
   |(rw[<-A];clear A cO cP cS cq)
   |fail)
  refine ar C.o ?_;intro d I;have dq:=Q.o;have dr:=b5.o;have W:Below a.heap.size a d:=(G.o.Z (H.o.zz ad)).Z (I.zz ad);have c0:d.rangeAt F ((l.length-1)*34+2) (setRow (dt (trN l (l.length-1)))):=lH (jA (R.o.zj (l.length-1) ad) W);obtain⟨aa,al,an,c1⟩:=vd d 221;obtain⟨c2,ae⟩:=am (d.alloc (.cells fe 221));rw[<-ae]at aa al an c1;have eb:=I.size;have b0:Hid (∀b,gV c2 b d.heap.size 0 (setRow (dt (trN l (l.length-1))))->b.cell? ⟨w.heap.size+1,0,none⟩=some (.slice o 1 n)/\Below d.heap.size d b):=fun b t=>by have bf:=t.O aa (ay _);have ba:=ak 0 ((bf.J _ ad).Z ((W.J _ ad).Z ((B.o.J _ ad).Z P.o)));rw[av.o]at ba;exact⟨ba,bf⟩
  obtain⟨ao,dl,dc⟩:=bm I an al;clear I W aa al C cG cL cN;go_wp2_with(first
   |(rw[<-ae];clear ae)
   |(refine ym ?_)
   |((refine Bf ?_);clear an;intro b t;obtain⟨cs,Y⟩:=b0.o b t;clear c0)
   |fail)
  have K:Below a.heap.size a b:=((G.o.Z (H.o.zz ad)).Z (ao.o.zz ad)).Z (Y.zz ad);have bb:Below w.heap.size w b:=(E.o.Z (B.o.zz E.o.size)).Z (K.zz ad);have be:Hid (yv w b a.heap.size (w.heap.size+1) F U no c l o n ws.length):=
   ⟨bb,(Y.J _ ad).Z ((ao.o.J _ ad).Z b4.o),(K.J _ ad).Z ((B.o.J _ ad).Z P.o),R.o.O K⟩
  have ci:=Qa;have dn:d.heap.size<b.heap.size:=by rw[t.size];omega
  have bc:=ah t.zn;obtain⟨m,O⟩:=am (dt (trN l (l.length-1)));rw[<-O]at bc;have bB:kw l m:=by rw[O];exact vg hF u
  obtain⟨aw,b7⟩:=aC bB O;have du:decide ((0:Int)<0)=false:=rfl;clear cl t cs Y K bb O bB;go_loopw [45] (fun i wr=>i=.int .i64 0/\wr=b) (fun _ _=>0)
  case atStart=>exact⟨rfl,rfl⟩
  case round=>
  obtain⟨rfl,rfl⟩:=hrel;have bo:=A8 d.heap.size 0 m wr (b2.o.O be.out.base) ad aw.o.1 (gd bc.out);have a1:=ah bo;clear bo;go_wp2_with fail
  refine a1.o.zz ?_;rintro e c3 ⟨⟨v,rfl,bw⟩,Z⟩;obtain⟨cv,cu,rfl,bl⟩:=uF bw;have S:=ah (be.out.O Z);have bg:=Eb (F:=147) (caps:=#[.pointer (some ⟨a.heap.size,0,none⟩),.pointer (some ⟨w.heap.size+1,0,none⟩)]) (q:=fun p=>symAt l p==x&&(eH (trN l (l.length-1))).testBit p) (aG m) cv cu c3 bl (by unfold aG;have:=lf m.testBit (List.range 64);simp at this;omega) ci (fun p co c5 cg=>by obtain⟨cx,bu,ea⟩:=Bo aw.o p co;have D:=S.o.O cg;have:=P0 l no c F U p a.heap.size (w.heap.size+1) cx ws x o n c5 hF u (b3.o.O D.base) D.plan bu D.pb D.lb (b6.o.O D.base) ca.o;rw[<-sI bu]at this;exact this)
  obtain⟨a0,c6⟩:=aC bg Z;clear bg bl bw Z a1;go_wp2_with fail
  refine ar a0.o ?_;intro c4 a4;have cd:Below w.heap.size w c4:=(S.o.base).Z (a4.zz (aQ S.o.base.size));clear a0 a4
  go_wp2
  go_ret;refine⟨?_,cd⟩;have a9:=a2.o;rw[b8.o,List.dropLast_eq_take,av.o,<-b7.o]at a9;exact gA (fun q=>Ending.returned (.bool q)) a9
end Go.Proofs.YtfeidcmojcijpaaGreatDoor
