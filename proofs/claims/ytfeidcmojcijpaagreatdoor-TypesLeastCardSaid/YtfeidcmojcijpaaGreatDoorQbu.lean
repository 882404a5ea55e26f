import Derived.Test.YtfeidcmojcijpaaGreatDoorQbp
import Derived.Test.YtfeidcmojcijpaaGreatDoorQbt
set_option linter.all false
set_option maxRecDepth 100000
set_option maxHeartbeats 0
namespace Go.Proofs.YtfeidcmojcijpaaGreatDoor
open Go.RowKit Tryz
section
open Wey
def gz{w:World}{b o cs t fz v}(a:w.heap[b]?=some (.cells cs t fz))(hv:cs[o]?=some v):w.setCell ⟨b,o,none⟩ v=w:=by
 have d:(w.setCell ⟨b,o,none⟩ v).heap=w.heap:=by
  apply Array.ext_getElem?;intro k;by_cases c:k=b;subst c;rw[a8 _ _ _ _ a,a];congr 2
  apply Array.ext_getElem?;intro j;rw[Wv];split;rename_i e;subst e;have:=(iJ.1 hv).1;rw[hv];simp[this];rfl;exact aU _ _ _ _ _ c
 have f:w.setCell ⟨b,o,none⟩ v={w with heap:=(w.setCell ⟨b,o,none⟩ v).heap}:=rfl;rw[f,d]
def zq(l:List ai):Prop:=∀x∈l,x.t.text=false->bK x.t.E=0/\x.t.E.length<=20
def CK(l:List ai)(w:World)(e:Ending)(w':World):Prop:=aR w w'/\((bY (l.map ai.t)≠0/\e=.returned (.tuple #[.slice none 0 0,.int .i64 (bY (l.map ai.t))]))∨
 (bY (l.map ai.t)=0/\∃i H hv,hv=cY (roundU (l.map ai.t)) i (List.replicate (l.map ai.t) false)/\roundU (l.map ai.t) hv=hv/\e=.returned (.tuple #[.slice (some ⟨H,0,none⟩) l l,.int .i64 0])/\jF w l H hv w'))
def Va(l:List ai)(o:Option Addr)(cap:Nat)(w:World)(f:Gl w)(c:cw w o cap l)(d:ep l)(t:l.length<=64)(hF:bY (l.map ai.t)=0->zq l):
 Calls prog 7 #[.agg #[.slice o l.length cap]] w (CK l w):=by
 obtain⟨g,h,b,j⟩:=dy w (.cells #[.slice o l.length cap] 24);have B:=ak 0 j;obtain⟨u,p,r,G,n⟩:=iz (Bk l o cap g (c.O b) d) (c.O b) (f.O b) d b;clear b j c f d;obtain⟨d,b⟩:=am (bY (l.map ai.t));have c:=ah b;clear b;go_enter func7,ntmps7
 go_wp2_with(first|(rw[<-h];clear h)|fail)
 refine u.o.zz ?_;rintro e w1 ⟨j,⟨b,rfl⟩|⟨m,y,rfl,z,f,A,C,D⟩⟩
 ·rw[<-c.o]at b⊢
  have h:(d !=0)=true:=by simpa using b
  have h:decide (d=0)=false:=by rw[dd];exact b
  have h:Hid (CK l w (.returned (.tuple #[.slice none 0 0,.int .i64 d])) w1):=ah ⟨aE n.out j,.inl ⟨by rw[<-c.o];exact b,by rw[c.o]⟩⟩;clear B j b
  go_wp2
  go_ret2
  exact h.o
 ·have d:=hF m
  have E:=C (fun q=>q=f);have F:jX w1 g.heap.size f l:=⟨0,_,D,aH _,fun a v hv=>by cases hv⟩;have s:=ah (JL l o cap g r.o p.o t (fun q=>q=f) y z f A rfl (fun x c b=>⟨(d x c b).1,by have:=(d x c b).2;omega,Co (d x c b).1 (aQ ((d x c b).2)) (Cn (d x c b).1 (d x c b).2)⟩) w1 E F);obtain⟨t,r⟩:=aC d m;clear d E F D C j u B m hF;go_wp2_with fail
  refine ar s.o ?_;rintro C ⟨j,B,u⟩;obtain⟨m,d⟩:=aC (IR l o cap g p.o G.o r.o (fun q=>q=f) y z f A (fun x c b=>⟨(t.o x c b).1,by have:=(t.o x c b).2;omega⟩) C j) (aE n.out j.base);clear j B u s;go_wp2_with fail
  apply m.o.zz;rintro e g ⟨i,H,hv,f,c,rfl,b⟩;rw[bn]at b⊢;have h:Hid (CK l w (.returned (.tuple #[.slice (some ⟨H,0,none⟩) l.length l.length,.int .i64 0])) g):=ah ⟨aE d.o b.base,.inr ⟨r.o,i,H,hv,f,c,rfl,⟨aE d.o b.base,by have:=d.o.size;have:=b.low;omega,b.row,b.len⟩⟩⟩;clear f c b m
  go_wp2
  go_ret2
  exact h.o
structure CL(l:List ai)(hv:List Bool)(nd:List Nat)(rw':Nat->List Bytes)(T:Nat->Tr):Prop where
 useful:∀i h,h=cY (roundU (l.map ai.t)) i (List.replicate (l.map ai.t).length false)->roundU (l.map ai.t) h=h->h=hv
 few:∀i d,d=cY (roundW (l.map ai.t)) i (List.replicate (l.map ai.t).length 4097)->roundW (l.map ai.t) d=d->d=nd
 len:nd.length=l.length
 pos:∀a∈nd,1<=a/\a<=4097
 zs:∀x∈l,x.t.text=false->(∀a∈unionB (symsS x.t.E),kidOf (l.map ai.t) a<l.length/\a.length<=1048576)/\(unionB (symsS x.t.E)).length<=64
 rows:∀k x,l[k]?=some x->nd.getD k 0<=4096->x.t.zx.length<=1048576/\(x.t.text=true->rw' k=[])/\(rw' k).length<100/\(∀n∈rw' k,(kidOf (l.map ai.t) n<l.length/\nd.getD (kidOf (l.map ai.t) n) 0<=4096)/\n.length<=1048576)/\
  (x.t.text=false->∀keys rows,ev x.t.E keys rows->Opt bM (unionB (symsS x.t.E)) (fun a=>nd.getD (kidOf (l.map ai.t) a) 0) (nxA x.t.E rows) (finA x.t.E keys) (rw' k))
 tree:∀k,k<l.length->nd.getD k 0<=4096->iE (l.map ai.t) rw' k (T k)
def jH(ts:List aB)(hv:List Bool)(nd:List Nat)(n:Bytes):Int:=if bY ts=0 then(match placeS ts n with
 |none=>16
 |some k=>if hv.getD k false=true then(if nd.getD k 0<=4096 then 0 else 17)else 18)else bY ts
def qv(l:List ai)(hv:List Bool)(nd:List Nat)(a:Nat->Tr)(n:Bytes)(w:World)(e:Ending)(w':World):Prop:=aR w w'/\
 ((∃q,q≠0/\e=.returned (.tuple #[iq,.int .i64 q])/\(jH (l.map ai.t) hv nd n=q∨(jH (l.map ai.t) hv nd n=0/\q=17/\∃k,placeS (l.map ai.t) n=some k/\32<dh (a k))))∨
   (jH (l.map ai.t) hv nd n=0/\∃k,placeS (l.map ai.t) n=some k/\dh (a k)<=32/\∃r,e=.returned (.tuple #[cA (a k) r,.int .i64 0])/\fM w' (a k) r))
def CM(l:List ai)(o:Option Addr)(cap:Nat)(hv:List Bool)(nd:List Nat)(ag:Nat->List Bytes)(I:Nat->Tr)(w:World)(s:Gl w)(O:cw w o cap l)(p:ep l)(a1:l.length<=64)(hF:bY (l.map ai.t)=0->zq l/\CL l hv nd ag I)(n:Bytes)(M:n.length<=maxLen):
 Calls prog 8 #[.agg #[.slice o l.length cap],.string ⟨n.toArray⟩] w (qv l hv nd I n w):=by
 obtain⟨h,g⟩:=am ((w.alloc (.cells #[.slice o l.length cap] 24)).alloc (.cells ik 36));have d:Below w.heap.size w h:=by rw[g];exact aP.alloc aj _
 have m:h.heap[w.heap.size+1]?=some (.cells ik 36):=by rw[g];have:=aN (w.alloc (.cells #[.slice o l.length cap] 24)) (.cells ik 36);rwa[bP]at this
 have u:h.heap[w.heap.size]?=some (.cells #[.slice o l.length cap] 24):=by rw[g];exact(aP.J _ aj).Z (aN w _)
 have be:=ak 0 u;obtain⟨T,R,a6,P,t,y⟩:=iL (Bk l o cap h (O.O d) p) (O.O d) (s.O d) p d m;have bB:=aI m;have X:Hid (∀D,Below h.heap.size h D->(D.heap[w.heap.size+1]?=some (.cells ik 36 (0,0))/\Below w.heap.size w D)):=ah fun D t=>⟨(t.J _ bB).Z m,aE d t⟩;clear d m u O s p;obtain⟨s,S⟩:=am (bY (l.map ai.t));have y:=ah S;clear S;go_enter func8,ntmps8
 go_wp2_with(first|(rw[<-g];clear g)|fail)
 refine T.o.zz ?_;rintro e w1 ⟨J,⟨m,rfl⟩|⟨p,E,rfl,F,g,G,bf,ab⟩⟩
 ·rw[<-y.o]at m⊢
  have bo:(s !=0)=true:=by simpa using m
  have bq:decide (s=0)=false:=by rw[dd];exact m
  obtain⟨d,u⟩:=X.o w1 J;have al:=gz (o:=0) (v:=.string ⟨#[]⟩) d rfl;have an:=gz (o:=1) (v:=.string ⟨#[]⟩) d rfl;have ao:=gz (o:=2) (v:=.slice none 0 0) d rfl;have av:=gz (o:=3) (v:=.slice none 0 0) d rfl;obtain⟨z,A,B,C⟩:=dC d;have f0:=aJ d 0;have f1:=aJ d 1;have f2:=aJ d 2;have f3:=aJ d 3;have K:Hid (qv l hv nd I n w (.returned (.tuple #[iq,.int .i64 s])) w1):=ah ⟨u,.inl ⟨s,m,rfl,.inl (by unfold jH;rw[<-y.o,ap m])⟩⟩;clear be J m d u;go_wp2_with fail
  exact cQ (v:=.tuple #[iq,.int .i64 s]) (by simp[results,results8,go_sem,z,A,B,C,sw,iq]) rfl K.o
 ·obtain⟨bw,b0⟩:=hF p
  have cv:1<=l.length:=by have:=(II.1 p).2.1;rw[bn]at this;omega
  have N:=bf (fun q=>q=g);have bZ:jX w1 h.heap.size g l:=⟨0,_,ab,aH _,fun a v hv=>by cases hv⟩;have b2:=ak 0 N.blk;have s:=EA l o cap w1 (R.o.O J) P.o n M;have bu:sx (l.map ai.t) n=(match placeS (l.map ai.t) n with|some k=>((k:Int),0)|none=>(0,16)):=by unfold sx;rw[au p]<;>(cases placeS (l.map ai.t) n<;>rfl)
  rw[bu]at s;obtain⟨m,W,Z,b5,y,Q,Y⟩:=td s N bZ J bw b0 p;have M:Hid (jH (l.map ai.t) hv nd n=(match placeS (l.map ai.t) n with
   |none=>16
   |some k=>if hv.getD k false=true then(if nd.getD k 0<=4096 then 0 else 17)else 18)):=ah (by unfold jH;rw[au p]<;>(cases placeS (l.map ai.t) n<;>rfl))
  clear N bZ s bu J bf ab bw b0 p hF be T;cases p:placeS (l.map ai.t) n with
  |none=>
   rw[p]at m M;go_wp2_with fail
   refine ar m.o ?_;intro N J;obtain⟨d,u⟩:=X.o N (aE b5.o J);have al:=gz (o:=0) (v:=.string ⟨#[]⟩) d rfl;have an:=gz (o:=1) (v:=.string ⟨#[]⟩) d rfl;have ao:=gz (o:=2) (v:=.slice none 0 0) d rfl;have av:=gz (o:=3) (v:=.slice none 0 0) d rfl;obtain⟨z,A,B,C⟩:=dC d;have f0:=aJ d 0;have f1:=aJ d 1;have f2:=aJ d 2;have f3:=aJ d 3;have K:Hid (qv l hv nd I n w (.returned (.tuple #[iq,.int .i64 16])) N):=ah ⟨u,.inl ⟨16,aq,rfl,.inl M.o⟩⟩;clear J d u b2 m;go_wp2_with fail
   exact cQ (v:=.tuple #[iq,.int .i64 16]) (by simp[results,results8,go_sem,z,A,B,C,sw,iq]) rfl K.o
  |some k=>
   rw[p]at m M;have aw:=ah p;clear p;go_wp2_with fail
   refine ar m.o ?_;intro N J;have T:kD h (fun q=>q=g) E F g G o cap l w1 N:=(show kD h (fun q=>q=g) E F g G o cap l w1 w1 from⟨W.o,Z.o,bL (aA _ _) _⟩).O J;have bc:=ah (JL l o cap h a6.o R.o a1 (fun q=>q=g) E F g G rfl (fun x p s=>⟨(y.o x p s).1,by have:=(y.o x p s).2;omega,Co (y.o x p s).1 (aQ ((y.o x p s).2)) (Cn (y.o x p s).1 (y.o x p s).2)⟩) N T.1 T.2.1);clear T J b2 m W Z;go_wp2_with fail
   refine ar bc.o ?_;rintro W ⟨m,N,T⟩;obtain⟨J,a7,ba⟩:=bm (IR l o cap h R.o P.o Y.o (fun q=>q=g) E F g G (fun x p s=>⟨(y.o x p s).1,by have:=(y.o x p s).2;omega⟩) W m) m N;clear m N T bc;go_wp2_with fail
   refine J.o.zz ?_;rintro e N ⟨i,H,Z,W,T,rfl,m⟩;obtain rfl:=Q.o.useful i Z W T;clear W T J;have ae:k<l.length:=by have:=sF aw.o;rwa[bn]at this
   have u0:=m.at (k:=k) (by rw[bn];exact ae);have J:=a7.o.zw (bL m.base none) (fun q e=>by cases e);have bE:=ba.o.zu (bL m.base none) (fun q e=>by cases e);obtain⟨bd,a9,b7⟩:=bm (Tg l o cap h R.o P.o Y.o (fun q=>q=g) E F g G (fun x p s=>⟨(y.o x p s).1,by have:=(y.o x p s).2;omega⟩) cv N J) J bE;have P:(k:Int)<l.length:=ad;have P:=aL k;rw[bn];clear J bE m a7 ba;cases J:Z.getD k false with
   |false=>
    rw[J]at u0;obtain⟨d,u⟩:=X.o N a9.o.base;have al:=gz (o:=0) (v:=.string ⟨#[]⟩) d rfl;have an:=gz (o:=1) (v:=.string ⟨#[]⟩) d rfl;have ao:=gz (o:=2) (v:=.slice none 0 0) d rfl;have av:=gz (o:=3) (v:=.slice none 0 0) d rfl;obtain⟨z,A,B,C⟩:=dC d;have f0:=aJ d 0;have f1:=aJ d 1;have f2:=aJ d 2;have f3:=aJ d 3;have K:Hid (qv l Z nd I n w (.returned (.tuple #[iq,.int .i64 18])) N):=ah ⟨u,.inl ⟨18,aq,rfl,.inl (by rw[M.o];simp only[J];rfl)⟩⟩;clear d u J;go_wp2_with fail
    exact cQ (v:=.tuple #[iq,.int .i64 18]) (by simp[results,results8,go_sem,z,A,B,C,sw,iq]) rfl K.o
   |true=>
    rw[J]at u0;simp only[J,ix]at M;clear J;go_wp2_with fail
    refine bd.o.zz ?_;rintro e P ⟨J,a4,N,W,T,rfl,m⟩;obtain rfl:=Q.o.few J N W T;clear W T bd u0;have u0:=m.at (k:=k) (by rw[bn];exact ae);have J:=a9.o.zw (bL m.base none) (fun q e=>by cases e);have a2:=b7.o.zu (bL m.base none) (fun q e=>by cases e);have af:=m.nums (by rw[bn];omega);rw[bn]at af⊢;obtain⟨V,T⟩:=am (N.getD k 0);rw[<-T]at u0 M;have W:V<=4097:=by rw[T];exact tP m.le k
    have bb:=ah T;clear T m;by_cases T:V<=4096
    ·have bo:decide ((4097:Int)<=V)=false:=bU
     have bq:decide (4097<=V)=false:=bU;have bt:N.length=l.length:=Q.o.len;obtain⟨m,bi⟩:=am P.heap.size;obtain⟨aa,a3,Y⟩:=fQ P (.map #[] 0);have bA:=(J.more (A':=fun q=>q=g∨q=m) (fun q W=>by rcases W with O|O;exact .inl O;exact .inr ad)).zw (bL Y none) (fun q e=>by cases e);have bF:=a2.zu (bL Y none) (fun q e=>by cases e);have b1:bV aa prog 3 m 0 (fun _=>none):=by rw[a3,bi];exact bV.made P _ _
     have cp:=aI J.blk;have ci:F<P.heap.size:=by obtain⟨W,c,t⟩:=J.places.J;exact aI t
     have cl:g<P.heap.size:=by obtain⟨n,f,W,_⟩:=J.made;exact W.lt
     have co:G<P.heap.size:=by obtain⟨n,f,W,_⟩:=J.inside;exact W.lt
     have ch:=J.base.size;have S:h.heap.size<=m/\m≠E/\m≠F/\m≠g/\m≠G/\(m=g∨m=m):=⟨ad,ad,ad,ad,ad,.inr rfl⟩;have cL:h.heap.size<=g:=J.fresh.2.2.1;have a0:Calls prog 26 #[.pointer (some ⟨E,0,none⟩),.int .i64 (k:Nat),.slice (some ⟨a4,0,none⟩) N.length l.length,.map (some m),.int .i64 32] aa (vX h (fun q=>q=g∨q=m) E F g G m o cap l ag 32 (I k) aa):=
      JU l o cap h R.o a1 (fun q=>q=g∨q=m) E F g G m S ag N (some ⟨a4,0,none⟩) l.length (fun j=>j<l.length/\N.getD j 0<=4096) (fun j bz=>by obtain⟨x,p⟩:=aT bz.1;obtain⟨ca,cb,cc,cd,cg⟩:=Q.o.rows j x p bz.2;exact⟨x,p,ca,cc,cd,fun w O ab cq=>U8 l o cap h a6.o R.o a1 (fun q=>q=g∨q=m) E F g G (.inl rfl) j x p ag cb N bt Q.o.pos (fun s=>by have W:=aK p;obtain⟨f1,f2⟩:=y.o x W s;obtain⟨f3,f4⟩:=Q.o.zs x W s;exact⟨f1,f2,f3,f4,cg s⟩) _ _ w O ab cq⟩) 32 ad k (I k) ⟨ae,by rw[<-bb.o];exact T⟩ (Q.o.tree k ae (by rw[<-bb.o];exact T)) aa ⟨bA,bF,0,_,b1,aH _,fun j v hv=>by cases hv⟩ (cn.O af Y)
     rw[bt]at a0;obtain⟨O,p⟩:=aC a0 S;have cx:=Y.size;have a5:Hid (∀D,fh m g aa D->aR h D->D.heap[w.heap.size+1]?=some (.cells ik 36 (0,0))/\aR w D):=ah fun D _ t=>X.o D t;have g:= @pq prog;clear a0 bA bF b1 J a2 af cp ci cl co S Y;subst bi;go_wp2_with(first|(rw[<-a3];clear a3)|fail)
     apply O.o.zz;rintro e m ⟨⟨p,s⟩,⟨h,r,rfl,Q⟩|⟨h,rfl⟩⟩
     ·obtain⟨g,bl⟩:=a5.o m p s.known.base
      obtain⟨D,y⟩:=am (I k);have G:=ah y;rw[<-y]at h Q⊢;have b6:=ah h;clear y h;obtain⟨W,Y,R,S⟩:=D;obtain⟨D,y,F,E⟩:=r;have cN:=eU bB (aW ch cx);have bg:=Q.tr;unfold cA;simp only[Tr.zv,Tr.text,Tr.zx,Tr.zs];obtain⟨cO,cP,cS,c0⟩:=dC g;have f0:=aJ g 0;have f1:=aJ g 1;have f2:=aJ g 2;have f3:=aJ g 3;have⟨b4,b3,b8⟩:=bm g bl bg;clear g bl Q bg p s u0 O;go_wp2_with fail
      obtain⟨Q,g⟩:=am ((((m.setCell ⟨w+1,0,none⟩ W).setCell ⟨w+1,1,none⟩ Y).setCell ⟨w+1,2,none⟩ (.slice D R y)).setCell ⟨w+1,3,none⟩ (.slice F S E));have b9:Q.heap[w.heap.size+1]?=some (.cells (fZ W Y D R y F S E) 36):=by rw[g];exact a8 _ _ 3 _ (a8 _ _ 2 _ (a8 _ _ 1 _ (a8 _ _ 0 _ b4.out)))
      have cs:Below w.heap.size w Q:=by rw[g];exact(((b3.out.setCell (sk _) _).setCell (sk _) _).setCell (sk _) _).setCell (sk _) _
      have cu:∀b,b≠w.heap.size+1->Q.heap[b]?=m.heap[b]?:=fun b t=>by rw[g,aU _ _ _ _ _ t,aU _ _ _ _ _ t,aU _ _ _ _ _ t,aU _ _ _ _ _ t]
      have Q:=(b8.o.zw (by rw[g];simp) (fun b cG _ t=>⟨ej (a:=⟨b,cG,none⟩) (cu b (by have t:=t;omega)),t⟩)).at_;rw[<-g];have⟨z,A,B,C⟩:=dC b9;exact cQ (v:=.tuple #[.agg (fZ W Y D R y F S E),.int .i64 0]) (by simp[results,go_sem,z,A,B,C]) rfl ⟨cs,.inr ⟨by rw[M.o,au T],k,aw.o,by rw[<-G.o];exact b6.o,⟨D,y,F,E⟩,by rw[<-G.o];rfl,by rw[<-G.o];exact Q⟩⟩
     ·obtain⟨d,u⟩:=a5.o m p s.known.base
      unfold iq;have al:=gz (o:=0) (v:=.string ⟨_⟩) d rfl;have an:=gz (o:=1) (v:=.string ⟨_⟩) d rfl;have ao:=gz (o:=2) (v:=.slice none 0 0) d rfl;have av:=gz (o:=3) (v:=.slice none 0 0) d rfl;have⟨z,A,B,C⟩:=dC d;have f0:=aJ d 0;have f1:=aJ d 1;have f2:=aJ d 2;have f3:=aJ d 3;have K:Hid (qv l Z N I n w (.returned (.tuple #[iq,.int .i64 17])) m):=ah ⟨u,.inl ⟨17,aq,rfl,.inr ⟨by rw[M.o,au T],rfl,k,aw.o,h⟩⟩⟩;clear d u p s u0 O h;go_wp2_with fail
      exact cQ (by simp[results,go_sem,z,A,B,C,iq]) rfl K.o
    ·have bo:decide ((4097:Int)<=V)=true:=bT
     have bq:decide (4097<=V)=true:=bT;have⟨d,u⟩:=X.o P J.base;have al:=gz (o:=0) (v:=.string ⟨_⟩) d rfl;have an:=gz (o:=1) (v:=.string ⟨_⟩) d rfl;have ao:=gz (o:=2) (v:=.slice none 0 0) d rfl;have av:=gz (o:=3) (v:=.slice none 0 0) d rfl;have⟨z,A,B,C⟩:=dC d;have f0:=aJ d 0;have f1:=aJ d 1;have f2:=aJ d 2;have f3:=aJ d 3;have K:Hid (qv l Z N I n w (.returned (.tuple #[iq,.int .i64 17])) P):=ah ⟨u,.inl ⟨17,aq,rfl,.inl (by rw[M.o,ap T])⟩⟩;clear d u J a2 af T;go_wp2_with fail
     exact cQ (by simp[results,go_sem,z,A,B,C,iq]) rfl K.o
end
section
open Wey
def zr(n:Tr):Prop:=n.zv.length<=1048576/\n.zx.length<=5/\∀a∈n.zx,a.1.length<=1048576/\a.2.length<=1048576
def Vb:∀n,(Lib.decDigits n)<=n+1:=by
 intro n;induction n using Nat.strongRecOn with
 |ind n ih=>
 rw[Lib.decDigits];by_cases a:n<10;rw[dif_pos a];simp;rw[dif_neg a,ck];have:=ih (n/10) ad;simp;omega
def Vc{ts rwz k h}(A:∀t∈ts,t.zv.length<=1048576/\t.zx.length<=5/\∀a∈t.zx,a.length<=1048576)(y:∀k,(rwz k).length<=100)(s:iE ts rwz k h):∀n∈nodesT h,zr n:=by
 induction s with
 | @mk k t us w E F ih=>
   obtain⟨p,q,r⟩:=A t (aK w);intro n c;rw[nodesT]at c;rcases bX.1 c with rfl|c
   refine⟨p,by simpa[Tr.zx]using q,fun a d=> ?_⟩;simp only[Tr.zx]at d;obtain⟨b,g,rfl⟩:=dL.1 d;exact⟨r b g,aH _⟩;obtain⟨v,hv,c⟩:=Cz.1 c;obtain⟨i,f⟩:=mU hv;rw[z7]at f;cases e:us[i]? with
   |none=>rw[e]at f;cases f
   |some u=>
    rw[e]at f;cases f
    have I:=(aF.1 e).1;have⟨m,z⟩:=df (rwz k) i;have o:=ih i m u z e;obtain⟨l,x,av,ks⟩:=u;unfold ew at c;rw[nodesT]at c;rcases bX.1 c with rfl|c
    have⟨B,C,D⟩:=o (.mk l x av ks) (by rw[nodesT];simp);refine⟨B,by simpa[Tr.zx]using C,fun a d=> ?_⟩;simp only[Tr.zx]at d;obtain⟨b,g,rfl⟩:=dL.1 d;have:=D b g;by_cases j:b.1=t.key;rw[au j];have G:=Vb i;have H:=y k;exact⟨this.1,by show(Lib.decDigits i).length<=_;omega⟩;rw[ap j];exact this;exact o n (by rw[nodesT];simp[c])
def Vd:∀m,(∀t,SizeOf.sizeOf t<=m->(∀n∈nodesT t,zr n)->(fV t)<=7*eO t)/\∀ks,SizeOf.sizeOf ks<=m->(∀n∈di ks,zr n)->(dQ ks)<=7*eX ks:=by
 intro m;induction m with
 |zero=>exact⟨fun t a=>by cases t;simp at a,fun ks a=>by cases ks<;>simp at a⟩
 |succ m ih=>
  refine⟨fun t a c=> ?_,fun ks a c=> ?_⟩;obtain⟨l,x,av,ks⟩:=t;have d:=(c (.mk l x av ks) (by rw[nodesT];simp)).2.1;have e:=ih.2 ks (by simp at a;omega) fun n b=>c n (by rw[nodesT];simp[b]);simp only[Tr.zx]at d;rw[fV,eO];split;simp;omega;simp only[ef,ck,bn,gN];omega;cases ks with
  |nil=>simp[dQ]
  |cons u ks=>
   have d:=ih.1 u (by simp at a;omega) fun n b=>c n (by rw[di];simp[b]);have e:=ih.2 ks (by simp at a;omega) fun n b=>c n (by rw[di];simp[b]);rw[dQ,eX,ck];omega
def Ve{t}(e:∀n∈nodesT t,nJ n)(b:∀n∈nodesT t,zr n):∀s∈fV t,s.name.length<=1048576/\s.text.length<=1048576:=fun s g=>by
 rcases((D1 _).1 t (ay _) e).1 s g with rfl|⟨n,c,rfl|⟨a,f,rfl⟩⟩
 simp;obtain⟨h,i,d⟩:=b n c;exact⟨by show n.zv.length<=_;omega,aH _⟩;obtain⟨h,i,d⟩:=b n c;have:=d a f;exact⟨by show a.1.length<=_;omega,by show a.2.length<=_;omega⟩
section
variable{l:List ai} {N:List Nat}
def qw(j:bY (l.map ai.t)=0):(1<=l.length/\l.length<=64)/\(∀x∈l,x.t.text=false->bK x.t.E=0)/\∀t∈l.map ai.t,bp t.zv=true/\(∀a∈t.zx,bp a=true)/\eo t.zx=false:=by obtain⟨f,g,d,_,e,_,h,_⟩:=II.1 j;rw[bn]at f g;refine⟨⟨ad,ad⟩,fun x n c=>IJ.1 (Decidable.of_not_not h) x.t (lY n) c,fun t c=> ?_⟩;rw[iX,nF]at d e;have b:=d t c;have i:=e t c;unfold gR at b;simp only[dA,not_or,iX,nF,zR]at b;exact⟨by simpa using b.1.1.2,fun a m=>by simpa using b.1.2 a m,by simpa using i⟩
def zt(c:bY (l.map ai.t)=0)(m:ep l){x}(d:x∈l)(p:x.t.text=false){a}(b:a∈unionB (symsS x.t.E)):fi (l.map ai.t) a=kidOf (l.map ai.t) a/\kidOf (l.map ai.t) a<l/\a.length<=1048576:=by
 have g:=uR c;rw[tA]at b;have j:=lY (f:=ai.t) d;have i:=g.placed x.t j a b;have h:=yO c j b;rw[bn]at h;refine⟨?_,h,?_⟩;rw[uT g.names];unfold kidOf;cases e:placeS (l.map ai.t) a with
 |none=>rw[e]at i;cases i
 |some k=>rfl
 obtain⟨n,o,_,rfl⟩:=(rL ((qw c).2.1 x d p)).1 b;exact m.sym x d n o
def zu(d:bY (l.map ai.t)=0)(h:ep l)(f:∀x∈l,x.t.E.length<=20):iR (l.map ai.t):=by refine⟨fun t b g=> ?_,fun t b a e=> ?_⟩;obtain⟨x,c,rfl⟩:=dL.1 b;exact⟨(qw d).2.1 x c g,by have:=f x c;omega⟩;obtain⟨x,c,rfl⟩:=dL.1 b;rw[tA]at e;exact yO d b e
def JV(c:bY (l.map ai.t)=0)(g:ep l)(e:∀x∈l,x.t.E.length<=20){x}(b:x∈l)(d:x.t.text=false):JB l x:=by have m:=Cb (symsS x.t.E);have n:=yM x.t.E;have f:=e x b;exact⟨(qw c).2.1 x b d,f,fun a h=>by obtain⟨i,j,_⟩:=zt c g b d h;omega,ad⟩
def Vf(b:∀x∈l,x.t.text=false->bK x.t.E=0):∀t∈l.map ai.t,t.text=false->0<t.E.length:=fun t c d=>by obtain⟨x,f,rfl⟩:=dL.1 c;have a:=oX (b x f d);refine Nat.pos_of_ne_zero fun e=> ?_;have:=pp e;rw[this]at a;exact absurd a aq
def JW{α f}{x:α}:∀{i j},f (cY f i x)=cY f i x->f (cY f j x)=cY f j x->cY f i x=cY f j x:=by
 have key:∀i k,f (cY f i x)=cY f i x->cY f (i+k) x=cY f i x:=fun i k a=>by
  induction k with
  |zero=>rfl
  |succ k ih=>rw[<-lZ,cY,ih,a]
 intro i j b c;rcases Nat.le_total i j with a|a
 have:=key i (j-i) b;rw[show i+(j-i)=j by omega]at this;exact this.zy;have:=key j (i-j) c;rwa[show j+(i-j)=i by omega]at this
def JX{α f}(m:α->Nat)(P:α->Prop)(b:∀y,P y->P (f y))(a:∀y,P y->f y=y∨m (f y)<m y) x(d:P x):∃i,f (cY f i x)=cY f i x:=by
 refine dU fun c=> ?_;have key:∀i,P (cY f i x)/\m (cY f i x)+i<=m x:=fun i=>by
  induction i with
  |zero=>exact⟨d,ay _⟩
  |succ i ih=>
   rw[cY];rcases a _ ih.1 with e|e
   exact absurd ⟨i,e⟩ c;exact⟨b _ ih.1,ad⟩
 have:=(key (m x+1)).2;omega
def Vg(y:bY (l.map ai.t)=0)(w:ep l)(A:∀x∈l,x.t.E.length<=20):∃hv nd j m,CL l hv nd j m/\(∀k,(j k).length<=20)/\(∀k,nd.getD k 0<=4096->rS (l.map ai.t) nd k (j k))/\(∃i,hv=cY (roundU (l.map ai.t)) i (List.replicate (l.map ai.t).length false))/\roundU (l.map ai.t) hv=hv/\(∃i,nd=cY (roundW (l.map ai.t)) i (List.replicate (l.map ai.t).length 4097))/\roundW (l.map ai.t) nd=nd:=by
 have b:=zu y w A;obtain⟨⟨g,h⟩,c,_⟩:=qw y;have g:=Vf c;obtain⟨N,J⟩:=JX (f:=roundU (l.map ai.t)) (fun hv=>hv.count false) (fun hv=>hv.length=(l.map ai.t).length) (fun hv e=>by unfold roundU;rw[Cs,e]) (fun hv e=>y7 (l.map ai.t) hv e (l.map ai.t).length) (List.replicate (l.map ai.t).length false) aj;obtain⟨c,v⟩:=JX (f:=roundW (l.map ai.t)) List.sum (fun _=>True) (fun _ _=>trivial) (fun nd _=>za _ nd _) (List.replicate (l.map ai.t).length 4097) trivial;obtain⟨nd,s⟩:=am (cY (roundW (l.map ai.t)) c (List.replicate (l.map ai.t).length 4097));rw[<-s]at v;have hF:rR (l.map ai.t) nd:=I7 b s v;have C:vL (l.map ai.t) nd:=s▸zc b c;have M:nd.length=l.length:=by rw[C.1.1,bn]
 have h:∀k,∃V:List Bytes,V.length<=20/\(nd.getD k 0<=4096->rS (l.map ai.t) nd k V):=fun k=>by by_cases o:nd.getD k 0<=4096;obtain⟨V,c⟩:=TL b hF g k o;by_cases r:k<l.length;obtain⟨x,b⟩:=aT r;have:=(c x.t (by rw[bR,b];rfl)).2.2.1;have:=A x (aK b);exact⟨V,ad,fun _=>c⟩;exact⟨[],aH _,fun _ t c=>by rw[jL (by rw[bn];omega)]at c;cases c⟩;exact⟨[],aH _,fun q=>absurd q o⟩
 obtain⟨j,u⟩:=Classical.axiomOfChoice h;have I:∀(k:Nat) (x:ai),l[k]?=some x->nd.getD k 0<=4096->∀n∈j k,(kidOf (l.map ai.t) n<l.length/\nd.getD (kidOf (l.map ai.t) n) 0<nd.getD k 0)/\n.length<=1048576:=fun k x b h n p=>by
  have g:=(u k).2 h x.t (by rw[bR,b];rfl);obtain⟨q,H⟩:=g.2.2.2 n p;have c:x.t.text=false:=by
   cases e:x.t.text with
   |false=>rfl
   |true=>rw[g.1 e]at p;simp at p
  obtain⟨_,z,B⟩:=zt y w (aK b) c q;exact⟨⟨z,H⟩,B⟩
 have z:∀k,∃m,k<l.length->nd.getD k 0<=4096->iE (l.map ai.t) j k m:=fun k=>by
  by_cases o:k<l.length/\nd.getD k 0<=4096;obtain⟨m,B⟩:=Tz (ts:=l.map ai.t) (rwz:=j) (F:=fun k=>nd.getD k 0) (fun k t c h n p=>by obtain⟨x,b⟩:=df l k (by have:=(aF.1 c).1;rwa[bn]at this);obtain⟨⟨G,K⟩,_⟩:=I k x b h n p;exact⟨K,by rw[bn];exact G⟩) _ k rfl o.2 (by rw[bn];exact o.1)
  exact⟨m,fun _ _=>B⟩;exact⟨.mk [] [] [] [],fun g q=>absurd ⟨g,q⟩ o⟩
 obtain⟨m,B⟩:=Classical.axiomOfChoice z;refine⟨cY (roundU (l.map ai.t)) N (List.replicate (l.map ai.t).length false),nd,j,m,⟨fun i o E D=> ?_,fun i d E D=> ?_,M,fun a z=> ?_,fun x b c=> ?_,fun k x b h=> ?_,fun k r h=>B k r h⟩,fun k=>(u k).1,fun k=>(u k).2,⟨_,rfl⟩,J,⟨_,s⟩,v⟩;subst E;exact JW D J;subst E;rw[s];rw[s]at v;exact JW D v;refine⟨?_,C.1.2 a z⟩;obtain⟨k,r⟩:=mU z;have j:=(aF.1 r).1;obtain⟨t,c⟩:=df (l.map ai.t) k (by rw[bn];omega);have:=C.2 k t c;rw[cB,r,gM]at this;omega;have g:=Cb (symsS x.t.E);have q:=yM x.t.E;have H:=A x b;exact⟨fun a z=>(zt y w b c z).2,ad⟩;have g:=(u k).2 h x.t (by rw[bR,b];rfl);exact⟨w.zx x (aK b),g.1,by have:=(u k).1;omega,(fun n p=>by obtain⟨⟨G,K⟩,c⟩:=I k x b h n p;exact⟨⟨G,ad⟩,c⟩),g.2.1⟩
def Vh(m:bY (l.map ai.t)=0)(f:ep l)(u:∀x∈l,x.t.E.length<=20)(v:∀x∈l,x.t.zx.length<=5)(i:jZ (l.map ai.t) N)(o:oa (l.map ai.t) N){rw'}(z:∀k,(rw' k).length<=20)(j:∀k,(bigL N).getD k 0<=4096->rS (l.map ai.t) (bigL N) k (rw' k)){k}(b:(bigL N).getD k 0<=4096){a}(g:iE (l.map ai.t) rw' k a):
 oF a=(if 32<dh a then 17 else 0)/\(∀n∈nodesT a,nJ n)/\(fV a).length<=1048576/\∀s∈fV a,s.name.length<=1048576/\s.text.length<=1048576:=by
 have e:=zu m f u;have hF:rR (l.map ai.t) (bigL N):=Cy e i o;have⟨_,_,A⟩:=qw m;have y:eO a<=4096:=by
  rw[Tu (F:=fun k=>(bigL N).getD k 0) (fun k t c b=>by
   have r:=j k b t c;cases d:t.text with
   |true=>rw[r.1 d,(zd hF c).2.1 d];rfl
   |false=>
    have⟨n,hv,_⟩:=o k t c;have⟨out,w,_⟩:=hv.2 d;exact(Jj e hF (i.low e).len (j k b) c d b w).2) g b]
  exact b
 have p:=Tx A g;have q:=Vc (fun t c=>by obtain⟨x,h,rfl⟩:=dL.1 c;exact⟨f.zv x h,v x h,f.attr x h⟩) (fun k=>by have:=z k;omega) g
 have B:=(Vd _).1 a (ay _) q;exact⟨Ty y,p,ad,Ve p q⟩
end
end
def vY:Bytes:=[116,121,112,101,32,97,32,61,32,97,32,123,32,98,44,32,98,42,32,125,10,116,121,112,101,32,98,32,61,32,98,32,64,107,32,116,101,120,116]
def jt:List ax:=[⟨2,[98],0,0⟩,⟨2,[98],0,0⟩,⟨5,[],1,0⟩,⟨3,[],0,2⟩]
def mJ:aB:=⟨[97],[97],[],[],false,jt⟩
def og:aB:=⟨[98],[98],[[107]],[],true,[]⟩
def cJ:List aB:=[mJ,og]
def Vk:fd 0 [] (dW vY)=(cJ,0):=az
def Vl:[[98],[98]].mergeSort bD=[[98],[98]]:=by rw[List.mergeSort];simp only[List.MergeSort.Internal.splitInTwo_fst,List.MergeSort.Internal.splitInTwo_snd];simp[List.merge]
def vZ:bK jt=0:=az
def CO:symsS jt=[[98]]:=by unfold symsS;rw[au vZ,show gQ jt=[[98],[98]]from az,Vl];kernel_rfl
def CP:unionB (symsS jt)=[[98]]:=by rw[CO];unfold unionB;rw[List.mergeSort_singleton];kernel_rfl
def JZ:kidsS cJ mJ=[1]:=by unfold kidsS;rw[show mJ.E=jt from rfl,CO];kernel_rfl
def Vm:kidsS cJ og=[]:=by unfold kidsS;rw[show og.E=[]from rfl,AW];rfl
def CQ:bY cJ=0:=by
 have a:∀{p:aB->Prop},p mJ->p og->∀t∈cJ,p t:=fun c d t b=>by
  simp only[cJ,bX,uh,ui]at b;rcases b with rfl|rfl
  exact c;exact d
 unfold bY;rw[ap aq,ap aq,ap aq,ap aq,ap aq,ap aq,ap aq,ap,ap,ap];rw[iX,nF];exact a aq aq;rw[iX,nF];exact a (by rw[JZ];decide) (by rw[Vm];decide);rw[iX,nF];exact a (by rw[show mJ.E=jt from rfl,CO];decide) (by rw[show og.E=[]from rfl,AW];decide)
def Vn:nR vY=(cJ,0,0):=by unfold nR;rw[ap aq,Vk,ap aq,ap (by rw[CQ];decide)]
def Vo:∀d∈vY,d<128:=aq
def Vp:∀t∈cJ,pS 100 t:=by
 intro t a;simp only[cJ,bX,uh,ui]at a;rcases a with rfl|rfl
 exact⟨aq,aq,aq,aq,aq,aq⟩;exact⟨aq,aq,aq,aq,aq,aq⟩
def CR:placeS cJ [97]=some 0:=az
def zv:kidOf cJ [98]=1:=az
def ir:Tr:=.mk [97] [] [] [.mk [98] [] [([107],[])] []]
def Vq:oF ir=0:=az
def Vr:MatchS jt [[98]]:=by obtain⟨a,_⟩:=iM vZ;exact(Gd a aq _).1 az
def Vs:pH cJ 0 ir:=by
 rw[Ap rfl];have a:lw cJ mJ [98]=some 1:=by unfold lw;rw[JZ];kernel_rfl
 refine⟨rfl,rfl,?_⟩;rw[ap aq];refine⟨?_,by simp[An,mJ],?_⟩;rw[Ao];intro k b;simp only[ir,Tr.zs,bX,uh,ui]at b;subst b;refine⟨1,a,?_⟩;rw[Ap rfl];exact⟨rfl,rfl,by rw[au (show og.text=true from rfl)];exact .inl rfl⟩;have:kO cJ mJ ir.zs=[[98]]:=by simp only[kO,ir,Tr.zs,dZ,r9,Tr.zv];rw[a];rfl
 rw[this];exact Vr
def Vt{i hv}(a:hv=cY (roundU cJ) i (List.replicate cJ false))(b:roundU cJ hv=hv):hv=[true,true]:=by
 have d:List.replicate cJ false=[false,false]:=rfl;have c:roundU cJ [false,false]=[false,true]:=az;have e:roundU cJ [false,true]=[true,true]:=az;have f:roundU cJ [true,true]=[true,true]:=az;have g:∀n,cY (roundU cJ) (n+2) [false,false]=[true,true]:=fun n=>by
  induction n with
  |zero=>rfl
  |succ n ih=>rw[cY,ih,f]
 rw[d]at a;match i,a with
 |0,a=>simp only[cY]at a;subst a;rw[c]at b;cases b
 |1,a=>simp only[cY,c]at a;subst a;rw[e]at b;cases b
 |n+2,a=>rwa[g]at a
def Vu{i nd}(a:nd=cY (roundW cJ) i (List.replicate cJ 4097))(b:roundW cJ nd=nd):nd=[2,1]:=by
 have d:List.replicate cJ 4097=[4097,4097]:=rfl;have c:roundW cJ [4097,4097]=[4097,1]:=az;have e:roundW cJ [4097,1]=[2,1]:=az;have f:roundW cJ [2,1]=[2,1]:=az;have g:∀n,cY (roundW cJ) (n+2) [4097,4097]=[2,1]:=fun n=>by
  induction n with
  |zero=>rfl
  |succ n ih=>rw[cY,ih,f]
 rw[d]at a;match i,a with
 |0,a=>simp only[cY]at a;subst a;rw[c]at b;cases b
 |1,a=>simp only[cY,c]at a;subst a;rw[e]at b;cases b
 |n+2,a=>rwa[g]at a
section
open Wey PRegex
def nB(k:Nat):List Bytes:=if k=0 then [[98]]else []
def CS:Tr:=.mk [98] [] [([107],[])] []
def CT(k:Nat):Tr:=if k=0 then ir else CS
def J0:trN jt (jt-1)=.cat (.sym 0) (.star (.sym 1)):=az
def Vv:MatchS jt [[98]]:=⟨[0],J0▸L.cat (u:=[0]) (v:=[]) (.sym 0) .nil,az⟩
def Vw{keys}{i:List _}(e:ev jt keys i):Opt bM (unionB (symsS jt)) (fun a=>[2,1].getD (kidOf cJ a) 0) (nxA jt i) (finA jt keys) [[98]]:=by
 have h:∀a∈unionB (symsS jt),a=[98]:=fun a c=>by rw[CP]at c;simpa using c
 have g:(fun a=>[2,1].getD (kidOf cJ a) 0) [98]=1:=by simp only[zv];rfl
 refine⟨(mC e vZ aq).2 ⟨fun a c=>CP▸c,by simp only[wt,dZ,r9,fm,List.sum_nil,g];omega,Vv⟩,fun P j=> ?_⟩;obtain⟨f,_,d⟩:=(mC e vZ aq).1 j;cases P with
 |nil=>
  unfold MatchS at d;rw[MW_nil,J0]at d;cases d
 |cons a P=>
  obtain rfl:=h a (f a aj);cases P with
  |nil=>exact .inl rfl
  |cons b P=>
   obtain rfl:=h b (f b aj);refine .inr (.inl ?_);simp only[wt,dZ,r9,fm,List.sum_nil,g];omega
def J1:iE cJ nB 1 CS:=
 iE.mk (ts:=cJ) (rwz:=nB) (k:=1) (t:=og) (us:=[]) rfl rfl fun i n u a=>by simp[nB]at a
def Vx:iE cJ nB 0 ir:=by
 refine iE.mk (ts:=cJ) (rwz:=nB) (k:=0) (t:=mJ) (us:=[CS]) rfl rfl fun i n u a b=> ?_;cases i with
 |zero=>
  simp[nB]at a b;subst a;subst b;rw[zv];exact J1
 |succ i=>simp[nB]at a
def Vy{l}(c:l.map ai.t=cJ):CL l [true,true] [2,1] nB CT:=by
 have m:l.length=2:=by have:=gA List.length c;rwa[bn]at this
 have t:∀x∈l,x.t=mJ∨x.t=og:=fun x f=>by
  have:x.t∈cJ:=by rw[<-c];exact lY f
  simpa[cJ]using this
 have r:∀(k:Nat) (x:ai),l[k]?=some x->(k=0/\x.t=mJ)∨(k=1/\x.t=og):=fun k x f=>by
  have b:(l.map ai.t)[k]?=x.t:=by rw[bR,f];rfl
  rw[c]at b;match k,b with
  |0,b=>injection b with b;exact .inl ⟨rfl,b.zy⟩
  |1,b=>injection b with b;exact .inr ⟨rfl,b.zy⟩
  |k+2,b=>simp[cJ]at b
 refine⟨fun i g j h=> ?_,fun i d j h=> ?_,m.zy,aq,fun x f p=> ?_,fun k x f u=> ?_,fun k s _=> ?_⟩;rw[c]at j h;exact Vt j h;rw[c]at j h;exact Vu j h;rcases t x f with e|e
 rw[e,c,m];show(∀a∈unionB (symsS jt),_)/\(unionB (symsS jt)).length<=64
 rw[CP];refine⟨fun a q=> ?_,aq⟩;obtain rfl:=by simpa using q
 rw[zv];simp;rw[e]at p;cases p;rw[c,m];rcases r k x f with⟨rfl,e⟩|⟨rfl,e⟩
 rw[e];refine⟨aq,(fun g=>by cases g),aq,fun n o=> ?_,fun _ keys v g=>Vw g⟩;obtain rfl:=by simpa[nB]using o
 rw[zv];simp;rw[e];exact⟨aq,fun _=>rfl,aq,(fun n o=>by simp[nB]at o),fun g=>by cases g⟩;rw[c];rw[m]at s;rcases(show k=0∨k=1 by omega)with rfl|rfl
 exact Vx;exact J1
def Vz{l}(b:l.map ai.t=cJ):zq l:=fun x c a=>by
 have:x.t∈cJ:=by rw[<-b];exact lY c
 simp only[cJ,bX,uh,ui]at this;rcases this with e|e
 rw[e];exact⟨vZ,aq⟩;rw[e]at a;cases a
def VA{l}(b:l.map ai.t=cJ){w w' e}(c:qv l [true,true] [2,1] CT [97] w e w'):∃r,e=.returned (.tuple #[cA ir r,.int .i64 0])/\fM w' ir r/\aR w w':=by
 have i:jH (l.map ai.t) [true,true] [2,1] [97]=0:=by rw[b];unfold jH;rw[au CQ,CR];rfl
 obtain⟨d,⟨q,j,_,m|⟨_,_,k,a,f⟩⟩|⟨_,k,a,_,r,g,h⟩⟩:=c;omega;rw[b,CR]at a;cases a
 exact absurd f aq;rw[b,CR]at a;cases a
 exact⟨r,g,h,d⟩
def J2{l}(a:l.map ai.t=cJ):ep l:=by apply FA (fun x b=>(Vp x.t (a▸lY b)).zz ad);have:=gA List.length a;rw[bn]at this;rw[this];decide
def VB{W B g c ag ac}(h:W.ownsRow B 36 4 (.slice g 1 c) 1 [.string ⟨#[98]⟩,.string ⟨#[]⟩,.slice (some ⟨ag,0,none⟩) 1 ac,.slice none 0 0])
 (f:W.ownsRow B 59 2 (.slice ag 1 ac) 1 [.string ⟨#[107]⟩,.string ⟨#[]⟩]):cE W (fun b=>B<=b) ir ⟨none,0,some ⟨g,0,none⟩,c⟩:=by
 refine .mk ⟨rfl,ay _,aH _,fun d=>absurd d aq⟩ [⟨_,ac,none,0⟩] rfl (A6 h) ?_;intro i k q a e;match i with
 |0=>
  simp at a e;subst a e;exact .mk (A6 f) [] rfl ⟨rfl,ay _,aH _,fun d=>absurd d aq⟩ (fun i k q a=>by simp at a)
 |i+1=>simp at a
end
def J4{w:World}{g e size:Nat}{xs}(b:w.heap[g]?=some (.cells xs.toArray e (0,0)))(a:xs.length=size):w.ownsRow 0 e size (.slice g 1 1) 1 xs:=
 ⟨by simp[a],.inr ⟨g,1,_,rfl,aH _,b,ay _,bO,by simp[a],by rw[Nat.one_mul,<-a];simp⟩⟩
def VD:∀m∈nodesT ir,uG m:=by
 have b:nodesT ir=[ir,.mk [98] [] [([107],[])] []]:=by rfl
 rw[b];intro m a;simp at a;rcases a with rfl|rfl
 exact⟨aq,aq,aq,aq,aq⟩;exact⟨aq,aq,aq,aq,aq⟩
def VE:∀m∈nodesT ir,xz m:=by
 have b:nodesT ir=[ir,.mk [98] [] [([107],[])] []]:=by rfl
 rw[b];intro m a;simp at a;rcases a with rfl|rfl
 exact⟨aq,aq,aq,aq,aq,aq⟩;exact⟨aq,aq,aq,aq,aq,aq⟩
def VF{xs}(c:xs.map ai.t=cJ):∃d e,xs=[d,e]/\d.t=mJ/\e.t=og:=by
 match xs,c with
 |[],c=>simp[cJ]at c
 |[_],c=>simp[cJ]at c
 |[a,b],c=>simp[cJ]at c;exact⟨a,b,rfl,c.1,c.2⟩
 |_::_::_::_,c=>simp[cJ]at c
def VG w(b:Gl w):cX 5 #[] w true:=by
 have a:=N9 vY w aq (by intro c d;exact Vo c d);rw[Vn]at a;unfold vY at a;have q:=ah b;clear b
 go_in
 go_wp2_with fail
 apply a.zz;rintro e w1 ⟨xs,o,c,b,rfl,i,j⟩;obtain⟨n,p,rfl,l,m⟩:=VF b;clear b a;obtain⟨t,u,d,h⟩:=dy w1 (.cells #[.slice o 2 c] 24);have z:=ak 0 h;have f:=aE j d;have g:=i.O d;have a:[n,p].map ai.t=cJ:=by simp[l,m,cJ]
 have s:=(CM _ o c _ _ nB CT t (q.o.O f) g (J2 a) aj (fun _=>⟨Vz a,Vy a⟩) _ (by unfold maxLen;decide)).zz fun e v t=>VA a t;have⟨J,G,t,a⟩:=dE g f h s;clear s g f h i j d;go_wp2_with(first|(rw[<-u];clear u)|fail)
 apply a.o.zz;rintro e g ⟨r,d,v,y⟩;have f:e=.returned (.tuple #[.agg #[.string ⟨#[97]⟩,.string ⟨#[]⟩,.slice r.ao 0 r.ac,.slice r.ko 1 r.kc],.int .i64 0]):=d;clear d a z;subst f;have⟨a,B,h,t4⟩:=dy g (.cells #[.string ⟨#[97]⟩,.string ⟨#[]⟩,.slice r.ao 0 r.ac,.slice r.ko 1 r.kc] 36);have⟨d,f⟩:=am ((a.alloc (.cells #[.string ⟨#[107]⟩,.string ⟨#[]⟩] 59)).alloc (.cells #[.string ⟨#[98]⟩,.string ⟨#[]⟩,.slice a 1 1,.slice none 0 0] 36));have i:Below a.heap.size a d:=by rw[f];exact aP.alloc aj _
 have u:d.heap[a.heap.size]?=some (.cells #[.string ⟨#[107]⟩,.string ⟨#[]⟩] 59):=by rw[f];exact(aP.J _ aj).Z (aN a _)
 have t6:d.heap[a.heap.size+1]?=some (.cells #[.string ⟨#[98]⟩,.string ⟨#[]⟩,.slice (some ⟨a.heap.size,0,none⟩) 1 1,.slice none 0 0] 36):=by rw[f];have:=aN (cT a #[.string ⟨#[107]⟩,.string ⟨#[]⟩] 59) (.cells #[.string ⟨#[98]⟩,.string ⟨#[]⟩,.slice a 1 1,.slice none 0 0] 36);rwa[bP]at this
 have j:=(v.O h).O i;have z:=(VB (J4 t6 rfl) (J4 u rfl)).at_;have A:dB 16 #[.agg #[.string ⟨#[97]⟩,.string ⟨#[]⟩,.slice r.ao 0 r.ac,.slice r.ko 1 r.kc],.agg #[.string ⟨#[97]⟩,.string ⟨#[]⟩,.slice none 0 0,.slice (some _) 1 1]] d (zw (ir=ir) d):=
  CU _ ir ir r ⟨none,0,_,1⟩ d (ay _) j z
 have⟨C,D,E,F⟩:=dC t4;have⟨s,H,I,g,a,K⟩:=iL A y h i t4 j;clear A y h i t4 j z t6 u v;go_wp2_with(first|(rw[<-B];clear B)|(rw[<-f];clear f)|fail)
 apply s.o.zz;rintro e j ⟨⟨d,rfl,h⟩,f⟩;have i:d=true:=by first|exact h.2 rfl|simpa using h
 subst i;have t7:=(f.J _ (aI ((g.o.J _ (aI a.o)).Z a.o))).Z ((g.o.J _ (aI a.o)).Z a.o);have d:=aE (aE (aE H.o I.o) g.o) f;have i:=(d.J _ (aI t.out)).Z t.out;have g:=aE G.o d;clear C D E F h s;have⟨C,D,E,F⟩:=dC t7;have a:=ak 0 i;have a:[n,p].map ai.t=cJ:=by omega
 have h:=QB Qb QR [n,p] o c (J2 a) (by rw[a];exact CQ) (fun x b=>by
  simp at b;rcases b with rfl|rfl
  rw[l];decide;rw[m];decide) (fun x b=>by
  simp at b;rcases b with rfl|rfl
  rw[l];rfl;rw[m];rfl) [97] aq 0 (by rw[a];rfl) ir r j (q.o.O g) (J.o.O d) (K.o.O f) VD VE Vq (by rw[a];exact Vs)
 have⟨b,j⟩:=aC h g;clear h g d f t7 i a;go_wp2_with fail
 refine ar b.o ?_;intro d a;clear b
 go_wp2
 go_ret;exact⟨rfl,aE j.o a⟩
end Go.Proofs.YtfeidcmojcijpaaGreatDoor
