import Derived.Test.YtfeidcmojcijpaaGreatDoorQbu
import Derived.Test.YtfeidcmojcijpaaGreatDoorQbv
import Derived.Test.YtfeidcmojcijpaaGreatDoorQbw
import Derived.Test.YtfeidcmojcijpaaGreatDoorQbx
set_option linter.all false
set_option maxRecDepth 100000
set_option maxHeartbeats 0
namespace Go.Proofs.YtfeidcmojcijpaaGreatDoor
open Go.RowKit Tryz
section
open Wey
def ju:Tr:=.mk [] [] [] []
def jI:KA:=⟨none,0,none,0⟩
def J6(w:World):fM w ju jI:=
 (cE.mk (P:=fun _=>True) ⟨rfl,ay _,aH _,fun a=>absurd a aq⟩ [] rfl ⟨rfl,ay _,aH _,fun a=>absurd a aq⟩ (fun i k q b=>by simp at b)).at_
def VR(w:World):Calls prog 10 #[cA ju jI] w fun e w'=>e=.returned (.bool true)/\Below w.heap.size w w':=by
 obtain⟨a,f,c,d⟩:=dy w (.cells ik 36);have g:=CU _ ju ju jI jI a (ay _) (J6 a) (J6 a);unfold cA ju jI at*;simp only[Tr.zv,Tr.text,Tr.zx,Tr.zs]at*;obtain⟨m,n,o,p⟩:=dC d;obtain⟨i,h⟩:=aC g c;clear g c d;go_enter func10,ntmps10
 go_wp2_with(first|(rw[<-f];clear f)|fail)
 refine i.o.zz ?_;rintro e q ⟨⟨b,rfl,j⟩,l⟩;have:b=true:=j.2 trivial;subst this
 go_wp2
 go_ret;exact⟨rfl,aE h.out l⟩
def we(w:World):Calls prog 10 #[.agg ik] w fun e w'=>e=.returned (.bool true)/\Below w.heap.size w w':=VR w
def J7{l:List ai}{hv:List Bool}{nd:List Nat}{a:Nat->Tr}{n:Bytes}{w w':World}{e:Ending}(c:qv l hv nd a n w e w'):∃(b:Tr) (r:KA) (q:Int),e=.returned (.tuple #[cA b r,.int .i64 q])/\Below w.heap.size w w'/\
 ((q≠0/\b=ju/\r=jI/\(jH (l.map ai.t) hv nd n=q∨(jH (l.map ai.t) hv nd n=0/\q=17/\∃k,placeS (l.map ai.t) n=some k/\32<dh (a k))))∨
   (q=0/\jH (l.map ai.t) hv nd n=0/\∃k,placeS (l.map ai.t) n=some k/\dh (a k)<=32/\b=a k/\fM w' b r)):=by
 obtain⟨f,⟨q,j,d,c⟩|⟨g,k,h,i,r,d,m⟩⟩:=c;exact⟨ju,jI,q,d,f,.inl ⟨j,rfl,rfl,c⟩⟩;exact⟨a k,r,0,d,f,.inr ⟨rfl,g,k,h,i,rfl,m⟩⟩
def VS{ts:List aB}{hv:List Bool}{nd:List Nat}{n:Bytes}(a:bY ts=0)(b:placeS ts n=none):jH ts hv nd n=16:=by unfold jH;rw[au a,b]
def VT{ts:List aB}{hv:List Bool}{nd:List Nat}{n:Bytes}{k:Nat}(a:bY ts=0)(b:placeS ts n=some k):jH ts hv nd n=if hv.getD k false=true then(if nd.getD k 0<=4096 then 0 else 17)else 18:=by unfold jH;rw[au a,b]
def VU{ys:List ai}{N:List Nat}(c:bY (ys.map ai.t)=0)(b:ep ys)(s:∀x∈ys,x.t.E.length<=20)(t:jZ (ys.map ai.t) N)(H:oa (ys.map ai.t) N){a:Nat->List Bytes}(K:∀k,(a k).length<=20)(u:∀k,(bigL N).getD k 0<=4096->rS (ys.map ai.t) (bigL N) k (a k))(o no:Option Addr)(cap q:Nat):
 ∀k,k<ys.length/\(bigL N).getD k 0<=4096->∃x,ys[k]?=some x/\x.t.zx.length<=1048576/\(a k).length<100/\(∀n∈a k,fi (ys.map ai.t) n=(kidOf (ys.map ai.t) n:Nat)/\kidOf (ys.map ai.t) n<ys.length/\(bigL N).getD (kidOf (ys.map ai.t) n) 0<=4096)/\(x.t.text=true->a k=[])/\
  (x.t.text=false->∀w,cw w o cap ys->gX w no q N->Calls prog 32 #[.slice o ys.length cap,.int .i64 (k:Nat),.slice no N.length q] w fun e w'=>(∃r:BR,e=.returned r.val/\k9 w.heap.size r w'/\r.ws=a k)/\Below w.heap.size w w'):=fun k d=>by
 have i:=zu c b s;have hF:rR (ys.map ai.t) (bigL N):=Cy i t H;obtain⟨⟨_,J⟩,_,_⟩:=qw c;obtain⟨x,g⟩:=aT d.1;have l:=aK g;have v:(ys.map ai.t)[k]?=some x.t:=by rw[bR,g];rfl
 have h:=u k d.2 x.t v;have Q:=K k;have j:=t.low i;refine⟨x,g,b.zx x l,ad,fun n p=> ?_,h.1,fun f w E G=> ?_⟩;obtain⟨O,R⟩:=h.2.2.2 n p;have f:x.t.text=false:=by
  cases e:x.t.text with
  |false=>rfl
  |true=>rw[h.1 e]at p;simp at p
 obtain⟨C,D,_⟩:=zt c b l f O;exact⟨C,D,ad⟩;obtain⟨y,z,A,B⟩:=JV c b s l f;refine(JA ys o cap w E J k x g y z A B N (by rw[j.len,bn]) j.le no q G).zz ?_;rintro e w' ⟨⟨⟨P,S,V,T⟩,rfl,M,F⟩,I⟩;refine⟨⟨_,rfl,M,?_⟩,I⟩;obtain⟨m,e⟩:=(Jj i hF j.len (u k d.2) v f d.2 F).1;unfold BR.o gJ at e;cases P with
 |true=>simp at e;exact e.2
 |false=>simp at e
def VV(l:List ai)(o:Option Addr)(cap:Nat)(n:Bytes)(gr:n.length<=maxLen)(w:World)(a5:Gl w)(al:cw w o cap l):
 Calls prog 3 #[.agg #[.slice o l.length cap],.string ⟨n.toArray⟩] w fun e w'=>e=.returned (.bool true)/\Below w.heap.size w w':=by
 obtain⟨w1,g0,a4,ed⟩:=dy w (.cells #[.slice o l.length cap] 24);have c8:∀w',Below w1.heap.size w1 w'->w'.cell? ⟨w.heap.size,0,none⟩=some (.slice o l.length cap):=fun w' I=>ak 0 ((I.J _ (aI ed)).Z ed);have fz:∀w',Below w1.heap.size w1 w'->Calls prog 5 #[] w' fun e g4=>e=.returned (.bool true)/\Below w.heap.size w g4:=fun w' I=>(VG w' (a5.O (aE a4 I))).zz fun e g4 ⟨i,s⟩=>⟨i,aE a4 (aE I s)⟩;have B:=c8 w1 (aA _ _);obtain⟨b8,b5,ab,b1,cq,eE⟩:=iL (VP l o cap w1 (al.O a4)) c8 fz (al.O a4) (a5.O a4) gr;clear a4 ed al a5 c8 fz gr;go_enter func3,ntmps3
 go_wp2_with(first|(rw[<-g0];clear g0)|fail)
 refine ar b8.o ?_;intro g8 c9;have b0:=ah c9;clear B b8 c9;cases dr:rW (l.map ai.t)with
 |false=>
  clear dr;go_wp2_with fail
  refine ar (ab.o _ b0.o) ?_;intro bE X
  go_wp2
  go_ret;exact⟨rfl,X⟩
 |true=>
 obtain⟨fo,D⟩:=VQ dr;have c5:=Oe D;have c3:∀x∈l,x.t.E.length<=20:=fun x m=>fo x.t (lY m);have fr:l.length<=8/\∀x∈l,x.t.zx.length<=5:=by unfold mf at D;rw[cM,ke,bn]at D;refine⟨kE D.2,fun x m=> ?_⟩;have:=D.1 x.t (lY m);unfold kS at this;simp only[cM]at this;exact kE this.1.1.1.1.1
 obtain⟨fr,u⟩:=fr;obtain⟨fb,G,aa,hg⟩:=dE (Ow l o cap g8 (b1.o.O b0.o) c5 (fun x m=>by have:=c3 x m;omega)) c5 c3 u;have B:=b5.o g8 b0.o;clear dr fo D c5 c3 u;go_wp2_with fail
 refine fb.o.zz ?_;rintro e cd ⟨ys,ba,a9,rfl,ea,fv,fL⟩;obtain⟨p,f,b2⟩:=bm (aE b0.o fL) ea fv;have g2:ys.length=l.length:=by have:=gA List.length ea;rwa[bn,bn]at this
 have be:=ah g2;clear fL ea fv g2 fb B;have B:=b5.o cd p.o;obtain⟨E,c4⟩:=am (bY (l.map ai.t));have a2:=ah c4;have e8:Hid (∀F,Below cd.heap.size cd F->Calls prog 9 #[.slice ba ys.length a9] F fun e w'=>e=.returned (.int .i64 E)/\Below F.heap.size F w'):=ah fun F I=>by have:=OS ys ba a9 F (b2.o.O I) (A3 f.o G.o) (fun y a0=>by obtain⟨x,m,e⟩:=yh f.o a0;rw[<-e];have:=aa.o x m;omega);rw[FN,f.o,<-c4]at this;exact this
 have T:=fun hF=>ah (Va l o cap cd (cq.o.O p.o) (b1.o.O p.o) G.o ad hF);clear c4;by_cases an:E=0;rotate_left
 ·have hW:(E==0)=false:=by simpa using an
  have hX:(E !=0)=true:=by simpa using an
  have hY:decide (E=0)=false:=by rw[dd];exact an
  have T:=T (fun al=>absurd (a2.o.Z al) an);have bd:=ah an;clear an;go_wp2_with fail
  refine T.o.zz ?_;rintro e bB ⟨W,⟨_,rfl⟩|⟨t,_⟩⟩;rotate_left;exact absurd (a2.o.Z t) bd.o;obtain⟨ci,hh⟩:=aC (aE p.o W) W;have bf:=ah (CM l o cap [] [] (fun _=>[]) (fun _=>ju) bB (cq.o.O ci.o) (b1.o.O ci.o) G.o ad (fun al=>absurd (a2.o.Z al) bd.o) n eE.o);rw[<-a2.o];clear W T B;have B:=b5.o bB ci.o;go_wp2_with fail
  refine bf.o.zz ?_;rintro e bE j;obtain⟨A,r,q,rfl,X,u⟩:=J7 j;have hJ:A=ju/\r=jI/\q=E:=by
   have bz:jH (l.map ai.t) [] [] n=E:=by unfold jH;rw[<-a2.o,ap bd.o]
   rw[bz]at u;rcases u with⟨_,i,s,a|⟨a,_⟩⟩|⟨_,a,_⟩
   exact⟨i,s,a.zy⟩;exact absurd a bd.o;exact absurd a bd.o
  obtain⟨rfl,rfl,rfl⟩:=hJ;have co:=ah (aE hh.o X);clear X u j bf B;unfold cA ju jI;simp only[Tr.zv,Tr.text,Tr.zx,Tr.zs,gN];obtain⟨eg,bA,ag,c⟩:=dy bE (.cells ik 36);obtain⟨bc,bb⟩:=aC (aE co.o ag) c;have hP:=gz (o:=0) (v:=.string ⟨#[]⟩) c rfl;have hQ:=gz (o:=1) (v:=.string ⟨#[]⟩) c rfl;have hR:=gz (o:=2) (v:=.slice none 0 0) c rfl;have hS:=gz (o:=3) (v:=.slice none 0 0) c rfl;obtain⟨O,P,Q,R⟩:=dC c;have f0:=aJ c 0;have f1:=aJ c 1;have f2:=aJ c 2;have f3:=aJ c 3;have b7:=ah (e8.o eg bc.o);clear ag c;go_wp2_with(first|(rw[<-bA];clear bA)|fail)
  refine ar b7.o ?_;intro g9 J;have hi:=ah (aE p.o (aE bc.o J));have fl:=(J.J _ (aI bb.out)).Z bb.out;clear hP hQ hR hS O P Q R f0 f1 f2 f3 J;obtain⟨O,P,Q,R⟩:=dC fl;clear fl;go_wp2_with fail
  refine ar (we _) ?_;intro cg K;go_wp2_with fail
  refine ar (ab.o _ (aE hi.o K)) ?_;intro bF z
  go_wp2
  go_ret;exact⟨rfl,z⟩
 ·subst an
  have bo:=a2.o.zy;obtain⟨hv,nd,ec,c0,gs,gv,fu,⟨h1,gg⟩,ga,⟨h2,gl⟩,gb⟩:=Vg bo G.o aa.o;have dl:zq l:=fun x m ds=>⟨(qw bo).2.1 x m ds,aa.o x m⟩;obtain⟨⟨h0,_⟩,_,_⟩:=qw bo;have T:=T (fun _=>dl);obtain⟨S,cs,fc,e2,hx,hu,hy,hw,ht⟩:=BV bo gs gv fu gg ga gl gb dl;clear bo gs gv fu gg ga gl gb dl;go_wp2_with fail
  refine T.o.zz ?_;rintro e bB ⟨W,⟨t,_⟩|⟨_,hK,H,ca,gf,fS,rfl,fy⟩⟩;exact absurd S.o t;obtain rfl:=cs.o.useful hK ca gf fS;obtain⟨ez,e3,bf⟩:=bm W fy (CM l o cap ca nd ec c0 bB (cq.o.O (aE p.o W)) (b1.o.O (aE p.o W)) G.o ad (fun _=>⟨ht.o,cs.o⟩) n eE.o);clear W T B fy gf fS;have B:=b5.o bB (aE p.o ez.o);go_wp2_with fail
  refine bf.o.zz ?_;rintro e bE j;obtain⟨A,r,q,rfl,X,fq⟩:=J7 j;obtain⟨co,e4,g⟩:=bm (aE ez.o X) (e3.o.O X) fq;clear X fq j bf B e3;unfold cA;obtain⟨eg,bA,ag,c⟩:=dy bE (.cells (zz_mt A r) 36);obtain⟨bc,e5,es,bb⟩:=dE (aE co.o ag) (e4.o.O ag) ag c;obtain⟨O,P,Q,R⟩:=dC c;have f0:=aJ c 0;have f1:=aJ c 1;have f2:=aJ c 2;have f3:=aJ c 3;have b7:=ah (e8.o eg bc.o);clear ag c;go_wp2_with(first|(rw[<-bA];clear bA)|fail)
  refine ar b7.o ?_;intro g9 J;obtain⟨eB,cN,el,hl⟩:=dE (aE bc.o J) (e5.o.O J) ((J.J _ (aI bb.out)).Z bb.out) (aE es.o J);have bt:bY (ys.map ai.t)=0:=by rw[f.o];exact S.o
  have bg:∀y∈ys,y.t.E.length<=20:=fun y a0=>by obtain⟨x,m,e⟩:=yh f.o a0;rw[<-e];exact aa.o x m
  have bi:=A3 f.o G.o;have e9:=ah (Uy ys ba a9 g9 (b2.o.O eB.o) (aQ be.o) (aQ be.o) (fun y a0 ds=>JV bt bi bg a0 ds));clear J O P Q R f0 f1 f2 f3 b7 e4 e5 es;go_wp2_with fail
  refine e9.o.zz ?_;rintro e ha ⟨er,N,rfl,bl,bq,aw⟩;rw[f.o,bn]at aw;rw[f.o]at bl bq;rw[f.o,bn];have a5:=zu S.o G.o aa.o;obtain rfl:nd=bigL N:=Tm a5 hy.o hw.o bl bq;have a7:=Tq a5 hx.o (by rw[bn];exact cN.o.len) hu.o bl bq;obtain⟨e7,eZ,e0,eD,e6,ch,et,cO⟩:=rx a7 bl bq (aE eB.o aw.base) (cN.o.O aw.base) ((aw.base.J _ (aI el.out)).Z el.out) (aE hl.o aw.base) aw;clear aw bl bq a7 bt bg bi e9 cN
  go_wp2
  go_loopw [12] (fun eb wr=>∃k:Nat,eb=.int .i64 k/\k<=l.length/\Below ha.heap.size ha wr) (fun eb _=>l.length-(intOf eb).toNat)
  case atStart=>exact⟨0,rfl,aH _,aA _ _⟩
  case round=>
  obtain⟨k,rfl,hG,Y⟩:=hrel;by_cases j:k<l.length
  ·have hD:=bC j
   have hE:=od j;have hI:=bk j;have hH:=aL k;have u0:=(e6.o.O Y).at j;have cc:=(cO.o.O Y).at j;have a7:=e7.o k;obtain⟨V,ao⟩:=am (N.getD k 0);rw[<-ao]at cc a7;obtain⟨b,I⟩:∃b,decide (0<V)=b:=⟨_,rfl⟩;have c9:decide ((0:Int)<V)=b:=by rw[<-I,ft,cf,cf];omega
   rw[a7,I]at u0;have fN:(b !=b)=false:=aj;clear ao a7
   go_wp2
   go_quiet(fail)
   go_wp2
   go_roundw
   case rel=>exact⟨k+1,aD,ad,ee Y _⟩
   case measure=>exact aM
  ·have hD:=bG j
   have hE:=mH j;clear hG j;obtain⟨ae,b4,a1,ex⟩:=dE (aE eD.o Y) (cO.o.O Y) ((Y.J _ (aI ch.out)).Z ch.out) (aE et.o Y);have dm:=A2 ys ba a9 wr (b2.o.O ae.o) (aQ be.o) n;rw[f.o,uT (uR S.o).names]at dm;have a3:=ah dm;clear dm Y cO e6 ch et eD;cases Z:placeS (l.map ai.t) n with
   |none=>
    rw[Z]at a3;have M:q=16/\A=ju/\r=jI:=by
     have h:=VS (hv:=ca) (nd:=bigL N) S.o Z;rw[h]at g;rcases g.o with⟨_,i,s,a|⟨a,_⟩⟩|⟨_,a,_⟩
     exact⟨a.zy,i,s⟩;exact absurd a aq;exact absurd a aq
    obtain⟨rfl,rfl,rfl⟩:=M;clear Z g;go_wp2_with fail
    refine ar a3.o ?_;rintro F rfl;have d:=a1.out;unfold ju jI at d;simp only[Tr.zv,Tr.text,Tr.zx,Tr.zs,gN]at d;obtain⟨O,P,Q,R⟩:=dC d;clear d;go_wp2_with fail
    refine ar (we _) ?_;intro cg K;go_wp2_with fail
    refine ar (ab.o _ (aE (aE p.o ae.o) K)) ?_;intro bF z
    go_wp2
    go_ret;exact⟨rfl,z⟩
   |some k=>
    rw[Z]at a3;have gn:k<l.length:=by have:=sF Z;rwa[bn]at this
    have h:=VT (hv:=ca) (nd:=bigL N) S.o Z;have hA:N.length=l.length:=b4.o.len;rw[e7.o k,oZ ad]at h;have cc:=b4.o.at gn;have hI:(k:Int)<l.length:=ad;have hH:=aL k;have hZ:decide ((k:Int)<0)=false:=bU;obtain⟨V,ao⟩:=am (N.getD k 0);rw[<-ao]at cc h;have hT:V<=4097:=by rw[ao];exact tP b4.o.le k
    obtain⟨hs,cu⟩:=aC ao Z;clear ao Z;by_cases av:V=0
    ·subst av
     have M:q=18/\A=ju/\r=jI:=by
      rw[ap aq]at h;rw[h]at g;rcases g.o with⟨_,i,s,a|⟨a,_⟩⟩|⟨_,a,_⟩
      exact⟨a.zy,i,s⟩;exact absurd a aq;exact absurd a aq
     obtain⟨rfl,rfl,rfl⟩:=M;clear g h;go_wp2_with fail
     refine ar a3.o ?_;rintro F rfl;have d:=a1.out;unfold ju jI at d;simp only[Tr.zv,Tr.text,Tr.zx,Tr.zs,gN]at d;obtain⟨O,P,Q,R⟩:=dC d;clear d;go_wp2_with fail
     refine ar (we _) ?_;intro cg K;go_wp2_with fail
     refine ar (ab.o _ (aE (aE p.o ae.o) K)) ?_;intro bF z
     go_wp2
     go_ret;exact⟨rfl,z⟩
    rw[ap av]at h;have hU:((V:Int)==0)=false:=by simpa using av
    have hV:(V==0)=false:=by simpa using av
    have dz:decide (0<V)=true:=bT;rw[dz,au rfl]at h;by_cases bu:V<=4096;rotate_left
    ·have hB:decide ((4096:Int)<V)=true:=bT
     have hC:decide (4096<V)=true:=bT;have M:q=17/\A=ju/\r=jI:=by
      rw[ap bu]at h;rw[h]at g;rcases g.o with⟨_,i,s,a|⟨a,_⟩⟩|⟨_,a,_⟩
      exact⟨a.zy,i,s⟩;exact absurd a aq;exact absurd a aq
     obtain⟨rfl,rfl,rfl⟩:=M;clear g h dz av bu;go_wp2_with fail
     refine ar a3.o ?_;rintro F rfl;have d:=a1.out;unfold ju jI at d;simp only[Tr.zv,Tr.text,Tr.zx,Tr.zs,gN]at d;obtain⟨O,P,Q,R⟩:=dC d;clear d;go_wp2_with fail
     refine ar (we _) ?_;intro cg K;go_wp2_with fail
     refine ar (ab.o _ (aE (aE p.o ae.o) K)) ?_;intro bF z
     go_wp2
     go_ret;exact⟨rfl,z⟩
    have hB:decide ((4096:Int)<V)=false:=bU;have hC:decide (4096<V)=false:=bU;rw[au bu]at h;have e1:=ah h;have cp:Hid ((bigL N).getD k 0<=4096):=ah (by rw[oZ ad,<-hs.o,ap av];exact bu);clear h dz av bu;have bt:bY (ys.map ai.t)=0:=by rw[f.o];exact S.o
    have bg:∀y∈ys,y.t.E.length<=20:=fun y a0=>by obtain⟨x,m,e⟩:=yh f.o a0;rw[<-e];exact aa.o x m
    have bi:=A3 f.o G.o;have c7:iE (l.map ai.t) ec k (c0 k):=cs.o.tree k gn cp.o;obtain⟨t1,t2,t3,t4⟩:=Vh S.o G.o aa.o hg.o eZ.o e0.o fc.o e2.o cp.o c7;have dn:=Vj ys ba a9 (aQ be.o) ec N (some ⟨er,0,none⟩) l.length _ (VU bt bi bg (by rw[f.o];exact eZ.o) (by rw[f.o];exact e0.o) fc.o (by rw[f.o];exact e2.o) ba (some ⟨er,0,none⟩) a9 l.length) (by rw[f.o];exact c7) ⟨by have:=be.o;omega,cp.o⟩ wr (b2.o.O ae.o) (b4.o.nums ad);rw[hA]at dn;have cP:=ah dn;have cv:=ah t1;have cx:=ah t2;have b3:=ah t3;have cG:=ah t4;clear bt bg bi c7 t1 t2 t3 t4 dn;obtain⟨af,c6⟩:=am (c0 k);rw[<-c6]at cP cv cx b3 cG;have cL:=ah c6;clear c6;go_wp2_with fail
    refine ar a3.o ?_;rintro F rfl;go_wp2_with fail
    refine cP.o.zz ?_;rintro e hN ⟨⟨cb,rfl,fs⟩,fF⟩;unfold cA;obtain⟨g5,g1,c1,c2⟩:=dy hN (.cells (zz_mt af cb) 36);have b9:=aE fF c1;have du:fM g5 af cb:=fs.tr.at_.O c1;obtain⟨cS,hm⟩:=aC (VO _ af cb g5 (ay _) du b3.o) (aE ae.o b9);have em:=ah ((b9.J _ (aI a1.out)).Z a1.out);obtain⟨hj,ek,hq⟩:=bm (aE ex.o b9) c2 du;unfold cA at cS;obtain⟨hb,hc,hd,he⟩:=dC c2;clear c1 c2 b9 du fs fF cP cc a1 ex ae;go_wp2_with(first|(rw[<-g1];clear g1)|fail)
    refine cS.o.zz ?_;rintro e hO ⟨⟨v,rfl,dq⟩,a6⟩;obtain⟨hM,hL,rfl⟩:=bs dq;obtain⟨fT,fP⟩:=Lu cx.o;have dc:=VL (fV af) hM hL hO (dY dq) b3.o cG.o fT;rw[fP,cv.o]at dc;clear fT fP;obtain⟨b6,ey,bZ,en,hk,hr⟩:=iL dc (aE hm.o a6) ((a6.J _ (aI em.out)).Z em.out) ((a6.J _ (aI ek.out)).Z ek.out) (aE hj.o a6) (hq.o.O a6);clear dc dq a6 hb hc hd he cS cv cx b3 cG;by_cases bw:32<dh af
    ·have M:q=17/\A=ju/\r=jI:=by
      rw[e1.o]at g;rcases g.o with⟨bz,i,s,a|⟨_,a,_⟩⟩|⟨_,_,g3,a,t,_⟩
      exact absurd a.zy bz;exact⟨a,i,s⟩;rw[cu.o]at a;injection a with a
      subst a;rw[<-cL.o]at t;omega
     obtain⟨rfl,rfl,rfl⟩:=M;rw[au bw]at b6;clear g bw;go_wp2_with fail
     refine ar b6.o ?_;intro g7 C;obtain⟨cl,hf⟩:=aC (aE ey.o C) ((C.J _ (aI bZ.out)).Z bZ.out);clear C;have d:=hf.out;unfold ju jI at d;simp only[Tr.zv,Tr.text,Tr.zx,Tr.zs,gN]at d;obtain⟨O,P,Q,R⟩:=dC d;clear d;go_wp2_with fail
     refine ar (we _) ?_;intro cg K;go_wp2_with fail
     refine ar (ab.o _ (aE (aE p.o cl.o) K)) ?_;intro bF z
     go_wp2
     go_ret;exact⟨rfl,z⟩
    ·have M:q=0/\A=af/\fM bE A r:=by
      rw[e1.o]at g;rcases g.o with⟨bz,i,s,a|⟨_,a,g3,t,u⟩⟩|⟨i,_,g3,a,t,u,hz⟩
      exact absurd a.zy bz;rw[cu.o]at t;injection t with t
      subst t;rw[<-cL.o]at u;exact absurd u bw;rw[cu.o]at a;injection a with a
      subst a;exact⟨i,by rw[u,cL.o],hz⟩
     obtain⟨rfl,fx,gG⟩:=M;rw[ap bw]at b6;obtain⟨hp,ho⟩:=aC fx gG;clear g bw fx gG;go_wp2_with fail
     refine ar b6.o ?_;intro g7 C;have cl:=ah (aE ey.o C);have fg:=(C.J _ (aI bZ.out)).Z bZ.out;have f13:=(C.J _ (aI en.out)).Z en.out;have D:=CU _ A af r cb g7 (ay _) (ho.o.O (aE hk.o C)) (hr.o.O C);unfold cA at D;have b8:=ah D;obtain⟨O,P,Q,R⟩:=dC fg;obtain⟨hb,hc,hd,he⟩:=dC f13;clear fg f13 D C;go_wp2_with fail
     refine b8.o.zz ?_;rintro e h3 ⟨⟨b,rfl,fO⟩,fG⟩;have fN:b=true:=fO.2 hp.o;subst fN;have hn:=ah (aE cl.o fG);clear fO fG;go_wp2_with fail
     refine ar (ab.o _ (aE p.o hn.o)) ?_;intro bF z
     go_wp2
     go_ret;exact⟨rfl,z⟩
end
end Go.Proofs.YtfeidcmojcijpaaGreatDoor
