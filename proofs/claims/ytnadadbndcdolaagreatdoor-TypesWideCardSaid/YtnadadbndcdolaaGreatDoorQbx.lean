import Derived.Test.YtnadadbndcdolaaGreatDoorQay
import Derived.Test.YtnadadbndcdolaaGreatDoorQbb
set_option linter.unusedVariables false
set_option linter.unusedSimpArgs false
set_option maxRecDepth 100000
set_option maxHeartbeats 0
namespace Go.Proofs.YtnadadbndcdolaaGreatDoor
open Go.RowKit Tryz
def lZ(l:List aj)(w:World)(a:Ending)(w':World):Prop:=∃v,a=.returned (.tuple #[.agg #[v],.int .i64 0])/\cj w' w.heap.size v l/\Below w.heap.size w w'
theorem Sn(l:List aj)(o:Option Addr)(c:Nat)(w:World)(b:cO w o c l)(M:l.length<=1048576)(N:1<=l.length):
 Calls prog 43 #[.slice o l.length c] w fun y w'=>∃r,y=.returned r/\cj w' w.heap.size r l/\Below w.heap.size w w':=by
 obtain⟨g,q,rfl,L,p⟩:=b.2.2.2 ad;have O:=b.2.1;have K:=b.2.2.1;have e:∀j u,(l.flatMap nodeRow)[j]?=some u->(w.alloc (.cells #[] 102)).cell? ((⟨g,q,none⟩:Addr).add j)=some u:=by intro j u B;rw[BL];exact IA _ (p j u B)
 have i:∀u∈l.flatMap nodeRow,u.oneCell'=true:=by intro u E;obtain⟨n,_,C⟩:=rL.1 E;exact Di n u C
 obtain⟨I,A,F,G,H⟩:=cY vz;have h:=sE l;have Q:∀(w:World) (a:Option Addr) (n c n' d:Nat),(binOp .eql 49 (.slice a n c) (.slice none n' d)).run prog w=.ok (.bool a.isNone) w:=fun w a n c n' d=>xQ w _ _ a n c n' d rN;obtain⟨xs,m⟩:=ar (l.flatMap nodeRow);rw[<-m]at e i h;obtain⟨x,t,s,v⟩:=cr m h e i;clear b m h e i p;go_enter func43,ntmps43
 go_wp2_with(first
  |(at_builtin;go_must (refine jh _ rfl _ _ 49 rfl w.heap.size 102 I (.agg #[.int .i64 0,.string ⟨#[]⟩,.int .i64 0,.int .i64 0]) 4 40 rN A F G H rfl ap _ _ _ rfl (Bi w #[] 0 (az _) (aZ _) rfl) ⟨g,q,none⟩ l.length c xs rfl t.o s.o v.o bI ad ak ?_);intro J R D z P)
  |go_in)
 go_ret;refine⟨J,rfl,?_,?_⟩
 ·unfold cj;rw[<-x.o];simpa using D
 ·exact aG.grown z ak (by intro k f;injection f with f;subst f;exact az _)
theorem So(c a:Int)(w:World):Calls prog 95 #[.int .i64 c,.int .i64 a,.slice none 0 0] w fun b w'=>∃v,b=.returned (.tuple #[v,.bool true])/\cj w' w.heap.size v [⟨a,[],0,0⟩]/\Below w.heap.size w w':=by
 go_enter func95,ntmps95
 go_wp2
 go_ret2
 exact⟨_,rfl,vA w ⟨a,[],0,0⟩ _ (az _),aG⟩
theorem Sp(s e:Int)(w:World):Calls prog 40 #[.int .i64 s,.int .i64 e,.slice none 0 0] w (lZ [⟨e,[],0,0⟩] w):=by
 obtain⟨t,r,n,o⟩:=cm w (.cells #[.slice none 0 0] 51);have p:=So s e t;obtain⟨l,f,h⟩:=bH p n o;clear p n o;go_enter func40,ntmps40
 go_wp2_with(first|(rw[<-r];clear r)|fail)
 go_loopw [8,16] (fun E D wr=>E=.slice none 0 0/\D=.int .i64 0/\wr=t) (fun _ _ _=>0)
 case atStart=>exact⟨rfl,rfl,rfl⟩
 case round=>
 obtain⟨rfl,rfl,q⟩:=hrel;rw[q];clear q wr;go_wp2_with fail
 refine l.o.mono ?_;rintro y j ⟨v,rfl,i,c⟩;obtain⟨b,a,rfl⟩:=bL i;have d:=(c.block _ (ax h.out)).trans h.out;have H:=ai 0 d;have f0:=aT d 0;obtain⟨m,u,G,x⟩:=cr i (f.out.trans (c.mono f.out.size)) c d;clear i c d l;go_wp2_with fail
 have z:(j.setCell ⟨w.heap.size,0,none⟩ (.slice b 1 a)).heap[w.heap.size]?=some (.cells #[.slice b 1 a] 51):=bn _ _ 0 _ x.out;have F:=ai 0 z;have B:lZ [⟨e,[],0,0⟩] w (.returned (.tuple #[.agg #[.slice b 1 a],.int .i64 0])) (j.setCell ⟨w.heap.size,0,none⟩ (.slice b 1 a)):=by refine⟨_,rfl,?_,u.out.setCell (az _) _⟩;have A:=aP m.o (W':=j.setCell ⟨w.heap.size,0,none⟩ (.slice b 1 a)) (fun g C=>aS _ _ _ _ _ (fun y=>by have:=(aF m.o C).1;have:=ax h.out;omega));exact dR A f.out.size
 (try simp only[Exit.inBlock,Exit.then])
 exact cg (v:=.tuple #[.agg #[.slice b 1 a],.int .i64 0]) (by simp[results,results40,go_sem,F,ya]) rfl B
theorem Sq{l:List aj}(b:bG l=0):dA l:=by
 intro i n d;have a:=iM l 0 i n (mj (by
  unfold bG at b;split at b
  ·exact absurd b ap
  ·split at b
   ·exact absurd b ap
   ·rename_i c;simpa using c)).ok d
 rw[cD]at a;unfold dO dy at a;split at a
 ·simp at a;omega
 split at a
 ·simp at a;omega
 split at a
 ·simp at a;omega
 split at a
 ·simp at a;omega
 ·cases a
theorem Sr{w:World}{B:Nat}{v:Value}{ps:List PV}(a:w.ownsRow B 49 1 v ps.length (ps.map pvVal))(m:∀p∈ps,cO w p.o p.c p.l)(e:1<=ps.length):∃o c,v=.slice o ps.length c/\ny w o c ps:=by
 obtain⟨g,d,n,q,h,l,f⟩:=pB a e;subst n;refine⟨_,d,rfl,⟨ak,l,f,fun _=>⟨g,0,rfl,h,fun j u b=> ?_⟩⟩,m⟩;rw[cD];have i:j<ps.length*1:=by have:=(aL.1 b).1;simpa using this
 exact(rH a j i).trans b
def G7(a:World)(ps:List PV)(c b:Value)(wr:World):Prop:=∃k:Nat,b=.int .i64 (k:Nat)/\k<=ps.length/\wr.ownsRow a.heap.size 49 1 c k ((ps.take k).map pvVal)/\Below a.heap.size a wr
theorem Ss(V T:Int)(ps:List PV)(x:Nat)(b:List aj)(a2:dX V T (ps.map PV.l)=some b)(D:1<=ps.length)(b4:ps.length<=8)(w:World)(N:w.heap[x]?=some (.cells (ps.map pvVal).toArray 51))(Q:∀p∈ps,cO w p.o p.c p.l/\bG p.l=0/\p.l.length<=1024/\∀n∈p.l,n.sym.length<=1048576):
 Calls prog 40 #[.int .i64 V,.int .i64 T,.slice (some ⟨x,0,none⟩) ps.length ps.length] w (lZ b w):=by
 obtain⟨e,a9,y,ag⟩:=cm w (.cells #[.slice none 0 0] 51);obtain⟨bE,bw,bB,bC,bD⟩:=cY Do;obtain⟨H,I,be⟩:=bH y ag a2;have Y:Hid (∀G,Below e.heap.size e G->G.heap[x]?=some (.cells (ps.map pvVal).toArray 51)/\∀p∈ps,cO G p.o p.c p.l):=ah fun G bi=>by have a1:=y.trans (bi.mono y.size);exact⟨(a1.block _ (ax N)).trans N,fun p c=>((Q p c).1).below a1⟩
 have X:=ah Q;clear y ag a2 Q N;go_enter func40,ntmps40
 go_wp2_with(first|(rw[<-a9];clear a9)|fail)
 go_loopw [8,16] (fun bF S wr=>G7 e ps bF S wr) (fun _ S _=>ps.length-(intOf S).toNat)
 case atStart=>exact⟨0,rfl,aZ _,dc _ _ _ _,aE _ _⟩
 case round=>
 obtain⟨k,rfl,b6,a,h⟩:=hrel;obtain⟨F,E,rfl⟩:=bL a;by_cases a4:k<ps.length
 ·obtain⟨p,c⟩:∃p,ps[k]?=some p:=⟨_,aH a4⟩
  obtain⟨a0,aq⟩:=Y.o wr h;obtain⟨_,ao,b7,a8⟩:=X.o p (aX c);have cc:wr.cell? ⟨x,k,none⟩=some (.slice p.o p.l.length p.c):=by rw[ai k a0,gU,bW,c];rfl
  obtain⟨m,ba,f,d⟩:=cm wr (.cells #[.slice p.o p.l.length p.c] 51);have O:=qu p.l p.o p.c m ((aq p (aX c)).below f) a8;rw[ao]at O;have Z:=ah O;have af:=ai 0 d;have a5:m.ownsRow e.heap.size 49 1 (.slice F k E) k ((ps.take k).map pvVal):=aP a (fun q r=>f.block q (aF a r).2);obtain⟨ae,J,t,bf⟩:=cr a5 (aO h f) d c;have b8:(0:Int)<=k:=ad;have b9:(k:Int)<ps.length:=ad;clear O d f a h a5 a0 aq ao c a8;go_wp2_with(first|(rw[<-ba];clear ba)|fail)
  refine Z.o.mono ?_;rintro B s ⟨rfl,A⟩;have C:=(A.block _ (ax t.out)).trans t.out;have b3:=ai 0 C;have P:s.ownsRow e.heap.size 49 1 (.slice F k E) k ((ps.take k).map pvVal):=aP ae.o (fun q r=>A.block q (aF ae.o r).2);have al:=aO J.o A;obtain⟨bc,R,K⟩:=dF s (.cells #[.slice p.o p.l.length p.c] 49);have a6:bc.ownsRow e.heap.size 49 1 (.slice F k E) k ((ps.take k).map pvVal):=aP P (fun q r=>K.block q (aF P r).2);have M:=aO al K;have an:=M.size;have bz:∀j u,[Value.slice p.o p.l.length p.c][j]?=some u->bc.cell? ((⟨s.heap.size,0,none⟩:Addr).add j)=some u:=by rw[R];exact dK s [.slice p.o p.l.length p.c] 49 _ rfl
  have bd:=ah M;clear C P al K A M af Z;go_wp2_with(first
   |(rw[<-R];clear R)
   |(at_builtin;go_must (refine jh _ rfl _ _ 163 rfl e.heap.size 49 bE (.slice none 0 0) 1 24 Bl bw bB bC bD rfl ap _ _ _ rfl a6 ⟨s.heap.size,0,none⟩ 1 1 [.slice p.o p.l.length p.c] rfl rfl bz (fun z bb=>by simp at bb;subst bb;rfl) bI ad an ?_);intro b0 b1 a7 a3 bA)
   |fail)
  have bg:Hid (G7 e ps b0 (.int .i64 ((k:Int)+1)) b1):=ah ⟨k+1,aV,a4,by rw[bV,bf.o,iH];exact a7,bd.o.grown a3 an (fun q B=>(aF a6 B).1)⟩
  clear a7 a3 bA;go_roundw
  case rel=>exact bg.o
  case measure=>exact bh
 ·obtain rfl:k=ps.length:=ad
  rw[kH]at a;obtain⟨ca,af,bl,av⟩:=Sr a (Y.o wr h).2 D;injection bl with bo b5 bq
  subst bo bq;have o:=vB V T ps F E wr av ad (fun p c=>by obtain⟨_,bZ,cb,_⟩:=X.o p c;exact⟨Sq bZ,ad⟩) D
  unfold nA at o;rw[be.o]at o;simp only at o;obtain⟨aa,W⟩:=aD o h;clear o av a h;go_wp2_with fail
  refine aa.o.mono ?_;rintro B m ⟨⟨v,rfl,a⟩,f⟩;obtain⟨l,i,rfl⟩:=bL a;have L:=aO W.o f;have d:=(L.block _ (ax I.out)).trans I.out;have b2:=ai 0 d;have f0:=aT d 0;obtain⟨ab,J,t⟩:=bH (dR a W.o.size) L d;clear a f d aa L;go_wp2_with fail
  have C:(m.setCell ⟨w.heap.size,0,none⟩ (.slice l b.length i)).heap[w.heap.size]?=some (.cells #[.slice l b.length i] 51):=bn _ _ 0 _ t.out;have bN:=ai 0 C;have bt:lZ b w (.returned (.tuple #[.agg #[.slice l b.length i],.int .i64 0])) (m.setCell ⟨w.heap.size,0,none⟩ (.slice l b.length i)):=by refine⟨_,rfl,?_,(H.out.trans (J.o.mono H.out.size)).setCell (az _) _⟩;have D:=aP ab.o (W':=m.setCell ⟨w.heap.size,0,none⟩ (.slice l b.length i)) (fun g bu=>aS _ _ _ _ _ (fun B=>by have:=(aF ab.o bu).1;have:=ax I.out;omega));exact dR D H.out.size
  (try simp only[Exit.inBlock,Exit.then])
  exact cg (v:=.tuple #[.agg #[.slice l b.length i],.int .i64 0]) (by simp[results,results40,go_sem,bN,ya]) rfl bt
theorem G8{a:List aj}{w e d:World}{c:Option Addr}{b:Nat}(f:Below w.heap.size w e)(h:e.heap[w.heap.size]?=some (.cells #[.slice none 0 0] 51))(j:cj d e.heap.size (.slice c a.length b) a)(i:Below e.heap.size e d):
 (d.setCell ⟨w.heap.size,0,none⟩ (.slice c a.length b)).cell? ⟨w.heap.size,0,none⟩=some (.slice c a.length b)/\lZ a w (.returned (.tuple #[.agg #[.slice c a.length b],.int .i64 0])) (d.setCell ⟨w.heap.size,0,none⟩ (.slice c a.length b)):=by
 have l:=(i.block _ (ax h)).trans h;have m:(d.setCell ⟨w.heap.size,0,none⟩ (.slice c a.length b)).heap[w.heap.size]?=some (.cells #[.slice c a.length b] 51):=bn _ _ 0 _ l;refine⟨ai 0 m,_,rfl,?_,(f.trans (i.mono f.size)).setCell (az _) _⟩;have n:=aP j (W':=d.setCell ⟨w.heap.size,0,none⟩ (.slice c a.length b)) (fun g o=>aS _ _ _ _ _ (fun p=>by have:=(aF j o).1;have:=ax h;omega));exact dR n f.size
theorem Su(w:World):Calls prog 17 #[.slice none 0 0] w (lZ [dQ] w):=by
 obtain⟨e,l,g,h⟩:=cm w (.cells #[.slice none 0 0] 51);have j:Calls prog 40 #[.int .i64 3,.int .i64 1,.slice none 0 0] e (lZ [dQ] e):=Sp 3 1 e;obtain⟨f,n,a⟩:=bH j g h;clear j g h;go_enter func17,ntmps17
 go_wp2_with(first|(rw[<-l];clear l)|fail)
 refine f.o.mono ?_;rintro s t ⟨v,rfl,d,b⟩;obtain⟨q,p,rfl⟩:=bL d;have c:=(b.block _ (ax a.out)).trans a.out;have r:=ai 0 c;have f0:=aT c 0;obtain⟨m,i⟩:=G8 n.out a.out d b;have o:=ah i;clear d b c f i;go_wp2_with fail
 (try simp only[Exit.inBlock,Exit.then])
 exact cg (v:=.tuple #[.agg #[.slice q [dQ].length p],.int .i64 0]) (by simp only[db,ge]at m;simp[results,results17,go_sem,m,ya]) rfl o.o
theorem Sv(ps:List PV)(d:Nat)(a:List aj)(m:dX 4 0 (ps.map PV.l)=some a)(x:1<=ps.length)(y:ps.length<=8)(w:World)(g:w.heap[d]?=some (.cells (ps.map pvVal).toArray 51))(i:∀p∈ps,cO w p.o p.c p.l/\bG p.l=0/\p.l.length<=1024/\∀n∈p.l,n.sym.length<=1048576):
 Calls prog 18 #[.slice (some ⟨d,0,none⟩) ps.length ps.length] w (lZ a w):=by
 obtain⟨C,s,b,l⟩:=cm w (.cells #[.slice none 0 0] 51);have q:=Ss 4 0 ps d a m x y C ((b.block _ (ax g)).trans g) (fun p r=>⟨(i p r).1.below b,(i p r).2⟩);obtain⟨j,t,c⟩:=bH q b l;clear q b l g i m;go_enter func18,ntmps18
 go_wp2_with(first|(rw[<-s];clear s)|fail)
 refine j.o.mono ?_;rintro E F ⟨v,rfl,h,e⟩;obtain⟨B,A,rfl⟩:=bL h;have f:=(e.block _ (ax c.out)).trans c.out;have D:=ai 0 f;have f0:=aT f 0;obtain⟨z,o⟩:=G8 t.out c.out h e;have u:=ah o;clear h e f j o;go_wp2_with fail
 (try simp only[Exit.inBlock,Exit.then])
 exact cg (v:=.tuple #[.agg #[.slice B a.length A],.int .i64 0]) (by simp[results,results18,go_sem,z,ya]) rfl u.o
theorem Sw(l:List aj)(o:Option Addr)(c:Nat)(M:bG l=0)(aq:l.length<=1000)(P:1<=l.length)(w:World)(x:cO w o c l)(R:∀n∈l,n.sym.length<=1048576):
 Calls prog 19 #[.agg #[.slice o l.length c]] w (lZ (ee l) w):=by
 obtain⟨a,b⟩:=ar ((w.alloc (.cells #[.slice o l.length c] 51)).alloc (.cells #[.slice none 0 0] 51));have r:Below w.heap.size w a:=by rw[b];exact aG.alloc ak _
 have S:a.heap.size=w.heap.size+2:=by rw[b];simp
 have u:a.heap[w.heap.size]?=some (.cells #[.slice o l.length c] 51):=by rw[b];exact(bk _ _ _ ak).trans (aB w _)
 have J:a.heap[w.heap.size+1]?=some (.cells #[.slice none 0 0] 51):=by rw[b];have:=aB (w.alloc (.cells #[.slice o l.length c] 51)) (.cells #[.slice none 0 0] 51);rwa[bj]at this
 have y:=qu l o c a (x.below r) R;rw[M]at y;have F:=ah y;have Z:=ai 0 u;obtain⟨h,C,D,X,I⟩:=jJ r u J x S;have av:((l.length:Int)==1024)=false:=gK;clear y r u J x R M S;go_enter func19,ntmps19
 go_wp2_with(first|(rw[<-b];clear b)|fail)
 refine F.o.mono ?_;rintro f T ⟨rfl,j⟩;have K:=(j.block _ (ax C.out)).trans C.out;have aa:=ai 0 K;have N:=Sn l o c T (X.o.below (h.out.trans (j.mono h.out.size))) ad P;obtain⟨G,i⟩:=aD N j;clear K Z j N F;go_wp2_with fail
 refine G.o.mono ?_;rintro f an ⟨v,rfl,z,s⟩;have Q:=yI T.heap.size l v an z s.size ad P;obtain⟨H,Y,B⟩:=bH Q z (i.out.trans (s.mono i.out.size));clear s z Q G aa;go_wp2_with fail
 refine H.o.mono ?_;rintro f p ⟨a0,rfl,A,O⟩;obtain⟨e,d,rfl⟩:=bL A;have t:Below a.heap.size a p:=B.out.grown O B.out.size (fun q f=>by have:=(aF Y.o f).1;have:=i.out.size;omega);have m:=(t.block _ (ax D.out)).trans D.out;have ao:=ai 0 m;have f4:=aT m 0;have L:=dR A i.out.size;obtain⟨E,V,W⟩:=bH L t m;clear A O t m L H;go_wp2_with fail
 have ab:(p.setCell ⟨w.heap.size+1,0,none⟩ (.slice e (ee l).length d)).heap[w.heap.size+1]?=some (.cells #[.slice e (ee l).length d] 51):=bn _ _ 0 _ W.out;have al:=ai 0 ab;have af:lZ (ee l) w (.returned (.tuple #[.agg #[.slice e (ee l).length d],.int .i64 0])) (p.setCell ⟨w.heap.size+1,0,none⟩ (.slice e (ee l).length d)):=by refine⟨_,rfl,?_,(h.out.trans (V.out.mono h.out.size)).setCell ak _⟩;have ae:=aP E.o (W':=p.setCell ⟨w.heap.size+1,0,none⟩ (.slice e (ee l).length d)) (fun g ag=>aS _ _ _ _ _ (fun f=>by have:=(aF E.o ag).1;have:=I.out;omega));exact dR ae (by rw[I.out];omega)
 (try simp only[Exit.inBlock,Exit.then])
 exact cg (v:=.tuple #[.agg #[.slice e (ee l).length d],.int .i64 0]) (by simp[results,results19,go_sem,al,ya]) rfl af
end Go.Proofs.YtnadadbndcdolaaGreatDoor
