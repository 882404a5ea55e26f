import Derived.Test.YtnadadbndcdolaaGreatDoorQar
set_option linter.unusedVariables false
set_option linter.unusedSimpArgs false
set_option maxRecDepth 100000
set_option maxHeartbeats 0
namespace Go.Proofs.YtnadadbndcdolaaGreatDoor
open Go.RowKit Tryz
theorem Ny{ks:List Tr}{i:Nat}{k:Tr}(c:ks[i]?=some k):fC (ks.take (i+1))=fC (ks.take i)+gz k:=by
 have:∀(a b:List Tr),fC (a++b)=fC a+fC b:=fun a b=>by induction a with|nil=>simp[fC]|cons x a ih=>simp only[jf,fC,ih];omega
 rw[bV,c,this];simp[fC]
theorem Nz{ks:List Tr}{i:Nat}{k:Tr}(c:ks[i]?=some k):fC (ks.take i)+gz k<=fC ks:=by
 have:∀(a b:List Tr),fC (a++b)=fC a+fC b:=fun a b=>by induction a with|nil=>simp[fC]|cons x a ih=>simp only[jf,fC,ih];omega
 have d:=(aL.1 c).1;conv=>rhs;rw[<-mQ i ks,this,rK d,(aL.1 c).2]
 simp only[fC];omega
theorem zD:∀{ks:List Tr} {k:Tr},k∈ks->fR k<=nf ks
 |a::ks,k,b=>by
  rw[nf];rcases du.1 b with rfl|b
  ·omega
  ·have:=zD b;omega
theorem EJ:∀{ks:List Tr} {d:Nat},(∀k∈ks,fR k<=d)->nf ks<=d
 |[],d,_=>by rw[nf];omega
 |a::ks,d,b=>by rw[nf];have e:=b a (dM ..);have f:=EJ (ks:=ks) (d:=d) (fun k c=>b k (dt _ c));omega
theorem EK(t:Tr):gz t=fC t.kids+1:=by cases t;rw[gz];rfl
theorem zE(t:Tr):fR t=nf t.kids+1:=by cases t;rw[fR];rfl
def zF(t:Tr)(d n a:Nat)(w:World)(b:Ending)(w':World):Prop:=
 ∃n',b=.returned (.bool (decide (fR t<=d/\gz t<=n)))/\(fR t<=d/\gz t<=n->n'=n-gz t)/\w'.heap[a]?=some (.cells #[.int .i64 (n':Nat)] 3 (0,0))/\n'<=n/\w.grownBy w' (some a)
theorem zH(w:World)(o:Obj)(a:Nat):w.grownBy (w.alloc o) (some a):=(jD w o none).but (some a)
theorem NA(e:Nat):∀(M:Nat) (t:Tr) (C:KA) (d n:Nat) (w:World),SizeOf.sizeOf t<=M->dm w (fun b=>b≠e) t C->w.heap[e]?=some (.cells #[.int .i64 (n:Nat)] 3 (0,0))->d<=1048576->n<=1048576->
 Calls prog 58 #[cP t C,.int .i64 d,.pointer (some ⟨e,0,none⟩)] w (zF t d n e w):=by
 intro M;induction M with
 |zero=>intro t C d n w T;cases t;simp at T
 |succ M ih=>
 intro t C d n w T V O b3 a8;obtain⟨rs,R,E,S⟩:=V.at_.kids;have D:∃rs:List KA,rs.length=t.kids.length/\mf w (fun b=>b≠e) C.ko t.kids.length C.kc 4 (kidRows t.kids rs)/\∀(i:Nat) (k:Tr) (q:KA),t.kids[i]?=some k->rs[i]?=some q->dm w (fun b=>b≠e) k q:=by
  cases V with
  |mk b2 rs a8 I bF=>exact⟨rs,a8,I,bF⟩
 clear S E R rs;obtain⟨rs,R,E,S⟩:=D;have H:=EK t;have s:=zE t;have ab:=fun k (I:k∈t.kids)=>(show SizeOf.sizeOf k<SizeOf.sizeOf t by obtain⟨l,x,a,ks⟩:=t;have:=IP I;simp only[Tr.kids]at this;simp only[Tr.mk.sizeOf_spec];omega)
 unfold zF;obtain⟨G,z⟩:=ar (decide (fR t<=d/\gz t<=n));rw[<-z];have z:G=true↔(fR t<=d/\gz t<=n):=by rw[z];simp
 rw[H,s]at z⊢;obtain⟨l,x,av,ks⟩:=t;obtain⟨r,ac,o,u⟩:=C;unfold cP;simp only[Tr.label,Tr.text,Tr.attrs,Tr.kids]at R E S z ab⊢;have b7:=E.2.1;have J:=E.2.2.1;unfold maxLen at J;obtain⟨F,bf,bl,bo⟩:=cr z ih T ab;clear z ih T ab H s V;have aa:=aU O;have L:(w.alloc (.cells #[.string ⟨l.toArray⟩,.string ⟨x.toArray⟩,.slice r av.length ac,.slice o ks.length u] 29)).heap[e]?=some (.cells #[.int .i64 (n:Nat)] 3 (0,0)):=(bk _ _ _ aa).trans O;have bZ:=aB w (.cells #[.string ⟨l.toArray⟩,.string ⟨x.toArray⟩,.slice r av.length ac,.slice o ks.length u] 29);have X:=zH w (.cells #[.string ⟨l.toArray⟩,.string ⟨x.toArray⟩,.slice r av.length ac,.slice o ks.length u] 29) e;have bt:(w.alloc (.cells #[.string ⟨l.toArray⟩,.string ⟨x.toArray⟩,.slice r av.length ac,.slice o ks.length u] 29)).cell? ⟨e,0,none⟩=some (.int .i64 n):=ai 0 L;have f0:(w.alloc (.cells #[.string ⟨l.toArray⟩,.string ⟨x.toArray⟩,.slice r av.length ac,.slice o ks.length u] 29)).frozen? ⟨e,0,none⟩=false:=aT L 0;go_enter func58,ntmps58
 by_cases a2:d=0
 ·have h:G=false:=by rw[<-ka,F.o];omega
  have p:=ah h;subst a2;clear h
  go_wp2
  go_ret;exact⟨n,by rw[p.o];rfl,fun g=>ad,L,az _,X⟩
 have b4:((d:Int)==0)=false:=gK;by_cases bC:n=0
 ·have h:G=false:=by rw[<-ka,F.o];omega
  have p:=ah h;subst bC;clear h a2
  go_wp2
  go_ret;exact⟨0,by rw[p.o];rfl,fun g=>ad,L,az _,X⟩
 have b9:((n:Int)==0)=false:=gK;have b0:IntKind.i64.wrap ((n:Int)-1)=(n:Int)-1:=rM _ ad;have b1:IntKind.i64.wrap ((d:Int)-1)=(d:Int)-1:=rM _ ad;go_wp2_with fail
 have bN:(w.setCell ⟨e,0,none⟩ (.int .i64 ((n:Int)-1))).heap.size=w.heap.size:=by simp[World.setCell]
 have bb:((w.setCell ⟨e,0,none⟩ (.int .i64 ((n:Int)-1))).alloc (.cells #[.string ⟨l.toArray⟩,.string ⟨x.toArray⟩,.slice r av.length ac,.slice o ks.length u] 29)).heap[e]?=some (.cells #[.int .i64 ((n:Int)-1)] 3 (0,0)):=by refine(bk _ _ _ (by rw[bN];exact aa)).trans ?_;rw[heap_setCell_same _ _ _ _ _ _ O];rfl
 have a4:w.grownBy ((w.setCell ⟨e,0,none⟩ (.int .i64 ((n:Int)-1))).alloc (.cells #[.string ⟨l.toArray⟩,.string ⟨x.toArray⟩,.slice r av.length ac,.slice o ks.length u] 29)) (some e):=(grownBy_setCell' w e _).trans (zH _ _ _);obtain⟨cb,bc⟩:=ar (((w.setCell ⟨e,0,none⟩ (.int .i64 ((n:Int)-1))).alloc (.cells #[.string ⟨l.toArray⟩,.string ⟨x.toArray⟩,.slice r av.length ac,.slice o ks.length u] 29)));rw[<-bc]at bb a4⊢;have a6:∀y,w.grownBy y (some e)->∀(i:Nat) (k:Tr),ks[i]?=some k->∃b f q,o=some ⟨b,f,none⟩/\y.cell? ⟨b,f+i*4,none⟩=some (.string ⟨k.label.toArray⟩)/\y.cell? ⟨b,f+i*4+1,none⟩=some (.string ⟨k.text.toArray⟩)/\y.cell? ⟨b,f+i*4+2,none⟩=some (.slice q.ao k.attrs.length q.ac)/\y.cell? ⟨b,f+i*4+3,none⟩=some (.slice q.ko k.kids.length q.kc)/\dm y (fun b=>b≠e) k q:=by intro y W i k j;have a7:∀b f,b<w.heap.size->b≠e->y.cell? ⟨b,f,none⟩=w.cell? ⟨b,f,none⟩/\b≠e:=fun b f K N=>⟨dD (W.block b K (fun g=>N (by injection g))),N⟩;have bE:=(E.kept (Q:=fun b=>b≠e) W.size a7).row;obtain⟨b,f,q,bD,g,_,ae,af,ag,al⟩:=nh R bE j;exact⟨b,f,q,g,ae,af,ag,al,(S i k q j bD).kept W.size a7⟩
 have bg:=ah a6;clear bc a6 bZ X L bt f0 O aa;go_loopw [25] (fun v wr=>∃(i m:Nat),v=.int .i64 i/\i<=ks.length/\wr.heap[e]?=some (.cells #[.int .i64 (m:Nat)] 3 (0,0))/\m+fC (ks.take i)+1=n/\Hid (∀k∈ks.take i,fR k<=d-1)/\w.grownBy wr (some e)) (fun v _=>ks.length-(intOf v).toNat)
 case atStart=>exact⟨0,n-1,rfl,aZ _,by rw[bb];congr 3;simp;omega,by simp[fC];omega,fun k I=>by simp at I,a4⟩
 case round=>
  obtain⟨i,m,rfl,b5,P,bB,an,Y⟩:=hrel;by_cases K:i<ks.length
  ·have bu:decide ((i:Int)<ks.length)=true:=bQ
   have b6:(i:Int)<ks.length:=ad;obtain⟨k,j⟩:∃n,ks[i]?=some n:=⟨_,aH K⟩;obtain⟨b,f,q,rfl,ae,af,ag,al,aq⟩:=bg.o wr Y i k j;have J:=aX j;have H:=Ny j;have a1:=Nz j;have a3:=zD J;have bA:=Y.trans (zH wr (.cells #[.string ⟨k.label.toArray⟩,.string ⟨k.text.toArray⟩,.slice q.ao k.attrs.length q.ac,.slice q.ko k.kids.length q.kc] 29) e);have ba:(wr.alloc (.cells #[.string ⟨k.label.toArray⟩,.string ⟨k.text.toArray⟩,.slice q.ao k.attrs.length q.ac,.slice q.ko k.kids.length q.kc] 29)).heap[e]?=some (.cells #[.int .i64 (m:Nat)] 3 (0,0)):=(bk _ _ _ (aU P)).trans P;have a0:=aq.kept (w':=wr.alloc (.cells #[.string ⟨k.label.toArray⟩,.string ⟨k.text.toArray⟩,.slice q.ao k.attrs.length q.ac,.slice q.ko k.kids.length q.kc] 29)) (Q:=fun b=>b≠e) ak (fun b f K N=>⟨dD (bk _ _ _ K),N⟩);have D:=bf.o k q (d-1) m _ (by have:=bo.o k J;have:=bl.o;omega) a0 ba ad ad;rw[show(((d-1:Nat)):Int)=(d:Int)-1 by omega]at D;unfold zF cP at D;have bd:fR k<=d-1->∀c∈ks.take (i+1),fR c<=d-1:=fun g c A=>by
    rw[bV,j]at A;rcases fA.1 A with A|A
    ·exact an.o c A
    ·simp at A;subst A;exact g
   obtain⟨bq,ao⟩:=aD bd (And.intro H (And.intro a1 a3));clear bd H a1 a3 j J aq a0 P ba;go_wp2_with fail
   refine D.mono ?_;rintro g cc ⟨n',rfl,Z,a9,b8,bz⟩;clear D ae af ag al;have a5:=bA.trans bz;by_cases B:fR k<=d-1/\gz k<=m
   ·have s:decide (fR k<=d-1/\gz k<=m)=true:=lm B
    rw[s];have ca:=Z B;obtain⟨bi,be⟩:=aD B (bq.o B.1);clear s Z B
    go_wp2
    go_roundw
    case rel=>exact⟨i+1,n',aV,ad,a9,by have:=ao.o.1;have:=bi.o.2;omega,be.o,a5⟩
    case measure=>exact bh
   ·have s:decide (fR k<=d-1/\gz k<=m)=false:=l6 B
    rw[s];have h:G=false:=by rw[<-ka,F.o];have:=ao.o.2;omega
    have p:=ah h;clear s Z B h
    go_wp2
    go_ret;refine⟨n',by rw[p.o];rfl,fun g=> ?_,a9,ad,a5⟩;exact absurd (F.o.2 g) (by rw[p.o];decide)
  ·have bu:decide ((i:Int)<ks.length)=false:=bK
   have bw:nf ks<=d-1:=EJ (by have:=an.o;rwa[dh ad]at this);rw[dh ad]at bB;have h:G=true:=by rw[F.o];omega
   have p:=ah h;clear h bw
   go_wp2
   go_ret;exact⟨m,by rw[p.o];rfl,fun g=>ad,P,ad,Y⟩
theorem NI(t:Tr)(d:KA)(w:World)(B:Gl w)(y:eR w t d)(K:nj t):Calls prog 136 #[cP t d] w fun g w'=>g=.returned (.bool (se t))/\Below w.heap.size w w':=by
 have h:ki w d.ao d.ac t.attrs:=y.attr;obtain⟨L,D,E,G,M⟩:=K;obtain⟨O,b⟩:=ar (se t);rw[<-b];obtain⟨l,x,av,ks⟩:=t;obtain⟨e,ac,s,r⟩:=d;unfold cP;unfold se at b;simp only[Tr.label,Tr.text,Tr.attrs,Tr.kids]at b h L D E G M⊢;have i:Below w.heap.size w (w.alloc (.cells #[.string ⟨l.toArray⟩,.string ⟨x.toArray⟩,.slice e av.length ac,.slice s ks.length r] 29)):=aG;have p:=aB w (.cells #[.string ⟨l.toArray⟩,.string ⟨x.toArray⟩,.slice e av.length ac,.slice s ks.length r] 29);have C:=aU p;have Q:=CM;have c:=fun f (z:Below w.heap.size w f)=>CJ (F:=137) (caps:=#[]) (q:=fun a=> !lw a.2) av e ac f (h.below z) E CM (fun a I H m=>J8 a H ((B.below z).below m) (G a I).2);obtain⟨w0,o⟩:=ar (w.alloc (.cells #[.string ⟨l.toArray⟩,.string ⟨x.toArray⟩,.slice e av.length ac,.slice s ks.length r] 29));rw[<-o]at i p C;have n:=CK x w0 (B.below i) D;generalize av.any (fun a=> !lw a.2)=q at c b;generalize lw x=N at n b;have u:=ah b;clear b;have v:=ah c;clear c y h;go_enter func136,ntmps136
 go_wp2_with fail
 rw[<-o];clear o;refine n.mono ?_;rintro g f ⟨rfl,A⟩;clear n;have j:=aO i A;cases N with
 |false=>
  go_wp2
  go_ret;exact⟨by rw[u.o];rfl,j⟩
 |true=>
  have c:=v.o f j;have P:=ai 2 ((A.block _ C).trans p);go_wp2_with fail
  refine c.mono ?_;rintro g H ⟨rfl,m⟩;have J:=aO j m;clear c v
  go_wp2
  go_ret;exact⟨by rw[u.o];first|rfl|simp,J⟩
theorem zJ:∀ks:List Tr,qw ks=true↔∃(j:Nat) (a b:Tr),ks[j]?=some a/\ks[j+1]?=some b/\a.label=[]/\b.label=[]
 |[]=>by simp[qw]
 |[a]=>by simp[qw]
 |a::b::t=>by
  rw[qw,di,zJ (b::t)];constructor
  ·rintro(f|⟨j,x,y,c,d,e⟩)
   ·simp at f;exact⟨0,a,b,rfl,rfl,f⟩
   ·exact⟨j+1,x,y,by simpa using c,by simpa using d,e⟩
  ·rintro⟨j,x,y,c,d,e⟩
   cases j with
   |zero=>simp at c d;subst c;subst d;simp[e.1,e.2]
   |succ j=>exact .inr ⟨j,x,y,by simpa using c,by simpa using d,e⟩
theorem zK:∀f:List Bytes,ej f=true↔∃(j:Nat) (a b:Bytes),f[j]?=some a/\f[j+1]?=some b/\bP b a=true
 |[]=>by simp[ej]
 |[a]=>by simp[ej]
 |a::b::t=>by
  rw[ej,di,zK (b::t)];constructor
  ·rintro(g|⟨j,x,y,c,d,e⟩)
   ·exact⟨0,a,b,rfl,rfl,g⟩
   ·exact⟨j+1,x,y,by simpa using c,by simpa using d,e⟩
  ·rintro⟨j,x,y,c,d,e⟩
   cases j with
   |zero=>simp at c d;subst c;subst d;exact .inl e
   |succ j=>exact .inr ⟨j,x,y,by simpa using c,by simpa using d,e⟩
theorem NJ(x y:Bytes):(bP y x=true/\Op.bytesLess x y=false)∨(bP y x=false/\Op.bytesLess x y=true):=by rw[ve x y];cases bP y x<;>simp
theorem NK(t:Tr)(m:KA)(w:World)(L:eR w t m)(a3:nj t):Calls prog 140 #[cP t m] w fun A w'=>A=.returned (.bool (sh t))/\Below w.heap.size w w':=by
 have f:ki w m.ao m.ac t.attrs:=L.attr;obtain⟨a5,a6,a7,S,a8⟩:=a3;obtain⟨J,e⟩:=ar (sh t);rw[<-e];obtain⟨l,x,av,ks⟩:=t;obtain⟨z,ac,G,F⟩:=m;unfold cP;unfold sh at e;simp only[Tr.label,Tr.text,Tr.attrs,Tr.kids]at e f a5 a6 a7 S a8⊢;have bw:=f.2.1;have al:=f.2.2.1;unfold maxLen at al;have I:=ah e;clear e L S;have C:Below w.heap.size w (w.alloc (.cells #[.string ⟨l.toArray⟩,.string ⟨x.toArray⟩,.slice z av.length ac,.slice G ks.length F] 29)):=aG;have s:=aB w (.cells #[.string ⟨l.toArray⟩,.string ⟨x.toArray⟩,.slice z av.length ac,.slice G ks.length F] 29);obtain⟨w0,E⟩:=ar (w.alloc (.cells #[.string ⟨l.toArray⟩,.string ⟨x.toArray⟩,.slice z av.length ac,.slice G ks.length F] 29));rw[<-E]at C s;have a2:=aU s;have T:=ah (fun a9 (p:Below w0.heap.size w0 a9)=>ai 2 ((p.block _ a2).trans s));go_enter func140,ntmps140
 go_wp2_with fail
 rw[<-E];clear E s;go_loopw [3] (fun v wr=>∃k:Nat,v=.int .i64 ((k:Int)+1)/\(k+1<=av.length∨k=0)/\Below w0.heap.size w0 wr/\Hid (∀(j:Nat) (a b:Bytes×Bytes),j<k->av[j]?=some a->av[j+1]?=some b->bP b.1 a.1=false)) (fun v _=>av.length-(intOf v).toNat)
 case atStart=>exact⟨0,rfl,.inr rfl,aE _ _,fun j a b a0=>ad⟩
 case round=>
  obtain⟨k,rfl,bu,q,H⟩:=hrel;have bo:=T.o wr q;have D:=aO C q;by_cases a1:k+1<av.length
  ·have ao:decide ((k:Int)+1<(av.length:Int))=true:=bQ
   have bg:(0:Int)<=k:=ad;have K:(k:Int)<av.length:=ad;have bi:(0:Int)<=k+1:=ad;have bl:(k:Int)+1<(av.length:Int):=ad;have t1:(((k:Int)+1).toNat)=k+1:=ad;obtain⟨a,r⟩:∃n,av[k]?=some n:=⟨_,aH ad⟩;obtain⟨o,u⟩:∃n,av[k+1]?=some n:=⟨_,aH a1⟩;obtain⟨b,bz,rfl,bq,ba,bb⟩:=pw (f.below D) r;obtain⟨b',bA,B,bt,bc,bd⟩:=pw (f.below D) u;injection B with B
   injection B with ab ae af;clear af
   subst ab;subst ae;have Q:bP o.1 a.1=false->∀(j:Nat) (c d:Bytes×Bytes),j<k+1->av[j]?=some c->av[j+1]?=some d->bP d.1 c.1=false:=fun aq j c d a0 g h=>by
    by_cases A:j=k
    ·subst A
     rw[r]at g;rw[u]at h;injection g with g;injection h with h
     subst g;subst h;exact aq
    ·exact H.o j c d ad g h
   have R:bP o.1 a.1=true->J=true:=fun a4=>by rw[I.o,zK];exact⟨k,a.1,o.1,by rw[bW,r];rfl,by rw[bW,u];rfl,a4⟩
   obtain⟨W,X⟩:=aD Q R;clear Q R r u;obtain⟨Z,be⟩:=a;obtain⟨aa,bf⟩:=o;simp only at ba bb bc bd;rcases NJ Z aa with⟨i,an⟩|⟨i,an⟩
   ·have y:=ah (X.o i)
    clear i
    go_wp2
    go_quiet(fail)
    go_wp2
    go_ret;exact⟨by rw[y.o];rfl,aO C (gh q _)⟩
   ·have V:=ah (W.o i)
    clear i
    go_wp2
    go_quiet(fail)
    go_wp2
    go_roundw
    case rel=>exact⟨k+1,aV,.inl ad,gh q _,V.o⟩
    case measure=>exact bh
  ·have ao:decide ((k:Int)+1<(av.length:Int))=false:=bK
   have P:J=false:=by rw[I.o,<-ka,zK];rintro⟨j,a,b,M,N,O⟩;rw[bW]at M N;obtain⟨Y,ag,rfl⟩:=mV.1 M;obtain⟨K,p,rfl⟩:=mV.1 N;rw[H.o j Y K (by have:=(aL.1 p).1;omega) ag p]at O;cases O
   have y:=ah P;clear P
   go_wp2
   go_ret;exact⟨by rw[y.o];rfl,D⟩
theorem NL(t:Tr)(L:KA)(w:World)(P:eR w t L)(ao:nj t):Calls prog 141 #[cP t L] w fun h w'=>h=.returned (.bool (si t))/\Below w.heap.size w w':=by
 obtain⟨rs,G,s,R⟩:=P.kids;obtain⟨a0,a1,a2,X,a3⟩:=ao;obtain⟨O,i⟩:=ar (si t);rw[<-i];obtain⟨l,x,av,ks⟩:=t;obtain⟨E,ac,K,J⟩:=L;unfold cP;unfold si at i;simp only[Tr.label,Tr.text,Tr.attrs,Tr.kids]at i G s R a0 a1 a2 X a3⊢;have bq:=s.2.1;have ae:=s.2.2.1;unfold maxLen at ae;have N:=ah i;clear i P X R;have m:Below w.heap.size w (w.alloc (.cells #[.string ⟨l.toArray⟩,.string ⟨x.toArray⟩,.slice E av.length ac,.slice K ks.length J] 29)):=aG;have I:=aB w (.cells #[.string ⟨l.toArray⟩,.string ⟨x.toArray⟩,.slice E av.length ac,.slice K ks.length J] 29);obtain⟨w0,H⟩:=ar (w.alloc (.cells #[.string ⟨l.toArray⟩,.string ⟨x.toArray⟩,.slice E av.length ac,.slice K ks.length J] 29));rw[<-H]at m I;have bg:=ai 3 I;go_enter func141,ntmps141
 go_wp2_with fail
 rw[<-H];clear H I;go_loopw [3] (fun v wr=>∃k:Nat,v=.int .i64 ((k:Int)+1)/\(k+1<=ks.length∨k=0)/\w0=wr/\Hid (∀(j:Nat) (a b:Tr),j<k->ks[j]?=some a->ks[j+1]?=some b->¬(a.label=[]/\b.label=[]))) (fun v _=>ks.length-(intOf v).toNat)
 case atStart=>exact⟨0,rfl,.inr rfl,rfl,fun j a b al=>ad⟩
 case round=>
  obtain⟨k,rfl,bo,rfl,M⟩:=hrel;by_cases an:k+1<ks.length
  ·have af:decide ((k:Int)+1<(ks.length:Int))=true:=bQ
   have bc:(0:Int)<=k:=ad;have bd:(k:Int)<ks.length:=ad;have be:(0:Int)<=k+1:=ad;have bf:(k:Int)+1<(ks.length:Int):=ad;have t1:(((k:Int)+1).toNat)=k+1:=ad;obtain⟨a,z⟩:∃n,ks[k]?=some n:=⟨_,aH ad⟩;obtain⟨y,A⟩:∃n,ks[k+1]?=some n:=⟨_,aH an⟩;obtain⟨g,bt,q,r,rfl,bl,a4,a5,a6,a7⟩:=nh G (s.below m) z;obtain⟨bi,bu,bw,aq,F,_,a8,a9,ba,bb⟩:=nh G (s.below m) A;injection F with F
   injection F with Y Z aa;clear aa
   subst Y;subst Z;have S:¬(a.label=[]/\y.label=[])->∀(j:Nat) (c d:Tr),j<k+1->ks[j]?=some c->ks[j+1]?=some d->¬(c.label=[]/\d.label=[]):=fun ag j c d al o p=>by
    by_cases h:j=k
    ·subst h
     rw[z]at o;rw[A]at p;injection o with o;injection p with p
     subst o;subst p;exact ag
    ·exact M.o j c d ad o p
   have T:a.label=[]/\y.label=[]->O=true:=fun r=>by rw[N.o,zJ];exact⟨k,a,y,z,A,r⟩
   obtain⟨u,D⟩:=aD S T;clear S T z A r aq a5 a6 a7 a9 ba bb;generalize a.label=V at u D a4;generalize y.label=W at u D a8;by_cases e:V=[]
   ·by_cases f:W=[]
    ·have B:=ah (D.o ⟨e,f⟩)
     subst e;subst f
     go_wp2
     go_ret;exact⟨by rw[B.o];rfl,m⟩
    ·have C:=ah (u.o (fun h=>f h.2))
     have r:(W==[])=false:=by simpa using f
     subst e;clear f
     go_wp2
     go_roundw
     case rel=>exact⟨k+1,aV,.inl ad,dH,C.o⟩
     case measure=>exact bh
   ·have C:=ah (u.o (fun h=>e h.1))
    have r:(V==[])=false:=by simpa using e
    clear e
    go_wp2
    go_roundw
    case rel=>exact⟨k+1,aV,.inl ad,dH,C.o⟩
    case measure=>exact bh
  ·have af:decide ((k:Int)+1<(ks.length:Int))=false:=bK
   have Q:O=false:=by rw[N.o,<-ka,zJ];rintro⟨j,a,b,e,f,ab⟩;exact M.o j a b (by have:=(aL.1 f).1;omega) e f ab
   have B:=ah Q;clear Q
   go_wp2
   go_ret;exact⟨by rw[B.o];rfl,m⟩
def xy(p:Prop)(w:World)(a:Ending)(w':World):Prop:=(∃b,a=.returned (.bool b)/\(b=true↔p))/\Below w.heap.size w w'
theorem Sf{t k:Tr}(a:k∈t.kids):SizeOf.sizeOf k<SizeOf.sizeOf t:=by
 cases t
 simp only[Tr.kids]at a;have:=IP a;simp;omega
theorem Sg(a c b d:Bytes)(w:World):(binOp .neq 69 (.agg #[.string ⟨a.toArray⟩,.string ⟨c.toArray⟩]) (.agg #[.string ⟨b.toArray⟩,.string ⟨d.toArray⟩])).run prog w=.ok (.bool (!(a==b&&c==d))) w:=by simp[go_sem,underlying69];by_cases e:a=b<;>by_cases f:c=d<;>simp[e,f]
theorem Sh:∀(n:Nat) (t1 t2:Tr) (J K:KA) (w:World),SizeOf.sizeOf t1<=n->eR w t1 J->eR w t2 K->Calls prog 25 #[cP t1 J,cP t2 K] w (xy (t1=t2) w):=by
 intro n;induction n with
 |zero=>intro t1 t2 J K w a5;cases t1;simp at a5
 |succ n ih=>
 intro t1 t2 J K w a5 i H;have X:ki w J.ao J.ac t1.attrs:=i.attr;have Y:ki w K.ao K.ac t2.attrs:=H.attr;obtain⟨ek,b4,af,bt⟩:=i.kids;obtain⟨el,b5,ag,bu⟩:=H.kids;have bw:=fun k (bo:k∈t1.kids)=>Sf bo;obtain⟨z,C,a1,d⟩:=t1;obtain⟨A,u,h,g⟩:=t2;obtain⟨ao,al,a6,M⟩:=J;obtain⟨aq,an,a7,N⟩:=K;unfold cP;simp only[Tr.label,Tr.text,Tr.attrs,Tr.kids]at X Y b4 af bt b5 ag bu bw⊢;obtain⟨e,s⟩:=ar ((w.alloc (.cells #[.string ⟨z.toArray⟩,.string ⟨C.toArray⟩,.slice ao a1.length al,.slice a6 d.length M] 29)).alloc (.cells #[.string ⟨A.toArray⟩,.string ⟨u.toArray⟩,.slice aq h.length an,.slice a7 g.length N] 29));have bB:Below w.heap.size w e:=by rw[s];exact aG.alloc ak _
 have F:e.heap[w.heap.size]?=some (.cells #[.string ⟨z.toArray⟩,.string ⟨C.toArray⟩,.slice ao a1.length al,.slice a6 d.length M] 29):=by rw[s];exact(bk _ _ _ ak).trans (aB w _)
 have O:e.heap[w.heap.size+1]?=some (.cells #[.string ⟨A.toArray⟩,.string ⟨u.toArray⟩,.slice aq h.length an,.slice a7 g.length N] 29):=by rw[s];have:=aB (w.alloc (.cells #[.string ⟨z.toArray⟩,.string ⟨C.toArray⟩,.slice ao a1.length al,.slice a6 d.length M] 29)) (.cells #[.string ⟨A.toArray⟩,.string ⟨u.toArray⟩,.slice aq h.length an,.slice a7 g.length N] 29);rwa[bj]at this
 have em:e.heap.size=w.heap.size+2:=by rw[s];simp
 have bf:∀a,Below e.heap.size e a->a.cell? ⟨w.heap.size,0,none⟩=some (.string ⟨z.toArray⟩)/\a.cell? ⟨w.heap.size,1,none⟩=some (.string ⟨C.toArray⟩)/\a.cell? ⟨w.heap.size,2,none⟩=some (.slice ao a1.length al)/\a.cell? ⟨w.heap.size,3,none⟩=some (.slice a6 d.length M)/\
  a.cell? ⟨w.heap.size+1,0,none⟩=some (.string ⟨A.toArray⟩)/\a.cell? ⟨w.heap.size+1,1,none⟩=some (.string ⟨u.toArray⟩)/\a.cell? ⟨w.heap.size+1,2,none⟩=some (.slice aq h.length an)/\a.cell? ⟨w.heap.size+1,3,none⟩=some (.slice a7 g.length N):=fun a r=>by
  have av:=(r.block _ (aU F)).trans F;have a0:=(r.block _ (aU O)).trans O;exact⟨ai 0 av,ai 1 av,ai 2 av,ai 3 av,ai 0 a0,ai 1 a0,ai 2 a0,ai 3 a0⟩
 obtain⟨S,T,V,W,d0,d1,d2,d3⟩:=bf e (aE _ _);obtain⟨bb,P,cc,cd,ch,ci,cl,co,cF,cu⟩:=ju bf bB X Y af ag bt bu bw ih;have cx:=ah a5;have ea:=X.2.1;have c2:=X.2.2.1;have eb:=Y.2.1;have c3:=Y.2.2.1;have ec:=af.2.1;have c7:=af.2.2.1;have ed:=ag.2.1;have c8:=ag.2.2.1;unfold maxLen at c2 c3 c7 c8;have L:Hid (∀a,Below e.heap.size e a->¬(Tr.mk z C a1 d=Tr.mk A u h g)->xy (Tr.mk z C a1 d=Tr.mk A u h g) w (.returned (.bool false)) a):=fun a r bq=>⟨⟨false,rfl,by simp[bq]⟩,aO P.o r⟩;clear bB F O bf X Y af ag bt bu bw ih a5 i H;have c9:(z==A)=false∨z=A:=by by_cases c:z=A<;>simp[c]
 go_enter func25,ntmps25
 rcases c9 with b1|rfl
 ·have f:=ah (L.o e (aE _ _) (by simp at b1;intro c;injection c with c;exact b1 c))
  go_wp2_with(first|(rw[<-s];clear s)|fail)
  go_ret;exact f.o
 have dr:(C==u)=false∨C=u:=by by_cases c:C=u<;>simp[c]
 rcases dr with t|rfl
 ·have f:=ah (L.o e (aE _ _) (by simp at t;intro c;injection c with _ c;exact t c))
  go_wp2_with(first|(rw[<-s];clear s)|fail)
  go_ret;exact f.o
 by_cases ae:a1.length=h.length;rotate_left
 ·have bl:((a1.length:Int) !=(h.length:Int))=true:=aR
  have f:=ah (L.o e (aE _ _) (by intro c;injection c with _ _ c;exact ae (by rw[c])));clear ae;go_wp2_with(first|(rw[<-s];clear s)|fail)
  go_ret;exact f.o
 by_cases a3:d.length=g.length;rotate_left
 ·have bl:((a1.length:Int) !=(h.length:Int))=false:=aR
  have bN:((d.length:Int) !=(g.length:Int))=true:=aR;have f:=ah (L.o e (aE _ _) (by intro c;injection c with _ _ _ c;exact a3 (by rw[c])));clear ae a3;go_wp2_with(first|(rw[<-s];clear s)|fail)
  go_ret;exact f.o
 have bl:((a1.length:Int) !=(h.length:Int))=false:=aR;have bN:((d.length:Int) !=(g.length:Int))=false:=aR;obtain⟨bc,bd⟩:=aD ae a3;clear ae a3;go_wp2_with(first|(rw[<-s];clear s)|fail)
 clear bl bN S T V W d0 d1 d2 d3;go_loopw [5] (fun v wr=>∃k:Nat,v=.int .i64 k/\k<=a1.length/\Below e.heap.size e wr/\Hid (a1.take k=h.take k)) (fun v _=>a1.length-(intOf v).toNat)
 case atStart=>exact⟨0,rfl,aZ _,aE _ _,rfl⟩
 case round=>
 obtain⟨k,rfl,bo,j,G⟩:=hrel;obtain⟨S,T,V,W,d0,d1,d2,d3⟩:=bb.o wr j;by_cases a4:k<a1.length
 ·have c4:(0:Int)<=k:=ad
  have c5:(k:Int)<a1.length:=ad;have c6:(k:Int)<h.length:=by have:=bc.o;omega
  obtain⟨⟨b6,b8⟩,t⟩:∃n,a1[k]?=some n:=⟨_,aH a4⟩;obtain⟨⟨b7,b9⟩,E⟩:∃n,h[k]?=some n:=⟨_,aH (by have:=bc.o;omega)⟩;obtain⟨b,l,rfl,Z,a8,a9⟩:=pw (cc.o.below (aO P.o j)) t;obtain⟨b',o,rfl,aa,ba,F⟩:=pw (cd.o.below (aO P.o j)) E;simp only at a8 a9 ba F;obtain⟨Q,R⟩:=aD t E;clear t E;go_wp2_with fail
  have bq:=fun a=>Sg b6 b8 b7 b9 a;obtain⟨B,D⟩:=ar ((b6==b7&&b8==b9));rw[<-D]at bq;have bA:=ah D;clear D;cases B with
  |false=>
   have f:Hid (∀nq,xy _ w _ (wr.drewN nq)):=fun nq=>(L.o (wr.drewN nq) (gh j nq) (by intro c;injection c with _ _ c;have i:=Q.o;have H:=R.o;rw[c,H]at i;injection i with i;injection i with i c0;have I:=bA.o;simp[i,c0]at I));go_quiet(fail)
   go_wp2
   go_ret;exact f.o _
  |true=>
   have f:Hid (a1.take (k+1)=h.take (k+1)):=ah (by rw[bV,bV,Q.o,R.o,G.o];have I:=bA.o;simp at I;rw[I.1,I.2]);go_quiet(fail)
   go_wp2
   go_roundw
   case rel=>exact⟨k+1,aV,ad,gh j _,f.o⟩
   case measure=>exact bh
 ·have ab:¬(k:Int)<a1.length:=ad
  have bZ:decide ((k:Int)<a1.length)=false:=bK;have cq:Hid (a1=h):=ah (by have:=G.o;rwa[dh ad,dh (by have:=bc.o;omega)]at this);clear G;go_wp2_with fail
  clear S T V W d0 d1 d2 d3;go_loopw [6] (fun v x=>∃m:Nat,v=.int .i64 m/\m<=d.length/\Below e.heap.size e x/\Hid (d.take m=g.take m)) (fun v _=>d.length-(intOf v).toNat)
  case atStart=>exact⟨0,rfl,aZ _,j,rfl⟩
  case round=>
  clear j bo a4 ab bZ;obtain⟨m,rfl,eg,j,G⟩:=hrel;obtain⟨x,ds⟩:=ar (wr);subst ds;obtain⟨S,T,V,W,d0,d1,d2,d3⟩:=bb.o x j;by_cases a4:m<d.length
  ·have c4:(0:Int)<=m:=ad
   have c5:(m:Int)<d.length:=ad;have c6:(m:Int)<g.length:=by have:=bd.o;omega
   obtain⟨u1,t⟩:∃n,d[m]?=some n:=⟨_,aH a4⟩;obtain⟨u2,E⟩:∃n,g[m]?=some n:=⟨_,aH (by have:=bd.o;omega)⟩;have a2:=aO P.o j;obtain⟨b,l,q,b2,rfl,Z,a8,a9,u,ca⟩:=nh b4 (dp.below ch.o a2) t;obtain⟨b',o,y,b3,rfl,aa,ba,F,O,cb⟩:=nh b5 (dp.below ci.o a2) E;obtain⟨Q,R⟩:=aD t E;have ab:=cl.o m u1 q t b2;have b0:=co.o m u2 y E b3;have bg:∀a,Below x.heap.size x a->(a.cell? ⟨w.heap.size,3,none⟩=some (.slice (some ⟨b,l,none⟩) d.length M)/\a.cell? ⟨w.heap.size+1,3,none⟩=some (.slice (some ⟨b',o,none⟩) g.length N))/\
    (a.cell? ⟨b,l+m*4,none⟩=some (.string ⟨u1.label.toArray⟩)/\a.cell? ⟨b,l+m*4+1,none⟩=some (.string ⟨u1.text.toArray⟩)/\a.cell? ⟨b,l+m*4+2,none⟩=some (.slice q.ao u1.attrs.length q.ac)/\a.cell? ⟨b,l+m*4+3,none⟩=some (.slice q.ko u1.kids.length q.kc))/\
    (a.cell? ⟨b',o+m*4,none⟩=some (.string ⟨u2.label.toArray⟩)/\a.cell? ⟨b',o+m*4+1,none⟩=some (.string ⟨u2.text.toArray⟩)/\a.cell? ⟨b',o+m*4+2,none⟩=some (.slice y.ao u2.attrs.length y.ac)/\a.cell? ⟨b',o+m*4+3,none⟩=some (.slice y.ko u2.kids.length y.kc)):=fun a r=>by
    obtain⟨_,_,_,cG,_,_,_,cN⟩:=bb.o a (j.trans (r.mono j.size));exact⟨⟨cG,cN⟩,⟨(r.cell (p:=⟨b,l+m*4,none⟩) Z).trans a8,(r.cell (p:=⟨b,l+m*4+1,none⟩) Z).trans a9,(r.cell (p:=⟨b,l+m*4+2,none⟩) Z).trans u,(r.cell (p:=⟨b,l+m*4+3,none⟩) Z).trans ca⟩,
     ⟨(r.cell (p:=⟨b',o+m*4,none⟩) aa).trans ba,(r.cell (p:=⟨b',o+m*4+1,none⟩) aa).trans F,(r.cell (p:=⟨b',o+m*4+2,none⟩) aa).trans O,(r.cell (p:=⟨b',o+m*4+3,none⟩) aa).trans cb⟩⟩
   have bD:=bg x.drew (aE _ x).drew;have cp:=ah bg;have bi:=cu.o u1 u2 q y x.drew (by have I:=cx.o;have c1:=cF.o u1 (aX t);simp at I c1;omega) (ab.below (a2.drew)) (b0.below a2.drew);unfold cP at bi;have cs:=ah bi;clear bg t E b2 b3 ab b0 bi;go_wp2_with fail
   clear a8 a9 u ca ba F O cb S T V W d0 d1 d2 d3;go_region_held3(fun a=>(a.cell? ⟨w.heap.size,3,none⟩=some (.slice (some ⟨b,l,none⟩) d.length M)/\a.cell? ⟨w.heap.size+1,3,none⟩=some (.slice (some ⟨b',o,none⟩) g.length N))/\
    (a.cell? ⟨b,l+m*4,none⟩=some (.string ⟨u1.label.toArray⟩)/\a.cell? ⟨b,l+m*4+1,none⟩=some (.string ⟨u1.text.toArray⟩)/\a.cell? ⟨b,l+m*4+2,none⟩=some (.slice q.ao u1.attrs.length q.ac)/\a.cell? ⟨b,l+m*4+3,none⟩=some (.slice q.ko u1.kids.length q.kc))/\
    (a.cell? ⟨b',o+m*4,none⟩=some (.string ⟨u2.label.toArray⟩)/\a.cell? ⟨b',o+m*4+1,none⟩=some (.string ⟨u2.text.toArray⟩)/\a.cell? ⟨b',o+m*4+2,none⟩=some (.slice y.ao u2.attrs.length y.ac)/\a.cell? ⟨b',o+m*4+3,none⟩=some (.slice y.ko u2.kids.length y.kc)))
    (first|exact bD|exact bE)
    (first|(go_at_call 25;refine cs.o.mono ?_;rintro c bz ⟨⟨B,rfl,D⟩,bC⟩;have be:Below x.heap.size x bz:=(aE _ x).drew.trans bC;have bE:=cp.o bz be;have ce:=ah be;clear be bC))
   have bF:=j.trans (ce.o.mono j.size);clear bD bE;cases B with
   |false=>
    have f:=ah (L.o bz bF (by intro c;injection c with _ _ _ c;have i:=Q.o;have H:=R.o;rw[c,H]at i;injection i with i;have:=D.2 i.symm;cases this));clear D
    go_wp2
    go_ret;first|exact f.o|simpa using f.o
   |true=>
    have f:Hid (d.take (m+1)=g.take (m+1)):=ah (by rw[bV,bV,Q.o,R.o,G.o,D.1 rfl]);clear D
    go_wp2
    go_roundw
    case rel=>exact⟨m+1,aV,ad,bF,f.o⟩
    case measure=>exact bh
  ·have ab:¬(m:Int)<d.length:=ad
   have bZ:decide ((m:Int)<d.length)=false:=bK;have cv:Hid (d=g):=ah (by have:=G.o;rwa[dh ad,dh (by have:=bd.o;omega)]at this);clear G
   go_wp2
   go_ret;refine⟨⟨true,rfl,?_⟩,aO P.o j⟩;simp[cq.o,cv.o]
end Go.Proofs.YtnadadbndcdolaaGreatDoor
