import Derived.Test.YtbacloblanpghaaGreatDoorQau
set_option linter.unusedVariables false
set_option linter.unusedSimpArgs false
set_option maxRecDepth 100000
set_option maxHeartbeats 0
namespace Go.Proofs.YtbacloblanpghaaGreatDoor
open Go.RowKit Tryz
theorem Mc{ks:List Tr}{i:Nat}{k:Tr}(c:ks[i]?=some k):eJ (ks.take (i+1))=eJ (ks.take i)+fi k:=by
 have:∀(a b:List Tr),eJ (a++b)=eJ a+eJ b:=fun a b=>by induction a with|nil=>simp[eJ]|cons x a ih=>simp only[fH,eJ,ih];omega
 rw[bG,c,this];simp[eJ]
theorem Md{ks:List Tr}{i:Nat}{k:Tr}(c:ks[i]?=some k):eJ (ks.take i)+fi k<=eJ ks:=by
 have:∀(a b:List Tr),eJ (a++b)=eJ a+eJ b:=fun a b=>by induction a with|nil=>simp[eJ]|cons x a ih=>simp only[fH,eJ,ih];omega
 have d:=(aP.1 c).1;conv=>rhs;rw[<-jC i ks,this,mZ d,(aP.1 c).2]
 simp only[eJ];omega
theorem ye:∀{ks:List Tr} {k:Tr},k∈ks->dS k<=gL ks
 |a::ks,k,b=>by
  rw[gL];rcases eH.1 b with rfl|b
  ·omega
  ·have:=ye b;omega
theorem Dg:∀{ks:List Tr} {d:Nat},(∀k∈ks,dS k<=d)->gL ks<=d
 |[],d,_=>by rw[gL];omega
 |a::ks,d,b=>by rw[gL];have e:=b a (f9 ..);have f:=Dg (ks:=ks) (d:=d) (fun k c=>b k (f8 _ c));omega
theorem Dh(t:Tr):fi t=eJ t.kids+1:=by cases t;rw[fi];rfl
theorem yf(t:Tr):dS t=gL t.kids+1:=by cases t;rw[dS];rfl
def yg(t:Tr)(d n a:Nat)(w:World)(b:Ending)(w':World):Prop:=
 ∃n',b=.returned (.bool (decide (dS t<=d/\fi t<=n)))/\(dS t<=d/\fi t<=n->n'=n-fi t)/\w'.heap[a]?=some (.cells #[.int .i64 (n':Nat)] 3 (0,0))/\n'<=n/\w.grownBy w' (some a)
theorem yh(w:World)(o:Obj)(a:Nat):w.grownBy (w.alloc o) (some a):=(iY w o none).but (some a)
theorem Me(e:Nat):∀(M:Nat) (t:Tr) (r:KA) (d n:Nat) (w:World),SizeOf.sizeOf t<=M->cg w (fun b=>b≠e) t r->w.heap[e]?=some (.cells #[.int .i64 (n:Nat)] 3 (0,0))->d<=1048576->n<=1048576->
 Calls prog 59 #[bJ t r,.int .i64 d,.pointer (some ⟨e,0,none⟩)] w (yg t d n e w):=by
 intro M;induction M with
 |zero=>intro t r d n w T;cases t;simp at T
 |succ M ih=>
 intro t r d n w T V O b7 a9;obtain⟨rs,R,E,S⟩:=V.at_.kids;have D:∃rs:List KA,rs.length=t.kids.length/\kR w (fun b=>b≠e) r.ko t.kids.length r.kc 4 (kidRows t.kids rs)/\∀(i:Nat) (k:Tr) (q:KA),t.kids[i]?=some k->rs[i]?=some q->cg w (fun b=>b≠e) k q:=by
  cases V with
  |mk b6 rs a9 I b1=>exact⟨rs,a9,I,b1⟩
 clear S E R rs;obtain⟨rs,R,E,S⟩:=D;have H:=Dh t;have u:=yf t;have ab:=fun k (I:k∈t.kids)=>(show SizeOf.sizeOf k<SizeOf.sizeOf t by obtain⟨l,x,a,ks⟩:=t;have:=vx I;simp only[Tr.kids]at this;simp only[Tr.mk.sizeOf_spec];omega)
 unfold yg;obtain⟨G,A⟩:=aj (decide (dS t<=d/\fi t<=n));rw[<-A];have A:G=true↔(dS t<=d/\fi t<=n):=by rw[A];simp
 rw[H,u]at A⊢;obtain⟨l,x,av,ks⟩:=t;obtain⟨s,ac,o,y⟩:=r;unfold bJ;simp only[Tr.label,Tr.text,Tr.attrs,Tr.kids]at R E S A ab⊢;have ce:=E.2.1;have J:=E.2.2.1;unfold maxLen at J;obtain⟨F,bg,bm,bo⟩:=cI A ih T ab;clear A ih T ab H u V;have aa:=aN O;have L:(w.alloc (.cells #[.string ⟨l.toArray⟩,.string ⟨x.toArray⟩,.slice s av.length ac,.slice o ks.length y] 29)).heap[e]?=some (.cells #[.int .i64 (n:Nat)] 3 (0,0)):=(bH _ _ _ aa).trans O;have b3:=aC w (.cells #[.string ⟨l.toArray⟩,.string ⟨x.toArray⟩,.slice s av.length ac,.slice o ks.length y] 29);have X:=yh w (.cells #[.string ⟨l.toArray⟩,.string ⟨x.toArray⟩,.slice s av.length ac,.slice o ks.length y] 29) e;have bt:(w.alloc (.cells #[.string ⟨l.toArray⟩,.string ⟨x.toArray⟩,.slice s av.length ac,.slice o ks.length y] 29)).cell? ⟨e,0,none⟩=some (.int .i64 n):=ai 0 L;have bu:(w.alloc (.cells #[.string ⟨l.toArray⟩,.string ⟨x.toArray⟩,.slice s av.length ac,.slice o ks.length y] 29)).frozen? ⟨e,0,none⟩=false:=aQ L 0;go_enter func59,ntmps59
 by_cases a2:d=0
 ·have h:G=false:=by rw[<-fR,F.o];omega
  have p:=ah h;subst a2;clear h
  go_wp2
  go_ret;exact⟨n,by rw[p.o];rfl,fun g=>ad,L,aB _,X⟩
 have b8:((d:Int)==0)=false:=dX;by_cases bF:n=0
 ·have h:G=false:=by rw[<-fR,F.o];omega
  have p:=ah h;subst bF;clear h a2
  go_wp2
  go_ret;exact⟨0,by rw[p.o];rfl,fun g=>ad,L,aB _,X⟩
 have ci:((n:Int)==0)=false:=dX;have b4:IntKind.i64.wrap ((n:Int)-1)=(n:Int)-1:=lp _ ad;have b5:IntKind.i64.wrap ((d:Int)-1)=(d:Int)-1:=lp _ ad;go_wp2_with fail
 have b2:(w.setCell ⟨e,0,none⟩ (.int .i64 ((n:Int)-1))).heap.size=w.heap.size:=by simp[World.setCell]
 have bc:((w.setCell ⟨e,0,none⟩ (.int .i64 ((n:Int)-1))).alloc (.cells #[.string ⟨l.toArray⟩,.string ⟨x.toArray⟩,.slice s av.length ac,.slice o ks.length y] 29)).heap[e]?=some (.cells #[.int .i64 ((n:Int)-1)] 3 (0,0)):=by refine(bH _ _ _ (by rw[b2];exact aa)).trans ?_;rw[FC _ _ _ _ _ _ O];rfl
 have a4:w.grownBy ((w.setCell ⟨e,0,none⟩ (.int .i64 ((n:Int)-1))).alloc (.cells #[.string ⟨l.toArray⟩,.string ⟨x.toArray⟩,.slice s av.length ac,.slice o ks.length y] 29)) (some e):=(grownBy_setCell' w e _).trans (yh _ _ _);obtain⟨w1,bd⟩:=aj (((w.setCell ⟨e,0,none⟩ (.int .i64 ((n:Int)-1))).alloc (.cells #[.string ⟨l.toArray⟩,.string ⟨x.toArray⟩,.slice s av.length ac,.slice o ks.length y] 29)));rw[<-bd]at bc a4⊢;have a6:∀z,w.grownBy z (some e)->∀(i:Nat) (k:Tr),ks[i]?=some k->∃b f q,o=some ⟨b,f,none⟩/\z.cell? ⟨b,f+i*4,none⟩=some (.string ⟨k.label.toArray⟩)/\z.cell? ⟨b,f+i*4+1,none⟩=some (.string ⟨k.text.toArray⟩)/\z.cell? ⟨b,f+i*4+2,none⟩=some (.slice q.ao k.attrs.length q.ac)/\z.cell? ⟨b,f+i*4+3,none⟩=some (.slice q.ko k.kids.length q.kc)/\cg z (fun b=>b≠e) k q:=by intro z W i k j;have a7:∀b f,b<w.heap.size->b≠e->z.cell? ⟨b,f,none⟩=w.cell? ⟨b,f,none⟩/\b≠e:=fun b f K N=>⟨dB (W.block b K (fun g=>N (by injection g))),N⟩;have b0:=(E.kept (Q:=fun b=>b≠e) W.size a7).row;obtain⟨b,f,q,bZ,g,_,ae,af,ag,al⟩:=jl R b0 j;exact⟨b,f,q,g,ae,af,ag,al,(S i k q j bZ).kept W.size a7⟩
 have bi:=ah a6;clear bd a6 b3 X L bt bu O aa;go_loopw [25] (fun v wr=>∃(i m:Nat),v=.int .i64 i/\i<=ks.length/\wr.heap[e]?=some (.cells #[.int .i64 (m:Nat)] 3 (0,0))/\m+eJ (ks.take i)+1=n/\Hid (∀k∈ks.take i,dS k<=d-1)/\w.grownBy wr (some e)) (fun v _=>ks.length-(intOf v).toNat)
 case atStart=>exact⟨0,n-1,rfl,aK _,by rw[bc];congr 3;simp;omega,by simp[eJ];omega,fun k I=>by simp at I,a4⟩
 case round=>
  obtain⟨i,m,rfl,b9,P,bE,an,Y⟩:=hrel;by_cases K:i<ks.length
  ·have bw:decide ((i:Int)<ks.length)=true:=aM
   have cc:(i:Int)<ks.length:=ad;obtain⟨k,j⟩:∃n,ks[i]?=some n:=⟨_,aF K⟩;obtain⟨b,f,q,rfl,ae,af,ag,al,aq⟩:=bi.o wr Y i k j;have J:=aU j;have H:=Mc j;have a1:=Md j;have a3:=ye J;have bB:=Y.trans (yh wr (.cells #[.string ⟨k.label.toArray⟩,.string ⟨k.text.toArray⟩,.slice q.ao k.attrs.length q.ac,.slice q.ko k.kids.length q.kc] 29) e);have bb:(wr.alloc (.cells #[.string ⟨k.label.toArray⟩,.string ⟨k.text.toArray⟩,.slice q.ao k.attrs.length q.ac,.slice q.ko k.kids.length q.kc] 29)).heap[e]?=some (.cells #[.int .i64 (m:Nat)] 3 (0,0)):=(bH _ _ _ (aN P)).trans P;have a0:=aq.kept (w':=wr.alloc (.cells #[.string ⟨k.label.toArray⟩,.string ⟨k.text.toArray⟩,.slice q.ao k.attrs.length q.ac,.slice q.ko k.kids.length q.kc] 29)) (Q:=fun b=>b≠e) ak (fun b f K N=>⟨dB (bH _ _ _ K),N⟩);have D:=bg.o k q (d-1) m _ (by have:=bo.o k J;have:=bm.o;omega) a0 bb ad ad;rw[show(((d-1:Nat)):Int)=(d:Int)-1 by omega]at D;unfold yg bJ at D;have be:dS k<=d-1->∀c∈ks.take (i+1),dS c<=d-1:=fun g c B=>by
    rw[bG,j]at B;rcases fe.1 B with B|B
    ·exact an.o c B
    ·simp at B;subst B;exact g
   obtain⟨bq,ao⟩:=aE be (And.intro H (And.intro a1 a3));clear be H a1 a3 j J aq a0 P bb;go_wp2_with fail
   refine D.mono ?_;rintro g co ⟨n',rfl,Z,ba,ch,bA⟩;clear D ae af ag al;have a5:=bB.trans bA;by_cases C:dS k<=d-1/\fi k<=m
   ·have u:decide (dS k<=d-1/\fi k<=m)=true:=ox C
    rw[u];have cl:=Z C;obtain⟨bl,bf⟩:=aE C (bq.o C.1);clear u Z C
    go_wp2
    go_roundw
    case rel=>exact⟨i+1,n',aG,ad,ba,by have:=ao.o.1;have:=bl.o.2;omega,bf.o,a5⟩
    case measure=>exact aH
   ·have u:decide (dS k<=d-1/\fi k<=m)=false:=pI C
    rw[u];have h:G=false:=by rw[<-fR,F.o];have:=ao.o.2;omega
    have p:=ah h;clear u Z C h
    go_wp2
    go_ret;refine⟨n',by rw[p.o];rfl,fun g=> ?_,ba,ad,a5⟩;exact absurd (F.o.2 g) (by rw[p.o];decide)
  ·have bw:decide ((i:Int)<ks.length)=false:=aJ
   have bz:gL ks<=d-1:=Dg (by have:=an.o;rwa[bx ad]at this);rw[bx ad]at bE;have h:G=true:=by rw[F.o];omega
   have p:=ah h;clear h bz
   go_wp2
   go_ret;exact⟨m,by rw[p.o];rfl,fun g=>ad,P,ad,Y⟩
theorem Mm(t:Tr)(r:KA)(w:World)(A:Gl w)(v:dN w t r)(J:kT t):Calls prog 101 #[bJ t r] w fun e w'=>e=.returned (.bool (nj t))/\Below w.heap.size w w':=by
 have f:jm w r.ao r.ac t.attrs:=v.attr;obtain⟨K,C,D,E,L⟩:=J;obtain⟨N,b⟩:=aj (nj t);rw[<-b];obtain⟨l,x,av,ks⟩:=t;obtain⟨d,ac,p,o⟩:=r;unfold bJ;unfold nj at b;simp only[Tr.label,Tr.text,Tr.attrs,Tr.kids]at b f K C D E L⊢;have g:Below w.heap.size w (w.alloc (.cells #[.string ⟨l.toArray⟩,.string ⟨x.toArray⟩,.slice d av.length ac,.slice p ks.length o] 29)):=az;have n:=aC w (.cells #[.string ⟨l.toArray⟩,.string ⟨x.toArray⟩,.slice d av.length ac,.slice p ks.length o] 29);have B:=aN n;have P:=AP;have c:=fun w1 (y:Below w.heap.size w w1)=>AM (F:=102) (caps:=#[]) (q:=fun a=> !fV a.2) av d ac w1 (f.below y) D AP (fun a H G i=>Ia a G ((A.below y).below i) (E a H).2);obtain⟨w0,m⟩:=aj (w.alloc (.cells #[.string ⟨l.toArray⟩,.string ⟨x.toArray⟩,.slice d av.length ac,.slice p ks.length o] 29));rw[<-m]at g n B;have j:=AN x w0 (A.below g) C;generalize av.any (fun a=> !fV a.2)=q at c b;generalize fV x=M at j b;have s:=ah b;clear b;have u:=ah c;clear c v f;go_enter func101,ntmps101
 go_wp2_with fail
 rw[<-m];clear m;refine j.mono ?_;rintro e w1 ⟨rfl,z⟩;clear j;have h:=aD g z;cases M with
 |false=>
  go_wp2
  go_ret;exact⟨by rw[s.o];rfl,h⟩
 |true=>
  have c:=u.o w1 h;have O:=ai 2 ((z.block _ B).trans n);go_wp2_with fail
  refine c.mono ?_;rintro e G ⟨rfl,i⟩;have I:=aD h i;clear c u
  go_wp2
  go_ret;exact⟨by rw[s.o];first|rfl|simp,I⟩
theorem yj:∀ks:List Tr,nt ks=true↔∃(j:Nat) (a b:Tr),ks[j]?=some a/\ks[j+1]?=some b/\a.label=[]/\b.label=[]
 |[]=>by simp[nt]
 |[a]=>by simp[nt]
 |a::b::t=>by
  rw[nt,cM,yj (b::t)];constructor
  ·rintro(f|⟨j,x,y,c,d,e⟩)
   ·simp at f;exact⟨0,a,b,rfl,rfl,f⟩
   ·exact⟨j+1,x,y,by simpa using c,by simpa using d,e⟩
  ·rintro⟨j,x,y,c,d,e⟩
   cases j with
   |zero=>simp at c d;subst c;subst d;simp[e.1,e.2]
   |succ j=>exact .inr ⟨j,x,y,by simpa using c,by simpa using d,e⟩
theorem yk:∀f:List Bytes,dh f=true↔∃(j:Nat) (a b:Bytes),f[j]?=some a/\f[j+1]?=some b/\br b a=true
 |[]=>by simp[dh]
 |[a]=>by simp[dh]
 |a::b::t=>by
  rw[dh,cM,yk (b::t)];constructor
  ·rintro(g|⟨j,x,y,c,d,e⟩)
   ·exact⟨0,a,b,rfl,rfl,g⟩
   ·exact⟨j+1,x,y,by simpa using c,by simpa using d,e⟩
  ·rintro⟨j,x,y,c,d,e⟩
   cases j with
   |zero=>simp at c d;subst c;subst d;exact .inl e
   |succ j=>exact .inr ⟨j,x,y,by simpa using c,by simpa using d,e⟩
theorem Mn(x y:Bytes):(br y x=true/\Op.bytesLess x y=false)∨(br y x=false/\Op.bytesLess x y=true):=by rw[ri x y];cases br y x<;>simp
theorem Mo(t:Tr)(r:KA)(w:World)(L:dN w t r)(a3:kT t):Calls prog 105 #[bJ t r] w fun A w'=>A=.returned (.bool (oD t))/\Below w.heap.size w w':=by
 have f:jm w r.ao r.ac t.attrs:=L.attr;obtain⟨a5,a6,a7,S,a9⟩:=a3;obtain⟨J,e⟩:=aj (oD t);rw[<-e];obtain⟨l,x,av,ks⟩:=t;obtain⟨z,ac,G,F⟩:=r;unfold bJ;unfold oD at e;simp only[Tr.label,Tr.text,Tr.attrs,Tr.kids]at e f a5 a6 a7 S a9⊢;have bw:=f.2.1;have al:=f.2.2.1;unfold maxLen at al;have I:=ah e;clear e L S;have C:Below w.heap.size w (w.alloc (.cells #[.string ⟨l.toArray⟩,.string ⟨x.toArray⟩,.slice z av.length ac,.slice G ks.length F] 29)):=az;have s:=aC w (.cells #[.string ⟨l.toArray⟩,.string ⟨x.toArray⟩,.slice z av.length ac,.slice G ks.length F] 29);obtain⟨w0,E⟩:=aj (w.alloc (.cells #[.string ⟨l.toArray⟩,.string ⟨x.toArray⟩,.slice z av.length ac,.slice G ks.length F] 29));rw[<-E]at C s;have a2:=aN s;have T:=ah (fun ba (o:Below w0.heap.size w0 ba)=>ai 2 ((o.block _ a2).trans s));go_enter func105,ntmps105
 go_wp2_with fail
 rw[<-E];clear E s;go_loopw [3] (fun v wr=>∃k:Nat,v=.int .i64 ((k:Int)+1)/\(k+1<=av.length∨k=0)/\Below w0.heap.size w0 wr/\Hid (∀(j:Nat) (a b:Bytes×Bytes),j<k->av[j]?=some a->av[j+1]?=some b->br b.1 a.1=false)) (fun v _=>av.length-(intOf v).toNat)
 case atStart=>exact⟨0,rfl,.inr rfl,aA _ _,fun j a b a0=>ad⟩
 case round=>
  obtain⟨k,rfl,bu,p,H⟩:=hrel;have bo:=T.o wr p;have D:=aD C p;by_cases a1:k+1<av.length
  ·have ao:decide ((k:Int)+1<(av.length:Int))=true:=aM
   have bi:(0:Int)<=k:=ad;have K:(k:Int)<av.length:=ad;have bl:(0:Int)<=k+1:=ad;have bm:(k:Int)+1<(av.length:Int):=ad;have bB:(((k:Int)+1).toNat)=k+1:=ad;obtain⟨a,q⟩:∃n,av[k]?=some n:=⟨_,aF ad⟩;obtain⟨m,u⟩:∃n,av[k+1]?=some n:=⟨_,aF a1⟩;obtain⟨b,bz,rfl,bq,bb,bc⟩:=mo (f.below D) q;obtain⟨b',bA,B,bt,bd,be⟩:=mo (f.below D) u;injection B with B
   injection B with ab ae af;clear af
   subst ab;subst ae;have Q:br m.1 a.1=false->∀(j:Nat) (c d:Bytes×Bytes),j<k+1->av[j]?=some c->av[j+1]?=some d->br d.1 c.1=false:=fun aq j c d a0 g h=>by
    by_cases A:j=k
    ·subst A
     rw[q]at g;rw[u]at h;injection g with g;injection h with h
     subst g;subst h;exact aq
    ·exact H.o j c d ad g h
   have R:br m.1 a.1=true->J=true:=fun a4=>by rw[I.o,yk];exact⟨k,a.1,m.1,by rw[cb,q];rfl,by rw[cb,u];rfl,a4⟩
   obtain⟨W,X⟩:=aE Q R;clear Q R q u;obtain⟨Z,bf⟩:=a;obtain⟨aa,bg⟩:=m;simp only at bb bc bd be;rcases Mn Z aa with⟨i,an⟩|⟨i,an⟩
   ·have y:=ah (X.o i)
    clear i
    go_wp2
    go_quiet(fail)
    go_wp2
    go_ret;exact⟨by rw[y.o];rfl,aD C (dm p _)⟩
   ·have V:=ah (W.o i)
    clear i
    go_wp2
    go_quiet(fail)
    go_wp2
    go_roundw
    case rel=>exact⟨k+1,aG,.inl ad,dm p _,V.o⟩
    case measure=>exact aH
  ·have ao:decide ((k:Int)+1<(av.length:Int))=false:=aJ
   have P:J=false:=by rw[I.o,<-fR,yk];rintro⟨j,a,b,M,N,O⟩;rw[cb]at M N;obtain⟨Y,ag,rfl⟩:=mb.1 M;obtain⟨K,o,rfl⟩:=mb.1 N;rw[H.o j Y K (by have:=(aP.1 o).1;omega) ag o]at O;cases O
   have y:=ah P;clear P
   go_wp2
   go_ret;exact⟨by rw[y.o];rfl,D⟩
theorem Mp(t:Tr)(r:KA)(w:World)(P:dN w t r)(ao:kT t):Calls prog 106 #[bJ t r] w fun h w'=>h=.returned (.bool (oE t))/\Below w.heap.size w w':=by
 obtain⟨rs,H,u,R⟩:=P.kids;obtain⟨a0,a1,a2,X,a3⟩:=ao;obtain⟨O,i⟩:=aj (oE t);rw[<-i];obtain⟨l,x,av,ks⟩:=t;obtain⟨F,ac,L,K⟩:=r;unfold bJ;unfold oE at i;simp only[Tr.label,Tr.text,Tr.attrs,Tr.kids]at i H u R a0 a1 a2 X a3⊢;have bq:=u.2.1;have ae:=u.2.2.1;unfold maxLen at ae;have N:=ah i;clear i P X R;have m:Below w.heap.size w (w.alloc (.cells #[.string ⟨l.toArray⟩,.string ⟨x.toArray⟩,.slice F av.length ac,.slice L ks.length K] 29)):=az;have J:=aC w (.cells #[.string ⟨l.toArray⟩,.string ⟨x.toArray⟩,.slice F av.length ac,.slice L ks.length K] 29);obtain⟨w0,I⟩:=aj (w.alloc (.cells #[.string ⟨l.toArray⟩,.string ⟨x.toArray⟩,.slice F av.length ac,.slice L ks.length K] 29));rw[<-I]at m J;have bi:=ai 3 J;go_enter func106,ntmps106
 go_wp2_with fail
 rw[<-I];clear I J;go_loopw [3] (fun v wr=>∃k:Nat,v=.int .i64 ((k:Int)+1)/\(k+1<=ks.length∨k=0)/\w0=wr/\Hid (∀(j:Nat) (a b:Tr),j<k->ks[j]?=some a->ks[j+1]?=some b->¬(a.label=[]/\b.label=[]))) (fun v _=>ks.length-(intOf v).toNat)
 case atStart=>exact⟨0,rfl,.inr rfl,rfl,fun j a b al=>ad⟩
 case round=>
  obtain⟨k,rfl,bo,rfl,M⟩:=hrel;by_cases an:k+1<ks.length
  ·have af:decide ((k:Int)+1<(ks.length:Int))=true:=aM
   have bd:(0:Int)<=k:=ad;have be:(k:Int)<ks.length:=ad;have bf:(0:Int)<=k+1:=ad;have bg:(k:Int)+1<(ks.length:Int):=ad;have bz:(((k:Int)+1).toNat)=k+1:=ad;obtain⟨a,A⟩:∃n,ks[k]?=some n:=⟨_,aF ad⟩;obtain⟨z,B⟩:∃n,ks[k+1]?=some n:=⟨_,aF an⟩;obtain⟨g,bt,q,s,rfl,bm,a4,a5,a6,a7⟩:=jl H (u.below m) A;obtain⟨bl,bu,bw,aq,G,_,a9,ba,bb,bc⟩:=jl H (u.below m) B;injection G with G
   injection G with Y Z aa;clear aa
   subst Y;subst Z;have S:¬(a.label=[]/\z.label=[])->∀(j:Nat) (c d:Tr),j<k+1->ks[j]?=some c->ks[j+1]?=some d->¬(c.label=[]/\d.label=[]):=fun ag j c d al o p=>by
    by_cases h:j=k
    ·subst h
     rw[A]at o;rw[B]at p;injection o with o;injection p with p
     subst o;subst p;exact ag
    ·exact M.o j c d ad o p
   have T:a.label=[]/\z.label=[]->O=true:=fun s=>by rw[N.o,yj];exact⟨k,a,z,A,B,s⟩
   obtain⟨y,E⟩:=aE S T;clear S T A B s aq a5 a6 a7 ba bb bc;generalize a.label=V at y E a4;generalize z.label=W at y E a9;by_cases e:V=[]
   ·by_cases f:W=[]
    ·have C:=ah (E.o ⟨e,f⟩)
     subst e;subst f
     go_wp2
     go_ret;exact⟨by rw[C.o];rfl,m⟩
    ·have D:=ah (y.o (fun h=>f h.2))
     have s:(W==[])=false:=by simpa using f
     subst e;clear f
     go_wp2
     go_roundw
     case rel=>exact⟨k+1,aG,.inl ad,cD,D.o⟩
     case measure=>exact aH
   ·have D:=ah (y.o (fun h=>e h.1))
    have s:(V==[])=false:=by simpa using e
    clear e
    go_wp2
    go_roundw
    case rel=>exact⟨k+1,aG,.inl ad,cD,D.o⟩
    case measure=>exact aH
  ·have af:decide ((k:Int)+1<(ks.length:Int))=false:=aJ
   have Q:O=false:=by rw[N.o,<-fR,yj];rintro⟨j,a,b,e,f,ab⟩;exact M.o j a b (by have:=(aP.1 f).1;omega) e f ab
   have C:=ah Q;clear Q
   go_wp2
   go_ret;exact⟨by rw[C.o];rfl,m⟩
def vl(p:Prop)(w:World)(a:Ending)(w':World):Prop:=(∃b,a=.returned (.bool b)/\(b=true↔p))/\Below w.heap.size w w'
theorem PK{t k:Tr}(a:k∈t.kids):SizeOf.sizeOf k<SizeOf.sizeOf t:=by
 cases t
 simp only[Tr.kids]at a;have:=vx a;simp;omega
theorem PM(a c b d:Bytes)(w:World):(binOp .neq 72 (.agg #[.string ⟨a.toArray⟩,.string ⟨c.toArray⟩]) (.agg #[.string ⟨b.toArray⟩,.string ⟨d.toArray⟩])).run prog w=.ok (.bool (!(a==b&&c==d))) w:=by simp[go_sem,underlying72];by_cases e:a=b<;>by_cases f:c=d<;>simp[e,f]
theorem PN:∀(n:Nat) (z M:Tr) (K L:KA) (w:World),SizeOf.sizeOf z<=n->dN w z K->dN w M L->Calls prog 24 #[bJ z K,bJ M L] w (vl (z=M) w):=by
 intro n;induction n with
 |zero=>intro z M K L w bc;cases z;simp at bc
 |succ n ih=>
 intro z M K L w bc i I;have af:jm w K.ao K.ac z.attrs:=i.attr;have ag:jm w L.ao L.ac M.attrs:=I.attr;obtain⟨er,ci,av,bE⟩:=i.kids;obtain⟨es,cl,a0,bF⟩:=I.kids;have bZ:=fun k (bA:k∈z.kids)=>PK bA;obtain⟨A,D,a1,d⟩:=z;obtain⟨C,u,h,g⟩:=M;obtain⟨a4,a2,bd,O⟩:=K;obtain⟨a5,a3,be,P⟩:=L;unfold bJ;simp only[Tr.label,Tr.text,Tr.attrs,Tr.kids]at af ag ci av bE cl a0 bF bZ⊢;obtain⟨e,s⟩:=aj ((w.alloc (.cells #[.string ⟨A.toArray⟩,.string ⟨D.toArray⟩,.slice a4 a1.length a2,.slice bd d.length O] 29)).alloc (.cells #[.string ⟨C.toArray⟩,.string ⟨u.toArray⟩,.slice a5 h.length a3,.slice be g.length P] 29));have b2:Below w.heap.size w e:=by rw[s];exact az.alloc ak _
 have G:e.heap[w.heap.size]?=some (.cells #[.string ⟨A.toArray⟩,.string ⟨D.toArray⟩,.slice a4 a1.length a2,.slice bd d.length O] 29):=by rw[s];exact(bH _ _ _ ak).trans (aC w _)
 have Q:e.heap[w.heap.size+1]?=some (.cells #[.string ⟨C.toArray⟩,.string ⟨u.toArray⟩,.slice a5 h.length a3,.slice be g.length P] 29):=by rw[s];have:=aC (w.alloc (.cells #[.string ⟨A.toArray⟩,.string ⟨D.toArray⟩,.slice a4 a1.length a2,.slice bd d.length O] 29)) (.cells #[.string ⟨C.toArray⟩,.string ⟨u.toArray⟩,.slice a5 h.length a3,.slice be g.length P] 29);rwa[bI]at this
 have ex:e.heap.size=w.heap.size+2:=by rw[s];simp
 have bt:∀a,Below e.heap.size e a->a.cell? ⟨w.heap.size,0,none⟩=some (.string ⟨A.toArray⟩)/\a.cell? ⟨w.heap.size,1,none⟩=some (.string ⟨D.toArray⟩)/\a.cell? ⟨w.heap.size,2,none⟩=some (.slice a4 a1.length a2)/\a.cell? ⟨w.heap.size,3,none⟩=some (.slice bd d.length O)/\
  a.cell? ⟨w.heap.size+1,0,none⟩=some (.string ⟨C.toArray⟩)/\a.cell? ⟨w.heap.size+1,1,none⟩=some (.string ⟨u.toArray⟩)/\a.cell? ⟨w.heap.size+1,2,none⟩=some (.slice a5 h.length a3)/\a.cell? ⟨w.heap.size+1,3,none⟩=some (.slice be g.length P):=fun a r=>by
  have a6:=(r.block _ (aN G)).trans G;have a7:=(r.block _ (aN Q)).trans Q;exact⟨ai 0 a6,ai 1 a6,ai 2 a6,ai 3 a6,ai 0 a7,ai 1 a7,ai 2 a7,ai 3 a7⟩
 obtain⟨V,W,X,Y,Z,aa,ab,ae⟩:=bt e (aA _ _);obtain⟨bl,R,cG,cN,c1,c2,c3,c4,ds,c8⟩:=kB bt b2 af ag av a0 bE bF bZ ih;have dr:=ah bc;have ed:=af.2.1;have d2:=af.2.2.1;have eg:=ag.2.1;have d3:=ag.2.2.1;have el:=av.2.1;have d7:=av.2.2.1;have em:=a0.2.1;have d8:=a0.2.2.1;unfold maxLen at d2 d3 d7 d8;have N:Hid (∀a,Below e.heap.size e a->¬(Tr.mk A D a1 d=Tr.mk C u h g)->vl (Tr.mk A D a1 d=Tr.mk C u h g) w (.returned (.bool false)) a):=fun a r bB=>⟨⟨false,rfl,by simp[bB]⟩,aD R.o r⟩;clear b2 G Q bt af ag av a0 bE bF bZ ih bc i I;have ea:(A==C)=false∨A=C:=by by_cases c:A=C<;>simp[c]
 go_enter func24,ntmps24
 rcases ea with cc|rfl
 ·have f:=ah (N.o e (aA _ _) (by simp at cc;intro c;injection c with c;exact cc c))
  go_wp2_with(first|(rw[<-s];clear s)|fail)
  go_ret;exact f.o
 have eb:(D==u)=false∨D=u:=by by_cases c:D=u<;>simp[c]
 rcases eb with t|rfl
 ·have f:=ah (N.o e (aA _ _) (by simp at t;intro c;injection c with _ c;exact t c))
  go_wp2_with(first|(rw[<-s];clear s)|fail)
  go_ret;exact f.o
 by_cases aq:a1.length=h.length;rotate_left
 ·have bz:((a1.length:Int) !=(h.length:Int))=true:=aO
  have f:=ah (N.o e (aA _ _) (by intro c;injection c with _ _ c;exact aq (by rw[c])));clear aq;go_wp2_with(first|(rw[<-s];clear s)|fail)
  go_ret;exact f.o
 by_cases ba:d.length=g.length;rotate_left
 ·have bz:((a1.length:Int) !=(h.length:Int))=false:=aO
  have b7:((d.length:Int) !=(g.length:Int))=true:=aO;have f:=ah (N.o e (aA _ _) (by intro c;injection c with _ _ _ c;exact ba (by rw[c])));clear aq ba;go_wp2_with(first|(rw[<-s];clear s)|fail)
  go_ret;exact f.o
 have bz:((a1.length:Int) !=(h.length:Int))=false:=aO;have b7:((d.length:Int) !=(g.length:Int))=false:=aO;obtain⟨bm,bo⟩:=aE aq ba;clear aq ba;go_wp2_with(first|(rw[<-s];clear s)|fail)
 clear bz b7 V W X Y Z aa ab ae;go_loopw [5] (fun v wr=>∃k:Nat,v=.int .i64 k/\k<=a1.length/\Below e.heap.size e wr/\Hid (a1.take k=h.take k)) (fun v _=>a1.length-(intOf v).toNat)
 case atStart=>exact⟨0,rfl,aK _,aA _ _,rfl⟩
 case round=>
 obtain⟨k,rfl,bA,j,H⟩:=hrel;obtain⟨V,W,X,Y,Z,aa,ab,ae⟩:=bl.o wr j;by_cases bb:k<a1.length
 ·have d4:(0:Int)<=k:=ad
  have d5:(k:Int)<a1.length:=ad;have d6:(k:Int)<h.length:=by have:=bm.o;omega
  obtain⟨⟨co,cq⟩,t⟩:∃n,a1[k]?=some n:=⟨_,aF bb⟩;obtain⟨⟨cp,cs⟩,F⟩:∃n,h[k]?=some n:=⟨_,aF (by have:=bm.o;omega)⟩;obtain⟨b,l,rfl,al,bf,bg⟩:=mo (cG.o.below (aD R.o j)) t;obtain⟨b',o,rfl,an,bi,G⟩:=mo (cN.o.below (aD R.o j)) F;simp only at bf bg bi G;obtain⟨S,T⟩:=aE t F;clear t F;go_wp2_with fail
  have bB:=fun a=>PM co cq cp cs a;obtain⟨B,E⟩:=aj ((co==cp&&cq==cs));rw[<-E]at bB;have b1:=ah E;clear E;cases B with
  |false=>
   have f:Hid (∀nq,vl _ w _ (wr.drewN nq)):=fun nq=>(N.o (wr.drewN nq) (dm j nq) (by intro c;injection c with _ _ c;have i:=S.o;have I:=T.o;rw[c,I]at i;injection i with i;injection i with i d0;have J:=b1.o;simp[i,d0]at J));go_quiet(fail)
   go_wp2
   go_ret;exact f.o _
  |true=>
   have f:Hid (a1.take (k+1)=h.take (k+1)):=ah (by rw[bG,bG,S.o,T.o,H.o];have J:=b1.o;simp at J;rw[J.1,J.2]);go_quiet(fail)
   go_wp2
   go_roundw
   case rel=>exact⟨k+1,aG,ad,dm j _,f.o⟩
   case measure=>exact aH
 ·have ao:¬(k:Int)<a1.length:=ad
  have b8:decide ((k:Int)<a1.length)=false:=aJ;have c6:Hid (a1=h):=ah (by have:=H.o;rwa[bx ad,bx (by have:=bm.o;omega)]at this);clear H;go_wp2_with fail
  clear V W X Y Z aa ab ae;go_loopw [6] (fun v x=>∃m:Nat,v=.int .i64 m/\m<=d.length/\Below e.heap.size e x/\Hid (d.take m=g.take m)) (fun v _=>d.length-(intOf v).toNat)
  case atStart=>exact⟨0,rfl,aK _,j,rfl⟩
  case round=>
  clear j bA bb ao b8;obtain⟨m,rfl,en,j,H⟩:=hrel;obtain⟨x,ec⟩:=aj (wr);subst ec;obtain⟨V,W,X,Y,Z,aa,ab,ae⟩:=bl.o x j;by_cases bb:m<d.length
  ·have d4:(0:Int)<=m:=ad
   have d5:(m:Int)<d.length:=ad;have d6:(m:Int)<g.length:=by have:=bo.o;omega
   obtain⟨u1,t⟩:∃n,d[m]?=some n:=⟨_,aF bb⟩;obtain⟨u2,F⟩:∃n,g[m]?=some n:=⟨_,aF (by have:=bo.o;omega)⟩;have a9:=aD R.o j;obtain⟨b,l,q,ce,rfl,al,bf,bg,u,cu⟩:=jl ci (cS.below c1.o a9) t;obtain⟨b',o,y,ch,rfl,an,bi,G,Q,cx⟩:=jl cl (cS.below c2.o a9) F;obtain⟨S,T⟩:=aE t F;have ao:=c3.o m u1 q t ce;have b9:=c4.o m u2 y F ch;have bu:∀a,Below x.heap.size x a->(a.cell? ⟨w.heap.size,3,none⟩=some (.slice (some ⟨b,l,none⟩) d.length O)/\a.cell? ⟨w.heap.size+1,3,none⟩=some (.slice (some ⟨b',o,none⟩) g.length P))/\
    (a.cell? ⟨b,l+m*4,none⟩=some (.string ⟨u1.label.toArray⟩)/\a.cell? ⟨b,l+m*4+1,none⟩=some (.string ⟨u1.text.toArray⟩)/\a.cell? ⟨b,l+m*4+2,none⟩=some (.slice q.ao u1.attrs.length q.ac)/\a.cell? ⟨b,l+m*4+3,none⟩=some (.slice q.ko u1.kids.length q.kc))/\
    (a.cell? ⟨b',o+m*4,none⟩=some (.string ⟨u2.label.toArray⟩)/\a.cell? ⟨b',o+m*4+1,none⟩=some (.string ⟨u2.text.toArray⟩)/\a.cell? ⟨b',o+m*4+2,none⟩=some (.slice y.ao u2.attrs.length y.ac)/\a.cell? ⟨b',o+m*4+3,none⟩=some (.slice y.ko u2.kids.length y.kc)):=fun a r=>by
    obtain⟨_,_,_,du,_,_,_,dz⟩:=bl.o a (j.trans (r.mono j.size));exact⟨⟨du,dz⟩,⟨(r.cell (p:=⟨b,l+m*4,none⟩) al).trans bf,(r.cell (p:=⟨b,l+m*4+1,none⟩) al).trans bg,(r.cell (p:=⟨b,l+m*4+2,none⟩) al).trans u,(r.cell (p:=⟨b,l+m*4+3,none⟩) al).trans cu⟩,
     ⟨(r.cell (p:=⟨b',o+m*4,none⟩) an).trans bi,(r.cell (p:=⟨b',o+m*4+1,none⟩) an).trans G,(r.cell (p:=⟨b',o+m*4+2,none⟩) an).trans Q,(r.cell (p:=⟨b',o+m*4+3,none⟩) an).trans cx⟩⟩
   have b4:=bu x.drew (aA _ x).drew;have c5:=ah bu;have bw:=c8.o u1 u2 q y x.drew (by have J:=dr.o;have d1:=ds.o u1 (aU t);simp at J d1;omega) (ao.below (a9.drew)) (b9.below a9.drew);unfold bJ at bw;have c7:=ah bw;clear bu t F ce ch ao b9 bw;go_wp2_with fail
   clear bf bg u cu bi G Q cx V W X Y Z aa ab ae;go_region_held3(fun a=>(a.cell? ⟨w.heap.size,3,none⟩=some (.slice (some ⟨b,l,none⟩) d.length O)/\a.cell? ⟨w.heap.size+1,3,none⟩=some (.slice (some ⟨b',o,none⟩) g.length P))/\
    (a.cell? ⟨b,l+m*4,none⟩=some (.string ⟨u1.label.toArray⟩)/\a.cell? ⟨b,l+m*4+1,none⟩=some (.string ⟨u1.text.toArray⟩)/\a.cell? ⟨b,l+m*4+2,none⟩=some (.slice q.ao u1.attrs.length q.ac)/\a.cell? ⟨b,l+m*4+3,none⟩=some (.slice q.ko u1.kids.length q.kc))/\
    (a.cell? ⟨b',o+m*4,none⟩=some (.string ⟨u2.label.toArray⟩)/\a.cell? ⟨b',o+m*4+1,none⟩=some (.string ⟨u2.text.toArray⟩)/\a.cell? ⟨b',o+m*4+2,none⟩=some (.slice y.ao u2.attrs.length y.ac)/\a.cell? ⟨b',o+m*4+3,none⟩=some (.slice y.ko u2.kids.length y.kc)))
    (first|exact b4|exact b5)
    (first|(go_at_call 24;refine c7.o.mono ?_;rintro c b0 ⟨⟨B,rfl,E⟩,b3⟩;have bq:Below x.heap.size x b0:=(aA _ x).drew.trans b3;have b5:=c5.o b0 bq;have c0:=ah bq;clear bq b3))
   have b6:=j.trans (c0.o.mono j.size);clear b4 b5;cases B with
   |false=>
    have f:=ah (N.o b0 b6 (by intro c;injection c with _ _ _ c;have i:=S.o;have I:=T.o;rw[c,I]at i;injection i with i;have:=E.2 i.symm;cases this));clear E
    go_wp2
    go_ret;first|exact f.o|simpa using f.o
   |true=>
    have f:Hid (d.take (m+1)=g.take (m+1)):=ah (by rw[bG,bG,S.o,T.o,H.o,E.1 rfl]);clear E
    go_wp2
    go_roundw
    case rel=>exact⟨m+1,aG,ad,b6,f.o⟩
    case measure=>exact aH
  ·have ao:¬(m:Int)<d.length:=ad
   have b8:decide ((m:Int)<d.length)=false:=aJ;have c9:Hid (d=g):=ah (by have:=H.o;rwa[bx ad,bx (by have:=bo.o;omega)]at this);clear H
   go_wp2
   go_ret;refine⟨⟨true,rfl,?_⟩,aD R.o j⟩;simp[c6.o,c9.o]
end Go.Proofs.YtbacloblanpghaaGreatDoor
