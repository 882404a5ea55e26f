import Derived.Test.YtbacloblanpghaaGreatDoorQar
import Derived.Test.YtbacloblanpghaaGreatDoorQas
import Derived.Test.YtbacloblanpghaaGreatDoorQat
set_option linter.unusedVariables false
set_option linter.unusedSimpArgs false
set_option maxRecDepth 100000
set_option maxHeartbeats 0
namespace Go.Proofs.YtbacloblanpghaaGreatDoor
open Go.RowKit Tryz
def ut(o:Option Bytes):Value:=.tuple #[.string ⟨(o.getD []).toArray⟩,.bool o.isSome]
theorem Cs{b:Type}{l:List b}{p:b->Bool}{k:Nat}{a:b}(d:(l.take k).find? p=none)(c:l[k]?=some a)(f:p a=true):l.find? p=some a:=by
 have e:=(aP.1 c).1;conv=>lhs;rw[<-jC k l]
 rw[FE,d,Option.none_or,mZ e,List.find?_cons,(aP.1 c).2,f]
theorem Ct{b:Type}{l:List b}{p:b->Bool}{k:Nat}{a:b}(c:(l.take k).find? p=none)(e:l[k]?=some a)(d:p a=false):(l.take (k+1)).find? p=none:=by rw[bG,e,FE,c];simp[d]
theorem Cu{w:World}{t:Tr}{r:KA}(a:dN w t r):jm w r.ao r.ac t.attrs:=a.attr
theorem La(t:Tr)(r:KA)(n:Bytes)(w:World)(z:dN w t r):
 Calls prog 65 #[bJ t r,.string ⟨n.toArray⟩] w fun H w'=>H=.returned (ut (dT t.attrs n))/\Below w.heap.size w w':=by
 have e:=Cu z;obtain⟨v,d⟩:=aj (dT t.attrs n);rw[<-d];obtain⟨l,x,av,ks⟩:=t;obtain⟨G,ac,N,M⟩:=r;unfold bJ;simp only[Tr.label,Tr.text,Tr.attrs,Tr.kids]at e d⊢;have s:=ah d;clear d z;have T:=e.2.1;have J:=e.2.2.1;unfold maxLen at J;have I:Below w.heap.size w (w.alloc (.cells #[.string ⟨l.toArray⟩,.string ⟨x.toArray⟩,.slice G av.length ac,.slice N ks.length M] 29)):=az;go_enter func65,ntmps65
 go_wp2
 go_loopw [11] (fun i wr=>∃k:Nat,i=.int .i64 k/\k<=av.length/\Below w.heap.size w wr/\Hid ((av.take k).find? (fun a=>a.1==n)=none)) (fun i _=>av.length-(intOf i).toNat)
 case atStart=>exact⟨0,rfl,aK _,I,rfl⟩
 case round=>
  obtain⟨k,rfl,R,f,j⟩:=hrel;by_cases L:k<av.length
  ·have K:decide ((k:Int)<av.length)=true:=aM
   have S:(k:Int)<av.length:=ad;obtain⟨a,h⟩:∃n,av[k]?=some n:=⟨_,aF L⟩;obtain⟨b,W,rfl,Q,O,P⟩:=mo (e.below f) h;have B:=fun q=>Cs (p:=fun a:Bytes×Bytes=>a.1==n) j.o h q;have C:=fun q=>Ct (p:=fun a:Bytes×Bytes=>a.1==n) j.o h q;obtain⟨E,F⟩:=aE B C;clear B C h;obtain⟨o,y⟩:=a;simp only at O P;have A:=f.alloc f.size (.cells #[.string ⟨o.toArray⟩,.string ⟨y.toArray⟩] 72);by_cases g:o=n
   ·subst g
    have c:v=some y:=by rw[s.o];unfold dT;rw[E.o ak];rfl
    have m:=ah c;clear c
    go_wp2
    go_ret2
    exact⟨by rw[m.o];rfl,A⟩
   ·have V:(o==n)=false:=by simpa using g
    have u:=F.o (by simpa using g);have D:=ah u;clear u g
    go_wp2
    go_roundw
    case rel=>exact⟨k+1,aG,ad,A,D.o⟩
    case measure=>exact aH
  ·have K:decide ((k:Int)<av.length)=false:=aJ
   have c:v=none:=by have:=j.o;rw[bx ad]at this;rw[s.o];unfold dT;rw[this];rfl
   have m:=ah c;clear c
   go_wp2
   go_ret2
   exact⟨by rw[m.o];rfl,f⟩
theorem Cv(t:Tr)(r:KA)(n:Bytes)(w:World)(D:dN w t r):
 Calls prog 68 #[bJ t r,.string ⟨n.toArray⟩] w fun L w'=>L=.returned (ut (dT t.attrs n))/\Below w.heap.size w w':=by
 have e:=Cu D;obtain⟨B,d⟩:=aj (dT t.attrs n);rw[<-d];obtain⟨l,x,av,ks⟩:=t;obtain⟨o,ac,y,v⟩:=r;unfold bJ;simp only[Tr.label,Tr.text,Tr.attrs,Tr.kids]at e d⊢;have z:=ah d;clear d D;have V:=e.2.1;have M:=e.2.2.1;unfold maxLen at M;have f:Below w.heap.size w (w.alloc (.cells #[.string ⟨l.toArray⟩,.string ⟨x.toArray⟩,.slice o av.length ac,.slice y ks.length v] 29)):=az;have u:=aC w (.cells #[.string ⟨l.toArray⟩,.string ⟨x.toArray⟩,.slice o av.length ac,.slice y ks.length v] 29);have K:=ai 2 u;obtain⟨w0,s⟩:=aj (w.alloc (.cells #[.string ⟨l.toArray⟩,.string ⟨x.toArray⟩,.slice o av.length ac,.slice y ks.length v] 29));rw[<-s]at f u K;go_enter func68,ntmps68
 go_wp2_with fail
 rw[<-s];clear s u;go_loopw [6] (fun i wr=>∃k:Nat,i=.int .i64 k/\k<=av.length/\w0=wr/\Hid ((av.take k).find? (fun a=>a.1==n)=none)) (fun i _=>av.length-(intOf i).toNat)
 case atStart=>exact⟨0,rfl,aK _,rfl,rfl⟩
 case round=>
  obtain⟨k,rfl,S,rfl,j⟩:=hrel;by_cases O:k<av.length
  ·have N:decide ((k:Int)<av.length)=true:=aM
   have T:(k:Int)<av.length:=ad;obtain⟨a,h⟩:∃n,av[k]?=some n:=⟨_,aF O⟩;obtain⟨b,X,rfl,R,P,Q⟩:=mo (e.below f) h;have E:=fun q=>Cs (p:=fun a:Bytes×Bytes=>a.1==n) j.o h q;have F:=fun q=>Ct (p:=fun a:Bytes×Bytes=>a.1==n) j.o h q;obtain⟨H,I⟩:=aE E F;clear E F h;obtain⟨C,J⟩:=a;simp only at P Q;by_cases g:C=n
   ·subst g
    have c:B=some J:=by rw[z.o];unfold dT;rw[H.o ak];rfl
    have m:=ah c;clear c
    go_wp2
    go_ret2
    exact⟨by rw[m.o];rfl,f⟩
   ·have W:(C==n)=false:=by simpa using g
    have A:=I.o (by simpa using g);have G:=ah A;clear A g
    go_wp2
    go_roundw
    case rel=>exact⟨k+1,aG,ad,cD,G.o⟩
    case measure=>exact aH
  ·have N:decide ((k:Int)<av.length)=false:=aJ
   have c:B=none:=by have:=j.o;rw[bx ad]at this;rw[z.o];unfold dT;rw[this];rfl
   have m:=ah c;clear c
   go_wp2
   go_ret2
   exact⟨by rw[m.o];rfl,f⟩
theorem Lb(a:Bytes×Bytes)(n:Bytes)(w:World):Calls prog 62 #[.agg #[.string ⟨a.1.toArray⟩,.string ⟨a.2.toArray⟩],.string ⟨n.toArray⟩] w fun c w'=>c=.returned (.bool (a.1==n))/\Below w.heap.size w w':=by
 have d:Below w.heap.size w (w.alloc (.cells #[.string ⟨a.1.toArray⟩,.string ⟨a.2.toArray⟩] 72)):=az;obtain⟨q,b⟩:=aj ((a.1==n));rw[<-b];have e:(a.1==n)=q:=b.symm;clear b;go_enter func62,ntmps62
 go_wp2
 go_ret;exact⟨rfl,d⟩
theorem Lc:∀args a,(callFunc 62 args).run prog a=.ok (.enter 62 args) a:=fun _ _=>rfl
theorem Cw{av:List (Bytes×Bytes)}{c:List Bytes}{k:Nat}{a:Bytes×Bytes}{n:Bytes}(e:av[k]?=some a)(f:c[k]?=some n)(b:(a.1==n)=false):decide (av.map Prod.fst=c)=false:=by
 rw[cF];intro d;have:(av.map Prod.fst)[k]?=some a.1:=by rw[cb,e];rfl
 rw[d,f]at this;injection this with this
 rw[this]at b;simp at b
theorem Ld(av:List (Bytes×Bytes))(A:Option Addr)(ac:Nat)(c:List Bytes)(G:Option Addr)(wc:Nat)(w:World)(u:jm w A ac av)(x:dk w G wc c):
 Calls prog 63 #[.slice A av.length ac,.slice G c.length wc,.func (.func 62) #[] #[]] w fun d w'=>d=.returned (.bool (decide (av.map Prod.fst=c)))/\Below w.heap.size w w':=by
 have ab:=u.2.1;have L:=u.2.2.1;have ae:=x.2.1;have M:=x.2.2.1;unfold maxLen at L M;have X:=Lc;obtain⟨z,t⟩:=aj (decide (av.map Prod.fst=c));rw[<-t];have o:=ah t;clear t;go_enter func63,ntmps63
 by_cases h:av.length=c.length
 ·have D:((av.length:Int) !=(c.length:Int))=false:=aO
  have q:=ah h;clear h;go_wp2_with fail
  clear D;go_loopw [17] (fun i wr=>∃k:Nat,i=.int .i64 k/\k<=av.length/\Below w.heap.size w wr/\Hid ((av.take k).map Prod.fst=c.take k)) (fun i _=>av.length-(intOf i).toNat)
  case atStart=>exact⟨0,rfl,aK _,aA _ _,rfl⟩
  case round=>
   obtain⟨k,rfl,Y,f,y⟩:=hrel;by_cases P:k<av.length
   ·have N:decide ((k:Int)<av.length)=true:=aM
    have Z:(k:Int)<av.length:=ad;have aa:(k:Int)<c.length:=by have:=q.o;omega
    obtain⟨a,l⟩:∃n,av[k]?=some n:=⟨_,aF P⟩;obtain⟨n,m⟩:∃n,c[k]?=some n:=⟨_,aF (by have:=q.o;omega)⟩;obtain⟨b,af,rfl,W,R,S⟩:=mo (u.below f) l;obtain⟨g,V,rfl,O,T⟩:=(x.below f).at m;have v:=fun Q=>Lb a n Q;have E:=Cw l m;have F:(a.1==n)=true->(av.take (k+1)).map Prod.fst=c.take (k+1):=fun d=>by rw[bG,bG,l,m,fd,y.o];simp at d;simp[d]
    obtain⟨H,I⟩:=aE E F;clear E F l m;obtain⟨s,B⟩:=a;simp only at R S v;have J:=f.alloc f.size (.cells #[.string ⟨s.toArray⟩,.string ⟨B.toArray⟩] 72);have al:=Cr wr (.cells #[.string ⟨s.toArray⟩,.string ⟨B.toArray⟩] 72) T O;go_wp2_with fail
    refine(v _).mono ?_;rintro d ag ⟨rfl,K⟩;have C:=aD J K;clear v;cases j:(s==n)with
    |true=>
     have r:=ah (I.o j);clear j
     go_wp2
     go_roundw
     case rel=>exact⟨k+1,aG,ad,C,r.o⟩
     case measure=>exact aH
    |false=>
     have r:=ah (H.o j);clear j
     go_wp2
     go_ret;exact⟨by rw[o.o,r.o];rfl,C⟩
   ·have N:decide ((k:Int)<av.length)=false:=aJ
    have e:z=true:=by have:=y.o;rw[bx ad,bx (by have:=q.o;omega)]at this;rw[o.o,this];simp
    have p:=ah e;clear e
    go_wp2
    go_ret;exact⟨by rw[p.o];rfl,f⟩
 ·have D:((av.length:Int) !=(c.length:Int))=true:=aO
  have e:z=false:=by rw[o.o,cF];intro d;exact h (by rw[<-d,cd])
  have p:=ah e;clear e h
  go_wp2
  go_ret;exact⟨by rw[p.o];rfl,aA _ _⟩
def qi(o:Option Nat):Int:=match o with|some j=>(j:Int)|none=> -1
theorem Le(l:List am)(o:Option Addr)(cap:Nat)(w:World)(h:cn w o cap l)(ao:l.length<=1048576)(Q:bW (l.map am.t)=0)(at_:Nat)(x:am)(r:l[at_]?=some x)(R:x.t.nodes.length<=1048576)(a:Bytes):
 Calls prog 35 #[.slice o l.length cap,.int .i64 at_,.string ⟨a.toArray⟩] w fun f w'=>f=.returned (.int .i64 (qi (ft (l.map am.t) x.t a)))/\Below w.heap.size w w':=by
 have al:=h.1.2.2.1;have bm:=h.1.2.1;unfold maxLen at al;have I:=aU r;have bc:=(aP.1 r).1;have bl:(at_:Int)<l.length:=ad;obtain⟨q,F⟩:=KW Q (t:=x.t) (ki I) a;have B:=xw l o cap w h ao x (h.2 x I).2 R;obtain⟨zs,L⟩:=aj (dU (l.map am.t) x.t.nodes);rw[<-L]at B q F;have bq:zs.length<=1048576:=by rw[L];have:=Cc (l.map am.t) x.t.nodes [];simp only[ga,cE]at this;exact aR this R
 obtain⟨s,u⟩:=aj (qi (ft (l.map am.t) x.t a));rw[<-u];have N:∀z∈zs,labelAt (l.map am.t) z.toNat=a->s=z:=fun z d f=>by
  have:=(q z d).2.2 f;rw[u];unfold ft qi;cases A:(kidsS (l.map am.t) x.t).find? (fun j=>labelAt (l.map am.t) j==a)with
  |none=>rw[A]at this;cases this
  |some j=>rw[A]at this;injection this
 have O:(∀z∈zs,labelAt (l.map am.t) z.toNat≠a)->s= -1:=fun a0=>by
  have:=F a0;rw[u];unfold ft qi;cases A:(kidsS (l.map am.t) x.t).find? (fun j=>labelAt (l.map am.t) j==a)with
  |none=>rfl
  |some j=>rw[A]at this;injection this with _ ag;cases ag
 obtain⟨V,W,X⟩:=bO N O (fun z d=>(⟨(q z d).1,by have:=(q z d).2.1;rwa[cd]at this⟩:0<=z/\z<(l.length:Int)));obtain⟨b,bu,rfl,bd,a2,a3,a4,a5,a6,a7⟩:=h.at r;have ba:=ah r;unfold dj typeRow at B;clear N O q F u L r I Q;go_enter func35,ntmps35
 go_wp2_with fail
 refine B.mono ?_;rintro f w1 ⟨bE,bB,rfl,d,G⟩;clear B a2 a3 a4 a5 a6 a7;have a1:=d.2.2.1;have bt:=d.2.1;unfold maxLen at a1
 go_wp2
 go_loopw [8] (fun v wr=>∃i:Nat,v=.int .i64 i/\i<=zs.length/\w1=wr/\Hid (∀z∈zs.take i,labelAt (l.map am.t) z.toNat≠a)) (fun v _=>zs.length-(intOf v).toNat)
 case atStart=>exact⟨0,rfl,aK _,rfl,fun z d=>by simp at d⟩
 case round=>
  obtain⟨i,rfl,bf,rfl,M⟩:=hrel;by_cases aq:i<zs.length
  ·have an:decide ((i:Int)<zs.length)=true:=aM
   have bi:(i:Int)<zs.length:=ad;have bg:(0:Int)<=i:=ad;obtain⟨z,C⟩:∃n,zs[i]?=some n:=⟨_,aF aq⟩;have K:=aU C;obtain⟨bz,bA⟩:=X.o z K;obtain⟨c,rfl⟩:∃c:Nat,z=c:=⟨z.toNat,ad⟩;obtain⟨y,J⟩:∃n,l[c]?=some n:=⟨_,aF ad⟩;have H:labelAt (l.map am.t) c=y.t.label:=tI (t:=y.t) (by rw[cb,J];rfl);obtain⟨g,bb,rfl,be,bF⟩:=d.at C;obtain⟨b',bw,E,_,_,a9,_⟩:=(h.below G).at J;injection E with E
   injection E with ab ae af;clear af
   subst ab;subst ae;have S:y.t.label≠a->∀z∈zs.take (i+1),labelAt (l.map am.t) z.toNat≠a:=fun av m e=>by
    rw[bG,C]at e;rcases fe.1 e with e|e
    ·exact M.o m e
    ·simp at e;subst e;simpa[H]using av
   have T:y.t.label=a->s=(c:Int):=fun f=>V.out _ K (by simpa[H]using f);obtain⟨Z,aa⟩:=aE S T;clear S T C J H K;by_cases p:y.t.label=a
   ·have D:=ah (aa.o p)
    rw[p]at a9;clear p
    go_wp2
    go_ret;exact⟨bT D.o.symm,G⟩
   ·have bo:(y.t.label==a)=false:=by simpa using p
    have Y:=ah (Z.o p);clear p
    go_wp2
    go_roundw
    case rel=>exact⟨i+1,aG,ad,cD,Y.o⟩
    case measure=>exact aH
  ·have an:decide ((i:Int)<zs.length)=false:=aJ
   have P:s= -1:=W.out (by have:=M.o;rwa[bx ad]at this);have D:=ah P;clear P
   go_wp2
   go_ret;exact⟨bT D.o.symm,G⟩
def k8(key:Bytes)(a b:Tr):Bool:= !key.isEmpty&&(match dT a.attrs key,dT b.attrs key with|some v,some u=>v==u|_,_=>false)
theorem Cx(key:Bytes)(a b:Tr):k8 key a b=true↔(key≠[]/\∃v,dT a.attrs key=some v/\dT b.attrs key=some v):=by
 unfold k8;cases key with
 |nil=>simp
 |cons c key=>
  cases d:dT a.attrs (c::key)<;>cases e:dT b.attrs (c::key)<;>simp
  exact eq_comm
theorem Lf(key:Bytes)(ks:List Tr):lB key ks↔∀(i k:Nat) (a b:Tr),k<i->ks[i]?=some a->ks[k]?=some b->k8 key a b=false:=by
 unfold lB;constructor
 ·intro c i k a b d e f
  have:=c i k a b d e f;rw[<-Cx]at this;simpa using this
 ·intro c i k a b d e f
  rw[<-Cx,c i k a b d e f];simp
theorem Lg(ks:List Tr)(rs:List KA)(a3:Option Addr)(a2:Nat)(key:Bytes)(w:World)(af:rs.length=ks.length)(J:cS w a3 ks.length a2 4 (kidRows ks rs))
 (an:∀(i:Nat) (k:Tr) (q:KA),ks[i]?=some k->rs[i]?=some q->dN w k q):
 Calls prog 36 #[.slice a3 ks.length a2,.string ⟨key.toArray⟩] w fun t w'=>(∃b,t=.returned (.bool b)/\(b=true↔lB key ks))/\Below w.heap.size w w':=by
 have b3:=J.2.1;have bf:=J.2.2.1;unfold maxLen at bf;obtain⟨S,V⟩:=aE (Lf key ks) an;clear an;go_enter func36,ntmps36
 go_wp2
 go_loopw [5] (fun v wr=>∃i:Nat,v=.int .i64 i/\i<=ks.length/\Below w.heap.size w wr/\Hid (∀(j k:Nat) (a b:Tr),j<i->k<j->ks[j]?=some a->ks[k]?=some b->k8 key a b=false)) (fun v _=>ks.length-(intOf v).toNat)
 case atStart=>exact⟨0,rfl,aK _,aA _ _,fun j k a b bc=>ad⟩
 case round=>
  obtain⟨i,rfl,bZ,aa,T⟩:=hrel;obtain⟨b8,bq⟩:=aj (wr);subst bq;by_cases bm:i<ks.length
  ·have bi:decide ((i:Int)<ks.length)=true:=aM
   have b1:(i:Int)<ks.length:=ad;obtain⟨a,a0⟩:∃n,ks[i]?=some n:=⟨_,aF bm⟩;have G:=ah a0;clear a0
   go_wp2
   go_loopw [6] (fun v bw=>∃k:Nat,v=.int .i64 k/\k<=i/\Below w.heap.size w bw/\Hid (∀(m:Nat) (b:Tr),m<k->ks[m]?=some b->k8 key a b=false)) (fun v _=>i-(intOf v).toNat)
   case atStart=>exact⟨0,rfl,aK _,aa,fun m b bc=>ad⟩
   case round=>
    obtain⟨k,rfl,ab,x,R⟩:=hrel;by_cases bl:k<i
    ·have bg:decide ((k:Int)<i)=true:=aM
     have b2:(k:Int)<ks.length:=ad;obtain⟨b,F⟩:∃n,ks[k]?=some n:=⟨_,aF ad⟩;obtain⟨g,r,q,Q,rfl,I,bz,bA,bB,bE⟩:=jl af (J.below x) G.o;obtain⟨bF,b5,z,al,O,_,K,L,M,N⟩:=jl af (J.below x) F;injection O with O
     injection O with a9 ba bb;clear bb
     subst a9;subst ba;have aq:=V.o i a q G.o Q;have av:=V.o k b z F al;have D:=Cv a q key wr (aq.below x);have o:=fun h (y:Below wr.heap.size wr h)=>Cv b z key h (av.below (aD x y));have ao:k8 key a b=false->∀(m:Nat) (c:Tr),m<k+1->ks[m]?=some c->k8 key a c=false:=fun l m c ae e=>by
      by_cases t:m=k
      ·subst t;rw[F]at e;injection e with e;subst e;exact l
      ·exact R.o m c ad e
     have a1:k8 key a b=true->¬lB key ks:=fun l bo=>by have:=S.o.1 bo i k a b bl G.o F;rw[this]at l;cases l
     obtain⟨A,W⟩:=aE ao a1;have l:k8 key a b=(!key.isEmpty&&(match dT a.attrs key,dT b.attrs key with|some v,some u=>v==u|_,_=>false)):=rfl;have X:∀h,Below wr.heap.size wr h->h.cell? ⟨g,r+k*4,none⟩=some (.string ⟨b.label.toArray⟩)/\h.cell? ⟨g,r+k*4+1,none⟩=some (.string ⟨b.text.toArray⟩)/\h.cell? ⟨g,r+k*4+2,none⟩=some (.slice z.ao b.attrs.length z.ac)/\h.cell? ⟨g,r+k*4+3,none⟩=some (.slice z.ko b.kids.length z.kc):=
      fun h y=>⟨(y.cell (p:=⟨g,r+k*4,none⟩) I).trans K,(y.cell (p:=⟨g,r+k*4+1,none⟩) I).trans L,(y.cell (p:=⟨g,r+k*4+2,none⟩) I).trans M,(y.cell (p:=⟨g,r+k*4+3,none⟩) I).trans N⟩
     have a4:=ah X;generalize k8 key a b=B at A W l;obtain⟨s,a7⟩:=aE l o;unfold bJ at D;clear ao a1 F Q al aq av l X K L M N o;go_wp2_with fail
     refine D.mono ?_;rintro t b6 ⟨rfl,P⟩;clear D bz bA bB bE;obtain⟨K,L,M,N⟩:=a4.o _ P;have o:=a7.o _ P;unfold bJ at o;have be:=aD x P;generalize D:dT a.attrs key=bt at s;generalize hvb':dT b.attrs key=bu at s o;clear D hvb';unfold ut at o⊢;go_wp2_with fail
     refine o.mono ?_;rintro t b7 ⟨rfl,bd⟩;clear o K L M N;have C:=aD be bd;cases key with
     |nil=>
      have d:B=false:=by rw[s.o];rfl
      have f:=ah (A.o d);clear d
      go_wp2
      go_roundw
      case rel=>exact⟨k+1,aG,ad,C,f.o⟩
      case measure=>exact aH
     |cons c key=>
      have b4:((⟨(c::key).toArray⟩:ByteArray) !=(⟨#[]⟩:ByteArray))=true:=rfl;cases bt with
      |none=>
       have d:B=false:=by rw[s.o];rfl
       have f:=ah (A.o d);clear d
       go_wp2
       go_roundw
       case rel=>exact⟨k+1,aG,ad,C,f.o⟩
       case measure=>exact aH
      |some v=>
       cases bu with
       |none=>
        have d:B=false:=by rw[s.o];rfl
        have f:=ah (A.o d);clear d
        go_wp2
        go_roundw
        case rel=>exact⟨k+1,aG,ad,C,f.o⟩
        case measure=>exact aH
       |some u=>
        by_cases E:v=u
        ·have d:B=true:=by rw[s.o,E];simp
         have f:=ah (W.o d);subst E;clear d
         go_wp2
         go_ret;exact⟨⟨false,rfl,by simpa using f.o⟩,C⟩
        ·have Q:(v==u)=false:=by simpa using E
         have d:B=false:=by rw[s.o];simp[E]
         have f:=ah (A.o d);clear d E
         go_wp2
         go_roundw
         case rel=>exact⟨k+1,aG,ad,C,f.o⟩
         case measure=>exact aH
    ·have bg:decide ((k:Int)<i)=false:=aJ
     have ag:∀(j m:Nat) (c b:Tr),j<i+1->m<j->ks[j]?=some c->ks[m]?=some b->k8 key c b=false:=fun j m c b b0 ae e H=>by
      by_cases t:j=i
      ·subst t
       rw[G.o]at e;injection e with e;subst e
       exact R.o m b ad H
      ·exact T.o j m c b ad ae e H
     have a6:=ah ag;clear ag
     go_wp2
     go_roundw
     case rel=>exact⟨i+1,aG,ad,x,a6.o⟩
     case measure=>exact aH
  ·have bi:decide ((i:Int)<ks.length)=false:=aJ
   have Z:lB key ks:=S.o.2 fun j k a b ab Y H=>T.o j k a b (by have:=(aP.1 Y).1;omega) ab Y H;have a5:=ah Z;clear Z
   go_wp2
   go_ret;exact⟨⟨true,rfl,by simpa using a5.o⟩,aa⟩
end Go.Proofs.YtbacloblanpghaaGreatDoor
