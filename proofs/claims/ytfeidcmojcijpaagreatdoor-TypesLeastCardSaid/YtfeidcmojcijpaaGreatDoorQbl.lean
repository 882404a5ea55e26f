import Derived.Test.YtfeidcmojcijpaaGreatDoorQbi
import Derived.Test.YtfeidcmojcijpaaGreatDoorQbk
set_option linter.all false
set_option maxRecDepth 100000
set_option maxHeartbeats 0
namespace Go.Proofs.YtfeidcmojcijpaaGreatDoor
open Go.RowKit Tryz
section
open PRegex
def TO{c:Type} [BEq c]{a b:List c}{k}(d:a=b.length)(f:¬k<a.length)(e:a.take k=b.take k):a=b:=by rwa[bI ad,bI ad]at e
def TP a b ao bo ac bc w(v:jl w ao ac a)(o:jl w bo bc b)(M:a.length<=1048576):
 dB 221 #[.slice ao a ac,.slice bo b bc] w (mD (decide (a=b)) w):=by
 have z:=v.2.2.1;have A:=o.2.2.1;have E:=o.2.1;unfold maxLen at z A;have⟨m,n⟩:=am (decide (a=b));rw[<-n];have l:=ah n;clear n
 go_in
 by_cases h:a=b.length
 ·have B:(a !=(b:Int))=false:=by simp[h]
  have s:=ah h;clear h
  go_wp2
  go_loopw [5] (fun i wr=>∃k:Nat,i=.int .i64 k/\k<=a/\Hid (a.take k=b.take k)/\aR w wr) (fun i _=>a-(intOf i).toNat)
  case atStart=>exact⟨0,rfl,aH _,ah aj,aA _ _⟩
  case round=>
   obtain⟨k,rfl,H,r,e⟩:=hrel;by_cases f:k<a
   ·have C:=bC f
    have J:=bk f;have K:(k:Int)<b:=aQ s.o;have I:=aL k;have⟨x,p⟩:=aT f;have⟨y,q⟩:=df b k;obtain⟨g,N,rfl,F,P⟩:=(v.O e).at p;obtain⟨D,O,rfl,G,Q⟩:=(o.O e).at q;have⟨t,u⟩:=aC p q;clear p q;by_cases j:x=y
    ·subst j
     have d:(x !=x)=false:=aj
     go_wp2
     go_quiet(fail)
     go_wp2
     go_roundw
     case rel=>exact⟨k+1,aD,ad,ah (by rw[bH,bH,t.o,u.o,r.o]),ee e _⟩
     case measure=>exact aM
    have d:(x !=y)=true:=by simpa using j
    have c:Hid (m=false):=ah (by rw[l.o,dd];rintro rfl;exact j (by have:=t.o.zy.Z u.o;injection this));clear j
    go_wp2
    go_quiet(fail)
    go_wp2
    go_ret;exact⟨bJ c.o.zy,ee e _⟩
   have C:=bG f;have c:Hid (m=true):=ah (by rw[l.o,cf];exact TO s.o f r.o)
   go_wp2
   go_ret;exact⟨bJ c.o.zy,e⟩
 have B:(a !=(b:Int))=true:=aO;have c:Hid (m=false):=ah (by rw[l.o,dd];rintro rfl;omega);clear h
 go_wp2
 go_ret;exact⟨bJ c.o.zy,aA _ _⟩
def Jm(w:World)(b:Nat)(v:Value)(a:List Value)(L:List (List Int)):Prop:=
 w.ownsRow b 41 1 v a a/\a=L.length/\∀(j:Nat) u r,a[j]?=some u->L[j]?=some r->nf w b u r
def TQ(L:List (List Int))(x:List Int)(a:List Value)(l:Nat)(j:Option Addr)(h:Nat)(f:Value)(w:World)(m:Jm w l (.slice j a.length h) a L)(b:nf w l f x)(d:l<=w.heap.size)(E:L.length<=4096)(v:∀r∈L,r.length<=4096):
 Calls prog 174 #[.slice j a.length h,f] w fun e w'=>∃d:Value,e=.returned (.tuple #[.int .i64 ((oY L x).1:Nat),d])/\
  ((x∈L/\d=.slice j a.length h/\Below w.heap.size w w')∨(x∉L/\∃g c,d=.slice (some ⟨g,0,none⟩) (a.length+1) c/\w'.ownsRow l 41 1 d (a.length+1) (a++[f])/\w.grownBy w' (Value.slice j a.length h).ownBlock/\((Value.slice j a.length h).ownBlock=some g∨w.heap.size<=g))):=by
 obtain⟨d,n,o⟩:=m;have m:=dY d;have s:=m.2.1;have s:=m.2.2.1;unfold maxLen at s;obtain⟨t,s,y⟩:=bs b;rw[y]at b⊢;clear y f;have M:jl w t s x:=dY b;obtain⟨N,f⟩:∃N:Nat,N=(oY L x).1:=⟨_,rfl⟩;rw[<-f];obtain⟨B,D,A,C,F,y⟩:=iL f v d o b n;have F:a.length<=4096:=ad;clear f v d o b n E;obtain⟨R,K,O,P,Q⟩:=cZ BS;go_enter func174,ntmps174
 go_wp2
 go_loopw [6] (fun i wr=>∃k:Nat,i=.int .i64 k/\k<=a.length/\Hid (x∉L.take k)/\Below w.heap.size w wr) (fun i _=>a.length-(intOf i).toNat)
 case atStart=>exact⟨0,rfl,aH _,ah aj,aA _ _⟩
 case round=>
  obtain⟨k,rfl,d,v,b⟩:=hrel;by_cases o:k<a.length
  ·have I:=bC o
   have d:=bk o;have d:=aL k;obtain⟨u,n⟩:=aT o;obtain⟨r,d⟩:=df L k (aQ y.o);have f:=C.o k u r n d;obtain⟨F,E,rfl⟩:=bs f;have C:jl wr F E r:=jl.O (dY f) b;obtain⟨g,S,rfl,J,G⟩:=m.2.2.2 ad;have H:=(b.cell (p:=⟨g,S+k,none⟩) J).Z (G k _ n);have m:r.length<=4096:=D.o r (aK d);have D:=TP r x F t E s wr C (M.O b) ad;have m:=ah d;clear n d f C G;go_wp2_with fail
   refine ar D ?_;intro f d;have C:=aE b d;clear D d H;by_cases d:r=x;have D:decide (r=x)=true:=by simpa using d
   have f:Hid (x∈L/\N=k):=ah (by
    subst d;have n:=aK m.o;refine⟨n,?_⟩;rw[B.o];unfold oY;rw[au n];have e:L=L.take k++r::L.drop (k+1):=by obtain⟨E,n⟩:=aF.1 m.o;conv=>lhs;rw[<-ig k L,mT E,n]
    show List.idxOf r L=k
    conv=>lhs;rw[e]
    rw[KW,ap v.o];have:=(aF.1 m.o).1;simp;omega)
   clear d
   go_wp2
   go_ret2
   exact⟨_,by rw[f.o.2];rfl,.inl ⟨f.o.1,rfl,C⟩⟩
   ·have D:decide (r=x)=false:=by simpa using d
    have f:Hid (x∉L.take (k+1)):=ah (by rw[bH,m.o,fp,dk];rintro(n|n);exact v.o n;simp at n;exact d n.zy)
    clear d
    go_wp2
    go_roundw
    case rel=>exact⟨k+1,aD,ad,f,C⟩
    case measure=>exact aM
  have I:=bG o;have f:Hid (x∉L/\N=a.length):=ah (by have:=v.o;rw[bI (aQ y.o)]at this;refine⟨this,?_⟩;rw[B.o];unfold oY;rw[ap this];exact y.o.zy)
  have v:=aX A.o (fun g m=>b.J g (aV A.o m).2);have m:=b.size;go_wp2_with(first
   |(at_builtin;go_must (refine kI _ rfl _ _ 106 rfl l 41 R _ 1 24 KY K O P Q rfl aq (.slice j a.length h) _ _ rfl (dp v _) ⟨wr.heap.size,0,none⟩ 1 1 [.slice t x.length s] rfl rfl (ln _ [.slice t x.length s] _ _ rfl) (fun z n=>by simp at n;subst n;rfl) aq bO ad aO _ rfl ?_);intro g c B y m o A)
   |fail)
  go_ret2
  refine⟨_,by rw[f.o.2];rfl,.inr ⟨f.o.1,g,c,rfl,y,?_,o.imp_right fun e=> ?_⟩⟩;exact⟨m.os.Z b.os,m.tape.Z b.tape,m.output.Z b.output,by have:=m.size;simp at this;omega,fun q d a=>(m.J q aO a).Z (aP.J q ad|>.Z (b.J q d))⟩;rw[e];simp;omega
def TR{set:List Int}{k z}(a:set[k]?=some z):set.drop k=z::set.drop (k+1):=by obtain⟨b,e⟩:=aF.1 a;rw[mT b,e]
def TU l o cap(B:d9 0 l=true)(P:0<l.length) set so sc w(h:dv w o cap l)(u:jl w so sc set)(T:set.length<=4096):
 dB 176 #[.slice o l cap,.slice so set sc] w (mD (tN l set) w):=by
 have V:=h.2.1;have H:=h.2.2.1;have W:=u.2.1;have K:=u.2.2.1;unfold maxLen at H K;have t:(l-1:Nat)=(l:Int)-1:=ad;have A:∀a,Below w.heap.size w a->Calls prog 224 #[.slice o l.length cap,.int .i64 ((l.length:Int)-1)] a (mD (trN l (l.length-1)).null a):=fun a s=>by rw[<-t];exact CA l o cap B _ a ad (h.O s)
 have y:∀(z:Int) (a:World),0<=z->Below w.heap.size w a->Calls prog 225 #[.slice o l.length cap,.int .i64 ((l.length:Int)-1),.int .i64 z] a (mD ((trN l (l.length-1)).zp z.toNat) a):=fun z a b s=>by have:=Jl l o cap B z.toNat _ a (show l-1<l.length by omega) (h.O s);rwa[l8 b,t]at this
 have⟨q,r⟩:=am (tN l set);rw[<-r];have⟨G,F,E⟩:=bm r A y;clear r A y t h
 go_in
 go_wp2
 go_loopw [6] (fun i wr=>∃k:Nat,i=.int .i64 k/\k<=set/\Hid (q=tN l (set.drop k))/\aR w wr) (fun i _=>set-(intOf i).toNat)
 case atStart=>exact⟨0,rfl,aH _,G,aA _ _⟩
 case round=>
  obtain⟨k,rfl,Q,x,d⟩:=hrel;by_cases m:k<set
  ·have I:=bC m
   have S:=bk m;have R:=aL k;have⟨z,n⟩:=aT m;obtain⟨g,X,rfl,J,v⟩:=(u.O d).at n;have e:q=((if z<0 then(trN l (l.length-1)).null else(trN l (l.length-1)).zp z.toNat)||tN l (set.drop (k+1))):=by rw[x.o,TR n];rfl
   by_cases b:z<0
   ·have M:decide (z<0)=true:=by simpa using b
    have N:decide (0<=z)=false:=by simpa using b
    rw[au b]at e;have f:=ah e;clear e n;go_wp2_with fail
    refine ar (F.o wr d) ?_;intro O c;have j:=aE d c;have Y:=(c.cell J).Z v;clear v c;cases hv:(trN l (l-1)).null with
    |true=>
     go_wp2
     go_ret;exact⟨bJ (by rw[f.o,hv];rfl),j⟩
    |false=>
     have p:=ah hv;clear hv
     go_wp2
     go_roundw
     case rel=>exact⟨k+1,aD,ad,ah (by rw[f.o,p.o];rfl),j⟩
     case measure=>exact aM
   ·have M:decide (z<0)=false:=by simpa using b
    have C:0<=z:=ad;have N:decide (0<=z)=true:=by simpa using C
    rw[ap b]at e;have f:=ah e;clear e n b;go_wp2_with fail
    refine ar (E.o z wr C d) ?_;intro O c;have j:=aE d c;clear v c;cases hv:(trN l (l-1)).zp z.toNat with
    |true=>
     go_wp2
     go_ret;exact⟨bJ (by rw[f.o,hv];rfl),j⟩
    |false=>
     have p:=ah hv;clear hv
     go_wp2
     go_roundw
     case rel=>exact⟨k+1,aD,ad,ah (by rw[f.o,p.o];rfl),j⟩
     case measure=>exact aM
  have I:=bG m;have D:Hid (q=false):=ah (by rw[x.o,se ad];rfl)
  go_wp2
  go_ret;exact⟨bJ D.o.zy,d⟩
def gZ(l:List ax)(q:Nat)(z:Int):Bool:=if z<0 then(trN l (l-1)).zq q else(trN l (l-1)).zr z.toNat q
def gP(l:List ax)(set:List Int)(x:Bytes)(q:Nat):Bool:=vI l x q&&set.any (gZ l q)
def TV l o cap(m:d9 0 l=true)(a:0<l.length)(f:l.length<=4096) set so sc x w(d:dv w o cap l)(A:jl w so sc set)(c:set.length<=4096):
 dB 175 #[.slice o l cap,.slice so set sc,.string ⟨x.toArray⟩] w fun e w'=>(∃v,e=.returned v/\bW w' w v (nw l set x))/\aR w w':=by
 obtain⟨N,J,K,D,M⟩:=cZ lm;have a:=d.2.1;have a:=d.2.2.1;have c:=A.2.1;have c:=A.2.2.1;unfold maxLen at a c;have h:(l-1:Nat)=(l:Int)-1:=ad;have r:∀(q:Nat) (c:World),Below w.heap.size w c->Calls prog 222 #[.slice o l.length cap,.int .i64 ((l.length:Int)-1),.int .i64 (q:Nat)] c (mD ((trN l (l.length-1)).zq q) c):=fun q c f=>by rw[<-h];exact Jk l o cap m q _ c ad (d.O f)
 have p:∀(z:Int) (q:Nat) (c:World),0<=z->Below w.heap.size w c->Calls prog 223 #[.slice o l.length cap,.int .i64 ((l.length:Int)-1),.int .i64 z,.int .i64 (q:Nat)] c (mD ((trN l (l.length-1)).zr z.toNat q) c):=fun z q c a f=>by have:=TN l o cap m z.toNat q _ c (show l-1<l.length by omega) (d.O f);rwa[l8 a,h]at this
 have⟨G,F⟩:=aC r p;clear r p h;have c:nw l set x=(List.range l).filter (gP l set x):=rfl;rw[c];clear c
 go_in
 go_wp2
 go_loopw [8,9] (fun v i wr=>∃k:Nat,i=.int .i64 k/\k<=l/\bW wr w v ((List.range k).filter (gP l set x))/\aR w wr) (fun _ i _=>l-(intOf i).toNat)
 case atStart=>exact⟨0,rfl,aH _,cW _ _ _ _,aA _ _⟩
 case round=>
  obtain⟨k,rfl,c,h,f⟩:=hrel;obtain⟨t,rfl⟩:=am wr;have p:((List.range k).filter (gP l set x))<=k:=aW (lf _ _) aj;by_cases u:k<l
  ·have I:=bC u
   have c:=bk u;have c:=aL k;have⟨n,m⟩:=aT u;obtain⟨b,r,rfl,c,y,B,C,E⟩:=(d.O f).at m;have c:(List.range (k+1)).filter (gP l set x)=(List.range k).filter (gP l set x)++if gP l set x k=true then [k]else []:=by
    rw[tW,pk];congr 1
    simp[tX]
   have s:gP l set x k=((decide (n.op=2)&&decide (n.sym=x))&&set.any (gZ l k)):=by unfold gP vI;rw[m]
   rw[s]at c;generalize(List.range k).filter (gP l set x)=out at h p c;obtain⟨P,O,rfl⟩:=dR h;have r:=ah c;obtain⟨p,sym,H,Q⟩:=n;simp only at y B r;clear C E m c s;by_cases y:p=2/\sym=x
   ·obtain⟨rfl,rfl⟩:=y
    have c:(sym==sym)=true:=aj
    go_wp2
    go_loopw [10,11] (fun bv c wr=>∃j:Nat,c=.int .i64 j/\j<=set/\Hid (bv=.bool ((set.take j).any (gZ l k)))/\aR t wr) (fun _ i _=>set-(intOf i).toNat)
    case atStart=>exact⟨0,rfl,aH _,ah rfl,aA _ _⟩
    case round=>
     obtain⟨j,rfl,m,t,c⟩:=hrel;have C:=aE f c;have⟨m,s⟩:=am ((set.take j).any (gZ l k));have B:=t.o;rw[<-s]at B;subst B;have E:=ah s;clear s t;by_cases t:j<set
     ·have H:=bC t
      have s:=bk t;have s:=aL j;have⟨z,B⟩:=aT t;obtain⟨g,Q,rfl,s,R⟩:=(A.O C).at B;have A:(set.take (j+1)).any (gZ l k)=(m||gZ l k z):=by rw[bH,B,E.o];simp
      have s:=ah A;clear A B;by_cases a:z<0
      ·have D:decide (z<0)=true:=by simpa using a
       have A:=ah a;clear a;cases m with
       |true=>
        refine qN ?_;
         exact⟨j+1,aD,ad,ah (by rw[s.o];rfl),c⟩
       |false=>
        go_wp2_with fail
        refine ar (G.o k wr C) ?_;intro Q B
        go_wp2
        go_roundw
        case rel=>exact⟨j+1,aD,ad,ah (by rw[s.o];unfold gZ;rw[au A.o];rfl),aE c B⟩
        case measure=>exact aM
      ·have D:decide (z<0)=false:=by simpa using a
       have G:0<=z:=ad;have A:=ah a;clear a;cases m with
       |true=>
        refine qN ?_;
         exact⟨j+1,aD,ad,ah (by rw[s.o];rfl),c⟩
       |false=>
        go_wp2_with fail
        refine ar (F.o z k wr G C) ?_;intro Q B
        go_wp2
        go_roundw
        case rel=>exact⟨j+1,aD,ad,ah (by rw[s.o];unfold gZ;rw[ap (aQ A.o)];rfl),aE c B⟩
        case measure=>exact aM
     ·have H:=bG t
      have t:Hid (m=set.any (gZ l k)):=ah (by rw[E.o,bI ad]);have s:=aX h (fun g A=>c.J g (aV h A).2);unfold bW at s;have A:=f.size;have A:=c.size;cases m with
      |true=>
       have m:Hid ((List.range (k+1)).filter (gP l set sym)=out++[k]):=ah (by rw[r.o,<-t.o];simp);go_wp2_with(first
        |(at_builtin;go_must (apply iV _ rfl _ _ 41 rfl _ 3 N _ 1 8 j9 J K D M rfl aq (.slice P out O) _ _ rfl (dp s _) _ 1 1 _ rfl rfl (ln _ _ _ _ rfl) (fun z a=>by simp at a;subst a;rfl) bO ad aO);intro E F B A C)
        |fail)
       go_roundw
       case rel=>
        refine⟨k+1,aD,ad,?_,?_⟩;rw[m.o];unfold bW;simpa[fB]using B;exact((aE f c).alloc ad _).zu A aO (fun j e=>(aY h j e).1)
       case measure=>exact aM
      |false=>
       have m:Hid ((List.range (k+1)).filter (gP l set sym)=out):=ah (by rw[r.o,<-t.o];simp)
       go_wp2
       go_roundw
       case rel=>exact⟨k+1,aD,ad,m.o▸s,aE f c⟩
       case measure=>exact aM
   ·have m:Hid ((List.range (k+1)).filter (gP l set x)=out):=ah (by
     rw[r.o];have:(decide (p=2)&&decide (sym=x))=false:=by rw[Km];intro d;simp at d;exact y d
     rw[this];simp)
    have c:(p !=2)=true∨((p !=2)=false/\(sym==x)=false):=by by_cases a:p=2;exact .inr ⟨by simp[a],by simpa using fun e=>y ⟨a,e⟩⟩;exact .inl (by simpa using a)
    clear y;rcases c with d1|⟨d1,d2⟩
    all_goals
     go_wp2
     go_roundw
     case rel=>exact⟨k+1,aD,ad,m.o▸h,f⟩
     case measure=>exact aM
  have I:=bG u;have a:k=l:=ad;subst a
  go_wp2
  go_ret;exact⟨⟨_,rfl,h⟩,f⟩
end
section
open PRegex
def ny{w:World}{B j size n e v u xs}(a:w.ownsRow (B+1) e size v n xs):(w.setCell ⟨B,j,none⟩ u).ownsRow (B+1) e size v n xs:=yi (B':=0) a
structure eS(w:World)(sv:Value)(L:List (List Int))(rows:List (List Nat))(fs:List Value)(st nv fv:Value)(vs ns:List Value)(wr:World):Prop where
 res:wr.heap[w.heap.size]?=some (.cells dx 122 (0,0))
 box:wr.heap[w.heap.size+1]?=some (.cells #[sv,nv,fv] 122 (0,0))
 sts:Jm wr (w.heap.size+2) st vs L
 nx:wr.ownsRow (w.heap.size+2) 41 1 nv ns.length ns
 nl:ns.length=rows.length
 nr:∀(j:Nat) (v:Value) (r:List Nat),ns[j]?=some v->rows[j]?=some r->bW wr (w.heap.size+2) v r
 fo:wr.ownsRow (w.heap.size+2) 4 1 fv fs.length fs
 sep:nv.ownBlock=none∨nv.ownBlock≠st.ownBlock
 O:Below w.heap.size w wr
def tS(a:Value)(us:List Value):Prop:=∀u∈us,u.ownBlock=none∨u.ownBlock≠a.ownBlock
section
variable{w:World} {sv:Value} {L:List (List Int)} {rows:List (List Nat)} {fs:List Value} {st nv fv:Value} {vs ns:List Value} {wr u:World}
def eS.size(a:eS w sv L rows fs st nv fv vs ns wr):w.heap.size+1<wr.heap.size:=aS a.box
def eS.inner(c:eS w sv L rows fs st nv fv vs ns wr):∀x∈vs++ns,∃n xs,wr.ownsRow (w.heap.size+2) 3 1 x n xs:=fun x b=>by
 rcases dk.1 b with b|b
 obtain⟨j,a⟩:=mU b;have d:=(aF.1 a).1;have⟨r,e⟩:=df L j (by rw[<-c.sts.2.1];exact d);exact⟨_,_,c.sts.2.2 j x r a e⟩;obtain⟨j,a⟩:=mU b;have d:=(aF.1 a).1;have⟨r,e⟩:=df rows j (c.nl▸d);exact⟨_,_,c.nr j x r a e⟩
def eS.zw(a:eS w sv L rows fs st nv fv vs ns wr){row:Option Nat}(b:wr.grownBy u row)(d:∀q,row=some q->w.heap.size+2<=q)(h:st.ownBlock=none∨st.ownBlock≠row)(i:nv.ownBlock=none∨nv.ownBlock≠row)(l:fv.ownBlock=none∨fv.ownBlock≠row)(g:∀x∈vs++ns,x.ownBlock=none∨x.ownBlock≠row):
 eS w sv L rows fs st nv fv vs ns u:=
 have m:=a.size
 ⟨(b.J _ ad fun e=>by have:=d _ e.zy;omega).Z a.res,(b.J _ m fun e=>by have:=d _ e.zy;omega).Z a.box,
   ⟨cm a.sts.1 b h,a.sts.2.1,fun j x r c f=>cm (a.sts.2.2 j x r c f) b (g x (by simp[aK c]))⟩,
   cm a.nx b i,a.nl,fun j x r c f=>cm (a.nr j x r c f) b (g x (by simp[aK c])),cm a.fo b l,a.sep,a.O.zu b a.O.size fun j e=>by have:=d _ e;omega⟩
def eS.grow(a:eS w sv L rows fs st nv fv vs ns wr)(b:Below wr.heap.size wr u):eS w sv L rows fs st nv fv vs ns u:=
 a.zw (bL b none) (fun q e=>by cases e) (by cases e:st.ownBlock<;>simp) (by cases e:nv.ownBlock<;>simp) (by cases e:fv.ownBlock<;>simp) (fun x _=>by cases e:x.ownBlock<;>simp)
def eS.row(a:eS w sv L rows fs st nv fv vs ns wr){c:Value}{n:Nat}{xs:List Value}(b:wr.ownsRow (w.heap.size+2) 3 1 c n xs)(f:tS c (vs++ns))(d:wr.grownBy u c.ownBlock):eS w sv L rows fs st nv fv vs ns u:=
 a.zw d (fun q e=>(aY b q e).1) (jj a.sts.1 b aq) (jj a.nx b aq) (jj a.fo b aq) f
def eS.state(a:eS w sv L rows fs st nv fv vs ns wr){p:Value}{x:List Int}(B:nf wr (w.heap.size+2) p x){g n c:Nat}(z:u.ownsRow (w.heap.size+2) 41 1 (.slice (some ⟨g,0,none⟩) n c) (vs.length+1) (vs++[p]))(f:wr.grownBy u st.ownBlock)(t:st.ownBlock=some g∨wr.heap.size<=g):
 eS w sv (L++[x]) rows fs (.slice (some ⟨g,0,none⟩) n c) nv fv (vs++[p]) ns u:=by
 have A:=a.size;have l:=fun q e=>(aY a.sts.1 q e).1;have o:∀{y} {m} {ys},wr.ownsRow (w+2) 3 1 y m ys->u.ownsRow (w+2) 3 1 y m ys:=fun b=>cm b f (jj b a.sts.1 aq);refine⟨(f.J _ ad fun e=>by have:=l _ e.zy;omega).Z a.res,(f.J _ A fun e=>by have:=l _ e.zy;omega).Z a.box,⟨by simpa using z,by simp[a.sts.2.1],fun j y r b d=> ?_⟩,cm a.nx f a.sep,a.nl,fun j y r b d=>o (a.nr j y r b d),cm a.fo f (jj a.fo a.sts.1 aq),?_,a.O.zu f a.O.size fun j e=>by have:=l _ e;omega⟩;by_cases e:j<vs;rw[eC e]at b;rw[eC (by rw[<-a.sts.2.1];exact e)]at d;exact o (a.sts.2.2 j y r b d);have v:j=vs.length:=by have:=(aF.1 b).1;simp at this;omega
 subst v;rw[gp (ay _)]at b;rw[gp (by rw[a.sts.2.1];simp),a.sts.2.1]at d;simp at b d;subst b;subst d;exact o B;cases e:nv.ownBlock with
 |none=>simp
 |some q=>
  right;intro i;have i:q=g:=by injection i
  subst i;rcases t with s|s
  rcases a.sep with h|h
  rw[e]at h;cases h;exact h (by rw[e,s]);have:=(aY a.nx q e).2;omega
def eS.addNext(a:eS w sv L rows fs st nv fv vs ns wr){p:Value}{r:List Nat}(o:bW wr (w.heap.size+2) p r){g n c:Nat}(z:u.ownsRow (w.heap.size+2) 41 1 (.slice (some ⟨g,0,none⟩) n c) (ns.length+1) (ns++[p]))(d:wr.grownBy u nv.ownBlock)(v:nv.ownBlock=some g∨wr.heap.size<=g):
 eS w sv L (rows++[r]) fs st (.slice (some ⟨g,0,none⟩) n c) fv vs (ns++[p]) (u.setCell ⟨w.heap.size+1,1,none⟩ (.slice (some ⟨g,0,none⟩) n c)):=by
 have A:=a.size;have h:=fun q e=>(aY a.nx q e).1;have l:∀{y} {m} {ys},wr.ownsRow (w+2) 3 1 y m ys->u.ownsRow (w+2) 3 1 y m ys:=fun b=>cm b d (jj b a.nx aq);have t:st.ownBlock=none∨st.ownBlock≠nv.ownBlock:=by
  rcases a.sep with e|e
  cases C:st.ownBlock<;>simp[e]
  exact .inr (mQ e)
 refine⟨(aU _ _ _ _ _ ad).Z ((d.J _ ad fun e=>by have:=h _ e.zy;omega).Z a.res),a8 _ _ 1 _ ((d.J _ A fun e=>by have:=h _ e.zy;omega).Z a.box),⟨ny (cm a.sts.1 d t),a.sts.2.1,fun j y r b o=>ny (l (a.sts.2.2 j y r b o))⟩,ny (by simpa using z),by simp[a.nl],fun j y B b f=> ?_,ny (cm a.fo d (jj a.fo a.nx aq)),?_,(a.O.zu d a.O.size fun j e=>by have:=h _ e;omega).setCell (by show w<=w.heap.size+1;omega) _⟩;by_cases e:j<ns;rw[eC e]at b;rw[eC (a.nl▸e)]at f;exact ny (l (a.nr j y B b f));have x:j=ns:=by have:=(aF.1 b).1;simp at this;omega
 subst x;rw[gp (ay _)]at b;rw[gp (a.nl▸ay _),a.nl]at f;simp at b f;subst b;subst f;exact ny (l o);right;intro e;have e:g=st.ownBlock:=e;rcases v with s|s
 rcases t with i|i
 rw[i]at e;cases e;exact i (by rw[s,e]);have:=(aY a.sts.1 g e.zy).2;omega
def eS.addFin(a:eS w sv L rows fs st nv fv vs ns wr){x:Value}{g n c:Nat}(i:u.ownsRow (w.heap.size+2) 4 1 (.slice (some ⟨g,0,none⟩) n c) (fs.length+1) (fs++[x]))(b:wr.grownBy u fv.ownBlock):
 eS w sv L rows (fs++[x]) st nv (.slice (some ⟨g,0,none⟩) n c) vs ns (u.setCell ⟨w.heap.size+1,2,none⟩ (.slice (some ⟨g,0,none⟩) n c)):=by
 have p:=a.size;have f:=fun q e=>(aY a.fo q e).1;have h:∀{y} {m} {ys},wr.ownsRow (w+2) 3 1 y m ys->u.ownsRow (w+2) 3 1 y m ys:=fun d=>cm d b (jj d a.fo aq);exact⟨(aU _ _ _ _ _ ad).Z ((b.J _ ad fun e=>by have:=f _ e.zy;omega).Z a.res),a8 _ _ 2 _ ((b.J _ p fun e=>by have:=f _ e.zy;omega).Z a.box),⟨ny (cm a.sts.1 b (jj a.sts.1 a.fo aq)),a.sts.2.1,fun j y r d l=>ny (h (a.sts.2.2 j y r d l))⟩,ny (cm a.nx b (jj a.nx a.fo aq)),a.nl,fun j y s d o=>ny (h (a.nr j y s d o)),ny (by simpa using i),a.sep,(a.O.zu b a.O.size fun j e=>by have:=f _ e;omega).setCell (by show w<=w.heap.size+1;omega) _⟩
def eS.number{a j:World}{h:Option Addr}{f:Nat}(y:eS w sv L rows fs (.slice h vs.length f) nv fv vs ns wr)(A:Below wr.heap.size wr a){x:List Int}{C i:Value}(B:nf a wr.heap.size C x)
 (F:(x∈L/\i=.slice h vs.length f/\Below a.heap.size a j)∨(x∉L/\∃g c,i=.slice (some ⟨g,0,none⟩) (vs.length+1) c/\j.ownsRow (w.heap.size+2) 41 1 i (vs.length+1) (vs++[C])/\a.grownBy j (Value.slice h vs.length f).ownBlock/\((Value.slice h vs.length f).ownBlock=some g∨a.heap.size<=g)))
 {d:Value} {row:List Nat} (s:bW wr (w.heap.size+2) d row) (t:tS d (vs++ns)):
 ∃v o c,i=.slice o v.length c/\eS w sv (oY L x).2 rows fs i nv fv v ns j/\bW j (w.heap.size+2) d row/\tS d (v++ns):=by
 have p:=y.grow A;have G:=y.size;have m:bW a (w+2) d row:=aX s (fun g r=>A.J g (aY s g r).2);unfold oY;rcases F with⟨n,rfl,l⟩|⟨n,g,c,rfl,l,z,E⟩
 rw[au n];exact⟨vs,h,f,rfl,p.grow l,aX m (fun g r=>l.J g (aY m g r).2),t⟩;rw[ap n];refine⟨_,g,c,aj,p.state (eR B ad) l z E,cm m z (jj m p.sts.1 aq),fun u b=> ?_⟩;simp only[qF,dk,pm]at b;rcases b with b|rfl|b
 exact t u (by simp[b]);cases e:u.ownBlock with
 |none=>simp
 |some q=>
  right;intro D;have:=(aY B q e).1;have:=(aY s q D.zy).2;omega
 exact t u (by simp[b])
def eS.put(j:eS w sv L rows fs st nv fv vs ns wr){a:Value}{row:List Nat}(o:bW wr (w.heap.size+2) a row)(p:tS a (vs++ns)){d:Obj}(i:(wr.alloc d).grownBy u a.ownBlock){g n c:Nat}(s:a.ownBlock=some g∨g=(wr.alloc d).heap.size):
 eS w sv L rows fs st nv fv vs ns u/\tS (.slice (some ⟨g,0,none⟩) n c) (vs++ns):=by
 have l:aR wr (wr.alloc d):=aP;have v:bW (wr.alloc d) (w+2) a row:=aX o (fun g i=>l.J g (aY o g i).2);refine⟨(j.grow l).row v p i,fun x r=> ?_⟩;obtain⟨m,xs,t⟩:=j.inner x r;cases e:x.ownBlock with
 |none=>simp
 |some q=>
  right;intro f;have f:q=g:=by injection f
  subst f;rcases s with h|h
  rcases p x r with b|b
  rw[e]at b;cases b;exact b (by rw[e,h]);have:=(aY t q e).2;rw[h]at this;simp at this;omega
end
def TW{keys ks:List St}{k}(a:eu 256 keys ks≠none):eu 256 keys (ks.take k)≠none:=fun e=>a (by unfold eu at*;rw[<-ig k ks,KX,e];rfl)
def TX{keys ks:List St}{k s}(a:ks[k]?=some s):eu 256 keys (ks.take (k+1))=(eu 256 keys (ks.take k)).bind fun v=>mr 256 v s:=by rw[bH,a,fp,yE]
def CD s:(dK s).length<=4096:=by unfold dK aG;split;simp;rw[bn];exact aW (lf _ _) aj
def Jn{w B v l}(a:bW w B v l):nf w B v (l.map fun(p:Nat)=>p):=by unfold nf uS;rw[bn,z6];exact a
def TY l o cap(b3:bK l=0)(c8:l.length<=60)(cP:¬tO l) sv B w(Z:dv w o cap l)(C:bN w B sv (unionB (symsS l)))(g4:(unionB (symsS l)).length<=64):
 dB 94 #[.slice o l cap,sv] w fun e w'=>(∃nv fv keys rows vs,e=.returned (.tuple #[.agg #[sv,nv,fv],true])/\ev l keys rows/\w'.ownsRow w 41 1 nv vs.length vs/\vs=rows.length/\(∀(j:Nat) v r,vs[j]?=some v->rows[j]?=some r->bW w' w v r)/\w'.ownsRow w 4 1 fv keys (keys.map fun s=>.bool (finM l s)))/\aR w w':=by
 obtain⟨g5,ga,gb,gf,gg⟩:=cZ lm;obtain⟨g7,c6,gl,gn,gr⟩:=cZ BS;obtain⟨e8,fs,av,fu,fx⟩:=cZ Ho;have hF:=qU (oX b3);have dc:=(F4 b3).1;have dq:=zV.2 (F4 b3).2.1;obtain⟨q,m,rfl⟩:=bs C;have be:cI w q m (unionB (symsS l)):=dY C;have⟨ws,bf⟩:=am (unionB (symsS l));have cS:¬∃n keys rows k,fR (true,0) 256 (cD l ws) n=some (keys,rows)/\keys[n]?=some k/\eu 256 keys (cD l ws k)=none:=by rw[bf];exact cP
 have ek:Hid (∀keys rows,fR (true,0) 256 (cD l ws) keys.length=some (keys,rows)->ev l keys rows):=ah fun keys rows Z=>by unfold ev;rw[<-bf];exact Z
 rw[<-bf]at be g4⊢;clear bf C cP;have hB:=Z.2.1;have fz:=Z.2.2.1;have hG:=be.2.1;have g2:=be.2.2.1;unfold maxLen at fz g2;have⟨Q,T⟩:=am ((((w.alloc (.cells dx 122)).alloc (.cells #[.slice q ws m,.slice none 0 0,.slice none 0 0] 122)).alloc (.cells #[.int .i64 (-1)] 3)).alloc (.cells #[.slice (some ⟨w+1+1,0,none⟩) 1 1] 41));have a:eS w (.slice q ws.length m) [[-1]] [] [] (.slice (some ⟨w.heap.size+1+1+1,0,none⟩) 1 1) (.slice none 0 0) (.slice none 0 0) [.slice (some ⟨w.heap.size+1+1,0,none⟩) 1 1] [] Q:=by
  have b2:Q.heap[w.heap.size+1+1+1]?=some (.cells #[.slice (some ⟨w.heap.size+1+1,0,none⟩) 1 1] 41):=by rw[T];have:=aN (cT ((w.alloc (.cells dx 122)).alloc (.cells #[.slice q ws m,.slice none 0 0,.slice none 0 0] 122)) #[.int .i64 (-1)] 3) (.cells #[.slice (some ⟨w+1+1,0,none⟩) 1 1] 41);simpa using this
  have b1:Q.heap[w.heap.size+1+1]?=some (.cells #[.int .i64 (-1)] 3):=by rw[T];have:=aN (cT (w.alloc (.cells dx 122)) #[.slice q ws m,.slice none 0 0,.slice none 0 0] 122) (.cells #[.int .i64 (-1)] 3);exact(br _ _ _ aj).Z (by simpa using this)
  have a4:Q.heap[w.heap.size+1]?=some (.cells #[.slice q ws.length m,.slice none 0 0,.slice none 0 0] 122):=by rw[T];have:=aN (cT w dx 122) (.cells #[.slice q ws m,.slice none 0 0,.slice none 0 0] 122);exact(br _ _ _ aj).Z ((br _ _ _ aj).Z (by simpa using this))
  have fr:Q.heap[w.heap.size]?=some (.cells dx 122):=by rw[T];exact(br _ _ _ aO).Z ((br _ _ _ aO).Z ((br _ _ _ aj).Z (aN w _)))
  have dm:∀g x t,w.heap.size+2<=g->kq Q g #[x] t->Q.ownsRow (w+2) t 1 (.slice g 1 1) 1 [x]:=fun g x t G fT=>⟨rfl,.inr ⟨g,1,_,rfl,G,fT,ay _,aq,rfl,rfl⟩⟩;refine⟨fr,a4,⟨dm _ _ _ ad b2,rfl,fun j u r y ae=> ?_⟩,cW _ _ _ _,rfl,fun j v r hv=>by simp at hv,cW _ _ _ _,.inl rfl,T▸((aP.alloc aj _).alloc aO _).alloc aO _⟩;match j with
  |0=>simp at y ae;subst y;subst ae;exact dm _ _ _ ad b1
  |j+1=>simp at y
 have⟨e6,ex⟩:=aC cS a;clear cS a
 go_in
 go_wp2_with(first|(rw[<-T];clear T)|fail)
 go_loopw [7,8] (fun st cp wr=>∃(k:Nat) (keys:List St) (rows:List (List Nat)) (vs ns:List Value) (nv fv:Value),cp=.int .i64 k/\fR (true,0) 256 (cD l ws) k=(keys,rows)/\(∀s∈keys,jW l s)/\eS w (.slice q ws m) (keys.map dK) rows ((keys.take k).map fun s=>.bool (finM l s)) st nv fv vs ns wr) (fun _ cp _=>257-(intOf cp).toNat)
 case atStart=>exact⟨0,_,[],_,_,_,_,rfl,rfl,fun s C=>(by simp at C;subst C;exact SS),ex.o⟩
 case round=>
  obtain⟨k,keys,rows,vs,ns,nv,fv,rfl,aa,cO,a⟩:=hrel;have al:=rK ad _ _ aa;have hA:k<=keys:=al.le;have hy:keys.length<=256:=al.most;have cl:vs=keys.length:=by rw[a.sts.2.1];simp
  obtain⟨he,hd,rfl⟩:=bs a.sts.1;obtain⟨X,W,rfl⟩:=bs a.nx;obtain⟨S,R,rfl⟩:=bs a.fo;have hs:decide ((vs:Int)<=256)=true:=bT;obtain⟨cv,rfl⟩:=am wr;have hK:vs.length<=256:=ad;by_cases c9:k<keys
  ·have fN:decide ((k:Int)<vs)=true:=bT
   have fO:decide (k<vs)=true:=bT;have fF:decide (vs.length<=256)=true:=bT;have hz:(k:Int)<vs:=ad;have hx:=aL k;have⟨s,C⟩:=aT c9;have c3:eu 256 keys (cD l ws s)≠none:=fun e=>e6.o ⟨k,keys,rows,s,aa,C,e⟩;have⟨el,bz,hm,bA,eE,E,ag⟩:=td c3 C cl aa cO a al;clear cl aa cO a al c3 C
   go_wp2
   go_loopw [7,9,10] (fun st ed cq wr=>∃(j:Nat) (i:List St) (row:List Nat) (h:List Value) (o:Option Addr) (c:Nat),cq=.int .i64 j/\j<=ws/\Hid (eu 256 keys ((cD l ws s).take j)=(i,row))/\Hid (∀s∈i,jW l s)/\st=.slice o h c/\eS w (.slice q ws m) (i.map dK) rows ((keys.take k).map fun s=>.bool (finM l s)) st (.slice X ns W) (.slice S ((keys.take k).map fun s=>Value.bool (finM l s)) R) h ns wr/\bW wr (w+2) ed row/\tS ed (h++ns)) (fun _ _ cq _=>ws-(intOf cq).toNat)
   case atStart=>exact⟨0,keys,[],vs,he,hd,rfl,aH _,ah (BL _ _),eE,rfl,E.o,cW _ _ _ _,fun u _=>by cases e:u.ownBlock<;>simp[Value.ownBlock]⟩
   case round=>
    obtain⟨j,i,row,h,o',an,rfl,hu,bB,a2,rfl,a,bb,ch⟩:=hrel;have V:=tq ag.o.nodup ag.o.most _ _ _ rfl bB.o;have M:i[k]?=some s:=by obtain⟨cu,ci⟩:=V.pre;have e:keys++cu=i:=ci;rw[<-e,eC c9];exact bz.o
    have hq:i.length<=256:=V.most;have eb:h=i.length:=by rw[a.sts.2.1];simp
    have cg:row.length=j:=by have:=V.len;simp[cD]at this;omega
    have⟨u,y⟩:=df h k (by have:=(aF.1 M).1;omega);have a1:=a.sts.2.2 k u _ y (by rw[bR,M];rfl);obtain⟨bt,bq,rfl⟩:=bs a1;have b7:jl wr bt bq (dK s):=dY a1;have hL:h.length<=4096:=ad;obtain⟨bo,bl,rfl⟩:=bs bb;have⟨I,bw,e1,cG,hk⟩:=iz a bb ch M cg;have hE:row.length<=64:=ad;by_cases ab:j<ws
    ·have fG:=bC ab
     have fL:=od ab;have hw:=bk ab;have c6:=aL j;have gv:(k:Int)<h.length:=by have:=(aF.1 y).1;omega
     obtain⟨g,af,rfl,fS,aw⟩:=(dY a.sts.1).2.2.2 (by have:=(aF.1 y).1;omega);have bE:=aw k _ y;have⟨x,D⟩:=aT ab;obtain⟨hp,hM,rfl,ht,e9⟩:=(be.O a.O).at D;have en:=ah fun d f=>TV l o cap dc dq ad _ _ _ x d ((Z.O I.o.O).O f) (b7.O f) (CD s);have e4:Hid (∃cs n,eu 256 keys ((cD l ws s).take (j+1))=some (cs,row++[n])/\oY (i.map dK) ((nw l (dK s) x).map fun(p:Nat)=>(p:Int))=(n,cs.map dK)/\∀s∈cs,jW l s):=ah (by
      have a0:=a2.o s (aK M);have b9:(cD l ws s)[j]?=some (false,fK l x s):=by simp[cD,D,fK]
      have bZ:=TX (keys:=keys) b9;rw[bB.o]at bZ;have g0:=TW (k:=j+1) el.o;have⟨v,hv⟩:=Option.ne_none_iff_exists'.1 g0;rw[hv]at bZ;have⟨n,a4,b1,b2,_,_⟩:=SZ a2.o (ST c8 x s) bZ.zy;have fl:dK (false,fK l x s)=(nw l (dK s) x).map fun(p:Nat)=>(p:Int):=by rw[SW hF c8 a0];rfl
      rw[fl]at a4;exact⟨_,n,by rw[hv,<-b1],a4,b2⟩)
     have⟨g8,n,ea,b8,dl⟩:=e4.o;have eB:Hid (∀d Y,Below wr.heap.size wr d->bW d wr.heap.size Y (nw l (dK s) x)->Calls prog 174 #[.slice (some ⟨g,af,none⟩) h.length an,Y] d fun e w'=>∃bu:Value,e=.returned (.tuple #[.int .i64 (n:Nat),bu])/\
      (((nw l (dK s) x).map fun(p:Nat)=>(p:Int))∈i.map dK/\bu=.slice (some ⟨g,af,none⟩) h.length an/\Below d.heap.size d w'∨((nw l (dK s) x).map fun(p:Nat)=>(p:Int))∉i.map dK/\∃b0 fc,bu=.slice (some ⟨b0,0,none⟩) (h.length+1) fc/\w'.ownsRow (w.heap.size+2) 41 1 bu (h.length+1) (h++[Y])/\d.grownBy w' (Value.slice (some ⟨g,af,none⟩) h.length an).ownBlock/\((Value.slice (some ⟨g,af,none⟩) h.length an).ownBlock=some b0∨d.heap.size<=b0))):=ah fun d Y f ba=>by
      have hH:=I.o.size;have:=TQ (i.map dK) ((nw l (dK s) x).map fun(p:Nat)=>(p:Int)) h (w.heap.size+2) (some ⟨g,af,none⟩) an Y d (I.o.grow f).sts (eR (Jn ba) ad) (aQ f.size) aO (fun r ae=>by obtain⟨t,_,rfl⟩:=dL.1 ae;exact CD t)
      rwa[b8]at this
     have⟨e5,eD,eZ⟩:=bm ea b8 dl;have g3:=a.size;clear ea b8 dl;have hn:=ah D;clear a bb ch M V y a1 b7 cg eb aw D;go_wp2_with fail
     go_region_law (first
      |(refine vO (by rfl) 175 _ _ (fun _ _=>az) (by rfl) ?_;go_simp;apply(en.o _ ((aA _ wr).drew)).zz;rintro e hh ⟨⟨Y,rfl,ca⟩,c0⟩;refine⟨_,rfl,?_⟩)
      |(apply vO (by rfl) 174 _ _ (fun _ _=>az) (by rfl);go_simp;apply(eB.o hh Y ((aA _ wr).drew.Z c0) ca).zz;rintro e hS ⟨hQ,rfl,dn⟩;refine⟨_,rfl,?_⟩))
     all_goals(
      obtain⟨hf,hb,fg,rfl,a6,cd,du⟩:=I.o.number ((aA _ wr).drew.Z c0) (Jn ca) dn bw.o e1.o;rw[eD.o]at a6;obtain⟨ez,e0,e2⟩:=bm a6 cd du;have ds:=cd;unfold bW at ds;have hI:=a6.size;clear dn a6 cd du ca bE e9;go_wp2_with(first
       |(at_builtin;go_must (apply kI _ rfl _ _ 41 rfl _ 3 g5 _ 1 8 j9 ga gb gf gg rfl aq (.slice bo row bl) _ _ rfl (dp ds _) _ 1 1 [.int .i64 n] rfl rfl (ln _ [.int .i64 n] _ _ rfl) (fun z N=>by simp at N;subst N;rfl) aq bO ad aO _ rfl);intro cN bF eg cc a9 b4 gG)
       |fail)
      go_roundw
      (case rel=>
        obtain⟨g9,ha⟩:=ez.o.put (c:=bF) (n:=row+1) e0.o e2.o a9 b4;exact⟨_,g8,_,hf,hb,fg,aD,ad,e5,eZ,rfl,g9,by unfold bW;simpa[fB]using cc,ha⟩)
      (case measure=>simp[intOf];omega))
    ·have fG:=bG ab
     have fL:=mH ab;have d1:=ak 1 a.box;have g3:=a.size;have b9:=a.nx;have hD:ns.length<=4096:=by have:=a.nl;have:=ag.o.len;have e:rows=k:=this;omega
     have er:Hid (∀u H:World,Below wr.heap.size wr u->u.grownBy H (Value.slice X ns.length W).ownBlock->H.cell? ⟨w.heap.size+1,1,none⟩=some (.slice X ns.length W)/\H.frozen? ⟨w.heap.size+1,1,none⟩=false):=ah fun u H f G=>by have D:=(G.J (w.heap.size+1) (aQ f.size) (fun e=>by have:=(aY I.o.nx _ e.zy).1;omega)).Z ((f.J _ I.o.size).Z I.o.box);exact⟨ak 1 D,aJ D 1⟩
     have⟨a3,ho⟩:=aC y a1;clear a bb ch M V y a1 b7 cg eb;go_wp2_with(first
      |(at_builtin;go_must (apply kI _ rfl _ _ 106 rfl _ 41 g7 _ 1 24 KY c6 gl gn gr rfl aq (.slice X ns W) _ ns rfl (dp b9 _) _ 1 1 _ rfl rfl (ln _ _ _ _ rfl) (fun z N=>by simp at N;subst N;rfl) aq bO ad aO _ rfl);intro cN bF eg cc a9 b4 gG;obtain⟨bg,bi⟩:=er.o _ _ aP a9)
      |fail)
     have av:aR wr (cT wr #[.slice bo row bl] 41):=aP;have dr:bW (cT wr #[.slice bo row bl] 41) (w+2) (.slice bo row bl) row:=aX bw.o (fun g G=>av.J g (aY bw.o g G).2);have F:=(I.o.grow av).addNext dr cc a9 (b4.imp_right fun e=>by rw[e];simp);have⟨O,ec⟩:=am (eg.setCell ⟨w+1,1,none⟩ (.slice cN (ns+1) bF));rw[<-ec]at F⊢;clear ec av dr bg bi;have A:=ah F;have gv:(k:Int)<h.length:=by have:=(aF.1 a3.o).1;omega
     obtain⟨g,af,rfl,fS,aw⟩:=(dY F.sts.1).2.2.2 (by have:=(aF.1 a3.o).1;omega);have bE:=aw k _ a3.o;have d2:=ak 2 F.box;have c5:jl O bt bq (dK s):=dY (F.sts.2.2 k _ _ a3.o (by rw[bR,cG.o];rfl));have a0:=a2.o s (aK cG.o);have cx:Hid (∀d,Below O.heap.size O d->Calls prog 176 #[.slice o l.length cap,.slice bt (dK s).length bq] d fun e w'=>e=.returned (.bool (finM l s))/\Below d.heap.size d w'):=ah fun d f=>by have:=TU l o cap dc dq _ bt bq d ((Z.O A.o.O).O f) (c5.O f) (CD s);rwa[SX hF a0]at this
     have⟨J,a7⟩:=am ((keys.take k).map fun s=>Value.bool (finM l s));rw[<-a7]at A F d2;have fP:=F.fo;have b6:J.length<=256:=by rw[a7];simp;omega
     have hJ:=F.size;have cL:Hid (∀d,aR O d->d.cell? _=some (.slice S J R)/\d.ownsRow _ 4 1 _ _ J):=ah fun d f=>⟨(f.cell A.o.size).Z (ak 2 A.o.box),((A.o.grow f).fo)⟩;have es:Hid (∀u H:World,Below O.heap.size O u->u.grownBy H (Value.slice S J.length R).ownBlock->H.cell? ⟨w.heap.size+1,2,none⟩=some (.slice S J.length R)/\H.frozen? ⟨w.heap.size+1,2,none⟩=false):=ah fun u H f G=>by have D:=(G.J (w.heap.size+1) (jO f.size A.o.size) (fun e=>by have:=(aY A.o.fo _ e.zy).1;omega)).Z ((f.J _ A.o.size).Z A.o.box);exact⟨ak 2 D,aJ D 2⟩
     have⟨em,hl⟩:=aC a7 a0;clear F c5 a0 a7 fP aw;generalize hfb:finM l s=ao at cx;have e7:=ah hfb;clear hfb
     go_region_law (first
      |(refine vO (by rfl) 176 _ _ (fun _ _=>az) (by rfl) ?_;go_simp;refine ar (cx.o _ ((aA _ O).drew)) ?_;intro P b5;have K:=(aA _ O).drew.Z b5;have⟨hi,c1⟩:=cL.o P K;have⟨hj,_⟩:=cL.o _ (K.alloc K.size (.cells #[ao] 4));refine⟨_,rfl,?_⟩)
      |(apply nG _ (by rfl) _ _ _ (by rfl) _ 4 e8 _ 1 1 K4 fs av fu fx rfl aq _ _ J (by rfl) (dp c1 _) _ 1 1 [ao] (by rfl) (by rfl) (ln P [.bool ao] _ _ rfl) (fun z N=>by simp at N;subst N;rfl) aq bO ad (by have:=K.size;simp;omega) _ rfl;intro fq fb hg g1 c4 hr hC;obtain⟨bg,bi⟩:=es.o _ _ (K.alloc K.size _) c4))
     all_goals(
      obtain⟨hR,co⟩:=am (hg.setCell ⟨w+1,2,none⟩ (.slice fq (J+1) fb));have a5:=(A.o.grow (K.alloc K.size (.cells #[ao] 4))).addFin g1 c4;rw[<-co]at a5;have gs:j=ws:=ad;have bc:=bB.o;rw[bI (by simp[cD];omega)]at bc;have V:=tq ag.o.nodup ag.o.most _ _ _ rfl bc;have dz:fR (true,0) 256 (cD l ws) (k+1)=some (i,rows++[row]):=by rw[fR,bA.o];simp only[wX,bz.o,bc,qJ]
      have c2:(i.take (k+1)).map (fun s=>Value.bool (finM l s))=J++[.bool ao]:=by obtain⟨cu,ci⟩:=V.pre;have e:keys++cu=i:=ci;rw[<-e,List.take_append_of_le_length ad,bH,bz.o,em.o,gL];simp[e7.o]
      rw[<-c2]at a5;have⟨ey,e3⟩:=aC a5 dz;clear a5 bc V dz c2 gs bE d2 hi hj c1;go_wp2_with fail
      rw[<-co];clear co;go_roundw
      (case rel=>exact⟨_,i,_,h,_,_,_,aD,e3.o,a2.o,ey.o⟩)
      (case measure=>simp[intOf];omega))
  have c7:k=keys:=ad;have fN:decide ((k:Int)<vs)=false:=bU;have fO:decide (k<vs)=false:=bU;have fF:decide (vs.length<=256)=true:=bT;have d0:=ak 0 a.box;have d1:=ak 1 a.box;have d2:=ak 2 a.box;have hN:=ak 0 a.res;have hO:=ak 1 a.res;have hP:=ak 2 a.res;have f0:=aJ a.res 0;have f1:=aJ a.res 1;have f2:=aJ a.res 2;have⟨E,bA,et⟩:=bm a aa c7;clear a aa al c7 cl;have b6:((keys.take k).map fun s=>Value.bool (finM l s))=keys.length:=aO;rw[b6]at d2 E;clear b6;go_wp2_with fail
  obtain⟨P,bd⟩:=am (((cv.setCell w (.slice q ws m)).setCell ⟨w,1,none⟩ (.slice X ns W)).setCell ⟨w,2,none⟩ (.slice S keys R));have fo:P.heap[w.heap.size]?=some (.cells #[.slice q ws.length m,.slice X ns.length W,.slice S keys.length R] 122):=by rw[bd];exact a8 _ _ 2 _ (a8 _ _ 1 _ (a8 _ _ 0 _ E.o.res))
  have fy:∀b,b≠w.heap.size->P.heap[b]?=cv.heap[b]?:=fun b f=>by rw[bd,aU _ _ _ _ _ f,aU _ _ _ _ _ f,aU _ _ _ _ _ f]
  have b5:Below w.heap.size w P:=by rw[bd];exact((E.o.O.setCell (ay _) _).setCell (ay _) _).setCell (ay _) _
  have cb:∀{e size n:Nat} {v:Value} {xs:List Value},cv.ownsRow (w.heap.size+2) e size v n xs->P.ownsRow w.heap.size e size v n xs:=fun ba=>eR (aX ba (W':=P) (fun g G=>fy g (aQ ((aY ba g G).1)))) ad;rw[<-bd];have⟨hc,bg,bi⟩:=dP fo;have M:=et.o;subst M;refine cQ (v:=.tuple #[.agg #[.slice q ws m,.slice X ns W,.slice S keys R],true]) (by simp[results,go_sem,hc,bg,bi]) rfl ⟨⟨_,_,keys,rows,ns,rfl,ek.o keys rows bA.o,cb E.o.nx,E.o.nl,fun j v r hv ae=>cb (E.o.nr j v r hv ae),?_⟩,b5⟩;have:=cb E.o.fo;rw[ol]at this;simpa using this
end
end Go.Proofs.YtfeidcmojcijpaaGreatDoor
