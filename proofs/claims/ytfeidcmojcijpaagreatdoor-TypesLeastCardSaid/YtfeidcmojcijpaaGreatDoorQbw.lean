import Derived.Test.YtfeidcmojcijpaaGreatDoorQap
import Derived.Test.YtfeidcmojcijpaaGreatDoorQaq
set_option linter.all false
set_option maxRecDepth 100000
set_option maxHeartbeats 0
namespace Go.Proofs.YtfeidcmojcijpaaGreatDoor
open Go.RowKit Tryz
namespace U
def rIs_dig n(a:48<=n)(b:n<=57) w:de 177 #[.int .i64 (n:Nat)] w true fun w'=>w=w':=by
 go_in
 go_wp2_with fail
 all_goals
  go_ret;exact⟨bJ (by first|rfl|(rw[ft];simp;omega)),rfl⟩
def rBytes_dig n(a:48<=n)(b:n<=57) w:de 178 #[.int .i64 (n:Nat)] w (.slice w 1 1) fun w'=>w'=cT w #[.int .u8 n] 5:=by
 go_in
 go_wp2
 go_ret;simp
def rRead_dig b off len cap n w(u:0<len)(x:len<=cap)(z:cap<=9223372036854775807)(f:48<=n)(g:n<=57)(r:w.cell? ⟨b,off,none⟩=some (.int .u8 n))(q:b<w.heap.size):
 cX 95 #[.slice (some ⟨b,off,none⟩) len cap] w (.tuple #[.int .i64 (n:Nat),.int .i64 1]):=by
 have h:=rIs_dig n f g w;have c:=rBytes_dig n f g w;have a:aR w (cT w #[.int .u8 n] 5):=aP;have o:(w.alloc (.cells #[.int .u8 n] 5)).cell? _=some (.int .u8 n):=ak 0 (aN w _);have p:=(a.cell q).Z r;have⟨w1,l⟩:=am (w.alloc (.cells #[.int .u8 n] 5));rw[<-l]at c a o p;have⟨m,e,d⟩:=bm a h c;clear l a h c
 go_in
 go_wp2
 go_loopw [4] (fun v wr=>v=.int .i64 1/\wr=w) (fun _ _=>0)
 case atStart=>simp
 case round=>
  obtain⟨rfl,rfl⟩:=hrel;have d1:decide ((1:Int)<=len)=true:=bT
  go_wp2
  go_loop [5,6] (fun v i=>v=.int .i64 n/\i=.int .i64 1) (fun _ _=>0)
  case atStart=>simp
  case round=>
   obtain⟨rfl,rfl⟩:=hrel;go_wp2_with fail
   refine ar e.o ?_;rintro w' rfl;go_wp2_with fail
   refine ar d.o ?_;rintro w' rfl;clear e d
   go_wp2
   go_loopw [8,9] (fun v i t=>∃(j nq:Nat),i=.int .i64 j/\j<=1/\v=true/\t=w'.drewN nq) (fun _ i _=>5-(intOf i).toNat)
   case atStart=>exact⟨0,0,rfl,ad,rfl,rfl⟩
   case round=>
    obtain⟨j,nq,rfl,y,rfl,rfl⟩:=hrel;have s:j=0∨j=1:=ad;rcases s with rfl|rfl
    ·go_wp2_with fail
     go_quiet(fail)
     go_wp2
     go_roundw
     case rel=>exact⟨1,_,rfl,ad,rfl,rfl⟩
     case measure=>simp[intOf]
    go_wp2_with fail
    go_ret2
    exact⟨rfl,ee m.o _⟩
def rAll_dig b cap l w(a:∀c∈l,48<=c.toNat/\c.toNat<=57)(d:l.length<=cap)(h:cap<=9223372036854775807)(f:l.length<=1048576)(u:BytesAt w b 0 l)(s:b<w):
 dB 57 #[.slice b l cap] w fun e w'=>(∃v,e=.returned (.tuple #[v,.int .i64 l]))/\aR w w':=by
 obtain⟨D,y,A,B,C⟩:=cZ lm
 go_in
 go_wp2
 go_loopw [4,5] (fun v i wr=>∃(k:Nat) (xs:List Value),i=.int .i64 k/\k<=l/\xs<=k/\wr.ownsRow w 3 1 v xs xs/\aR w wr) (fun _ i _=>l-(intOf i).toNat)
 case atStart=>exact⟨0,[],rfl,aH _,ay _,cW _ _ _ _,aA _ _⟩
 case round=>
  obtain⟨k,xs,rfl,r,f,j,d⟩:=hrel;obtain⟨o,m,rfl⟩:=dR j;by_cases f:k<l
  ·have x:=bC f
   have h:=bk f;have t:b<wr:=aQ d.size;have⟨c,h⟩:=aT f;have⟨p,q⟩:=a c (aK h);have a:=(u.O s d) k f;rw[cH,cB,h,gM]at a;generalize c.toNat=n at p q a;have s:=rRead_dig b k (l.length-k) (cap-k) n wr ad ad ad p q a t;clear h;have a:(k:Int)<=cap:=ad;have a:=aL k;have a:k≠cap:=ad;go_wp2_with fail
   refine ar s ?_;intro t a;clear s;have h:=aE d a;have p:=a.size;have q:t.ownsRow w.heap.size 3 1 (.slice o xs.length m) xs.length xs:=cm (row:=none) j ⟨a.os,a.tape,a.output,a.size,fun k r _=>a.J k r⟩ (by cases e:(Value.slice o xs m).ownBlock with|none=>simp|some g=>exact .inr (fun p=>by cases p));have a:IntKind.i64.wrap (k+1)=k+1:=ox _ ad;have r:=dp q (.cells #[.int .i64 n] 3);have a:=d.size;go_wp2_with(first
    |(at_builtin;go_must (apply iV _ rfl _ _ 41 rfl _ 3 D _ 1 8 j9 y A B C rfl aq _ _ _ rfl r _ 1 1 [.int .i64 n] rfl rfl (ln _ [.int .i64 n] _ _ rfl) (fun z a=>by simp at a;subst a;rfl) bO ad aO);intro t u q p s)
    |go_in)
   go_roundw
   case rel=>
    refine⟨k+1,xs++[.int .i64 n],aD,ad,aO,?_,?_⟩;rw[ck];exact q;exact(h.alloc h.size _).zu p (by have:=h.size;simp;omega) (fun k e=>(aY j k e).1)
   case measure=>exact aM
  have x:=bG f;have a:k=l:=ad
  go_wp2
  go_ret2
  exact⟨⟨.slice o xs m,by first|rfl|(rw[a];rfl)⟩,d⟩
end U
def VH(s:Bytes) w(p:∀c∈s,48<=c.toNat/\c.toNat<=57)(r:s.length<=1048576):
 cX 37 #[s] w true:=by
 have a:=Wu w 9 129 5 ⟨s⟩ iI underlying129 underlying5;have b:U.BytesAt (Lib.bytesWorld w 5 ⟨s.toArray⟩) w.heap.size 0 s:=fun j q=>by have:=Lib.bytesWorld_cell w 5 ⟨s⟩ j (by rw[eJ];exact q);rw[cH];exact this
 have d:=Lib.bytesWorld_below w 5 ⟨s⟩;have m:w.heap.size<(Lib.bytesWorld w 5 ⟨s.toArray⟩).heap.size:=by rw[Lib.bytesWorld_size];omega
 have t:(⟨s⟩:ByteArray).size=s:=by rfl
 have h:=grownCap_ge w s 0 5;have i:=grownCap_le_maxLen w s 0 5 bO;rw[t]at a;generalize grownCap w s 0 5=cap at a h i;unfold maxLen at i;have⟨n,f⟩:=am (Lib.bytesWorld w 5 ⟨s⟩);rw[<-f]at a b d m;clear f;have l:=U.rAll_dig _ cap s n p h ad r b m;clear b
 go_in
 go_wp2_with fail
 apply l.zz;rintro e u ⟨⟨v,rfl⟩,g⟩;have o:=aE d g;clear l a g d
 go_wp2
 go_ret;exact⟨bJ aj,o⟩
def VI{l:List dI}{k s}(a:l[k]?=some s):jz (l.take (k+1))=jz (l.take k)+(if uA s then 1 else 0):=by rw[bH,a,fp,uC];unfold jz;cases b:uA s<;>simp[b]
def VJ{l:List dI}{k s d m}(a:l[k]?=some s)(b:fw (l.take k) 0 0=(d,m)):fw (l.take (k+1)) 0 0=fw [s] d m:=by rw[bH,a,fp,py,b]
def VK l o cap w(q:qO w o cap l)(P:l.length<=1048576):
 de 35 #[.slice o l cap] w (.tuple #[.int .i64 (jz l),.int .i64 (fw l 0 0).2]) fun w'=>w=w':=by
 have Q:=q.2.1;have z:=q.2.2.1;unfold maxLen at z
 go_in
 go_wp2
 go_loopw [4,5,6,7] (fun n d m i wr=>∃(k c:Nat) (a f:Int),n=.int .i64 c/\d=a/\m=f/\i=.int .i64 k/\k<=l/\w=wr/\Hid (jz (l.take k)=c/\fw (l.take k) 0 0=(a,f))/\c<=k/\-k<=a/\a<=k/\0<=f/\f<=k+1) (fun _ _ _ i _=>l-(intOf i).toNat)
 case atStart=>exact⟨0,0,0,0,rfl,rfl,rfl,rfl,aH _,rfl,⟨rfl,rfl⟩,ad,ad,ad,ad,ad⟩
 case round=>
  obtain⟨k,c,a,f,rfl,rfl,rfl,rfl,N,rfl,p,T,V,W,X,Y⟩:=hrel;by_cases h:k<l
  ·have A:=bC h
   have O:=bk h;have⟨s,j⟩:=aT h;obtain⟨b,S,rfl,M,C,D,E⟩:=q.at j;have t:=VI j;have y:=VJ j p.o.2;rw[p.o.1]at t;obtain⟨e,R,Z⟩:=s;simp only at C D E;have I:IntKind.i64.wrap (c+1)=c+1:=ox _ ad;have J:IntKind.i64.wrap (a+1)=a+1:=ox _ ad;have K:IntKind.i64.wrap (a-1)=a-1:=ox _ ad;have g:=ah (And.intro t y);clear t y j;have B:e=1∨e=3∨e=4∨(e≠1/\e≠3/\e≠4):=ad;rcases B with rfl|rfl|rfl|⟨a1,v,x⟩
   ·go_wp2_with fail
    go_roundw
    case rel=>
     refine⟨k+1,c+1,_,max f (a+1),aD,aD,?_,aD,ad,eY,?_,ad,ad,ad,ad,ad⟩;first|rfl|(congr 1;simp[Int.max_def])
     show _/\_
     rw[g.o.1,g.o.2];exact⟨rfl,rfl⟩
    case measure=>exact aM
   ·go_wp2_with fail
    go_roundw
    case rel=>
     refine⟨k+1,c+1,a,max f (a+1),aD,rfl,?_,aD,ad,eY,?_,ad,ad,ad,ad,ad⟩;first|rfl|(congr 1;simp[Int.max_def])
     show _/\_
     rw[g.o.1,g.o.2];exact⟨rfl,rfl⟩
    case measure=>exact aM
   ·go_wp2_with fail
    go_roundw
    case rel=>
     refine⟨k+1,c,_,f,rfl,aD,rfl,aD,ad,eY,?_,ad,ad,ad,ad,ad⟩;show _/\_
     rw[g.o.1,g.o.2];exact⟨rfl,rfl⟩
    case measure=>exact aM
   ·have F:(e==1)=false:=by simpa using a1
    have G:(e==3)=false:=by simpa using v
    have H:(e==4)=false:=by simpa using x
    go_wp2
    go_roundw
    case rel=>
     refine⟨k+1,c,a,f,rfl,rfl,rfl,aD,ad,eY,?_,ad,ad,ad,ad,ad⟩;show _/\_
     rw[g.o.1,g.o.2];simp[uA,fw,a1,v,x]
    case measure=>exact aM
  have A:=bG h;have r:=p.o;rw[bI ad]at r;have u:=ah r;clear r
  go_wp2
  go_ret2
  exact⟨by rw[u.o.1,u.o.2];rfl,rfl⟩
def VL l o cap w(f:qO w o cap l)(c:l.length<=1048576)(B:∀s∈l,s.name.length<=1048576/\s.text.length<=1048576)(h:DW l):
 cX 14 #[.slice o l cap] w (.int .i64 (uB l)):=by
 have a:=f.2.1;have a:=f.2.2.1;unfold maxLen at a;have g:=VK l o cap w f c;have⟨j,a⟩:=am (uB l);rw[<-a];unfold uB at a;have⟨D,e⟩:=am ((fw l 0 0).2);have⟨C,d⟩:=am (jz l);rw[<-e,<-d]at a;rw[<-e,<-d]at g;have⟨c,u⟩:=aC a h;clear a e d h
 go_in
 go_wp2_with fail
 refine ar g ?_;rintro w1 rfl;clear g;by_cases a:4096<(C:Int)∨32<D;have e:j=17:=by rw[c.o,au a]
 have d:=ah e;clear e;by_cases e:4096<(C:Int);have e:decide ((C:Int)>4096)=true:=bT;clear a
 go_wp2
 go_ret;exact⟨da d.o.zy,aA _ _⟩;have e:decide ((C:Int)>4096)=false:=bU;have m:decide (D>32)=true:=bT;clear a
 go_wp2
 go_ret;exact⟨da d.o.zy,aA _ _⟩;have d:=c.o;rw[ap a]at d;have F:=ah d;clear d c;have e:decide ((C:Int)>4096)=false:=bU;have m:decide (D>32)=false:=bU;clear a;go_wp2_with fail
 clear e m;go_loopw [5] (fun i wr=>∃k:Nat,i=.int .i64 k/\k<=l/\aR w wr) (fun i _=>l-(intOf i).toNat)
 case atStart=>exact⟨0,rfl,aH _,aA _ _⟩
 case round=>
  obtain⟨k,rfl,j,a⟩:=hrel;by_cases c:k<l
  ·have e:=bC c
   have x:=bk c;have⟨s,d⟩:=aT c;obtain⟨b,z,rfl,y,p,q,r⟩:=(f.O a).at d;have g:=fun h=>sX _ h (B s (aK d)).1;have v:=(u.o.one s (aK d)).1;clear d;obtain⟨n,t,A⟩:=s;simp only at p q r g v;by_cases h:n<=2
   ·have m:=iS h
    rw[v h]at g;clear h v;go_wp2_with fail
    refine ar (g _) ?_;rintro E rfl;clear g
    go_wp2
    go_roundw
    case rel=>exact⟨k+1,aD,ad,a⟩
    case measure=>exact aM
   have m:=qD h;clear h g v;refine qN ?_;
    exact⟨k+1,aD,ad,a⟩
  have e:decide ((k:Int)<l)=false:=bU;have⟨G,v⟩:=am wr;rw[<-v]at a⊢;clear v;go_wp2_with fail
  clear e c j;try(rename¬k<l.length=>hbad;clear hbad)
  go_loopw [6] (fun i wr=>∃k:Nat,i=.int .i64 k/\k<=l/\aR w wr) (fun i _=>l-(intOf i).toNat)
  case atStart=>exact⟨0,rfl,aH _,a⟩
  case round=>
   obtain⟨k,rfl,j,a⟩:=hrel;by_cases c:k<l
   ·have e:=bC c
    have x:=bk c;have⟨s,d⟩:=aT c;obtain⟨b,z,rfl,y,p,q,r⟩:=(f.O a).at d;have g:=VH _ wr (u.o.one s (aK d)).2.1 (B s (aK d)).2;clear d;obtain⟨n,t,A⟩:=s;simp only at p q r g;go_wp2_with fail
    refine ar g ?_;intro E v;clear g
    go_wp2
    go_roundw
    case rel=>exact⟨k+1,aD,ad,aE a v⟩
    case measure=>exact aM
   have e:decide ((k:Int)<l)=false:=bU;have⟨v,g⟩:=am wr;rw[<-g]at a⊢;clear g;go_wp2_with fail
   clear e c j;try(rename¬k<l.length=>hbad;clear hbad)
   go_loopw [7] (fun i wr=>∃k:Nat,i=.int .i64 k/\k<=l/\aR w wr) (fun i _=>l-(intOf i).toNat)
   case atStart=>exact⟨0,rfl,aH _,a⟩
   case round=>
    obtain⟨k,rfl,j,a⟩:=hrel;by_cases c:k<l;have e:=bC c;have x:=bk c;have⟨s,d⟩:=aT c;obtain⟨b,z,rfl,y,p,q,r⟩:=(f.O a).at d;have g:=(u.o.one s (aK d)).2.2;clear d;obtain⟨n,t,A⟩:=s;simp only at p q r g;have m:(n==3)=false:=by simpa using g
    clear g;refine qN ?_;
     exact⟨k+1,aD,ad,a⟩
    have e:decide ((k:Int)<l)=false:=bU;have⟨wc,m⟩:=am wr;rw[<-m]at a⊢;clear m;go_wp2_with fail
    clear e c j;try(rename¬k<l.length=>hbad;clear hbad)
    go_loopw [8] (fun i wr=>∃k:Nat,i=.int .i64 (k+1)/\(k+1<=l∨k=0)/\aR w wr) (fun i _=>l-(intOf i).toNat)
    case atStart=>exact⟨0,rfl,.inr rfl,a⟩
    case round=>
     obtain⟨k,rfl,j,a⟩:=hrel;by_cases c:k+1<l
     ·have e:decide (k+1<(l:Int))=true:=bT
      have H:=aL k;have m:(k:Int)<l:=ad;have I:(0:Int)<=k+1:=ad;have J:k+1<(l:Int):=ad;have t1:(((k:Int)+1).toNat)=k+1:=ad;have⟨s,d⟩:=df l k;have⟨x,m⟩:=aT c;obtain⟨b,z,rfl,y,p,q,r⟩:=(f.O a).at d;have⟨G,O,v,N,z,B,E⟩:=(f.O a).at m;injection v with v
      injection v with y K M;clear M
      subst y;subst K;have v:=u.o.two k s x d m;clear d m;obtain⟨n,t,A⟩:=s;obtain⟨d,y,A⟩:=x;simp only at p q r z B E v;by_cases h:d=2
      ·subst h
       by_cases g:n=2
       ·subst g
        have hv:=v rfl rfl;have⟨p,q⟩:Op.bytesLess y t=false/\(y==t)=false:=by
         rcases FI t y with⟨p,_⟩|⟨_,f⟩
         rw[hv]at p;cases p;exact f
        clear hv v
        go_wp2
        go_quiet(fail)
        go_wp2
        go_roundw
        case rel=>exact⟨k+1,aD,.inl ad,ee a _⟩
        case measure=>exact aM
       ·have p:(n==2)=false:=by simpa using g
        clear g v
        go_wp2
        go_quiet(fail)
        go_wp2
        go_roundw
        case rel=>exact⟨k+1,aD,.inl ad,ee a _⟩
        case measure=>exact aM
      ·have p:(d==2)=false:=by simpa using h
       clear h v
       go_wp2
       go_quiet(fail)
       go_wp2
       go_roundw
       case rel=>exact⟨k+1,aD,.inl ad,ee a _⟩
       case measure=>exact aM
     have e:decide (k+1<(l:Int))=false:=bU;have⟨n,h⟩:=am wr;rw[<-h]at a⊢;clear h;go_wp2_with fail
     clear e c j;try(rename¬k+1<l.length=>hbad;clear hbad)
     go_loopw [9] (fun i wr=>∃k:Nat,i=.int .i64 (k+1)/\(k+1<=l∨k=0)/\aR w wr) (fun i _=>l-(intOf i).toNat)
     case atStart=>exact⟨0,rfl,.inr rfl,a⟩
     case round=>
      obtain⟨k,rfl,j,a⟩:=hrel;by_cases c:k+1<l;have e:decide (k+1<(l:Int))=true:=bT;have H:=aL k;have I:(0:Int)<=k+1:=ad;have J:k+1<(l:Int):=ad;have t1:(((k:Int)+1).toNat)=k+1:=ad;have⟨x,m⟩:=aT c;obtain⟨G,O,rfl,N,z,B,E⟩:=(f.O a).at m;have g:=(u.o.one x (aK m)).2.2;clear m;obtain⟨d,y,A⟩:=x;simp only at z B E g;have p:(d==3)=false:=by simpa using g
      clear g;refine qN ?_;
       exact⟨k+1,aD,.inl ad,a⟩
      have e:decide (k+1<(l:Int))=false:=bU
      go_wp2
      go_ret;exact⟨da F.o.zy,a⟩
end Go.Proofs.YtfeidcmojcijpaaGreatDoor
