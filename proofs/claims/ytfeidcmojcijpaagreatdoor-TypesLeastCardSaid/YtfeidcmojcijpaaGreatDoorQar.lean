import Derived.Test.YtfeidcmojcijpaaGreatDoorQap
import Derived.Test.YtfeidcmojcijpaaGreatDoorQaq
set_option linter.all false
set_option maxRecDepth 100000
set_option maxHeartbeats 0
namespace Go.Proofs.YtfeidcmojcijpaaGreatDoor
open Go.RowKit Tryz
def FP(o:Option Bytes):Value:=.tuple #[.string ⟨(o.getD [])⟩,o.isSome]
def O9{f:Type}{l:List f}{p k a}(c:(l.take k).find? p=none)(b:l[k]?=some a)(e:p a=true):l.find? p=a:=by
 have d:=(aF.1 b).1;conv=>lhs;rw[<-ig k l]
 rw[KK,c,Option.none_or,mT d,List.find?_cons,(aF.1 b).2,e]
def Pa{e:Type}{l:List e}{p k a}(b:(l.take k).find? p=none)(d:l[k]?=some a)(c:p a=false):(l.take (k+1)).find? p=none:=by rw[bH,d,KK,b];simp[c]
def Pb{w t r}(a:fM w t r):lq w r.ao r.ac t.zx:=a.attr
def Pc t r n w(A:fM w t r):
 cX 79 #[cA t r,.string ⟨n.toArray⟩] w (FP (sJ t.zx n)):=by
 have e:=Pb A;have⟨y,d⟩:=am (sJ t.zx n);rw[<-d];obtain⟨l,x,av,ks⟩:=t;obtain⟨H,ac,N,M⟩:=r;unfold cA;simp only[Tr.zv,Tr.text,Tr.zx,Tr.zs]at e d⊢;have u:=ah d;clear d A;have T:=e.2.1;have J:=e.2.2.1;unfold maxLen at J;have I:aR w (cT w (fZ l x H av ac N ks M) 36):=aP
 go_in
 go_wp2
 go_loopw [11] (fun i wr=>∃k:Nat,i=.int .i64 k/\k<=av/\aR w wr/\Hid ((av.take k).find? (fun a=>a.1==n)=none)) (fun i _=>av-(intOf i).toNat)
 case atStart=>exact⟨0,rfl,aH _,I,rfl⟩
 case round=>
  obtain⟨k,rfl,R,f,j⟩:=hrel;by_cases g:k<av
  ·have K:=bC g
   have S:=bk g;have⟨a,h⟩:=aT g;obtain⟨b,W,rfl,Q,O,P⟩:=pA (e.O f) h;have C:=fun q=>O9 (p:=fun a=>a.1==n) j.o h q;have D:=fun q=>Pa (p:=fun a=>a.1==n) j.o h q;have⟨F,G⟩:=aC C D;clear C D h;obtain⟨o,z⟩:=a;simp only at O P;have B:=f.alloc f.size (.cells #[o,z] 59);by_cases s:o=n
   ·subst s
    have c:y=some z:=by rw[u.o];unfold sJ;rw[F.o aj];rfl
    have m:=ah c;clear c
    go_wp2
    go_ret2
    exact⟨by rw[m.o];rfl,B⟩
   have V:(o==n)=false:=by simpa using s
   have v:=G.o (by omega);have E:=ah v;clear v s;refine qN ?_;
    exact⟨k+1,aD,ad,B,E.o⟩
  ·have K:=bG g
   have c:y=none:=by have:=j.o;rw[bI ad]at this;rw[u.o];unfold sJ;rw[this];rfl
   have m:=ah c;clear c
   go_wp2
   go_ret2
   exact⟨by rw[m.o];rfl,f⟩
def Pe(a:Bytes×Bytes) n w:cX 76 #[.agg #[.string ⟨a.1⟩,.string ⟨a.2⟩],.string ⟨n.toArray⟩] w (.bool (a.1==n)):=by
 have c:aR w (cT w #[.string ⟨a.1⟩,.string ⟨a.2⟩] 59):=aP;have⟨q,b⟩:=am ((a.1==n));rw[<-b];have d:=b.zy;clear b
 go_in
 go_wp2
 go_ret;exact⟨rfl,c⟩
def Pf:∀args a,(callFunc 76 args).run prog a=.ok (.enter 76 args) a:=fun _ _=>rfl
def Pg{av:List _}{ws}{k:Nat}{a:Bytes×Bytes}{n}(c:av[k]?=some a)(d:ws[k]?=some n)(b:(a.1==n)=false):decide (av.map Prod.fst=ws)=false:=by
 rw[dd];intro e;have:(av.map Prod.fst)[k]?=a.1:=by rw[bR,c];rfl
 rw[e,d]at this;injection this with this
 rw[this]at b;simp at b
def Ph(av:List (Bytes×Bytes))(c:Option Addr)(ac:Nat)(ws:List Bytes)(d:Option Addr)(wc:Nat)(w:World)(o:lq w c ac av)(p:cI w d wc ws):
 Calls prog 77 #[.slice c av.length ac,.slice d ws.length wc,.func (.func 76) #[] #[]] w fun e w'=>e=.returned (.bool (decide (av.map Prod.fst=ws)))/\Below w.heap.size w w':=by
 have c:=o.2.1;have c:=o.2.2.1;have d:=p.2.1;have d:=p.2.2.1;unfold maxLen at c d;have c:=Pf;obtain⟨r,c⟩:=am (decide (av.map Prod.fst=ws));rw[<-c];have l:=ah c;clear c;go_enter func77,ntmps77
 by_cases f:av.length=ws.length
 ·have s:((av.length:Int) !=(ws.length:Int))=false:=aO
  have m:=ah f;clear f;go_wp2_with fail
  clear s;go_loopw [17] (fun i wr=>∃k:Nat,i=.int .i64 k/\k<=av.length/\Below w.heap.size w wr/\Hid ((av.take k).map Prod.fst=ws.take k)) (fun i _=>av.length-(intOf i).toNat)
  case atStart=>exact⟨0,rfl,aH _,aA _ _,rfl⟩
  case round=>
   obtain⟨k,rfl,c,d,q⟩:=hrel;by_cases c:k<av.length
   ·have x:=bC c
    have h:=bk c;have h:(k:Int)<ws.length:=aQ m.o;obtain⟨a,h⟩:=aT c;obtain⟨n,j⟩:=df ws k (aQ m.o);obtain⟨b,u,rfl,t,z,A⟩:=pA (o.O d) h;obtain⟨g,o,rfl,y,B⟩:=(p.O d).at j;have o:=fun p=>Pe a n p;have p:=Pg h j;have t:(a.1==n)=true->(av.take (k+1)).map Prod.fst=ws.take (k+1):=fun e=>by rw[bH,bH,h,j,gL,q.o];simp at e;simp[e]
    obtain⟨u,v⟩:=aC p t;clear p t h j;obtain⟨j,h⟩:=a;simp only at z A o;have t:=d.alloc d.size (.cells #[.string ⟨j.toArray⟩,.string ⟨h.toArray⟩] 59);have p:=O8 wr (.cells #[.string ⟨j.toArray⟩,.string ⟨h.toArray⟩] 59) B y;go_wp2_with fail
    refine ar (o _) ?_;intro p h;have p:=aE t h;clear o;cases h:(j==n)with
    |true=>
     have j:=ah (v.o h);clear h
     go_wp2
     go_roundw
     case rel=>exact⟨k+1,aD,ad,p,j.o⟩
     case measure=>exact aM
    |false=>
     have j:=ah (u.o h);clear h
     go_wp2
     go_ret;exact⟨by rw[l.o,j.o];rfl,p⟩
   have x:=bG c;have c:r=true:=by have:=q.o;rw[bI ad,bI (aQ m.o)]at this;rw[l.o,this];simp
   have h:=ah c;clear c
   go_wp2
   go_ret;exact⟨by rw[h.o];rfl,d⟩
 have s:((av.length:Int) !=(ws:Int))=true:=aO;have c:r=false:=by rw[l.o,dd];intro e;exact f (by rw[<-e,bn])
 have h:=ah c;clear c f
 go_wp2
 go_ret;exact⟨by rw[h.o];rfl,aA _ _⟩
def A7 b off m i w(d:i<64)(e:m<18446744073709551616)(h:gC w b off (.int .u64 (m:Nat))):
 de 148 #[.pointer (some ⟨b,off,none⟩),.int .i64 (i:Nat)] w (.bool (m.testBit i)) fun w'=>w'=w:=by
 have f:(i:Int).tdiv 64=0:=by rw[Dp ad];omega
 have g:(i:Int).tmod 64=(i:Int):=by rw[KL ad];omega
 have c:=Lf e d;have⟨q,a⟩:=am (m.testBit i);rw[<-a]at c⊢;clear a;have j:=aL i
 go_in
 go_wp2
 go_ret;simp
def FQ b off m i w(a:i<64)(g:m<18446744073709551616)(c:w.cell? ⟨b,off,none⟩=some (.int .u64 m))(e:w.frozen? ⟨b,off,none⟩=false):
 de 203 #[.pointer (some ⟨b,off,none⟩),.int .i64 (i:Nat)] w (.tuple #[]) fun w'=>∃k,w'=(w.drewN k).setCell ⟨b,off,none⟩ (.int .u64 (kJ m i)):=by
 have j:(i:Int).tdiv 64=0:=by rw[Dp ad];omega
 have l:(i:Int).tmod 64=(i:Int):=by rw[KL ad];omega
 have h:IntKind.i64.wrap 0=0:=rfl;have p:IntKind.i64.wrap i=i:=ox _ ad;have q:min i 64=i:=ad;have n:=DN a;have o:=DO g a;have r:=aL i
 go_in
 go_wp2_with fail
 go_still_tail 12,az
 change wpList _ _ _ _ _ (World.drew w);have d:gC w.drew b off (.int .u64 m):=c;have f:w.drew.frozen? ⟨b,off,none⟩=false:=e;generalize hw1:w.drew=w1 at d f⊢
 go_wp2
 go_end0
 exact⟨rfl,1,by rw[<-hw1];rfl⟩
def Pi(x k a:Nat) w(e:((x:Int)==0)=false)
 (key:IntKind.u64.wrap (bits BinOp.and IntKind.u64 x (IntKind.u64.wrap (-x))*285870213051353865)/288230376151711744=a)
 (c:a<64) (d:k<64) (b:gC w 3 a (.int .u8 k)):
 de 206 #[.int .u64 x] w (.int .i64 k) fun w'=>w'=w:=by
 go_in
 go_wp2_with(simp only[key])
 go_ret;simp
def FR x(d:x<18446744073709551616)(e:x≠0) w(f:Gl w):
 de 206 #[.int .u64 (x:Nat)] w (.int .i64 (Lib.ctz 64 x)) fun w'=>w'=w:=by
 obtain⟨g,c⟩:=Lib.lowest_bit 64 x e d;obtain⟨b,h⟩:=Lib.deBruijn64_at _ c;have a:=f.tab _ b;rw[h]at a;exact Pi x _ _ w (by rw[dF];omega) (tz64_key x _ d e g) b c a
def rC(w:World)(b a m:Nat):Prop:=gC w b a (.int .u64 m)/\∀j,1<=j->j<16->gC w b (a+j) (.int .u64 0)
def FT(w:World)(b a:Nat):Prop:=∀j,j<16->w.frozen? ⟨b,a+j,none⟩=false
def A8 b off m w(A:Gl w)(o:b<w.heap.size)(f:m<18446744073709551616)(a:rC w b off m):
 dB 145 #[.pointer (some ⟨b,off,none⟩)] w fun e w'=>(∃v,e=.returned v/\bW w' w v (aG m))/\aR w w':=by
 have C:=a.1;have g:=a.2;have⟨M,H,I,J,K⟩:=cZ lm;have⟨d,h,u⟩:=bm a g f;clear a g f
 go_in
 go_wp2
 go_loopw [3,4,5,7] (fun v a f i wr=>∃k:Nat,i=.int .i64 k/\k<=16/\aR w wr/\∃s,bW wr w v s/\Hid (s=if k=0 then []else aG m)) (fun _ _ _ i _=>16-(intOf i).toNat)
 case atStart=>exact⟨0,rfl,aH _,aA _ _,[],cW _ _ _ _,rfl⟩
 case round=>
 obtain⟨k,rfl,g,a,s,f,n⟩:=hrel;obtain⟨t,r,rfl⟩:=nK f;by_cases h:k<16
 ·have G:decide ((k:Int)<16)=true:=bT
  have g:(k:Int)<16:=ad;have g:=aL k;have⟨x,g⟩:=am (if k=0 then m else 0);have q:wr.cell? ⟨b,off+k,none⟩=some (.int .u64 (x:Nat)):=by rw[a.cell o,g];split;rename_i e;subst e;exact d.o.1;exact d.o.2 k ad h
  have d:=ah g;clear g
  go_wp2
  go_quiet(fail)
  obtain⟨l,g⟩:=am (wr.drewN nq);have p:aR w l:=by rw[g];exact ee a nq
  have h:bW l w.heap.size (.slice t s.length r) s:=by rw[g];assumption
  rw[<-g];clear g f a q;have q:x<18446744073709551616:=by rw[d.o];split;exact u.o;decide
  have g:Hid (s++aG x=aG m):=by unfold Hid;rw[n.o,d.o];split;rfl;rw[qL,wI]
  have l:Hid (x≠0->k=0):=fun u=>by apply dU;intro B;exact u (by rw[d.o,ap B])
  clear d n C
  go_wp2
  go_loopw [3,5] (fun v d wr=>∃(y:Nat) (s:List Nat),d=.int .u64 y/\y<18446744073709551616/\aR w wr/\bW wr w v s/\Hid (s++aG y=aG m)/\Hid (y≠0->k=0)) (fun _ d _=>(intOf d).toNat)
  case atStart=>exact⟨x,s,rfl,q,p,h,g,l⟩
  case round=>
  clear p h q g l;obtain⟨y,s,rfl,l,a,f,g,q⟩:=hrel;obtain⟨t,r,rfl⟩:=nK f;by_cases d:y=0
  ·obtain rfl:s=aG m:=by have:=g.o;rwa[d,qL,wI]at this
   have p:((y:Int)==0)=true:=qQ;clear d
   go_wp2
   go_roundw
   case rel=>exact⟨k+1,aD,ad,a,_,f,by unfold Hid;rfl⟩
   case measure=>exact aM
  ·have p:((y:Int)==0)=false:=fU
   have p:=q.o d;have q:=fun u (o:aR wr u)=>FR y l d u (A.O (a.Z (o.zz a.size)));have o:=DM d l;have A:=(z8 d l).1;have C:=C3 y (y-1) l ad;have l:IntKind.u64.wrap ((y:Int)-1)=((y-1:Nat):Int):=by rw[show(y-1)=((y-1:Nat):Int) by omega];exact IntWalk.u64_in _ ad
   have l:y&&&(y-1)<=y-1:=KM;have u:s.length<=64:=by
    have u:=gA List.length g.o;rw[ck]at u;have u:(aG m).length<=64:=by unfold aG;have:=lf m.testBit (List.range 64);assumption
    omega
   have⟨c,B⟩:=am (Lib.ctz 64 y);rw[<-B]at q A o;have A:Hid ((s++[c])++aG (y&&&(y-1))=aG m):=by unfold Hid;rw[<-g.o,o,qF];rfl
   have⟨N,D⟩:=am (y&&&(y-1));rw[<-D]at C l A;have⟨F,u,E⟩:=bm d l p;have C:=q wr (aA _ wr);have O:(k:Int)*64=0:=by rw[p];rfl
   clear o B D g d l q p;go_wp2_with fail
   refine ar C ?_;intro w1 d;subst d;clear C;have d:w1.ownsRow w 3 1 (.slice t s r) s (fB s):=f;have h:=dp d (.cells #[.int .i64 c] 3);have g:=a.size;go_wp2_with(first
    |(at_builtin;go_must (apply iV _ rfl _ _ 41 rfl _ 3 M _ 1 8 j9 H I J K rfl aq _ _ _ rfl h _ 1 1 [.int .i64 c] rfl rfl (eq _ [.int .i64 c] _ _ (by first|rfl|simp)) (fun z g=>by simp at g;subst g;rfl) bO ad aO);intro q r o l p)
    |go_in)
   go_roundw
   case rel=>
    refine⟨N,_,rfl,by have:=u.o;omega,(a.alloc a.size _).zu l aO (fun j e=>(aY d j e).1),?_,A,fun _=>E.o⟩;unfold bW;rw[ck];show World.ownsRow _ _ _ _ _ _ ((s++[c]).map fun k=>Value.int .i64 (k:Nat))
    rw[gL];exact o
   case measure=>have:=u.o;have:=F.o;simp[intOf];omega
 have G:decide ((k:Int)<16)=false:=bU;obtain rfl:s=aG m:=by have:=n.o;rwa[ap ad]at this
 go_wp2
 go_ret;exact⟨⟨_,rfl,f⟩,a⟩
structure gF(w w':World)(b off:Nat)(v:Value):Prop where
 os:w'.os=w.os
 tape:w'.tape=w.tape
 output:w'.output=w.output
 size:w'.heap.size=w.heap.size
 J:∀k,k≠b->w'.heap[k]?=w.heap[k]?
 other:∀j,j≠off->w'.cell? ⟨b,j,none⟩=w.cell? ⟨b,j,none⟩
 zn:w'.cell? ⟨b,off,none⟩=some v
 frozen:∀j,w'.frozen? ⟨b,j,none⟩=w.frozen? ⟨b,j,none⟩
def nW{w k b off x v}(f:gC w b off x):gF w ((w.drewN k).setCell ⟨b,off,none⟩ v) b off v:=by
 have c:∀a,(w.drewN k).cell? a=w.cell? a:=fun a=>ej rfl;refine⟨rfl,rfl,rfl,by rw[eF];rfl,fun j d=>gq _ _ _ _ d,fun j d=> ?_,KN _ _ _ ((c _).Z f),fun j=> ?_⟩;have g:(⟨b,off,none⟩:Addr)≠⟨b,j,none⟩:=fun e=>by injection e with _ e _;omega
 rw[li _ _ _ _ g,c];rw[World.frozen?_setCell];rfl
def gF.set{w w':World}{b a m m':Nat}(f:rC w b a m)(c:gF w w' b a (.int .u64 (m':Nat))):rC w' b a m':=
 ⟨c.zn,fun j d e=>(c.other _ ad).Z (f.2 j d e)⟩
def pW b off m b2 off2 d w(p:b2≠b)(t:m<18446744073709551616)(u:d<18446744073709551616)(c:rC w b off m)(g:FT w b off)(f:rC w b2 off2 d):
 de 146 #[.pointer (some ⟨b,off,none⟩),.pointer (some ⟨b2,off2,none⟩)] w (.tuple #[]) fun w'=>gF w w' b off (.int .u64 (m|||d:Nat)):=by
 obtain⟨o,h,s⟩:=bm c f g;clear c f g
 go_in
 go_wp2
 go_loopw [4,5,7] (fun c f i wr=>∃k:Nat,i=.int .i64 k/\k<=16/\∃q,gF w wr b off (.int .u64 (q:Nat))/\Hid (q=if k=0 then m else m|||d)) (fun _ _ i _=>16-(intOf i).toNat)
 case atStart=>exact⟨0,rfl,aH _,m,⟨rfl,rfl,rfl,rfl,fun _ _=>rfl,fun _ _=>rfl,o.o.1,fun _=>rfl⟩,rfl⟩
 case round=>
 obtain⟨k,rfl,f,q,c,n⟩:=hrel;by_cases l:k<16
 ·have A:decide ((k:Int)<16)=true:=bT
  have f:(k:Int)<16:=ad;have f:=aL k;have⟨x,f⟩:=am (if k=0 then d else 0);have⟨y,g⟩:=am (if k=0 then m else 0);have r:wr.cell? ⟨b2,off2+k,none⟩=some (.int .u64 (x:Nat)):=by rw[ej (c.J b2 p),f];split;rename_i e;subst e;exact h.o.1;exact h.o.2 k ad l
  have p:wr.cell? ⟨b,off+k,none⟩=some (.int .u64 (y:Nat)):=by rw[g];split;rename_i e;subst e;have:=n.o;rw[au rfl]at this;rw[<-this];exact c.zn;rw[c.other _ ad];exact o.o.2 k ad l
  have r:wr.frozen? ⟨b,off+k,none⟩=false:=by rw[c.frozen];exact s.o k l
  have h:x<18446744073709551616:=by rw[f];split;exact u;decide
  have s:y<18446744073709551616:=by rw[g];split;exact t;decide
  have t:=Kj y x s h;have⟨u,v⟩:=aC f g;clear f g
  go_wp2
  go_quiet(fail)
  obtain⟨f,g⟩:=am (wr.drewN nq);have p:f.cell? ⟨b,off+k,none⟩=some (.int .u64 (y:Nat)):=by rw[g];assumption
  have r:f.frozen? ⟨b,off+k,none⟩=false:=by rw[g];assumption
  rw[<-g];have h:=ah g;clear g;go_wp2_with fail
  go_still_tail 9,az
  change wpList _ _ _ _ _ (World.drew f);have s:gC f.drew b _ (.int .u64 y):=p;have t:f.drew.frozen? ⟨b,_,none⟩=false:=r;have⟨w1,g⟩:=am f.drew;rw[<-g]at s t⊢;have f:=ah g;clear g p r
  go_wp2
  go_roundw
  case rel=>
   have r:w1.heap=wr.heap:=by rw[f.o,h.o];rfl
   have p:∀j:Nat,w1.heap[j]?=wr.heap[j]?:=fun j=>by rw[r]
   have t:∀a,w1.cell? a=wr.cell? a:=fun a=>ej (p _);have z:∀a,w1.frozen? a=wr.frozen? a:=fun a=>ug (p _);refine⟨k+1,aD,ad,m|||d,⟨?_,?_,?_,?_,fun j g=> ?_,fun j g=> ?_,?_,fun j=> ?_⟩,by unfold Hid;rfl⟩;rw[<-c.os];show w1.os=wr.os;rw[f.o,h.o];rfl;rw[<-c.tape];show w1.tape=wr.tape;rw[f.o,h.o];rfl;rw[<-c.output];show w1.output=wr.output;rw[f.o,h.o];rfl;rw[eF,<-c.size,r];rw[gq _ _ _ _ g,p,c.J j g];by_cases e:j=off+k;subst e;have f:k≠0:=fun e=>g ad;have r:y=0:=by rw[v.o,ap f]
   have p:x=0:=by rw[u.o,ap f]
   rw[KN w1 _ _ s,r,p,o.o.2 k ad l];rfl;have h:(⟨b,off+k,none⟩:Addr)≠⟨b,j,none⟩:=fun f=>by injection f with _ f _;omega
   rw[li w1 _ _ _ h,t,c.other j g];by_cases e:k=0;subst e;have r:y=m:=by assumption
   have p:x=d:=by assumption
   have:=KN w1 _ (Value.int .u64 (m|||d:Nat)) s;rw[r,p];omega;have h:(⟨b,off+k,none⟩:Addr)≠⟨b,off,none⟩:=fun f=>by injection f with _ f _;omega
   rw[li w1 _ _ _ h,t,c.zn];have:=n.o;rw[ap e]at this;rw[this];rw[World.frozen?_setCell,z,c.frozen]
  case measure=>exact aM
 have A:decide ((k:Int)<16)=false:=bU;have f:q=m|||d:=by have:=n.o;rwa[ap ad]at this
 have g:Hid (gF w wr b off (.int .u64 (m|||d:Nat))):=by rwa[f]at c
 clear f c
 go_wp2
 go_end0
 exact⟨rfl,g.o⟩
structure PF where
 void:Bool
 empty:Bool
 f:Nat
 l:Nat
def setRow(m:Nat):List Value:=[.int .u64 m,.int .u64 0,.int .u64 0,.int .u64 0,.int .u64 0,.int .u64 0,.int .u64 0,.int .u64 0,.int .u64 0,.int .u64 0,.int .u64 0,.int .u64 0,.int .u64 0,.int .u64 0,.int .u64 0,.int .u64 0]
def factRow(a:PF):List Value:=a.void::a.empty::(setRow a.f++setRow a.l)
def jU(a:PF):Value:=.agg (factRow a)
def uU(a b:PF):PF:=⟨a.void&&b.void,a.empty||b.empty,a.f|||b.f,a.l|||b.l⟩
def rD(a b:PF):PF:=if a.void||b.void then⟨true,false,0,0⟩else⟨false,a.empty&&b.empty,if a.empty then a.f|||b.f else a.f,if b.empty then b.l|||a.l else b.l⟩
def kV m:(setRow m).length=16:=rfl
def uV a:(factRow a).length=34:=rfl
def gd{w b off m}(a:w.rangeAt b off (setRow m)):rC w b off m:=by
 refine⟨a 0 _ rfl,fun j c d=>a j _ ?_⟩;obtain rfl|rfl|rfl|rfl|rfl|rfl|rfl|rfl|rfl|rfl|rfl|rfl|rfl|rfl|rfl:j=1∨j=2∨j=3∨j=4∨j=5∨j=6∨j=7∨j=8∨j=9∨j=10∨j=11∨j=12∨j=13∨j=14∨j=15:=ad
 all_goals rfl
def A9{w b off m}(a:rC w b off m):w.rangeAt b off (setRow m):=by
 intro j v hv;have c:=(aF.1 hv).1;rw[kV]at c;by_cases e:j=0;subst e;injection hv with hv
 rw[<-hv];exact a.1
 ·have d:=a.2 j ad c
  obtain rfl|rfl|rfl|rfl|rfl|rfl|rfl|rfl|rfl|rfl|rfl|rfl|rfl|rfl|rfl:j=1∨j=2∨j=3∨j=4∨j=5∨j=6∨j=7∨j=8∨j=9∨j=10∨j=11∨j=12∨j=13∨j=14∨j=15:=ad
  all_goals(injection hv with hv;rw[<-hv];exact d)
def lH{w:World}{b off a}(c:w.rangeAt b off (factRow a)):w.rangeAt b (off+2) (setRow a.f):=fun j v hv=>by have:=c (2+j) v (by unfold factRow;rw[show 2+j=j+1+1 by omega,jw,jw,eC (aF.1 hv).1];exact hv);rwa[<-lZ]at this
def oN{w:World}{b off a}(c:w.rangeAt b off (factRow a)):w.rangeAt b (off+18) (setRow a.l):=fun j v hv=>by have:=c (18+j) v (by unfold factRow;rw[show 18+j=(16+j)+1+1 by omega,jw,jw,gp (by rw[kV];omega),kV,show 16+j-16=j by omega];exact hv);rwa[<-lZ]at this
def Ba:(prog.info? 221).map (·.size)=some 16:=az
def kn:(prog.info? 223).map (·.size)=some 34:=az
def jm{P fn}{p:Tmp}{ty}(a:fn.results=#[.cell p ty]) tmps w b o cs d
 (g:tmps.getD p undef=.pointer (some ⟨b,o,none⟩)) (c:w.rangeAt b o cs)
 (i:P.underlying ty=some d) (e:d.isRow=true) (f:(P.info? ty).map (·.size)=cs.length):
 (results fn tmps).run P w=.ok (.agg cs.toArray) w:=by
 have h:tmps[p]?.getD undef=.pointer (some ⟨b,o,none⟩):=by simpa using g
 simp[results,a,h,asAddr,KO w b o ty cs d c i e f]
def uW{P ops rest b a w Q}(f:b.guard=none) ty(ps:Array _)(g:b.op=.build ty ps) v(parts:List _)
 (i:(Instr.build ty parts).run P w=.ok v w) (h:(ps.toList.map fun p=>(p.1,a.eval p.2))=parts) (c:wpList P ops Q rest (a.put b.dst v) w):wpList P ops Q (b::rest) a w:=
 wpList_plain f fun _ d=>by
  have e:(ps.map fun p=>(p.1,a.eval p.2))=parts:=by
   rw[<-h];cases ps
   simp
  unfold Oper.wp execOp;simp only[g,Dq,wR,Dr,e,i];exact d _ _ c
structure gV(w w':World)(b off:Nat)(cs:List Value):Prop where
 os:w'.os=w.os
 tape:w'.tape=w.tape
 output:w'.output=w.output
 size:w'.heap.size=w.heap.size
 J:∀k,k≠b->w'.heap[k]?=w.heap[k]?
 other:∀j,j<off∨off+cs.length<=j->w'.cell? ⟨b,j,none⟩=w.cell? ⟨b,j,none⟩
 zn:w'.rangeAt b off cs
 frozen:∀j,w'.frozen? ⟨b,j,none⟩=w.frozen? ⟨b,j,none⟩
def FU b:∀a o (w:World) k,k≠b->(w.setCells b o a).heap[k]?=w.heap[k]?
 |[],_,_,_,_=>rfl
 |v::r,o,w,k,h=>by rw[World.setCells,FU b r _ _ k h];exact gq w _ v k h
def FV b:∀a o (w:World),(w.setCells b o a)=w.heap.size
 |[],_,_=>rfl
 |v::r,o,w=>by rw[World.setCells,FV b r _ _,eF]
def FW b:∀a o (w:World),(w.setCells b o a).tape=w.tape
 |[],_,_=>rfl
 |v::r,o,w=>by rw[World.setCells,FW b r _ _];rfl
def Bb{w b o cs}(a:w.there b o cs):gV w (w.setCells b o cs) b o cs:=
 ⟨(World.keptBut_setCells b (may:=fun _=>True) cs o w (fun _ _=>trivial)).1,FW b cs o w,(World.keptBut_setCells b (may:=fun _=>True) cs o w (fun _ _=>trivial)).2.1,FV b cs o w,fun k h=>FU b cs o w k h,
   fun j h=>World.cell?_setCells_out b cs o w _ (fun _ _=>h),World.rangeAt_setCells_same w b o cs a,fun j=>World.frozen?_setCells b cs o w _⟩
def gF.row{w w':World}{b off:Nat}{v:Value}(h:gF w w' b off v):gV w w' b off [v]:=
 ⟨h.os,h.tape,h.output,h.size,h.J,fun j a=>h.other j (by simp at a;omega),(fun j u a=>by
   obtain rfl:=by have:=(aF.1 a).1;simp at this;exact this
   injection a with a
   rw[<-a];exact h.zn),h.frozen⟩
section
variable{w w':World} {b off:Nat} {cs:List Value} (h:gV w w' b off cs)
include h
def gV.O{d:Nat}{a:World}(c:Below d a w)(f:d<=b):Below d a w':=
 ⟨h.os.Z c.os,h.tape.Z c.tape,h.output.Z c.output,h.size▸c.size,fun k e=>(h.J k ad).Z (c.J k e)⟩
def gV.far{a o':Nat}(c:a≠b):w'.cell? ⟨a,o',none⟩=w.cell? ⟨a,o',none⟩:=ej (h.J a c)
def gV.range{a o':Nat}{xs:List Value}(c:w.rangeAt a o' xs)(d:a≠b∨o'+xs.length<=off∨off+cs.length<=o'):w'.rangeAt a o' xs:=fun j v hv=>by have f:=(aF.1 hv).1;by_cases e:a=b;subst e;rw[h.other _ ad];exact c j v hv;rw[h.far e];exact c j v hv
def gV.fz(a o':Nat):w'.frozen? ⟨a,o',none⟩=w.frozen? ⟨a,o',none⟩:=by by_cases e:a=b;subst e;exact h.frozen o';exact ug (h.J a e)
def gV.there{a o' n:Nat}(l:w.there a o' n):w'.there a o' n:=fun j i=>by obtain⟨c,g⟩:=l j i;refine⟨?_,(h.fz _ _).Z g⟩;by_cases e:a=b;subst e;by_cases f:o'+j<off∨off+cs<=o'+j;rw[h.other _ f];exact c;have d:=h.zn (o'+j-off) _ (cV ad);rw[show off+(o'+j-off)=o'+j by omega]at d;rw[d];rfl;rw[h.far e];exact c
end
def Ww{P ops rest c a w Q}(e:c.guard=none) ty x y(f:c.op=.store ty x y)
 b o cs(i:a.eval x=.pointer (some ⟨b,o,none⟩))(j:a.eval y=.agg cs)
 (g:w.there b o cs) (l:(P.info? ty).map (·.size)=cs.length) (d:∀v∈cs,v.oneCell'=true)
 (h:∀w',gV w w' b o cs->wpList P ops Q rest (a.put c.dst undef) w'):wpList P ops Q (c::rest) a w:=
 wpList_store_mid e ty x y f b o _ i j (by omega) (by omega) (all_oneCell_toArray d) (h _ (by simpa using Bb g))
def pX{w:World}{b cs ty f}(h:w.heap[b]?=some (.cells cs ty f)):w.rangeAt b 0 cs:=fun j v hv=>by rw[cH,bj w b j _ ty f h];simpa using hv
def oO{w:World}{b n}{cs:List Value}{ty}(h:kq w b cs ty)(c:n<=cs.length):w.there b 0 n:=fun j a=>by refine⟨?_,?_⟩;rw[cH,bj w b j _ ty _ h];simp;omega;simp[World.frozen?,h]
def s9{w:World}{b o n o' n'}(h:w.there b o n)(a:o<=o')(c:o'+n'<=o+n):w.there b o' n':=fun j d=>by have:=h (o'-o+j) ad;rwa[show o+(o'-o+j)=o'+j by omega]at this
def pY{w b o n}(h:w.there b o n)(c:16<=n):FT w b o:=fun j a=>(h j ad).2
def uX m:∀v∈setRow m,v.oneCell'=true:=by intro v hv;unfold setRow at hv;simp only[bX,uh,ui]at hv;rcases hv with rfl|rfl|rfl|rfl|rfl|rfl|rfl|rfl|rfl|rfl|rfl|rfl|rfl|rfl|rfl|rfl<;>rfl
def Pj a:∀v∈factRow a,v.oneCell'=true:=by
 intro v hv;unfold factRow at hv;simp only[bX,dk]at hv;rcases hv with rfl|rfl|h|h
 rfl;rfl;exact uX _ v h;exact uX _ v h
def kW:PF:=⟨false,false,0,0⟩
def Pk x y f l w:(Instr.build 223 #[(0,.bool x),(1,.bool y),(2,.agg (setRow f)),(3,.agg (setRow l))]).run prog w=.ok (jU ⟨x,y,f,l⟩) w:=by kernel_rfl
def Wx{ops rest b a w Q} x y f l(c:b.guard=none)(ps:Array _)(d:b.op=.build 223 ps)
 (e:(ps.toList.map fun p=>(p.1,a.eval p.2))=[(0,.bool x),(1,.bool y),(2,.agg (setRow f)),(3,.agg (setRow l))]) (h:wpList prog ops Q rest (a.put b.dst (.agg (factRow ⟨x,y,f,l⟩))) w):wpList prog ops Q (b::rest) a w:=
 uW c 223 ps d _ _ (Pk x y f l w) e h
def Wy{ops rest b a w Q} x(c:b.guard=none)(ps:Array _)(d:b.op=.build 223 ps)
 (e:(ps.toList.map fun p=>(p.1,a.eval p.2))=[(0,.bool x)]) (h:wpList prog ops Q rest (a.put b.dst (.agg (factRow ⟨x,false,0,0⟩))) w):wpList prog ops Q (b::rest) a w:=
 uW c 223 ps d _ _ az e h
def Wz{ops rest b a w Q} y(c:b.guard=none)(ps:Array _)(d:b.op=.build 223 ps)
 (e:(ps.toList.map fun p=>(p.1,a.eval p.2))=[(1,.bool y)]) (h:wpList prog ops Q rest (a.put b.dst (.agg (factRow ⟨false,y,0,0⟩))) w):wpList prog ops Q (b::rest) a w:=
 uW c 223 ps d _ _ az e h
def WC{ops rest b a w Q} y f l(c:b.guard=none)(ps:Array _)(d:b.op=.build 223 ps)
 (e:(ps.toList.map fun p=>(p.1,a.eval p.2))=[(1,.bool y),(2,.agg (setRow f)),(3,.agg (setRow l))]) (h:wpList prog ops Q rest (a.put b.dst (.agg (factRow ⟨false,y,f,l⟩))) w):wpList prog ops Q (b::rest) a w:=
 uW c 223 ps d _ _ az e h
def yj{w w' b off m a}(h:w.rangeAt b off (factRow a))(c:gF w w' b (off+2) (.int .u64 (m:Nat))):w'.rangeAt b off (factRow {a with f:=m}):=fun j v hv=>by
 by_cases e:j=2;subst e;rw[c.zn];exact hv;rw[c.other _ ad];apply h j v;rw[<-hv];match j,e with
 |0,_=>rfl
 |1,_=>rfl
 |2,e=>omega
 |j+3,_=>rfl
def yk{w w' b off m a}(h:w.rangeAt b off (factRow a))(c:gF w w' b (off+18) (.int .u64 (m:Nat))):w'.rangeAt b off (factRow {a with l:=m}):=fun j v hv=>by
 by_cases e:j=18;subst e;rw[c.zn];exact hv;rw[c.other _ ad];apply h j v;rw[<-hv];match j,e with
 |0,_|1,_|2,_|3,_|4,_|5,_|6,_|7,_|8,_|9,_|10,_|11,_|12,_|13,_|14,_|15,_|16,_|17,_=>rfl
 |18,e=>omega
 |j+19,_=>rfl
def uY(a:PF):Prop:=a.f<18446744073709551616/\a.l<18446744073709551616
def FX{a b}(c:a<18446744073709551616)(d:b<18446744073709551616):a|||b<18446744073709551616:=
 C2 (n:=64) c d
def nX(w:World)(a b:Array Value):World:=cT ((w.alloc (.cells a 223)).alloc (.cells b 223)) #[false,false,.int .u64 0,.int .u64 0,.int .u64 0,.int .u64 0,.int .u64 0,.int .u64 0,.int .u64 0,.int .u64 0,.int .u64 0,.int .u64 0,.int .u64 0,.int .u64 0,.int .u64 0,.int .u64 0,.int .u64 0,.int .u64 0,.int .u64 0,.int .u64 0,.int .u64 0,.int .u64 0,.int .u64 0,.int .u64 0,.int .u64 0,.int .u64 0,.int .u64 0,.int .u64 0,.int .u64 0,.int .u64 0,.int .u64 0,.int .u64 0,.int .u64 0,.int .u64 0] 223
def FY w a b:aR w (nX w (factRow a) (factRow b))/\(nX w (factRow a) (factRow b))=w.heap.size+3/\
 (nX w (factRow a) (factRow b)).rangeAt w 0 (factRow a)/\(nX w (factRow a) (factRow b)).rangeAt (w+1) 0 (factRow b)/\(nX w (factRow a) (factRow b)).there (w+2) 0 34:=by
 unfold nX;have c:=aN w (.cells (factRow a) 223);have d:=aN (cT w (factRow a) 223) (.cells (factRow b) 223);have e:=aN (cT (w.alloc (.cells (factRow a) 223)) (factRow b) 223) (.cells (factRow kW) 223);simp only[bP]at c d e;refine⟨(aP.alloc aj _).alloc aO _,aj,pX (ty:=223) (f:=(0,0)) ?_,pX (ty:=223) (f:=(0,0)) ?_,oO (cs:=factRow kW) (ty:=223) ?_ (ay _)⟩;rw[br _ _ _ aO,br _ _ _ aj];exact c;rw[br _ _ _ aj];exact d;exact e
def FZ w1:aR w1 (cT w1 #[false,false,.int .u64 0,.int .u64 0,.int .u64 0,.int .u64 0,.int .u64 0,.int .u64 0,.int .u64 0,.int .u64 0,.int .u64 0,.int .u64 0,.int .u64 0,.int .u64 0,.int .u64 0,.int .u64 0,.int .u64 0,.int .u64 0,.int .u64 0,.int .u64 0,.int .u64 0,.int .u64 0,.int .u64 0,.int .u64 0,.int .u64 0,.int .u64 0,.int .u64 0,.int .u64 0,.int .u64 0,.int .u64 0,.int .u64 0,.int .u64 0,.int .u64 0,.int .u64 0] 223)/\(w1.alloc (.cells #[false,false,.int .u64 0,.int .u64 0,.int .u64 0,.int .u64 0,.int .u64 0,.int .u64 0,.int .u64 0,.int .u64 0,.int .u64 0,.int .u64 0,.int .u64 0,.int .u64 0,.int .u64 0,.int .u64 0,.int .u64 0,.int .u64 0,.int .u64 0,.int .u64 0,.int .u64 0,.int .u64 0,.int .u64 0,.int .u64 0,.int .u64 0,.int .u64 0,.int .u64 0,.int .u64 0,.int .u64 0,.int .u64 0,.int .u64 0,.int .u64 0,.int .u64 0,.int .u64 0] 223)).there w1 0 34:=
 ⟨aP,oO (aN w1 _) (ay _)⟩
def Pm a b(K:uY a)(M:uY b) w:
 cX 205 #[jU a,jU b] w (jU (uU a b)):=by
 obtain⟨o,s,d,f,t2⟩:=FY w a b;unfold jU;obtain⟨Q,l⟩:=am ((factRow a).toArray);obtain⟨R,m⟩:=am ((factRow b).toArray);rw[<-l,<-m]at o s d f t2;obtain⟨w1,p⟩:=am (nX w Q R);rw[<-p]at o s d f t2;unfold nX at p;rw[<-l,<-m];obtain⟨c,t3⟩:=FZ w1;obtain⟨P,t⟩:=am (w1.alloc (.cells #[false,false,.int .u64 0,.int .u64 0,.int .u64 0,.int .u64 0,.int .u64 0,.int .u64 0,.int .u64 0,.int .u64 0,.int .u64 0,.int .u64 0,.int .u64 0,.int .u64 0,.int .u64 0,.int .u64 0,.int .u64 0,.int .u64 0,.int .u64 0,.int .u64 0,.int .u64 0,.int .u64 0,.int .u64 0,.int .u64 0,.int .u64 0,.int .u64 0,.int .u64 0,.int .u64 0,.int .u64 0,.int .u64 0,.int .u64 0,.int .u64 0,.int .u64 0,.int .u64 0] 223));rw[<-t]at c t3;have af:=c.size;have N:=o.Z (c.zz ad);rw[s]at t3;obtain⟨av,Z,A,B⟩:=a;obtain⟨bv,aa,C,D⟩:=b;have E:=d 0 _ rfl;have F:=d 1 _ rfl;have d0:=f 0 _ rfl;have d1:=f 1 _ rfl;have f0:w1.rangeAt w 2 (setRow A):=lH d;have ag:w1.rangeAt w 18 (setRow B):=oN d;have V:Hid (P.rangeAt (w+1) 0 (factRow ⟨bv,aa,C,D⟩)):=fun j v e=>(c.cell aO).Z (f j v e);have X:Hid (P.there (w.heap.size+2) 0 34):=fun j e=>by obtain⟨ab,ae⟩:=t2 j e;exact⟨by rw[c.cell aO];exact ab,by rw[c.frozen aO];exact ae⟩
 simp only at E F d0 d1;have⟨ao,aw,S,y,z⟩:=iz l m N K M;have u:=ah t3;clear l m o c N d f t2 K M af
 go_in
 cases av<;>cases Z
 all_goals
  go_wp2_with(first
   |(rw[<-p];clear p)
   |(rw[<-t];clear t)
   |(refine ym ?_)
   |(refine rE ?_)
   |((refine kX ?_);intro al g)
   |fail)
  have r:=g.range V.o (.inl ad);have H:=g.there u.o;have e:=pW (w.heap.size+3) 2 A (w.heap.size+1) 2 C al ad y.o.1 z.o.1 (gd (lH g.zn)) (pY (s9 H (o':=2) (n':=16) ad ad) (ay _)) (gd (lH r));have⟨i,W⟩:=aC g r;clear g t3 f0 ag E F d0 d1 r H;refine ar e ?_;intro an h;have q:=yj i.o.zn h;have G:=h.row.range W.o (.inl ad);have I:=h.row.there (i.o.there u.o);have O:=pW (w.heap.size+3) 18 B (w.heap.size+1) 18 D an ad y.o.2 z.o.2 (gd (oN q)) (pY (s9 I (o':=18) (n':=16) ad ad) (ay _)) (gd (oN G));have⟨x,T⟩:=aC h q;clear e h q G I;go_wp2_with fail
  refine ar O ?_;intro a2 n;have a0:=yk T.o n;have a1:=n.row.there (x.o.row.there (i.o.there X.o));have Y:=ah n;clear O n;go_wp2_with(first
   |(refine uZ ?_)
   |((refine kX ?_);intro a3 J)
   |fail)
  (try simp only[Exit.inBlock,Exit.then])
  apply cQ (jm rfl _ _ _ 0 _ _ rfl J.zn lj rfl kn) rfl;exact⟨rfl,J.O (Y.o.row.O (x.o.row.O (i.o.O S.o ad) ad) ad) ad⟩
def Pn a b(Y:uY a)(Z:uY b) w:
 cX 204 #[jU a,jU b] w (jU (rD a b)):=by
 obtain⟨C,O,z,A,t2⟩:=FY w a b;unfold jU;obtain⟨af,I⟩:=am ((factRow a).toArray);obtain⟨ag,J⟩:=am ((factRow b).toArray);rw[<-I,<-J]at C O z A t2;obtain⟨w1,q⟩:=am (nX w af ag);rw[<-q]at C O z A t2;unfold nX at q;rw[<-I,<-J];obtain⟨s,t3⟩:=FZ w1;obtain⟨P,D⟩:=am (w1.alloc (.cells #[false,false,.int .u64 0,.int .u64 0,.int .u64 0,.int .u64 0,.int .u64 0,.int .u64 0,.int .u64 0,.int .u64 0,.int .u64 0,.int .u64 0,.int .u64 0,.int .u64 0,.int .u64 0,.int .u64 0,.int .u64 0,.int .u64 0,.int .u64 0,.int .u64 0,.int .u64 0,.int .u64 0,.int .u64 0,.int .u64 0,.int .u64 0,.int .u64 0,.int .u64 0,.int .u64 0,.int .u64 0,.int .u64 0,.int .u64 0,.int .u64 0,.int .u64 0,.int .u64 0] 223));rw[<-D]at s t3;have ao:=s.size;have aa:=C.Z (s.zz ad);rw[O]at t3;obtain⟨av,W,G,K⟩:=a;obtain⟨bv,X,M,H⟩:=b;have N:=z 0 _ rfl;have g:=z 1 _ rfl;have d0:=A 0 _ rfl;have d1:=A 1 _ rfl;have f0:w1.rangeAt w 2 (setRow G):=lH z;have ab:w1.rangeAt (w+1) 18 (setRow H):=oN A;have T:Hid (P.rangeAt w 0 (factRow ⟨av,W,G,K⟩)):=fun j v l=>(s.cell aO).Z (z j v l);have R:=ah C;have V:Hid (P.rangeAt (w+1) 0 (factRow ⟨bv,X,M,H⟩)):=fun j v l=>(s.cell aO).Z (A j v l);have p:Hid (P.there (w.heap.size+2) 0 34):=fun j l=>by obtain⟨al,an⟩:=t2 j l;exact⟨by rw[s.cell aO];exact al,by rw[s.frozen aO];exact an⟩
 simp only at N g d0 d1;have⟨a0,a1,S,E,F⟩:=iz I J aa Y Z;have r:=ah t3;clear I J C s aa z A Y Z ao
 go_in
 cases av
 case true=>
  go_wp2_with(first
   |(rw[<-q];clear q)
   |(refine rE ?_)
   |((refine kX ?_);intro B f)
   |fail)
  (try simp only[Exit.inBlock,Exit.then])
  apply cQ (jm rfl _ _ _ 0 _ _ rfl f.zn lj rfl kn) rfl;exact⟨by unfold rD;simp,f.O R.o ad⟩
 cases bv
 case true=>
  go_wp2_with(first
   |(rw[<-q];clear q)
   |(refine rE ?_)
   |((refine kX ?_);intro B f)
   |fail)
  (try simp only[Exit.inBlock,Exit.then])
  apply cQ (jm rfl _ _ _ 0 _ _ rfl f.zn lj rfl kn) rfl;exact⟨by unfold rD;simp,f.O R.o ad⟩
 cases W<;>cases X
 case false.false=>
  go_wp2_with(first
   |(rw[<-q];clear q)
   |(rw[<-D];clear D)
   |(refine ym ?_)
   |(refine uZ ?_)
   |(refine rE ?_)
   |((refine kX ?_);first|(clear t2;intro B f;have e:=f.range V.o (.inl ad);have d:=f.range T.o (.inl ad);have g:=d 1 _ rfl;have d1:=e 1 _ rfl;have i:=f.zn;have n:=f.there p.o;have h:=f.O S.o (wS _ _);simp only at g d1;clear t3 f0 ab N d0)|(intro Q o))
   |fail)
  (try simp only[Exit.inBlock,Exit.then])
  apply cQ (jm rfl _ _ _ 0 _ _ rfl o.zn lj rfl kn) rfl;exact⟨rfl,o.O h ad⟩
 all_goals
  go_wp2_with(first
   |(rw[<-q];clear q)
   |(rw[<-D];clear D)
   |(refine ym ?_)
   |(refine rE ?_)
   |((refine kX ?_);intro B f;have e:=f.range V.o (.inl ad);have d:=f.range T.o (.inl ad);have g:=d 1 _ rfl;have d1:=e 1 _ rfl;have i:=f.zn;have m:=f.there r.o;have n:=f.there p.o;have h:=f.O S.o (wS _ _);simp only at g d1;clear t2 t3 f0 ab N d0)
   |fail)
 have l:=pW _ 18 H _ 18 K B ad F.o.2 E.o.2 (gd (oN i)) (pY (s9 m ad ad) (ay _)) (gd (oN d));have⟨u,r,p,t,x,y⟩:=iL i m n h d e;clear i m n h g d1 d e;refine ar l ?_;intro aw c;have i:=yk u.o c;have d:=c.row.range x.o (.inl ad);have e:=c.row.range y.o (.inl ad);have m:=c.row.there r.o;have n:=c.row.there p.o;have h:=c.row.O t.o ad;have g:=d 1 _ rfl;have d1:=e 1 _ rfl;simp only at g d1;clear l c;go_wp2_with(first
  |(refine uZ ?_)
  |((refine kX ?_);intro Q o)
  |fail)
 (try simp only[Exit.inBlock,Exit.then])
 apply cQ (jm rfl _ _ _ 0 _ _ rfl o.zn lj rfl kn) rfl;exact⟨rfl,o.O h ad⟩;have l:=pW _ 2 G _ 2 M B ad E.o.1 F.o.1 (gd (lH i)) (pY (s9 m ad ad) (ay _)) (gd (lH e));have⟨u,r,p,t,x,y⟩:=iL i m n h d e;clear i m n h g d1 d e;refine ar l ?_;intro ae c;have i:=yj u.o c;have d:=c.row.range x.o (.inl ad);have e:=c.row.range y.o (.inl ad);have m:=c.row.there r.o;have n:=c.row.there p.o;have h:=c.row.O t.o ad;have g:=d 1 _ rfl;have d1:=e 1 _ rfl;simp only at g d1;clear l c;go_wp2_with(first
  |(refine uZ ?_)
  |((refine kX ?_);intro Q o)
  |fail)
 (try simp only[Exit.inBlock,Exit.then])
 apply cQ (jm rfl _ _ _ 0 _ _ rfl o.zn lj rfl kn) rfl;exact⟨rfl,o.O h ad⟩;have l:=pW _ 2 G _ 2 M B ad E.o.1 F.o.1 (gd (lH i)) (pY (s9 m ad ad) (ay _)) (gd (lH e));have⟨u,r,p,t,x,y⟩:=iL i m n h d e;clear i m n h g d1 d e;refine ar l ?_;intro ae c;have i:=yj u.o c;have d:=c.row.range x.o (.inl ad);have e:=c.row.range y.o (.inl ad);have m:=c.row.there r.o;have n:=c.row.there p.o;have h:=c.row.O t.o ad;have g:=d 1 _ rfl;have d1:=e 1 _ rfl;simp only at g d1;clear l c;go_wp2_with fail
 have l:=pW _ 18 H _ 18 K ae ad F.o.2 E.o.2 (gd (oN i)) (pY (s9 m ad ad) (ay _)) (gd (oN d));have⟨u,r,p,t,x,y⟩:=iL i m n h d e;clear i m n h g d1 d e;refine ar l ?_;intro aw c;have i:=yk u.o c;have d:=c.row.range x.o (.inl ad);have e:=c.row.range y.o (.inl ad);have m:=c.row.there r.o;have n:=c.row.there p.o;have h:=c.row.O t.o ad;have g:=d 1 _ rfl;have d1:=e 1 _ rfl;simp only at g d1;clear l c;go_wp2_with(first
  |(refine uZ ?_)
  |((refine kX ?_);intro Q o)
  |fail)
 (try simp only[Exit.inBlock,Exit.then])
 apply cQ (jm rfl _ _ _ 0 _ _ rfl o.zn lj rfl kn) rfl;exact⟨rfl,o.O h ad⟩
section
open PRegex
def ni(t:PT):PF:=⟨!t.zo,t.null,dt t,eH t⟩
def Po a b:ni (.alt a b)=uU (ni a) (ni b):=by unfold ni uU;simp[PT.zo,PT.null,dt,eH]
def Pp a b:ni (.cat a b)=rD (ni a) (ni b):=by
 unfold ni rD;simp only[PT.zo,PT.null,dt,eH];cases d:a.zo with
 |false=>
  have c:a.null=false:=by cases e:a.null with|false=>rfl|true=>rw[xE e]at d;cases d
  simp[c]
 |true=>
  cases f:b.zo with
  |false=>
   have c:b.null=false:=by cases e:b.null with|false=>rfl|true=>rw[xE e]at f;cases f
   simp[c]
  |true=>
   cases h:a.null<;>cases g:b.null<;>simp
def factN(l:List ax)(i:Nat):PF:=ni (trN l i)
def Pq{l}(b:d9 0 l=true){i n}(a:l[i]?=some n):
 factN l i=if n.op=1 then⟨false,true,0,0⟩else if n.op=2 then⟨false,false,2^i,2^i⟩else if n.op=3 then rD (factN l n.a.toNat) (factN l n.b.toNat)
  else if n.op=4 then uU (factN l n.a.toNat) (factN l n.b.toNat)else if n.op=5 then⟨false,true,(factN l n.a.toNat).f,(factN l n.a.toNat).l⟩else⟨true,false,0,0⟩:=by
 unfold factN;rw[mX b a];unfold eP;split;rfl;split;rfl;split;exact Pp _ _;split;exact Po _ _;split;rfl;rfl
def mi{l}(hF:eG l)(d:l.length<=60){i}(a:i<l.length):uY (factN l i):=by
 have b:=Ex hF a;have c:=Ml hF a;have:2^l.length<=2^60:=rZ aq d;exact⟨eU b (by have:2^60<=18446744073709551616:=aq
                                                                               omega),eU c (by have:2^60<=18446744073709551616:=aq
                                                                                               omega)⟩
end
end Go.Proofs.YtfeidcmojcijpaaGreatDoor
