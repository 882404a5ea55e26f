import Derived.Test.YtfeidcmojcijpaaGreatDoorQbj
import Derived.Test.YtfeidcmojcijpaaGreatDoorQbl
import Derived.Test.YtfeidcmojcijpaaGreatDoorQbn
set_option linter.all false
set_option maxRecDepth 100000
set_option maxHeartbeats 0
namespace Go.Proofs.YtfeidcmojcijpaaGreatDoor
open Go.RowKit Tryz
section
open Wey
def Js:∀{x y},jV x->jV y->(∀b,b∈x↔b∈y)->x=y
 |[],[],_,_,_=>rfl
 |[],b::y,_,_,d=>by have:=(d b).2 (eV ..);simp at this
 |a::x,[],_,_,d=>by have:=(d a).1 (eV ..);simp at this
 |a::x,b::y,m,n,d=>by
  have h:(∀c∈x,bM a c)/\jV x:=ue.1 m;have i:(∀c∈y,bM b c)/\jV y:=ue.1 n;have l:a=b:=by
   rcases bX.1 ((d a).1 (eV ..))with e|f
   exact e;rcases bX.1 ((d b).2 (eV ..))with e|j
   exact e.zy;exact absurd (dw.tr (i.1 a f) (h.1 b j)) (dw.irr b)
  subst l;congr 1
  refine Js h.2 i.2 fun c=>⟨fun g=> ?_,fun g=> ?_⟩;rcases bX.1 ((d c).1 (dM _ g))with e|f
  subst e;exact absurd (h.1 c g) (dw.irr c);exact f;rcases bX.1 ((d c).2 (dM _ g))with e|f
  subst e;exact absurd (i.1 c g) (dw.irr c);exact f
def Ug l o cap(D:bK l=0)(M:l.length<=60)(I:¬tO l) w(c:dv w o cap l):
 dB 55 #[.slice o l cap] w fun e w'=>(∃h nv B keys f a,e=.returned (.tuple #[.agg #[h,nv,B],true])/\ev l keys f/\bN w' w h (unionB (symsS l))/\w'.ownsRow w 41 1 nv a.length a/\a=f.length/\(∀(j:Nat) v r,a[j]?=some v->f[j]?=some r->bW w' w v r)/\w'.ownsRow w 4 1 B keys (keys.map fun s=>.bool (finM l s)))/\aR w w':=by
 have d:=c.2.1;have d:=c.2.2.1;unfold maxLen at d;have⟨q,d⟩:=am (w.alloc (.cells dx 122));have p:=iC d;have i:=kj d;have⟨F,t⟩:=aC p i;clear p i
 go_in
 go_wp2_with(first|(rw[<-d];clear d)|fail)
 go_loopw [4,5] (fun h d wr=>∃(k:Nat) (L:List Bytes),d=.int .i64 k/\k<=l/\Hid (jV L)/\Hid (∀b,b∈L↔∃n∈l.take k,n.op=2/\n.sym=b)/\L<=k/\bN wr (w+1) h L/\aR q wr) (fun _ d _=>l-(intOf d).toNat)
 case atStart=>exact⟨0,[],rfl,aH _,ah List.Pairwise.nil,ah fun b=>aj,ay _,cW _ _ _ _,aA _ _⟩
 case round=>
  obtain⟨k,L,rfl,h,A,x,d,i,q⟩:=hrel;have C:=aE t.out q;have N:=aS F.out;have d:=q.size;by_cases t:k<l
  ·have K:=bC t
   have d:=bk t;have d:=aL k;have⟨n,h⟩:=aT t;obtain⟨b,d,rfl,J,u,z,E,H⟩:=(c.O C).at h;have p:∀b,(∃m∈l.take (k+1),m.op=2/\m.sym=b)↔(∃m∈l.take k,m.op=2/\m.sym=b)∨(n.op=2/\n.sym=b):=fun b=>by rw[bH,h];simp only[fp,dk,pm];constructor;rintro⟨m,c|rfl,d⟩;exact .inl ⟨m,c,d⟩;exact .inr d;rintro(⟨m,c,d⟩|c);exact⟨m,.inl c,d⟩;exact⟨n,.inr rfl,c⟩
   have y:=ah p;obtain⟨G,sym,O,P⟩:=n;simp only at u z y;clear E H h p;by_cases d:G=2
   ·subst d
    go_wp2_with fail
    apply(Uf L sym _ _ wr i ad A.o ad).zz;rintro e h ⟨⟨z,H,rfl,E,u⟩,p⟩;have z:=ah E;clear E
    go_wp2
    go_roundw
    case rel=>exact⟨k+1,H,aD,ad,ah z.o.1,ah fun b=>by rw[z.o.2.2,x.o,y.o];simp[eq_comm],by have:=z.o.2.1;omega,u,aE q p⟩
    case measure=>exact aM
   have d2:(G==2)=false:=by simpa using d
   have z:=ah d;clear d;refine qN ?_;
    exact⟨k+1,L,aD,ad,A,ah fun b=>by rw[x.o,y.o];simp[z.o],ad,i,q⟩
  have K:=bG t;have d:=mH t;have d:L=unionB (symsS l):=Js A.o (vr _) fun b=>by rw[x.o,tA,rL D,bI ad]
  rw[d]at i;have t:=TY l o cap D M I _ (w.heap.size+1) wr (c.O C) i (by rw[<-d];omega);obtain⟨E,D,rfl⟩:=bs i;have⟨G,c⟩:=aC i t;clear d t i;go_wp2_with fail
  apply c.o.zz;rintro e h ⟨⟨nv,B,keys,f,a,rfl,d,t,H,I,x⟩,p⟩;have K:=aE C p;have c:=(p.J _ ad).Z ((q.J _ N).Z F.out);have⟨i,q,y⟩:=dP c;have f0:=aJ c 0;have f1:=aJ c 1;have f2:=aJ c 2;obtain⟨A,z,rfl⟩:=bs t;obtain⟨q,i,rfl⟩:=bs x;have u:=aX G.o (fun g y=>p.J g (aY G.o g y).2);have B:=ah c;have C:=ah (show ev l keys f/\bN h (w+1) (.slice E (unionB (symsS l)) D) (unionB (symsS l))/\h.ownsRow wr 41 1 (.slice A a z) a a/\a=f.length/\(∀j v r,a[j]?=some v->f[j]?=some r->bW h wr v r)/\h.ownsRow wr 4 1 (.slice q keys i) keys (keys.map fun s=>.bool (finM l s))from⟨d,u,t,H,I,x⟩);clear d t H I x u c;go_wp2_with fail
  obtain⟨c,p⟩:=am (((h.setCell w (.slice E (unionB (symsS l)) D)).setCell ⟨w,1,none⟩ (.slice A a z)).setCell ⟨w,2,none⟩ (.slice q keys i));have u:c.heap[w.heap.size]?=some (.cells #[.slice E (unionB (symsS l)).length D,.slice A a.length z,.slice q keys.length i] 122):=by rw[p];exact a8 _ _ 2 _ (a8 _ _ 1 _ (a8 _ _ 0 _ B.o))
  have J:∀b,b≠w.heap.size->c.heap[b]?=h.heap[b]?:=fun b i=>by rw[p,aU _ _ _ _ _ i,aU _ _ _ _ _ i,aU _ _ _ _ _ i]
  have x:Below w.heap.size w c:=by rw[p];exact((K.setCell (ay _) _).setCell (ay _) _).setCell (ay _) _
  have i:∀{q e size n:Nat} {v:Value} {xs:List Value},h.ownsRow q e size v n xs->w.heap.size<q->c.ownsRow w.heap.size e size v n xs:=fun t z=>eR (aX t (W':=c) (fun g y=>J g (aQ ((aY t g y).1)))) ad;rw[<-p];have⟨y,z,A⟩:=dP u;have⟨d,c,h,p,q,t⟩:=C.o;exact cQ (by simp[results,go_sem,y,z,A]) rfl ⟨⟨_,_,_,keys,f,a,rfl,d,i c ad,i h ad,p,fun j v r hv u=>i (q j v r hv u) ad,i t ad⟩,x⟩
end
section
open Wey
structure BR where
 is:Bool
 n:Nat
 ws:List Bytes
 v:Value
def BR.o(r:BR):Option (Nat×List Bytes):=gJ r.is r.n r.ws
def BR.val(r:BR):Value:=.agg #[.bool r.is,.int .i64 (r.n:Nat),r.v]
def rT:BR:=⟨false,0,[],.slice none 0 0⟩
def eM(T:List BR)(s:Nat):Option (Nat×List Bytes):=(T[s]?).bind BR.o
structure k9(B:Nat)(r:BR)(wr:World):Prop where
 own:bN wr B r.v r.ws
 zero:r.is=false->r.n=0/\r.ws=[]
 len:r.ws.length<=256
structure j8(W:World)(TB:Nat)(T:List BR)(wr:World):Prop where
 tab:∃cs:Array Value,wr.heap[TB]?=some (.cells cs 85 (0,0))/\∀(s:Nat) (r:BR),T[s]?=some r->cs[s*3]?=some (.bool r.is)/\cs[s*3+1]?=some (.int .i64 (r.n:Nat))/\cs[s*3+2]?=some r.v
 rows:∀r∈T,k9 W.heap.size r wr
 far:W.grownBy wr (some TB)
section
variable{W wr u:World} {TB B:Nat} {T:List BR} {r:BR}
def k9.zw(a:k9 B r wr){row:Option Nat}(c:wr.grownBy u row)(d:∀q,row=some q->∃cs,wr.heap[q]?=some (.cells cs 85 (0,0))):k9 B r u:=
 ⟨cm a.own c (by
   cases e:row with
   |none=>cases f:r.v.ownBlock<;>simp
   |some q=>obtain⟨cs,b⟩:=d q e;exact .inr (iP a.own b aq)),a.zero,a.len⟩
def j8.O(a:j8 W TB T wr)(b:Below wr.heap.size wr u):j8 W TB T u:=by obtain⟨cs,c,f⟩:=a.tab;exact⟨⟨cs,(b.J _ (aI c)).Z c,f⟩,fun r h=>(a.rows r h).zw (bL b none) (fun q e=>by cases e),⟨b.os.Z a.far.os,b.tape.Z a.far.tape,b.output.Z a.far.output,aW a.far.size b.size,fun q d g=>(b.J q (eU d a.far.size)).Z (a.far.J q d g)⟩⟩
def j8.at(e:j8 W TB T wr){s:Nat}(g:T[s]?=some r):wr.cell? ⟨TB,s*3,none⟩=some (.bool r.is)/\wr.cell? ⟨TB,s*3+1,none⟩=some (.int .i64 (r.n:Nat))/\wr.cell? ⟨TB,s*3+2,none⟩=some r.v:=by obtain⟨cs,d,f⟩:=e.tab;obtain⟨a,b,c⟩:=f s r g;exact⟨(ak _ d).Z a,(ak _ d).Z b,(ak _ d).Z c⟩
def j8.free(a:j8 W TB T wr)(j:Nat):wr.frozen? ⟨TB,j,none⟩=false:=by obtain⟨cs,b,_⟩:=a.tab;exact aJ b j
def j8.put(f:j8 W TB T wr){s:Nat}{x r:BR}(t:T[s]?=some r)(B:k9 W.heap.size x wr):
 j8 W TB (T.set s x) (((wr.setCell ⟨TB,s*3,none⟩ (.bool x.is)).setCell ⟨TB,s*3+1,none⟩ (.int .i64 (x.n:Nat))).setCell ⟨TB,s*3+2,none⟩ x.v):=by
 obtain⟨cs,m,n⟩:=f.tab;have i:∀{a} {v} (w1:World),w1.grownBy (w1.setCell ⟨TB,a,none⟩ v) _:=fun w1=>gi w1 TB _ _;have h:∀{w1:World} {u:Array Value},w1.heap[TB]?=some (.cells u 85 (0,0))->∀q,some TB=some q->∃cs,w1.heap[q]?=some (.cells cs 85 (0,0)):=fun w q e=>by cases e;exact⟨_,w⟩
 have t1:=a8 wr TB (s*3) x.is m;have t2:=a8 _ TB (s*3+1) (.int .i64 x.n) t1;have t3:=a8 _ TB (s*3+2) x.v t2;have o:∀{r},k9 W r wr->k9 W r (((wr.setCell ⟨TB,_,none⟩ x.is).setCell ⟨TB,_,none⟩ (.int .i64 x.n)).setCell ⟨TB,s*3+2,none⟩ x.v):=fun A=>((A.zw (i _) (h m)).zw (i _) (h t1)).zw (i _) (h t2);refine⟨⟨_,t3,fun j y d=> ?_⟩,fun y d=> ?_,?_⟩;have C:=(iJ.1 (n s r t).2.2).1;by_cases e:j=s;subst e;rw[su (aF.1 t).1]at d;cases d
 simp[Wv];omega;rw[un (fun f=>e f.zy)]at d;have⟨a,b,c⟩:=n j y d;refine⟨?_,?_,?_⟩;rw[qK ad,qK ad,qK ad];exact a;rw[qK ad,qK ad,qK ad];exact b;rw[qK ad,qK ad,qK ad];exact c;rcases DK d with d|rfl
 exact o (f.rows y d);exact o B;have g:=f.far;refine⟨g.os,g.tape,g.output,by simpa using g.size,fun q z p=> ?_⟩;have l:q≠TB:=fun e=>p (by rw[e]);rw[aU _ _ _ _ _ l,aU _ _ _ _ _ l,aU _ _ _ _ _ l];exact g.J q z p
end
section
variable{syms:List Bytes} {p:Bytes->Nat} {nx:Nat->Bytes->Nat} {n:Nat} {T:List BR}
def Uh(f:RInv syms p nx n (eM T)){s N tq W a x r}(j:eM T s=some (N,W))(h:a∈syms)(u:0<p a)(q:W+1<=n)(l:tq=nx s a)(g:T[tq]?=some r)(d:x.o=some (min 4097 (N+p a),W++[a]))(i:ahR bM x.o r.o):
 RInv syms p nx n (eM (T.set tq x))/\ranksR bM syms n ((T.set tq x).map BR.o)<ranksR bM syms n (T.map BR.o):=by
 have e:eM (T.set tq x)=fun t=>if t=nx s a then some (min 4097 (N+p a),W++[a])else eM T t:=by
  funext t
  unfold eM;by_cases e:t=nx s a;rw[au e,e,<-l,su (aF.1 g).1];exact d;rw[ap e,un (fun f=>e (by omega))]
 have o:eM T (nx s a)=r.o:=by unfold eM;rw[<-l,g];rfl
 refine⟨e▸f.put j h u q (by rw[o,<-d];exact i),?_⟩;rw[List.map_set];unfold ranksR;apply sum_set_lt (by rw[bR,g];rfl);rw[d];obtain⟨m,v,w,y⟩:=f.rg s N W j;refine rank_lt dw ad aO (fun b c=> ?_) (d▸i);rcases dk.1 c with c|c
 exact(m b c).1;simp at c;subst c;exact h
def o9(p:Bytes->Nat)(nx:Nat->Bytes->Nat)(n:Nat)(T:List BR)(s:Nat)(a:Bytes):Prop:=∀b W,eM T s=some (b,W)->0<p a->W+1<=n->¬ahR bM ((min 4097 (b+p a),W++[a])) (eM T (nx s a))
def Ui(i:T=n)(d:∀s,s<n->∀a∈syms,o9 p nx n T s a):Stable bM syms p nx n (eM T):=fun s c W b a f h g=>by
 refine d s ?_ a f c W b h g;unfold eM at b;cases e:T[s]? with
 |none=>rw[e]at b;cases b
 |some r=>have:=(aF.1 e).1;omega
end
end
end Go.Proofs.YtfeidcmojcijpaaGreatDoor
