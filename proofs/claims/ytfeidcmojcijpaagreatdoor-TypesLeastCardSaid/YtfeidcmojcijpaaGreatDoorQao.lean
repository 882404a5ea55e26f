import Derived.Test.YtfeidcmojcijpaaGreatDoorQan
set_option linter.all false
set_option maxRecDepth 100000
set_option maxHeartbeats 0
namespace Go.Proofs.YtfeidcmojcijpaaGreatDoor
open Go.RowKit Tryz
section
def dX(n:Nat)(a:List ax):Prop:=∀m∈a,m.sym<=n
def dX.one(n:Nat)(m:ax)(b:m.sym.length<=n):dX n [m]:=by intro x a;simp at a;subst a;exact b
def dX.append{n:Nat}{a b:List ax}(d:dX n a)(e:dX n b):dX n (a++b):=by
 intro m f;rcases dk.1 f with c|c
 exact d m c;exact e m c
def dX.moved{n k:Nat}{a:List ax}(b:dX n a):dX n (a.map (fY k)):=by intro m c;obtain⟨x,d,rfl⟩:=dL.1 c;have:=b x d;unfold fY;split;exact this;split<;>exact this
def Ny{n op i out p}(a:dX n out)(b:dX n p):dX n (lz op i out p):=by unfold lz;split;exact a.append b.moved;exact(a.append b.moved).append (dX.one _ _ (aH _))
def Nz{n} op:∀(ps:List _) i out,dX n out->(∀p∈ps,dX n p)->dX n (jf op i out ps):=by
 intro ps;induction ps with
 |nil=>intro i out a _;exact a
 |cons q t ih=>intro i out a b;exact ih _ _ (Ny a (b q (eV ..))) (fun p c=>b p (dM _ c))
def AT{n op none_}{ps:List _}{l}(c:∀p∈ps,dX n p)(a:fI op none_ ps=some l):dX n l:=by
 unfold fI at a;split at a;cases a;exact dX.one _ _ (aH _)
 split at a;cases a
 cases a;exact Nz op ps 0 [] (fun m b=>by simp at b) c
def xR{n big}{r:Option _}(a:∀l,r=some l->dX n l):dX n (gw big r).1:=by unfold gw;split;exact dX.one _ _ (aH _);split;exact dX.one _ _ (aH _);exact a _ rfl
def Fl{n l}(a:dX n l):dX n (gU l):=a.append (dX.one _ _ (aH _))
def sU(l:Bytes)(f:fa->iB):Prop:=∀st a b,f st=some (a,b)->dX l a
def NA{l E}(d:sU l E):sU l (nN l E):=by
 intro st f h a;unfold nN at a;split at a;injection a with a;injection a with b c;subst b;exact dX.one _ _ (aH _)
 split at a;split at a;injection a with a;injection a with b c;subst b;exact dX.one _ _ (aH _)
 split at a;cases a
 rename_i g st' e;split at a;injection a with a;injection a with b c;subst b;exact d _ _ _ e
 cases a
 split at a;cases a
 injection a with a;injection a with b c;subst b
 apply dX.one _ _;simp only;unfold jQ;split;simp;split;apply aW (zJ _).length_le;rw[lV];omega;simp
def NC l{n}:∀f c st,dX n c->dX n (mc l f c st).1:=by
 intro f;induction f with
 |zero=>intro c st a;exact a
 |succ f ih=>
  intro c st a;unfold mc;split;exact ih _ _ (xR (fun x e=>by cases e;exact Fl a));split;exact ih _ _ (xR (fun x e=>AT (fun p b=>by simp at b;rcases b with rfl|rfl;exact a;exact Fl a) e));split;exact ih _ _ (xR (fun x e=>AT (fun p b=>by simp at b;rcases b with rfl|rfl;exact a;exact dX.one _ _ (aH _)) e));exact a
def ND{l E}(c:sU l E):sU l (mY l E):=by
 intro st f g a;unfold mY at a;split at a;cases a
 rename_i e st' d;have b:=NC l (l+1) e st' (NA c _ _ _ d);injection a with a
 rwa[a]at b
def Fo{l part} c op none_(o:sU l part):∀f (parts:List _) st d g,(∀p∈parts,dX l p)->jg l c op none_ part f parts st=some (d,g)->dX l d:=by
 intro f;induction f with
 |zero=>intro parts st d g i a;simp[jg]at a
 |succ f ih=>
  intro parts st d g i a;unfold jg at a;split at a;cases a
  rename_i r st' n;have h:=o _ _ _ n;have j:∀p∈parts++[r],dX l p:=fun p b=>by
   rcases dk.1 b with b|b
   exact i p b;simp at b;subst b;exact h
  split at a;exact ih _ _ _ _ j a;split at a;injection a with a;injection a with e m;subst e;exact h
  injection a with a;injection a with e m;subst e;exact xR (fun x q=>AT j q)
def NE l:∀n,sU l (pJ l n):=by
 intro n;induction n with
 |zero=>intro st c d a;simp[pJ]at a
 |succ n ih=>
  intro st c d a;exact Fo 124 4 0 (fun st c d a=>Fo 44 3 1 (ND ih) _ _ _ _ _ (fun p b=>by simp at b) a) _ _ _ _ _ (fun p b=>by simp at b) a
def NF l:dX l.length (pK l).1:=by unfold pK;split;intro m a;simp at a;split;intro m a;simp at a;rename_i c st b;have:=NE l _ _ _ _ b;split;intro m a;simp at a;split;intro m a;simp at a;split;intro m a;simp at a;exact this
structure pS(n:Nat)(t:aB):Prop where
 name:t.name.length<=n
 zv:t.zv.length<=n
 key:t.key.length<=n
 zx:t.zx.length<=n
 attr:∀a∈t.zx,a.length<=n
 sym:∀m∈t.E,m.sym.length<=n
def Fp r:(nO r)<=r.length:=by have a:=qZ r;unfold nO;split;simp;rename_i c t e;rw[e]at a;simp at a;split<;>simp<;>omega
def NG n:∀f d r l q,r.length<=n->(∀a∈d,a.length<=n)->d.length+r.length<=n->jh f d r=some (l,q)->(∀a∈l,a.length<=n)/\l<=n/\q<=n:=by
 intro f;induction f with
 |zero=>
  intro d r l q h g o b;simp[jh]at b;rw[<-b.1,<-b.2];exact⟨g,ad,aW (lD r) h⟩
 |succ f ih=>
  intro d r l q h g o b;by_cases e:(bh r).head?=some 64;cases i:nQ (bh r)with
  |true=>
   rw[AO e i]at b;have p:=AN e;have s:=Fp (bh r);have t:=lD r;refine ih _ _ _ _ ad (fun a c=> ?_) aO b;rcases dk.1 c with c|c
   exact g a c;simp at c;subst c;omega
  |false=>rw[AP e i]at b;cases b
  rw[AQ e]at b;injection b with b
  injection b with j m
  subst j;subst m;exact⟨g,ad,aW (lD r) h⟩
def NH{s t}(b:oL s=some t):pS s t:=by
 unfold oL at b;simp only at b;have w1:=kQ s;have A:=kQ (ce s);have B:=kQ (ce (ce s));have C:=kQ (ce (ce (ce s)));have w:=qZ (ce s);have x:=qZ (ce (ce (ce s)));split at b;cases b
 split at b;cases b
 split at b;cases b
 split at b;cases b
 split at b;cases b
 rename_i l i n;have g:=NG s.length _ _ _ _ _ ad (fun a b=>by simp at b) aO n;split at b;cases b
 rename_i k j d;have o:k.length<=s.length/\j.length<=s.length:=by
  unfold oK at d;split at d;split at d;injection d with d
  injection d with f e
  subst f;subst e;have a1:=kQ i;have p:=Fp (ce i);have q:=kQ (ce i);omega;cases d
  injection d with d
  injection d with f e
  subst f;subst e;exact⟨aH _,g.2.2⟩
 split at b;cases b
 rename_i z y c;cases b
 refine⟨by simp only;omega,by simp only;omega,o.1,g.2.1,g.1,?_⟩;unfold qX at c;split at c;split at c;injection c with c
 injection c with f e
 subst e;intro m h;have r:=NF _ m h;have u:=Fj (bh j);have v:=lD j;omega;cases c
 split at c;injection c with c
 injection c with f e
 subst e;intro m h;simp at h;cases c
def NI s:(dW s)<=s.length+1/\∀x∈dW s,x<=s.length/\∀c∈x,c∈s:=by
 induction s with
 |nil=>simp[dW]
 |cons c t ih=>
  simp only[dW];split;refine⟨by simp;exact ih.1,fun x a=> ?_⟩;rcases bX.1 a with rfl|a
  simp;have:=ih.2 x a;exact⟨aO,fun d b=>dM _ (this.2 d b)⟩;split;exact⟨aj,fun x a=>by simp at a;subst a;simp⟩;rename_i f r e;rw[e]at ih;refine⟨by have:=ih.1;simp at this⊢;omega,fun x a=> ?_⟩;rcases bX.1 a with rfl|a
  have:=ih.2 f (eV ..);refine⟨by simp;exact this.1,fun d b=> ?_⟩;rcases bX.1 b with rfl|b
  simp;exact dM _ (this.2 d b);have:=ih.2 x (dM _ a);exact⟨aO,fun d b=>dM _ (this.2 d b)⟩
open Go.RowKit Go.Shelf
attribute [local go_sem] wO
def Fq:∀l:Bytes,Lib.index l [10]= -1->dW l=[l]
 |[],_=>rfl
 |c::t,a=>by
  rw[Lib.index]at a;by_cases b:c=10;subst b;simp at a;have d:((10:UInt8)==c)=false:=by simpa using fun e=>b e.zy
  have f:([10]:Bytes).isPrefixOf (c::t)=false:=by show(10==c&&_)=false;rw[d];rfl
  rw[f]at a;simp only[iW,iy]at a;have i:=Lib.index_ge t [10];have h:Lib.index t [10]= -1:=by apply dU;intro g;rw[ap (by simpa using g)]at a;omega
  have:=Fq t h;simp only[dW];rw[ap b,this]
def Fs:∀(l:Bytes) (i:Nat),Lib.index l [10]=i->i<l/\dW l=l.take i::dW (l.drop (i+1))
 |[],i,a=>by rw[Lib.index]at a;simp at a
 |c::t,i,a=>by
  rw[Lib.index]at a;by_cases b:c=10;subst b;simp at a;have:i=0:=ad;subst this;simp[dW];have f:((10:UInt8)==c)=false:=by simpa using fun e=>b e.zy
  have g:([10]:Bytes).isPrefixOf (c::t)=false:=by show(10==c&&_)=false;rw[f];rfl
  rw[g]at a;simp only[iW,iy]at a;have h:=Lib.index_ge t [10];by_cases d:Lib.index t [10]= -1;rw[au (by simpa using d)]at a;omega;rw[ap (by simpa using d)]at a;obtain⟨j,rfl⟩:∃j,i=j+1:=⟨i-1,ad⟩;have:=Fs t j ad;refine⟨aO,?_⟩;simp only[dW];rw[ap b,this.2];simp
def NJ(l:Bytes):Lib.index l [10]= -1∨∃i:Nat,Lib.index l [10]=i:=by have:=Lib.index_ge l [10];by_cases a:Lib.index l [10]= -1;exact .inl a;exact .inr ⟨(Lib.index l [10]).toNat,ad⟩
def AU(b:Nat)(w:World):Nat:=match w.cell? b with|some (.string s)=>s.size|_=>0
def Ft{b w}{l:Bytes}(a:w.heap[b]?=some (.cells #[l] 9 (0,0))):AU b w=l:=by unfold AU;rw[bj w b 0 _ _ _ a];rfl
structure m8(w:World)(Bp Bs Bv:Nat)(l:Bytes):Prop where
 p:w.heap[Bp]?=some (.cells #[.string ⟨#[10]⟩] 9 (0,0))
 s:w.heap[Bs]?=some (.cells #[.string ⟨l.toArray⟩] 9 (0,0))
 v:w.heap[Bv]?=some (.cells #[.int .i64 0] 3 (0,0))
def nU(a b c:Nat)(w w':World):Prop:=w'.heap[a]?=w.heap[a]?/\w'.heap[b]?=w.heap[b]?/\w'.heap[c]?=w.heap[c]?
def m8.zw{w w':World}{a b c:Nat}{l:Bytes}(d:m8 w a b c l)(k:nU a b c w w'):m8 w' a b c l:=⟨k.1.Z d.p,k.2.1.Z d.s,k.2.2.Z d.v⟩
def m8.set{w:World}{c a d:Nat}{l:Bytes}(b:m8 w c a d l)(g:c≠a)(h:d≠a)(r:Bytes):m8 (w.setCell ⟨a,0,none⟩ (.string ⟨r.toArray⟩)) c a d r:=by
 refine⟨(gq _ _ _ _ g).Z b.p,?_,(gq _ _ _ _ h).Z b.v⟩;have e:=aS b.s;have f:w.heap[a]=.cells #[.string ⟨l.toArray⟩] 9 (0,0):=by have:=b.s;simpa[pl e]using this
 show(w.heap.modify a _)[a]?=_
 rw[pl (by simpa using e),zD,f];rfl
def NK(l:Bytes) w:de 98 #[l,.string ⟨#[10]⟩] w (.int .i64 (Lib.index l [10])) fun w'=>w'=w:=by refine ar (strings_Index_one _ 10 w) ?_;rintro w' rfl;exact⟨by rw[Lib.index_one],rfl⟩
def NL m l Bp Bs Bv s(aa:s.length<=65536)(a z:Nat->World->Prop)(Q:∀k W v,a k W->a k (W.setCell ⟨Bs,0,none⟩ v))
 (D:∀k x W,(dW s)[k]?=some x->a k W->YieldAt Fence.wide (m-1) prog l #[x] W fun e W'=>(e=.returned true/\a (k+1) W'/\nU Bp Bs Bv W W')∨(e=.returned false/\z (k+1) W'))
  W (B:m8 W Bp Bs Bv s) (I:Bp≠Bs) (J:Bv≠Bs) (P:a 0 W):
 CallsIn Fence.wide m prog 96 #[.func (.yield l) #[] #[],Bp,Bs,Bv] W fun e W'=>(∃v,e=.returned v)/\(a (dW s) W'∨∃k,z k W'):=by
 have Y:1<=m∨True:=.inr trivial;have O:=bj W Bp 0 _ _ _ B.p;have ab:(⟨#[10]⟩:ByteArray).size=1:=rfl;refine callsIn_of_wp func96 rfl trivial ?_ rfl;simp only[ntmps96,Dd,ef,gN,De,Df,Dg,Dh,qE,jK]
 gi_wp2
 clear O
 gi_loopw [] (fun wr=>∃k r,r.length<=s.length/\m8 wr Bp Bs Bv r/\a k wr/\Hid ((dW s).drop k=dW r)) (fun wr=>AU Bs wr)
 case atStart=>exact⟨0,s,ay _,B,P,rfl⟩
 case round=>
  obtain⟨k,r,Z,g,C,n⟩:=hrel;have d1:=bj wr Bp 0 _ _ _ g.p;have d2:=bj wr Bs 0 _ _ _ g.s;have d3:=bj wr Bv 0 _ _ _ g.v;have p:=fun w1=>NK r w1;rcases NJ r with d|⟨i,d⟩
  have j:=Fq r d;have c:(dW s)[k]?=some r/\k+1=(dW s).length:=by
   have:=n.o;rw[j]at this;have f:((dW s).drop k)[0]?=some r:=by rw[this];rfl
   rw[zN,rY]at f;have A:=gA List.length this;rw[lV]at A;simp at A;exact⟨f,ad⟩
  have⟨fn,tmps,assign,body,K,u⟩:=D k r wr c.1 C;have H:=c.2;rw[d]at p;have N:=ah H;clear d j c H n
  gi_wp2
  refine⟨trivial,(fun b=>(by cases b)),?_⟩;apply(lh.2 (p _)).zz;rintro e w' ⟨rfl,rfl⟩
  gi_wp2
  refine⟨(fun b=>(by cases b)),?_⟩;apply u.zz;rintro e o (⟨rfl,q,F⟩|⟨rfl,t⟩)
  gi_wp2
  go_end0
  exact⟨⟨_,rfl⟩,.inl (N.o▸q)⟩
  gi_wp2
  go_end0
  exact⟨⟨_,rfl⟩,.inr ⟨_,t⟩⟩
  ·have⟨X,j⟩:=Fs r i d
   have c:(dW s)[k]?=some (r.take i)/\(dW s).drop (k+1)=dW (r.drop (i+1)):=by
    have:=n.o;rw[j]at this;have f:((dW s).drop k)[0]?=some (r.take i):=by rw[this];rfl
    rw[zN,rY]at f;exact⟨f,by rw[<-List.drop_drop,this];rfl⟩
   have⟨fn,tmps,assign,body,K,u⟩:=D k _ wr c.1 C;have S:=fun w1=>Fc r i ad w1;have R:∀w1,(Instr.slice 9 (.string ⟨_⟩) (some (.int .i64 (i+1))) none none).run prog w1=.ok (.string ⟨_⟩) w1:=fun w1=>AL r (i+1) ad w1;rw[d]at p;have V:decide ((i:Int)<0)=false:=bU;have E:(r.drop (i+1)).length<r.length:=by rw[lV];omega
   have y:=ah c.2;have G:=Ft g.s;generalize r.take i=fr at K S;generalize r.drop (i+1)=w at R E y;have M:=ah G;clear d j c n G
   gi_wp2
   refine⟨trivial,(fun b=>(by cases b)),?_⟩;apply(lh.2 (p _)).zz;rintro e w' ⟨rfl,rfl⟩
   gi_wp2
   refine⟨(fun b=>(by cases b)),?_⟩;apply u.zz;rintro e o (⟨rfl,q,F⟩|⟨rfl,t⟩)
   ·have h:=g.zw F
    have d1:=bj o Bp 0 _ _ _ h.p;have d2:=bj o Bs 0 _ _ _ h.s;have T:o.frozen? ⟨Bs,0,none⟩=false:=by have:=h.s;simp[World.frozen?,this]
    gi_wp2
    go_roundw
    case rel=>exact⟨_,w,ad,h.set I J w,Q _ _ _ q,y.o⟩
    case measure=>rw[M.o,Ft (h.set I J w).s];exact E
   gi_wp2
   apply cQ (results_none rfl _ _ _) rfl;exact⟨⟨_,rfl⟩,.inr ⟨_,t⟩⟩
open Go.RowKit Go.Shelf
structure xS(Bp Bs Bv D:Nat)(W W':World):Prop where
 size:W.heap.size<=W'.heap.size
 boxes:nU Bp Bs Bv W W'
 d0:W'.heap[D]?=W.heap[D]?
 d1:W'.heap[D+1]?=W.heap[D+1]?
def NM(b c d D:Nat)(e:Nat->World->Prop)(f:Code->Nat->World->Prop)(k:Nat)(W:World):Exit->Act->World->Prop
 | .normal,_,a=>xS b c d D W a/\e (k+1) a
 | .exit id,_,a=>xS b c d D W a/\f (.exit id) (k+1) a
 |_,_,_=>False
def Fu{W Bp Bs Bv l o}(a:Bp≠l)(b:Bs≠l)(c:Bv≠l):nU Bp Bs Bv W (W.putObj l o):=⟨eK a,eK b,eK c⟩
def nU.Z{d e f:Nat}{a b c:World}(g:nU d e f a b)(k:nU d e f b c):nU d e f a c:=⟨k.1.Z g.1,k.2.1.Z g.2.1,k.2.2.Z g.2.2⟩
def NO{g pt assign body Q a w} n Bp Bs Bv s(N:s.length<=65536)
 (K:a.eval g=.func (.func 96) #[] #[Bp,Bs,Bv])
 (h:m8 w Bp Bs Bv s) (M:Bp≠Bs) (R:Bv≠Bs)
  I Ix
 (m:∀k W o,I k W->I k (W.alloc o))
 (u:∀k W l o,w.heap.size<=l->l<w+2->I k W->I k (W.putObj l o))
 (A:∀c k W l o,w.heap.size<=l->l<w+2->Ix c k W->Ix c k (W.putObj l o))
 (y:∀k W v,I k W->I k (W.setCell Bs v)) (q:I 0 w) (d:Bytes->Act)
 (C:∀l x W b,b (d x) W->assign.wpIn (Fence.wide.inRound l) (n-1-1) prog (Exit.then b (fun _ _ _=>False)) {tmps:=((#[pt]:Array Tmp).zip #[Value.string ⟨x.toArray⟩]).foldl (fun t (p,v)=>t.setIfInBounds p v) a.tmps,defers:=[]} W)
 (D:∀l k x W,(dW s)[k]?=some x->I k W->w.heap.size+2<=W.heap.size->body.wpIn (Fence.wide.inRound l) (n-1-1) prog (NM Bp Bs Bv w I Ix k W) (d x) W)
 (H:∀W,I (dW s) W->W.heap[w.heap.size]?=some (.deferred (some []))->Q .normal {a with defers:={target:=.collected w,args:=#[]}::a.defers} W)
 (O:∀c k W,Ix c k W->W.heap[w.heap.size]?=some (.deferred (some []))->c.wpIn Fence.wide n prog Q {a with defers:={target:=.collected w,args:=#[]}::a.defers} W):
 (Code.rangeFunc g #[pt] assign body).wpIn Fence.wide n prog Q a w:=by
 apply wpIn_rangeFunc;intro fn J;obtain⟨b,f⟩:∃b:LoopState->Option Code->Loop,b=fun st d=>{state:=st,pending:=d,fn:=fn,tmps:=a.tmps,params:=#[pt],assign:=assign,body:=body,defers:=w}:=⟨_,rfl⟩;obtain⟨d,i⟩:∃d,(w.alloc (.deferred (some []))).alloc (.loop (b .ready none))=d:=⟨_,rfl⟩;have E:=aS h.p;have F:=aS h.s;have G:=aS h.v;have j:aR w d:=by rw[<-i];exact aP.alloc aj _
 have B:d.heap[w.heap.size+1]?=some (.loop (b .ready none)):=by rw[<-i];have:=Di (w.alloc (.deferred (some []))) (.loop (b .ready none));rwa[bP]at this
 have z:d.heap[w.heap.size]?=some (.deferred (some [])):=by rw[<-i];exact(br _ _ _ aj).Z (Di w _)
 have r:I 0 d:=by rw[<-i];exact m _ _ _ (m _ _ _ q)
 have m:=h.zw ⟨j.J _ E,j.J _ F,j.J _ G⟩;refine⟨w+1,[{target:=.collected w,args:=#[]}],d,{target:=.fn (.func 96) #[Bp,Bs,Bv],args:=#[.func (.yield (w+1)) #[] #[]]},d,96,
  #[.func (.yield (w+1)) #[] #[]]++#[.pointer Bp,.pointer Bs,.pointer Bv],d,?_,?_,?_,?_,(fun h=>(by cases h)),?_⟩
 rw[<-i,f];exact run_enterLoop_outer _ _ _ _ _;simp only[resolve,K];simp[go_sem];intro i _;trivial;exact(by rfl)
 ·refine(NL _ _ Bp Bs Bv s N
   (fun k W=>I k W/\W.heap[w.heap.size+1]?=some (.loop (b .ready none))/\W.heap[w.heap.size]?=some (.deferred (some [])))
   (fun k W=>∃c,Ix c k W/\W.heap[w.heap.size+1]?=some (.loop (b .done c))/\W.heap[w.heap.size]?=some (.deferred (some [])))
   (fun k W v h=>⟨y k W v h.1,(gq _ _ _ _ (by show w+1≠Bs;omega)).Z h.2.1,(gq _ _ _ _ (by show w≠Bs;omega)).Z h.2.2⟩)
   ?_ d m M R ⟨r,B,z⟩).zz ?_
  ·rintro k x W j ⟨q,i,r⟩
   have h:=(iJ.1 i).1;have d:=run_yield (P:=prog) (args:=#[.string ⟨x.toArray⟩]) i (by rw[f];rfl);rw[f]at d;refine⟨fn,_,assign,body,d,roundIn_of_wpIn J ?_⟩;clear d;apply C _ x W _;refine⟨_,run_beginRound i (by rw[f]),?_⟩;have C:(W.putObj (w+1) (.loop {b .ready none with state:=.busy})).heap[w.heap.size+1]?=some (.loop {b .ready none with state:=.busy}):=wP h;have B:(W.putObj (w+1) (.loop {b .ready none with state:=.busy})).heap[w.heap.size]?=some (.deferred (some [])):=(eK ad).Z r;have y:nU Bp Bs Bv W (W.putObj (w.heap.size+1) (.loop {b .ready none with state:=.busy})):=Fu ad ad ad;apply wpIn_mono (D _ k x _ j (u _ _ _ _ ad ad q) aO);rintro e d j m;have z:∀(d:Option Code),xS Bp Bs Bv w.heap.size (W.putObj (w.heap.size+1) (.loop {b .ready none with state:=.busy})) j->
    (Instr.endRound (w.heap.size+1) d).run prog j=.ok (.bool d.isNone) (j.putObj (w.heap.size+1) (.loop (b (if d.isNone then .ready else .done) d)))/\
    (j.putObj (w.heap.size+1) (.loop (b (if d.isNone then .ready else .done) d))).heap[w.heap.size+1]?=some (.loop (b (if d.isNone then .ready else .done) d))/\
    (j.putObj (w.heap.size+1) (.loop (b (if d.isNone then .ready else .done) d))).heap[w.heap.size]?=some (.deferred (some []))/\nU Bp Bs Bv W (j.putObj (w.heap.size+1) (.loop (b (if d.isNone then .ready else .done) d))):=fun d h=>by
    have b:=h.d1.Z C;have:=run_endRound (P:=prog) d b;rw[f]at this⊢;exact⟨this,wP (iJ.1 b).1,(eK ad).Z (h.d0.Z B),(y.Z h.boxes).Z (Fu ad ad ad)⟩
   cases e with
   |normal=>
    obtain⟨h,b⟩:=m;have⟨y,j,d,B⟩:=z none h;exact⟨_,_,y,.inl ⟨rfl,⟨u _ _ _ _ ad ad b,j,d⟩,B⟩⟩
   |exit id=>
    obtain⟨h,b⟩:=m;have⟨y,j,d,B⟩:=z (some (.exit id)) h;exact⟨_,_,y,.inr ⟨rfl,_,A _ _ _ _ _ ad ad b,j,d⟩⟩
   |ret=>exact m.elim
   |goto t=>exact m.elim
   |panic b=>exact m.elim
   |outgrown=>exact m.elim
  rintro e b ⟨⟨v,rfl⟩,(⟨q,i,r⟩|⟨k,c,q,i,r⟩)⟩;exact⟨none,_,by have:=run_endLoop (P:=prog) i (by rw[f];simp);rwa[f]at this,H _ (u _ _ _ _ ad ad q) ((eK ad).Z r)⟩;exact⟨c,_,by have:=run_endLoop (P:=prog) i (by rw[f];simp);rwa[f]at this,O c k _ (A _ _ _ _ _ ad ad q) ((eK ad).Z r)⟩
open Go.RowKit Go.Shelf
attribute [local go_sem] wO
structure m9(w:World)(B:Nat)(v:Value)(xs:List ai):Prop where
 row:w.ownsRow B 55 6 v xs.length (xs.flatMap typeRow)
 each:∀x∈xs,lE w B x
def uP(r:List aB×Nat×Int)(w:World)(e:Ending)(w':World):Prop:=
 ∃xs o c,xs.map ai.t=r.1/\e=.returned (.tuple #[.agg #[.slice o xs.length c],.int .i64 r.2.1,.int .i64 r.2.2])/\cw w' o c xs/\aR w w'
def NP(s:Bytes) w:de 58 #[s,.string ⟨#[10]⟩,.int .i64 0] w (.func (.func 96) #[] #[.pointer (some ⟨w+1,0,none⟩),w,.pointer (some ⟨w+2,0,none⟩)]) fun w'=>w'=kh w [.cells #[s] 9,.cells #[.string ⟨#[10]⟩] 9,.cells #[.int .i64 0] 3]:=by
 go_in
 go_wp2
 go_ret;exact⟨rfl,rfl⟩
def NQ(s:Bytes) w:de 39 #[s,.string ⟨#[10]⟩] w (.func (.func 96) #[] #[.pointer (some ⟨w+1,0,none⟩),w,.pointer (some ⟨w+2,0,none⟩)]) fun w'=>w'=kh w [.cells #[s] 9,.cells #[.string ⟨#[10]⟩] 9,.cells #[.int .i64 0] 3]:=by
 have a:=NP s w
 go_in
 go_wp2_with fail
 refine ar a ?_;rintro w' rfl
 go_wp2
 go_ret;simp
structure gE(H:Nat)(w0 W:World)(k q:Nat)(v:Value)(xs:List ai):Prop where
 res:W.heap[H]?=some (.cells #[.slice none 0 0] 24 (0,0))
 sch:W.heap[H+1]?=some (.cells #[v] 24 (0,0))
 num:W.heap[H+1+1]?=some (.cells #[.int .i64 (k:Nat)] 3 (0,0))
 wr:W.heap[H+1+1+1]?=some (.cells #[.int .i64 (q:Nat)] 3 (0,0))
 own:m9 W (H+9) v xs
 O:Below H w0 W
 size:H+7<=W.heap.size
 lims:∀x∈xs,pS 65536 x.t
 few:xs.length<=k
structure Rd(H:Nat)(W W':World):Prop where
 size:W.heap.size<=W'.heap.size
 J:∀j,H+4<=j->j<H+9->W'.heap[j]?=W.heap[j]?
def Rd.Z{H:Nat}{a b c:World}(d:Rd H a b)(k:Rd H b c):Rd H a c:=⟨aW d.size k.size,fun j e f=>(k.J j e f).Z (d.J j e f)⟩
def Rd.of{H:Nat}{W W':World}(a:Below W.heap.size W W')(c:H+9<=W.heap.size):Rd H W W':=⟨a.size,fun j _ b=>a.J j ad⟩
def m9.zw{w w':World}{d:Nat}{v:Value}{xs:List ai}{row:Option Nat}(a:m9 w d v xs)(f:w.grownBy w' row)(h:∀k,row=some k->k<d):m9 w' d v xs:=
 ⟨cm a.row f (by cases e:v.ownBlock with|none=>simp|some g=>exact .inr (fun b=>by have:=(aY a.row g e).1;have:=h g b.zy;omega)),
  fun x c=>⟨cm (a.each x c).1 f (by cases e:(Value.slice x.ao x.t.zx x.ac).ownBlock with|none=>simp|some g=>exact .inr (fun b=>by have:=(aY (a.each x c).1 g e).1;have:=h g b.zy;omega)),
   cm (a.each x c).2 f (by cases e:(Value.slice x.no x.t.E x.nc).ownBlock with|none=>simp|some g=>exact .inr (fun b=>by have:=(aY (a.each x c).2 g e).1;have:=h g b.zy;omega))⟩⟩
def rm{w w'}(a:aR w w'):w.grownBy w' none:=⟨a.os,a.tape,a.output,a.size,fun k b _=>a.J k b⟩
def gE.grow{H:Nat}{c W W':World}{k q:Nat}{v:Value}{xs:List ai}(a:gE H c W k q v xs)(b:Below W.heap.size W W'):gE H c W' k q v xs:=
 ⟨(b.J _ (aS a.res)).Z a.res,(b.J _ (aS a.sch)).Z a.sch,(b.J _ (aS a.num)).Z a.num,(b.J _ (aS a.wr)).Z a.wr,a.own.zw (rm b) (fun k e=>by cases e),a.O.Z (b.zz (aQ a.size)),aW a.size b.size,a.lims,a.few⟩
def uQ(W:World) b v:W.grownBy (W.setCell ⟨b,0,none⟩ v) b:=⟨rfl,rfl,rfl,by simp,fun k c a=>gq _ _ _ _ (fun e=>a (by rw[e]))⟩
def xT{W:World}{b t:Nat}{v} u(a:W.heap[b]?=some (.cells #[v] t (0,0))):(W.setCell b u).heap[b]?=some (.cells #[u] t (0,0)):=by
 have c:=aS a;have d:W.heap[b]=.cells #[v] t (0,0):=by simpa[pl c]using a
 show(W.heap.modify b _)[b]?=_
 rw[pl (by simpa using c),zD,d];rfl
def Rd.set(H:Nat)(W:World)(b:Nat)(v:Value)(d:b<H+4):Rd H W (W.setCell ⟨b,0,none⟩ v):=⟨by simp,fun j a c=>gq _ _ _ _ (by show j≠b;omega)⟩
def gE.setNum{H:Nat}{c W:World}{k q:Nat}{v:Value}{xs:List ai}(a:gE H c W k q v xs)(n:Nat)(f:k<=n)(u:Value)(g:u=.int .i64 (n:Nat)):gE H c (W.setCell ⟨H+1+1,0,none⟩ u) n q v xs:=by subst g;have b:∀j,j≠H+1+1->(W.setCell ⟨_,0,none⟩ (.int .i64 n)).heap[j]?=W.heap[j]?:=fun j d=>gq _ _ _ _ d;exact⟨(b _ ad).Z a.res,(b _ ad).Z a.sch,xT _ a.num,(b _ ad).Z a.wr,a.own.zw (uQ W _ _) (fun k e=>by cases e;omega),a.O.setCell (by show H<=H+1+1;omega) _,by simpa using a.size,a.lims,aW a.few f⟩
def gE.setWr{H:Nat}{c W:World}{k q:Nat}{v:Value}{xs:List ai}(a:gE H c W k q v xs)(n:Nat):gE H c (W.setCell ⟨H+1+1+1,0,none⟩ (.int .i64 (n:Nat))) k n v xs:=by have b:∀j,j≠H+1+1+1->(W.setCell ⟨_,0,none⟩ (.int .i64 n)).heap[j]?=W.heap[j]?:=fun j d=>gq _ _ _ _ d;exact⟨(b _ ad).Z a.res,(b _ ad).Z a.sch,(b _ ad).Z a.num,xT _ a.wr,a.own.zw (uQ W _ _) (fun k e=>by cases e;omega),a.O.setCell (by show H<=H+1+1+1;omega) _,by simpa using a.size,a.lims,a.few⟩
def gE.box{H:Nat}{d W:World}{k q:Nat}{v:Value}{xs:List ai}(a:gE H d W k q v xs)(b:Nat)(g:H+4<=b)(h:b<H+9)(u:Value):gE H d (W.setCell ⟨b,0,none⟩ u) k q v xs:=by have c:∀j,j≠b->(W.setCell b u).heap[j]?=W.heap[j]?:=fun j f=>gq _ _ _ _ f;exact⟨(c _ ad).Z a.res,(c _ ad).Z a.sch,(c _ ad).Z a.num,(c _ ad).Z a.wr,a.own.zw (uQ W _ _) (fun k e=>by cases e;omega),a.O.setCell (by show H<=b;omega) _,by simpa using a.size,a.lims,a.few⟩
def gE.put{H:Nat}{f W:World}{k q:Nat}{v:Value}{xs:List ai}(a:gE H f W k q v xs)(b:Nat)(h:H+4<=b)(i:b<H+9)(o:Obj):gE H f (W.putObj b o) k q v xs:=by have c:∀j,j≠b->(W.putObj b o).heap[j]?=W.heap[j]?:=fun j d=>eK d;exact⟨(c _ ad).Z a.res,(c _ ad).Z a.sch,(c _ ad).Z a.num,(c _ ad).Z a.wr,a.own.zw (row:=b) ⟨rfl,rfl,rfl,aj,fun k l g=>c k (fun e=>g (by rw[e]))⟩ (fun k e=>by cases e;omega),⟨a.O.os,a.O.tape,a.O.output,by simpa using a.O.size,fun j d=>(c j ad).Z (a.O.J j d)⟩,by simpa using a.size,a.lims,a.few⟩
def xU{W:World}{b t:Nat}{v}(a:W.heap[b]?=some (.cells #[v] t (0,0))):W.frozen? b=false:=by simp[World.frozen?,a]
def Fv{w:World}{B B' e size n v xs}(b:w.ownsRow B e size v n xs)(h:B'<=B):w.ownsRow B' e size v n xs:=by
 refine⟨b.1,?_⟩;rcases b.2 with a|⟨g,cap,c,d,a,f⟩
 exact .inl a;exact .inr ⟨g,cap,c,d,aW h a,f⟩
def lE.lower{w:World}{a B':Nat}{y:ai}(b:lE w a y)(c:B'<=a):lE w B' y:=⟨Fv b.1 c,Fv b.2 c⟩
def lE.grow{w w':World}{b:Nat}{y:ai}(c:lE w b y)(d:Below w.heap.size w w'):lE w' b y:=⟨cm c.1 (rm d) (by cases e:(Value.slice y.ao y.t.zx y.ac).ownBlock with|none=>simp|some g=>exact .inr (fun a=>by cases a)),cm c.2 (rm d) (by cases e:(Value.slice y.no y.t.E y.nc).ownBlock with|none=>simp|some g=>exact .inr (fun a=>by cases a))⟩
def m9.add{w w':World}{b:Nat}{v f:Value}{xs:List ai}{y:ai}(d:m9 w b v xs)(h:lE w b y)(e:w.grownBy w' v.ownBlock)(g:w'.ownsRow b 55 6 f (xs.length+1) (xs.flatMap typeRow++typeRow y)):m9 w' b f (xs++[y]):=by
 refine⟨by rw[ck,qA];simpa using g,fun x a=> ?_⟩;have c:lE w b x:=by
  rcases dk.1 a with a|a
  exact d.each x a;simp at a;subst a;exact h
 exact⟨cm c.1 e (jj c.1 d.row aq),cm c.2 e (jj c.2 d.row aq)⟩
def gE.far{H:Nat}{d W W':World}{k q:Nat}{v:Value}{xs:List ai}(a:gE H d W k q v xs)(b:W.grownBy W' v.ownBlock)(j:Nat)(f:j<H+9)(c:j<W.heap.size):W'.heap[j]?=W.heap[j]?:=
 b.J j c (fun e=>by have:=(aY a.own.row j e.zy).1;omega)
def gE.add{H:Nat}{i W W':World}{k q:Nat}{v g:Value}{xs:List ai}{y:ai}(a:gE H i W k q v xs)(r:lE W (H+9) y)(b:W.grownBy W' v.ownBlock)(m:W'.ownsRow (H+9) 55 6 g (xs.length+1) (xs.flatMap typeRow++typeRow y))(p:pS 65536 y.t)(o:xs.length+1<=k)(u:H+9<=W.heap.size):
 gE H i (W'.setCell ⟨H+1,0,none⟩ g) k q g (xs++[y])/\Rd H W (W'.setCell ⟨H+1,0,none⟩ g):=by
 have h:∀j,j≠H+1->(W'.setCell ⟨_,0,none⟩ g).heap[j]?=W'.heap[j]?:=fun j f=>gq _ _ _ _ f;have c:=fun j f=>a.far b j f ad;have s:=a.own.add r b m;have n:Below H i W':=⟨b.os.Z a.O.os,b.tape.Z a.O.tape,b.output.Z a.O.output,aW a.O.size b.size,fun j f=>(c j ad).Z (a.O.J j f)⟩;exact⟨⟨(h _ ad).Z ((c _ ad).Z a.res),xT _ ((c _ ad).Z a.sch),(h _ ad).Z ((c _ ad).Z a.num),(h _ ad).Z ((c _ ad).Z a.wr),s.zw (uQ W' _ _) (fun k e=>by cases e;omega),n.setCell (by show H<=H+1;omega) _,by have:=b.size;simp;omega,fun x d=>by
  rcases dk.1 d with d|d
  exact a.lims x d;simp at d;subst d;exact p,ck▸o⟩,
  ⟨by have:=b.size;simp;omega,fun j t l=>(h j ad).Z (c j l)⟩⟩
def pS.zz{n m:Nat}{t:aB}(b:pS n t)(c:n<=m):pS m t:=⟨aW b.name c,aW b.zv c,aW b.key c,aW b.zx c,fun a d=>aW (b.attr a d) c,fun a d=>aW (b.sym a d) c⟩
def PI(H:Nat)(a:World)(L:List Bytes)(k:Nat)(W:World):Prop:=∃o c xs,gE H a W k 0 (.slice o xs.length c) xs/\Hid (fd 0 [] L=fd k (xs.map ai.t) (L.drop k))
def PX(H:Nat)(a:World)(L:List Bytes)(c:Code)(k:Nat)(W:World):Prop:=c=.exit 0/\1<=k/\k<=L/\∃v xs,gE H a W k k v xs/\(fd 0 [] L).2=k
def PI.box{H:Nat}{a W:World}{L:List Bytes}{k:Nat}(d:PI H a L k W)(b:Nat)(e:H+4<=b)(f:b<H+9)(u:Value):PI H a L k (W.setCell ⟨b,0,none⟩ u):=by obtain⟨o,c,xs,h,g⟩:=d;exact⟨o,c,xs,h.box b e f u,g⟩
def PI.put{H:Nat}{a W:World}{L:List Bytes}{k:Nat}(d:PI H a L k W)(b:Nat)(e:H+4<=b)(f:b<H+9)(u:Obj):PI H a L k (W.putObj b u):=by obtain⟨o,c,xs,h,g⟩:=d;exact⟨o,c,xs,h.put b e f u,g⟩
def PI.grow{H:Nat}{a W W':World}{L:List Bytes}{k:Nat}(b:PI H a L k W)(d:Below W.heap.size W W'):PI H a L k W':=by obtain⟨o,c,xs,f,e⟩:=b;exact⟨o,c,xs,f.grow d,e⟩
def PX.put{H:Nat}{a W:World}{L:List Bytes}{c:Code}{k:Nat}(g:PX H a L c k W)(b:Nat)(h:H+4<=b)(i:b<H+9)(u:Obj):PX H a L c k (W.putObj b u):=by obtain⟨e,d,f,v,xs,l,j⟩:=g;exact⟨e,d,f,v,xs,l.put b h i u,j⟩
def Fw{k acc x r}(a:pL x=false):fd k acc (x::r)=fd (k+1) acc r:=by
 conv=>lhs;unfold fd
 rw[ap (by simp[a])]
def NR{k acc x r t}(a:pL x=true)(b:oL x=some t):fd k acc (x::r)=fd (k+1) (acc++[t]) r:=by
 conv=>lhs;unfold fd
 rw[au a,b]
def NS{k acc x r}(a:pL x=true)(b:oL x=none):fd k acc (x::r)=(acc,k+1):=by unfold fd;rw[au a,b]
def Fx{L:List Bytes}{k x}(a:L[k]?=some x):L.drop k=x::L.drop (k+1):=by obtain⟨b,e⟩:=aF.1 a;rw[mT b,e]
def NT:(prog.info? 55).map (fun i=>(i.zero,i.size,i.bytes))=(some pR,6,104):=az
def xW{H W W'}(a:Rd H W W'):xS (H+1+1+1+1+1) (H+1+1+1+1) (H+1+1+1+1+2) (H+7) W W':=
 ⟨a.size,⟨a.J _ ad ad,a.J _ ad ad,a.J _ ad ad⟩,a.J _ ad ad,a.J _ ad ad⟩
def NU{w W0 s}(e:W0=kh ((((w.alloc (Obj.cells #[Value.slice none 0 0] 24)).alloc (Obj.cells #[Value.slice none 0 0] 24)).alloc (Obj.cells #[Value.int IntKind.i64 0] 3)).alloc (Obj.cells #[Value.int IntKind.i64 0] 3)) [.cells #[.string ⟨s.toArray⟩] 9,.cells #[.string ⟨#[10]⟩] 9,.cells #[.int .i64 0] 3]):
 W0.heap.size=w.heap.size+7/\gE w.heap.size w W0 0 0 () []/\m8 W0 (w+1+1+1+1+1) (w+1+1+1+1) (w+1+1+1+1+2) s:=by
 obtain⟨os,a⟩:∃os:List Obj,os=[.cells #[.slice none 0 0] 24,.cells #[.slice none 0 0] 24,.cells #[.int .i64 0] 3,.cells #[.int .i64 0] 3,.cells #[s] 9,.cells #[.string ⟨#[10]⟩] 9,.cells #[.int .i64 0] 3]:=⟨_,rfl⟩;have c:W0=kh w os:=by rw[e,a];rfl
 have b:∀i,i<7->W0.heap[w.heap.size+i]?=os[i]?:=fun i g=>by rw[c];exact Aq w os i (a▸g)
 have h:W0=w.heap.size+7:=by rw[c,As,a];rfl
 have f:aR w W0:=by rw[c];exact Ar _ _
 refine⟨h,⟨(b 0 ad).Z (by rw[a];rfl),(b 1 ad).Z (by rw[a];rfl),(b 2 ad).Z (by rw[a];rfl),(b 3 ad).Z (by rw[a];rfl),⟨cW _ _ _ _,fun x d=>by simp at d⟩,f,ad,fun x d=>by simp at d,ay _⟩,⟨(b 5 ad).Z (by rw[a];rfl),(b 4 ad).Z (by rw[a];rfl),(b 6 ad).Z (by rw[a];rfl)⟩⟩
def NV{x}(d:x.all gu=false):∃c t,bh x=c::t:=by
 cases e:bh x with
 |cons c t=>simp
 |nil=>
  have f:x.all gu=true:=by
   unfold bh at e;clear d;induction x with
   |nil=>rfl
   |cons a r ih=>
    rw[List.dropWhile_cons]at e;by_cases b:gu a=true;rw[au b]at e;rw[List.all_cons,b,ih e];rfl;rw[ap b]at e;cases e
  rw[d]at f;cases f
def NW{x t:Bytes}{c}(a:x.all gu=false)(e:bh x=c::t):pL x= !(c==35):=by unfold pL;rw[a,e];simp[bne]
def NX{c:UInt8}(a:(c==35)=true):((c.toNat:Int)==35)=true:=by have:=eq_of_beq a;subst this;rfl
def NY{c:UInt8}(a:(c==35)=false):((c.toNat:Int)==35)=false:=by
 have b:c≠35:=fun e=>by rw[e]at a;exact absurd a aq
 simp only[dF,ne_eq];intro d;exact b (wM.1 (by show c.toNat=35;omega))
def AV{W:World}{H t:Nat}{v}(a:W.heap[H]?=some (.cells #[v] t (0,0))) u o:((W.setCell H u).putObj (H+7) o).heap[H]?=some (.cells #[u] t (0,0)):=
 (eK ad).Z (xT u a)
def NZ{W H v xs}(a:m9 W (H+9) v xs) u o:m9 ((W.setCell H u).putObj (H+7) o) (H+9) v xs:=
 (a.zw (uQ W H u) (fun k e=>by cases e;omega)).zw (row:=some (H+7)) ⟨rfl,rfl,rfl,aj,fun k c b=>eK (fun e=>b (by rw[e]))⟩ (fun k e=>by cases e;omega)
def Fy{w W H}(b:Below H w W) u o:Below H w ((W.setCell H u).putObj (H+7) o):=by have a:=b.setCell (p:=H) (ay _) u;exact⟨a.os,a.tape,a.output,by simpa using a.size,fun j c=>(eK ad).Z (a.J j c)⟩
def N0{w W H}(b:Below H w W) u o:Below H w (((W.setCell H u).drew).putObj (H+7) o):=by have a:=(b.setCell (p:=H) (ay _) u).drew;exact⟨a.os,a.tape,a.output,by simpa using a.size,fun j c=>(eK ad).Z (a.J j c)⟩
def oM{w B e size n o c xs}(f:w.ownsRow B e size (.slice o n c) n xs):cn w o n c size xs:=by
 refine⟨f.1,?_⟩;rcases f.2 with⟨a,m⟩|⟨g,cap,d,a,_,i,q,r,y,s⟩
 injection a with a p b
 subst m;subst b;simp;injection a with a p b
 subst b;subst a;refine⟨q,r,fun _=>⟨g,0,rfl,aS i,fun j u l=> ?_⟩⟩;rw[<-s]at l;have t:d.toList[j]?=some u:=by obtain⟨x,h⟩:=aF.1 l;rw[List.getElem_take]at h;exact aF.2 ⟨by rw[eh]at x;omega,h⟩
 rw[cH];have v:d[j]?=u:=by rw[<-Array.getElem?_toList];exact t
 simp[World.cell?,i,v]
def Fz{w B o c xs}(a:m9 w B (.slice o xs.length c) xs):cw w o c xs:=
 ⟨oM a.row,fun x b=>⟨oM (by have:=(a.each x b).1;unfold bN at this;exact this),oM (by have:=(a.each x b).2;unfold dg at this;exact this)⟩⟩
def FA{xs}(c:∀x∈xs,pS 65536 x.t)(e:xs.length<=1048576):ep xs:=
 ⟨e,fun x b=>aW (c x b).name ad,fun x b=>aW (c x b).zv ad,fun x b=>aW (c x b).key ad,fun x b=>aW (c x b).zx ad,fun x b a d=>aW ((c x b).attr a d) ad,fun x b a d=>aW ((c x b).sym a d) ad⟩
def FC{w w' r}(a:r.1=[])(b:aR w w'):uP r w (.returned (.tuple #[.agg #[.slice none 0 0],.int .i64 r.2.1,.int .i64 r.2.2])) w':=
 ⟨[],none,0,a.zy,rfl,⟨⟨rfl,ay _,by unfold maxLen;simp,fun a=>by simp at a⟩,fun x c=>by simp at c⟩,b⟩
def N1{s w w' R L xs o c H n}(d:R=nR s)(j:s.length<=65536)(b:L=dW s)(f:fd 0 [] L=fd n (xs.map ai.t) [])(a:bY (xs.map ai.t)=0)(i:m9 w' H (.slice o xs.length c) xs)(h:aR w w'):
 uP R w (.returned (.tuple #[.agg #[.slice o xs c],.int .i64 0,.int .i64 0])) w':=by
 have g:fd 0 [] (dW s)=(xs.map ai.t,0):=by rw[<-b,f];unfold fd;rfl
 have e:R=(xs.map ai.t,0,0):=by rw[d];unfold nR;rw[ap ad,g,ap aj,ap (by simp[a])]
 exact⟨xs,o,c,by rw[e],by rw[e];rfl,Fz i,h⟩
def N3{s w w' R L}{xs:List ai}{n}(c:R=nR s)(h:s.length<=65536)(b:L=dW s)(d:fd 0 [] L=fd n (xs.map ai.t) [])(a:¬bY (xs.map ai.t)=0)(g:aR w w'):
 uP R w (.returned (.tuple #[.agg #[.slice none 0 0],.int .i64 0,.int .i64 (bY (xs.map ai.t))])) w':=by
 have f:fd 0 [] (dW s)=(xs.map ai.t,0):=by rw[<-b,d];unfold fd;rfl
 have e:R=([],0,bY (xs.map ai.t)):=by rw[c];unfold nR;rw[ap ad,f,ap aj,au a]
 rw[e];exact FC rfl g
def N6{s w w' R L k}(b:R=nR s)(g:s.length<=65536)(a:L=dW s)(c:(fd 0 [] L).2=k)(f:1<=k)(d:aR w w'):
 uP R w (.returned (.tuple #[.agg #[.slice none 0 0],.int .i64 k,.int .i64 12])) w':=by
 have e:R=([],k,12):=by rw[b];unfold nR;rw[ap ad,<-a,c,au ad]
 rw[e];exact FC rfl d
def N9 s w(V:s.length<=65536)(g:fD s):
 dB 18 #[s] w (uP (nR s) w):=by
 obtain⟨a,M⟩:=am (nR s);rw[<-M];have f:decide ((s:Int)>65536)=false:=bU;have a:=NQ s;refine(lh (n:=9)).1 (KH func18 rfl trivial ?_ rfl);apply zO.2;simp only[ntmps18,Dd,ef,gN,De,Df,Dg,Dh,qE,jK];go_wp2_with fail
 go_step3
 go_wp2_with fail
 go_step3
 go_wp2_with fail
 refine ar (a _) ?_;rintro w1 rfl;clear a;go_wp2_with fail
 obtain⟨af,N⟩:=am (kh ((((w.alloc (Obj.cells #[Value.slice none 0 0] 24)).alloc (Obj.cells #[Value.slice none 0 0] 24)).alloc (Obj.cells #[Value.int IntKind.i64 0] 3)).alloc (Obj.cells #[Value.int IntKind.i64 0] 3)) [.cells #[s] 9,.cells #[.string ⟨#[10]⟩] 9,.cells #[.int .i64 0] 3]);obtain⟨j,S,Q⟩:=NU N;rw[<-N];have r:=NI s;have⟨L,p⟩:=am (dW s);refine(zO).1 (NO 9 _ _ _ s V rfl Q ad ad (PI w w L) (PX w w L)
  (fun k W o a=>a.grow aP) (fun k W l o aa ag a=>a.put l ad ad o) (fun c k W l o aa ag a=>a.put l ad ad o) (fun k W v a=>a.box _ ad ad v) ⟨none,0,[],S,rfl⟩ ?a1 ?assign ?body ?done ?stop)
 case assign=>
  intro l x W a B
  gi_wp2
  exact B
 case body=>
  intro l k x W b R a;rw[<-p]at b r;obtain⟨o,c,xs,a,q⟩:=R;have C:=r.2 x (aK b);have h:=(aF.1 b).1;have h:=r.1;have an:x.length<=65536:=ad;have E:fD x:=fun d f=>g d (C.2 d f);have Z:=ak 0 a.num;have f6:W.frozen? ⟨w.heap.size+1+1,0,none⟩=false:=by have:=a.num;simp[World.frozen?,this]
  have g:=fun w1=>Ad ⟨x.toArray⟩ w1 (by rw[jS];omega);rw[show iZ ll (⟨_⟩:ByteArray).data.toList=x.all gu from rfl]at g;have h:=Fx b;have m:Hid (fd 0 [] L=fd k (xs.map ai.t) (x::L.drop (k+1))):=by show _=_;rw[<-h];exact q.out
  have A:IntKind.i64.wrap (k+1)=k+1:=ox _ ad;have i:=a.setNum (k+1) ad (.int .i64 (k+1)) aD;have f:=Rd.set w W (w+1+1) (.int .i64 (k+1)) ad;have u:w.heap.size+9<=(W.setCell ⟨w.heap.size+1+1,0,none⟩ (.int .i64 ((k:Int)+1))).heap.size:=by simp only[World.setCell,Array.size_modify];omega
  have⟨J,D,X⟩:=bm p r (And.intro i (And.intro f u));clear i f u q h p r b C N Q S
  gi_wp2
  refine⟨trivial,?_⟩;apply(Dj l (lh.2 (g _))).zz;rintro e a5 ⟨rfl,h⟩;have f:=X.out.1.grow h;have H:=X.out.2.1.Z (Rd.of h X.out.2.2);have O:=aW X.out.2.2 h.size;clear g Z f6 X A;cases D:x.all gu with
  |true=>
   have i:pL x=false:=by unfold pL;rw[D];rfl
   have b:=m.o;rw[Fw i]at b;have u:=ah b;clear b m D i
   gi_wp2
   refine⟨trivial,?_⟩
   gi_wp2
   rw[j];exact⟨xW H,o,c,xs,f,u.o⟩
  |false=>
   have T:=fun w1=>Nx x w1 an E;have⟨K,t1,I⟩:=NV D;have i:=NW D I;have g:=Fd x;rw[I]at g;cases E:(K==35)with
   |true=>
    rw[E]at i;have b:=m.o;rw[Fw i]at b;have u:=ah b;have P:0<(⟨(K::t1)⟩:ByteArray).size:=by rw[jS];simp
    have Y:((((⟨_⟩:ByteArray)[0]'P).toNat:Int)==35)=true:=NX E;clear b m D i I E T
    gi_wp2
    refine⟨trivial,?_⟩;apply(Dj l (lh.2 (g _))).zz;rintro e ao ⟨rfl,C⟩;have G:=f.grow C;have F:=H.Z (Rd.of C O);clear g
    gi_wp2
    rw[j];exact⟨xW F,o,c,xs,G,u.o⟩
   |false=>
    rw[E]at i;have P:0<(⟨(K::t1)⟩:ByteArray).size:=by rw[jS];simp
    have Y:((((⟨_⟩:ByteArray)[0]'P).toNat:Int)==35)=false:=NY E;have ae:=ah i;clear D i I E
    gi_wp2
    refine⟨trivial,?_⟩;apply(Dj l (lh.2 (g _))).zz;rintro e ao ⟨rfl,C⟩;have G:=f.grow C;have F:=H.Z (Rd.of C O);have I:=aW O C.size;clear g f H O h C
    gi_wp2
    refine⟨trivial,?_⟩;apply(Dj l (lh.2 (T _))).zz;rintro e E Y;clear T;cases D:oL x with
    |none=>
     rw[D]at Y;obtain⟨O,i⟩:=Y;unfold pR at O;subst O;have b:=m.o;rw[NS ae.o D]at b;have P:=G.grow i;have T:=F.Z (Rd.of i I);have u:=ah b;clear b D m G F;have C:=P.grow ((aA _ E).alloc (ay _) (.cells #[.string ⟨#[]⟩,.string ⟨#[]⟩,.slice none 0 0,.string ⟨#[]⟩,false,.slice none 0 0] 55));have av:=T.Z (Rd.of ((aA _ E).alloc (ay _) (.cells #[.string ⟨#[]⟩,.string ⟨#[]⟩,.slice none 0 0,.string ⟨#[]⟩,false,.slice none 0 0] 55)) (aW I i.size));have Z:=ak 0 C.num;have Z:=ak 0 C.wr;have f7:=xU C.wr
     gi_wp2
     rw[j];have H:=C.setWr (k+1);refine⟨xW (av.Z (Rd.set _ _ _ _ ad)),rfl,ad,ad,_,xs,H,?_⟩;have:=u.o;rw[this]
    |some t=>
     rw[D]at Y;obtain⟨⟨y,ab,O,al⟩,i⟩:=Y;unfold dV typeRow at O;subst O;have b:=m.o;rw[NR ae.o D,<-ab]at b;have g:=NH D;rw[<-ab]at g;have g:=g.zz an;have P:=G.grow i;have T:=F.Z (Rd.of i I);have u:=ah b;clear b D m ab G F;have⟨a4,O,a0,a2,a3⟩:=cZ NT;have m:=a.few;have F:=al.lower I;have D:=aW I i.size;clear al i I a;have C:=P.grow ((aA _ E).alloc (ay _) (.cells (me y) 55));have m:=ak 0 C.sch;have i:aR E (cT (E.alloc (.cells (me y) 55)) (me y) 55):=aP.alloc aj _;have H:=P.grow i;have I:=T.Z (Rd.of i D);have Y:=F.grow i;have D:((E.alloc (.cells (me y) 55)).alloc (.cells (me y) 55))=E.heap.size+2:=aj;have aw:=H.own.row;clear P T F C i
     gi_wp2_with (first
      |(gi_at_builtin;go_must (refine wpListIn_append_own _ rfl _ _ 22 rfl _ 55 a4 pR 6 104 underlying22 O a0 a2 a3 rfl aq _ _ _ rfl aw _ 1 1 _ rfl rfl (eq _ (typeRow y) _ _ aj) (fun z F=>by simp[typeRow]at F;rcases F with rfl|rfl|rfl|rfl|rfl|rfl<;>rfl) bO ad (by rw[D];omega) ?_);intro a6 ao E C T;obtain⟨P,G,rfl⟩:=dR E;have i:=(H.far C _ ad (by rw[D];omega)).Z H.sch;have f5:=xU i;have m:=ak 0 i;clear i)
      |fail)
     rw[j];obtain⟨F,i⟩:=H.add Y C E g ad (by rw[D];omega);refine⟨xW (I.Z i),P,G,xs++[y],?_,?_⟩;rw[ck];exact F;have:=u.o;rw[gL];exact this
 case done=>
  intro W R B;rw[<-p]at R r;obtain⟨o,c,xs,a,q⟩:=R;have b:=q.out;rw[Dk]at b;have Z:=ak 0 a.wr;have m:=ak 0 a.sch;have⟨g,i,J⟩:=bm M b p;clear M b q p N Q S;have b:=Fz a.own;have C:=FA a.lims (jO a.few r.1);have K:=ak 0 a.res;go_wp2_with fail
  refine ar (At xs o c W b C) ?_;intro a5 h;have f:=a.grow h;have u:=b.O h;have u:=(h.J _ (aS B)).Z B;have d5:=ak 0 f.sch;have d1:=ak 0 f.res;have f1:=xU f.res;clear Z m K b C a B h;by_cases b:bY (xs.map ai.t)=0;have h:=ah b;rw[b];clear b;go_wp2_with fail
  refine⟨aj,.inl ⟨_,_,rfl,Dl (j▸(gq _ _ _ _ (by show af.heap.size≠w.heap.size;omega)).Z u),?_⟩⟩;have A:=ak 0 (AV f.res (.slice o xs c) (.deferred none));refine⟨.tuple #[.agg #[.slice o xs c],.int .i64 0,.int .i64 0],by simp[results,go_sem,A],?_⟩;exact N1 g.o V J.o i.o h.o (NZ f.own _ _) (Fy f.O _ _);have h:=ah b;go_wp2_with fail
  refine⟨aj,.inl ⟨_,_,rfl,Dl (j▸(gq _ _ _ _ (by show af.heap.size≠w.heap.size;omega)).Z u),?_⟩⟩;have A:=ak 0 (AV f.res () (.deferred none));refine⟨.tuple #[.agg #[.slice none 0 0],.int .i64 0,.int .i64 (bY (xs.map ai.t))],by simp[results,go_sem,A],?_⟩;exact N3 g.o V J.o i.o h.o (Fy f.O _ _)
 case stop=>
  intro c k W b B;obtain⟨rfl,aa,ag,v,xs,a,q⟩:=b;have Z:=ak 0 a.wr;have⟨g,i,J⟩:=bm M q p;clear M q p N Q S r;apply zO.2;go_wp2_with fail
  have d1:=ak 0 a.res;have f1:=xU a.res;go_region
  go_wp2_with fail
  refine⟨aj,.inl ⟨_,_,rfl,Dl (j▸(gq _ _ _ _ (by show w.heap.size+7≠w.heap.size;omega)).Z (by rw[<-j];exact B)),?_⟩⟩;rw[j];have A:(((W.setCell _ ()).drew).putObj (w+7) (.deferred none)).cell? _=#[Value.slice none 0 0][0]?:=ak 0 (AV a.res _ _);refine⟨.tuple #[.agg #[.slice none 0 0],.int .i64 k,.int .i64 12],by simp[results,go_sem,A],?_⟩;exact N6 g.o V J.o i.o aa (N0 a.O _ _)
end
section
def Oa:∀ts i n r c,mV i ts n r=some c->r=c∨∃j t,c=i+j/\ts[j]?=some t/\t.name=n:=by
 intro ts;induction ts with
 |nil=>intro i n r c b;exact .inl b
 |cons t ts ih=>
  intro i n r c b;unfold mV at b;rcases ih _ n _ c b with a|⟨j,u,a,e,f⟩
  by_cases d:t.name=n;rw[au d]at a;injection a with a
  exact .inr ⟨0,t,ad,rfl,d⟩;rw[ap d]at a;exact .inl a;exact .inr ⟨j+1,u,ad,e,f⟩
def xX{ts n c}(a:placeS ts n=some c):∃t,ts[c]?=some t/\t.name=n:=by
 rcases Oa ts 0 n none c a with a|⟨j,t,b,d,e⟩
 cases a
 rw[cH]at b;subst b;exact⟨t,d,e⟩
def xY{l}(e:cz l=false):∀(a b:Nat) x,l[a]?=some x->l[b]?=x->a=b:=by
 induction l with
 |nil=>intro a b x c d;simp at c
 |cons y t ih=>
  unfold cz at e;rw[Bool.or_eq_false_iff]at e;intro a b x c d;cases a with
  |zero=>
   cases b with
   |zero=>rfl
   |succ b=>
    simp only[mR,lX]at c;simp only[jw]at d;subst c;have:=aK d;have f:=e.1;rw[pr.2 this]at f;cases f
  |succ a=>
   cases b with
   |zero=>
    simp only[mR,lX]at d;simp only[jw]at c;subst d;have:=aK c;have f:=e.1;rw[pr.2 this]at f;cases f
   |succ b=>
    simp only[jw]at c d;rw[ih e.2 a b x c d]
structure Whole(ts:List aB):Prop where
 names:cz (ts.map aB.name)=false
 placed:∀t∈ts,∀n∈symsS t.E,(placeS ts n).isSome=true
 labels:∀t∈ts,cz ((kidsS ts t).map (labelAt ts))=false
def uR{ts}(a:bY ts=0):Whole ts:=by
 unfold bY at a;split at a;cases a
 split at a;cases a
 split at a;cases a
 split at a;cases a
 rename_i g;split at a;cases a
 split at a;cases a
 split at a;rename_i i;omega;split at a;cases a
 rename_i d;split at a;cases a
 rename_i f;refine⟨by simpa using g,fun t b n h=> ?_,fun t b=> ?_⟩;rw[iX,nF]at d;have:=d t b;rw[iX,nF]at this;have:=this n h;cases e:placeS ts n with
 |none=>rw[e]at this;exact absurd rfl this
 |some c=>rfl
 rw[iX,nF]at f;simpa using f t b
def AW:symsS []=[]:=az
open Go.RowKit Go.Shelf
attribute [local go_sem] wO
open Go.RowKit Go.Shelf
def kR(l:List ax):Bool:=l.all (fun n=>decide (n.sym.length<=80))&&decide (l.length<=24)
def xZ{d:Type}{l:List d}{p k x}(c:l[k]?=some x)(a:(l.take k).all p=true)(b:p x=true):(l.take (k+1)).all p=true:=by rw[bH,c,List.all_append,a];simp[b]
def x7{c:Type}{l:List c}{p}{k:Nat}{x}(b:l[k]?=some x)(a:p x=false):l.all p=false:=by rw[C4];exact⟨x,aK b,by simp[a]⟩
def Ob l o cap w(f:dv w o cap l):
 cX 38 #[.agg #[.slice o l cap]] w (.bool (kR l)):=by
 obtain⟨y,g⟩:=am (kR l);rw[<-g];have m:=ah g;clear g;have D:=f.2.1;have s:=f.2.2.1;unfold maxLen at s;have i:aR w (cT w #[.slice o l cap] 52):=aP;have r:=f.O i
 go_in
 go_wp2
 go_loopw [3] (fun v wr=>∃k:Nat,v=.int .i64 k/\k<=l/\wr=cT w #[.slice o l cap] 52/\Hid ((l.take k).all (fun n=>decide (n.sym.length<=80))=true)) (fun v _=>l-(intOf v).toNat)
 case atStart=>exact⟨0,rfl,aH _,rfl,rfl⟩
 case round=>
  obtain⟨k,rfl,A,rfl,j⟩:=hrel;by_cases e:k<l;have u:=bC e;have C:=bk e;have B:=aL k;have⟨x,d⟩:=aT e;obtain⟨b,E,rfl,z,F,G,H,I⟩:=r.at d;by_cases q:x.sym.length<=80;have t:decide ((x.sym:Int)>80)=false:=bU;have a:=xZ d j.o (p:=fun n=>decide (n.sym.length<=80)) (by simp[q]);have c:=ah a;clear a d;refine qN ?_;
   exact⟨k+1,aD,ad,trivial,c.o⟩
  have t:decide ((x.sym:Int)>80)=true:=bT;have a:kR l=false:=by unfold kR;rw[x7 d (by simp[q]),ud]
  have c:=ah a;clear a d
  go_wp2
  go_ret;exact⟨by rw[m.o,c.o];rfl,i⟩;have u:=bG e;have h:=j.o;rw[bI ad]at h;have a:kR l=decide ((l.length:Int)<=24):=by unfold kR;rw[h,wJ];exact KI.2 ad
  have c:=ah a;clear a h
  go_wp2
  go_ret;exact⟨by rw[m.o,c.o];rfl,i⟩
def rp(t:aB):Bool:=t.zx.all (fun a=>decide (a.length<=80))
def kS(t:aB):Bool:=decide (t.zx.length<=5)&&kR t.E&&decide (t.name.length<=80)&&decide (t.zv.length<=80)&&decide (t.key.length<=80)&&rp t
def mf(ts:List aB):Bool:=ts.all kS&&decide (ts.length<=8)
def Oc{l:List ai}{k:Nat}{x}(b:l[k]?=some x)(a:kS x.t=false):mf (l.map ai.t)=false:=by unfold mf;rw[x7 (by rw[bR,b];rfl) a,ud]
def Od l o cap w(J:cw w o cap l):
 cX 17 #[.agg #[.slice o l cap]] w (.bool (mf (l.map ai.t))):=by
 obtain⟨V,q⟩:=am (mf (l.map ai.t));rw[<-q];have B:=ah q;clear q;have bE:=J.1.2.1;have a6:=J.1.2.2.1;unfold maxLen at a6;have O:aR w (cT w #[.slice o l cap] 24):=aP;have c:=J.O O;have⟨w1,ae⟩:=am (w.alloc (.cells #[.slice o l cap] 24));have af:=aN w (.cells #[.slice o l cap] 24);have al:w<(w.alloc (.cells #[.slice o l cap] 24)).heap.size:=aj
 go_in
 go_wp2_with fail
 rw[<-ae]at O c af al⊢;clear ae;go_loopw [3] (fun v wr=>∃k:Nat,v=.int .i64 k/\k<=l/\aR w1 wr/\Hid (((l.take k).map ai.t).all kS=true)) (fun v _=>l-(intOf v).toNat)
 case atStart=>exact⟨0,rfl,aH _,aA _ _,rfl⟩
 case round=>
  obtain⟨k,rfl,bz,u,H⟩:=hrel;have cs:=ak 0 ((u.J _ al).Z af);have X:=aE O u;by_cases E:k<l
  ·have be:=bC E
   have bB:=bk E;have bA:=aL k;have⟨x,z⟩:=aT E;have⟨Q,R⟩:=(c.O u).2 x (aK z);obtain⟨b,bF,rfl,a4,an,ao,av,aw,a0,a1⟩:=(c.O u).at z;have Y:=fun e=>Oc z e;have ag:kS x.t=true->((l.take (k+1)).map ai.t).all kS=true:=fun e=>by have:=xZ (l:=l.map ai.t) (k:=k) (x:=x.t) (p:=kS) (by rw[bR,z];rfl) (by rw[<-zP];exact H.o) e;rw[zP];exact this
   have⟨T,C⟩:=aC ag Y;clear z ag Y H c;obtain⟨⟨name,label,attrs,key,text,nodes⟩,I,ac,no,G⟩:=x;simp only at an ao av aw a0 a1 Q R;have ab:=fun w' s=>Ob nodes no G w' (R.O s);have t:aR wr (cT wr (gT name label I attrs ac key text no nodes G) 55):=aP;have P:=aE X t;have W:=aE u t;by_cases h:attrs.length<=5
   ·have bc:decide ((attrs:Int)>5)=false:=bU
    go_wp2_with fail
    refine ar (ab _ t) ?_;intro bg d;have F:wr<(wr.alloc (.cells (gT name label I attrs ac key text no nodes G) 55)).heap.size:=aj;have A:=eq wr [name,label,.slice I attrs ac,key,text,.slice no nodes G] 55 _ rfl;have b0:=(d.cell (p:=wr) F).Z (A 0 _ rfl);have b1:=(d.cell (p:=⟨wr,1,none⟩) F).Z (A 1 _ rfl);have b2:=(d.cell (p:=⟨wr,2,none⟩) F).Z (A 2 _ rfl);have b3:=(d.cell (p:=⟨wr,3,none⟩) F).Z (A 3 _ rfl);have bf:=(Q.O t).O d;have y:=aE P d;have a5:=aE W d;have Z:(kR nodes&&decide (name.length<=80)&&decide (label.length<=80)&&decide (key.length<=80))=false->V=false:=fun e=>by
     rw[B.o];apply C.o;unfold kS;show(decide (attrs.length<=5)&&kR nodes&&decide (name.length<=80)&&decide (label.length<=80)&&decide (key.length<=80)&&_)=false
     cases c:decide (attrs.length<=5)<;>cases K:kR nodes<;>cases M:decide (name.length<=80)<;>cases bl:decide (label.length<=80)<;>cases bo:decide (key.length<=80)<;>simp_all
    clear A ab t d W P an ao av aw a0 a1 Q R a4 cs;have i:=ah Z;clear Z;cases N:kR nodes with
    |false=>
     go_wp2
     go_ret;exact⟨by rw[i.o (by rw[N];rfl)];rfl,y⟩
    |true=>
     by_cases c:name.length<=80
     ·have a7:decide ((name:Int)>80)=false:=bU
      by_cases K:label.length<=80
      ·have a9:decide ((label:Int)>80)=false:=bU
       by_cases M:key.length<=80
       ·have ba:decide ((key:Int)>80)=false:=bU
        have a3:Hid (rp ⟨name,label,attrs,key,text,nodes⟩=true->((l.take (k+1)).map ai.t).all kS=true):=fun e=>T.o (by
         unfold kS;show(decide (attrs.length<=5)&&kR nodes&&decide (name.length<=80)&&decide (label.length<=80)&&decide (key.length<=80)&&_)=true
         rw[N,e];simp[h,c,K,M])
        have a2:Hid (rp ⟨name,label,attrs,key,text,nodes⟩=false->V=false):=fun e=>by rw[B.o];apply C.o;unfold kS;rw[e,Bool.and_false]
        clear T C i N
        go_wp2
        go_loopw [5] (fun v bi=>∃j:Nat,v=.int .i64 j/\j<=attrs/\bi=bg/\Hid ((attrs.take j).all (fun a=>decide (a.length<=80))=true)) (fun v _=>attrs-(intOf v).toNat)
        case atStart=>exact⟨0,rfl,aH _,rfl,rfl⟩
        case round=>
         obtain⟨j,rfl,bt,rfl,S⟩:=hrel;by_cases D:j<attrs;have bd:=bC D;have bw:=bk D;have bu:=aL j;have⟨a,r⟩:=aT D;obtain⟨g,bZ,rfl,bq,b4⟩:=bf.at r;by_cases aa:a.length<=80;have bb:decide ((a:Int)>80)=false:=bU;have f:=xZ r S.o (p:=fun n=>decide (n.length<=80)) (by simp[aa]);have m:=ah f;clear f r;refine qN ?_;
          exact⟨j+1,aD,ad,trivial,m.o⟩
         have bb:decide ((a:Int)>80)=true:=bT;have f:rp ⟨name,label,attrs,key,text,nodes⟩=false:=by unfold rp;exact x7 r (p:=fun a=>decide _) (by simp[aa])
         have q:=a2.o f;clear f r
         go_wp2
         go_ret;exact⟨by rw[q];rfl,y⟩
         ·have bd:=bG D
          have s:=S.o;rw[bI ad]at s;have m:=ah (a3.o s);clear s
          go_wp2
          go_roundw
          case rel=>exact⟨_,aD,ad,a5,m.o⟩
          case measure=>exact aM
       have ba:decide ((key:Int)>80)=true:=bT
       go_wp2
       go_ret;exact⟨by rw[i.o (by simp[M])];rfl,y⟩
      have a9:decide ((label:Int)>80)=true:=bT
      go_wp2
      go_ret;exact⟨by rw[i.o (by simp[K])];rfl,y⟩
     have a7:decide ((name:Int)>80)=true:=bT
     go_wp2
     go_ret;exact⟨by rw[i.o (by simp[c])];rfl,y⟩
   have bc:decide ((attrs:Int)>5)=true:=bT
   go_wp2
   go_ret;exact⟨by rw[B.o,C.o (by unfold kS;simp[h])];rfl,P⟩
  have be:=bG E;have h:=H.o;rw[bI ad]at h;have f:mf (l.map ai.t)=decide ((l.length:Int)<=8):=by unfold mf;rw[h,wJ,bn];exact KI.2 ad
  have m:=ah f;clear f h
  go_wp2
  go_ret;exact⟨by rw[B.o,m.o];rfl,X⟩
open Go.RowKit Go.Shelf
attribute [local go_sem] wO
def Oe{l}(j:mf (l.map ai.t)=true):ep l:=by
 unfold mf at j;rw[cM,ke]at j;have o:∀x∈l,kS x.t=true:=fun x g=>j.1 _ (lY g);have m:=kE j.2;rw[bn]at m;have i:∀x∈l,x.t.zx.length<=5/\kR x.t.E=true/\x.t.name.length<=80/\x.t.zv.length<=80/\x.t.key.length<=80/\rp x.t=true:=fun x g=>by have:=o x g;unfold kS at this;simp only[cM,cf]at this;obtain⟨⟨⟨⟨⟨a,b⟩,c⟩,d⟩,e⟩,f⟩:=this;exact⟨a,b,c,d,e,f⟩
 refine⟨ad,fun x g=> ?_,fun x g=> ?_,fun x g=> ?_,fun x g=> ?_,fun x g a p=> ?_,fun x g n m=> ?_⟩;have:=(i x g).2.2.1;omega;have:=(i x g).2.2.2.1;omega;have:=(i x g).2.2.2.2.1;omega;have:=(i x g).1;omega;have h:=(i x g).2.2.2.2.2;unfold rp at h;have:=kE (ke.1 h a p);omega;have h:=(i x g).2.1;unfold kR at h;rw[cM]at h;have:=kE (ke.1 h.1 n m);omega
end
end Go.Proofs.YtfeidcmojcijpaaGreatDoor
