import Derived.Test.YtbacloblanpghaaGreatDoorQam
set_option linter.unusedVariables false
set_option linter.unusedSimpArgs false
set_option maxRecDepth 100000
set_option maxHeartbeats 0
namespace Go.Proofs.YtbacloblanpghaaGreatDoor
open Go.RowKit Tryz
section
def dp(n:Nat)(a:List ar):Prop:=∀m∈a,m.sym.length<=n
theorem dp.one(n:Nat)(m:ar)(b:m.sym.length<=n):dp n [m]:=by intro x a;simp at a;subst a;exact b
theorem dp.append{n:Nat}{a b:List ar}(d:dp n a)(e:dp n b):dp n (a++b):=by
 intro m f;rcases fe.1 f with c|c
 ·exact d m c
 ·exact e m c
theorem dp.moved{n k:Nat}{a:List ar}(b:dp n a):dp n (a.map (eW k)):=by
 intro m c;obtain⟨x,d,rfl⟩:=kO.1 c;have:=b x d;unfold eW;split
 ·exact this
 ·split<;>exact this
theorem Jz{n:Nat}{c:Int}{i:Nat}{out p:List ar}(a:dp n out)(b:dp n p):dp n (jq c i out p):=by
 unfold jq;split
 ·exact a.append b.moved
 ·exact(a.append b.moved).append (dp.one _ _ (aK _))
theorem JA{n:Nat}(c:Int):∀(ps:List (List ar)) (i:Nat) (out:List ar),dp n out->(∀p∈ps,dp n p)->dp n (gN c i out ps):=by
 intro ps;induction ps with
 |nil=>intro i out a _;exact a
 |cons q t ih=>intro i out a b;exact ih (i+1) (jq c i out q) (Jz a (b q (f9 ..))) (fun p d=>b p (f8 _ d))
theorem xn{n:Nat}{b e:Int}{ps:List (List ar)}{l:List ar}(d:∀p∈ps,dp n p)(a:ey b e ps=some l):dp n l:=by
 unfold ey at a;split at a
 ·injection a with a;subst a;exact dp.one _ _ (aK _)
 ·split at a
  ·cases a
  ·injection a with a;subst a;exact JA b ps 0 [] (fun m c=>by simp at c) d
theorem uc{n:Nat}{big:Bool}{r:Option (List ar)}(a:∀l,r=some l->dp n l):dp n (fk big r).1:=by
 unfold fk;split
 ·exact dp.one _ _ (aK _)
 ·split
  ·exact dp.one _ _ (aK _)
  ·exact a _ rfl
theorem BN{n:Nat}{l:List ar}(a:dp n l):dp n (fM l):=a.append (dp.one _ _ (aK _))
def qc(l:Bytes)(f:cQ->ek):Prop:=∀b a c,f b=some (a,c)->dp l.length a
theorem JB{l:Bytes}{E:cQ->ek}(d:qc l E):qc l (lD l E):=by
 intro h f i a;unfold lD at a;split at a
 ·injection a with a;injection a with b c;subst b;exact dp.one _ _ (aK _)
 ·split at a
  ·split at a
   ·injection a with a;injection a with b c;subst b;exact dp.one _ _ (aK _)
   ·split at a
    ·cases a
    ·rename_i g st' e
     split at a
     ·injection a with a;injection a with b c;subst b;exact d _ _ _ e
     ·cases a
  ·split at a
   ·cases a
   ·injection a with a;injection a with b c;subst b
    refine dp.one _ _ ?_;simp only;unfold iu;split
    ·simp
    ·split
     ·refine aR (vE _).length_le ?_
      rw[gI];omega
     ·simp
theorem JC(l:Bytes){n:Nat}:∀(f:Nat) (d:List ar) (e:cQ),dp n d->dp n (kx l f d e).1:=by
 intro f;induction f with
 |zero=>intro d e b;exact b
 |succ f ih=>
  intro d e b;unfold kx;split
  ·exact ih _ _ (uc (fun x a=>by injection a with a;subst a;exact BN b))
  ·split
   ·exact ih _ _ (uc (fun x a=>xn (fun p c=>by simp at c;rcases c with rfl|rfl;exact b;exact BN b) a))
   ·split
    ·exact ih _ _ (uc (fun x a=>xn (fun p c=>by simp at c;rcases c with rfl|rfl;exact b;exact dp.one _ _ (aK _)) a))
    ·exact b
theorem JD{l:Bytes}{E:cQ->ek}(c:qc l E):qc l (kU l E):=by
 intro g f h a;unfold kU at a;split at a
 ·cases a
 ·rename_i e st' d
  have b:=JC l (l.length+1) e st' (JB c _ _ _ d);injection a with a
  rw[a]at b;exact b
theorem BO{l:Bytes}{part:cQ->ek}(c:UInt8)(u s:Int)(q:qc l part):∀(f:Nat) (parts:List (List ar)) (g:cQ) d h,(∀p∈parts,dp l.length p)->gO l c u s part f parts g=some (d,h)->dp l.length d:=by
 intro f;induction f with
 |zero=>intro parts g d h j a;simp[gO]at a
 |succ f ih=>
  intro parts g d h j a;unfold gO at a;split at a
  ·cases a
  ·rename_i t st' o
   have i:=q _ _ _ o;have m:∀p∈parts++[t],dp l.length p:=fun p b=>by
    rcases fe.1 b with b|b
    ·exact j p b
    ·simp at b;subst b;exact i
   split at a
   ·exact ih _ _ _ _ m a
   ·split at a
    ·injection a with a;injection a with e n;subst e;exact i
    ·injection a with a;injection a with e n;subst e;exact uc (fun x r=>xn m r)
theorem JE(l:Bytes):∀n,qc l (nC l n):=by
 intro n;induction n with
 |zero=>intro d c e a;simp[nC]at a
 |succ n ih=>
  intro d c e a;exact BO 124 4 0 (fun d c e a=>BO 44 3 1 (JD ih) _ _ _ _ _ (fun p b=>by simp at b) a) _ _ _ _ _ (fun p b=>by simp at b) a
theorem JF(l:Bytes):dp l.length (nD l).1:=by
 unfold nD;split
 ·intro m a;simp at a
 ·split
  ·intro m a;simp at a
  ·rename_i c d b
   have:=JE l _ _ _ _ b;split
   ·intro m a;simp at a
   ·split
    ·intro m a;simp at a
    ·split
     ·intro m a;simp at a
     ·exact this
structure nL(n:Nat)(t:ax):Prop where
 name:t.name.length<=n
 label:t.label.length<=n
 key:t.key.length<=n
 attrs:t.attrs.length<=n
 attr:∀a∈t.attrs,a.length<=n
 sym:∀m∈t.nodes,m.sym.length<=n
theorem BP(r:Bytes):(lE r).length<=r.length:=by
 have a:=oM r;unfold lE;split
 ·simp
 ·rename_i c t b
  rw[b]at a;simp at a;split<;>simp<;>omega
theorem JG(n:Nat):∀(f:Nat) (d:List Bytes) (r:Bytes) (l:List Bytes) (q:Bytes),r.length<=n->(∀a∈d,a.length<=n)->d.length+r.length<=n->gP f d r=some (l,q)->(∀a∈l,a.length<=n)/\l.length<=n/\q.length<=n:=by
 intro f;induction f with
 |zero=>
  intro d r l q h g o b;simp[gP]at b;rw[<-b.1,<-b.2];exact⟨g,ad,aR (jR r) h⟩
 |succ f ih=>
  intro d r l q h g o b;by_cases e:(aT r).head?=some 64
  ·cases i:lG (aT r)with
   |true=>
    rw[xh e i]at b;have p:=xg e;have s:=BP (aT r);have t:=jR r;refine ih _ _ _ _ ad (fun a c=> ?_) aO b;rcases fe.1 c with c|c
    ·exact g a c
    ·simp at c;subst c;omega
   |false=>rw[xi e i]at b;cases b
  ·rw[xj e]at b
   injection b with b
   injection b with j m
   subst j;subst m;exact⟨g,ad,aR (jR r) h⟩
theorem JH{s:Bytes}{t:ax}(b:my s=some t):nL s.length t:=by
 unfold my at b;simp only at b;have w1:=jr s;have A:=jr (bQ s);have B:=jr (bQ (bQ s));have C:=jr (bQ (bQ (bQ s)));have w:=oM (bQ s);have x:=oM (bQ (bQ (bQ s)));split at b
 ·cases b
 ·split at b
  ·cases b
  ·split at b
   ·cases b
   ·split at b
    ·cases b
    ·split at b
     ·cases b
     ·rename_i l j n
      have h:=JG s.length _ _ _ _ _ ad (fun a b=>by simp at b) aO n;split at b
      ·cases b
      ·rename_i k g d
       have o:k.length<=s.length/\g.length<=s.length:=by
        unfold mx at d;split at d
        ·split at d
         ·injection d with d
          injection d with f e
          subst f;subst e;have a1:=jr j;have p:=BP (bQ j);have q:=jr (bQ j);omega
         ·cases d
        ·injection d with d
         injection d with f e
         subst f;subst e;exact⟨aK _,h.2.2⟩
       split at b
       ·cases b
       ·rename_i z y c
        injection b with b
        subst b;refine⟨by simp only;omega,by simp only;omega,o.1,h.2.1,h.1,?_⟩;unfold oK at c;split at c
        ·split at c
         ·injection c with c
          injection c with f e
          subst e;intro m i;have r:=JF (kV (aT g)) m i;have u:=BL (aT g);have v:=jR g;omega
         ·cases c
        ·split at c
         ·injection c with c
          injection c with f e
          subst e;intro m i;simp at i
         ·cases c
theorem JI(s:Bytes):(dn s).length<=s.length+1/\∀x∈dn s,x.length<=s.length/\∀c∈x,c∈s:=by
 induction s with
 |nil=>simp[dn]
 |cons c t ih=>
  simp only[dn];split
  ·refine⟨by simp;exact ih.1,fun x a=> ?_⟩
   rcases eH.1 a with rfl|a
   ·simp
   ·have:=ih.2 x a
    exact⟨aO,fun d b=>f8 _ (this.2 d b)⟩
  ·split
   ·exact⟨ak,fun x a=>by simp at a;subst a;simp⟩
   ·rename_i f r e
    rw[e]at ih;refine⟨by have:=ih.1;simp at this⊢;omega,fun x a=> ?_⟩;rcases eH.1 a with rfl|a
    ·have:=ih.2 f (f9 ..)
     refine⟨by simp;exact this.1,fun d b=> ?_⟩;rcases eH.1 b with rfl|b
     ·exact f9 ..
     ·exact f8 _ (this.2 d b)
    ·have:=ih.2 x (f8 _ a)
     exact⟨aO,fun d b=>f8 _ (this.2 d b)⟩
open Go.RowKit Go.Shelf
attribute [local go_sem] sT
theorem BQ:∀l:Bytes,Lib.index l [10]= -1->dn l=[l]
 |[],_=>rfl
 |c::t,a=>by
  rw[Lib.index]at a;by_cases b:c=10
  ·subst b;simp[List.isPrefixOf]at a
  ·have e:((10:UInt8)==c)=false:=by simpa using fun d:(10:UInt8)=c=>b d.symm
   have f:([10]:Bytes).isPrefixOf (c::t)=false:=by show((10:UInt8)==c&&_)=false;rw[e];rfl
   rw[f]at a;simp only[kh,i6]at a;have i:=Lib.index_ge t [10];have h:Lib.index t [10]= -1:=by apply fq;intro g;rw[ap (by simpa using g)]at a;omega
   have:=BQ t h;simp only[dn];rw[ap b,this]
theorem BR:∀(l:Bytes) (i:Nat),Lib.index l [10]=i->i<l.length/\dn l=l.take i::dn (l.drop (i+1))
 |[],i,a=>by rw[Lib.index]at a;simp at a
 |c::t,i,a=>by
  rw[Lib.index]at a;by_cases b:c=10
  ·subst b
   simp[List.isPrefixOf]at a;have:i=0:=ad;subst this;simp[dn]
  ·have f:((10:UInt8)==c)=false:=by simpa using fun e:(10:UInt8)=c=>b e.symm
   have g:([10]:Bytes).isPrefixOf (c::t)=false:=by show((10:UInt8)==c&&_)=false;rw[f];rfl
   rw[g]at a;simp only[kh,i6]at a;have h:=Lib.index_ge t [10];by_cases d:Lib.index t [10]= -1
   ·rw[au (by simpa using d)]at a;omega
   ·rw[ap (by simpa using d)]at a
    obtain⟨j,rfl⟩:∃j,i=j+1:=⟨i-1,ad⟩;have:=BR t j ad;refine⟨aO,?_⟩;simp only[dn];rw[ap b,this.2];simp
theorem JJ(l:Bytes):Lib.index l [10]= -1∨∃i:Nat,Lib.index l [10]=i:=by
 have:=Lib.index_ge l [10];by_cases a:Lib.index l [10]= -1
 ·exact .inl a
 ·exact .inr ⟨(Lib.index l [10]).toNat,ad⟩
def xp(b:Nat)(w:World):Nat:=match w.cell? ⟨b,0,none⟩with|some (.string s)=>s.size|_=>0
theorem BS{b:Nat}{w:World}{l:Bytes}(a:w.heap[b]?=some (.cells #[.string ⟨l.toArray⟩] 9 (0,0))):xp b w=l.length:=by unfold xp;rw[aZ w b 0 _ _ _ a];exact ix l
structure kY(w:World)(Bp Bs Bv:Nat)(l:Bytes):Prop where
 p:w.heap[Bp]?=some (.cells #[.string ⟨#[10]⟩] 9 (0,0))
 s:w.heap[Bs]?=some (.cells #[.string ⟨l.toArray⟩] 9 (0,0))
 v:w.heap[Bv]?=some (.cells #[.int .i64 0] 3 (0,0))
def lK(a b c:Nat)(w w':World):Prop:=w'.heap[a]?=w.heap[a]?/\w'.heap[b]?=w.heap[b]?/\w'.heap[c]?=w.heap[c]?
theorem kY.kept{w w':World}{a b c:Nat}{l:Bytes}(d:kY w a b c l)(k:lK a b c w w'):kY w' a b c l:=⟨k.1.trans d.p,k.2.1.trans d.s,k.2.2.trans d.v⟩
theorem kY.set{w:World}{c a d:Nat}{l:Bytes}(b:kY w c a d l)(g:c≠a)(h:d≠a)(r:Bytes):kY (w.setCell ⟨a,0,none⟩ (.string ⟨r.toArray⟩)) c a d r:=by
 refine⟨(eG _ _ _ _ g).trans b.p,?_,(eG _ _ _ _ h).trans b.v⟩;have e:=aN b.s;have f:w.heap[a]=.cells #[.string ⟨l.toArray⟩] 9 (0,0):=by have:=b.s;simpa[mU e]using this
 show(w.heap.modify a _)[a]?=_
 rw[mU (by simpa using e),vu,f];rfl
theorem JK(l:Bytes)(w:World):Calls prog 134 #[.string ⟨l.toArray⟩,.string ⟨#[10]⟩] w fun a w'=>a=.returned (.int .i64 (Lib.index l [10]))/\w'=w:=by refine(strings_Index_one ⟨l.toArray⟩ 10 w).mono ?_;rintro a w' ⟨rfl,rfl⟩;exact⟨by rw[Lib.index_one],rfl⟩
theorem JL(m l b a h:Nat)(s:Bytes)(al:s.length<=65536)(d C:Nat->World->Prop)(V:∀k W v,d k W->d k (W.setCell ⟨a,0,none⟩ v))
 (G:∀k x W,(dn s)[k]?=some x->d k W->YieldAt Fence.wide (m-1) prog l #[.string ⟨x.toArray⟩] W fun c W'=>(c=.returned (.bool true)/\d (k+1) W'/\lK b a h W W')∨(c=.returned (.bool false)/\C (k+1) W'))
 (W:World) (E:kY W b a h s) (L:b≠a) (M:h≠a) (T:d 0 W):
 CallsIn Fence.wide m prog 132 #[.func (.yield l) #[] #[],.pointer (some ⟨b,0,none⟩),.pointer (some ⟨a,0,none⟩),.pointer (some ⟨h,0,none⟩)] W fun c W'=>(∃v,c=.returned v)/\(d (dn s).length W'∨∃k,C k W'):=by
 have af:1<=m∨True:=.inr trivial;have Q:=aZ W b 0 _ _ _ E.p;have an:(⟨#[10]⟩:ByteArray).size=1:=rfl;refine callsIn_of_wp func132 rfl trivial ?_ rfl;simp only[ntmps132,zC,de,ga,Nat.reduceAdd,Nat.reduceSub,zD,zE,zF,zH,lm,fH]
 gi_wp2
 clear Q
 gi_loopw [] (fun wr=>∃(k:Nat) (r:Bytes),r.length<=s.length/\kY wr b a h r/\d k wr/\Hid ((dn s).drop k=dn r)) (fun wr=>xp a wr)
 case atStart=>exact⟨0,s,aB _,E,T,rfl⟩
 case round=>
  obtain⟨k,r,ag,n,F,q⟩:=hrel;have R:=aZ wr b 0 _ _ _ n.p;have S:=aZ wr a 0 _ _ _ n.s;have Z:=aZ wr h 0 _ _ _ n.v;have u:=fun w1=>JK r w1;rcases JJ r with g|⟨i,g⟩
  ·have p:=BQ r g
   have f:(dn s)[k]?=some r/\k+1=(dn s).length:=by
    have:=q.o;rw[p]at this;have j:((dn s).drop k)[0]?=some r:=by rw[this];rfl
    rw[vG,mT]at j;have D:=iK List.length this;rw[gI]at D;simp at D;exact⟨j,ad⟩
   obtain⟨fn,tmps,assign,body,N,z⟩:=G k r wr f.1 F;have K:=f.2;rw[g]at u;have P:=ah K;clear g p f K q
   gi_wp2
   refine⟨trivial,(fun e=>(by cases e)),?_⟩;refine(jF.2 (u _)).mono ?_;rintro c w' ⟨rfl,rfl⟩
   gi_wp2
   refine⟨(fun e=>(by cases e)),?_⟩;refine z.mono ?_;rintro c t (⟨rfl,w,I⟩|⟨rfl,y⟩)
   ·gi_wp2
    go_end0
    exact⟨⟨_,rfl⟩,.inl (by rw[<-P.o];exact w)⟩
   ·gi_wp2
    go_end0
    exact⟨⟨_,rfl⟩,.inr ⟨_,y⟩⟩
  ·obtain⟨ae,p⟩:=BR r i g
   have f:(dn s)[k]?=some (r.take i)/\(dn s).drop (k+1)=dn (r.drop (i+1)):=by
    have:=q.o;rw[p]at this;have j:((dn s).drop k)[0]?=some (r.take i):=by rw[this];rfl
    rw[vG,mT]at j;exact⟨j,by rw[<-sL,this];rfl⟩
   obtain⟨fn,tmps,assign,body,N,z⟩:=G k (r.take i) wr f.1 F;have Y:=fun w1=>BE r i ad w1;have X:∀w1,(Instr.slice 9 (.string ⟨r.toArray⟩) (some (.int .i64 ((i:Int)+1))) none none).run prog w1=.ok (.string ⟨(r.drop (i+1)).toArray⟩) w1:=fun w1=>xe r (i+1) ad w1;rw[g]at u;have ab:decide ((i:Int)<0)=false:=aJ;have H:(r.drop (i+1)).length<r.length:=by rw[gI];omega
   have B:=ah f.2;have J:=BS n.s;generalize r.take i=fr at N Y;generalize r.drop (i+1)=A at X H B;have O:=ah J;clear g p f q J
   gi_wp2
   refine⟨trivial,(fun e=>(by cases e)),?_⟩;refine(jF.2 (u _)).mono ?_;rintro c w' ⟨rfl,rfl⟩
   gi_wp2
   refine⟨(fun e=>(by cases e)),?_⟩;refine z.mono ?_;rintro c t (⟨rfl,w,I⟩|⟨rfl,y⟩)
   ·have o:=n.kept I
    have R:=aZ t b 0 _ _ _ o.p;have S:=aZ t a 0 _ _ _ o.s;have aa:t.frozen? ⟨a,0,none⟩=false:=by have:=o.s;simp[World.frozen?,this]
    gi_wp2
    go_roundw
    case rel=>exact⟨k+1,A,ad,o.set L M A,V _ _ _ w,B.o⟩
    case measure=>rw[O.o,BS (o.set L M A).s];exact H
   ·gi_wp2
    refine bS (results_none rfl _ _ _) rfl ?_;exact⟨⟨_,rfl⟩,.inr ⟨_,y⟩⟩
open Go.RowKit Go.Shelf
structure ud(Bp Bs Bv D:Nat)(W W':World):Prop where
 size:W.heap.size<=W'.heap.size
 boxes:lK Bp Bs Bv W W'
 d0:W'.heap[D]?=W.heap[D]?
 d1:W'.heap[D+1]?=W.heap[D+1]?
def JM(b c d e:Nat)(f:Nat->World->Prop)(g:Code->Nat->World->Prop)(k:Nat)(W:World):Exit->Act->World->Prop
 | .normal,_,a=>ud b c d e W a/\f (k+1) a
 | .exit id,_,a=>ud b c d e W a/\g (.exit id) (k+1) a
 |_,_,_=>False
theorem BT{W:World}{a b c l:Nat}{o:Obj}(d:a≠l)(e:b≠l)(f:c≠l):lK a b c W (W.putObj l o):=⟨dJ d,dJ e,dJ f⟩
theorem lK.trans{d e f:Nat}{a b c:World}(g:lK d e f a b)(k:lK d e f b c):lK d e f a c:=⟨k.1.trans g.1,k.2.1.trans g.2.1,k.2.2.trans g.2.2⟩
theorem JN{g:Operand}{M:Tmp}{assign body:Code}{Q:Exit->Act->World->Prop}{a:Act}{w:World}(n:Nat)(f d h:Nat)(s:Bytes)(a9:s.length<=65536)
 (a3:a.eval g=.func (.func 132) #[] #[.pointer (some ⟨f,0,none⟩),.pointer (some ⟨d,0,none⟩),.pointer (some ⟨h,0,none⟩)])
 (E:kY w f d h s) (a7:f≠d) (bb:h≠d)
 (i:Nat->World->Prop) (z:Code->Nat->World->Prop)
 (T:∀k W o,i k W->i k (W.alloc o))
 (F:∀k W l o,w.heap.size<=l->l<w.heap.size+2->i k W->i k (W.putObj l o))
 (V:∀c k W l o,w.heap.size<=l->l<w.heap.size+2->z c k W->z c k (W.putObj l o))
 (ae:∀k W v,i k W->i k (W.setCell ⟨d,0,none⟩ v)) (Z:i 0 w) (O:Bytes->Act)
 (al:∀(l:Nat) (x:Bytes) (W:World) (N:Act->World->Prop),N (O x) W->assign.wpIn (Fence.wide.inRound l) (n-1-1) prog (Exit.then N (fun _ _ _=>False)) {tmps:=((#[M]:Array Tmp).zip #[Value.string ⟨x.toArray⟩]).foldl (fun t (p,v)=>t.setIfInBounds p v) a.tmps,defers:=[]} W)
 (an:∀(l k:Nat) (x:Bytes) (W:World),(dn s)[k]?=some x->i k W->w.heap.size+2<=W.heap.size->body.wpIn (Fence.wide.inRound l) (n-1-1) prog (JM f d h w.heap.size i z k W) (O x) W)
 (a1:∀W,i (dn s).length W->W.heap[w.heap.size]?=some (.deferred (some []))->Q .normal {a with defers:={target:=.collected w.heap.size,args:=#[]}::a.defers} W)
 (ba:∀c k W,z c k W->W.heap[w.heap.size]?=some (.deferred (some []))->c.wpIn Fence.wide n prog Q {a with defers:={target:=.collected w.heap.size,args:=#[]}::a.defers} W):
 (Code.rangeFunc g #[M] assign body).wpIn Fence.wide n prog Q a w:=by
 refine wpIn_rangeFunc ?_;intro fn a2;obtain⟨b,m⟩:∃b:LoopState->Option Code->Loop,b=fun be bd=>{state:=be,pending:=bd,fn:=fn,tmps:=a.tmps,params:=#[M],assign:=assign,body:=body,defers:=w.heap.size}:=⟨_,rfl⟩;obtain⟨j,B⟩:∃j,(w.alloc (.deferred (some []))).alloc (.loop (b .ready none))=j:=⟨_,rfl⟩;have ao:=aN E.p;have aq:=aN E.s;have av:=aN E.v;have G:Below w.heap.size w j:=by rw[<-B];exact az.alloc ak _
 have ag:j.heap[w.heap.size+1]?=some (.loop (b .ready none)):=by rw[<-B];have:=zI (w.alloc (.deferred (some []))) (.loop (b .ready none));rwa[bI]at this
 have af:j.heap[w.heap.size]?=some (.deferred (some [])):=by rw[<-B];exact(bH _ _ _ ak).trans (zI w _)
 have ab:i 0 j:=by rw[<-B];exact T _ _ _ (T _ _ _ Z)
 have aa:kY j f d h s:=E.kept ⟨G.block _ ao,G.block _ aq,G.block _ av⟩;refine⟨w.heap.size+1,[{target:=.collected w.heap.size,args:=#[]}],j,{target:=.fn (.func 132) #[.pointer (some ⟨f,0,none⟩),.pointer (some ⟨d,0,none⟩),.pointer (some ⟨h,0,none⟩)],args:=#[.func (.yield (w.heap.size+1)) #[] #[]]},j,132,
  #[.func (.yield (w.heap.size+1)) #[] #[]]++#[.pointer (some ⟨f,0,none⟩),.pointer (some ⟨d,0,none⟩),.pointer (some ⟨h,0,none⟩)],j,?_,?_,?_,?_,(fun A=>(by cases A)),?_⟩
 ·rw[<-B,m];exact run_enterLoop_outer _ _ _ _ _
 ·simp only[resolve,a3]
  simp[go_sem]
 ·intro bl _;trivial
 ·exact(show(invoke (Target.fn (.func 132) #[.pointer (some ⟨f,0,none⟩),.pointer (some ⟨d,0,none⟩),.pointer (some ⟨h,0,none⟩)]) #[.func (.yield (w.heap.size+1)) #[] #[]]).run prog j=_ from by simp[invoke,go_sem])
 ·refine(JL (n-1) (w.heap.size+1) f d h s a9
   (fun k W=>i k W/\W.heap[w.heap.size+1]?=some (.loop (b .ready none))/\W.heap[w.heap.size]?=some (.deferred (some [])))
   (fun k W=>∃c,z c k W/\W.heap[w.heap.size+1]?=some (.loop (b .done (some c)))/\W.heap[w.heap.size]?=some (.deferred (some [])))
   (fun k W v A=>⟨ae k W v A.1,(eG _ _ _ _ (by show w.heap.size+1≠d;omega)).trans A.2.1,(eG _ _ _ _ (by show w.heap.size≠d;omega)).trans A.2.2⟩)
   ?_ j aa a7 bb ⟨ab,ag,af⟩).mono ?_
  ·rintro k x W bc ⟨C,r,D⟩
   have a6:w.heap.size+1<W.heap.size:=(gW.1 r).1;have L:=run_yield (P:=prog) (args:=#[.string ⟨x.toArray⟩]) r (by rw[m];rfl);rw[m]at L;refine⟨fn,_,assign,body,L,roundIn_of_wpIn a2 ?_⟩;clear L;refine al _ x W _ ?_;refine⟨_,run_beginRound r (by rw[m]),?_⟩;have a5:(W.putObj (w.heap.size+1) (.loop {b .ready none with state:=.busy})).heap[w.heap.size+1]?=some (.loop {b .ready none with state:=.busy}):=sU a6;have a4:(W.putObj (w.heap.size+1) (.loop {b .ready none with state:=.busy})).heap[w.heap.size]?=some (.deferred (some [])):=(dJ ad).trans D;have a0:lK f d h W (W.putObj (w.heap.size+1) (.loop {b .ready none with state:=.busy})):=BT ad ad ad;refine wpIn_mono (an (w.heap.size+1) k x _ bc (F _ _ _ _ ad ad C) aO) ?_;rintro R bg u y;have S:∀(e:Option Code),ud f d h w.heap.size (W.putObj (w.heap.size+1) (.loop {b .ready none with state:=.busy})) u->
    (Instr.endRound (w.heap.size+1) e).run prog u=.ok (.bool e.isNone) (u.putObj (w.heap.size+1) (.loop (b (if e.isNone then .ready else .done) e)))/\
    (u.putObj (w.heap.size+1) (.loop (b (if e.isNone then .ready else .done) e))).heap[w.heap.size+1]?=some (.loop (b (if e.isNone then .ready else .done) e))/\
    (u.putObj (w.heap.size+1) (.loop (b (if e.isNone then .ready else .done) e))).heap[w.heap.size]?=some (.deferred (some []))/\lK f d h W (u.putObj (w.heap.size+1) (.loop (b (if e.isNone then .ready else .done) e))):=fun e q=>by
    have Y:=q.d1.trans a5;have:=run_endRound (P:=prog) e Y;rw[m]at this⊢;exact⟨this,sU (gW.1 Y).1,(dJ ad).trans (q.d0.trans a4),(a0.trans q.boxes).trans (BT ad ad ad)⟩
   cases R with
   |normal=>
    obtain⟨q,H⟩:=y;obtain⟨K,J,I,X⟩:=S none q;exact⟨_,_,K,.inl ⟨rfl,⟨F _ _ _ _ ad ad H,J,I⟩,X⟩⟩
   |exit id=>
    obtain⟨q,H⟩:=y;obtain⟨K,J,I,X⟩:=S (some (.exit id)) q;exact⟨_,_,K,.inr ⟨rfl,.exit id,V _ _ _ _ _ ad ad H,J,I⟩⟩
   |ret=>exact y.elim
   |goto t=>exact y.elim
   |panic bi=>exact y.elim
   |outgrown=>exact y.elim
  ·rintro R bf ⟨⟨v,rfl⟩,(⟨C,r,D⟩|⟨k,c,C,r,D⟩)⟩
   ·exact⟨none,_,by have:=run_endLoop (P:=prog) r (by rw[m];simp);rw[m]at this;exact this,a1 _ (F _ _ _ _ ad ad C) ((dJ ad).trans D)⟩
   ·exact⟨some c,_,by have:=run_endLoop (P:=prog) r (by rw[m];simp);rw[m]at this;exact this,ba c k _ (V _ _ _ _ _ ad ad C) ((dJ ad).trans D)⟩
open Go.RowKit Go.Shelf
attribute [local go_sem] sT
structure kZ(w:World)(B:Nat)(v:Value)(xs:List am):Prop where
 row:w.ownsRow B 68 6 v xs.length (xs.flatMap typeRow)
 each:∀x∈xs,jS w B x
def rx(r:List ax×Nat×Int)(w:World)(a:Ending)(w':World):Prop:=
 ∃(xs:List am) (o:Option Addr) (c:Nat),xs.map am.t=r.1/\a=.returned (.tuple #[.agg #[.slice o xs.length c],.int .i64 (r.2.1:Nat),.int .i64 r.2.2])/\cn w' o c xs/\Below w.heap.size w w'
theorem JO(s:Bytes)(w:World):Calls prog 80 #[.string ⟨s.toArray⟩,.string ⟨#[10]⟩,.int .i64 0] w fun a w'=>a=.returned (.func (.func 132) #[] #[.pointer (some ⟨w.heap.size+1,0,none⟩),.pointer (some ⟨w.heap.size,0,none⟩),.pointer (some ⟨w.heap.size+2,0,none⟩)])/\w'=iN w [.cells #[.string ⟨s.toArray⟩] 9,.cells #[.string ⟨#[10]⟩] 9,.cells #[.int .i64 0] 3]:=by
 go_enter func80,ntmps80
 go_wp2
 go_ret;exact⟨rfl,rfl⟩
theorem JP(s:Bytes)(w:World):Calls prog 53 #[.string ⟨s.toArray⟩,.string ⟨#[10]⟩] w fun a w'=>a=.returned (.func (.func 132) #[] #[.pointer (some ⟨w.heap.size+1,0,none⟩),.pointer (some ⟨w.heap.size,0,none⟩),.pointer (some ⟨w.heap.size+2,0,none⟩)])/\w'=iN w [.cells #[.string ⟨s.toArray⟩] 9,.cells #[.string ⟨#[10]⟩] 9,.cells #[.int .i64 0] 3]:=by
 have b:=JO s w;go_enter func53,ntmps53
 go_wp2_with fail
 refine b.mono ?_;rintro a w' ⟨rfl,rfl⟩
 go_wp2
 go_ret;exact⟨rfl,rfl⟩
structure fB(H:Nat)(w0 W:World)(k q:Nat)(v:Value)(xs:List am):Prop where
 res:W.heap[H]?=some (.cells #[.slice none 0 0] 24 (0,0))
 sch:W.heap[H+1]?=some (.cells #[v] 24 (0,0))
 num:W.heap[H+1+1]?=some (.cells #[.int .i64 (k:Nat)] 3 (0,0))
 wr:W.heap[H+1+1+1]?=some (.cells #[.int .i64 (q:Nat)] 3 (0,0))
 own:kZ W (H+9) v xs
 below:Below H w0 W
 size:H+7<=W.heap.size
 lims:∀x∈xs,nL 65536 x.t
 few:xs.length<=k
structure Rd(H:Nat)(W W':World):Prop where
 size:W.heap.size<=W'.heap.size
 block:∀j,H+4<=j->j<H+9->W'.heap[j]?=W.heap[j]?
theorem Rd.trans{H:Nat}{a b c:World}(d:Rd H a b)(k:Rd H b c):Rd H a c:=⟨aR d.size k.size,fun j e f=>(k.block j e f).trans (d.block j e f)⟩
theorem Rd.of{H:Nat}{W W':World}(a:Below W.heap.size W W')(c:H+9<=W.heap.size):Rd H W W':=⟨a.size,fun j _ b=>a.block j ad⟩
theorem kZ.kept{w w':World}{B:Nat}{v:Value}{xs:List am}{row:Option Nat}(a:kZ w B v xs)(e:w.grownBy w' row)(f:∀k,row=some k->k<B):kZ w' B v xs:=
 ⟨df a.row e (by cases b:v.ownBlock with|none=>exact .inl rfl|some g=>exact .inr (fun c=>by have:=(bX a.row g b).1;have:=f g c.symm;omega)),
  fun x d=>⟨df (a.each x d).1 e (by cases b:(Value.slice x.ao x.t.attrs.length x.ac).ownBlock with|none=>exact .inl rfl|some g=>exact .inr (fun c=>by have:=(bX (a.each x d).1 g b).1;have:=f g c.symm;omega)),
   df (a.each x d).2 e (by cases b:(Value.slice x.no x.t.nodes.length x.nc).ownBlock with|none=>exact .inl rfl|some g=>exact .inr (fun c=>by have:=(bX (a.each x d).2 g b).1;have:=f g c.symm;omega))⟩⟩
theorem oW{w w':World}(a:Below w.heap.size w w'):w.grownBy w' none:=⟨a.os,a.tape,a.output,a.size,fun k b _=>a.block k b⟩
theorem fB.grow{H:Nat}{w0 W W':World}{k q:Nat}{v:Value}{xs:List am}(a:fB H w0 W k q v xs)(b:Below W.heap.size W W'):fB H w0 W' k q v xs:=
 ⟨(b.block _ (aN a.res)).trans a.res,(b.block _ (aN a.sch)).trans a.sch,(b.block _ (aN a.num)).trans a.num,(b.block _ (aN a.wr)).trans a.wr,a.own.kept (oW b) (fun k c=>by cases c),a.below.trans (b.mono (by have:=a.size;omega)),aR a.size b.size,a.lims,a.few⟩
theorem ry(W:World)(b:Nat)(v:Value):W.grownBy (W.setCell ⟨b,0,none⟩ v) (some b):=⟨rfl,rfl,rfl,by simp[World.setCell],fun k d c=>eG _ _ _ _ (fun a=>c (by rw[a]))⟩
theorem ue{W:World}{b t:Nat}{v:Value}(u:Value)(a:W.heap[b]?=some (.cells #[v] t (0,0))):(W.setCell ⟨b,0,none⟩ u).heap[b]?=some (.cells #[u] t (0,0)):=by
 have c:=aN a;have d:W.heap[b]=.cells #[v] t (0,0):=by simpa[mU c]using a
 show(W.heap.modify b _)[b]?=_
 rw[mU (by simpa using c),vu,d];rfl
theorem Rd.set(H:Nat)(W:World)(b:Nat)(v:Value)(d:b<H+4):Rd H W (W.setCell ⟨b,0,none⟩ v):=⟨by simp[World.setCell],fun j a c=>eG _ _ _ _ (by show j≠b;omega)⟩
theorem fB.setNum{H:Nat}{w0 W:World}{k q:Nat}{v:Value}{xs:List am}(a:fB H w0 W k q v xs)(n:Nat)(e:k<=n)(u:Value)(f:u=.int .i64 (n:Nat)):fB H w0 (W.setCell ⟨H+1+1,0,none⟩ u) n q v xs:=by subst f;have b:∀j,j≠H+1+1->(W.setCell ⟨H+1+1,0,none⟩ (.int .i64 (n:Nat))).heap[j]?=W.heap[j]?:=fun j d=>eG _ _ _ _ d;exact⟨(b _ ad).trans a.res,(b _ ad).trans a.sch,ue _ a.num,(b _ ad).trans a.wr,a.own.kept (ry W _ _) (fun k c=>by cases c;omega),a.below.setCell (by show H<=H+1+1;omega) _,by simpa[World.setCell]using a.size,a.lims,aR a.few e⟩
theorem fB.setWr{H:Nat}{w0 W:World}{k q:Nat}{v:Value}{xs:List am}(a:fB H w0 W k q v xs)(n:Nat):fB H w0 (W.setCell ⟨H+1+1+1,0,none⟩ (.int .i64 (n:Nat))) k n v xs:=by have b:∀j,j≠H+1+1+1->(W.setCell ⟨H+1+1+1,0,none⟩ (.int .i64 (n:Nat))).heap[j]?=W.heap[j]?:=fun j d=>eG _ _ _ _ d;exact⟨(b _ ad).trans a.res,(b _ ad).trans a.sch,(b _ ad).trans a.num,ue _ a.wr,a.own.kept (ry W _ _) (fun k c=>by cases c;omega),a.below.setCell (by show H<=H+1+1+1;omega) _,by simpa[World.setCell]using a.size,a.lims,a.few⟩
theorem fB.box{H:Nat}{w0 W:World}{k q:Nat}{v:Value}{xs:List am}(a:fB H w0 W k q v xs)(b:Nat)(f:H+4<=b)(g:b<H+9)(u:Value):fB H w0 (W.setCell ⟨b,0,none⟩ u) k q v xs:=by have c:∀j,j≠b->(W.setCell ⟨b,0,none⟩ u).heap[j]?=W.heap[j]?:=fun j e=>eG _ _ _ _ e;exact⟨(c _ ad).trans a.res,(c _ ad).trans a.sch,(c _ ad).trans a.num,(c _ ad).trans a.wr,a.own.kept (ry W _ _) (fun k d=>by cases d;omega),a.below.setCell (by show H<=b;omega) _,by simpa[World.setCell]using a.size,a.lims,a.few⟩
theorem fB.put{H:Nat}{w0 W:World}{k q:Nat}{v:Value}{xs:List am}(a:fB H w0 W k q v xs)(b:Nat)(g:H+4<=b)(h:b<H+9)(o:Obj):fB H w0 (W.putObj b o) k q v xs:=by have c:∀j,j≠b->(W.putObj b o).heap[j]?=W.heap[j]?:=fun j e=>dJ e;exact⟨(c _ ad).trans a.res,(c _ ad).trans a.sch,(c _ ad).trans a.num,(c _ ad).trans a.wr,a.own.kept (row:=some b) ⟨rfl,rfl,rfl,ak,fun k i f=>c k (fun d=>f (by rw[d]))⟩ (fun k d=>by cases d;omega),⟨a.below.os,a.below.tape,a.below.output,by simpa using a.below.size,fun j e=>(c j ad).trans (a.below.block j e)⟩,by simpa using a.size,a.lims,a.few⟩
theorem ug{W:World}{b t:Nat}{v:Value}(a:W.heap[b]?=some (.cells #[v] t (0,0))):W.frozen? ⟨b,0,none⟩=false:=by simp[World.frozen?,a]
theorem BU{w:World}{B B':Nat}{b:TypeId}{size n:Nat}{v:Value}{xs:List Value}(c:w.ownsRow B b size v n xs)(h:B'<=B):w.ownsRow B' b size v n xs:=by
 refine⟨c.1,?_⟩;rcases c.2 with a|⟨g,cap,d,e,a,f⟩
 ·exact .inl a
 ·exact .inr ⟨g,cap,d,e,aR h a,f⟩
theorem jS.lower{w:World}{B B':Nat}{y:am}(a:jS w B y)(b:B'<=B):jS w B' y:=⟨BU a.1 b,BU a.2 b⟩
theorem jS.grow{w w':World}{B:Nat}{y:am}(b:jS w B y)(c:Below w.heap.size w w'):jS w' B y:=⟨df b.1 (oW c) (by cases d:(Value.slice y.ao y.t.attrs.length y.ac).ownBlock with|none=>exact .inl rfl|some g=>exact .inr (fun a=>by cases a)),df b.2 (oW c) (by cases d:(Value.slice y.no y.t.nodes.length y.nc).ownBlock with|none=>exact .inl rfl|some g=>exact .inr (fun a=>by cases a))⟩
theorem kZ.add{w w':World}{B:Nat}{v e:Value}{xs:List am}{y:am}(c:kZ w B v xs)(g:jS w B y)(d:w.grownBy w' v.ownBlock)(f:w'.ownsRow B 68 6 e (xs.length+1) (xs.flatMap typeRow++typeRow y)):kZ w' B e (xs++[y]):=by
 refine⟨by rw[cm,pE];simpa using f,fun x a=> ?_⟩;have b:jS w B x:=by
  rcases fe.1 a with a|a
  ·exact c.each x a
  ·simp at a;subst a;exact g
 exact⟨df b.1 d (p6 b.1 c.row aw),df b.2 d (p6 b.2 c.row aw)⟩
theorem fB.far{H:Nat}{w0 W W':World}{k q:Nat}{v:Value}{xs:List am}(b:fB H w0 W k q v xs)(c:W.grownBy W' v.ownBlock)(j:Nat)(e:j<H+9)(d:j<W.heap.size):W'.heap[j]?=W.heap[j]?:=
 c.block j d (fun a=>by have:=(bX b.own.row j a.symm).1;omega)
theorem fB.add{H:Nat}{w0 W W':World}{k q:Nat}{v f:Value}{xs:List am}{y:am}(a:fB H w0 W k q v xs)(p:jS W (H+9) y)(b:W.grownBy W' v.ownBlock)(l:W'.ownsRow (H+9) 68 6 f (xs.length+1) (xs.flatMap typeRow++typeRow y))(o:nL 65536 y.t)(n:xs.length+1<=k)(t:H+9<=W.heap.size):
 fB H w0 (W'.setCell ⟨H+1,0,none⟩ f) k q f (xs++[y])/\Rd H W (W'.setCell ⟨H+1,0,none⟩ f):=by
 have g:∀j,j≠H+1->(W'.setCell ⟨H+1,0,none⟩ f).heap[j]?=W'.heap[j]?:=fun j e=>eG _ _ _ _ e;have c:=fun j (e:j<H+9)=>a.far b j e ad;have r:=a.own.add p b l;have m:Below H w0 W':=⟨b.os.trans a.below.os,b.tape.trans a.below.tape,b.output.trans a.below.output,aR a.below.size b.size,fun j e=>(c j ad).trans (a.below.block j e)⟩;exact⟨⟨(g _ ad).trans ((c _ ad).trans a.res),ue _ ((c _ ad).trans a.sch),(g _ ad).trans ((c _ ad).trans a.num),(g _ ad).trans ((c _ ad).trans a.wr),r.kept (ry W' _ _) (fun k h=>by cases h;omega),m.setCell (by show H<=H+1;omega) _,by have:=b.size;simp[World.setCell];omega,fun x d=>by
  rcases fe.1 d with d|d
  ·exact a.lims x d
  ·simp at d;subst d;exact o,by rw[cm];exact n⟩,
  ⟨by have:=b.size;simp[World.setCell];omega,fun j s i=>(g j ad).trans (c j i)⟩⟩
theorem nL.mono{n m:Nat}{t:ax}(b:nL n t)(c:n<=m):nL m t:=⟨aR b.name c,aR b.label c,aR b.key c,aR b.attrs c,fun a d=>aR (b.attr a d) c,fun a d=>aR (b.sym a d) c⟩
def PI(H:Nat)(w0:World)(L:List Bytes)(k:Nat)(W:World):Prop:=∃o c xs,fB H w0 W k 0 (.slice o xs.length c) xs/\Hid (dY 0 [] L=dY k (xs.map am.t) (L.drop k))
def PX(H:Nat)(w0:World)(L:List Bytes)(c:Code)(k:Nat)(W:World):Prop:=c=.exit 0/\1<=k/\k<=L.length/\∃v xs,fB H w0 W k k v xs/\(dY 0 [] L).2=k
theorem PI.box{H:Nat}{w0 W:World}{L:List Bytes}{k:Nat}(a:PI H w0 L k W)(b:Nat)(d:H+4<=b)(e:b<H+9)(u:Value):PI H w0 L k (W.setCell ⟨b,0,none⟩ u):=by obtain⟨o,c,xs,g,f⟩:=a;exact⟨o,c,xs,g.box b d e u,f⟩
theorem PI.put{H:Nat}{w0 W:World}{L:List Bytes}{k:Nat}(a:PI H w0 L k W)(b:Nat)(d:H+4<=b)(e:b<H+9)(u:Obj):PI H w0 L k (W.putObj b u):=by obtain⟨o,c,xs,g,f⟩:=a;exact⟨o,c,xs,g.put b d e u,f⟩
theorem PI.grow{H:Nat}{w0 W W':World}{L:List Bytes}{k:Nat}(a:PI H w0 L k W)(b:Below W.heap.size W W'):PI H w0 L k W':=by obtain⟨o,c,xs,e,d⟩:=a;exact⟨o,c,xs,e.grow b,d⟩
theorem PX.put{H:Nat}{w0 W:World}{L:List Bytes}{c:Code}{k:Nat}(f:PX H w0 L c k W)(b:Nat)(g:H+4<=b)(h:b<H+9)(u:Obj):PX H w0 L c k (W.putObj b u):=by obtain⟨a,d,e,v,xs,j,i⟩:=f;exact⟨a,d,e,v,xs,j.put b g h u,i⟩
theorem BV{k:Nat}{a:List ax}{x:Bytes}{r:List Bytes}(b:nE x=false):dY k a (x::r)=dY (k+1) a r:=by
 conv=>lhs;unfold dY
 rw[ap (by simp[b])]
theorem JQ{k:Nat}{a:List ax}{x:Bytes}{r:List Bytes}{t:ax}(b:nE x=true)(c:my x=some t):dY k a (x::r)=dY (k+1) (a++[t]) r:=by
 conv=>lhs;unfold dY
 rw[au b,c]
theorem JR{k:Nat}{a:List ax}{x:Bytes}{r:List Bytes}(b:nE x=true)(c:my x=none):dY k a (x::r)=(a,k+1):=by unfold dY;rw[au b,c]
theorem BW{L:List Bytes}{k:Nat}{x:Bytes}(b:L[k]?=some x):L.drop k=x::L.drop (k+1):=by obtain⟨c,a⟩:=aP.1 b;rw[mZ c,a]
theorem JS:(prog.info? 68).map (fun i=>(i.zero,i.size,i.bytes))=some (some mA,6,104):=ay
theorem uh{H:Nat}{W W':World}(a:Rd H W W'):ud (H+1+1+1+1+1) (H+1+1+1+1) (H+1+1+1+1+2) (H+7) W W':=
 ⟨a.size,⟨a.block _ ad ad,a.block _ ad ad,a.block _ ad ad⟩,a.block _ ad ad,a.block _ ad ad⟩
theorem JT{w b:World}{s:Bytes}(f:b=iN ((((w.alloc (Obj.cells #[Value.slice none 0 0] 24)).alloc (Obj.cells #[Value.slice none 0 0] 24)).alloc (Obj.cells #[Value.int IntKind.i64 0] 3)).alloc (Obj.cells #[Value.int IntKind.i64 0] 3)) [.cells #[.string ⟨s.toArray⟩] 9,.cells #[.string ⟨#[10]⟩] 9,.cells #[.int .i64 0] 3]):
 b.heap.size=w.heap.size+7/\fB w.heap.size w b 0 0 (.slice none 0 0) []/\kY b (w.heap.size+1+1+1+1+1) (w.heap.size+1+1+1+1) (w.heap.size+1+1+1+1+2) s:=by
 obtain⟨os,a⟩:∃os:List Obj,os=[.cells #[.slice none 0 0] 24,.cells #[.slice none 0 0] 24,.cells #[.int .i64 0] 3,.cells #[.int .i64 0] 3,.cells #[.string ⟨s.toArray⟩] 9,.cells #[.string ⟨#[10]⟩] 9,.cells #[.int .i64 0] 3]:=⟨_,rfl⟩;have d:b=iN w os:=by rw[f,a];rfl
 have c:∀i,i<7->b.heap[w.heap.size+i]?=os[i]?:=fun i h=>by rw[d];exact wv w os i (by rw[a];exact h)
 have j:b.heap.size=w.heap.size+7:=by rw[d,wJ,a];rfl
 have g:Below w.heap.size w b:=by rw[d];exact ww _ _
 refine⟨j,⟨(c 0 ad).trans (by rw[a];rfl),(c 1 ad).trans (by rw[a];rfl),(c 2 ad).trans (by rw[a];rfl),(c 3 ad).trans (by rw[a];rfl),⟨cR _ _ _ _,fun x e=>by simp at e⟩,g,ad,fun x e=>by simp at e,aB _⟩,⟨(c 5 ad).trans (by rw[a];rfl),(c 4 ad).trans (by rw[a];rfl),(c 6 ad).trans (by rw[a];rfl)⟩⟩
theorem JU{x:Bytes}(e:x.all ew=false):∃c t,aT x=c::t:=by
 cases b:aT x with
 |cons c t=>exact⟨c,t,rfl⟩
 |nil=>
  have f:x.all ew=true:=by
   unfold aT at b;clear e;induction x with
   |nil=>rfl
   |cons a r ih=>
    rw[List.dropWhile_cons]at b;by_cases d:ew a=true
    ·rw[au d]at b
     rw[List.all_cons,d,ih b];rfl
    ·rw[ap d]at b;cases b
  rw[e]at f;cases f
theorem JV{x t:Bytes}{c:UInt8}(b:x.all ew=false)(a:aT x=c::t):nE x= !(c==35):=by unfold nE;rw[b,a];simp[bne]
theorem JW{c:UInt8}(a:(c==35)=true):(((c.toNat:Nat):Int)==35)=true:=by have:=eq_of_beq a;subst this;rfl
theorem JX{c:UInt8}(a:(c==35)=false):(((c.toNat:Nat):Int)==35)=false:=by
 have d:c≠35:=fun b=>by rw[b]at a;exact absurd a aw
 simp only[cW,ne_eq];intro e;exact d (qM.1 (by show c.toNat=35;omega))
theorem xq{W:World}{H t:Nat}{v:Value}(a:W.heap[H]?=some (.cells #[v] t (0,0)))(u:Value)(o:Obj):((W.setCell ⟨H,0,none⟩ u).putObj (H+7) o).heap[H]?=some (.cells #[u] t (0,0)):=
 (dJ ad).trans (ue u a)
theorem JY{W:World}{H:Nat}{v:Value}{xs:List am}(b:kZ W (H+9) v xs)(u:Value)(o:Obj):kZ ((W.setCell ⟨H,0,none⟩ u).putObj (H+7) o) (H+9) v xs:=
 (b.kept (ry W H u) (fun k a=>by cases a;omega)).kept (row:=some (H+7)) ⟨rfl,rfl,rfl,ak,fun k d c=>dJ (fun a=>c (by rw[a]))⟩ (fun k a=>by cases a;omega)
theorem BX{w W:World}{H:Nat}(b:Below H w W)(u:Value)(o:Obj):Below H w ((W.setCell ⟨H,0,none⟩ u).putObj (H+7) o):=by have a:=b.setCell (p:=⟨H,0,none⟩) (aB _) u;exact⟨a.os,a.tape,a.output,by simpa using a.size,fun j c=>(dJ ad).trans (a.block j c)⟩
theorem JZ{w W:World}{H:Nat}(b:Below H w W)(u:Value)(o:Obj):Below H w (((W.setCell ⟨H,0,none⟩ u).drew).putObj (H+7) o):=by have a:=(b.setCell (p:=⟨H,0,none⟩) (aB _) u).drew;exact⟨a.os,a.tape,a.output,by simpa using a.size,fun j c=>(dJ ad).trans (a.block j c)⟩
theorem mC{w:World}{B:Nat}{l:TypeId}{size n:Nat}{o:Option Addr}{c:Nat}{xs:List Value}(d:w.ownsRow B l size (.slice o n c) n xs):cS w o n c size xs:=by
 refine⟨d.1,?_⟩;rcases d.2 with⟨a,m⟩|⟨g,cap,e,a,_,h,q,r,y,s⟩
 ·injection a with a p b
  subst m;subst b;exact⟨aB _,bN,fun d=>ad⟩
 ·injection a with a p b
  subst b;subst a;refine⟨q,r,fun _=>⟨g,0,rfl,aN h,fun j u i=> ?_⟩⟩;rw[<-s]at i;have t:e.toList[j]?=some u:=by obtain⟨x,f⟩:=aP.1 i;rw[List.getElem_take]at f;exact aP.2 ⟨by rw[dx]at x;omega,f⟩
  rw[cE];have v:e[j]?=some u:=by rw[<-Array.getElem?_toList];exact t
  simp[World.cell?,h,v]
theorem BY{w:World}{B:Nat}{o:Option Addr}{c:Nat}{xs:List am}(a:kZ w B (.slice o xs.length c) xs):cn w o c xs:=
 ⟨mC a.row,fun x b=>⟨mC (by have:=(a.each x b).1;unfold cA at this;exact this),mC (by have:=(a.each x b).2;unfold cr at this;exact this)⟩⟩
theorem B8{xs:List am}(c:∀x∈xs,nL 65536 x.t)(e:xs.length<=1048576):ej xs:=
 ⟨e,fun x b=>aR (c x b).name ad,fun x b=>aR (c x b).label ad,fun x b=>aR (c x b).key ad,fun x b=>aR (c x b).attrs ad,fun x b a d=>aR ((c x b).attr a d) ad,fun x b a d=>aR ((c x b).sym a d) ad⟩
theorem B9{w w':World}{r:List ax×Nat×Int}(a:r.1=[])(b:Below w.heap.size w w'):rx r w (.returned (.tuple #[.agg #[.slice none 0 0],.int .i64 (r.2.1:Nat),.int .i64 r.2.2])) w':=
 ⟨[],none,0,a.symm,rfl,⟨⟨rfl,aB _,by unfold maxLen;simp,fun a=>by simp at a⟩,fun x c=>by simp at c⟩,b⟩
theorem J0{s:Bytes}{w w':World}{a:List ax×Nat×Int}{L:List Bytes}{xs:List am}{o:Option Addr}{c H n:Nat}(f:a=lH s)(l:s.length<=65536)(e:L=dn s)(g:dY 0 [] L=dY n (xs.map am.t) [])(d:bW (xs.map am.t)=0)(j:kZ w' H (.slice o xs.length c) xs)(i:Below w.heap.size w w'):
 rx a w (.returned (.tuple #[.agg #[.slice o xs.length c],.int .i64 0,.int .i64 0])) w':=by
 have h:dY 0 [] (dn s)=(xs.map am.t,0):=by rw[<-e,g];unfold dY;rfl
 have b:a=(xs.map am.t,0,0):=by rw[f];unfold lH;rw[ap ad,h,ap ak,ap (by simp[d])]
 exact⟨xs,o,c,by rw[b],by rw[b];rfl,BY j,i⟩
theorem J1{s:Bytes}{w w':World}{a:List ax×Nat×Int}{L:List Bytes}{xs:List am}{n:Nat}(e:a=lH s)(i:s.length<=65536)(d:L=dn s)(f:dY 0 [] L=dY n (xs.map am.t) [])(c:¬bW (xs.map am.t)=0)(h:Below w.heap.size w w'):
 rx a w (.returned (.tuple #[.agg #[.slice none 0 0],.int .i64 0,.int .i64 (bW (xs.map am.t))])) w':=by
 have g:dY 0 [] (dn s)=(xs.map am.t,0):=by rw[<-d,f];unfold dY;rfl
 have b:a=([],0,bW (xs.map am.t)):=by rw[e];unfold lH;rw[ap ad,g,ap ak,au c]
 rw[b];exact B9 rfl h
theorem J2{s:Bytes}{w w':World}{a:List ax×Nat×Int}{L:List Bytes}{k:Nat}(d:a=lH s)(h:s.length<=65536)(c:L=dn s)(e:(dY 0 [] L).2=k)(g:1<=k)(f:Below w.heap.size w w'):
 rx a w (.returned (.tuple #[.agg #[.slice none 0 0],.int .i64 (k:Nat),.int .i64 12])) w':=by
 have b:a=([],k,12):=by rw[d];unfold lH;rw[ap ad,<-c,e,au ad]
 rw[b];exact B9 rfl f
theorem J3(s:Bytes)(w:World)(aq:s.length<=65536)(cl:ep s):
 Calls prog 27 #[.string ⟨s.toArray⟩] w (rx (lH s) w):=by
 obtain⟨c6,R⟩:=aj (lH s);rw[<-R];have bw:decide ((s.length:Int)>65536)=false:=aJ;have b0:=JP s;refine(jF (n:=9)).1 (Fz func27 rfl trivial ?_ rfl);refine vH.2 ?_;simp only[ntmps27,zC,de,ga,Nat.reduceAdd,Nat.reduceSub,zD,zE,zF,zH,lm,fH];go_wp2_with fail
 go_step3
 go_wp2_with fail
 go_step3
 go_wp2_with fail
 refine(b0 _).mono ?_;rintro Q w1 ⟨rfl,rfl⟩;clear b0;go_wp2_with fail
 obtain⟨bl,S⟩:=aj (iN ((((w.alloc (Obj.cells #[Value.slice none 0 0] 24)).alloc (Obj.cells #[Value.slice none 0 0] 24)).alloc (Obj.cells #[Value.int IntKind.i64 0] 3)).alloc (Obj.cells #[Value.int IntKind.i64 0] 3)) [.cells #[.string ⟨s.toArray⟩] 9,.cells #[.string ⟨#[10]⟩] 9,.cells #[.int .i64 0] 3]);obtain⟨j,af,ab⟩:=JT S;rw[<-S];have u:=JI s;obtain⟨L,p⟩:=aj (dn s);refine(vH (n:=9)).1 (JN 9 (w.heap.size+1+1+1+1+1) (w.heap.size+1+1+1+1) (w.heap.size+1+1+1+1+2) s aq rfl ab ad ad (PI w.heap.size w L) (PX w.heap.size w L)
  (fun k W o D=>D.grow az) (fun k W l o a9 bo D=>D.put l ad ad o) (fun c k W l o a9 bo D=>D.put l ad ad o) (fun k W v D=>D.box _ ad ad v) ⟨none,0,[],af,rfl⟩ ?a1 ?assign ?body ?done ?stop)
 case assign=>
  intro l x W c5 E
  gi_wp2
  exact E
 case body=>
  intro l k x W Y ae d1;rw[<-p]at Y u;obtain⟨o,c,xs,a,r⟩:=ae;have b3:=u.2 x (aU Y);have du:=(aP.1 Y).1;have dz:=u.1;have b2:x.length<=65536:=ad;have cG:ep x:=fun d bw=>cl d (b3.2 d bw);have bm:=ai 0 a.num;have b9:W.frozen? ⟨w.heap.size+1+1,0,none⟩=false:=by have:=a.num;simp[World.frozen?,this]
  have bb:=fun w1=>vU ⟨x.toArray⟩ w1 (by rw[ix];omega);rw[show gJ jI (⟨x.toArray⟩:ByteArray).data.toList=x.all ew from rfl]at bb;have bz:=BW Y;have m:Hid (dY 0 [] L=dY k (xs.map am.t) (x::L.drop (k+1))):=by show _=_;rw[<-bz];exact r.out
  have C:IntKind.i64.wrap ((k:Int)+1)=(k:Int)+1:=lp _ ad;have bZ:=a.setNum (k+1) ad (.int .i64 ((k:Int)+1)) aG;have bu:=Rd.set w.heap.size W (w.heap.size+1+1) (.int .i64 ((k:Int)+1)) ad;have b1:w.heap.size+9<=(W.setCell ⟨w.heap.size+1+1,0,none⟩ (.int .i64 ((k:Int)+1))).heap.size:=by simp only[World.setCell,Array.size_modify];omega
  obtain⟨P,c4,X⟩:=bO p u (And.intro bZ (And.intro bu b1));clear bZ bu b1 r bz p u Y b3 S ab af
  gi_wp2
  refine⟨trivial,?_⟩;refine(zJ l (jF.2 (bb _))).mono ?_;rintro Q b5 ⟨rfl,h⟩;have e:=X.out.1.grow h;have ag:=X.out.2.1.trans (Rd.of h X.out.2.2);have a2:w.heap.size+9<=b5.heap.size:=aR X.out.2.2 h.size;clear bb bm b9 X C;cases J:x.all ew with
  |true=>
   have i:nE x=false:=by unfold nE;rw[J];rfl
   have b:=m.o;rw[BV i]at b;have A:=ah b;clear b m J i
   gi_wp2
   refine⟨trivial,?_⟩
   gi_wp2
   rw[j];exact⟨uh ag,o,c,xs,e,A.o⟩
  |false=>
   have bd:=fun w1=>Jy x w1 b2 cG;obtain⟨B,a3,av⟩:=JU J;have i:=JV J av;have g:=BF x;rw[av]at g;cases K:(B==35)with
   |true=>
    rw[K]at i;have b:=m.o;rw[BV i]at b;have A:=ah b;have bc:0<(⟨(B::a3).toArray⟩:ByteArray).size:=by rw[ix];simp
    have co:((((⟨(B::a3).toArray⟩:ByteArray)[0]'bc).toNat:Int)==35)=true:=JW K;clear b m J i av K bd
    gi_wp2
    refine⟨trivial,?_⟩;refine(zJ l (jF.2 (g _))).mono ?_;rintro Q bg ⟨rfl,F⟩;have M:=e.grow F;have I:=ag.trans (Rd.of F a2);clear g
    gi_wp2
    rw[j];exact⟨uh I,o,c,xs,M,A.o⟩
   |false=>
    rw[K]at i;have bc:0<(⟨(B::a3).toArray⟩:ByteArray).size:=by rw[ix];simp
    have co:((((⟨(B::a3).toArray⟩:ByteArray)[0]'bc).toNat:Int)==35)=false:=JX K;have bi:=ah i;clear J i av K
    gi_wp2
    refine⟨trivial,?_⟩;refine(zJ l (jF.2 (g _))).mono ?_;rintro Q bg ⟨rfl,F⟩;have M:=e.grow F;have I:=ag.trans (Rd.of F a2);have O:w.heap.size+9<=bg.heap.size:=aR a2 F.size;clear g e ag a2 h F
    gi_wp2
    refine⟨trivial,?_⟩;refine(zJ l (jF.2 (bd _))).mono ?_;rintro Q f a0;clear bd;cases H:my x with
    |none=>
     rw[H]at a0;obtain⟨T,q⟩:=a0;unfold mA at T;subst T;have b:=m.o;rw[JR bi.o H]at b;have V:=M.grow q;have al:=I.trans (Rd.of q O);have A:=ah b;clear b H m M I;have G:=V.grow ((aA _ f).alloc (aB _) (.cells #[.string ⟨#[]⟩,.string ⟨#[]⟩,.slice none 0 0,.string ⟨#[]⟩,.bool false,.slice none 0 0] 68));have cc:=al.trans (Rd.of ((aA _ f).alloc (aB _) (.cells #[.string ⟨#[]⟩,.string ⟨#[]⟩,.slice none 0 0,.string ⟨#[]⟩,.bool false,.slice none 0 0] 68)) (aR O q.size));have bm:=ai 0 G.num;have a6:=ai 0 G.wr;have c9:=ug G.wr
     gi_wp2
     rw[j];have N:=G.setWr (k+1);refine⟨uh (cc.trans (Rd.set _ _ _ _ ad)),rfl,ad,ad,_,xs,N,?_⟩;have:=A.o;rw[this]
    |some t=>
     rw[H]at a0;obtain⟨⟨y,be,T,bB⟩,q⟩:=a0;unfold dj typeRow at T;subst T;have b:=m.o;rw[JQ bi.o H,<-be]at b;have g:=JH H;rw[<-be]at g;have g:=g.mono b2;have V:=M.grow q;have al:=I.trans (Rd.of q O);have A:=ah b;clear b H m be M I;obtain⟨c2,cp,cN,c0,c1⟩:=cL JS;have ds:=a.few;have bE:jS f (w.heap.size+9) y:=bB.lower O;have cx:w.heap.size+9<=f.heap.size:=aR O q.size;clear bB q O a;have G:=V.grow ((aA _ f).alloc (aB _) (.cells #[.string ⟨y.t.name.toArray⟩,.string ⟨y.t.label.toArray⟩,.slice y.ao y.t.attrs.length y.ac,.string ⟨y.t.key.toArray⟩,.bool y.t.text,.slice y.no y.t.nodes.length y.nc] 68));have a5:=ai 0 G.sch;have an:Below f.heap.size f ((f.alloc (.cells #[.string ⟨y.t.name.toArray⟩,.string ⟨y.t.label.toArray⟩,.slice y.ao y.t.attrs.length y.ac,.string ⟨y.t.key.toArray⟩,.bool y.t.text,.slice y.no y.t.nodes.length y.nc] 68)).alloc (.cells #[.string ⟨y.t.name.toArray⟩,.string ⟨y.t.label.toArray⟩,.slice y.ao y.t.attrs.length y.ac,.string ⟨y.t.key.toArray⟩,.bool y.t.text,.slice y.no y.t.nodes.length y.nc] 68)):=az.alloc ak _;have N:=V.grow an;have ce:=al.trans (Rd.of an cx);have cq:=bE.grow an;have bf:((f.alloc (.cells #[.string ⟨y.t.name.toArray⟩,.string ⟨y.t.label.toArray⟩,.slice y.ao y.t.attrs.length y.ac,.string ⟨y.t.key.toArray⟩,.bool y.t.text,.slice y.no y.t.nodes.length y.nc] 68)).alloc (.cells #[.string ⟨y.t.name.toArray⟩,.string ⟨y.t.label.toArray⟩,.slice y.ao y.t.attrs.length y.ac,.string ⟨y.t.key.toArray⟩,.bool y.t.text,.slice y.no y.t.nodes.length y.nc] 68)).heap.size=f.heap.size+2:=ak;have cu:=N.own.row;clear V al bE G an
     gi_wp2_with (first
      |(gi_at_builtin;go_must (refine wpListIn_append_own _ rfl _ _ 22 rfl (w.heap.size+9) 68 c2 mA 6 104 underlying22 cp cN c0 c1 rfl aw _ _ _ rfl cu ⟨f.heap.size+1,0,none⟩ 1 1 (typeRow y) rfl rfl (dt _ (typeRow y) _ _ ak) (fun z b4=>by simp[typeRow]at b4;rcases b4 with rfl|rfl|rfl|rfl|rfl|rfl<;>rfl) bN ad (by rw[bf];omega) ?_);intro d2 bg bF bA d0;obtain⟨c3,b6,rfl⟩:=cJ bF;have a7:=(N.far bA _ ad (by rw[bf];omega)).trans N.sch;have c8:=ug a7;have a5:=ai 0 a7;clear a7)
      |fail)
     rw[j];obtain⟨cs,ch⟩:=N.add cq bA bF g ad (by rw[bf];omega);refine⟨uh (ce.trans ch),c3,b6,xs++[y],?_,?_⟩
     ·rw[cm];exact cs
     ·have:=A.o
      rw[fd];exact this
 case done=>
  intro W ae E;rw[<-p]at ae u;obtain⟨o,c,xs,a,r⟩:=ae;have b:=r.out;rw[List.drop_length]at b;have a6:=ai 0 a.wr;have a5:=ai 0 a.sch;obtain⟨Z,aa,P⟩:=bO R b p;clear R b r p S ab af;have ba:=BY a.own;have bt:ej xs:=B8 a.lims (by have:=a.few;have:=u.1;omega);have B:=ai 0 a.res;go_wp2_with fail
  refine(check_any xs o c W ba bt).mono ?_;rintro Q b5 ⟨rfl,h⟩;have e:=a.grow h;have dr:=ba.below h;have bq:=(h.block _ (aN E)).trans E;have c7:=ai 0 e.sch;have b7:=ai 0 e.res;have b8:=ug e.res;clear a6 a5 B ba bt a E h;by_cases ao:bW (xs.map am.t)=0
  ·have a4:=ah ao
   rw[ao];clear ao;go_wp2_with fail
   refine⟨ak,.inl ⟨_,_,rfl,zK (by rw[<-j];exact(eG _ _ _ _ (by show bl.heap.size≠w.heap.size;omega)).trans bq),?_⟩⟩;have C:=ai 0 (xq e.res (.slice o xs.length c) (.deferred none));refine⟨.tuple #[.agg #[.slice o xs.length c],.int .i64 0,.int .i64 0],by simp[results,results27,go_sem,C,Result.andThen],?_⟩;exact J0 Z.o aq P.o aa.o a4.o (JY e.own _ _) (BX e.below _ _)
  ·have a4:=ah ao
   go_wp2_with fail
   refine⟨ak,.inl ⟨_,_,rfl,zK (by rw[<-j];exact(eG _ _ _ _ (by show bl.heap.size≠w.heap.size;omega)).trans bq),?_⟩⟩;have C:=ai 0 (xq e.res (.slice none 0 0) (.deferred none));refine⟨.tuple #[.agg #[.slice none 0 0],.int .i64 0,.int .i64 (bW (xs.map am.t))],by simp[results,results27,go_sem,C,Result.andThen],?_⟩;exact J1 Z.o aq P.o aa.o a4.o (BX e.below _ _)
 case stop=>
  intro c k W ci E;obtain⟨rfl,a9,bo,v,xs,a,r⟩:=ci;have a6:=ai 0 a.wr;obtain⟨Z,aa,P⟩:=bO R r p;clear R r p S ab af u;refine vH.2 ?_;go_wp2_with fail
  have b7:=ai 0 a.res;have b8:=ug a.res;go_region
  go_wp2_with fail
  refine⟨ak,.inl ⟨_,_,rfl,zK (by rw[j];exact(eG _ _ _ _ (by show w.heap.size+7≠w.heap.size;omega)).trans (by rw[<-j];exact E)),?_⟩⟩;rw[j];have C:(((W.setCell ⟨w.heap.size,0,none⟩ (.slice none 0 0)).drew).putObj (w.heap.size+7) (.deferred none)).cell? ⟨w.heap.size,0,none⟩=#[Value.slice none 0 0][0]?:=ai 0 (xq a.res (.slice none 0 0) (.deferred none));refine⟨.tuple #[.agg #[.slice none 0 0],.int .i64 (k:Nat),.int .i64 12],by simp[results,results27,go_sem,C,Result.andThen],?_⟩;exact J2 Z.o aq P.o aa.o a9 (JZ a.below _ _)
end
end Go.Proofs.YtbacloblanpghaaGreatDoor
