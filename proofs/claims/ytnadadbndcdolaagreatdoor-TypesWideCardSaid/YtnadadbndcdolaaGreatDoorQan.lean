import Derived.Test.YtnadadbndcdolaaGreatDoorQam
set_option linter.unusedVariables false
set_option linter.unusedSimpArgs false
set_option maxRecDepth 100000
set_option maxHeartbeats 0
namespace Go.Proofs.YtnadadbndcdolaaGreatDoor
open Go.RowKit Tryz
section
def dw(n:Nat)(a:List aj):Prop:=∀m∈a,m.sym.length<=n
theorem dw.one(n:Nat)(m:aj)(b:m.sym.length<=n):dw n [m]:=by intro x a;simp at a;subst a;exact b
theorem dw.append{n:Nat}{a b:List aj}(d:dw n a)(e:dw n b):dw n (a++b):=by
 intro m f;rcases fA.1 f with c|c
 ·exact d m c
 ·exact e m c
theorem dw.moved{n k:Nat}{a:List aj}(b:dw n a):dw n (a.map (eH k)):=by
 intro m c;obtain⟨x,d,rfl⟩:=fH.1 c;have:=b x d;unfold eH;split
 ·exact this
 ·split<;>exact this
theorem Lu{n:Nat}{c:Int}{i:Nat}{out p:List aj}(a:dw n out)(b:dw n p):dw n (jr c i out p):=by
 unfold jr;split
 ·exact a.append b.moved
 ·exact(a.append b.moved).append (dw.one _ _ (aZ _))
theorem Lv{n:Nat}(c:Int):∀(ps:List (List aj)) (i:Nat) (out:List aj),dw n out->(∀p∈ps,dw n p)->dw n (gM c i out ps):=by
 intro ps;induction ps with
 |nil=>intro i out a _;exact a
 |cons q t ih=>intro i out a b;exact ih (i+1) (jr c i out q) (Lu a (b q (dM ..))) (fun p d=>b p (dt _ d))
theorem yX{n:Nat}{b e:Int}{ps:List (List aj)}{l:List aj}(d:∀p∈ps,dw n p)(a:dX b e ps=some l):dw n l:=by
 unfold dX at a;split at a
 ·injection a with a;subst a;exact dw.one _ _ (aZ _)
 ·split at a
  ·cases a
  ·injection a with a;subst a;exact Lv b ps 0 [] (fun m c=>by simp at c) d
theorem vJ{n:Nat}{big:Bool}{a:Option (List aj)}(b:∀l,a=some l->dw n l):dw n (fD big a).1:=by
 unfold fD;split
 ·exact dw.one _ _ (aZ _)
 ·split
  ·exact dw.one _ _ (aZ _)
  ·exact b _ rfl
theorem DC{n:Nat}{l:List aj}(a:dw n l):dw n (ee l):=a.append (dw.one _ _ (aZ _))
def qI(l:Bytes)(f:da->eG):Prop:=∀b a c,f b=some (a,c)->dw l.length a
theorem Lw{l:Bytes}{E:da->eG}(d:qI l E):qI l (ml l E):=by
 intro h f i a;unfold ml at a;split at a
 ·injection a with a;injection a with b c;subst b;exact dw.one _ _ (aZ _)
 ·split at a
  ·split at a
   ·injection a with a;injection a with b c;subst b;exact dw.one _ _ (aZ _)
   ·split at a
    ·cases a
    ·rename_i g st' e
     split at a
     ·injection a with a;injection a with b c;subst b;exact d _ _ _ e
     ·cases a
  ·split at a
   ·cases a
   ·injection a with a;injection a with b c;subst b
    refine dw.one _ _ ?_;simp only;unfold iO;split
    ·simp
    ·split
     ·refine aJ (xP _).length_le ?_
      rw[ln];omega
     ·simp
theorem Lx(l:Bytes){n:Nat}:∀(f:Nat) (d:List aj) (e:da),dw n d->dw n (kQ l f d e).1:=by
 intro f;induction f with
 |zero=>intro d e b;exact b
 |succ f ih=>
  intro d e b;unfold kQ;split
  ·exact ih _ _ (vJ (fun x a=>by injection a with a;subst a;exact DC b))
  ·split
   ·exact ih _ _ (vJ (fun x a=>yX (fun p c=>by simp at c;rcases c with rfl|rfl;exact b;exact DC b) a))
   ·split
    ·exact ih _ _ (vJ (fun x a=>yX (fun p c=>by simp at c;rcases c with rfl|rfl;exact b;exact dw.one _ _ (aZ _)) a))
    ·exact b
theorem Ly{l:Bytes}{E:da->eG}(c:qI l E):qI l (lC l E):=by
 intro g f h a;unfold lC at a;split at a
 ·cases a
 ·rename_i e st' d
  have b:=Lx l (l.length+1) e st' (Lw c _ _ _ d);injection a with a
  rw[a]at b;exact b
theorem DD{l:Bytes}{part:da->eG}(c:UInt8)(u s:Int)(q:qI l part):∀(f:Nat) (parts:List (List aj)) (g:da) d h,(∀p∈parts,dw l.length p)->gX l c u s part f parts g=some (d,h)->dw l.length d:=by
 intro f;induction f with
 |zero=>intro parts g d h j a;simp[gX]at a
 |succ f ih=>
  intro parts g d h j a;unfold gX at a;split at a
  ·cases a
  ·rename_i t st' o
   have i:=q _ _ _ o;have m:∀p∈parts++[t],dw l.length p:=fun p b=>by
    rcases fA.1 b with b|b
    ·exact j p b
    ·simp at b;subst b;exact i
   split at a
   ·exact ih _ _ _ _ m a
   ·split at a
    ·injection a with a;injection a with e n;subst e;exact i
    ·injection a with a;injection a with e n;subst e;exact vJ (fun x r=>yX m r)
theorem Lz(l:Bytes):∀n,qI l (n7 l n):=by
 intro n;induction n with
 |zero=>intro d c e a;simp[n7]at a
 |succ n ih=>
  intro d c e a;exact DD 124 4 0 (fun d c e a=>DD 44 3 1 (Ly ih) _ _ _ _ _ (fun p b=>by simp at b) a) _ _ _ _ _ (fun p b=>by simp at b) a
theorem LA(l:Bytes):dw l.length (n8 l).1:=by
 unfold n8;split
 ·intro m a;simp at a
 ·split
  ·intro m a;simp at a
  ·rename_i c d b
   have:=Lz l _ _ _ _ b;split
   ·intro m a;simp at a
   ·split
    ·intro m a;simp at a
    ·split
     ·intro m a;simp at a
     ·exact this
structure og(n:Nat)(t:aw):Prop where
 name:t.name.length<=n
 label:t.label.length<=n
 key:t.key.length<=n
 attrs:t.attrs.length<=n
 attr:∀a∈t.attrs,a.length<=n
 sym:∀m∈t.nodes,m.sym.length<=n
theorem DE(a:Bytes):(mn a).length<=a.length:=by
 have b:=pD a;unfold mn;split
 ·simp
 ·rename_i c t d
  rw[d]at b;simp at b;split<;>simp<;>omega
theorem LC(n:Nat):∀(f:Nat) (e:List Bytes) (c:Bytes) (l:List Bytes) (q:Bytes),c.length<=n->(∀a∈e,a.length<=n)->e.length+c.length<=n->gY f e c=some (l,q)->(∀a∈l,a.length<=n)/\l.length<=n/\q.length<=n:=by
 intro f;induction f with
 |zero=>
  intro e c l q i h p b;simp[gY]at b;rw[<-b.1,<-b.2];exact⟨h,ad,aJ (ku c) i⟩
 |succ f ih=>
  intro e c l q i h p b;by_cases g:(aW c).head?=some 64
  ·cases j:mp (aW c)with
   |true=>
    rw[yR g j]at b;have r:=yQ g;have s:=DE (aW c);have t:=ku c;refine ih _ _ _ _ ad (fun a d=> ?_) aR b;rcases fA.1 d with d|d
    ·exact h a d
    ·simp at d;subst d;omega
   |false=>rw[yS g j]at b;cases b
  ·rw[yT g]at b
   injection b with b
   injection b with m o
   subst m;subst o;exact⟨h,ad,aJ (ku c) i⟩
theorem LD{s:Bytes}{t:aw}(b:nw s=some t):og s.length t:=by
 unfold nw at b;simp only at b;have A:=jN s;have B:=jN (bS s);have C:=jN (bS (bS s));have D:=jN (bS (bS (bS s)));have w:=pD (bS s);have x:=pD (bS (bS (bS s)));split at b
 ·cases b
 ·split at b
  ·cases b
  ·split at b
   ·cases b
   ·split at b
    ·cases b
    ·split at b
     ·cases b
     ·rename_i l j n
      have h:=LC s.length _ _ _ _ _ ad (fun a b=>by simp at b) aR n;split at b
      ·cases b
      ·rename_i k g d
       have o:k.length<=s.length/\g.length<=s.length:=by
        unfold nu at d;split at d
        ·split at d
         ·injection d with d
          injection d with f e
          subst f;subst e;have a1:=jN j;have p:=DE (bS j);have q:=jN (bS j);omega
         ·cases d
        ·injection d with d
         injection d with f e
         subst f;subst e;exact⟨aZ _,h.2.2⟩
       split at b
       ·cases b
       ·rename_i z y c
        injection b with b
        subst b;refine⟨by simp only;omega,by simp only;omega,o.1,h.2.1,h.1,?_⟩;unfold pA at c;split at c
        ·split at c
         ·injection c with c
          injection c with f e
          subst e;intro m i;have r:=LA (lD (aW g)) m i;have u:=DA (aW g);have v:=ku g;omega
         ·cases c
        ·split at c
         ·injection c with c
          injection c with f e
          subst e;intro m i;simp at i
         ·cases c
theorem LE(s:Bytes):(dv s).length<=s.length+1/\∀x∈dv s,x.length<=s.length/\∀c∈x,c∈s:=by
 induction s with
 |nil=>simp[dv]
 |cons c t ih=>
  simp only[dv];split
  ·refine⟨by simp;exact ih.1,fun x a=> ?_⟩
   rcases du.1 a with rfl|a
   ·simp
   ·have:=ih.2 x a
    exact⟨aR,fun d b=>dt _ (this.2 d b)⟩
  ·split
   ·exact⟨ak,fun x a=>by simp at a;subst a;simp⟩
   ·rename_i f g e
    rw[e]at ih;refine⟨by have:=ih.1;simp at this⊢;omega,fun x a=> ?_⟩;rcases du.1 a with rfl|a
    ·have:=ih.2 f (dM ..)
     refine⟨by simp;exact this.1,fun d b=> ?_⟩;rcases du.1 b with rfl|b
     ·exact dM ..
     ·exact dt _ (this.2 d b)
    ·have:=ih.2 x (dt _ a)
     exact⟨aR,fun d b=>dt _ (this.2 d b)⟩
open Go.RowKit Go.Shelf
attribute [local go_sem] uC
theorem DF:∀l:Bytes,Lib.index l [10]= -1->dv l=[l]
 |[],_=>rfl
 |c::t,a=>by
  rw[Lib.index]at a;by_cases b:c=10
  ·subst b;simp[List.isPrefixOf]at a
  ·have e:((10:UInt8)==c)=false:=by simpa using fun d:(10:UInt8)=c=>b d.symm
   have f:([10]:Bytes).isPrefixOf (c::t)=false:=by show((10:UInt8)==c&&_)=false;rw[e];rfl
   rw[f]at a;simp only[j8,jl]at a;have i:=Lib.index_ge t [10];have h:Lib.index t [10]= -1:=by apply ei;intro g;rw[au (by simpa using g)]at a;omega
   have:=DF t h;simp only[dv];rw[au b,this]
theorem DG:∀(l:Bytes) (i:Nat),Lib.index l [10]=i->i<l.length/\dv l=l.take i::dv (l.drop (i+1))
 |[],i,a=>by rw[Lib.index]at a;simp at a
 |c::t,i,a=>by
  rw[Lib.index]at a;by_cases b:c=10
  ·subst b
   simp[List.isPrefixOf]at a;have:i=0:=ad;subst this;simp[dv]
  ·have f:((10:UInt8)==c)=false:=by simpa using fun e:(10:UInt8)=c=>b e.symm
   have g:([10]:Bytes).isPrefixOf (c::t)=false:=by show((10:UInt8)==c&&_)=false;rw[f];rfl
   rw[g]at a;simp only[j8,jl]at a;have h:=Lib.index_ge t [10];by_cases d:Lib.index t [10]= -1
   ·rw[ay (by simpa using d)]at a;omega
   ·rw[au (by simpa using d)]at a
    obtain⟨j,rfl⟩:∃j,i=j+1:=⟨i-1,ad⟩;have:=DG t j ad;refine⟨aR,?_⟩;simp only[dv];rw[au b,this.2];simp
theorem LF(l:Bytes):Lib.index l [10]= -1∨∃i:Nat,Lib.index l [10]=i:=by
 have:=Lib.index_ge l [10];by_cases a:Lib.index l [10]= -1
 ·exact .inl a
 ·exact .inr ⟨(Lib.index l [10]).toNat,ad⟩
def yY(b:Nat)(w:World):Nat:=match w.cell? ⟨b,0,none⟩with|some (.string s)=>s.size|_=>0
theorem DH{b:Nat}{w:World}{l:Bytes}(a:w.heap[b]?=some (.cells #[.string ⟨l.toArray⟩] 9 (0,0))):yY b w=l.length:=by unfold yY;rw[bs w b 0 _ _ _ a];exact iQ l
structure lH(w:World)(Bp Bs Bv:Nat)(l:Bytes):Prop where
 p:w.heap[Bp]?=some (.cells #[.string ⟨#[10]⟩] 9 (0,0))
 s:w.heap[Bs]?=some (.cells #[.string ⟨l.toArray⟩] 9 (0,0))
 v:w.heap[Bv]?=some (.cells #[.int .i64 0] 3 (0,0))
def mx(a b c:Nat)(w w':World):Prop:=w'.heap[a]?=w.heap[a]?/\w'.heap[b]?=w.heap[b]?/\w'.heap[c]?=w.heap[c]?
theorem lH.kept{w w':World}{a b c:Nat}{l:Bytes}(d:lH w a b c l)(k:mx a b c w w'):lH w' a b c l:=⟨k.1.trans d.p,k.2.1.trans d.s,k.2.2.trans d.v⟩
theorem lH.set{w:World}{c a d:Nat}{l:Bytes}(b:lH w c a d l)(h:c≠a)(i:d≠a)(f:Bytes):lH (w.setCell ⟨a,0,none⟩ (.string ⟨f.toArray⟩)) c a d f:=by
 refine⟨(fQ _ _ _ _ h).trans b.p,?_,(fQ _ _ _ _ i).trans b.v⟩;have e:=aU b.s;have g:w.heap[a]=.cells #[.string ⟨l.toArray⟩] 9 (0,0):=by have:=b.s;simpa[lj e]using this
 show(w.heap.modify a _)[a]?=_
 rw[lj (by simpa using e),xH,g];rfl
theorem LG(l:Bytes)(w:World):Calls prog 178 #[.string ⟨l.toArray⟩,.string ⟨#[10]⟩] w fun a w'=>a=.returned (.int .i64 (Lib.index l [10]))/\w'=w:=by refine(strings_Index_one ⟨l.toArray⟩ 10 w).mono ?_;rintro a w' ⟨rfl,rfl⟩;exact⟨by rw[Lib.index_one],rfl⟩
theorem LH(m l c b n:Nat)(s:Bytes)(af:s.length<=65536)(f D:Nat->World->Prop)(T:∀k W v,f k W->f k (W.setCell ⟨b,0,none⟩ v))
 (H:∀k x W,(dv s)[k]?=some x->f k W->YieldAt Fence.wide (m-1) prog l #[.string ⟨x.toArray⟩] W fun d W'=>(d=.returned (.bool true)/\f (k+1) W'/\mx c b n W W')∨(d=.returned (.bool false)/\D (k+1) W'))
 (W:World) (F:lH W c b n s) (M:c≠b) (N:n≠b) (S:f 0 W):
 CallsIn Fence.wide m prog 176 #[.func (.yield l) #[] #[],.pointer (some ⟨c,0,none⟩),.pointer (some ⟨b,0,none⟩),.pointer (some ⟨n,0,none⟩)] W fun d W'=>(∃v,d=.returned v)/\(f (dv s).length W'∨∃k,D k W'):=by
 have ab:1<=m∨True:=.inr trivial;have R:=bs W c 0 _ _ _ F.p;have ag:(⟨#[10]⟩:ByteArray).size=1:=rfl;refine callsIn_of_wp func176 rfl trivial ?_ rfl;simp only[ntmps176,Bm,db,ge,Nat.reduceAdd,Nat.reduceSub,Bn,Bo,Br,Bt,mS,jf]
 gi_wp2
 clear R
 gi_loopw [] (fun wr=>∃(k:Nat) (a:Bytes),a.length<=s.length/\lH wr c b n a/\f k wr/\Hid ((dv s).drop k=dv a)) (fun wr=>yY b wr)
 case atStart=>exact⟨0,s,az _,F,S,rfl⟩
 case round=>
  obtain⟨k,a,ae,p,G,t⟩:=hrel;have d1:=bs wr c 0 _ _ _ p.p;have d2:=bs wr b 0 _ _ _ p.s;have d3:=bs wr n 0 _ _ _ p.v;have w:=fun e=>LG a e;rcases LF a with j|⟨i,j⟩
  ·have r:=DF a j
   have h:(dv s)[k]?=some a/\k+1=(dv s).length:=by
    have:=t.o;rw[r]at this;have o:((dv s).drop k)[0]?=some a:=by rw[this];rfl
    rw[List.getElem?_drop,jX]at o;have E:=jk List.length this;rw[ln]at E;simp at E;exact⟨o,ad⟩
   obtain⟨fn,tmps,assign,body,O,A⟩:=H k a wr h.1 G;have L:=h.2;rw[j]at w;have Q:=ah L;clear j r h L t
   gi_wp2
   refine⟨trivial,(fun g=>(by cases g)),?_⟩;refine(j9.2 (w _)).mono ?_;rintro d w' ⟨rfl,rfl⟩
   gi_wp2
   refine⟨(fun g=>(by cases g)),?_⟩;refine A.mono ?_;rintro d u (⟨rfl,y,J⟩|⟨rfl,z⟩)
   ·gi_wp2
    go_end0
    exact⟨⟨_,rfl⟩,.inl (by rw[<-Q.o];exact y)⟩
   ·gi_wp2
    go_end0
    exact⟨⟨_,rfl⟩,.inr ⟨_,z⟩⟩
  ·obtain⟨aa,r⟩:=DG a i j
   have h:(dv s)[k]?=some (a.take i)/\(dv s).drop (k+1)=dv (a.drop (i+1)):=by
    have:=t.o;rw[r]at this;have o:((dv s).drop k)[0]?=some (a.take i):=by rw[this];rfl
    rw[List.getElem?_drop,jX]at o;exact⟨o,by rw[<-List.drop_drop,this];rfl⟩
   obtain⟨fn,tmps,assign,body,O,A⟩:=H k (a.take i) wr h.1 G;have X:=fun e=>Dt a i ad e;have V:∀e,(Instr.slice 9 (.string ⟨a.toArray⟩) (some (.int .i64 ((i:Int)+1))) none none).run prog e=.ok (.string ⟨(a.drop (i+1)).toArray⟩) e:=fun e=>yO a (i+1) ad e;rw[j]at w;have Z:decide ((i:Int)<0)=false:=bK;have I:(a.drop (i+1)).length<a.length:=by rw[ln];omega
   have C:=ah h.2;have K:=DH p.s;generalize a.take i=fr at O X;generalize a.drop (i+1)=B at V I C;have P:=ah K;clear j r h t K
   gi_wp2
   refine⟨trivial,(fun g=>(by cases g)),?_⟩;refine(j9.2 (w _)).mono ?_;rintro d w' ⟨rfl,rfl⟩
   gi_wp2
   refine⟨(fun g=>(by cases g)),?_⟩;refine A.mono ?_;rintro d u (⟨rfl,y,J⟩|⟨rfl,z⟩)
   ·have q:=p.kept J
    have d1:=bs u c 0 _ _ _ q.p;have d2:=bs u b 0 _ _ _ q.s;have Y:u.frozen? ⟨b,0,none⟩=false:=by have:=q.s;simp[World.frozen?,this]
    gi_wp2
    go_roundw
    case rel=>exact⟨k+1,B,ad,q.set M N B,T _ _ _ y,C.o⟩
    case measure=>rw[P.o,DH (q.set M N B).s];exact I
   ·gi_wp2
    refine cg (results_none rfl _ _ _) rfl ?_;exact⟨⟨_,rfl⟩,.inr ⟨_,z⟩⟩
open Go.RowKit Go.Shelf
structure vK(Bp Bs Bv D:Nat)(W W':World):Prop where
 size:W.heap.size<=W'.heap.size
 boxes:mx Bp Bs Bv W W'
 d0:W'.heap[D]?=W.heap[D]?
 d1:W'.heap[D+1]?=W.heap[D+1]?
def LI(b c d e:Nat)(f:Nat->World->Prop)(g:Code->Nat->World->Prop)(k:Nat)(W:World):Exit->Act->World->Prop
 | .normal,_,a=>vK b c d e W a/\f (k+1) a
 | .exit id,_,a=>vK b c d e W a/\g (.exit id) (k+1) a
 |_,_,_=>False
theorem DI{W:World}{a b c l:Nat}{o:Obj}(d:a≠l)(e:b≠l)(f:c≠l):mx a b c W (W.putObj l o):=⟨dN d,dN e,dN f⟩
theorem mx.trans{d e f:Nat}{a b c:World}(g:mx d e f a b)(k:mx d e f b c):mx d e f a c:=⟨k.1.trans g.1,k.2.1.trans g.2.1,k.2.2.trans g.2.2⟩
theorem LJ{g:Operand}{M:Tmp}{assign body:Code}{Q:Exit->Act->World->Prop}{a:Act}{w:World}(n:Nat)(f d h:Nat)(s:Bytes)(a8:s.length<=65536)
 (a3:a.eval g=.func (.func 176) #[] #[.pointer (some ⟨f,0,none⟩),.pointer (some ⟨d,0,none⟩),.pointer (some ⟨h,0,none⟩)])
 (E:lH w f d h s) (a7:f≠d) (ba:h≠d)
 (i:Nat->World->Prop) (z:Code->Nat->World->Prop)
 (T:∀k W o,i k W->i k (W.alloc o))
 (F:∀k W l o,w.heap.size<=l->l<w.heap.size+2->i k W->i k (W.putObj l o))
 (V:∀c k W l o,w.heap.size<=l->l<w.heap.size+2->z c k W->z c k (W.putObj l o))
 (ae:∀k W v,i k W->i k (W.setCell ⟨d,0,none⟩ v)) (Z:i 0 w) (O:Bytes->Act)
 (al:∀(l:Nat) (x:Bytes) (W:World) (N:Act->World->Prop),N (O x) W->assign.wpIn (Fence.wide.inRound l) (n-1-1) prog (Exit.then N (fun _ _ _=>False)) {tmps:=((#[M]:Array Tmp).zip #[Value.string ⟨x.toArray⟩]).foldl (fun t (p,v)=>t.setIfInBounds p v) a.tmps,defers:=[]} W)
 (an:∀(l k:Nat) (x:Bytes) (W:World),(dv s)[k]?=some x->i k W->w.heap.size+2<=W.heap.size->body.wpIn (Fence.wide.inRound l) (n-1-1) prog (LI f d h w.heap.size i z k W) (O x) W)
 (a1:∀W,i (dv s).length W->W.heap[w.heap.size]?=some (.deferred (some []))->Q .normal {a with defers:={target:=.collected w.heap.size,args:=#[]}::a.defers} W)
 (a9:∀c k W,z c k W->W.heap[w.heap.size]?=some (.deferred (some []))->c.wpIn Fence.wide n prog Q {a with defers:={target:=.collected w.heap.size,args:=#[]}::a.defers} W):
 (Code.rangeFunc g #[M] assign body).wpIn Fence.wide n prog Q a w:=by
 refine wpIn_rangeFunc ?_;intro fn a2;obtain⟨b,m⟩:∃b:LoopState->Option Code->Loop,b=fun bd bc=>{state:=bd,pending:=bc,fn:=fn,tmps:=a.tmps,params:=#[M],assign:=assign,body:=body,defers:=w.heap.size}:=⟨_,rfl⟩;obtain⟨j,B⟩:∃j,(w.alloc (.deferred (some []))).alloc (.loop (b .ready none))=j:=⟨_,rfl⟩;have ao:=aU E.p;have aq:=aU E.s;have av:=aU E.v;have G:Below w.heap.size w j:=by rw[<-B];exact aG.alloc ak _
 have ag:j.heap[w.heap.size+1]?=some (.loop (b .ready none)):=by rw[<-B];have:=Bu (w.alloc (.deferred (some []))) (.loop (b .ready none));rwa[bj]at this
 have af:j.heap[w.heap.size]?=some (.deferred (some [])):=by rw[<-B];exact(bk _ _ _ ak).trans (Bu w _)
 have ab:i 0 j:=by rw[<-B];exact T _ _ _ (T _ _ _ Z)
 have aa:lH j f d h s:=E.kept ⟨G.block _ ao,G.block _ aq,G.block _ av⟩;refine⟨w.heap.size+1,[{target:=.collected w.heap.size,args:=#[]}],j,{target:=.fn (.func 176) #[.pointer (some ⟨f,0,none⟩),.pointer (some ⟨d,0,none⟩),.pointer (some ⟨h,0,none⟩)],args:=#[.func (.yield (w.heap.size+1)) #[] #[]]},j,176,
  #[.func (.yield (w.heap.size+1)) #[] #[]]++#[.pointer (some ⟨f,0,none⟩),.pointer (some ⟨d,0,none⟩),.pointer (some ⟨h,0,none⟩)],j,?_,?_,?_,?_,(fun A=>(by cases A)),?_⟩
 ·rw[<-B,m];exact run_enterLoop_outer _ _ _ _ _
 ·simp only[resolve,a3]
  simp[go_sem]
 ·intro bi _;trivial
 ·exact(show(invoke (Target.fn (.func 176) #[.pointer (some ⟨f,0,none⟩),.pointer (some ⟨d,0,none⟩),.pointer (some ⟨h,0,none⟩)]) #[.func (.yield (w.heap.size+1)) #[] #[]]).run prog j=_ from by simp[invoke,go_sem])
 ·refine(LH (n-1) (w.heap.size+1) f d h s a8
   (fun k W=>i k W/\W.heap[w.heap.size+1]?=some (.loop (b .ready none))/\W.heap[w.heap.size]?=some (.deferred (some [])))
   (fun k W=>∃c,z c k W/\W.heap[w.heap.size+1]?=some (.loop (b .done (some c)))/\W.heap[w.heap.size]?=some (.deferred (some [])))
   (fun k W v A=>⟨ae k W v A.1,(fQ _ _ _ _ (by show w.heap.size+1≠d;omega)).trans A.2.1,(fQ _ _ _ _ (by show w.heap.size≠d;omega)).trans A.2.2⟩)
   ?_ j aa a7 ba ⟨ab,ag,af⟩).mono ?_
  ·rintro k x W bb ⟨C,r,D⟩
   have a6:w.heap.size+1<W.heap.size:=(iq.1 r).1;have L:=run_yield (P:=prog) (args:=#[.string ⟨x.toArray⟩]) r (by rw[m];rfl);rw[m]at L;refine⟨fn,_,assign,body,L,roundIn_of_wpIn a2 ?_⟩;clear L;refine al _ x W _ ?_;refine⟨_,run_beginRound r (by rw[m]),?_⟩;have a5:(W.putObj (w.heap.size+1) (.loop {b .ready none with state:=.busy})).heap[w.heap.size+1]?=some (.loop {b .ready none with state:=.busy}):=uD a6;have a4:(W.putObj (w.heap.size+1) (.loop {b .ready none with state:=.busy})).heap[w.heap.size]?=some (.deferred (some [])):=(dN ad).trans D;have a0:mx f d h W (W.putObj (w.heap.size+1) (.loop {b .ready none with state:=.busy})):=DI ad ad ad;refine wpIn_mono (an (w.heap.size+1) k x _ bb (F _ _ _ _ ad ad C) aR) ?_;rintro R bf u y;have S:∀(e:Option Code),vK f d h w.heap.size (W.putObj (w.heap.size+1) (.loop {b .ready none with state:=.busy})) u->
    (Instr.endRound (w.heap.size+1) e).run prog u=.ok (.bool e.isNone) (u.putObj (w.heap.size+1) (.loop (b (if e.isNone then .ready else .done) e)))/\
    (u.putObj (w.heap.size+1) (.loop (b (if e.isNone then .ready else .done) e))).heap[w.heap.size+1]?=some (.loop (b (if e.isNone then .ready else .done) e))/\
    (u.putObj (w.heap.size+1) (.loop (b (if e.isNone then .ready else .done) e))).heap[w.heap.size]?=some (.deferred (some []))/\mx f d h W (u.putObj (w.heap.size+1) (.loop (b (if e.isNone then .ready else .done) e))):=fun e q=>by
    have Y:=q.d1.trans a5;have:=run_endRound (P:=prog) e Y;rw[m]at this⊢;exact⟨this,uD (iq.1 Y).1,(dN ad).trans (q.d0.trans a4),(a0.trans q.boxes).trans (DI ad ad ad)⟩
   cases R with
   |normal=>
    obtain⟨q,H⟩:=y;obtain⟨K,J,I,X⟩:=S none q;exact⟨_,_,K,.inl ⟨rfl,⟨F _ _ _ _ ad ad H,J,I⟩,X⟩⟩
   |exit id=>
    obtain⟨q,H⟩:=y;obtain⟨K,J,I,X⟩:=S (some (.exit id)) q;exact⟨_,_,K,.inr ⟨rfl,.exit id,V _ _ _ _ _ ad ad H,J,I⟩⟩
   |ret=>exact y.elim
   |goto t=>exact y.elim
   |panic bg=>exact y.elim
   |outgrown=>exact y.elim
  ·rintro R be ⟨⟨v,rfl⟩,(⟨C,r,D⟩|⟨k,c,C,r,D⟩)⟩
   ·exact⟨none,_,by have:=run_endLoop (P:=prog) r (by rw[m];simp);rw[m]at this;exact this,a1 _ (F _ _ _ _ ad ad C) ((dN ad).trans D)⟩
   ·exact⟨some c,_,by have:=run_endLoop (P:=prog) r (by rw[m];simp);rw[m]at this;exact this,a9 c k _ (V _ _ _ _ _ ad ad C) ((dN ad).trans D)⟩
open Go.RowKit Go.Shelf
attribute [local go_sem] uC
structure lI(w:World)(B:Nat)(v:Value)(xs:List am):Prop where
 row:w.ownsRow B 53 6 v xs.length (xs.flatMap typeRow)
 each:∀x∈xs,kw w B x
def sK(a:List aw×Nat×Int)(w:World)(b:Ending)(w':World):Prop:=
 ∃(xs:List am) (o:Option Addr) (c:Nat),xs.map am.t=a.1/\b=.returned (.tuple #[.agg #[.slice o xs.length c],.int .i64 (a.2.1:Nat),.int .i64 a.2.2])/\bR w' o c xs/\Below w.heap.size w w'
theorem LK(s:Bytes)(w:World):Calls prog 112 #[.string ⟨s.toArray⟩,.string ⟨#[10]⟩,.int .i64 0] w fun a w'=>a=.returned (.func (.func 176) #[] #[.pointer (some ⟨w.heap.size+1,0,none⟩),.pointer (some ⟨w.heap.size,0,none⟩),.pointer (some ⟨w.heap.size+2,0,none⟩)])/\w'=jq w [.cells #[.string ⟨s.toArray⟩] 9,.cells #[.string ⟨#[10]⟩] 9,.cells #[.int .i64 0] 3]:=by
 go_enter func112,ntmps112
 go_wp2
 go_ret;exact⟨rfl,rfl⟩
theorem LM(s:Bytes)(w:World):Calls prog 50 #[.string ⟨s.toArray⟩,.string ⟨#[10]⟩] w fun a w'=>a=.returned (.func (.func 176) #[] #[.pointer (some ⟨w.heap.size+1,0,none⟩),.pointer (some ⟨w.heap.size,0,none⟩),.pointer (some ⟨w.heap.size+2,0,none⟩)])/\w'=jq w [.cells #[.string ⟨s.toArray⟩] 9,.cells #[.string ⟨#[10]⟩] 9,.cells #[.int .i64 0] 3]:=by
 have b:=LK s w;go_enter func50,ntmps50
 go_wp2_with fail
 refine b.mono ?_;rintro a w' ⟨rfl,rfl⟩
 go_wp2
 go_ret;exact⟨rfl,rfl⟩
structure fJ(H:Nat)(w0 W:World)(k q:Nat)(v:Value)(xs:List am):Prop where
 res:W.heap[H]?=some (.cells #[.slice none 0 0] 24 (0,0))
 sch:W.heap[H+1]?=some (.cells #[v] 24 (0,0))
 num:W.heap[H+1+1]?=some (.cells #[.int .i64 (k:Nat)] 3 (0,0))
 wr:W.heap[H+1+1+1]?=some (.cells #[.int .i64 (q:Nat)] 3 (0,0))
 own:lI W (H+9) v xs
 below:Below H w0 W
 size:H+7<=W.heap.size
 lims:∀x∈xs,og 65536 x.t
 few:xs.length<=k
structure Rd(H:Nat)(W W':World):Prop where
 size:W.heap.size<=W'.heap.size
 block:∀j,H+4<=j->j<H+9->W'.heap[j]?=W.heap[j]?
theorem Rd.trans{H:Nat}{a b c:World}(d:Rd H a b)(k:Rd H b c):Rd H a c:=⟨aJ d.size k.size,fun j e f=>(k.block j e f).trans (d.block j e f)⟩
theorem Rd.of{H:Nat}{W W':World}(a:Below W.heap.size W W')(c:H+9<=W.heap.size):Rd H W W':=⟨a.size,fun j _ b=>a.block j ad⟩
theorem lI.kept{w w':World}{B:Nat}{v:Value}{xs:List am}{row:Option Nat}(a:lI w B v xs)(e:w.grownBy w' row)(f:∀k,row=some k->k<B):lI w' B v xs:=
 ⟨dS a.row e (by cases b:v.ownBlock with|none=>exact .inl rfl|some g=>exact .inr (fun c=>by have:=(dC a.row g b).1;have:=f g c.symm;omega)),
  fun x d=>⟨dS (a.each x d).1 e (by cases b:(Value.slice x.ao x.t.attrs.length x.ac).ownBlock with|none=>exact .inl rfl|some g=>exact .inr (fun c=>by have:=(dC (a.each x d).1 g b).1;have:=f g c.symm;omega)),
   dS (a.each x d).2 e (by cases b:(Value.slice x.no x.t.nodes.length x.nc).ownBlock with|none=>exact .inl rfl|some g=>exact .inr (fun c=>by have:=(dC (a.each x d).2 g b).1;have:=f g c.symm;omega))⟩⟩
theorem vL{w w':World}(a:Below w.heap.size w w'):w.grownBy w' none:=⟨a.os,a.tape,a.output,a.size,fun k b _=>a.block k b⟩
theorem fJ.grow{H:Nat}{w0 W W':World}{k q:Nat}{v:Value}{xs:List am}(a:fJ H w0 W k q v xs)(b:Below W.heap.size W W'):fJ H w0 W' k q v xs:=
 ⟨(b.block _ (aU a.res)).trans a.res,(b.block _ (aU a.sch)).trans a.sch,(b.block _ (aU a.num)).trans a.num,(b.block _ (aU a.wr)).trans a.wr,a.own.kept (vL b) (fun k c=>by cases c),a.below.trans (b.mono (by have:=a.size;omega)),aJ a.size b.size,a.lims,a.few⟩
theorem sL(W:World)(b:Nat)(v:Value):W.grownBy (W.setCell ⟨b,0,none⟩ v) (some b):=⟨rfl,rfl,rfl,by simp[World.setCell],fun k d c=>fQ _ _ _ _ (fun a=>c (by rw[a]))⟩
theorem vM{W:World}{b t:Nat}{v:Value}(u:Value)(a:W.heap[b]?=some (.cells #[v] t (0,0))):(W.setCell ⟨b,0,none⟩ u).heap[b]?=some (.cells #[u] t (0,0)):=by
 have c:=aU a;have d:W.heap[b]=.cells #[v] t (0,0):=by simpa[lj c]using a
 show(W.heap.modify b _)[b]?=_
 rw[lj (by simpa using c),xH,d];rfl
theorem Rd.set(H:Nat)(W:World)(b:Nat)(v:Value)(d:b<H+4):Rd H W (W.setCell ⟨b,0,none⟩ v):=⟨by simp[World.setCell],fun j a c=>fQ _ _ _ _ (by show j≠b;omega)⟩
theorem fJ.setNum{H:Nat}{w0 W:World}{k q:Nat}{v:Value}{xs:List am}(a:fJ H w0 W k q v xs)(n:Nat)(e:k<=n)(u:Value)(f:u=.int .i64 (n:Nat)):fJ H w0 (W.setCell ⟨H+1+1,0,none⟩ u) n q v xs:=by subst f;have b:∀j,j≠H+1+1->(W.setCell ⟨H+1+1,0,none⟩ (.int .i64 (n:Nat))).heap[j]?=W.heap[j]?:=fun j d=>fQ _ _ _ _ d;exact⟨(b _ ad).trans a.res,(b _ ad).trans a.sch,vM _ a.num,(b _ ad).trans a.wr,a.own.kept (sL W _ _) (fun k c=>by cases c;omega),a.below.setCell (by show H<=H+1+1;omega) _,by simpa[World.setCell]using a.size,a.lims,aJ a.few e⟩
theorem fJ.setWr{H:Nat}{w0 W:World}{k q:Nat}{v:Value}{xs:List am}(a:fJ H w0 W k q v xs)(n:Nat):fJ H w0 (W.setCell ⟨H+1+1+1,0,none⟩ (.int .i64 (n:Nat))) k n v xs:=by have b:∀j,j≠H+1+1+1->(W.setCell ⟨H+1+1+1,0,none⟩ (.int .i64 (n:Nat))).heap[j]?=W.heap[j]?:=fun j d=>fQ _ _ _ _ d;exact⟨(b _ ad).trans a.res,(b _ ad).trans a.sch,(b _ ad).trans a.num,vM _ a.wr,a.own.kept (sL W _ _) (fun k c=>by cases c;omega),a.below.setCell (by show H<=H+1+1+1;omega) _,by simpa[World.setCell]using a.size,a.lims,a.few⟩
theorem fJ.box{H:Nat}{w0 W:World}{k q:Nat}{v:Value}{xs:List am}(a:fJ H w0 W k q v xs)(b:Nat)(f:H+4<=b)(g:b<H+9)(u:Value):fJ H w0 (W.setCell ⟨b,0,none⟩ u) k q v xs:=by have c:∀j,j≠b->(W.setCell ⟨b,0,none⟩ u).heap[j]?=W.heap[j]?:=fun j e=>fQ _ _ _ _ e;exact⟨(c _ ad).trans a.res,(c _ ad).trans a.sch,(c _ ad).trans a.num,(c _ ad).trans a.wr,a.own.kept (sL W _ _) (fun k d=>by cases d;omega),a.below.setCell (by show H<=b;omega) _,by simpa[World.setCell]using a.size,a.lims,a.few⟩
theorem fJ.put{H:Nat}{w0 W:World}{k q:Nat}{v:Value}{xs:List am}(a:fJ H w0 W k q v xs)(b:Nat)(g:H+4<=b)(h:b<H+9)(o:Obj):fJ H w0 (W.putObj b o) k q v xs:=by have c:∀j,j≠b->(W.putObj b o).heap[j]?=W.heap[j]?:=fun j e=>dN e;exact⟨(c _ ad).trans a.res,(c _ ad).trans a.sch,(c _ ad).trans a.num,(c _ ad).trans a.wr,a.own.kept (row:=some b) ⟨rfl,rfl,rfl,ak,fun k i f=>c k (fun d=>f (by rw[d]))⟩ (fun k d=>by cases d;omega),⟨a.below.os,a.below.tape,a.below.output,by simpa using a.below.size,fun j e=>(c j ad).trans (a.below.block j e)⟩,by simpa using a.size,a.lims,a.few⟩
theorem vN{W:World}{b t:Nat}{v:Value}(a:W.heap[b]?=some (.cells #[v] t (0,0))):W.frozen? ⟨b,0,none⟩=false:=by simp[World.frozen?,a]
theorem DJ{w:World}{B b:Nat}{c:TypeId}{size n:Nat}{v:Value}{xs:List Value}(d:w.ownsRow B c size v n xs)(i:b<=B):w.ownsRow b c size v n xs:=by
 refine⟨d.1,?_⟩;rcases d.2 with a|⟨g,cap,e,f,a,h⟩
 ·exact .inl a
 ·exact .inr ⟨g,cap,e,f,aJ i a,h⟩
theorem kw.lower{w:World}{B a:Nat}{y:am}(b:kw w B y)(c:a<=B):kw w a y:=⟨DJ b.1 c,DJ b.2 c⟩
theorem kw.grow{w w':World}{B:Nat}{y:am}(b:kw w B y)(c:Below w.heap.size w w'):kw w' B y:=⟨dS b.1 (vL c) (by cases d:(Value.slice y.ao y.t.attrs.length y.ac).ownBlock with|none=>exact .inl rfl|some g=>exact .inr (fun a=>by cases a)),dS b.2 (vL c) (by cases d:(Value.slice y.no y.t.nodes.length y.nc).ownBlock with|none=>exact .inl rfl|some g=>exact .inr (fun a=>by cases a))⟩
theorem lI.add{w w':World}{B:Nat}{v e:Value}{xs:List am}{y:am}(c:lI w B v xs)(g:kw w B y)(d:w.grownBy w' v.ownBlock)(f:w'.ownsRow B 53 6 e (xs.length+1) (xs.flatMap typeRow++typeRow y)):lI w' B e (xs++[y]):=by
 refine⟨by rw[cR,ug];simpa using f,fun x a=> ?_⟩;have b:kw w B x:=by
  rcases fA.1 a with a|a
  ·exact c.each x a
  ·simp at a;subst a;exact g
 exact⟨dS b.1 d (vF b.1 c.row ap),dS b.2 d (vF b.2 c.row ap)⟩
theorem fJ.far{H:Nat}{w0 W W':World}{k q:Nat}{v:Value}{xs:List am}(b:fJ H w0 W k q v xs)(c:W.grownBy W' v.ownBlock)(j:Nat)(e:j<H+9)(d:j<W.heap.size):W'.heap[j]?=W.heap[j]?:=
 c.block j d (fun a=>by have:=(dC b.own.row j a.symm).1;omega)
theorem fJ.add{H:Nat}{w0 W W':World}{k q:Nat}{v f:Value}{xs:List am}{y:am}(a:fJ H w0 W k q v xs)(p:kw W (H+9) y)(b:W.grownBy W' v.ownBlock)(l:W'.ownsRow (H+9) 53 6 f (xs.length+1) (xs.flatMap typeRow++typeRow y))(o:og 65536 y.t)(n:xs.length+1<=k)(t:H+9<=W.heap.size):
 fJ H w0 (W'.setCell ⟨H+1,0,none⟩ f) k q f (xs++[y])/\Rd H W (W'.setCell ⟨H+1,0,none⟩ f):=by
 have g:∀j,j≠H+1->(W'.setCell ⟨H+1,0,none⟩ f).heap[j]?=W'.heap[j]?:=fun j e=>fQ _ _ _ _ e;have c:=fun j (e:j<H+9)=>a.far b j e ad;have r:=a.own.add p b l;have m:Below H w0 W':=⟨b.os.trans a.below.os,b.tape.trans a.below.tape,b.output.trans a.below.output,aJ a.below.size b.size,fun j e=>(c j ad).trans (a.below.block j e)⟩;exact⟨⟨(g _ ad).trans ((c _ ad).trans a.res),vM _ ((c _ ad).trans a.sch),(g _ ad).trans ((c _ ad).trans a.num),(g _ ad).trans ((c _ ad).trans a.wr),r.kept (sL W' _ _) (fun k h=>by cases h;omega),m.setCell (by show H<=H+1;omega) _,by have:=b.size;simp[World.setCell];omega,fun x d=>by
  rcases fA.1 d with d|d
  ·exact a.lims x d
  ·simp at d;subst d;exact o,by rw[cR];exact n⟩,
  ⟨by have:=b.size;simp[World.setCell];omega,fun j s i=>(g j ad).trans (c j i)⟩⟩
theorem og.mono{n m:Nat}{t:aw}(b:og n t)(c:n<=m):og m t:=⟨aJ b.name c,aJ b.label c,aJ b.key c,aJ b.attrs c,fun a d=>aJ (b.attr a d) c,fun a d=>aJ (b.sym a d) c⟩
def PI(H:Nat)(w0:World)(L:List Bytes)(k:Nat)(W:World):Prop:=∃o c xs,fJ H w0 W k 0 (.slice o xs.length c) xs/\Hid (ef 0 [] L=ef k (xs.map am.t) (L.drop k))
def PX(H:Nat)(w0:World)(L:List Bytes)(c:Code)(k:Nat)(W:World):Prop:=c=.exit 0/\1<=k/\k<=L.length/\∃v xs,fJ H w0 W k k v xs/\(ef 0 [] L).2=k
theorem PI.box{H:Nat}{w0 W:World}{L:List Bytes}{k:Nat}(a:PI H w0 L k W)(b:Nat)(d:H+4<=b)(e:b<H+9)(u:Value):PI H w0 L k (W.setCell ⟨b,0,none⟩ u):=by obtain⟨o,c,xs,g,f⟩:=a;exact⟨o,c,xs,g.box b d e u,f⟩
theorem PI.put{H:Nat}{w0 W:World}{L:List Bytes}{k:Nat}(a:PI H w0 L k W)(b:Nat)(d:H+4<=b)(e:b<H+9)(u:Obj):PI H w0 L k (W.putObj b u):=by obtain⟨o,c,xs,g,f⟩:=a;exact⟨o,c,xs,g.put b d e u,f⟩
theorem PI.grow{H:Nat}{w0 W W':World}{L:List Bytes}{k:Nat}(a:PI H w0 L k W)(b:Below W.heap.size W W'):PI H w0 L k W':=by obtain⟨o,c,xs,e,d⟩:=a;exact⟨o,c,xs,e.grow b,d⟩
theorem PX.put{H:Nat}{w0 W:World}{L:List Bytes}{c:Code}{k:Nat}(f:PX H w0 L c k W)(b:Nat)(g:H+4<=b)(h:b<H+9)(u:Obj):PX H w0 L c k (W.putObj b u):=by obtain⟨a,d,e,v,xs,j,i⟩:=f;exact⟨a,d,e,v,xs,j.put b g h u,i⟩
theorem DK{k:Nat}{a:List aw}{x:Bytes}{b:List Bytes}(c:n9 x=false):ef k a (x::b)=ef (k+1) a b:=by
 conv=>lhs;unfold ef
 rw[au (by simp[c])]
theorem LN{k:Nat}{a:List aw}{x:Bytes}{b:List Bytes}{t:aw}(c:n9 x=true)(d:nw x=some t):ef k a (x::b)=ef (k+1) (a++[t]) b:=by
 conv=>lhs;unfold ef
 rw[ay c,d]
theorem LO{k:Nat}{a:List aw}{x:Bytes}{d:List Bytes}(b:n9 x=true)(c:nw x=none):ef k a (x::d)=(a,k+1):=by unfold ef;rw[ay b,c]
theorem LP{L:List Bytes}{k:Nat}{x:Bytes}(b:L[k]?=some x):L.drop k=x::L.drop (k+1):=by obtain⟨c,a⟩:=aL.1 b;rw[rK c,a]
theorem DL:(prog.info? 53).map (fun i=>(i.zero,i.size,i.bytes))=some (some pN,6,104):=aA
theorem vO{H:Nat}{W W':World}(a:Rd H W W'):vK (H+1+1+1+1+1) (H+1+1+1+1) (H+1+1+1+1+2) (H+7) W W':=
 ⟨a.size,⟨a.block _ ad ad,a.block _ ad ad,a.block _ ad ad⟩,a.block _ ad ad,a.block _ ad ad⟩
theorem LQ{w b:World}{s:Bytes}(f:b=jq ((((w.alloc (Obj.cells #[Value.slice none 0 0] 24)).alloc (Obj.cells #[Value.slice none 0 0] 24)).alloc (Obj.cells #[Value.int IntKind.i64 0] 3)).alloc (Obj.cells #[Value.int IntKind.i64 0] 3)) [.cells #[.string ⟨s.toArray⟩] 9,.cells #[.string ⟨#[10]⟩] 9,.cells #[.int .i64 0] 3]):
 b.heap.size=w.heap.size+7/\fJ w.heap.size w b 0 0 (.slice none 0 0) []/\lH b (w.heap.size+1+1+1+1+1) (w.heap.size+1+1+1+1) (w.heap.size+1+1+1+1+2) s:=by
 obtain⟨os,a⟩:∃os:List Obj,os=[.cells #[.slice none 0 0] 24,.cells #[.slice none 0 0] 24,.cells #[.int .i64 0] 3,.cells #[.int .i64 0] 3,.cells #[.string ⟨s.toArray⟩] 9,.cells #[.string ⟨#[10]⟩] 9,.cells #[.int .i64 0] 3]:=⟨_,rfl⟩;have d:b=jq w os:=by rw[f,a];rfl
 have c:∀i,i<7->b.heap[w.heap.size+i]?=os[i]?:=fun i h=>by rw[d];exact yv w os i (by rw[a];exact h)
 have j:b.heap.size=w.heap.size+7:=by rw[d,yx,a];rfl
 have g:Below w.heap.size w b:=by rw[d];exact yw _ _
 refine⟨j,⟨(c 0 ad).trans (by rw[a];rfl),(c 1 ad).trans (by rw[a];rfl),(c 2 ad).trans (by rw[a];rfl),(c 3 ad).trans (by rw[a];rfl),⟨dc _ _ _ _,fun x e=>by simp at e⟩,g,ad,fun x e=>by simp at e,az _⟩,⟨(c 5 ad).trans (by rw[a];rfl),(c 4 ad).trans (by rw[a];rfl),(c 6 ad).trans (by rw[a];rfl)⟩⟩
theorem LR{x:Bytes}(e:x.all eT=false):∃c t,aW x=c::t:=by
 cases b:aW x with
 |cons c t=>exact⟨c,t,rfl⟩
 |nil=>
  have f:x.all eT=true:=by
   unfold aW at b;clear e;induction x with
   |nil=>rfl
   |cons a g ih=>
    rw[List.dropWhile_cons]at b;by_cases d:eT a=true
    ·rw[ay d]at b
     rw[List.all_cons,d,ih b];rfl
    ·rw[au d]at b;cases b
  rw[e]at f;cases f
theorem LS{x t:Bytes}{c:UInt8}(b:x.all eT=false)(a:aW x=c::t):n9 x= !(c==35):=by unfold n9;rw[b,a];simp[bne]
theorem LT{c:UInt8}(a:(c==35)=true):(((c.toNat:Nat):Int)==35)=true:=by have:=eq_of_beq a;subst this;rfl
theorem LU{c:UInt8}(a:(c==35)=false):(((c.toNat:Nat):Int)==35)=false:=by
 have d:c≠35:=fun b=>by rw[b]at a;exact absurd a ap
 simp only[eu,ne_eq];intro e;exact d (ut.1 (by show c.toNat=35;omega))
theorem yZ{W:World}{H t:Nat}{v:Value}(a:W.heap[H]?=some (.cells #[v] t (0,0)))(u:Value)(o:Obj):((W.setCell ⟨H,0,none⟩ u).putObj (H+7) o).heap[H]?=some (.cells #[u] t (0,0)):=
 (dN ad).trans (vM u a)
theorem LV{W:World}{H:Nat}{v:Value}{xs:List am}(b:lI W (H+9) v xs)(u:Value)(o:Obj):lI ((W.setCell ⟨H,0,none⟩ u).putObj (H+7) o) (H+9) v xs:=
 (b.kept (sL W H u) (fun k a=>by cases a;omega)).kept (row:=some (H+7)) ⟨rfl,rfl,rfl,ak,fun k d c=>dN (fun a=>c (by rw[a]))⟩ (fun k a=>by cases a;omega)
theorem DM{w W:World}{H:Nat}(b:Below H w W)(u:Value)(o:Obj):Below H w ((W.setCell ⟨H,0,none⟩ u).putObj (H+7) o):=by have a:=b.setCell (p:=⟨H,0,none⟩) (az _) u;exact⟨a.os,a.tape,a.output,by simpa using a.size,fun j c=>(dN ad).trans (a.block j c)⟩
theorem LW{w W:World}{H:Nat}(b:Below H w W)(u:Value)(o:Obj):Below H w (((W.setCell ⟨H,0,none⟩ u).drew).putObj (H+7) o):=by have a:=(b.setCell (p:=⟨H,0,none⟩) (az _) u).drew;exact⟨a.os,a.tape,a.output,by simpa using a.size,fun j c=>(dN ad).trans (a.block j c)⟩
theorem y7{w:World}{B:Nat}{l:TypeId}{size n:Nat}{o:Option Addr}{c:Nat}{xs:List Value}(d:w.ownsRow B l size (.slice o n c) n xs):dp w o n c size xs:=by
 refine⟨d.1,?_⟩;rcases d.2 with⟨a,m⟩|⟨g,cap,e,a,_,h,q,r,y,s⟩
 ·injection a with a p b
  subst m;subst b;exact⟨az _,bI,fun d=>ad⟩
 ·injection a with a p b
  subst b;subst a;refine⟨q,r,fun _=>⟨g,0,rfl,aU h,fun j u i=> ?_⟩⟩;rw[<-s]at i;have t:e.toList[j]?=some u:=by obtain⟨x,f⟩:=aL.1 i;rw[List.getElem_take]at f;exact aL.2 ⟨by rw[fm]at x;omega,f⟩
  rw[cD];have v:e[j]?=some u:=by rw[<-Array.getElem?_toList];exact t
  simp[World.cell?,h,v]
theorem DN{w:World}{B:Nat}{o:Option Addr}{c:Nat}{xs:List am}(a:lI w B (.slice o xs.length c) xs):bR w o c xs:=
 ⟨y7 a.row,fun x b=>⟨y7 (by have:=(a.each x b).1;unfold cn at this;exact this),y7 (by have:=(a.each x b).2;unfold cj at this;exact this)⟩⟩
theorem DO{xs:List am}(c:∀x∈xs,og 65536 x.t)(e:xs.length<=1048576):dI xs:=
 ⟨e,fun x b=>aJ (c x b).name ad,fun x b=>aJ (c x b).label ad,fun x b=>aJ (c x b).key ad,fun x b=>aJ (c x b).attrs ad,fun x b a d=>aJ ((c x b).attr a d) ad,fun x b a d=>aJ ((c x b).sym a d) ad⟩
theorem DP{w w':World}{a:List aw×Nat×Int}(b:a.1=[])(c:Below w.heap.size w w'):sK a w (.returned (.tuple #[.agg #[.slice none 0 0],.int .i64 (a.2.1:Nat),.int .i64 a.2.2])) w':=
 ⟨[],none,0,b.symm,rfl,⟨⟨rfl,az _,by unfold maxLen;simp,fun b=>by simp at b⟩,fun x d=>by simp at d⟩,c⟩
theorem LX{s:Bytes}{w w':World}{a:List aw×Nat×Int}{L:List Bytes}{xs:List am}{o:Option Addr}{c H n:Nat}(f:a=mq s)(l:s.length<=65536)(e:L=dv s)(g:ef 0 [] L=ef n (xs.map am.t) [])(d:bT (xs.map am.t)=0)(j:lI w' H (.slice o xs.length c) xs)(i:Below w.heap.size w w'):
 sK a w (.returned (.tuple #[.agg #[.slice o xs.length c],.int .i64 0,.int .i64 0])) w':=by
 have h:ef 0 [] (dv s)=(xs.map am.t,0):=by rw[<-e,g];unfold ef;rfl
 have b:a=(xs.map am.t,0,0):=by rw[f];unfold mq;rw[au ad,h,au ak,au (by simp[d])]
 exact⟨xs,o,c,by rw[b],by rw[b];rfl,DN j,i⟩
theorem LY{s:Bytes}{w w':World}{a:List aw×Nat×Int}{L:List Bytes}{xs:List am}{n:Nat}(e:a=mq s)(i:s.length<=65536)(d:L=dv s)(f:ef 0 [] L=ef n (xs.map am.t) [])(c:¬bT (xs.map am.t)=0)(h:Below w.heap.size w w'):
 sK a w (.returned (.tuple #[.agg #[.slice none 0 0],.int .i64 0,.int .i64 (bT (xs.map am.t))])) w':=by
 have g:ef 0 [] (dv s)=(xs.map am.t,0):=by rw[<-d,f];unfold ef;rfl
 have b:a=([],0,bT (xs.map am.t)):=by rw[e];unfold mq;rw[au ad,g,au ak,ay c]
 rw[b];exact DP rfl h
theorem LZ{s:Bytes}{w w':World}{a:List aw×Nat×Int}{L:List Bytes}{k:Nat}(d:a=mq s)(h:s.length<=65536)(c:L=dv s)(e:(ef 0 [] L).2=k)(g:1<=k)(f:Below w.heap.size w w'):
 sK a w (.returned (.tuple #[.agg #[.slice none 0 0],.int .i64 (k:Nat),.int .i64 12])) w':=by
 have b:a=([],k,12):=by rw[d];unfold mq;rw[au ad,<-c,e,ay ad]
 rw[b];exact DP rfl f
theorem L0(s:Bytes)(w:World)(aq:s.length<=65536)(b8:eJ s):
 Calls prog 23 #[.string ⟨s.toArray⟩] w (sK (mq s) w):=by
 obtain⟨cv,R⟩:=ar (mq s);rw[<-R];have bw:decide ((s.length:Int)>65536)=false:=bK;have bF:=LM s;refine(j9 (n:=9)).1 (ID func23 rfl trivial ?_ rfl);refine xR.2 ?_;simp only[ntmps23,Bm,db,ge,Nat.reduceAdd,Nat.reduceSub,Bn,Bo,Br,Bt,mS,jf];go_wp2_with fail
 go_step3
 go_wp2_with fail
 go_step3
 go_wp2_with fail
 refine(bF _).mono ?_;rintro Q a3 ⟨rfl,rfl⟩;clear bF;go_wp2_with fail
 obtain⟨bi,S⟩:=ar (jq ((((w.alloc (Obj.cells #[Value.slice none 0 0] 24)).alloc (Obj.cells #[Value.slice none 0 0] 24)).alloc (Obj.cells #[Value.int IntKind.i64 0] 3)).alloc (Obj.cells #[Value.int IntKind.i64 0] 3)) [.cells #[.string ⟨s.toArray⟩] 9,.cells #[.string ⟨#[10]⟩] 9,.cells #[.int .i64 0] 3]);obtain⟨j,af,ab⟩:=LQ S;rw[<-S];have u:=LE s;obtain⟨L,p⟩:=ar (dv s);refine(xR (n:=9)).1 (LJ 9 (w.heap.size+1+1+1+1+1) (w.heap.size+1+1+1+1) (w.heap.size+1+1+1+1+2) s aq rfl ab ad ad (PI w.heap.size w L) (PX w.heap.size w L)
  (fun k W o D=>D.grow aG) (fun k W l o a8 bo D=>D.put l ad ad o) (fun c k W l o a8 bo D=>D.put l ad ad o) (fun k W v D=>D.box _ ad ad v) ⟨none,0,[],af,rfl⟩ ?a1 ?assign ?body ?done ?stop)
 case assign=>
  intro l x W cu E
  gi_wp2
  exact E
 case body=>
  intro l k x W Y ae c1;rw[<-p]at Y u;obtain⟨o,c,xs,a,r⟩:=ae;have b0:=u.2 x (aX Y);have cG:=(aL.1 Y).1;have cN:=u.1;have bZ:x.length<=65536:=ad;have ch:eJ x:=fun d bw=>b8 d (b0.2 d bw);have bl:=ai 0 a.num;have f6:W.frozen? ⟨w.heap.size+1+1,0,none⟩=false:=by have:=a.num;simp[World.frozen?,this]
  have ba:=fun a3=>yg ⟨x.toArray⟩ a3 (by rw[iQ];omega);rw[show iJ kf (⟨x.toArray⟩:ByteArray).data.toList=x.all eT from rfl]at ba;have bz:=LP Y;have m:Hid (ef 0 [] L=ef k (xs.map am.t) (x::L.drop (k+1))):=by show _=_;rw[<-bz];exact r.out
  have C:IntKind.i64.wrap ((k:Int)+1)=(k:Int)+1:=rM _ ad;have bE:=a.setNum (k+1) ad (.int .i64 ((k:Int)+1)) aV;have bu:=Rd.set w.heap.size W (w.heap.size+1+1) (.int .i64 ((k:Int)+1)) ad;have bN:w.heap.size+9<=(W.setCell ⟨w.heap.size+1+1,0,none⟩ (.int .i64 ((k:Int)+1))).heap.size:=by simp only[World.setCell,Array.size_modify];omega
  obtain⟨P,cs,X⟩:=bH p u (And.intro bE (And.intro bu bN));clear bE bu bN r bz p u Y b0 S ab af
  gi_wp2
  refine⟨trivial,?_⟩;refine(Bw l (j9.2 (ba _))).mono ?_;rintro Q b2 ⟨rfl,h⟩;have e:=X.out.1.grow h;have ag:=X.out.2.1.trans (Rd.of h X.out.2.2);have a2:w.heap.size+9<=b2.heap.size:=aJ X.out.2.2 h.size;clear ba bl f6 X C;cases J:x.all eT with
  |true=>
   have i:n9 x=false:=by unfold n9;rw[J];rfl
   have b:=m.o;rw[DK i]at b;have A:=ah b;clear b m J i
   gi_wp2
   refine⟨trivial,?_⟩
   gi_wp2
   rw[j];exact⟨vO ag,o,c,xs,e,A.o⟩
  |false=>
   have bc:=fun a3=>Lt x a3 bZ ch;obtain⟨B,t1,av⟩:=LR J;have i:=LS J av;have g:=Du x;rw[av]at g;cases K:(B==35)with
   |true=>
    rw[K]at i;have b:=m.o;rw[DK i]at b;have A:=ah b;have bb:0<(⟨(B::t1).toArray⟩:ByteArray).size:=by rw[iQ];simp
    have b9:((((⟨(B::t1).toArray⟩:ByteArray)[0]'bb).toNat:Int)==35)=true:=LT K;clear b m J i av K bc
    gi_wp2
    refine⟨trivial,?_⟩;refine(Bw l (j9.2 (g _))).mono ?_;rintro Q bf ⟨rfl,F⟩;have M:=e.grow F;have I:=ag.trans (Rd.of F a2);clear g
    gi_wp2
    rw[j];exact⟨vO I,o,c,xs,M,A.o⟩
   |false=>
    rw[K]at i;have bb:0<(⟨(B::t1).toArray⟩:ByteArray).size:=by rw[iQ];simp
    have b9:((((⟨(B::t1).toArray⟩:ByteArray)[0]'bb).toNat:Int)==35)=false:=LU K;have bg:=ah i;clear J i av K
    gi_wp2
    refine⟨trivial,?_⟩;refine(Bw l (j9.2 (g _))).mono ?_;rintro Q bf ⟨rfl,F⟩;have M:=e.grow F;have I:=ag.trans (Rd.of F a2);have O:w.heap.size+9<=bf.heap.size:=aJ a2 F.size;clear g e ag a2 h F
    gi_wp2
    refine⟨trivial,?_⟩;refine(Bw l (j9.2 (bc _))).mono ?_;rintro Q f a0;clear bc;cases H:nw x with
    |none=>
     rw[H]at a0;obtain⟨T,q⟩:=a0;unfold pN at T;subst T;have b:=m.o;rw[LO bg.o H]at b;have V:=M.grow q;have al:=I.trans (Rd.of q O);have A:=ah b;clear b H m M I;have G:=V.grow ((aE _ f).alloc (az _) (.cells #[.string ⟨#[]⟩,.string ⟨#[]⟩,.slice none 0 0,.string ⟨#[]⟩,.bool false,.slice none 0 0] 53));have b4:=al.trans (Rd.of ((aE _ f).alloc (az _) (.cells #[.string ⟨#[]⟩,.string ⟨#[]⟩,.slice none 0 0,.string ⟨#[]⟩,.bool false,.slice none 0 0] 53)) (aJ O q.size));have bl:=ai 0 G.num;have a6:=ai 0 G.wr;have f7:=vN G.wr
     gi_wp2
     rw[j];have N:=G.setWr (k+1);refine⟨vO (b4.trans (Rd.set _ _ _ _ ad)),rfl,ad,ad,_,xs,N,?_⟩;have:=A.o;rw[this]
    |some t=>
     rw[H]at a0;obtain⟨⟨y,bd,T,bB⟩,q⟩:=a0;unfold dT typeRow at T;subst T;have b:=m.o;rw[LN bg.o H,<-bd]at b;have g:=LD H;rw[<-bd]at g;have g:=g.mono bZ;have V:=M.grow q;have al:=I.trans (Rd.of q O);have A:=ah b;clear b H m bd M I;obtain⟨cp,ca,ci,cl,co⟩:=cY DL;have cF:=a.few;have bC:kw f (w.heap.size+9) y:=bB.lower O;have ce:w.heap.size+9<=f.heap.size:=aJ O q.size;clear bB q O a;have G:=V.grow ((aE _ f).alloc (az _) (.cells #[.string ⟨y.t.name.toArray⟩,.string ⟨y.t.label.toArray⟩,.slice y.ao y.t.attrs.length y.ac,.string ⟨y.t.key.toArray⟩,.bool y.t.text,.slice y.no y.t.nodes.length y.nc] 53));have a5:=ai 0 G.sch;have an:Below f.heap.size f ((f.alloc (.cells #[.string ⟨y.t.name.toArray⟩,.string ⟨y.t.label.toArray⟩,.slice y.ao y.t.attrs.length y.ac,.string ⟨y.t.key.toArray⟩,.bool y.t.text,.slice y.no y.t.nodes.length y.nc] 53)).alloc (.cells #[.string ⟨y.t.name.toArray⟩,.string ⟨y.t.label.toArray⟩,.slice y.ao y.t.attrs.length y.ac,.string ⟨y.t.key.toArray⟩,.bool y.t.text,.slice y.no y.t.nodes.length y.nc] 53)):=aG.alloc ak _;have N:=V.grow an;have b5:=al.trans (Rd.of an ce);have cb:=bC.grow an;have be:((f.alloc (.cells #[.string ⟨y.t.name.toArray⟩,.string ⟨y.t.label.toArray⟩,.slice y.ao y.t.attrs.length y.ac,.string ⟨y.t.key.toArray⟩,.bool y.t.text,.slice y.no y.t.nodes.length y.nc] 53)).alloc (.cells #[.string ⟨y.t.name.toArray⟩,.string ⟨y.t.label.toArray⟩,.slice y.ao y.t.attrs.length y.ac,.string ⟨y.t.key.toArray⟩,.bool y.t.text,.slice y.no y.t.nodes.length y.nc] 53)).heap.size=f.heap.size+2:=ak;have cd:=N.own.row;clear V al bC G an
     gi_wp2_with (first
      |(gi_at_builtin;go_must (refine wpListIn_append_own _ rfl _ _ 22 rfl (w.heap.size+9) 53 cp pN 6 104 IE ca ci cl co rfl ap _ _ _ rfl cd ⟨f.heap.size+1,0,none⟩ 1 1 (typeRow y) rfl rfl (dK _ (typeRow y) _ _ ak) (fun z b1=>by simp[typeRow]at b1;rcases b1 with rfl|rfl|rfl|rfl|rfl|rfl<;>rfl) bI ad (by rw[be];omega) ?_);intro c2 bf bD bA c0;obtain⟨cq,b3,rfl⟩:=eh bD;have a7:=(N.far bA _ ad (by rw[be];omega)).trans N.sch;have f5:=vN a7;have a5:=ai 0 a7;clear a7)
      |fail)
     rw[j];obtain⟨cc,b6⟩:=N.add cb bA bD g ad (by rw[be];omega);refine⟨vO (b5.trans b6),cq,b3,xs++[y],?_,?_⟩
     ·rw[cR];exact cc
     ·have:=A.o
      rw[iH];exact this
 case done=>
  intro W ae E;rw[<-p]at ae u;obtain⟨o,c,xs,a,r⟩:=ae;have b:=r.out;rw[List.drop_length]at b;have a6:=ai 0 a.wr;have a5:=ai 0 a.sch;obtain⟨Z,aa,P⟩:=bH R b p;clear R b r p S ab af;have a9:=DN a.own;have bt:dI xs:=DO a.lims (by have:=a.few;have:=u.1;omega);have B:=ai 0 a.res;go_wp2_with fail
  refine(check_any xs o c W a9 bt).mono ?_;rintro Q b2 ⟨rfl,h⟩;have e:=a.grow h;have cx:=a9.below h;have bq:=(h.block _ (aU E)).trans E;have d5:=ai 0 e.sch;have d1:=ai 0 e.res;have f1:=vN e.res;clear a6 a5 B a9 bt a E h;by_cases ao:bT (xs.map am.t)=0
  ·have a4:=ah ao
   rw[ao];clear ao;go_wp2_with fail
   refine⟨ak,.inl ⟨_,_,rfl,Bx (by rw[<-j];exact(fQ _ _ _ _ (by show bi.heap.size≠w.heap.size;omega)).trans bq),?_⟩⟩;have C:=ai 0 (yZ e.res (.slice o xs.length c) (.deferred none));refine⟨.tuple #[.agg #[.slice o xs.length c],.int .i64 0,.int .i64 0],by simp[results,results23,go_sem,C,Result.andThen],?_⟩;exact LX Z.o aq P.o aa.o a4.o (LV e.own _ _) (DM e.below _ _)
  ·have a4:=ah ao
   go_wp2_with fail
   refine⟨ak,.inl ⟨_,_,rfl,Bx (by rw[<-j];exact(fQ _ _ _ _ (by show bi.heap.size≠w.heap.size;omega)).trans bq),?_⟩⟩;have C:=ai 0 (yZ e.res (.slice none 0 0) (.deferred none));refine⟨.tuple #[.agg #[.slice none 0 0],.int .i64 0,.int .i64 (bT (xs.map am.t))],by simp[results,results23,go_sem,C,Result.andThen],?_⟩;exact LY Z.o aq P.o aa.o a4.o (DM e.below _ _)
 case stop=>
  intro c k W b7 E;obtain⟨rfl,a8,bo,v,xs,a,r⟩:=b7;have a6:=ai 0 a.wr;obtain⟨Z,aa,P⟩:=bH R r p;clear R r p S ab af u;refine xR.2 ?_;go_wp2_with fail
  have d1:=ai 0 a.res;have f1:=vN a.res;go_region
  go_wp2_with fail
  refine⟨ak,.inl ⟨_,_,rfl,Bx (by rw[j];exact(fQ _ _ _ _ (by show w.heap.size+7≠w.heap.size;omega)).trans (by rw[<-j];exact E)),?_⟩⟩;rw[j];have C:(((W.setCell ⟨w.heap.size,0,none⟩ (.slice none 0 0)).drew).putObj (w.heap.size+7) (.deferred none)).cell? ⟨w.heap.size,0,none⟩=#[Value.slice none 0 0][0]?:=ai 0 (yZ a.res (.slice none 0 0) (.deferred none));refine⟨.tuple #[.agg #[.slice none 0 0],.int .i64 (k:Nat),.int .i64 12],by simp[results,results23,go_sem,C,Result.andThen],?_⟩;exact LZ Z.o aq P.o aa.o a8 (LW a.below _ _)
end
end Go.Proofs.YtnadadbndcdolaaGreatDoor
