import Derived.Test.YtbacloblanpghaaGreatDoorQap
set_option linter.unusedVariables false
set_option linter.unusedSimpArgs false
set_option maxRecDepth 100000
set_option maxHeartbeats 0
namespace Go.Proofs.YtbacloblanpghaaGreatDoor
open Go.RowKit Tryz
theorem Cm:(prog.info? 72).map (fun i=>(i.zero,i.size,i.bytes))=some (some (.agg #[.string ⟨#[]⟩,.string ⟨#[]⟩]),2,32):=ay
theorem xD:(prog.info? 29).map (fun i=>(i.zero,i.size,i.bytes))=some (some (.agg #[.string ⟨#[]⟩,.string ⟨#[]⟩,.slice none 0 0,.slice none 0 0]),4,80):=ay
theorem aQ{w:World}{b:Nat}{cs:Array Value}{t:TypeId}(a:w.heap[b]?=some (.cells cs t (0,0)))(j:Nat):w.frozen? ⟨b,j,none⟩=false:=by simp[World.frozen?,a]
theorem K4{ks:List Tr}{rs:List KA}(a:rs.length=ks.length)(k:Tr)(q:KA):kidRows (ks++[k]) (rs++[q])=kidRows ks rs++lx k q:=by unfold kidRows;rw[List.zip_append ad];simp
structure iz(w:World)(B6:Nat)(nm:Bytes)(av:List (Bytes×Bytes))(aval:Value)(ks:List Tr)(rs:List KA)(kval:Value)(wr:World):Prop where
 res:wr.heap[w.heap.size]?=some (.cells #[.string ⟨#[]⟩,.string ⟨#[]⟩,.slice none 0 0,.slice none 0 0] 29 (0,0))
 box:wr.heap[B6]?=some (.cells #[.string ⟨nm.toArray⟩,.string ⟨#[]⟩,aval,kval] 29 (0,0))
 lo:w.heap.size<B6
 aown:wr.ownsRow (B6+1) 72 2 aval av.length (av.flatMap mn)
 kown:wr.ownsRow (B6+1) 29 4 kval ks.length (kidRows ks rs)
 rlen:rs.length=ks.length
 kin:∀(i:Nat) (k:Tr) (q:KA),ks[i]?=some k->rs[i]?=some q->cg wr (fun b=>B6<b/\some b≠kval.ownBlock) k q
 below:Below w.heap.size w wr
theorem iz.size{w:World}{a:Nat}{e:Bytes}{av:List (Bytes×Bytes)}{b:Value}{ks:List Tr}{rs:List KA}{d:Value}{wr:World}(c:iz w a e av b ks rs d wr):a<wr.heap.size:=aN c.box
theorem rF{w w':World}{B size n:Nat}{a:TypeId}{v:Value}{xs:List Value}(c:w.ownsRow B a size v n xs)(d:Below w.heap.size w w'):w'.ownsRow B a size v n xs:=
 df (row:=none) c (oW d) (by cases a:v.ownBlock with|none=>exact .inl rfl|some g=>exact .inr (fun b=>by cases b))
theorem iz.grow{w:World}{c:Nat}{f:Bytes}{av:List (Bytes×Bytes)}{d:Value}{ks:List Tr}{rs:List KA}{e:Value}{wr w':World}(a:iz w c f av d ks rs e wr)(b:Below wr.heap.size wr w'):iz w c f av d ks rs e w':=
 ⟨(b.block _ (aN a.res)).trans a.res,(b.block _ a.size).trans a.box,a.lo,rF a.aown b,rF a.kown b,a.rlen,fun i k q g h=>(a.kin i k q g h).grow b,aD a.below b⟩
theorem xE{w:World}{B B' j size n:Nat}{a:TypeId}{v u:Value}{xs:List Value}(c:w.ownsRow (B+1) a size v n xs):(w.setCell ⟨B,j,none⟩ u).ownsRow (B+1) a size v n xs:=
 df (row:=some B) c ⟨rfl,rfl,rfl,by simp[World.setCell],fun k e d=>eG _ _ _ _ (fun a=>d (by rw[a]))⟩ (by
  cases a:v.ownBlock with
  |none=>exact .inl rfl
  |some g=>exact .inr (fun b=>by injection b with b;have:=(bX c _ a).1;omega))
theorem cg.set{w:World}{P:Nat->Prop}{t:Tr}{r:KA}{B j:Nat}{u:Value}(c:cg w P t r)(d:∀b,P b->b≠B):cg (w.setCell ⟨B,j,none⟩ u) P t r:=
 c.kept (by simp[World.setCell]) fun b f e a=>⟨dB (eG _ _ _ _ (d b a)),a⟩
theorem iz.addAttr{w:World}{b:Nat}{n:Bytes}{av:List (Bytes×Bytes)}{d:Value}{wr u g:World}(l:iz w b n av d [] [] (.slice none 0 0) wr)(p:Below wr.heap.size wr u)(f:u.grownBy g d.ownBlock)
 {h:Value} {a:Bytes×Bytes} (t:g.ownsRow (b+1) 72 2 h (av.length+1) (av.flatMap mn++mn a)):iz w b n (av++[a]) h [] [] (.slice none 0 0) (g.setCell ⟨b,2,none⟩ h):=by
 have c:=l.grow p;have v:=c.size;have s:=l.lo;have m:∀j,j<b+1->some j≠d.ownBlock:=fun j x e=>by have:=(bX c.aown j e.symm).1;omega
 have r:=(f.block b v (m _ ad)).trans c.box;refine⟨?_,?_,s,?_,cR _ _ _ _,rfl,fun i k q o=>by simp at o,?_⟩
 ·refine(eG _ _ _ _ (by show w.heap.size≠b;omega)).trans ?_
  exact(f.block _ ad (m _ ad)).trans c.res
 ·rw[FC _ _ _ _ _ _ r];rfl
 ·refine xE (B':=0) ?_
  rw[cm,pE];simpa using t
 ·refine Below.setCell ?_ (by show w.heap.size<=b;omega) _
  exact c.below.grown f ad (fun j e=>by have:=(bX c.aown j e).1;omega)
theorem iz.addKid{w:World}{l:Nat}{F:Bytes}{av:List (Bytes×Bytes)}{z r:Value}{ks:List Tr}{rs:List KA}{wr u y:World}(f:iz w l F av z ks rs r wr)(I:Below wr.heap.size wr u)
 {t:Tr} {q:KA} (O:cg u (fun b=>wr.heap.size<=b) t q) (o:u.grownBy y r.ownBlock) {g n c:Nat} {s:Value} (P:s=.slice (some ⟨g,0,none⟩) n c) (H:r.ownBlock=some g∨g=u.heap.size)
 (M:y.ownsRow (l+1) 29 4 s (ks.length+1) (kidRows ks rs++lx t q)):iz w l F av z (ks++[t]) (rs++[q]) s (y.setCell ⟨l,3,none⟩ s):=by
 have e:=f.grow I;have N:=e.size;have T:=f.size;have L:=f.lo;have C:∀j,j<l+1->some j≠r.ownBlock:=fun j S a=>by have:=(bX e.kown j a.symm).1;omega
 have J:=(o.block l N (C _ ad)).trans e.box;have Q:s.ownBlock=some g:=by rw[P];rfl
 have B:∀b m,b<u.heap.size->some b≠r.ownBlock->y.cell? ⟨b,m,none⟩=u.cell? ⟨b,m,none⟩:=fun b m h d=>o.cell_far ⟨b,m,none⟩ h d;have D:∀b,b<u.heap.size->some b≠r.ownBlock->some b≠s.ownBlock:=fun b h d a=>by
  rw[Q]at a;injection a with a
  rcases H with A|A
  ·rw[A,a]at d;exact d rfl
  ·omega
 refine⟨?_,?_,L,?_,?_,by rw[cm,cm,f.rlen];rfl,?_,?_⟩
 ·refine(eG _ _ _ _ (by show w.heap.size≠l;omega)).trans ?_
  exact(o.block _ ad (C _ ad)).trans e.res
 ·rw[FC _ _ _ _ _ _ J];rfl
 ·exact xE (B':=0) (df e.aown o (p6 e.aown e.kown aw))
 ·refine xE (B':=0) ?_
  rw[cm,K4 f.rlen];simpa using M
 ·intro i k p h d
  refine cg.set ?_ (fun b R=>ad);by_cases a:i<ks.length
  ·rw[eF a]at h
   rw[eF (by rw[f.rlen];exact a)]at d;exact(e.kin i k p h d).kept o.size fun b m v x=>⟨B b m v x.2,x.1,D b v x.2⟩
  ·have K:i=ks.length:=by have:=(aP.1 h).1;simp at this;omega
   subst K;rw[gH ad]at h;rw[gH (by rw[f.rlen];omega)]at d;rw[f.rlen]at d;simp at h d;subst h;subst d;refine O.kept o.size fun b m v x=> ?_;have E:some b≠r.ownBlock:=fun G=>by have:=(bX f.kown b G.symm).2;omega
   exact⟨B b m v E,ad,D b v E⟩
 ·refine Below.setCell ?_ (by show w.heap.size<=l;omega) _
  exact e.below.grown o ad (fun j a=>by have:=(bX e.kown j a).1;omega)
theorem jV{w w1:World}(B:Nat)(e:w.heap.size<=B)(f:Below w.heap.size w w1)(a b c d:Value):Below w.heap.size w ((((w1.setCell ⟨B,0,none⟩ a).setCell ⟨B,1,none⟩ b).setCell ⟨B,2,none⟩ c).setCell ⟨B,3,none⟩ d):=
 (((f.setCell (p:=⟨B,0,none⟩) e _).setCell (p:=⟨B,1,none⟩) e _).setCell (p:=⟨B,2,none⟩) e _).setCell (p:=⟨B,3,none⟩) e _
theorem Cn{b:Type}{l:List b}{k:Nat}{x:b}(a:l[k]?=some x):(l.drop k).take 1=[x]:=by have c:=(aP.1 a).1;rw[mZ c,(aP.1 a).2];rfl
theorem Co{w:World}{B size n:Nat}{g:TypeId}{f:Option Addr}{e:Nat}{xs:List Value}(d:w.ownsRow B g size (.slice f n e) n xs):kR w (fun b=>B<=b) f n e size xs:=by have a:=mC d;refine⟨a.1,a.2.1,a.2.2.1,fun j=> ?_⟩;obtain⟨b,l,c,i,h⟩:=a.2.2.2 j;exact⟨b,l,c,i,(bX d b (by rw[c];rfl)).1,h⟩
theorem iz.tree{w:World}{n:Nat}{m:Bytes}{av:List (Bytes×Bytes)}{g l:Option Addr}{f h:Nat}{ks:List Tr}{rs:List KA}{wr:World}(e:iz w n m av (.slice g av.length f) ks rs (.slice l ks.length h) wr)(a b c d:Value):
 cg ((((wr.setCell ⟨w.heap.size,0,none⟩ a).setCell ⟨w.heap.size,1,none⟩ b).setCell ⟨w.heap.size,2,none⟩ c).setCell ⟨w.heap.size,3,none⟩ d) (fun b=>w.heap.size<=b) (.mk m [] av ks) ⟨g,f,l,h⟩:=by
 have z:=e.lo;have t:cg wr (fun b=>n+1<=b) (.mk m [] av ks) ⟨g,f,l,h⟩:=
  .mk (Co e.aown) rs e.rlen (Co e.kown) (fun i k q r s=>(e.kin i k q r s).kept (aB _) fun b y x p=>⟨rfl,p.1⟩)
 have v:cg wr (fun b=>n+1<=b) (.mk m [] av ks) ⟨g,f,l,h⟩:=t;refine((((v.set (B:=w.heap.size) (j:=0) (u:=a) (fun b o=>ad)).set (B:=w.heap.size) (j:=1) (u:=b) (fun b o=>ad)).set (B:=w.heap.size) (j:=2) (u:=c) (fun b o=>ad)).set (B:=w.heap.size) (j:=3) (u:=d) (fun b o=>ad)).kept (aB _) fun b y x p=>⟨rfl,ad⟩
theorem Cp:∀(ks:List Tr) (t:Tr),da (ks++[t])=da ks++cy t
 |[],t=>by simp[da]
 |k::ks,t=>by simp[da,Cp ks t]
theorem Cq:∀{ks:List Tr} {t:Tr},gM ks->dC t->gM (ks++[t])
 |[],t,_,a=>⟨a,trivial⟩
 |k::ks,t,a,b=>⟨a.1,Cq a.2 b⟩
theorem K5{l:List bh}{ks:List Tr}{t:Tr}{k m n:Nat}(a:da ks=(l.drop k).take (m-k))(b:cy t=(l.drop m).take (n-m))(c:k<=m)(d:m<=n):da (ks++[t])=(l.drop k).take (n-k):=by rw[Cp,a,b,show n-k=(m-k)+(n-m) by omega,zo,sL,show k+(m-k)=m by omega]
theorem K6{l:List bh}{at_ k m:Nat}{a:Bytes}{av:List (Bytes×Bytes)}{ks:List Tr}(g:at_+1+av.length=k)(b:l[at_]?=some ⟨1,a,[]⟩)(h:a≠[])(c:(l.drop (at_+1)).take av.length=av.map dH)(d:da ks=(l.drop k).take (m-k))(i:k<=m)(e:l[m]?=some ⟨4,[],[]⟩):
 cy (.mk a [] av ks)=(l.drop at_).take (m+1-at_):=by
 have f:=(aP.1 b).1;rw[cy,ap h,mZ f,(aP.1 b).2,show m+1-at_=(av.length+((m-k)+1))+1 by omega,lr,zo,c,sL,g,zo,<-d,sL,show k+(m-k)=m by omega,Cn e,qG]
theorem Cr(w:World)(o:Obj){p:Addr}{v:Value}(a:w.cell? p=some v)(b:p.block<w.heap.size):(w.alloc o).cell? p=some v:=(((aA w.heap.size w).alloc (aB _) o).cell b).trans a
def K7(l:List bh)(at_:Nat)(w:World)(a:Ending)(w':World):Prop:=
 Below w.heap.size w w'/\(a=.returned (.tuple #[.agg #[.string ⟨#[]⟩,.string ⟨#[]⟩,.slice none 0 0,.slice none 0 0],.int .i64 (-1)])∨
  ∃(t:Tr) (r:KA) (n:Nat),a=.returned (.tuple #[.agg #[.string ⟨t.label.toArray⟩,.string ⟨t.text.toArray⟩,.slice r.ao t.attrs.length r.ac,.slice r.ko t.kids.length r.kc],.int .i64 n])/\
   at_<n/\n<=l.length/\cg w' (fun b=>w.heap.size<=b) t r/\cy t=(l.drop at_).take (n-at_)/\dC t)
theorem K8(w:World)(P:Nat->Prop)(x y:Bytes):cg w P (.mk x y [] []) ⟨none,0,none,0⟩:=
 .mk ⟨rfl,aB _,aK _,fun a=>by simp at a⟩ [] rfl ⟨rfl,aB _,aK _,fun a=>by simp at a⟩ (fun i k q a=>by simp at a)
theorem K9(l:List bh)(o:Option Addr)(cap:Nat)(gs:l.length<=1048576)(c0:∀s∈l,s.kind=1->s.name≠[]):∀(f at_:Nat) (w:World),l.length-at_<=f->at_<=l.length->iq w o cap l->
 Calls prog 51 #[.slice o l.length cap,.int .i64 at_] w (K7 l at_ w):=by
 obtain⟨fl,er,e7,e8,e9⟩:=cL Cm;obtain⟨it,es,fb,fc,fg⟩:=cL xD;intro f;induction f with
 |zero=>
  intro at_ w en a1 e;have eD:=e.2.1;have bi:=e.2.2.1;unfold maxLen at bi;have cq:decide (l.length<=at_)=true:=aM;go_enter func51,ntmps51
  go_wp2_with fail
  exact bS (v:=.tuple #[.agg #[.string ⟨#[]⟩,.string ⟨#[]⟩,.slice none 0 0,.slice none 0 0],.int .i64 (-1)]) (by simp[results,oy,go_sem]) rfl ⟨az,.inl rfl⟩
 |succ f ih=>
  intro at_ w en a1 e;have eD:=e.2.1;have bi:=e.2.2.1;unfold maxLen at bi;by_cases eE:at_<l.length
  ·have cq:decide (l.length<=at_)=false:=aJ
   have gr:(at_:Int)<l.length:=ad;obtain⟨s,X⟩:∃n,l[at_]?=some n:=⟨_,aF eE⟩;have c7:=aU X;obtain⟨b,d,rfl,a2,bE,bF,bZ⟩:=e.at X;have du:=aC w (.cells #[.string ⟨#[]⟩,.string ⟨#[]⟩,.slice none 0 0,.slice none 0 0] 29);have cl:Below w.heap.size w (w.alloc (.cells #[.string ⟨#[]⟩,.string ⟨#[]⟩,.slice none 0 0,.slice none 0 0] 29)):=az;have c6:w.heap.size<(w.alloc (.cells #[.string ⟨#[]⟩,.string ⟨#[]⟩,.slice none 0 0,.slice none 0 0] 29)).heap.size:=ak;obtain⟨w0,e6⟩:=aj (w.alloc (.cells #[.string ⟨#[]⟩,.string ⟨#[]⟩,.slice none 0 0,.slice none 0 0] 29));obtain⟨d5,b7,d4⟩:=bO (c0 s c7) X ih;clear c7 X ih;obtain⟨O,h,T⟩:=s;simp only at bE bF bZ;have bu:=Ck ⟨O,h,T⟩ w0;simp only at bu;go_enter func51,ntmps51
   go_wp2_with fail
   rw[<-e6]at du cl c6⊢;refine bu.mono ?_;rintro A w1 ⟨rfl,co⟩;clear bu;have D:=(co.block _ c6).trans du;have Q:=aD cl co;obtain⟨j,r,x,y⟩:w1.cell? ⟨w.heap.size,0,none⟩=some (.string ⟨#[]⟩)/\w1.cell? ⟨w.heap.size,1,none⟩=some (.string ⟨#[]⟩)/\w1.cell? ⟨w.heap.size,2,none⟩=some (.slice none 0 0)/\w1.cell? ⟨w.heap.size,3,none⟩=some (.slice none 0 0):=
    ⟨ai 0 D,ai 1 D,ai 2 D,ai 3 D⟩
   have H:=aQ D 0;have I:=aQ D 1;have J:=aQ D 2;have f3:=aQ D 3;have fx:w1.cell? ⟨b,d+at_*3,none⟩=some (.int .i64 O):=((Q.cell (p:=⟨b,d+at_*3,none⟩) a2)).trans bE;have fy:w1.cell? ⟨b,d+at_*3+1,none⟩=some (.string ⟨h.toArray⟩):=((Q.cell (p:=⟨b,d+at_*3+1,none⟩) a2)).trans bF;have fz:w1.cell? ⟨b,d+at_*3+2,none⟩=some (.string ⟨T.toArray⟩):=((Q.cell (p:=⟨b,d+at_*3+2,none⟩) a2)).trans bZ;cases ab:pg ⟨O,h,T⟩with
   |false=>
    clear ab;go_wp2_with fail
    exact bS (v:=.tuple #[.agg #[.string ⟨#[]⟩,.string ⟨#[]⟩,.slice none 0 0,.slice none 0 0],.int .i64 (-1)]) (by simp[results,oy,go_sem,j,r,x,y,H,I,J,f3]) rfl ⟨jV _ (aB _) Q _ _ _ _,.inl rfl⟩
   |true=>
    by_cases bb:O=3
    ·subst bb
     have bq:((3:Int)==1)=false:=rfl;go_wp2_with fail
     have e4:cy (.mk [] T [] [])=[⟨3,[],T⟩]:=by rw[cy];rfl
     refine bS (v:=.tuple #[.agg #[.string ⟨#[]⟩,.string ⟨T.toArray⟩,.slice none 0 0,.slice none 0 0],.int .i64 ((at_:Int)+1)]) (by simp[results,oy,go_sem,j,r,x,y,H,I,J,f3]) rfl ⟨jV _ (aB _) Q _ _ _ _,.inr ⟨.mk [] T [] [],⟨none,0,none,0⟩,at_+1,rfl,ad,ad,K8 _ _ _ _,?_,?_⟩⟩
     ·rw[e4,show at_+1-at_=1 by omega,Cn b7.o]
      have:=ab;unfold pg at this;simp at this;rw[this]
     ·unfold dC;exact⟨fun _=>⟨rfl,rfl⟩,fun e=>absurd rfl e,trivial⟩
    ·by_cases ba:O=1
     ·subst ba
      have g7:((1:Int)==3)=false:=rfl;have e5:T=[]:=by unfold pg at ab;simpa using ab
      subst e5;clear ab;have c3:h≠[]:=d5.o rfl;have b6:=ah c3;clear c3;go_wp2_with fail
      obtain⟨a,bc⟩:=aj (w1.heap.size);have c5:=(bH w1 (.cells #[.string ⟨h.toArray⟩,.string ⟨#[]⟩,.slice none 0 0,.slice none 0 0] 29) w.heap.size (aN D)).trans D;have be:=aC w1 (.cells #[.string ⟨h.toArray⟩,.string ⟨#[]⟩,.slice none 0 0,.slice none 0 0] 29);rw[<-bc]at be⊢;have cc:iz w a h [] (.slice none 0 0) [] [] (.slice none 0 0) (w1.alloc (.cells #[.string ⟨h.toArray⟩,.string ⟨#[]⟩,.slice none 0 0,.slice none 0 0] 29)):=
       ⟨c5,be,by have:=aN D;omega,cR _ _ _ _,cR _ _ _ _,rfl,fun i k q e=>by simp at e,Q.alloc Q.size _⟩
      obtain⟨ha,dr⟩:=aj (w1.alloc (.cells #[.string ⟨h.toArray⟩,.string ⟨#[]⟩,.slice none 0 0,.slice none 0 0] 29));rw[<-dr]at cc⊢;have fG:=ah bc;clear bc;clear c5 be dr D j r x y H I J f3 fx fy fz bE bF bZ;go_loopw [1] (fun v wr=>∃(k:Nat) (av:List (Bytes×Bytes)) (b8:Value),v=.int .i64 k/\at_+1+av.length=k/\k<=l.length/\Hid ((l.drop (at_+1)).take av.length=av.map dH)/\iz w a h av b8 [] [] (.slice none 0 0) wr) (fun v _=>l.length-(intOf v).toNat)
      case atStart=>exact⟨at_+1,[],.slice none 0 0,aG,rfl,ad,rfl,cc⟩
      case round=>
       obtain⟨k,av,b8,rfl,cx,ex,b3,C⟩:=hrel;have bf:=C.below;have a3:(∃B,l[k]?=some B/\B.kind=2)∨(k=l.length)∨(∃B,l[k]?=some B/\B.kind≠2):=by
        by_cases bo:k<l.length
        ·obtain⟨B,N⟩:∃n,l[k]?=some n:=⟨_,aF bo⟩
         by_cases A:B.kind=2
         ·exact .inl ⟨B,N,A⟩
         ·exact .inr (.inr ⟨B,N,A⟩)
        ·exact .inr (.inl ad)
       rcases a3 with⟨B,N,ao⟩|a3
       ·have bo:=(aP.1 N).1
        have bl:decide ((k:Int)<l.length)=true:=aM;have bm:(k:Int)<l.length:=ad;have ez:(0:Int)<=k:=ad;obtain⟨b',d1,G,bd,a7,b0,b1⟩:=(e.below bf).at N;injection G with G
        injection G with ag al an;clear an
        subst ag;subst al;have d8:=ah N;clear N;obtain⟨a6,ae,af⟩:=B;simp only at a7 b0 b1 ao;subst ao;have ci:(l.drop (at_+1)).take (av.length+1)=(av++[(ae,af)]).map dH:=by rw[bG,b3.o,vG,cx,d8.o];simp[dH]
        have d3:=ah ci;clear ci;obtain⟨F,E,rfl⟩:=cJ C.aown;have cp:=C.box;have c9:=C.size;have fo:=ai 2 cp;have f7:b<w.heap.size:=a2;have gv:=C.lo;have bq:some b≠(Value.slice F av.length E).ownBlock:=fun A=>by have:=(bX C.aown _ A.symm).1;omega
        have c1:some a≠(Value.slice F av.length E).ownBlock:=fun A=>by have:=(bX C.aown _ A.symm).1;omega
        have ch:∀w',Below wr.heap.size wr w'->w'.cell? ⟨b,d+k*3+1,none⟩=some (.string ⟨ae.toArray⟩)/\w'.cell? ⟨b,d+k*3+2,none⟩=some (.string ⟨af.toArray⟩)/\w'.cell? ⟨a,2,none⟩=some (.slice F av.length E)/\w'.frozen? ⟨a,2,none⟩=false:=fun w' M=>⟨(M.cell (p:=⟨b,d+k*3+1,none⟩) bd).trans b0,(M.cell (p:=⟨b,d+k*3+2,none⟩) bd).trans b1,(M.cell (p:=⟨a,2,none⟩) c9).trans fo,aQ ((M.block a c9).trans cp) 2⟩;have eb:∀u L:World,Below wr.heap.size wr u->u.grownBy L (Value.slice F av.length E).ownBlock->L.cell? ⟨b,d+k*3+1,none⟩=some (.string ⟨ae.toArray⟩)/\L.cell? ⟨b,d+k*3+2,none⟩=some (.string ⟨af.toArray⟩)/\L.cell? ⟨a,2,none⟩=some (.slice F av.length E)/\L.frozen? ⟨a,2,none⟩=false:=by intro u L M W;have e2:=M.size;obtain⟨j,r,x,y⟩:=ch u M;exact⟨(W.cell_far ⟨b,d+k*3+1,none⟩ (by show b<_;omega) bq).trans j,(W.cell_far ⟨b,d+k*3+2,none⟩ (by show b<_;omega) bq).trans r,(W.cell_far ⟨a,2,none⟩ (by show a<_;omega) c1).trans x,(W.frozen_far ⟨a,2,none⟩ (by show a<_;omega) c1).trans y⟩
        have gb:=(aA wr.heap.size wr).drew;obtain⟨f2,f4,f5,f6⟩:=ch wr (aA _ _);have a4:=C.aown;have eB:av.length<=1048576:=ad;go_wp2_with fail
        go_region_law (first
         |((refine pO _ (by rfl) _ _ _ (by rfl) (a+1) 72 fl _ 2 32 underlying26 er e7 e8 e9 rfl ad (.slice F av.length E) av.length (av.flatMap mn) (by rfl) (by(first|exact dA a4.drew _|exact(dA a4 _).drew)) ⟨wr.heap.size,0,none⟩ 1 1 [.string ⟨ae.toArray⟩,.string ⟨af.toArray⟩] (by rfl) (by rfl) (by exact dt wr.drew [.string ⟨ae.toArray⟩,.string ⟨af.toArray⟩] _ _ rfl) (fun z a0=>by simp at a0;rcases a0 with rfl|rfl<;>rfl) ad bN ad aO _ rfl ?_);intro a9 gc fv bt aq a1 eZ;obtain⟨_,_,fr,fs⟩:=eb _ _ (by first|exact az.drew|exact((aA _ wr).drew).alloc ak _) aq))
        all_goals go_wp2_with fail
        all_goals go_roundw
        all_goals first
         |(refine⟨k+1,av++[(ae,af)],.slice (some ⟨a9,0,none⟩) (av.length+1) gc,aG,aO,ad,by rw[cm];exact d3,?_⟩
           exact C.addAttr (by first|exact az.drew|exact((aA _ wr).drew).alloc ak _) aq bt)
         |(simp[intOf];omega)
       ·obtain⟨F,E,rfl⟩:=cJ C.aown
        have cs:(decide ((k:Int)<l.length)=false/\(k:Int)>=l.length)∨(decide ((k:Int)<l.length)=true/\(k:Int)<l.length/\(0:Int)<=k/\∃a6:Int,(a6==2)=false/\wr.cell? ⟨b,d+k*3,none⟩=some (.int .i64 a6)):=by
         rcases a3 with rfl|⟨B,N,ao⟩
         ·exact .inl ⟨by rw[cF];omega,ad⟩
         ·have bo:=(aP.1 N).1
          obtain⟨b',d1,G,bd,a7,b0,b1⟩:=(e.below bf).at N;injection G with G
          injection G with ag al an;clear an
          subst ag;subst al;exact .inr ⟨by rw[ct];omega,ad,ad,B.kind,by simpa using ao,a7⟩
        clear a3;obtain⟨hb,ds⟩:=aj (wr);rw[<-ds]at C bf cs⊢;clear ds;rcases cs with⟨bl,bm⟩|⟨bl,bm,ez,a6,ao,a7⟩
        all_goals go_wp2_with fail
        all_goals go_loopw [1] (fun v wr=>∃(m:Nat) (ks:List Tr) (rs:List KA) (d0:Value),v=.int .i64 m/\k<=m/\m<=l.length/\Hid (da ks=(l.drop k).take (m-k))/\Hid (gM ks)/\ks.length<=m-k/\iz w a h av (.slice F av.length E) ks rs d0 wr) (fun v _=>l.length-(intOf v).toNat)
        all_goals first
         |exact⟨k,[],[],.slice none 0 0,rfl,aB _,ex,by rw[qE];rfl,trivial,aK _,C⟩
         |skip
        all_goals
         clear bl bm;try(rename¬k<l.length=>hbad;clear hbad)
         try(rename (l.length:Int)<=(k:Int)=>hbad;clear hbad)
         obtain⟨m,ks,rs,d0,rfl,cN,g0,b5,b2,cG,P⟩:=hrel;have bg:=P.below;have g8:=P.size;have gG:=P.lo;obtain⟨Z,Y,rfl⟩:=cJ P.kown;by_cases eN:m<l.length
         ·have eg:decide ((m:Int)<l.length)=true:=aM
          have el:decide ((l.length:Int)<=(m:Int))=false:=aJ;have g2:(m:Int)<l.length:=ad;have g1:(0:Int)<=m:=ad;obtain⟨fu,bz⟩:∃n,l[m]?=some n:=⟨_,aF eN⟩;obtain⟨b',d1,G,gd,u0,u1,u2⟩:=(e.below bg).at bz;injection G with G
          injection G with ag al an;clear an
          subst ag;subst al;have ea:=ah bz;clear bz;have b4:=ah cG;clear cG;obtain⟨dz,bA,bB⟩:=fu;simp only at u0 u1 u2;by_cases b9:dz=4
          ·subst b9
           have bw:=Ck ⟨4,bA,bB⟩ wr;simp only at bw;go_wp2_with fail
           refine bw.mono ?_;rintro A c ⟨rfl,aa⟩;clear bw;have g:=P.grow aa;have K:=g.res;have V:=g.box;obtain⟨j,r,x,y⟩:c.cell? ⟨w.heap.size,0,none⟩=some (.string ⟨#[]⟩)/\c.cell? ⟨w.heap.size,1,none⟩=some (.string ⟨#[]⟩)/\c.cell? ⟨w.heap.size,2,none⟩=some (.slice none 0 0)/\c.cell? ⟨w.heap.size,3,none⟩=some (.slice none 0 0):=
            ⟨ai 0 K,ai 1 K,ai 2 K,ai 3 K⟩
           have H:=aQ K 0;have I:=aQ K 1;have J:=aQ K 2;have f3:=aQ K 3;cases a5:pg ⟨4,bA,bB⟩with
           |false=>
            clear a5;go_wp2_with fail
            exact bS (v:=.tuple #[.agg #[.string ⟨#[]⟩,.string ⟨#[]⟩,.slice none 0 0,.slice none 0 0],.int .i64 (-1)]) (by simp[results,oy,go_sem,j,r,x,y,H,I,J,f3]) rfl ⟨jV _ (aB _) g.below _ _ _ _,.inl rfl⟩
           |true=>
            obtain⟨fN,fT,f0,f1⟩:c.cell? ⟨a,0,none⟩=some (.string ⟨h.toArray⟩)/\c.cell? ⟨a,1,none⟩=some (.string ⟨#[]⟩)/\c.cell? ⟨a,2,none⟩=some (.slice F av.length E)/\c.cell? ⟨a,3,none⟩=some (.slice Z ks.length Y):=
             ⟨ai 0 V,ai 1 V,ai 2 V,ai 3 V⟩
            have e1:bA=[]/\bB=[]:=by unfold pg at a5;simpa using a5
            obtain⟨rfl,rfl⟩:=e1;clear a5;go_wp2_with fail
            refine bS (v:=.tuple #[.agg #[.string ⟨h.toArray⟩,.string ⟨#[]⟩,.slice F av.length E,.slice Z ks.length Y],.int .i64 ((m:Int)+1)]) (by simp[results,oy,go_sem,j,r,x,y,H,I,J,f3]) rfl ⟨jV _ (aB _) g.below _ _ _ _,.inr ⟨.mk h [] av ks,⟨F,E,Z,Y⟩,m+1,rfl,ad,ad,g.tree _ _ _ _,?_,?_⟩⟩
            ·exact K6 cx b7.o b6.o b3.o b5.o cN ea.o
            ·unfold dC
             exact⟨fun A=>absurd A b6.o,fun _=>rfl,b2.o⟩
          ·have gl:(dz==4)=false:=by simpa using b9
           have cu:=d4.o m wr ad ad (e.below bg);go_wp2_with fail
           refine cu.mono ?_;rintro A c ⟨aa,em⟩;clear cu;have g:=P.grow aa;have K:=g.res;have V:=g.box;rcases em with rfl|⟨t,q,n,rfl,g4,e0,ce,c8,c4⟩
           ·have S:=(bH c (.cells #[.string ⟨#[]⟩,.string ⟨#[]⟩,.slice none 0 0,.slice none 0 0] 29) w.heap.size (aN K)).trans K
            have ed:Below w.heap.size w (c.alloc (.cells #[.string ⟨#[]⟩,.string ⟨#[]⟩,.slice none 0 0,.slice none 0 0] 29)):=g.below.alloc g.below.size _;obtain⟨j,r,x,y⟩:(c.alloc (.cells #[.string ⟨#[]⟩,.string ⟨#[]⟩,.slice none 0 0,.slice none 0 0] 29)).cell? ⟨w.heap.size,0,none⟩=some (.string ⟨#[]⟩)/\(c.alloc (.cells #[.string ⟨#[]⟩,.string ⟨#[]⟩,.slice none 0 0,.slice none 0 0] 29)).cell? ⟨w.heap.size,1,none⟩=some (.string ⟨#[]⟩)/\(c.alloc (.cells #[.string ⟨#[]⟩,.string ⟨#[]⟩,.slice none 0 0,.slice none 0 0] 29)).cell? ⟨w.heap.size,2,none⟩=some (.slice none 0 0)/\(c.alloc (.cells #[.string ⟨#[]⟩,.string ⟨#[]⟩,.slice none 0 0,.slice none 0 0] 29)).cell? ⟨w.heap.size,3,none⟩=some (.slice none 0 0):=
             ⟨ai 0 S,ai 1 S,ai 2 S,ai 3 S⟩
            have H:=aQ S 0;have I:=aQ S 1;have J:=aQ S 2;have f3:=aQ S 3;go_wp2_with fail
            exact bS (v:=.tuple #[.agg #[.string ⟨#[]⟩,.string ⟨#[]⟩,.slice none 0 0,.slice none 0 0],.int .i64 (-1)]) (by simp[results,oy,go_sem,j,r,x,y,H,I,J,f3]) rfl ⟨jV _ (aB _) ed _ _ _ _,.inl rfl⟩
           ·have g3:decide ((n:Int)<0)=false:=aJ
            have g9:=(Cr c (.cells #[.string ⟨t.label.toArray⟩,.string ⟨t.text.toArray⟩,.slice q.ao t.attrs.length q.ac,.slice q.ko t.kids.length q.kc] 29) (ai 3 V) g.size);have a4:=dA (dA g.kown (.cells #[.string ⟨t.label.toArray⟩,.string ⟨t.text.toArray⟩,.slice q.ao t.attrs.length q.ac,.slice q.ko t.kids.length q.kc] 29)) (.cells #[.string ⟨t.label.toArray⟩,.string ⟨t.text.toArray⟩,.slice q.ao t.attrs.length q.ac,.slice q.ko t.kids.length q.kc] 29);have e3:=g.size;have c2:some a≠(Value.slice Z ks.length Y).ownBlock:=fun A=>by have:=(bX g.kown _ A.symm).1;omega
            have ec:∀u L:World,Below c.heap.size c u->u.grownBy L (Value.slice Z ks.length Y).ownBlock->L.cell? ⟨a,3,none⟩=some (.slice Z ks.length Y)/\L.frozen? ⟨a,3,none⟩=false:=by intro u L M W;have e2:=M.size;have X:=(M.block a e3).trans V;exact⟨(W.cell_far ⟨a,3,none⟩ (by show a<_;omega) c2).trans (ai 3 X),(W.frozen_far ⟨a,3,none⟩ (by show a<_;omega) c2).trans (aQ X 3)⟩
            have eB:ks.length<=1048576:=by have:=b4.o;omega
            obtain⟨d7,d6,d2⟩:=bO c8 c4 ce;clear c8 c4 ce;go_wp2_with(first
             |(at_builtin;go_must (refine mc _ rfl _ _ 27 rfl (a+1) 29 it _ 4 80 FD es fb fc fg rfl ad (.slice Z ks.length Y) ks.length (kidRows ks rs) rfl a4 ⟨c.heap.size+1,0,none⟩ 1 1 (lx t q) rfl rfl (by exact dt _ (lx t q) _ _ ak) (fun z a0=>by simp[lx]at a0;rcases a0 with rfl|rfl|rfl|rfl<;>rfl) ad bN ad aO _ rfl ?_);intro a9 gc fv bt aq a1 eZ;obtain⟨fr,fs⟩:=ec _ _ (az.alloc ak _) aq)
             |go_in)
            go_roundw
            case rel=>
             refine⟨n,ks++[t],rs++[q],.slice (some ⟨a9,0,none⟩) (ks.length+1) gc,aG,ad,e0,?_,?_,(by have:=b4.o;simp;omega),?_⟩
             ·exact K5 b5.o d7.o cN ad
             ·exact Cq b2.o d6.o
             ·exact P.addKid (((aa.alloc aa.size _).alloc (by have:=aa.size;simp;omega) _)) (d2.o.grow (az.alloc ak _)) aq rfl a1 bt
            case measure=>exact aH
         ·have eg:decide ((m:Int)<l.length)=false:=aJ
          have el:decide ((l.length:Int)<=(m:Int))=true:=aM;have R:=P.res;obtain⟨j,r,x,y⟩:wr.cell? ⟨w.heap.size,0,none⟩=some (.string ⟨#[]⟩)/\wr.cell? ⟨w.heap.size,1,none⟩=some (.string ⟨#[]⟩)/\wr.cell? ⟨w.heap.size,2,none⟩=some (.slice none 0 0)/\wr.cell? ⟨w.heap.size,3,none⟩=some (.slice none 0 0):=
           ⟨ai 0 R,ai 1 R,ai 2 R,ai 3 R⟩
          have H:=aQ R 0;have I:=aQ R 1;have J:=aQ R 2;have f3:=aQ R 3;go_wp2_with fail
          exact bS (v:=.tuple #[.agg #[.string ⟨#[]⟩,.string ⟨#[]⟩,.slice none 0 0,.slice none 0 0],.int .i64 (-1)]) (by simp[results,oy,go_sem,j,r,x,y,H,I,J,f3]) rfl ⟨jV _ (aB _) bg _ _ _ _,.inl rfl⟩
     ·have gf:(O==1)=false:=by simpa using ba
      have gg:(O==3)=false:=by simpa using bb
      have c0:(O !=1)=true:=by simpa using ba
      have g5:(O !=3)=true:=by simpa using bb
      clear ab;go_wp2_with fail
      exact bS (v:=.tuple #[.agg #[.string ⟨#[]⟩,.string ⟨#[]⟩,.slice none 0 0,.slice none 0 0],.int .i64 (-1)]) (by simp[results,oy,go_sem,j,r,x,y,H,I,J,f3]) rfl ⟨jV _ (aB _) Q _ _ _ _,.inl rfl⟩
  ·have cq:decide (l.length<=at_)=true:=aM
   go_enter func51,ntmps51
   go_wp2_with fail
   exact bS (v:=.tuple #[.agg #[.string ⟨#[]⟩,.string ⟨#[]⟩,.slice none 0 0,.slice none 0 0],.int .i64 (-1)]) (by simp[results,oy,go_sem]) rfl ⟨az,.inl rfl⟩
end Go.Proofs.YtbacloblanpghaaGreatDoor
