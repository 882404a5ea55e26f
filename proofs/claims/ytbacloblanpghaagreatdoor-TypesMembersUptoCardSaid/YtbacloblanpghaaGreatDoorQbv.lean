import Derived.Test.YtbacloblanpghaaGreatDoorQbr
set_option linter.unusedVariables false
set_option linter.unusedSimpArgs false
set_option maxRecDepth 100000
set_option maxHeartbeats 0
namespace Go.Proofs.YtbacloblanpghaaGreatDoor
open Go.RowKit Tryz
def kI(w:World)(B:Nat)(v:Value)(l:List ar):Prop:=
 ∃n keys b d nv c a,fD (true,0) 256 (cV l (dw (symsS l))) n=some (keys,b)/\keys.length=n/\v=.agg #[d,nv,c]/\cA w B d (dw (symsS l))/\w.ownsRow B 53 1 nv a.length a/\a.length=b.length/\
  (∀(j:Nat) (v:Value) (r:List Nat),a[j]?=some v->b[j]?=some r->cO w B v r)/\w.ownsRow B 4 1 c keys.length (keys.map fun s=>.bool (uX l s))
def sx(l:List ar):Prop:=∃n keys a k,fD (true,0) 256 (cV l (dw (symsS l))) n=some (keys,a)/\keys[n]?=some k/\fp 256 keys (cV l (dw (symsS l)) k)=none
theorem vk{w w':World}{B a size n:Nat}{v:Value}{xs:List Value}{row:Option Nat}(b:w.ownsRow B a size v n xs)(h:w.grownBy w' row)(i:∀q,row=some q->(∃e c,w.heap[q]?=some (.map e c))∨q<B):w'.ownsRow B a size v n xs:=
 aY b (fun g d=>h.block g (aV b d).2 (fun a=>by
  rcases i g a.symm with⟨e,c,f⟩|f
  ·exact mQ b f d
  ·have:=(aV b d).1;omega))
theorem kI.grown{w w':World}{B:Nat}{v:Value}{l:List ar}{row:Option Nat}(f:kI w B v l)(a:w.grownBy w' row)(b:∀q,row=some q->(∃d c,w.heap[q]?=some (.map d c))∨q<B):kI w' B v l:=by obtain⟨n,keys,y,z,nv,e,A,g,h,i,m,o,p,s,t⟩:=f;exact⟨n,keys,y,z,nv,e,A,g,h,i,vk m a b,vk o a b,p,fun j v r u x=>vk (s j v r u x) a b,vk t a b⟩
theorem kI.low{w:World}{B B':Nat}{v:Value}{l:List ar}(c:kI w B v l)(a:B'<=B):kI w B' v l:=by obtain⟨n,keys,s,t,nv,b,u,d,e,f,g,h,i,m,o⟩:=c;exact⟨n,keys,s,t,nv,b,u,d,e,f,fY g a,fY h a,i,fun j v r p q=>fY (m j v r p q) a,fY o a⟩
def kJ(w:World)(B b:Nat)(l:List am):Prop:=
 ∃n f,bn w prog 3 b n f/\n<=((List.range l.length).filter (fun a=>(f (.int .i64 (a:Nat))).isSome)).length/\∀(a:Nat) (v:Value),f (.int .i64 (a:Nat))=some v->∃x,l[a]?=some x/\kI w B v x.t.nodes
theorem kJ.grown{w w':World}{B b:Nat}{l:List am}{row:Option Nat}(i:kJ w B b l)(e:w.grownBy w' row)(g:∀q,row=some q->((∃h c,w.heap[q]?=some (.map h c))∨q<B)/\q≠b):kJ w' B b l:=by obtain⟨n,f,j,m,o⟩:=i;exact⟨n,f,j.kept e (fun d=>(g _ d.symm).2 rfl),m,fun a v r=>by obtain⟨x,s,p⟩:=o a v r;exact⟨x,s,p.grown e (fun q d=>(g q d).1)⟩⟩
def yS(b:World)(d:Nat->Prop)(e f a g:Nat)(l:List am)(o:Option Addr)(cap:Nat)(x:am)(w:World)(c:Ending)(w':World):Prop:=
 (eq b d w' e f a g o cap l/\kJ w' b.heap.size a l/\w.grownBy w' (some a))/\
 ((∃v,c=.returned (.tuple #[v,.int .i64 0])/\kI w' b.heap.size v x.t.nodes)∨(sx x.t.nodes/\c=.returned (.tuple #[.agg #[.slice none 0 0,.slice none 0 0,.slice none 0 0],.int .i64 17])))
theorem Ey(l:List am)(o:Option Addr)(cap:Nat)(A:World)(e1:Gl A)(c4:cn A o cap l)(f7:l.length<=64)(an:Nat->Prop)(F a3 s a4:Nat)(eZ:an s)(k:Nat)(x:am)(cq:l[k]?=some x)(e0:cw x.t.nodes=0)(fo:x.t.nodes.length<=60)(cp:0<(symsS x.t.nodes).length)(w:World)
 (t:eq A an w F a3 s a4 o cap l) (e4:kJ w A.heap.size s l):
 Calls prog 69 #[.pointer (some ⟨F,0,none⟩),.int .i64 (k:Nat)] w (yS A an F a3 s a4 l o cap x w):=by
 have fl:k<l.length:=(aP.1 cq).1;have f6:(k:Int)<l.length:=ad;obtain⟨bb,N,bz,bE,cl⟩:=e4;have c8:=t.blk;have b9:=aL c8;have co:keyOf prog 3 (.int .i64 (k:Nat))=some (.int .i64 (k:Nat)):=oz cX (kt ad);have d5:∀w:World,(zeroValue 143).run prog w=.ok (.agg #[.slice none 0 0,.slice none 0 0,.slice none 0 0]) w:=fun _=>ay;obtain⟨w1,al⟩:=aj (w.alloc (.cells #[.slice none 0 0,.slice none 0 0,.slice none 0 0] 143));have bu:Below w.heap.size w w1:=by rw[al];exact az
 have ec:w1.heap[w.heap.size]?=some (.cells #[.slice none 0 0,.slice none 0 0,.slice none 0 0] 143):=by rw[al];exact aC w _
 have fy:w1.heap.size=w.heap.size+1:=by rw[al];simp
 have cc:=bz.kept (bP bu none) ak;have bA:=cc.look_ok (ge cX) underlying78 (d5 w1) cD co;have d7:=ai 2 ((bu.block _ b9).trans c8);obtain⟨H,bi⟩:=aE t t;have b0:Hid (kJ w A.heap.size s l):=ah ⟨bb,N,bz,bE,cl⟩;obtain⟨bf,bo,bm,cN,c0,bl⟩:=gR bu ec cq cl bE bz;clear d5 t bu ec cq cl bE bz;cases av:N (.int .i64 (k:Nat))with
 |some v=>
  obtain⟨y,bF,ch⟩:=cN.o k v av;rw[bm.o]at bF;injection bF with bF
  subst bF;obtain⟨n,keys,bd,fz,nv,eN,e,Q,R,rfl,aa,ab,a7,a9,ae⟩:=ch;obtain⟨j,i,rfl⟩:=cC aa;obtain⟨no,h,rfl⟩:=cC ab;obtain⟨g,f,rfl⟩:=cC ae;rw[av]at bA;have eg:Hid (kI w A.heap.size _ x.t.nodes):=ah ⟨n,keys,bd,_,_,_,e,Q,R,rfl,aa,ab,a7,a9,ae⟩;obtain⟨D,W⟩:=aj (w1.alloc (.cells #[.slice j (dw (symsS x.t.nodes)).length i,.slice no e.length h,.slice g keys.length f] 143));have M:Below w1.heap.size w1 D:=by rw[W];exact az
  have be:D.heap[w1.heap.size]?=some (.cells #[.slice j (dw (symsS x.t.nodes)).length i,.slice no e.length h,.slice g keys.length f] 143):=by rw[W];exact aC w1 _
  rw[fy]at be;have Y:=(M.block _ (aL bo.out)).trans bo.out;have bq:=ai 0 be;have a1:=ai 1 be;have bt:=ai 2 be;have b2:=ai 0 Y;have b3:=ai 1 Y;have b4:=ai 2 Y;have b7:=aQ Y 0;have b8:=aQ Y 1;have N:=aQ Y 2;obtain⟨ao,a5⟩:=aE (aD bf.out M) Y;clear av Q R aa ab a7 a9 ae co cc M be Y;go_enter func69,ntmps69
  go_wp2_with(first|(rw[<-al];clear al)|(rw[<-W];clear W)|fail)
  have B:(((D.setCell ⟨w.heap.size,0,none⟩ (.slice j (dw (symsS x.t.nodes)).length i)).setCell ⟨w.heap.size,1,none⟩ (.slice no e.length h)).setCell ⟨w.heap.size,2,none⟩ (.slice g keys.length f)).heap[w.heap.size]?=some (.cells #[.slice j (dw (symsS x.t.nodes)).length i,.slice no e.length h,.slice g keys.length f] 143):=
   bL _ _ 2 _ (bL _ _ 1 _ (bL _ _ 0 _ a5.out))
  have T:Below w.heap.size w (((D.setCell ⟨w.heap.size,0,none⟩ (.slice j (dw (symsS x.t.nodes)).length i)).setCell ⟨w.heap.size,1,none⟩ (.slice no e.length h)).setCell ⟨w.heap.size,2,none⟩ (.slice g keys.length f)):=((ao.out.setCell ak _).setCell ak _).setCell ak _;have bc:=ai 0 B;have O:=ai 1 B;have J:=ai 2 B;have ci:yS A an F a3 s a4 l o cap x w (.returned (.tuple #[.agg #[.slice j (dw (symsS x.t.nodes)).length i,.slice no e.length h,.slice g keys.length f],.int .i64 0])) _:=
   ⟨⟨bi.o.kept (bP T none) (fun q d=>by cases d),b0.o.grown (bP T none) (fun q d=>by cases d),bP T _⟩,.inl ⟨_,rfl,eg.o.grown (bP T none) (fun q d=>by cases d)⟩⟩
  (try simp only[Exit.inBlock,Exit.then])
  exact bS (v:=.tuple #[.agg #[.slice j (dw (symsS x.t.nodes)).length i,.slice no e.length h,.slice g keys.length f],.int .i64 0]) (by simp[results,results69,go_sem,bc,O,J,th]) rfl ci
 |none=>
  rw[av]at bA;have em:=ah av;have c5:=c4.below (H.o.base.trans (bf.out.mono H.o.base.size));obtain⟨b1,cu,rfl,e9,fG,fN,fT,f0,f1,ea⟩:=c5.at bm.o;have d6:=ai 0 ((bf.out.block _ b9).trans H.o.blk);obtain⟨D,W⟩:=aj (w1.alloc (.cells #[.slice none 0 0,.slice none 0 0,.slice none 0 0] 143));have M:Below w1.heap.size w1 D:=by rw[W];exact az
  obtain⟨ao,a5⟩:=aE (aD bf.out M) ((M.block _ (aL bo.out)).trans bo.out);have d8:=(M.cell (p:=⟨F,0,none⟩) (by show F<_;omega)).trans d6;have eb:=(M.cell (p:=⟨b1,cu+k*6+5,none⟩) e9).trans ea;have e8:=(c4.2 x (aU bm.o)).2;have dz:=H.o.base.trans (ao.out.mono H.o.base.size);rw[W]at d8 eb;have d3:=OJ x.t.nodes x.no x.nc D (e1.below dz) e0 fo (e8.below dz) cp;have c1:=ah d3;clear av d3 fG fN fT f0 f1 ea M c5 cc d6;go_enter func69,ntmps69
  go_wp2_with(first|(rw[<-al];clear al)|fail)
  rw[<-W];refine c1.o.mono ?_;rintro d r ⟨a6,fb⟩;clear c1 d8 eb;have Z:=ah (ao.out.trans (a6.mono ao.out.size));have a2:=(a6.block _ (aL a5.out)).trans a5.out;obtain⟨f2,f4⟩:=aE (bi.o.kept (bP Z.out none) (fun q d=>by cases d)) (b0.o.grown (bP Z.out none) (fun q d=>by cases d));rcases fb with⟨n,keys,bd,fz,nv,eN,e,Q,R,rfl,aa,ab,a7,a9,ae⟩|⟨n,keys,bd,fv,Q,R,c2,rfl⟩
  ·obtain⟨j,i,rfl⟩:=cC aa
   obtain⟨no,h,rfl⟩:=cC ab;obtain⟨g,f,rfl⟩:=cC ae;have el:Hid (kI r D.heap.size _ x.t.nodes):=ah ⟨n,keys,bd,_,_,_,e,Q,R,rfl,aa,ab,a7,a9,ae⟩;obtain⟨K,I⟩:=aj (r.alloc (.cells #[.slice j (dw (symsS x.t.nodes)).length i,.slice no e.length h,.slice g keys.length f] 143));have P:Below r.heap.size r K:=by rw[I];exact az
   have E:K.heap[r.heap.size]?=some (.cells #[.slice j (dw (symsS x.t.nodes)).length i,.slice no e.length h,.slice g keys.length f] 143):=by rw[I];exact aC r _
   have u:Below w.heap.size w K:=Z.out.trans (P.mono Z.out.size);have c9:=bl.o.kept (bP u.drew none) ak;have C:=(P.block _ (aL a2)).trans a2;have bq:=ai 0 E;have a1:=ai 1 E;have bt:=ai 2 E;have fu:=ai 2 ((u.block _ b9).trans H.o.blk);have f5:=bl.o.lt;have d4:w.heap.size<=D.heap.size/\D.heap.size<=r.heap.size/\w.heap.size<D.heap.size:=⟨ao.out.size,a6.size,aL a5.out⟩;have ed:Hid (∀m,K.drew.grownBy m (some s)->(m.cell? ⟨r.heap.size,0,none⟩=some (.slice j (dw (symsS x.t.nodes)).length i)/\m.cell? ⟨r.heap.size,1,none⟩=some (.slice no e.length h)/\m.cell? ⟨r.heap.size,2,none⟩=some (.slice g keys.length f))/\
    (m.cell? ⟨w.heap.size,0,none⟩=some (.slice none 0 0)/\m.cell? ⟨w.heap.size,1,none⟩=some (.slice none 0 0)/\m.cell? ⟨w.heap.size,2,none⟩=some (.slice none 0 0))/\(m.frozen? ⟨w.heap.size,0,none⟩=false/\m.frozen? ⟨w.heap.size,1,none⟩=false/\m.frozen? ⟨w.heap.size,2,none⟩=false)/\m.heap[w.heap.size]?=some (.cells #[.slice none 0 0,.slice none 0 0,.slice none 0 0] 143)):=ah (fun m d1=>by
    have b6:=(d1.block r.heap.size (aL E) aO).trans E;have L:=(d1.block w.heap.size (aL C) aO).trans C;exact⟨⟨ai 0 b6,ai 1 b6,ai 2 b6⟩,⟨ai 0 L,ai 1 L,ai 2 L⟩,⟨aQ L 0,aQ L 1,aQ L 2⟩,L⟩)
   have es:=ah (xR (fun a=>(N (.int .i64 (a:Nat))).isSome) (fun a=>(eO N (.int .i64 (k:Nat)) (.agg #[.slice j (dw (symsS x.t.nodes)).length i,.slice no e.length h,.slice g keys.length f]) (.int .i64 (a:Nat))).isSome) k (by simp only[em.o];rfl) (fun a=>by
    by_cases d:a=k
    ·subst d;simp[jz]
    ·have b5:(Lit.int .i64 (a:Nat))≠ .int .i64 (k:Nat):=fun af=>by injection af with _ af;omega
     simp[jX N _ b5,d]) l.length)
   have d0:=xS (fun a=>(N (.int .i64 (a:Nat))).isSome) l.length;have fr:bb<maxLen:=by have:=c0.o;unfold maxLen;omega
   obtain⟨bZ,cG⟩:=aE u P;clear a6 P E u C a2 Q R aa ab a7 a9 ae d0 d7 bA;go_wp2_with(first|(rw[<-I];clear I)|fail)
   go_still_tail 6,ay
   change wpList _ _ _ _ _ (World.drew _);go_wp2_with(first
    |(at_mapUpdate;go_must (refine nW c9 rfl _ _ _ 78 rfl 143 (ge cX) underlying78 rfl fr _ _ _ rfl rfl cD co ?_);intro m d2 G;obtain⟨⟨gb,gd,gf⟩,⟨b2,b3,b4⟩,⟨b7,b8,c3⟩,L⟩:=ed.o m G;have ez:=ah d2;have ex:=ah G;have eE:=ah L;clear d2 G L c9 bq a1 bt fu)
    |fail)
   obtain⟨bg,bw⟩:=aj (Value.agg #[.slice j (dw (symsS x.t.nodes)).length i,.slice no e.length h,.slice g keys.length f]);have B:(((m.setCell ⟨w.heap.size,0,none⟩ (.slice j (dw (symsS x.t.nodes)).length i)).setCell ⟨w.heap.size,1,none⟩ (.slice no e.length h)).setCell ⟨w.heap.size,2,none⟩ (.slice g keys.length f)).heap[w.heap.size]?=some (.cells #[.slice j (dw (symsS x.t.nodes)).length i,.slice no e.length h,.slice g keys.length f] 143):=
    bL _ _ 2 _ (bL _ _ 1 _ (bL _ _ 0 _ eE.out))
   obtain⟨X,a0⟩:=aj ((((m.setCell ⟨w.heap.size,0,none⟩ (.slice j (dw (symsS x.t.nodes)).length i)).setCell ⟨w.heap.size,1,none⟩ (.slice no e.length h)).setCell ⟨w.heap.size,2,none⟩ (.slice g keys.length f)));have ce:∀b,b≠w.heap.size->X.heap[b]?=m.heap[b]?:=fun b S=>by rw[a0,aX _ _ _ _ _ S,aX _ _ _ _ _ S,aX _ _ _ _ _ S]
   have ba:m.grownBy X (some w.heap.size):=⟨by rw[a0];rfl,by rw[a0];rfl,by rw[a0];rfl,by rw[a0];simp only[dK];exact aB _,fun b _ S=>ce b (fun d=>S (by rw[d]))⟩;have G:=ex.o;have u:=bZ.o;have ag:w.grownBy X (some s):=⟨ba.os.trans (G.os.trans u.os),ba.tape.trans (G.tape.trans u.tape),ba.output.trans (G.output.trans u.output),aR u.size (aR G.size ba.size),fun b S cp=>(ce b ad).trans ((G.block b (by have:=u.size;exact eR S this) cp).trans (u.block b S))⟩;have t:=bi.o;have dr:=ez.o;rw[<-bw]at dr;have ds:bn X prog 3 s (bb+1) (eO N (.int .i64 (k:Nat)) bg):=dr.of_block (ce s ad);have e6:∃aq c,r.heap[s]?=some (.map aq c):=bn.block (bl.o.kept (bP Z.out none) ak);have du:∃aq c,w.heap[s]?=some (.map aq c):=bl.o.block;have c6:=el.o;rw[<-bw]at c6;have c7:kI X A.heap.size bg x.t.nodes:=by have O:=c6.grown (bP cG.o.drew none) (fun q d=>by cases d);have J:=O.grown G (fun q d=>.inl (by cases d;obtain⟨aq,c,bB⟩:=e6;exact⟨aq,c,(cG.o.block _ (aL bB)).trans bB⟩));have cx:=J.grown ba (fun q d=>.inr (by cases d;exact d4.2.2));exact cx.low (aR H.o.base.size d4.1)
   have fc:=es.o;rw[au fl,<-bw]at fc;have d0:=xS (fun a=>(eO N (.int .i64 (k:Nat)) bg (.int .i64 (a:Nat))).isSome) l.length;have bE:=c0.o;have e3:F≠s:=fun d=>by obtain⟨aq,c,bB⟩:=du;have:=H.o.blk;rw[d,bB]at this;cases this
   have e2:eq A an X F a3 s a4 (some ⟨b1,cu,none⟩) cap l:=by obtain⟨fx,f3,e5,fs,fg⟩:=t.inside;refine⟨t.base.grown ag t.base.size (fun q d=>by cases d;exact t.fresh.2.2.1),t.fresh,(ag.block F (aL t.blk) (fun d=>by cases d;exact e3 rfl)).trans t.blk,t.places.kept ag (fun d=>by cases d;exact t.apart.2.2.2 rfl),⟨bb+1,_,ds,ad⟩,⟨fx,f3,e5.kept ag (fun d=>by cases d;exact t.apart.2.2.1 rfl),fs,fun a v V=> ?_⟩,t.apart⟩;obtain⟨eB,z,af,cs,O,J,cx⟩:=fg a v V;exact⟨eB,z,af,cs,O,J,cx.kept ag (fun d=>by cases d;exact J eZ)⟩
   have e7:kJ X A.heap.size s l:=by
    refine⟨bb+1,_,ds,ad,fun a v V=> ?_⟩;by_cases d:a=k
    ·subst d
     rw[jz]at V;injection V with V
     subst V;exact⟨x,bm.o,c7⟩
    ·have b5:(Lit.int .i64 (a:Nat))≠ .int .i64 (k:Nat):=fun af=>by injection af with _ af;omega
     rw[jX _ _ b5]at V;obtain⟨z,cs,ch⟩:=cN.o a v V;exact⟨z,cs,ch.grown ag (fun q d=>.inl (by cases d;exact du))⟩
   have ci:yS A an F a3 s a4 l (some ⟨b1,cu,none⟩) cap x w (.returned (.tuple #[.agg #[.slice j (dw (symsS x.t.nodes)).length i,.slice no e.length h,.slice g keys.length f],.int .i64 0])) X:=⟨⟨e2,e7,ag⟩,.inl ⟨bg,by rw[bw],c7⟩⟩;rw[<-a0]at B⊢;have bc:=ai 0 B;have O:=ai 1 B;have J:=ai 2 B;exact bS (v:=.tuple #[.agg #[.slice j (dw (symsS x.t.nodes)).length i,.slice no e.length h,.slice g keys.length f],.int .i64 0]) (by simp[results,results69,go_sem,bc,O,J,th]) rfl ci
  ·obtain⟨K,I⟩:=aj (r.alloc (.cells #[.slice none 0 0,.slice none 0 0,.slice none 0 0] 143))
   have P:Below r.heap.size r K:=by rw[I];exact az
   have E:K.heap[r.heap.size]?=some (.cells #[.slice none 0 0,.slice none 0 0,.slice none 0 0] 143):=by rw[I];exact aC r _
   have u:Below w.heap.size w K:=Z.out.trans (P.mono Z.out.size);have C:=(P.block _ (aL a2)).trans a2;have bq:=ai 0 E;have a1:=ai 1 E;have bt:=ai 2 E;have b2:=ai 0 C;have b3:=ai 1 C;have b4:=ai 2 C;have b7:=aQ C 0;have b8:=aQ C 1;have c3:=aQ C 2;obtain⟨bZ,eD,en⟩:=bO u C I;have er:Hid (sx x.t.nodes):=ah ⟨n,keys,bd,fv,Q,R,c2⟩;rw[I]at bq a1 bt b2 b3 b4 b7 b8 c3;clear a6 P E u C a2 Q R c2 d7 bA I;go_wp2_with fail
   rw[<-en.o];have B:(((K.setCell ⟨w.heap.size,0,none⟩ (.slice none 0 0)).setCell ⟨w.heap.size,1,none⟩ (.slice none 0 0)).setCell ⟨w.heap.size,2,none⟩ (.slice none 0 0)).heap[w.heap.size]?=some (.cells #[.slice none 0 0,.slice none 0 0,.slice none 0 0] 143):=
    bL _ _ 2 _ (bL _ _ 1 _ (bL _ _ 0 _ eD.out))
   have T:Below w.heap.size w (((K.setCell ⟨w.heap.size,0,none⟩ (.slice none 0 0)).setCell ⟨w.heap.size,1,none⟩ (.slice none 0 0)).setCell ⟨w.heap.size,2,none⟩ (.slice none 0 0)):=((bZ.o.setCell ak _).setCell ak _).setCell ak _;have bc:=ai 0 B;have O:=ai 1 B;have J:=ai 2 B;exact bS (v:=.tuple #[.agg #[.slice none 0 0,.slice none 0 0,.slice none 0 0],.int .i64 17]) (by simp[results,results69,go_sem,bc,O,J,th]) rfl
    ⟨⟨bi.o.kept (bP T none) (fun q d=>by cases d),b0.o.grown (bP T none) (fun q d=>by cases d),bP T _⟩,.inr ⟨er.o,rfl⟩⟩
structure Pn(x:am):Prop where
 ok:cw x.t.nodes=0
 len:x.t.nodes.length<=60
 word:0<(symsS x.t.nodes).length
 narrow:¬sx x.t.nodes
def kK(b:World)(c:Nat->Prop)(d e a f:Nat)(o:Option Addr)(cap:Nat)(l:List am)(w:World)(wr:World):Prop:=eq b c wr d e a f o cap l/\kJ wr b.heap.size a l/\w.grownBy wr (some a)
theorem kK.below{i w wr j:World}{d:Nat->Prop}{e f g h:Nat}{o:Option Addr}{cap:Nat}{l:List am}(b:kK i d e f g h o cap l w wr)(c:Below wr.heap.size wr j):kK i d e f g h o cap l w j:=
 ⟨b.1.kept (bP c none) (fun q a=>by cases a),b.2.1.grown (bP c none) (fun q a=>by cases a),b.2.2.trans (bP c _)⟩
def Po(f:World)(a:Nat->Prop)(b c d e:Nat)(o:Option Addr)(cap:Nat)(l:List am)(w:World)(g:Value)(wr:World):Prop:=∃k:Nat,g=.int .i64 (k:Nat)/\k<=l.length/\kK f a b c d e o cap l w wr
theorem Pp(l:List am)(o:Option Addr)(cap:Nat)(a:World)(a0:Gl a)(N:cn a o cap l)(a3:l.length<=64)(e:Nat->Prop)(f g d h:Nat)(av:e d)(hF:∀x∈l,x.t.text=false->Pn x)(w:World)
 (q:eq a e w f g d h o cap l) (P:kJ w a.heap.size d l):
 Calls prog 39 #[.pointer (some ⟨f,0,none⟩)] w fun L w'=>L=.returned (.int .i64 0)/\kK a e f g d h o cap l w w':=by
 have a5:=ai 0 q.blk;have V:kK a e f g d h o cap l w w:=⟨q,P,bP (aA _ w) _⟩;obtain⟨D,aa,B⟩:=bO V hF N;clear q P V hF N;go_enter func39,ntmps39
 go_wp2
 go_loopw [13] (fun y wr=>Po a e f g d h o cap l w y wr) (fun y _=>l.length-(intOf y).toNat)
 case atStart=>exact⟨0,rfl,aK _,D.o⟩
 case round=>
 clear D a5;obtain⟨k,rfl,bf,i⟩:=hrel;have T:(k:Int)<l.length∨¬((k:Int)<l.length):=ad;by_cases r:k<l.length
 ·have bg:(0:Int)<=k:=ad
  have bi:(k:Int)<l.length:=ad;clear T;obtain⟨x,u⟩:∃x,l[k]?=some x:=⟨_,aF r⟩;obtain⟨b,W,an,bd,bo,bq,bt,bu,X,bw⟩:=(B.o.below i.1.base).at u;subst an;have E:=ah u;obtain⟨z,c⟩:=aj (wr.alloc (.cells (typeRow x).toArray 68));have H:Below wr.heap.size wr z:=by rw[c];exact az
  have M:z.heap[wr.heap.size]?=some (.cells (typeRow x).toArray 68):=by rw[c];exact aC wr _
  have A:=ai 4 M;simp[typeRow]at A;have m:=ah (i.below H);clear u i H M;unfold typeRow at c;cases s:x.t.text with
  |true=>
   rw[s]at A c X;go_wp2_with(first|(rw[<-c];clear c)|fail)
   go_roundw
   case rel=>exact⟨k+1,aG,r,m.o⟩
   case measure=>exact aH
  |false=>
   have j:=aa.o x (aU E.o) s;have R:=Ey l (some ⟨b,W,none⟩) cap a a0 B.o a3 e f g d h av k x E.o j.ok j.len j.word z m.o.1 m.o.2.1;obtain⟨F,ab⟩:=aE R j.narrow;rw[s]at A c X;clear R j;go_wp2_with(first|(rw[<-c];clear c)|fail)
   refine F.o.mono ?_;rintro L p ⟨⟨O,Q,S⟩,a1⟩;clear F;rcases a1 with⟨v,rfl,a2⟩|⟨a4,rfl⟩
   ·obtain⟨n,keys,bl,bm,nv,bc,ba,ae,af,rfl,I,J,ag,al,K⟩:=a2
    obtain⟨a9,a7,rfl⟩:=cC I;obtain⟨no,a6,rfl⟩:=cC J;obtain⟨aq,ao,rfl⟩:=cC K;have C:Hid (kK a e f g d h (some ⟨b,W,none⟩) cap l w p):=ah ⟨O,Q,m.o.2.2.trans S⟩;obtain⟨bb,t⟩:=aj (p.alloc (.cells #[.slice a9 (dw (symsS x.t.nodes)).length a7,.slice no ba.length a6,.slice aq keys.length ao] 143));have G:Below p.heap.size p bb:=by rw[t];exact az
    have Z:=ah (C.o.below G);clear O Q S ae af I J ag al K G C;go_wp2_with(first|(rw[<-t];clear t)|fail)
    go_roundw
    case rel=>exact⟨k+1,aG,r,Z.o⟩
    case measure=>exact aH
   ·exact absurd a4 ab.o
 ·have Y:=ah i
  clear i T;have be:decide ((k:Int)<l.length)=false:=aO
  go_wp2
  go_ret;exact⟨rfl,Y.o⟩
end Go.Proofs.YtbacloblanpghaaGreatDoor
