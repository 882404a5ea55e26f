import Derived.Test.YtnadadbndcdolaaGreatDoorQbi
set_option linter.unusedVariables false
set_option linter.unusedSimpArgs false
set_option maxRecDepth 100000
set_option maxHeartbeats 0
namespace Go.Proofs.YtnadadbndcdolaaGreatDoor
open Go.RowKit Tryz
abbrev Pr:=Nat×Nat
def wdRow(p:Pr):List Value:=[.int .i64 (p.1:Nat),.int .i64 (p.1:Nat),.int .i64 (p.2:Nat),.int .i64 (p.2:Nat)]
def ik(L:List Pr):List Value:=L.flatMap wdRow
theorem kZ:(prog.info? 180).map (·.size)=some 4:=aA
theorem Qq:(prog.info? 180).map (fun i=>(i.zero,i.size,i.bytes))=some (some (.agg #[.int .i64 0,.int .i64 0,.int .i64 0,.int .i64 0]),4,32):=aA
theorem tN(p:Pr):∀v∈wdRow p,v.oneCell'=true:=by intro v a;simp[wdRow]at a;rcases a with rfl|rfl<;>rfl
theorem Qr(L M:List Pr):ik (L++M)=ik L++ik M:=by simp[ik]
theorem Qs{L:List Pr}{i:Nat}{p:Pr}(a:L[i]?=some p){j:Nat}(c:j<4):(ik L)[i*4+j]?=(wdRow p)[j]?:=by
 induction L generalizing i with
 |nil=>simp at a
 |cons x L ih=>
  have b:ik (x::L)=wdRow x++ik L:=rfl;rw[b];cases i with
  |zero=>
   simp at a;subst a;rw[eP (by simp[wdRow];omega)];simp
  |succ i=>
   rw[fZ (by simp[wdRow];omega),show(i+1)*4+j-(wdRow x).length=i*4+j by simp[wdRow];omega];exact ih (by simpa using a)
def oU(w:World)(B:Nat)(v:Value)(L:List Pr):Prop:=w.ownsRow B 180 4 v L.length (ik L)
def lQ(w:World)(v:Value)(L:List Pr):Prop:=∃o c,v=.slice o L.length c/\L.length<=c/\c<=maxLen/\(0<L.length->∃g,o=some ⟨g,0,none⟩/\g<w.heap.size/\∀q p,L[q]?=some p->w.rangeAt g (q*4) (wdRow p))
theorem oU.cells{w:World}{B:Nat}{v:Value}{L:List Pr}(d:oU w B v L)(u:0<L.length):∃g c,v=.slice (some ⟨g,0,none⟩) L.length c/\L.length<=c/\c<=maxLen/\B<=g/\g<w.heap.size/\w.there g 0 (L.length*4)/\∀q p,L[q]?=some p->w.rangeAt g (q*4) (wdRow p):=by
 rcases d.2 with⟨r,s⟩|⟨g,c,o,a,m,b,e,i,l,t⟩
 ·omega
 ·subst a
  refine⟨g,c,rfl,e,i,m,ax b,fun j f=> ?_,fun q p h j v a=> ?_⟩
  ·rw[cD]
   refine⟨?_,aT b j⟩;rw[ai j b,lj (by rw[l];have:=xU 4 e;omega)];rfl
  ·have f:=(aL.1 a).1
   have n:j<4:=f;have x:=(aL.1 h).1;exact(rH d (q*4+j) ad).trans ((Qs h n).trans a)
theorem oU.words{w:World}{B:Nat}{v:Value}{L:List Pr}(a:oU w B v L):lQ w v L:=by
 rcases uw L.length with b|b
 ·rcases a.2 with⟨d,h⟩|⟨g,c,m,f,n,o,i,e,l,j⟩
  ·exact⟨none,0,by rw[d,b],ad,bI,fun a=>ad⟩
  ·exact⟨_,c,f,i,e,fun a=>ad⟩
 ·obtain⟨g,c,f,d,h,i,e,l,j⟩:=a.cells b
  exact⟨_,c,f,d,h,fun _=>⟨g,rfl,e,j⟩⟩
theorem il{w w':World}{b o:Nat}{xs:List Value}(a:w.rangeAt b o xs)(d:b<w.heap.size)(c:Below w.heap.size w w'):w'.rangeAt b o xs:=fun j v e=>(c.cell (p:=⟨b,o+j,none⟩) d).trans (a j v e)
theorem lQ.below{w w':World}{v:Value}{L:List Pr}(d:lQ w v L)(b:Below w.heap.size w w'):lQ w' v L:=by obtain⟨o,c,e,f,h,i⟩:=d;refine⟨o,c,e,f,h,fun m=> ?_⟩;obtain⟨g,j,a,l⟩:=i m;exact⟨g,j,dn a b.size,fun q p n=>il (l q p n) a b⟩
def k6(c:Nat)(a:Array Value)(del:Pr->Bool)(p:Pr)(w:World):Prop:=Calls prog c (#[.agg (wdRow p).toArray]++a) w fun b w'=>b=.returned (.bool (del p))/\Below w.heap.size w w'
theorem Qt(b:Nat)(u:Array Value)(K:∀(args:Array Value) (D:World),(callFunc b args).run prog D=.ok (.enter b args) D)(W0:World)(L:List Pr)(v:Value)(del:Pr->Bool)(M:L.length<=1048576)(J:lQ W0 v L)
 (z:∀p∈L,∀w,Below W0.heap.size W0 w->k6 b u del p w):
 Calls prog 166 #[v,.func (.func b) #[] u] W0 fun m w'=>Below W0.heap.size W0 w'/\((m=.returned (.int .i64 (-1))/\∀p∈L,del p=false)∨∃i p,m=.returned (.int .i64 (i:Nat))/\L[i]?=some p/\del p=true/\∀q∈L.take i,del q=false):=by
 obtain⟨o,c,rfl,N,G,y⟩:=J;obtain⟨E,F⟩:=aD y z;unfold maxLen at G;clear y z;go_enter func166,ntmps166
 go_wp2
 go_loopw [8] (fun n wr=>∃k:Nat,n=.int .i64 (k:Nat)/\k<=L.length/\Below W0.heap.size W0 wr/\∀q∈L.take k,del q=false) (fun n _=>L.length-(intOf n).toNat)
 case atStart=>exact⟨0,rfl,aZ _,aE _ _,ak⟩
 case round=>
 obtain⟨k,rfl,O,x,hF⟩:=hrel;obtain⟨a,h⟩:=aD x hF;clear x hF;by_cases A:k<L.length
 ·obtain⟨p,f⟩:∃p,L[k]?=some p:=⟨_,aH A⟩
  obtain⟨g,rfl,H,C⟩:=E.o ad;have P:(0:Int)<=k:=ad;have Q:(k:Int)<L.length:=ad;have I:=il (C k p f) H a.o;have l:=ah (F.o p (aX f) wr a.o);unfold k6 at l;have s:=ah f;clear C f;go_wp2_with(first|((with_reducible apply dj (ty:=180));exact rfl;exact rfl;exact rfl;assumption;exact rT;exact rfl;exact kZ)|fail)
  refine l.o.mono ?_;rintro m R ⟨rfl,t⟩;have r:=ah (a.o.trans (t.mono a.o.size));clear l I t;cases e:del p with
  |true=>
   have j:Hid (del p=true):=ah e;clear e
   go_wp2
   go_ret;exact⟨r.o,.inr ⟨k,p,rfl,s.o,j.o,h.o⟩⟩
  |false=>
   have j:Hid (∀q∈L.take (k+1),del q=false):=ah fun q B=>by
    rw[bV,s.o]at B;rcases fA.1 B with d|d
    ·exact h.o q d
    ·simp at d;subst d;exact e
   clear e
   go_wp2
   go_roundw
   case rel=>exact⟨k+1,aV,A,r.o,j.o⟩
   case measure=>exact bh
 ·obtain rfl:k=L.length:=ad
  go_wp2
  go_ret;exact⟨a.o,.inl ⟨rfl,by have:=h.o;rwa[kH]at this⟩⟩
structure iW(W0:World)(G:Nat)(L:List Pr)(del:Pr->Bool)(j:Nat)(w:World):Prop where
 grown:W0.grownBy w (some G)
 low:G<W0.heap.size
 there:w.there G 0 (L.length*4)
 done:∀q p,((L.take j).filter fun p=> !del p)[q]?=some p->w.rangeAt G (q*4) (wdRow p)
 rest:∀q p,j<=q->L[q]?=some p->w.rangeAt G (q*4) (wdRow p)
section
variable{W0:World} {G j:Nat} {L:List Pr} {del:Pr->Bool} {w w':World} {p:Pr}
theorem Ge{b o n:Nat}(c:w.there b o n)(a:w'.heap[b]?=w.heap[b]?):w'.there b o n:=fun i f=>by obtain⟨d,e⟩:=c i f;exact⟨by rw[dD a];exact d,by rw[mW a];exact e⟩
theorem iW.lt(a:iW W0 G L del j w):G<w.heap.size:=dn a.low a.grown.size
theorem iW.below(a:iW W0 G L del j w)(b:Below w.heap.size w w'):iW W0 G L del j w':=
 ⟨a.grown.trans (bJ b _),a.low,Ge a.there (b.block _ a.lt),fun q p e=>il (a.done q p e) a.lt b,fun q p c d=>il (a.rest q p c d) a.lt b⟩
theorem iW.skip(a:iW W0 G L del j w)(f:L[j]?=some p)(e:del p=true):iW W0 G L del (j+1) w:=
 ⟨a.grown,a.low,a.there,fun q b c=>a.done q b (by rw[bV,f,li]at c;simpa[e]using c),fun q b g d=>a.rest q b ad d⟩
theorem Qu(L:List Pr)(f:Pr->Bool)(j:Nat)(a:j<=L.length):((L.take j).filter f).length<=j:=by have:=lq f (L.take j);rw[fm]at this;omega
theorem iW.keep(b:iW W0 G L del j w)(e:L[j]?=some p)(g:del p=false)(c:dU w w' G (((L.take j).filter fun p=> !del p).length*4) (wdRow p)):iW W0 G L del (j+1) w':=by
 have n:=(aL.1 e).1;have o:=Qu L (fun p=> !del p) j ad;refine⟨b.grown.trans c.grown,b.low,c.there b.there,fun q d a=> ?_,fun q d m f=>c.range (b.rest q d ad f) (.inr (.inr (by show _+4<=_;omega)))⟩;rw[bV,e,li]at a;simp only[fF,rD,g,Bb,iG,List.filter_nil]at a;rcases jg q ((L.take j).filter fun p=> !del p).length with i|h
 ·rw[eP i]at a
  exact c.range (b.done q d a) (.inr (.inl (by show _+4<=_;omega)))
 ·rw[fZ h]at a
  have l:=(aL.1 a).1;simp only[db,ge]at l;obtain rfl:q=((L.take j).filter fun p=> !del p).length:=ad;simp at a;subst a;exact c.here
end
theorem Qv(w:World)(ty:TypeId)(b o n c:Nat)(e:w.there b o (n*4)):∃w',(Builtin.clear_ #[175] ty #[.slice (some ⟨b,o,none⟩) n c]).run prog w=.ok (.tuple #[]) w'/\∃a,a.length=n*4/\dU w w' b o a:=by
 obtain⟨a,g⟩:=ar ((Builtin.zeroCells #[Value.int .i64 0,.int .i64 0,.int .i64 0,.int .i64 0] n).toList);have q:a.length=n*4:=by rw[g];simp[Builtin.zeroCells]
 have r:∀v∈a,v.oneCell'=true:=by
  intro v f;rw[g]at f;simp only[Builtin.zeroCells,Array.toList_map,fH]at f;obtain⟨i,_,rfl⟩:=f;have t:i % 4<4:=Nat.mod_lt _ ad;show(#[Value.int .i64 0,.int .i64 0,.int .i64 0,.int .i64 0][i % 4]!).oneCell'=true
  rcases(show i % 4=0∨i % 4=1∨i % 4=2∨i % 4=3 by omega)with d|d|d|d<;>rw[d]<;>rfl
 rcases uw n with rfl|u
 ·refine⟨w,?_,[],rfl,⟨rfl,rfl,rfl,rfl,fun _ _=>rfl,fun _ _=>rfl,fun j v p=>by simp at p,fun _=>rfl⟩⟩
  simp[Builtin.clear_,run_underlying IZ]
 ·have l:=run_storeCells_cells (P:=prog) b o a 0 w (fun j h=>by rw[jX];exact(e j ad).1) (fun j h=>by rw[jX];exact(e j ad).2) r
  rw[jX]at l;refine⟨w.setCells b o a,?_,a,q,vX (fun j h=>e j ad)⟩;obtain⟨m,rfl⟩:∃m,n=m+1:=⟨n-1,ad⟩;have s:(zeroValue 180).run prog w=.ok (.agg #[.int .i64 0,.int .i64 0,.int .i64 0,.int .i64 0]) w:=aA;simp[Builtin.clear_,run_underlying IZ,s,Value.cells,<-g,l]
theorem Qw(s:Nat)(D:Array Value)(ba:∀(args:Array Value) (a2:World),(callFunc s args).run prog a2=.ok (.enter s args) a2)(W0:World)(B:Nat)(L:List Pr)(v:Value)(del:Pr->Bool)(bc:L.length<=1048576)(F:oU W0 B v L)
 (M:∀p∈L,∀w,W0.grownBy w v.ownBlock->k6 s D del p w):
 Calls prog 102 #[v,.func (.func s) #[] D] W0 fun t w'=>∃u,t=.returned u/\lQ w' u (L.filter fun p=> !del p)/\W0.grownBy w' v.ownBlock:=by
 have J:=F.words;have ag:=Qt s D ba W0 L v del bc J (fun p a w bd=>M p a w (bJ bd _));obtain⟨a7,a4,W,a6⟩:=cr F J ag M;clear ag M J;obtain⟨o,c,rfl⟩:=bL F;clear F;go_enter func102,ntmps102
 go_wp2_with fail
 refine W.o.mono ?_;rintro t bz ⟨r,bf⟩;clear W;rcases bf with⟨rfl,z⟩|⟨i,p,rfl,a,b,z⟩
 ·go_wp2_with fail
  go_ret;exact⟨_,rfl,by rw[I0.2 (fun p a=>by rw[z p a];rfl)];exact a4.o.below r,bJ r _⟩
 ·have bg:=(aL.1 a).1
  obtain⟨g,bA,t,bD,be,bC,E,a0,O⟩:=a7.o.cells ad;injection t with a8 bB a9
  subst a8 a9;unfold maxLen at be;have aq:iW W0 g L del i bz:=by
   refine⟨bJ r _,E,Ge a0 (r.block _ E),fun q Q d=> ?_,fun q Q _ d=>il (O q Q d) E r⟩;rw[I0.2 (fun p a=>by rw[z p a];rfl)]at d;rw[List.getElem?_take]at d;split at d
   ·exact il (O q Q d) E r
   ·cases d
  have ae:((L.take i).filter fun p=> !del p).length=i:=by rw[I0.2 (fun p a=>by rw[z p a];rfl),fm];omega
  have av:=aq.skip a b;have af:((L.take (i+1)).filter fun p=> !del p).length=i:=by rw[bV,a,li];simp[b,ae]
  obtain⟨T,V⟩:=aD av af;have bi:((i:Int)== -1)=false:=gK;clear r z a b O a0 aq av ae af
  go_wp2
  go_loopw [5,6] (fun bu P wr=>∃j m:Nat,P=.int .i64 (j:Nat)/\bu=.int .i64 (m:Nat)/\m<j/\j<=L.length/\m=((L.take j).filter fun p=> !del p).length/\iW W0 g L del j wr) (fun _ P _=>L.length-(intOf P).toNat)
  case atStart=>exact⟨i+1,i,aV,rfl,ad,bg,V.o.symm,T.o⟩
  case round=>
  clear T V bi;obtain⟨j,m,rfl,rfl,bN,bF,y,e⟩:=hrel;have C:=ah y;clear y;have b1:(0:Int)<=j:=ad;have b3:(0:Int)<=m:=ad;have b4:(m:Int)<L.length:=ad;by_cases N:j<L.length
  ·have b2:(j:Int)<L.length:=ad
   obtain⟨p,a⟩:∃p,L[j]?=some p:=⟨_,aH N⟩;have bl:=e.rest j p (az _) a;obtain⟨a1,G,X⟩:=dF wr (.cells #[.int .i64 0,.int .i64 0,.int .i64 0,.int .i64 0] 180);have bw:a1.there wr.heap.size 0 4:=by rw[G];exact jt (cs:=wdRow (0,0)) (ty:=180) (aB wr _) (az _)
   have a3:Hid (∀f,dU a1 f wr.heap.size 0 (wdRow p)->iW W0 g L del j f/\k6 s D del p f/\f.rangeAt wr.heap.size 0 (wdRow p)/\wr.heap.size<f.heap.size):=ah fun f K=>by have Y:=e.below (K.below X (az _));exact⟨Y,a6.o p (aX a) f Y.grown,K.here,by rw[K.size,G];simp⟩
   have A:=ah a;have bE:g≠wr.heap.size:=by have:=e.lt;omega
   clear X e a;go_wp2_with(first
    |(rw[<-G];clear G)
    |((with_reducible apply dj (ty:=180));exact rfl;exact rfl;exact rfl;assumption;exact rT;exact rfl;exact kZ)
    |(((with_reducible apply cQ (ty:=180));exact rfl;exact rfl;exact rfl;exact rfl;assumption;exact kZ;exact tN _);intro f aa;obtain⟨Z,ab,al,bt⟩:=a3.o f aa;have a5:=ah Z;have H:=ah ab;clear Z ab aa bw bl)
    |fail)
   unfold k6 at H;refine H.o.mono ?_;rintro t R ⟨rfl,I⟩;have x:=a5.o.below I;have an:=il al bt I;clear H al I;cases b:del p with
   |true=>
    have l:Hid (iW W0 g L del (j+1) R/\m=((L.take (j+1)).filter fun p=> !del p).length):=ah ⟨x.skip A.o b,by rw[bV,A.o,li];simp[b,<-C.o]⟩
    clear b x an
    go_wp2
    go_roundw
    case rel=>exact⟨j+1,m,aV,rfl,ad,N,l.o.2,l.o.1⟩
    case measure=>exact bh
   |false=>
    have bo:R.there g (m*4) 4:=om x.there ad ad;have l:Hid (∀h,dU R h g (m*4) (wdRow p)->iW W0 g L del (j+1) h/\m+1=((L.take (j+1)).filter fun p=> !del p).length):=ah fun h bb=>⟨x.keep A.o b (by rw[<-C.o];exact bb),by rw[bV,A.o,li];simp[b,<-C.o]⟩
    clear b x;go_wp2_with(first
     |((with_reducible apply dj (ty:=180));exact rfl;exact rfl;exact rfl;assumption;exact rT;exact rfl;exact kZ)
     |(((with_reducible apply cQ (ty:=180));exact rfl;exact rfl;exact rfl;exact rfl;assumption;exact kZ;exact tN _);intro h n;have S:=ah (l.o h n);clear n bo an)
     |fail)
    go_roundw
    case rel=>exact⟨j+1,m+1,aV,aV,ad,N,S.o.2,S.o.1⟩
    case measure=>exact bh
  ·obtain rfl:j=L.length:=ad
   obtain⟨h,ao,b5,bq,n⟩:=Qv wr 0 g (m*4) (L.length-m) (c-m) (om e.there ad ad);have b0:∀ty,(Builtin.clear_ #[175] ty #[.slice (some ⟨g,m*4,none⟩) (L.length-m) (c-m)]).run prog wr=.ok (.tuple #[]) h:=fun ty=>ao;have l:Hid (lQ h (.slice (some ⟨g,0,none⟩) m c) (L.filter fun p=> !del p)/\W0.grownBy h (some g)):=ah (by have y:=C.o;rw[kH]at y;refine⟨⟨_,c,by rw[<-y],ad,bI,fun _=>⟨g,rfl,by rw[n.size];exact e.lt,fun q p d=> ?_⟩⟩,e.grown.trans n.grown⟩;have bZ:=(aL.1 d).1;exact n.range (e.done q p (by rw[kH];exact d)) (.inr (.inl (by show _+4<=_;omega))))
   clear ao bq n e
   go_wp2
   go_ret;exact⟨_,rfl,l.o.1,l.o.2⟩
def fe(p:Pr):List Value:=[.int .i64 (p.1:Nat),.int .i64 (p.2:Nat)]
def dY(L:List Pr):List Value:=L.flatMap fe
theorem Gf(L M:List Pr):dY (L++M)=dY L++dY M:=by simp[dY]
theorem Gg{L:List Pr}{i:Nat}{p:Pr}(a:L[i]?=some p){j:Nat}(c:j<2):(dY L)[i*2+j]?=(fe p)[j]?:=by
 induction L generalizing i with
 |nil=>simp at a
 |cons x L ih=>
  have b:dY (x::L)=fe x++dY L:=rfl;rw[b];cases i with
  |zero=>
   simp at a;subst a;rw[eP (by simp[fe];omega)];simp
  |succ i=>
   rw[fZ (by simp[fe];omega),show(i+1)*2+j-(fe x).length=i*2+j by simp[fe];omega];exact ih (by simpa using a)
def eO(w:World)(B:Nat)(v:Value)(L:List Pr):Prop:=w.ownsRow B 106 2 v L.length (dY L)
theorem eO.cells{w:World}{B:Nat}{v:Value}{L:List Pr}(a:eO w B v L){i:Nat}{p:Pr}(b:L[i]?=some p):∃g c,v=.slice (some ⟨g,0,none⟩) L.length c/\g<w.heap.size/\w.cell? ⟨g,i*2,none⟩=some (.int .i64 (p.1:Nat))/\w.cell? ⟨g,i*2+1,none⟩=some (.int .i64 (p.2:Nat)):=by
 have l:=(aL.1 b).1;rcases a.2 with⟨f,h⟩|⟨g,cap,e,d,_⟩
 ·have:dY L=[]∨L.length=0:=by simp_all
  omega
 ·subst d
  refine⟨g,cap,rfl,(aF a (g:=g) rfl).2,?_,?_⟩
  ·have:=a.cellAt (i*2) ad
   exact this.trans ((Gg b (j:=0) ad).trans rfl)
  ·have:=a.cellAt (i*2+1) ad
   exact this.trans ((Gg b (j:=1) ad).trans rfl)
theorem tO:(prog.info? 106).map (fun i=>(i.zero,i.size,i.bytes))=some (some (.agg #[.int .i64 0,.int .i64 0]),2,16):=aA
def im(p:Pr):Prop:=p.1<1073741824/\p.2<1073741824
theorem Qx:prog.cellsOf 3=1:=aA
theorem Gh:prog.cellsOf 106=2:=aA
theorem Qy:prog.keyType 106=true:=aA
theorem Gi(d n:Nat)(a:n<1073741824):prog.keyLits (d+1) 3 [.int .i64 (n:Nat)]=some [.int .i64 (n:Nat)]:=by unfold Program.keyLits;rw[cU];simp only;rw[ay ⟨trivial,by simp[Lit.wf,IntKind.min,IntKind.max,IntKind.signed,IntKind.bits];omega⟩]
theorem Qz(d:Nat){p:Pr}(a:im p):∃e,prog.keyLits (d+2) 106 (fe p)=some e:=by unfold Program.keyLits;rw[rU];simp only;rw[ay (by rw[Gh];rfl)];rw[Qx];have b:=Gi d p.1 a.1;have c:=Gi d p.2 a.2;simp[List.range,List.range.loop,fe,b,c]
theorem QA{p:Pr}(e:im p):∃l,keyOf prog 106 (.agg (fe p).toArray)=some l:=by
 obtain⟨d,a⟩:∃d,prog.types.size+1=d+2:=⟨prog.types.size-1,by have:=Fu;omega⟩;obtain⟨f,c⟩:=Qz d e;unfold keyOf;rw[rU];simp only;rw[Qy,a];have b:(Value.agg (fe p).toArray).formed prog 106=true:=by simp[Value.formed,rU,Gh,fe]
 rw[b];simp only[Bool.and_self,iG,Value.cells];rw[c];exact⟨_,rfl⟩
theorem ru:Maps.Keyed prog 106:=Maps.Keyed.of_law (deep_law_laid aA (m:=5) ad (by rw[<-Nat.blt_eq];kernel_rfl) aA (by rw[rU]))
noncomputable def mM(p:Pr):Lit:=(keyOf prog 106 (.agg (fe p).toArray)).getD (.bool false)
theorem p9{p:Pr}(a:im p):keyOf prog 106 (.agg (fe p).toArray)=some (mM p):=by obtain⟨l,b⟩:=QA a;unfold mM;rw[b];rfl
theorem QB{p q:Pr}(h:im p)(k:im q)(g:mM p=mM q):p=q:=by
 have e:=p9 h;have i:=p9 k;rw[g]at e;have:=ru.inj e i;injection this with this
 obtain⟨a,b⟩:=p;obtain⟨c,d⟩:=q;have f:fe (a,b)=fe (c,d):=by simpa using jk Array.toList this
 simp only[fe,xM,Value.int.injEq]at f;obtain⟨⟨_,j⟩,⟨_,l⟩,_⟩:=f;simp only[rE];omega
theorem tP{p:Pr}(a:im p):WideAt.IsKeyLit (mM p):=ru.key (p9 a)
def fL(w:World)(M:Nat)(L:List Pr):Prop:=
 ∃f,bp w prog 106 M L.length f/\∀p,im p->(p∈L->∃v:Int,f (mM p)=some (.int .i64 v))/\(p∉L->f (mM p)=none)
section
variable{w w':World} {M:Nat} {L:List Pr} {p:Pr}
theorem fL.kept{row:Option Nat}(a:fL w M L)(d:w.grownBy w' row)(e:some M≠row):fL w' M L:=by obtain⟨f,b,c⟩:=a;exact⟨f,b.kept d e,c⟩
theorem fL.of_block(a:fL w M L)(d:w'.heap[M]?=w.heap[M]?):fL w' M L:=by obtain⟨f,b,c⟩:=a;exact⟨f,b.of_block d,c⟩
theorem fL.block(b:fL w M L):∃a c,w.heap[M]?=some (.map a c):=by obtain⟨f,d,_⟩:=b;exact d.block
theorem fL.lt(a:fL w M L):M<w.heap.size:=by obtain⟨d,c,b⟩:=a.block;exact ax b
theorem fL.put{f:Lit->Option Value}{v:Int}(h:im p)(d:∀q,im q->(q∈L->∃v:Int,f (mM q)=some (.int .i64 v))/\(q∉L->f (mM q)=none))(a:bp w' prog 106 M (L.length+1) (eW f (mM p) (.int .i64 v))):fL w' M (L++[p]):=by
 refine⟨_,by rw[cR];exact a,fun q c=> ?_⟩;by_cases b:q=p
 ·subst b
  exact⟨fun _=>⟨v,jw _ _ _⟩,fun a=>absurd ak a⟩
 ·rw[jS _ _ (fun e=>b (QB c h e))]
  exact⟨fun a=>(d q c).1 (by simpa[b]using a),fun a=>(d q c).2 (fun g=>a (by simp[g]))⟩
end
structure iX(B M:Nat)(L:List Pr)(tv:Value)(w:World):Prop where
 low:B<=M
 seen:fL w M L
 row:eO w B tv L
 nodup:L.Nodup
section
variable{B M:Nat} {L:List Pr} {tv:Value} {w w':World} {p:Pr}
theorem iX.over(a:iX B M L tv w)(c:∀b,B<=b->b<w.heap.size->w'.heap[b]?=w.heap[b]?):iX B M L tv w':=
 ⟨a.low,a.seen.of_block (c _ a.low a.seen.lt),aP a.row (fun g d=>c g (aF a.row d).1 (aF a.row d).2),a.nodup⟩
theorem iX.below(a:iX B M L tv w)(d:Below w.heap.size w w'):iX B M L tv w':=a.over fun b _ c=>d.block b c
theorem iX.look(e:iX B M L tv w)(c:im p):∃v:Int,(Instr.lookup 111 (.map (some M)) (.agg (fe p).toArray) true).run prog w=.ok (.tuple #[.int .i64 v,.bool (decide (p∈L))]) w:=by
 obtain⟨f,g,d⟩:=e.seen;have a:=g.look_ok ru B9 (z:=.int .i64 0) aA (tP c) (p9 c);by_cases b:p∈L
 ·obtain⟨v,h⟩:=(d p c).1 b
  rw[h]at a;exact⟨v,by rw[lm b];exact a⟩
 ·rw[(d p c).2 b]at a
  exact⟨0,by rw[l6 b];exact a⟩
theorem iX.put(b:iX B M L tv w)(d:im p)(t:p∉L)(s:L.length<=65536)(v:Int):
 ∃a,(Instr.mapUpdate 111 (.map (some M)) (.agg (fe p).toArray) (.int .i64 v)).run prog w=.ok () a/\fL a M (L++[p])/\eO a B tv L/\w.grownBy a (some M)/\a.heap.size=w.heap.size:=by
 obtain⟨f,m,l⟩:=b.seen;obtain⟨a,o,n,h,q⟩:=m.set ru B9 bI (val:=.int .i64 v) (tP d) (p9 d);obtain⟨r,c,j⟩:=b.seen.block;exact⟨a,o,fL.put d l n,aP b.row (fun g e=>h.block g (aF b.row e).2 (fun i=>kD b.row j (by rw[e,i]))),h,q⟩
theorem iX.add(h:iX B M L tv w)(o:p∉L){e f:World}(j:fL e M (L++[p]))(q:eO e B tv L)(n:e.grownBy f tv.ownBlock){g gc:Nat}(r:f.ownsRow B 106 2 (.slice (some ⟨g,0,none⟩) (L.length+1) gc) (L.length+1) (dY L++fe p)):iX B M (L++[p]) (.slice (some ⟨g,0,none⟩) (L.length+1) gc) f:=by
 obtain⟨s,c,m⟩:=j.block;refine⟨h.low,j.kept n (fun d=>kD q m d.symm),?_,?_⟩
 ·unfold eO
  rw[cR,Gf];simpa[dY]using r
 ·rw[Iy]
  exact⟨h.nodup,ak,fun a l b i=>by simp at i;subst i;exact fun d=>o (d▸l)⟩
theorem xn(b:L.Nodup)(a:∀p∈L,p.1<256/\p.2<256):L.length<=65536:=by
 have:=tF L ((List.range 65536).map fun n=>((n/256,n % 256):Pr)) b (fun p c=>by obtain⟨d,e⟩:=a p c;exact fH.2 ⟨p.1*256+p.2,gt.2 ad,Prod.ext (by show(p.1*256+p.2)/256=p.1;omega) (by show(p.1*256+p.2) % 256=p.2;omega)⟩)
 rwa[cf,IT]at this
end
def tQ(S:Pr->Prop)(w:World)(b:Ending)(w':World):Prop:=Below w.heap.size w w'/\∃v a,b=.returned v/\eO w' w.heap.size v a/\a.length<=1048576/\∀q∈a,S q
def As(a:World)(S:Pr->Prop)(M:Nat)(g:Nat)(tv av:Value)(wr:World):Prop:=
 ∃(L:List Pr) (k:Nat),g=65537-k/\av=.int .i64 (k:Nat)/\k<=L.length/\iX a.heap.size M L tv wr/\(∀p∈L,S p)/\Below a.heap.size a wr
def xp(a:World)(S:Pr->Prop)(M k:Nat)(d:Value)(c:List Pr)(g:Nat)(tv e:Value)(wr:World):Prop:=
 ∃(L:List Pr) (j:Nat),g=c.length-j/\e=.int .i64 (j:Nat)/\j<=c.length/\k<L.length/\iX a.heap.size M L tv wr/\(∀p∈L,S p)/\Below a.heap.size a wr/\eO wr a.heap.size d c/\∀b,d.ownBlock=some b->tv.ownBlock≠some b
theorem Gj(a2 a3:Nat)(cs ca:Array Value)(eV:∀(args:Array Value) (al:World),(callFunc a2 args).run prog al=.ok (.enter a2 args) al)(e0:∀(args:Array Value) (al:World),(callFunc a3 args).run prog al=.ok (.enter a3 args) al)
 (d:World) (S:Pr->Prop) (bc:Pr->Bool) (bu:∀p,S p->p.1<256/\p.2<256) (bl:S (0,0))
 (cp:∀(a b:Nat) (w:World),S (a,b)->Below d.heap.size d w->Calls prog a2 (#[.agg #[.int .i64 (a:Nat),.int .i64 (b:Nat)]]++cs) w (tQ S w))
 (c5:∀(a b:Nat) (w:World),S (a,b)->Below d.heap.size d w->Calls prog a3 (#[.agg #[.int .i64 (a:Nat),.int .i64 (b:Nat)]]++ca) w fun h w'=>h=.returned (.bool (bc (a,b)))/\Below w.heap.size w w'):
 Calls prog 105 #[.func (.func a2) #[] cs,.func (.func a3) #[] ca] d fun h w'=>(∃b,h=.returned (.bool b)/\(b=true->∃p,S p/\bc p=true))/\Below d.heap.size d w':=by
 have bN:∀p,S p->im p:=fun p i=>by obtain⟨s,M⟩:=bu p i;exact⟨ad,ad⟩
 obtain⟨be,a6,b8⟩:=dF d (.map #[] 0);have c7:bp be prog 106 d.heap.size 0 (fun _=>none):=by rw[a6];exact bp.made d _ _
 have a9:=bN _ bl;obtain⟨n,c1,cN,af,es⟩:=c7.set ru B9 bI (val:=.int .i64 0) (tP a9) (p9 a9);have er:(Instr.mapUpdate 111 (.map (some d.heap.size)) (.agg #[.int .i64 0,.int .i64 0]) (.int .i64 0)).run prog be=.ok () n:=c1;have bE:fL n d.heap.size [(0,0)]:=fL.put (L:=[]) a9 (fun q l=>⟨fun r=>by simp at r,fun _=>rfl⟩) cN;have eC:be.heap.size=d.heap.size+1:=by rw[a6];simp
 have b9:Below d.heap.size d n:=b8.grown af ad (fun k h=>by cases h;exact az _);obtain⟨b1,ba⟩:=ar (n.alloc (.cells #[.int .i64 0,.int .i64 0] 106));have K:b1.heap[n.heap.size]?=some (.cells #[.int .i64 0,.int .i64 0] 106):=by rw[ba];exact aB n _
 have bf:Below n.heap.size n b1:=by rw[ba];exact aG
 have c4:Hid (As d S d.heap.size 65537 (.slice (some ⟨n.heap.size,0,none⟩) 1 1) (.int .i64 0) b1):=ah
  ⟨[(0,0)],0,rfl,rfl,ak,⟨az _,bE.of_block (bf.block _ bE.lt),⟨rfl,.inr ⟨_,1,_,rfl,ad,K,az _,bI,rfl,rfl⟩⟩,ak⟩,fun p i=>by simp at i;subst i;exact bl,b9.trans (bf.mono ad)⟩
 have em:= @l8 prog;obtain⟨b3,ea,ds,eb⟩:=cr bu bN cp c5;clear bu bN cp c5 bl b8 c7 a9 c1 cN af es bE eC b9 K bf;go_enter func105,ntmps105
 go_wp2_with(first|(rw[<-a6];clear a6)|(rw[<-ba];clear ba)|fail)
 clear er em;go_loopg [6,7] 65537 (fun g tv av wr=>As d S d.heap.size g tv av wr)
 case atStart=>exact c4.out
 case round=>
 clear c4;obtain⟨L,k,ci,rfl,e6,hF,F,ab⟩:=hrel;have e8:=xn hF.nodup (fun p i=>b3.o p (F p i));obtain⟨fo,eD,rfl⟩:=bL hF.row;obtain⟨dr,t,o,m⟩:=cr ci hF F ab;clear ci hF F ab;by_cases cv:k<L.length
 ·obtain⟨⟨a,b⟩,i⟩:∃p,L[k]?=some p:=⟨_,aH cv⟩
  have G:=o.o _ (aX i);obtain⟨g,c,h,co,B,C⟩:=eO.cells t.o.row i;simp only at B C;injection h with bg ec K
  subst bg K;have fd:(0:Int)<=k:=ad;have fg:(k:Int)<L.length:=ad;obtain⟨b7,J⟩:=aD (eb.o a b wr G m.o) G;have b2:Hid (∀H,Below wr.heap.size wr H->H.cell? ⟨g,k*2,none⟩=some (.int .i64 (a:Nat))/\H.cell? ⟨g,k*2+1,none⟩=some (.int .i64 (b:Nat))):=ah fun H ch=>⟨(ch.cell (p:=⟨g,k*2,none⟩) co).trans B,(ch.cell (p:=⟨g,k*2+1,none⟩) co).trans C⟩;clear G i;go_wp2_with fail
  refine b7.o.mono ?_;rintro h H ⟨rfl,a7⟩;clear b7 B C;obtain⟨B,C⟩:=b2.o H a7;have cb:=m.o.trans (a7.mono m.o.size);obtain⟨I,bd⟩:=aD cb (t.o.below a7);clear a7 cb b2;cases b0:bc (a,b)with
  |true=>
   have A:Hid (∃p,S p/\bc p=true):=ah ⟨_,J.o,b0⟩;clear b0;go_wp2_with fail
   (try rw[lp])
   go_ret;exact⟨⟨_,rfl,fun _=>A.o⟩,I.o⟩
  |false=>
   clear b0;have b4:=ah (ds.o a b H J.o I.o);go_wp2_with fail
   refine b4.o.mono ?_;rintro h eE ⟨bw,e1,e,rfl,E,e3,cd⟩;clear b4 B C;obtain⟨go,gc,rfl⟩:=bL E;have cu:Hid (xp d S d.heap.size k (.slice go e.length gc) e e.length (.slice (some ⟨g,0,none⟩) L.length eD) (.int .i64 0) eE):=ah
    ⟨L,0,rfl,rfl,aZ _,cv,bd.o.below bw,o.o,I.o.trans (bw.mono I.o.size),dR E I.o.size,fun b s M=>by have bo:=(aF E s).1;have e2:=(aF bd.o.row M).2;omega⟩
   have c8:=ah cd;clear bw E cd bd I t o m J
   go_wp2
   go_loopg [6,36] e.length (fun g tv eB eN=>xp d S d.heap.size k (.slice go e.length gc) e g tv eB eN)
   case atStart=>exact cu.out
   case round=>
   clear cu;obtain⟨f,j,af,rfl,e5,cx,hF,F,ab,E,cl⟩:=hrel;have ek:=xn hF.nodup (fun p i=>b3.o p (F p i));obtain⟨P,O,rfl⟩:=bL hF.row;obtain⟨b5,t,o,m,ao,aq⟩:=g6 af hF F ab E cl;clear af hF F ab E cl;by_cases bA:j<e.length
   ·obtain⟨⟨x,y⟩,i⟩:∃p,e[j]?=some p:=⟨_,aH bA⟩
    have G:=c8.o _ (aX i);have bF:=ea.o _ G;obtain⟨Z,eU,h,e4,B,C⟩:=eO.cells ao.o i;simp only at B C;injection h with bg ec K
    subst bg K;have fb:(0:Int)<=j:=ad;have fc:(j:Int)<e.length:=ad;obtain⟨ag,bb,a0,a1⟩:=cm wr (.cells #[.int .i64 (x:Nat),.int .i64 (y:Nat)] 106);have d0:=ai 0 a1;have d1:=ai 1 a1;have bt:=t.o.below a0;obtain⟨v,cF⟩:=bt.look bF;have cG:(Instr.lookup 111 (.map (some d.heap.size)) (.agg #[.int .i64 (x:Nat),.int .i64 (y:Nat)]) true).run prog ag=.ok (.tuple #[.int .i64 v,.bool (decide ((x,y)∈f))]) ag:=cF;have V:=ah (m.o.trans (a0.mono m.o.size));have X:Hid (eO ag d.heap.size (.slice (some ⟨Z,0,none⟩) e.length gc) e):=ah (aP ao.o (fun q l=>a0.block q (aF ao.o l).2));obtain⟨W,J,b6,an⟩:=cr bt G bF a1;clear cF bt a0 a1 i G bF;by_cases N:(x,y)∈f
    ·have ae:decide ((x,y)∈f)=true:=lm N
     rw[ae]at cG;have A:Hid (xp d S d.heap.size k (.slice (some ⟨Z,0,none⟩) e.length gc) e (e.length-(j+1)) (.slice P f.length O) (.int .i64 ((j:Int)+1)) ag):=ah
      ⟨f,j+1,rfl,aV,bA,cx,W.o,o.o,V.o,X.o,aq.o⟩
     clear ae N;go_wp2_with(first|(rw[<-bb];clear bb)|fail)
     go_roundg(e.length-(j+1))
     case rel=>exact A.o
     case measure=>have:=b5.o;omega
    ·have ae:decide ((x,y)∈f)=false:=l6 N
     rw[ae]at cG;obtain⟨Q,c2,bD,bB,a8,ez⟩:=W.o.put b6.o N ek (f.length:Nat);have e9:(Instr.mapUpdate 111 (.map (some d.heap.size)) (.agg #[.int .i64 (x:Nat),.int .i64 (y:Nat)]) (.int .i64 (f.length:Nat))).run prog ag=.ok () Q:=c2;obtain⟨eZ,fl,a5⟩:=W.o.seen.block;have bi:=(a8.block _ (ax an.out) (fun h=>by injection h with h;rw[<-h,an.out]at a5;cases a5)).trans an.out;have d60:=ai 0 bi;have d61:=ai 1 bi;obtain⟨R,bZ,Y⟩:=dF Q (.cells #[.int .i64 (x:Nat),.int .i64 (y:Nat)] 106);have bC:R.ownsRow d.heap.size 106 2 (.slice P f.length O) f.length (dY f):=aP bB (fun q l=>Y.block q (aF bB l).2);have c3:=bD.of_block (Y.block _ bD.lt);have en:∀j u,[Value.int .i64 (x:Nat),.int .i64 (y:Nat)][j]?=some u->R.cell? ((⟨Q.heap.size,0,none⟩:Addr).add j)=some u:=by rw[bZ];exact dK Q [.int .i64 (x:Nat),.int .i64 (y:Nat)] 106 _ rfl
     have bq:Below d.heap.size d R:=(V.o.grown a8 V.o.size (fun q h=>by cases h;exact az _)).trans (Y.mono (by have:=V.o.size;omega));have cc:=bq.size;have a4:eO R d.heap.size (.slice (some ⟨Z,0,none⟩) e.length gc) e:=by have s:eO Q d.heap.size (.slice (some ⟨Z,0,none⟩) e.length gc) e:=aP X.o (fun q l=>a8.block q (aF X.o l).2 (fun h=>kD X.o a5 (by rw[l,h])));exact aP s (fun q l=>Y.block q (aF s l).2)
     obtain⟨eA,eg,ev,ew,ex⟩:=cY tO;have c9:Hid (∀(D aa:Nat) (T:World),T.ownsRow d.heap.size 106 2 (.slice (some ⟨D,0,none⟩) (f.length+1) aa) (f.length+1) (dY f++fe (x,y))->R.grownBy T (Value.slice P f.length O).ownBlock->((Value.slice P f.length O).ownBlock=some D∨D=R.heap.size)->
      xp d S d.heap.size k (.slice (some ⟨Z,0,none⟩) e.length gc) e (e.length-(j+1)) (.slice (some ⟨D,0,none⟩) (f.length+1) aa) (.int .i64 ((j:Int)+1)) T):=ah fun D aa T eo bz ed=>by
      refine⟨f++[(x,y)],j+1,rfl,aV,bA,aR,W.o.add N c3 bC bz eo,fun p i=> ?_,bq.grown bz cc (fun q h=>(aF bC h).1),aP a4 (fun q l=>bz.block q (aF a4 l).2 (fun h=>aq.o q l h.symm)),fun b s M=> ?_⟩
      ·rcases fA.1 i with r|r
       ·exact o.o p r
       ·simp at r;subst r;exact J.o
      ·injection M with M
       subst M;rcases ed with bo|bo
       ·exact aq.o _ s bo
       ·have:=(aF a4 s).2
        simp only at this;omega
     have e7:f.length+1<=65537:=ad;clear ae N c2 bD bB a8 ez a5 bi Y c3 bq a4 W V X J b6 an t o m ao aq;go_wp2_with(first
      |(rw[<-bb];clear bb)
      |(rw[<-bZ];clear bZ)
      |(at_builtin;refine is _ rfl _ _ 112 rfl d.heap.size 106 eA _ 2 16 uM eg ev ew ex rfl ad (.slice P f.length O) f.length (dY f) rfl bC ⟨Q.heap.size,0,none⟩ 1 1 [.int .i64 (x:Nat),.int .i64 (y:Nat)] rfl rfl en (fun z c6=>by simp at c6;rcases c6 with rfl|rfl<;>rfl) ad bI ad cc _ rfl ?_;intro D aa T c0 cq ce el;have A:=ah (c9.o D aa T c0 cq ce);clear c0 cq ce el)
      |fail)
     go_roundg(e.length-(j+1))
     case rel=>exact A.o
     case measure=>have:=b5.o;omega
   ·obtain rfl:j=e.length:=ad
    have A:Hid (As d S d.heap.size (65537-(k+1)) (.slice P f.length O) (.int .i64 ((k:Int)+1)) wr):=ah
     ⟨f,k+1,rfl,aV,cx,t.o,o.o,m.o⟩
    go_wp2
    go_roundg(65537-(k+1))
    case rel=>exact A.o
    case measure=>have:=dr.o;omega
 ·obtain rfl:k=L.length:=ad
  go_wp2_with fail
  (try rw[lp])
  go_ret;exact⟨⟨_,rfl,fun r=>by cases r⟩,m.o⟩
end Go.Proofs.YtnadadbndcdolaaGreatDoor
