import Derived.Test.YtfeidcmojcijpaaGreatDoorQaw
set_option linter.all false
set_option maxRecDepth 100000
set_option maxHeartbeats 0
namespace Go.Proofs.YtfeidcmojcijpaaGreatDoor
open Go.RowKit Tryz
section
def yC:Array Value:=#[.int .i64 12,.func (.func 131) #[] #[],.int .i64 11,.func (.func 132) #[] #[],.int .i64 10,.func (.func 135) #[] #[],.int .i64 18,.func (.func 138) #[] #[],.int .i64 14,.func (.func 139) #[] #[],.int .i64 15,.func (.func 140) #[] #[]]
def QC w:de 75 #[] w (.slice w 6 6) fun w'=>w'=cT w yC 155:=by
 unfold yC
 go_in
 go_wp2
 go_ret;simp
def GC{W:World}{B e size n l:Nat}{v xs o o'}(h:W.ownsRow B e size v n xs)(j:W.heap[l]?=some o)(i:o.isCells=false):(W.putObj l o').ownsRow B e size v n xs:=by
 refine⟨h.1,?_⟩;rcases h.2 with c|⟨g,cap,b,hv,f,a,d⟩
 exact .inl c;refine .inr ⟨g,cap,b,hv,f,?_,d⟩;rw[eK (fun e=>by
  subst e;rw[j]at a;cases a
  cases i)]
 exact a
def aX{W W':World}{B e size n:Nat}{v xs}(h:W.ownsRow B e size v n xs)(f:∀g,v.ownBlock=some g->W'.heap[g]?=W.heap[g]?):W'.ownsRow B e size v n xs:=by
 refine⟨h.1,?_⟩;rcases h.2 with b|⟨g,cap,a,rfl,d,i,c⟩
 exact .inl b;exact .inr ⟨g,cap,a,rfl,d,(f g rfl).Z i,c⟩
def SCk(a:Nat)(W:World)(b:Nat):Prop:=(∃v n xs,kq W a #[v] 34/\W.ownsRow (a+1) 36 4 v n xs/\v.ownBlock≠b)/\b≠a/\b<W
def aV{W:World}{B e size n g:Nat}{v xs}(h:W.ownsRow B e size v n xs)(a:v.ownBlock=g):B<=g/\g<W:=by obtain⟨b,c,_⟩:=Br h g a;omega
def lK NB:nZ (SCk NB):=by
 refine⟨fun h=>h.2.2,?_,?_,?_⟩;rintro W W' b ⟨⟨v,n,xs,a,c,f⟩,i,j⟩ d;exact⟨⟨v,n,xs,(d.J _ (aS a)).Z a,aX c (fun g m=>d.J g (aV c m).2),f⟩,i,eU j d.size⟩;rintro W W' b s ⟨⟨v,n,xs,a,c,f⟩,i,j⟩ d u r;have:=aS a;exact⟨⟨v,n,xs,(d.J _ (aS a)).Z a,aX c (fun g m=>d.J g (aV c m).2),fun e=>by have:=(aV c e).2;omega⟩,ad,r⟩;rintro W b l o o' ⟨⟨v,n,xs,a,c,f⟩,i,j⟩ q p t;refine⟨⟨v,n,xs,?_,GC c q p,f⟩,i,by rw[n5];exact j⟩;rw[eK (fun e=>by
  subst e;rw[q]at a;cases a
  cases p)]
 exact a
structure mo(w0:World)(NB:Nat)(t:Tr)(k:Nat)(W:World)(v:Value)(rs:List KA):Prop where
 base:Below w0.heap.size w0 W
 nb:w0.heap.size<=NB
 box:W.heap[NB]?=some (.cells #[v] 34)
 len:rs.length=k
 own:W.ownsRow (NB+1) 36 4 v k (kidRows ((nodesT t).take k) rs)
 tr:∀(i:Nat) (m:Tr) (q:KA),(nodesT t)[i]?=some m->rs[i]?=some q->cE W (SCk NB W) m q
def mo.O{c W W':World}{a:Nat}{t:Tr}{k:Nat}{v:Value}{rs:List KA}(h:mo c a t k W v rs)(b:Below W.heap.size W W'):mo c a t k W' v rs:=
 ⟨h.base.Z (b.zz h.base.size),h.nb,(b.J _ (aS h.box)).Z h.box,h.len,aX h.own (fun g f=>b.J g (aV h.own f).2),fun i m q d e=>(Kp.of (lK a) b).tree (lK a) (h.tr i m q d e)⟩
def mo.put{g W:World}{c:Nat}{t:Tr}{k l:Nat}{v:Value}{rs:List KA}{o o':Obj}(h:mo g c t k W v rs)(r:g.heap.size<=l)(f:W.heap[l]?=some o)(d:o.isCells=false)(p:o'.isCells=false):mo g c t k (W.putObj l o') v rs:=
 ⟨⟨h.base.os,h.base.tape,h.base.output,by rw[n5];exact h.base.size,fun b n=>(eK ad).Z (h.base.J b n)⟩,h.nb,
   (eK (fun e=>by have a:=h.box;rw[e,f]at a;cases a;cases d)).Z h.box,h.len,GC h.own f d,fun i m q a j=>yy (lK c) f d p (h.tr i m q a j)⟩
structure oR(NB:Nat)(X Y:World)(v v':Value)(k:Nat)(row:List Value)(nb:Value):Prop where
 os:Y.os=X.os
 tape:Y.tape=X.tape
 output:Y.output=X.output
 size:X.heap.size<=Y.heap.size
 J:∀b,b<X.heap.size->b≠NB->v.ownBlock≠some b->Y.heap[b]?=X.heap[b]?
 own:Y.ownsRow (NB+1) 36 4 v' (k+1) row
 nbc:Y.heap[NB]?=some (.cells #[nb] 34)
 nblk:∀g,v'.ownBlock=some g->v.ownBlock=some g∨X.heap.size<=g
def QD{ks rs k q}(h:rs.length=ks.length):kidRows (ks++[k]) (rs++[q])=kidRows ks rs++oH k q:=by unfold kidRows;rw[List.zip_append ad,qA];simp
def oR.done{u X Y:World}{d:Nat}{t:Tr}{k:Nat}{v g:Value}{rs:List KA}{x:Tr}{q:KA}(h:mo u d t k X v rs)(n:(nodesT t)[k]?=some x)(w:cE X (SCk d X) x q)(c:oR d X Y v g k (kidRows ((nodesT t).take k) rs++oH x q) g):
 mo u d t (k+1) Y g (rs++[q])/\Kp (SCk d) X Y:=by
 have A:=(aF.1 n).1;have j:Kp (SCk d) X Y:=⟨c.size,fun b l=>by
  obtain⟨⟨z,C,D,a,f,p⟩,r,s⟩:=l;have e:z=v:=by rw[h.box]at a;injection a with a;injection a with a;simpa using a.zy
  subst e;refine⟨⟨⟨g,_,_,c.nbc,c.own,fun e=> ?_⟩,r,eU s c.size⟩,c.J b s r p⟩;rcases c.nblk b e with o|o
  exact p o;omega⟩
 refine⟨⟨⟨c.os.Z h.base.os,c.tape.Z h.base.tape,c.output.Z h.base.output,aW h.base.size c.size,fun b l=> ?_⟩,h.nb,c.nbc,by simp[h.len],?_,fun i m y a f=> ?_⟩,j⟩;have B:=h.base.size;have:=h.nb;refine(c.J b ad ad (fun e=> ?_)).Z (h.base.J b l);have:=(aV h.own e).1;omega;rw[bH,n,fp,QD (by rw[eh,h.len];omega)];exact c.own;by_cases e:i<k;rw[eC (h.len▸e)]at f;exact j.tree (lK d) (h.tr i m y a f);rw[gp (by rw[h.len];omega),h.len]at f;have:i=k:=by have:=(aF.1 f).1;simp at this;omega
 subst this;rw[qy]at f;cases f
 rw[n]at a;cases a
 exact j.tree (lK d) w
structure R7(v xv kv:Value)(own:World->Value->Prop)(C:World->Value->Bool->Bool->Prop)(AD:Value->Value->Prop)(IB:World->Prop)(B:Nat->Bool)(Y:World)(v19 v20 v21 v22 v23 v24:Value):Prop where
 j0:B 0=true->v19=v
 j1:B 1=true->v20=xv
 j2:B 2=true->v21=kv
 j3:B 3=true->B 4=false->own Y v22
 j5:B 5=true->AD v23 v24
 jp:B 4=true->C Y v23 (B 6) (B 7)
 jb:B 4=false->IB Y
 d4:B 4=true->B 0=true/\B 1=true/\B 2=true/\B 3=true
 d5:B 5=true->B 4=true
 d6:B 6=true->B 5=true
 d7:B 7=true->B 4=true
section
variable{v xv kv:Value} {own:World->Value->Prop} {C:World->Value->Bool->Bool->Prop} {AD:Value->Value->Prop} {IB:World->Prop} {B B':Nat->Bool} {Y Y':World} {v19 v20 v21 v22 v23 v24:Value}
 (h:R7 v xv kv own C AD IB B Y v19 v20 v21 v22 v23 v24)
include h
def R7.n4{i:Nat}(m:i=0∨i=1∨i=2∨i=3)(n:B i=false):B 4=false/\B 5=false/\B 6=false/\B 7=false:=by
 have f:B 4=false:=by
  cases e:B 4 with
  |false=>rfl
  |true=>
   obtain⟨a,b,c,d⟩:=h.d4 e;rcases m with rfl|rfl|rfl|rfl<;>simp_all
 have g:B 5=false:=by cases e:B 5 with
  |false=>rfl
  |true=>rw[h.d5 e]at f;cases f
 have j:B 6=false:=by cases e:B 6 with
  |false=>rfl
  |true=>rw[h.d6 e]at g;cases g
 have l:B 7=false:=by cases e:B 7 with
  |false=>rfl
  |true=>rw[h.d7 e]at f;cases f
 exact⟨f,g,j,l⟩
def R7.s0(a:∀j,B' j=(decide (j=0)||B j))(g:B 0=false):R7 v xv kv own C AD IB B' Y v v20 v21 v22 v23 v24:=by obtain⟨b,c,d,f⟩:=h.n4 aj g;exact⟨fun _=>rfl,fun e=>h.j1 (by simpa[a]using e),fun e=>h.j2 (by simpa[a]using e),fun e _=>h.j3 (by simpa[a]using e) b,fun e=>by simp[a,c]at e,fun e=>by simp[a,b]at e,fun _=>h.jb b,fun e=>by simp[a,b]at e,fun e=>by simp[a,c]at e,fun e=>by simp[a,d]at e,fun e=>by simp[a,f]at e⟩
def R7.s1(a:∀j,B' j=(decide (j=1)||B j))(g:B 1=false):R7 v xv kv own C AD IB B' Y v19 xv v21 v22 v23 v24:=by obtain⟨b,c,d,f⟩:=h.n4 aj g;exact⟨fun e=>h.j0 (by simpa[a]using e),fun _=>rfl,fun e=>h.j2 (by simpa[a]using e),fun e _=>h.j3 (by simpa[a]using e) b,fun e=>by simp[a,c]at e,fun e=>by simp[a,b]at e,fun _=>h.jb b,fun e=>by simp[a,b]at e,fun e=>by simp[a,c]at e,fun e=>by simp[a,d]at e,fun e=>by simp[a,f]at e⟩
def R7.s2(a:∀j,B' j=(decide (j=2)||B j))(g:B 2=false):R7 v xv kv own C AD IB B' Y v19 v20 kv v22 v23 v24:=by obtain⟨b,c,d,f⟩:=h.n4 aj g;exact⟨fun e=>h.j0 (by simpa[a]using e),fun e=>h.j1 (by simpa[a]using e),fun _=>rfl,fun e _=>h.j3 (by simpa[a]using e) b,fun e=>by simp[a,c]at e,fun e=>by simp[a,b]at e,fun _=>h.jb b,fun e=>by simp[a,b]at e,fun e=>by simp[a,c]at e,fun e=>by simp[a,d]at e,fun e=>by simp[a,f]at e⟩
def R7.s3{u:Value}(a:∀j,B' j=(decide (j=3)||B j))(i:B 3=false)(l:own Y' u)(g:IB Y'):R7 v xv kv own C AD IB B' Y' v19 v20 v21 u v23 v24:=by obtain⟨b,c,d,f⟩:=h.n4 aj i;exact⟨fun e=>h.j0 (by simpa[a]using e),fun e=>h.j1 (by simpa[a]using e),fun e=>h.j2 (by simpa[a]using e),fun _ _=>l,fun e=>by simp[a,c]at e,fun e=>by simp[a,b]at e,fun _=>g,fun e=>by simp[a,b]at e,fun e=>by simp[a,c]at e,fun e=>by simp[a,d]at e,fun e=>by simp[a,f]at e⟩
def R7.s4{u:Value}(a:∀j,B' j=(decide (j=4)||B j))(c:B 4=false)(d:B 0=true)(f:B 1=true)(g:B 2=true)(m:B 3=true)(n:C Y' u false false):R7 v xv kv own C AD IB B' Y' v19 v20 v21 v22 u v24:=by
 have b:B 5=false:=by cases e:B 5 with
  |false=>rfl
  |true=>rw[h.d5 e]at c;cases c
 have i:B 6=false:=by cases e:B 6 with
  |false=>rfl
  |true=>rw[h.d6 e]at b;cases b
 have l:B 7=false:=by cases e:B 7 with
  |false=>rfl
  |true=>rw[h.d7 e]at c;cases c
 exact⟨fun _=>h.j0 d,fun _=>h.j1 f,fun _=>h.j2 g,fun _ e=>by simp[a]at e,fun e=>by simp[a,b]at e,fun _=>by simpa[a,i,l]using n,fun e=>by simp[a]at e,fun _=>by simp[a,d,f,g,m],fun e=>by simp[a,b]at e,fun e=>by simp[a,i]at e,fun e=>by simp[a,l]at e⟩
def R7.s5{u:Value}(a:∀j,B' j=(decide (j=5)||B j))(g:B 5=false)(b:B 4=true)(l:AD v23 u):R7 v xv kv own C AD IB B' Y v19 v20 v21 v22 v23 u:=by
 have m:B 6=false:=by cases e:B 6 with
  |false=>rfl
  |true=>rw[h.d6 e]at g;cases g
 have⟨c,d,f,i⟩:=h.d4 b;exact⟨fun _=>h.j0 c,fun _=>h.j1 d,fun _=>h.j2 f,fun _ e=>by simp[a,b]at e,fun _=>l,fun _=>by have:=h.jp b;simpa[a]using this,fun e=>by simp[a,b]at e,fun _=>by simp[a,c,d,f,i],fun _=>by simp[a,b],fun e=>by simp[a],fun _=>by simp[a,b]⟩
def R7.s6(a:∀j,B' j=(decide (j=6)||B j))(m:B 6=false)(c:B 5=true)(l:C Y' v23 true (B 7)):R7 v xv kv own C AD IB B' Y' v19 v20 v21 v22 v23 v24:=by have b:=h.d5 c;have⟨d,f,g,i⟩:=h.d4 b;exact⟨fun _=>h.j0 d,fun _=>h.j1 f,fun _=>h.j2 g,fun _ e=>by simp[a,b]at e,fun _=>h.j5 c,fun _=>by simpa[a]using l,fun e=>by simp[a,b]at e,fun _=>by simp[a,d,f,g,i],fun _=>by simp[a,b],fun e=>by simp[a,c],fun _=>by simp[a,b]⟩
def R7.s7(a:∀j,B' j=(decide (j=7)||B j))(l:B 7=false)(b:B 4=true)(i:C Y' v23 (B 6) true):R7 v xv kv own C AD IB B' Y' v19 v20 v21 v22 v23 v24:=by obtain⟨c,d,f,g⟩:=h.d4 b;exact⟨fun _=>h.j0 c,fun _=>h.j1 d,fun _=>h.j2 f,fun _ e=>by simp[a,b]at e,fun e=>h.j5 (by simpa[a]using e),fun _=>by simpa[a]using i,fun e=>by simp[a,b]at e,fun _=>by simp[a,c,d,f,g],fun _=>by simp[a,b],fun e=>by have:=h.d6 (by simpa[a]using e);simp[a,this],fun _=>by simp[a,b]⟩
end
def mp:List Value:=[.string ⟨#[]⟩,.string ⟨#[]⟩,.slice none 0 0,.slice none 0 0]
def QE{w0 X Y NB t k g v rs}(h:mo w0 NB t k X v rs)(a:aR X Y)(i:kq Y g mp 36)(G:k<=1048576):
 ∃j Y',(∀ty,(Builtin.append_ #[34,34] ty #[v,.slice g 1 1]).run prog Y=.ok j Y')/\oR NB X Y' v j k (kidRows ((nodesT t).take k) rs++mp) v/\∃d cap,j=.slice (some ⟨d,0,none⟩) (k+1) cap:=by
 obtain⟨D,s,A,B,C⟩:=cZ A5;have u:=aX h.own (fun g r=>a.J g (aV h.own r).2);have o:=aS h.box;have⟨d,cap,Y',x,l,c,f,E⟩:=run_append_lies Y 34 34 _ 36 D _ 4 80 KV s A B C rfl aq v k _ u _ 1 1 mp rfl (World.news_of_block i) (fun z i=>by simp[mp]at i;rcases i with rfl|rfl|rfl|rfl<;>rfl) aq bO ad (aQ a.size) _ rfl;have y:=a.size;refine⟨_,Y',fun ty=>by rw[<-x];rfl,⟨c.os.Z a.os,c.tape.Z a.tape,c.output.Z a.output,aW y c.size,fun b m F n=>(c.J b ad (fun e=>n e.zy)).Z (a.J b m),l,?_,fun q w=> ?_⟩,d,cap,rfl⟩;have p:NB<Y:=ad;refine(c.J NB p (fun e=> ?_)).Z ((a.J _ o).Z h.box);have:=(aV h.own e.zy).1;omega;cases w
 rcases f with f|f
 exact .inl f;exact .inr (by show X<=d;omega)
def QF{rows}{a b c d e f g i:Value}{k}(h:rows.length=k*4):((((rows++[e,f,g,i]).set (k*4) a).set (k*4+1) b).set (k*4+2) c).set (k*4+3) d=rows++[a,b,c,d]:=by rw[<-h];simp
def QH{X Y NB k g cap v nb a b c d rows}(h:oR NB X Y v (.slice (some ⟨g,0,none⟩) (k+1) cap) k (rows++mp) nb)(u:rows=k*4):
 oR NB X ((((Y.setCell ⟨g,k*4,none⟩ a).setCell ⟨g,k*4+1,none⟩ b).setCell ⟨g,k*4+2,none⟩ c).setCell ⟨g,k*4+3,none⟩ d) v (.slice g (k+1) cap) k (rows++[a,b,c,d]) nb:=by
 obtain⟨w,m⟩:=h.own.stored (k*4) a;obtain⟨x,n⟩:=w.stored (k*4+1) b;obtain⟨y,o⟩:=x.stored (k*4+2) c;obtain⟨l,p⟩:=y.stored (k*4+3) d;have f:=((m.Z n).Z o).Z p;have z:NB+1<=g:=(aV h.own rfl).1;have t:(Value.slice (some ⟨g,0,none⟩) (k+1) cap).ownBlock≠some NB:=fun e=>by have:g=NB:=by simpa[Value.ownBlock]using e
                                                                                                                                                                                                                                                                           omega
 rw[show mp=[Value.string ⟨_⟩,.string ⟨_⟩,.slice none 0 0,.slice none 0 0]from rfl,QF u]at l;refine⟨f.os.Z h.os,f.tape.Z h.tape,f.output.Z h.output,aW h.size f.size,fun q r s j=>(f.J q (aQ h.size) (fun e=> ?_)).Z (h.J q r s j),l,(f.J NB (aS h.nbc) t.zy).Z h.nbc,h.nblk⟩;injection e with e
 subst e;rcases h.nblk q rfl with i|i
 exact j i;omega
def QI{X Y NB k v v' nb u row}(h:oR NB X Y v v' k row nb)(d:NB<X):oR NB X (Y.setCell NB u) v v' k row u:=by refine⟨h.os,h.tape,h.output,by rw[eF];exact h.size,fun q b a c=>(gq _ _ _ _ a).Z (h.J q b a c),ownsRow_setCell_below h.own aj u,one_setCell h.nbc,h.nblk⟩
def QJ{X Y NB k g cap v nb rows}(h:oR NB X Y v (.slice (some ⟨g,0,none⟩) (k+1) cap) k (rows++mp) nb)(c:rows=k*4):
 (gC Y g (k*4) (.string ⟨#[]⟩)/\gC Y g (k*4+1) (.string ⟨#[]⟩)/\gC Y g (k*4+2) ()/\gC Y g (k*4+3) ())/\∀j,Y.frozen? ⟨g,j,none⟩=false:=by
 have a:=fun j (d:j<4)=>h.own.cellAt (k*4+j) ad;have b:∀j,(rows++mp)[k*4+j]?=mp[j]?:=fun j=>by rw[gp ad,c,Kx]
 refine⟨⟨?_,?_,?_,?_⟩,fun j=>h.own.frozenAt j⟩;exact(a 0 ad).Z (b 0);exact(a 1 ad).Z (b 1);exact(a 2 ad).Z (b 2);exact(a 3 ad).Z (b 3)
attribute [local go_sem] wO
def QK:∀n t,SizeOf.sizeOf t<=n->(nodesT t)=eO t:=by
 intro n;induction n with
 |zero=>intro t h;cases t;simp at h
 |succ n ih=>
  intro t h;have b:∀ks:List Tr,(∀k∈ks,(nodesT k).length=eO k)->(di ks).length=eX ks:=fun ks=>by
   induction ks with
   |nil=>intro _;rfl
   |cons k ks d=>intro a;simp only[di,eX,ck];rw[a k aj,d fun x c=>a x (by simp[c])]
  rw[BC,Gq,b _ fun k a=>ih k (aQ (Bi a))];omega
def QL{listed:Array Bool}{i}(a:i<listed.size) j:(listed.setIfInBounds i true).getD j false=(decide (j=i)||listed.getD j false):=by
 have h:=Gu a j;cases e:(listed.setIfInBounds i true).getD j false with
 |true=>rcases h.1 e with h|h<;>simp[h]
 |false=>
  rw[e]at h;simp only[iW,false_iff,not_or]at h;simp[h.1,h.2]
def QM{listed:Array Bool}{i}(h:listed.getD i true=false):listed.getD i false=false:=by have:=Gv h;simpa using this
def bs{W:World}{B e size n:Nat}{v xs}(h:W.ownsRow B e size v n xs):∃o c,v=.slice o n c:=by
 rcases h.2 with⟨a,b⟩|⟨g,cap,d,hv,_⟩
 subst b;exact⟨_,_,a⟩;exact⟨_,_,hv⟩
def dY{W}{B e size n c:Nat}{o xs}(h:W.ownsRow B e size (.slice o n c) n xs):cn W o n c size xs:=by
 by_cases v:n=0;subst v;rcases h.2 with⟨e,d⟩|⟨g,cap,x,hv,p,A,l,m,y,z⟩
 injection e with a f b
 subst a;subst b;exact⟨h.1,ay _,aH _,fun d=>absurd d (tY 0)⟩;injection hv with a f b
 subst a;subst b;exact⟨h.1,l,m,fun d=>absurd d (tY 0)⟩;obtain⟨g,w,hv,p,r,t,q⟩:=sP h ad;injection hv with a f b
 subst a;subst b;refine⟨h.1,t,q,fun _=>⟨g,0,rfl,r,fun j u i=> ?_⟩⟩;have s:j<n*size:=by rw[<-h.1];exact(aF.1 i).1
 rw[cH];exact(zH h j s).Z i
def oS:List (Int×Nat):=[(12,131),(11,132),(10,135),(18,138),(14,139),(15,140)]
def QN{f}(h:f∈oS):∀args a,(callFunc f.2 args).run prog a=.ok (.enter f.2 args) a:=by simp only[oS,bX,uh,ui]at h;intro args a;rcases h with rfl|rfl|rfl|rfl|rfl|rfl<;>rfl
def QO{f}(h:f∈oS):pE f.2:=by
 simp only[oS,bX,uh,ui]at h;rcases h with rfl|rfl|rfl|rfl|rfl|rfl
 exact Mc;exact Mg;exact Mh;exact Md;exact Me;exact Mf
def QP{i f}(h:oS[i]?=some f):yC[i*2]?=some (.int .i64 f.1)/\yC[i*2+1]?=some (.func (.func f.2) #[] #[]):=by have a:=(aF.1 h).1;simp only[oS,ef,gN]at a;rcases(show i=0∨i=1∨i=2∨i=3∨i=4∨i=5 by omega)with rfl|rfl|rfl|rfl|rfl|rfl<;>(simp[oS]at h;subst h;exact⟨rfl,rfl⟩)
def GD{w W Pd t r}(e:cE w (fun _=>True) t r)(a:aR w W)(d:∀b,b<w.heap.size->Pd b):cE W Pd t r:=cE.zw e a.size fun b f c _=>⟨a.cell c,d b c⟩
def QR:GB:=by
 intro t r w dr ci I ex bA;have gr:¬(4096<eO t∨32<dh t):=fun e=>by unfold oF at bA;rw[au e]at bA;cases bA
 obtain⟨ae,ao⟩:=am ((w.alloc (.cells (zz_mt t r) 36)).alloc (.cells #[.int .i64 4096] 3));have b2:Below w.heap.size w ae:=by rw[ao];exact aP.alloc aj _
 have hY:ae.heap.size=w.heap.size+2:=by rw[ao];simp
 have t1:ae.heap[w.heap.size]?=some (.cells (zz_mt t r) 36):=by rw[ao];exact(br _ _ _ aj).Z (aN w _)
 have cp:ae.heap[w.heap.size+1]?=some (.cells #[.int .i64 (4096:Nat)] 3 (0,0)):=by rw[ao];have:=aN (w.alloc (.cells (zz_mt t r) 36)) (.cells #[.int .i64 4096] 3);rwa[bP]at this
 have es:cE ae (fun b=>b≠w.heap.size+1) t r:=GD ci b2 (fun b h=>ad);have b8:=Qv (w.heap.size+1) _ t r 32 4096 ae (ay _) es cp aq aq;obtain⟨a4,a5,a6,a7⟩:=dC t1;obtain⟨fz,cS,fF,fo,fy,c3,cN⟩:=td ci I ex dr cp t1 b2;clear ci I ex bA dr cp t1 b2 es;unfold cA at b8;unfold cA;refine(lh (n:=9)).1 (KH func44 rfl trivial ?_ rfl);simp only[ntmps44,Dd,ef,gN,Nat.reduceAdd,Nat.reduceSub,De,Df,Dg,Dh,qE,jK]
 gi_wp2_with fail
 refine zO.2 (wp_scope_straight ((zO (n:=9)).1 ?_))
 gi_wp2_with (first
  |(rw[<-ao];clear ao)
  |fail)
 refine⟨trivial,(lh.2 b8).zz ?_⟩;rintro e l ⟨n',rfl,hU,gn,ed,bB⟩;clear b8 a4 a5 a6 a7 gn ed;have b3:Below w.heap.size w l:=cN.o.zu bB ad (fun k e=>by cases e;omega);have hZ:=bB.size;have t2:=(bB.J w.heap.size ad (fun e=>by injection e with e;omega)).Z c3.o;clear c3 fy cN bB;obtain⟨a0,fr⟩:=aC b3 t2;have gG:dh t<=32/\eO t<=4096:=ad;rw[iS gG];clear gr;obtain⟨V,bo,b4⟩:=fQ l (.cells #[.slice none 0 0] 34);have hm:=fH bo;have bd:=iC bo;have t3:=(b4.J w.heap.size ad).Z t2;obtain⟨a4,a5,a6,a7⟩:=dC t3;have cl:=Gy t r V;unfold cA at cl;obtain⟨cv,c1,c4⟩:=bm (b3.Z (b4.zz ad)) bd t3;clear t2 b3 t3 bd b4
 gi_wp2_with (first
  |(rw[<-bo];clear bo)
  |fail)
 refine⟨trivial,?_⟩;refine(lh.2 cl).zz ?_;rintro e G ⟨rfl,bq⟩;have bg:Below V.heap.size V G:=by rw[bq];exact aP
 have h0:G.heap.size=V.heap.size+1:=by rw[bq];simp
 have f4:G.heap[V.heap.size]?=some (.cells (zz_mt t r) 36):=by rw[bq];exact aN V _
 have e1:=(bg.J l.heap.size ad).Z c1.o;obtain⟨cO,fv,c2,hz⟩:=dE (cv.o.Z (bg.zz ad)) f4 e1 ((bg.J w.heap.size ad).Z c4.o);clear a4 a5 a6 a7 cl bq f4 e1 c1 c4 cv fr a0 bg;have cq:G.ownsRow (l.heap.size+1) 36 4 (.slice none 0 0) 0 []:=⟨rfl,.inl ⟨rfl,rfl⟩⟩;have bE:∀b,b<G.heap.size->b≠l.heap.size->SCk l.heap.size G b:=fun b dn b6=>⟨⟨_,0,[],c2.o,cq,fun e=>by cases e⟩,b6,dn⟩;have er:cE G (SCk l.heap.size G) t r:=GD fz.o cO.o (fun b z=>bE b ad ad);have hc:=QK _ t (ay _);have hV:(nodesT t).length<=4096:=ad;clear hc;have ey:=QA (SCk l.heap.size) (lK _) _ t r V.heap.size G (ay _) er (fun m I=>(cS.o m I).zs) ad fv.o (bE _ ad ad);have dq:mo w l.heap.size t 0 G (.slice none 0 0) []:=⟨cO.o,ad,c2.o,rfl,cq,fun i m q dn b6=>by simp at b6⟩;obtain⟨c5,fl⟩:=aC ey dq;have em:=bE w.heap.size ad ad;clear ey dq cq bE er;rw[hm]at c5
 gi_wp2
 refine Gn (lK _) w.heap.size em 9 130 _ (nodesT t).length (yz (SCk l.heap.size) t) rfl Gz c5.o (fun k X args h=>Gx h)
  (fun k W=>∃v rs,mo w l.heap.size t k W v rs) ?_ ?_ ?_ ?_ ?_
 rintro k fc B ⟨v,rs,h⟩ z;exact⟨v,rs,h.O z⟩;rintro k fc hC o o' ⟨v,rs,h⟩ ed F hd he;exact⟨v,rs,h.put ad F hd he⟩;exact⟨_,_,fl.o⟩
 ·rintro co k X args busy m hQ ⟨v,rs,ds⟩ hf hR ⟨hl,cd⟩
  obtain⟨x,K,hk,hj,hi,ez,rfl,eB,hg,hW⟩:=hf;unfold cA;obtain⟨af,O,H⟩:=fQ X (.cells (zz_mt x K) 36);have e8:=fH O;have du:=iC O
  gi_wp2_with (first
   |(rw[<-O];clear O)
   |fail)
  refine⟨H,?_⟩;have ha:co<X.heap.size:=(iJ.1 cd).1;obtain⟨M,av⟩:=am (af.putObj co (.loop busy));rw[<-av];have cg:af.heap[co]?=some (.loop hl):=(H.J _ ha).Z cd;have b7:mo w l.heap.size t k M v rs:=by rw[av];exact(ds.O H).put ad cg rfl rfl
  have eD:cE M (SCk l.heap.size M) x K:=by rw[av];exact yy (lK _) cg rfl rfl ((Kp.of (lK _) H).tree (lK _) eB)
  have e0:M.heap[X.heap.size]?=some (.cells (zz_mt x K) 36):=by rw[av];exact(eK ad).Z du
  have hn:M.heap.size=X.heap.size+1:=by rw[av,n5];exact e8
  clear av cd cg ds H eB hg du;obtain⟨Z,bt⟩:=am (World.drew M);have a3:Below M.heap.size M Z:=by rw[bt];exact(aA _ _).drew
  have h1:Z.heap.size=X.heap.size+1:=by rw[bt];exact hn
  obtain⟨ab,fL⟩:=aC (b7.O a3) ((Kp.of (lK _) a3).tree (lK _) eD);have bd:=(a3.J _ ad).Z e0;obtain⟨bZ,aw,rfl⟩:=bs b7.own;have hS:=ab.o.len;have gg:=aS ab.o.box;have el:(kidRows ((nodesT t).take k) rs).length=k*4:=ab.o.own.1;have cx:Hid (∀Y,Below Z.heap.size Z Y->Y.cell? ⟨l.heap.size,0,none⟩=some (.slice bZ k aw)/\Y.cell? ⟨X.heap.size,0,none⟩=some (.string ⟨x.zv.toArray⟩)/\Y.cell? ⟨X.heap.size,1,none⟩=some (.string ⟨x.text.toArray⟩)/\Y.cell? ⟨X.heap.size,2,none⟩=some (.slice K.ao x.zx.length K.ac)/\Y.cell? ⟨X.heap.size,3,none⟩=some (.slice K.ko x.zs.length K.kc)):=fun Y z=>by have N:=(z.J _ gg).Z ab.o.box;have al:=(z.J _ ad).Z bd;exact⟨ak 0 N,ak 0 al,ak 1 al,ak 2 al,ak 3 al⟩
  obtain⟨fq,fG⟩:=aC (Kp.of (lK l.heap.size) a3) ez;clear b7 eD e0 bd a3 ez
  gi_wp2
  refine wpIn_region_any az ?_;change wpAnyIn _ _ _ _ _ _ _ _ _ (World.drew M);rw[<-bt];clear bt;refine Gt (fun listed a Y=>listed.size=8/\∃v19 v20 v21 v22 v23 v24:Value,a={tmps:=#[.agg (zz_mt t r),.pointer (some ⟨w.heap.size,0,none⟩),.int .i64 0,.pointer (some ⟨w.heap.size+1,0,none⟩),.pointer (some ⟨l.heap.size,0,none⟩),undef,.pointer (some ⟨X.heap.size,0,none⟩),undef,undef,undef,undef,undef,.agg (zz_mt t r),.bool true,.bool false,.agg (zz_mt t r),.func (.func 130) #[] #[.pointer (some ⟨l.heap.size+1,0,none⟩)],.slice hk hj hi,.agg (zz_mt x K),v19,v20,v21,v22,v23,v24,undef,undef,undef,undef,undef,undef,undef,undef,undef,undef,undef,undef,undef,undef,undef,undef,undef,undef,undef,undef,undef],defers:=[]}/\
   R7 (.slice bZ k aw) (.agg (zz_mt x K)) (.int .i64 (k:Nat))
    (fun Y u=>∃g,u=.slice (some ⟨g,0,none⟩) 1 1/\Y.heap[g]?=some (.cells mp.toArray 36))
    (fun Y bF fO fP=>∃E cap,bF=.slice (some ⟨E,0,none⟩) (k+1) cap/\oR l.heap.size Z Y (.slice bZ k aw) bF k (kidRows ((nodesT t).take k) rs++if fO=true then oH x K else mp) (if fP=true then bF else .slice bZ k aw))
    (fun u1 u2=>∃E cap,u1=.slice (some ⟨E,0,none⟩) (k+1) cap/\u2=.pointer (some ⟨E,k*4,none⟩))
    (fun Y=>Below Z.heap.size Z Y) (fun i=>listed.getD i false) Y v19 v20 v21 v22 v23 v24) ?_ ?_ 8 (Array.replicate 8 false) _ _ rfl aq ?_
  rintro listed a Y i ⟨en,v19,v20,v21,v22,v23,v24,rfl,p⟩ g2;obtain⟨hb,o,F,J⟩:=gO.1 g2;have C:=QM hb;have hM:i<8:=(iJ.1 F).1;have P:=QL (listed:=listed) (i:=i) ad;have S:(listed.setIfInBounds i true).size=8:=by simpa using en
  rcases(show i=0∨i=1∨i=2∨i=3∨i=4∨i=5∨i=6∨i=7 by omega)with rfl|rfl|rfl|rfl|rfl|rfl|rfl|rfl
  obtain⟨hr,e9,hs,ht,hu⟩:=cx.o Y (p.jb (p.n4 (i:=0) aj C).1);refine kG rfl (fun T y=> ?_);go_simp;refine y _ _ ?_;exact⟨S,_,v20,v21,v22,v23,v24,rfl,p.s0 P C⟩;obtain⟨hr,e9,hs,ht,hu⟩:=cx.o Y (p.jb (p.n4 (i:=1) aj C).1);refine kG rfl (fun T y=> ?_);go_simp;refine y _ _ ?_;exact⟨S,v19,_,v21,v22,v23,v24,rfl,p.s1 P C⟩;simp only[iU,jw,mR,lX]at F;subst F;have d0:=J {on:=0,ground:=.data} aj rfl;obtain rfl:=p.j0 d0;refine kG rfl (fun T y=> ?_);go_simp;refine y _ _ ?_;exact⟨S,_,v20,_,v22,v23,v24,rfl,p.s2 P C⟩;have bz:=p.jb (p.n4 aj C).1;refine kG rfl (fun T y=> ?_);go_simp;apply y _ _;exact⟨S,v19,v20,v21,_,v23,v24,rfl,p.s3 P C ⟨_,rfl,aN Y _⟩ (bz.alloc bz.size _)⟩;have bz:=p.jb C;simp only[iU,jw,mR,lX]at F;subst F;have d0:=J {on:=0,ground:=.data} aj rfl;have d1:=J {on:=1,ground:=.phase} aj rfl;have d2:=J {on:=2,ground:=.phase} aj rfl;have d3:=J {on:=3,ground:=.data} aj rfl;obtain rfl:=p.j0 d0;obtain⟨g,rfl,aa⟩:=p.j3 d3 C;obtain⟨bF,Y',hh,hH,E,cap,rfl⟩:=QE ab.o bz aa ad;refine kG rfl (fun T y=> ?_);rw[au (by rfl)];unfold Oper.wpIn;refine⟨by simp[Oper.about,resolve,Target.leads],?_⟩;rw[Oper.semAt_plain _ _ _ (by intro c gl;cases gl)];simp[execOp,resolve,invoke,builtin,hh,Act.eval];exact y _ _ ⟨S,_,v20,v21,_,_,v24,rfl,p.s4 P C d0 d1 d2 d3 ⟨E,cap,rfl,by assumption⟩⟩;simp only[iU,jw,mR,lX]at F;subst F;have d4:=J {on:=4,ground:=.data} aj rfl;have d2:=J {on:=2,ground:=.data} aj rfl;obtain⟨E,cap,rfl,d⟩:=p.jp d4;obtain rfl:=p.j2 d2;have g8:(k:Int)<k+1:=ad;have g4:=aL k;refine kG rfl (fun T y=> ?_);go_simp;apply y _ _;exact⟨S,v19,v20,_,v22,_,_,rfl,p.s5 P C d4 ⟨E,cap,rfl,rfl⟩⟩;simp only[iU,jw,mR,lX]at F;subst F;have d5:=J {on:=5,ground:=.data} aj rfl;have d1:=J {on:=1,ground:=.data} aj rfl;have d4:=p.d5 d5;obtain⟨E,cap,rfl,d⟩:=p.jp d4;obtain⟨hE,hD,N,rfl⟩:=p.j5 d5;injection N with N c9 al
  injection N with N
  injection N with N
  subst N al;obtain rfl:=p.j1 d1;rw[C,ap aj]at d;obtain⟨⟨cs,fb,h6,h7⟩,hv⟩:=QJ d el;refine kG rfl (fun T y=> ?_);go_simp;apply y _ _;exact⟨S,v19,_,v21,v22,_,_,rfl,p.s6 P C d5 ⟨E,_,rfl,QH d el⟩⟩;simp only[iU,jw,mR,lX]at F;subst F;have d4:=J {on:=4,ground:=.data} aj rfl;obtain⟨E,cap,rfl,d⟩:=p.jp d4;rw[C,ap (show¬(false=true) by simp)]at d;have cs:=ak 0 d.nbc;have hv:=free_of_one d.nbc;refine kG rfl (fun T y=> ?_);go_simp;apply y _ _;exact⟨S,v19,v20,v21,v22,_,v24,rfl,p.s7 P C d4 ⟨E,_,rfl,QI d ad⟩⟩
  ·rintro listed a Y ⟨en,v19,v20,v21,v22,v23,v24,rfl,p⟩ R
   have an:listed.getD 0 false=true:=by
    apply dU;intro d;have:(0:Nat)∈([]:List Nat):=by rw[<-R];exact gO.2 ⟨kH ad (by simpa using d),_,rfl,fun e s=>by simp at s⟩
    cases this
   have ba:listed.getD 1 false=true:=by
    apply dU;intro d;have:(1:Nat)∈([]:List Nat):=by rw[<-R];exact gO.2 ⟨kH ad (by simpa using d),_,rfl,fun e s=>by simp at s⟩
    cases this
   have bb:listed.getD 2 false=true:=by
    apply dU;intro d;have:(2:Nat)∈([]:List Nat):=by rw[<-R];exact gO.2 ⟨kH ad (by simpa using d),_,rfl,fun e s _=>by simp at s;subst s;exact an⟩
    cases this
   have bc:listed.getD 3 false=true:=by
    apply dU;intro d;have:(3:Nat)∈([]:List Nat):=by rw[<-R];exact gO.2 ⟨kH ad (by simpa using d),_,rfl,fun e s=>by simp at s⟩
    cases this
   have Q:listed.getD 4 false=true:=by
    apply dU;intro d;have:(4:Nat)∈([]:List Nat):=by rw[<-R];exact gO.2 ⟨kH ad (by simpa using d),_,rfl,fun e s _=>by simp at s;rcases s with rfl|rfl|rfl|rfl|rfl|rfl;exact an;exact bc;exact an;exact ba;exact bb;exact bc⟩
    cases this
   have fS:listed.getD 5 false=true:=by
    apply dU;intro d;have:(5:Nat)∈([]:List Nat):=by
     rw[<-R];refine gO.2 ⟨kH ad (by simpa using d),_,rfl,fun e s z=> ?_⟩;simp at s;rcases s with rfl|rfl|rfl|rfl|rfl|rfl|rfl|rfl
     exact Q;exact bb;exact an;exact ba;exact bb;exact bc;exact Q;cases z
    cases this
   have fT:listed.getD 6 false=true:=by
    apply dU;intro d;have:(6:Nat)∈([]:List Nat):=by
     rw[<-R];refine gO.2 ⟨kH ad (by simpa using d),_,rfl,fun e s z=> ?_⟩;simp at s;rcases s with rfl|rfl|rfl|rfl|rfl|rfl|rfl|rfl|rfl
     exact fS;exact ba;exact Q;exact an;exact ba;exact bb;exact bc;exact Q;cases z
    cases this
   have ga:listed.getD 7 false=true:=by
    apply dU;intro d;have:(7:Nat)∈([]:List Nat):=by
     rw[<-R];refine gO.2 ⟨kH ad (by simpa using d),_,rfl,fun e s z=> ?_⟩;simp at s;rcases s with rfl|rfl|rfl|rfl|rfl|rfl|rfl|rfl|rfl|rfl
     exact Q;exact Q;cases z
     exact an;exact ba;exact bb;exact bc;exact Q;cases z
     cases z
    cases this
   obtain⟨E,cap,rfl,d⟩:=p.jp Q;rw[fT,ga,au rfl,au rfl]at d;have⟨gs,gv⟩:=d.done ab.o fG.o fL.o
   gi_wp2
   exact⟨⟨_,_,gs⟩,fq.o.Z gv⟩
  have A:=fun i=>getD_replicate_false 8 i;exact⟨aj,undef,undef,undef,undef,undef,undef,rfl,⟨fun h=>(by rw[A]at h;cases h),fun h=>(by rw[A]at h;cases h),fun h=>(by rw[A]at h;cases h),fun h _=>(by rw[A]at h;cases h),fun h=>(by rw[A]at h;cases h),fun h=>(by rw[A]at h;cases h),fun _=>aA _ _,fun h=>(by rw[A]at h;cases h),fun h=>(by rw[A]at h;cases h),fun h=>(by rw[A]at h;cases h),fun h=>(by rw[A]at h;cases h)⟩⟩
 rintro X ⟨v,rs,bi⟩ b9 hp g9;have gb:0<(nodesT t).length:=by rw[BC];omega
 obtain⟨g,aw,rfl,hJ,hK,_,_⟩:=sP bi.own gb;have eb:=QC X;have bl:=bi.base;have⟨cG,bf⟩:=aC bi b9;clear bi b9 hp g9 em
 gi_wp2
 apply wpIn_label
 gi_wp2
 refine⟨trivial,?_⟩;apply(lh.2 eb).zz;rintro e af ⟨rfl,O⟩;have H:=kj O;have e8:=fH O;have dc:=iC O;have⟨a2,fu,fx⟩:=bm (cG.o.O H) ((H.J _ (aS bf.o)).Z bf.o) dc;have hI:=aS bf.o;have c9:G=l.heap.size+1+1:=ad;have ea:af.heap[l.heap.size+1+1]?=some (.deferred (some [])):=by rw[<-c9];exact fu.o
 have fs:=ah ea;clear ea;have⟨cL,hw⟩:=aC (bl.Z (H.zz bl.size)) (fo.o.grow (bl.Z (H.zz bl.size)) (ay _));clear eb O cG bf dc H
 gi_wp2
 refine wpIn_loop (fun a ag=>∃(i:Nat) (u9 u11 u28 u29 u30 u31 u32 u33 u34 u35 u36 u37 u38 u39 u40 u41 u42 u43 u44:Value),a={tmps:=#[.agg (zz_mt t r),.pointer (some ⟨w.heap.size,0,none⟩),.int .i64 0,.pointer (some ⟨w.heap.size+1,0,none⟩),.pointer (some ⟨l.heap.size,0,none⟩),undef,undef,.int .i64 0,undef,u9,undef,u11,.agg (zz_mt t r),.bool true,.bool false,.agg (zz_mt t r),.func (.func 130) #[] #[.pointer (some ⟨l.heap.size+1,0,none⟩)],undef,undef,undef,undef,undef,undef,undef,undef,.slice (some ⟨X.heap.size,0,none⟩) 6 6,.int .i64 6,.int .i64 i,u28,u29,u30,u31,u32,u33,u34,u35,u36,u37,u38,u39,u40,u41,u42,u43,u44,undef],defers:=[{target:=.collected (l.heap.size+1+1),args:=#[]}]}/\i<=6/\Hid (Below af.heap.size af ag))
  (fun a _=>6-(intOf (a.tmps.getD 27 undef)).toNat) ?_ ?_
 exact⟨0,_,_,_,_,_,_,_,_,_,_,_,_,_,_,_,_,_,_,_,rfl,aH _,aA _ _⟩;rintro a ag ⟨i,u9,u11,u28,u29,u30,u31,u32,u33,u34,u35,u36,u37,u38,u39,u40,u41,u42,u43,u44,rfl,hL,a1⟩;by_cases hT:i<6;have g1:decide ((i:Int)<6)=true:=bT;have g8:(i:Int)<6:=ad;have g4:=aL i;have⟨f,A⟩:=df oS i (by assumption);have ec:=aK A;have⟨dl,dm⟩:=QP A;have ca:=(a1.o.J _ ad).Z fx.o;have cs:=(bj _ _ _ _ _ _ ca).Z dl;have fb:=(bj _ _ _ _ _ _ ca).Z dm;have⟨c6,bw,c8⟩:=fQ ag (.cells #[.int .i64 f.1,.func (.func f.2) #[] #[]] 155);have h4:=fH bw;have eZ:=iC bw;have ho:=a1.o.size;have b1:=ah (a1.o.Z (c8.zz ho));have dz:=(b1.o.J _ (aS a2.o.box)).Z a2.o.box;have e9:=ak 0 dz;have⟨c0,cP,hx⟩:=bm eZ ec A;clear ca dl dm c8 eZ dz ec A
 gi_wp2_with (first
  |(rw[<-bw];clear bw cs fb)
  |fail)
 refine wpIn_loop (fun a Y=>∃j u11 u34 u35 u36 u37 u38 u39 u40 u41 u42 u43 u44,a={tmps:=#[.agg (zz_mt t r),.pointer (some ⟨w.heap.size,0,none⟩),.int .i64 0,.pointer (some ⟨w.heap.size+1,0,none⟩),.pointer (some ⟨l.heap.size,0,none⟩),undef,undef,.int .i64 0,undef,.pointer (some ⟨ag.heap.size,0,none⟩),undef,u11,.agg (zz_mt t r),.bool true,.bool false,.agg (zz_mt t r),.func (.func 130) #[] #[.pointer (some ⟨l.heap.size+1,0,none⟩)],undef,undef,undef,undef,undef,undef,undef,undef,.slice (some ⟨X.heap.size,0,none⟩) 6 6,.int .i64 6,.int .i64 i,.bool true,.pointer (some ⟨X.heap.size,i*2,none⟩),.agg #[.int .i64 f.1,.func (.func f.2) #[] #[]],.slice (some ⟨g,0,none⟩) (nodesT t).length aw,.int .i64 (nodesT t).length,.int .i64 (j:Nat),u34,u35,u36,u37,u38,u39,u40,u41,u42,u43,u44,undef],defers:=[{target:=.collected (l.heap.size+1+1),args:=#[]}]}/\j<=(nodesT t).length/\Hid (Below c6.heap.size c6 Y))
  (fun a _=>(nodesT t).length-(intOf (a.tmps.getD 33 undef)).toNat) ?_ ?_
 exact⟨0,_,_,_,_,_,_,_,_,_,_,_,_,rfl,aH _,aA _ _⟩;rintro a Y ⟨j,u11,u34,u35,u36,u37,u38,u39,u40,u41,u42,u43,u44,rfl,hN,be⟩;by_cases g3:j<(nodesT t);have g0:decide (j<((nodesT t):Int))=true:=bT;have hP:j<((nodesT t):Int):=ad;have hO:=aL j;have⟨m,I⟩:=aT g3;have b0:=ah (b1.o.Z (be.o.zz ad));have ch:=dY a2.o.own;rw[bI (ay _)]at ch;have ek:=cn.O ch b0.o;have⟨hB,hX,q,eg,cc,hG,e4,e5,e6,e7⟩:=qP a2.o.len ek I;injection cc with cc
 injection cc with g5 g7
 subst g5;subst g7;rw[cH]at e4 e5 e6 e7;have et:=(a2.o.tr j m q I eg).at_.O b0.o;have gf:=be.o.size;have⟨fN,bu,b5⟩:=fQ Y (.cells (zz_mt m q) 36);have h2:=fH bu;have eE:=iC bu;have cu:=ah (be.o.Z (b5.zz gf));have e2:=(cu.o.J _ ad).Z c0.o;have hq:=ak 1 e2;have⟨a4,a5,a6,a7⟩:=dC eE;have cb:=QO cP.o m q fN (et.O b5) (cS.o m (aK I)) (fF.o m (aK I));unfold cA at cb;have s:=QN cP.o;have hy:=ah I;clear eE e2 b5 et eg ch ek b0 I
 gi_wp2_with (first
  |(rw[<-bu];clear bu e4 e5 e6 e7)
  |fail)
 refine⟨trivial,(lh.2 cb).zz ?_⟩;rintro e hA ⟨rfl,c7⟩;have a0:=ah (cu.o.Z (c7.zz ad));have e3:=(a0.o.J _ ad).Z c0.o;have h5:=ak 0 e3;have h3:=a0.o.size;clear cb hq a4 a5 a6 a7 e3 c7
 gi_wp2
 refine⟨⟨j+1,_,_,_,_,_,_,_,_,_,_,_,_,rfl,ad,a0⟩,?_⟩;simp[intOf];omega;have g0:decide (j<((nodesT t):Int))=false:=bU;obtain rfl:j=(nodesT t):=ad;have fg:=ah (b1.o.Z (be.o.zz ad))
 gi_wp2
 refine⟨⟨i+1,_,_,_,_,_,_,_,_,_,_,_,_,_,_,_,_,_,_,_,rfl,ad,fg⟩,?_⟩;simp[intOf];omega;have g1:decide ((i:Int)<6)=false:=bU;obtain rfl:i=6:=ad
 gi_wp2
 rw[sf];change LeavesInM Fence.wide 9 prog f44 _ _ (([l+1+1]:List Nat).map fun D=>{target:=.collected D,args:=#[]}) .returning ag;refine Bx _ (fun Y h=>⟨_,by simp[results,go_sem],rfl,h⟩) _ ag aj (fun D a9=> ?_) (cL.o.Z (a1.o.zz cL.o.size)) (fun Y D a9 b9 aa=> ?_);rw[pm]at a9;subst a9;exact(a1.o.J _ ad).Z fs.o;rw[pm]at a9;subst a9;exact⟨aa.os,aa.tape,aa.output,by rw[n5];exact aa.size,fun b z=>(eK ad).Z (aa.J b z)⟩
end
end Go.Proofs.YtfeidcmojcijpaaGreatDoor
