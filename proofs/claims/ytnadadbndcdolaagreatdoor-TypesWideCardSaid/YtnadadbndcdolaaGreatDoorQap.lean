import Derived.Test.YtnadadbndcdolaaGreatDoorQaf
import Derived.Test.YtnadadbndcdolaaGreatDoorQao
set_option linter.unusedVariables false
set_option linter.unusedSimpArgs false
set_option maxRecDepth 100000
set_option maxHeartbeats 0
namespace Go.Proofs.YtnadadbndcdolaaGreatDoor
open Go.RowKit Tryz
def mf(w:World)(P:Nat->Prop)(o:Option Addr)(n cap size:Nat)(xs:List Value):Prop:=
 xs.length=n*size/\n<=cap/\cap<=maxLen/\(0<n->∃b a,o=some ⟨b,a,none⟩/\b<w.heap.size/\P b/\∀j u,xs[j]?=some u->w.cell? ⟨b,a+j,none⟩=some u)
theorem mf.row{w:World}{P:Nat->Prop}{o:Option Addr}{n cap size:Nat}{xs:List Value}(a:mf w P o n cap size xs):dp w o n cap size xs:=
 ⟨a.1,a.2.1,a.2.2.1,fun f=>by obtain⟨b,g,c,d,_,e⟩:=a.2.2.2 f;exact⟨b,g,c,d,e⟩⟩
theorem mf.kept{w w':World}{P Q:Nat->Prop}{o:Option Addr}{n cap size:Nat}{xs:List Value}(c:mf w P o n cap size xs)(m:w.heap.size<=w'.heap.size)
 (f:∀b a,b<w.heap.size->P b->w'.cell? ⟨b,a,none⟩=w.cell? ⟨b,a,none⟩/\Q b):mf w' Q o n cap size xs:=
 ⟨c.1,c.2.1,c.2.2.1,fun l=>by obtain⟨b,a,g,d,e,h⟩:=c.2.2.2 l;exact⟨b,a,g,ad,(f b 0 d e).2,fun j u i=>(f b (a+j) d e).1.trans (h j u i)⟩⟩
def sj(a:Bytes×Bytes):List Value:=[.string ⟨a.1.toArray⟩,.string ⟨a.2.toArray⟩]
structure KA where
 ao:Option Addr
 ac:Nat
 ko:Option Addr
 kc:Nat
def sk(t:Tr)(a:KA):List Value:=[.string ⟨t.label.toArray⟩,.string ⟨t.text.toArray⟩,.slice a.ao t.attrs.length a.ac,.slice a.ko t.kids.length a.kc]
def kidRows(ks:List Tr)(rs:List KA):List Value:=(ks.zip rs).flatMap fun p=>sk p.1 p.2
inductive dm(w:World)(P:Nat->Prop):Tr->KA->Prop
 |mk {l x:Bytes} {av:List (Bytes×Bytes)} {ks:List Tr} {r:KA} (ha:mf w P r.ao av.length r.ac 2 (av.flatMap sj)) (rs:List KA) (hn:rs.length=ks.length)
   (hk:mf w P r.ko ks.length r.kc 4 (kidRows ks rs)) (hs:∀(i:Nat) (k:Tr) (q:KA),ks[i]?=some k->rs[i]?=some q->dm w P k q):dm w P (.mk l x av ks) r
def eR(w:World)(t:Tr)(a:KA):Prop:=dm w (fun _=>True) t a
theorem dm.kept{w w':World}{P Q:Nat->Prop}{t:Tr}{e:KA}(f:dm w P t e)(c:w.heap.size<=w'.heap.size)
 (a:∀b d,b<w.heap.size->P b->w'.cell? ⟨b,d,none⟩=w.cell? ⟨b,d,none⟩/\Q b):dm w' Q t e:=by
 induction f with
 |mk g rs i h _ ih=>exact .mk (g.kept c a) rs i (h.kept c a) ih
theorem dm.grow{w w':World}{P:Nat->Prop}{t:Tr}{c:KA}(d:dm w P t c)(a:Below w.heap.size w w'):dm w' P t c:=
 d.kept a.size fun b g e f=>⟨a.cell (p:=⟨b,g,none⟩) e,f⟩
theorem eR.below{w w':World}{t:Tr}{a:KA}(b:eR w t a)(c:Below w.heap.size w w'):eR w' t a:=dm.grow b c
theorem dm.at_{w:World}{P:Nat->Prop}{t:Tr}{a:KA}(c:dm w P t a):eR w t a:=c.kept (az _) fun b d _ _=>⟨rfl,trivial⟩
theorem eR.attr{w:World}{t:Tr}{a:KA}(b:eR w t a):dp w a.ao t.attrs.length a.ac 2 (t.attrs.flatMap sj):=by
 cases b with
 |mk c rs e d f=>exact c.row
theorem pw{w:World}{o:Option Addr}{cap:Nat}{av:List (Bytes×Bytes)}(i:dp w o av.length cap 2 (av.flatMap sj)){k:Nat}{a:Bytes×Bytes}(g:av[k]?=some a):
 ∃b c,o=some ⟨b,c,none⟩/\b<w.heap.size/\w.cell? ⟨b,c+k*2,none⟩=some (.string ⟨a.1.toArray⟩)/\w.cell? ⟨b,c+k*2+1,none⟩=some (.string ⟨a.2.toArray⟩):=by
 have l:=(aL.1 g).1;obtain⟨b,c,h,j,d⟩:=i.2.2.2 ad;have e:=lu (f:=sj) 2 (fun _=>rfl) g;refine⟨b,c,h,j,?_,?_⟩
 ·exact d (k*2) _ ((e 0 ad).trans rfl)
 ·have:=d (k*2+1) _ ((e 1 ad).trans rfl);rwa[<-iE]at this
theorem eR.kids{w:World}{t:Tr}{a:KA}(b:eR w t a):∃rs:List KA,rs.length=t.kids.length/\dp w a.ko t.kids.length a.kc 4 (kidRows t.kids rs)/\∀(i:Nat) (k:Tr) (q:KA),t.kids[i]?=some k->rs[i]?=some q->eR w k q:=by
 cases b with
 |mk f rs d c e=>exact⟨rs,d,c.row,e⟩
theorem nh{w:World}{o:Option Addr}{cap:Nat}{ks:List Tr}{rs:List KA}(r:rs.length=ks.length)(j:dp w o ks.length cap 4 (kidRows ks rs)){i:Nat}{k:Tr}(g:ks[i]?=some k):
 ∃b a q,rs[i]?=some q/\o=some ⟨b,a,none⟩/\b<w.heap.size/\w.cell? ⟨b,a+i*4,none⟩=some (.string ⟨k.label.toArray⟩)/\w.cell? ⟨b,a+i*4+1,none⟩=some (.string ⟨k.text.toArray⟩)/\w.cell? ⟨b,a+i*4+2,none⟩=some (.slice q.ao k.attrs.length q.ac)/\w.cell? ⟨b,a+i*4+3,none⟩=some (.slice q.ko k.kids.length q.kc):=by
 have n:=(aL.1 g).1;obtain⟨b,a,h,l,c⟩:=j.2.2.2 ad;obtain⟨q,e⟩:∃q,rs[i]?=some q:=⟨_,aH ad⟩;have m:(ks.zip rs)[i]?=some (k,q):=by rw[List.getElem?_zip_eq_some];exact⟨g,e⟩
 have d:=lu (f:=fun p:Tr×KA=>sk p.1 p.2) 4 (fun _=>rfl) m;refine⟨b,a,q,e,h,l,?_,?_,?_,?_⟩
 ·exact c (i*4) _ ((d 0 ad).trans rfl)
 ·have:=c (i*4+1) _ ((d 1 ad).trans rfl);rwa[<-iE]at this
 ·have:=c (i*4+2) _ ((d 2 ad).trans rfl);rwa[<-iE]at this
 ·have:=c (i*4+3) _ ((d 3 ad).trans rfl);rwa[<-iE]at this
namespace U
theorem yl(d c a:Int)(b:Nat)(w:World)(f:b<w.heap.size)(g:w.cell? ⟨b,0,none⟩=some (.int .i32 a)):
 Calls prog 327 #[.agg #[.int .i32 d,.int .i32 c],.pointer (some ⟨b,0,none⟩)] w fun e w'=>e=.returned (.bool (decide (d<=a)&&decide (a<=c)))/\Below w.heap.size w w':=by
 have h:∀o,(w.alloc o).cell? ⟨b,0,none⟩=some (.int .i32 a):=fun o=>by rw[Ir _ _ _ f];exact g
 go_enter func327,ntmps327
 go_wp2
 all_goals
  go_ret;exact⟨ck (by first|rfl|(simp;omega)),aG⟩
def spanNums:List Int:=[9,10,13,13,32,55295,57344,65533,65536,1114111]
def Spans(w:World):Prop:=∀i,i<10->w.cell? ⟨5,i,none⟩=some (.int .i32 (spanNums.getD i 0))
theorem index_span(k:Nat)(a:k<5)(w:World):(Instr.index 432 (.agg #[.int .i32 9,.int .i32 10,.int .i32 13,.int .i32 13,.int .i32 32,.int .i32 55295,.int .i32 57344,.int .i32 65533,.int .i32 65536,.int .i32 1114111]) (.int .i64 k)).run prog w=.ok (.agg #[.int .i32 (yd.getD k 0),.int .i32 (ye.getD k 0)]) w:=by rcases(ad:k=0∨k=1∨k=2∨k=3∨k=4)with rfl|rfl|rfl|rfl|rfl<;>kernel_rfl
def noSpan(a:Int)(k:Nat):Prop:=∀j,j<k->ma a j=false
theorem isCh_of{a:Int}{k:Nat}(c:k<5)(b:ma a k=true):lr a=true:=by unfold lr;rcases(ad:k=0∨k=1∨k=2∨k=3∨k=4)with rfl|rfl|rfl|rfl|rfl<;>simp[b]
theorem is_any(b:Int)(w:World)(L:5<w.heap.size)(a:Spans w):Calls prog 304 #[.int .i32 b] w fun d w'=>d=.returned (.bool (lr b))/\Below w.heap.size w w':=by
 have l:=a 0 ad;have m:=a 1 ad;have n:=a 2 ad;have o:=a 3 ad;have p:=a 4 ad;have r:=a 5 ad;have s:=a 6 ad;have t:=a 7 ad;have u:=a 8 ad;have v:=a 9 ad;simp only[spanNums,List.getD_cons_zero,List.getD_cons_succ]at l m n o p r s t u v;clear a;go_enter func304,ntmps304
 go_wp2_with fail
 clear l m n o p r s t u v;go_loopw [8] (fun i wr=>∃k:Nat,k<=5/\i=.int .i64 k/\noSpan b k/\wr.cell? ⟨w.heap.size,0,none⟩=some (.int .i32 b)/\Below w.heap.size w wr/\w.heap.size<wr.heap.size) (fun i _=>5-(intOf i).toNat)
 case atStart=>exact⟨0,ad,rfl,by intro j I;omega,ak,aG,ak⟩
 case round=>
  obtain⟨k,M,rfl,C,z,y,E⟩:=hrel;have D:=ah C;clear C;by_cases J:k<5
  ·have A:=index_span k J
   generalize hlo:yd.getD k 0=F at A;generalize hhi:ye.getD k 0=B at A;obtain⟨g,f⟩:=aD hlo hhi;clear hlo hhi;go_wp2_with fail
   refine(yl F B b w.heap.size _ aR (by rw[Ir _ _ _ E];exact z)).mono ?_;rintro d w' ⟨rfl,e⟩;generalize hq:(decide (F<=b)&&decide (b<=B))=q;have h:=ah hq;clear hq;have x:Below w.heap.size w w':=(y.alloc ad _).trans (e.mono aR);have H:w'.cell? ⟨w.heap.size,0,none⟩=some (.int .i32 b):=by rw[e.cell aR,Ir _ _ _ E];exact z
   have K:w.heap.size<w'.heap.size:=by have:=e.size;simp at this;omega
   cases q with
   |true=>
    go_wp2
    go_ret;refine⟨ck ?_,x⟩;have G:ma b k=true:=by unfold ma;rw[g.o,f.o];exact h.o
    exact(isCh_of ad G).symm
   |false=>
    go_wp2
    go_roundw
    case rel=>
     refine⟨k+1,ad,aV,?_,H,x,K⟩;intro j I;by_cases d:j=k
     ·subst d;unfold ma;rw[g.o,f.o];exact h.o
     ·exact D.out j ad
    case measure=>exact bh
  ·go_wp2_with fail
   go_ret;obtain rfl:k=5:=ad;have c:=D.out;refine⟨ck ?_,y⟩;unfold lr;rw[c 0 ad,c 1 ad,c 2 ad,c 3 ad,c 4 ad];rfl
theorem tuple2_eq{n a n' b:Int}(c:n=n')(d:a=b):(Value.tuple #[.int .i64 n,.int .i32 a])=.tuple #[.int .i64 n',.int .i32 b]:=by rw[c,d]
theorem su(c:Int)(w:World)(_h0:0<=c)(b:c<256):
 Calls prog 302 #[.int .u8 c] w fun a w'=>a=.returned (.tuple #[.int .i64 (gV c),.int .i32 (m7 c)])/\w=w':=by
 go_enter func302,ntmps302
 go_wp2
 all_goals
  go_ret2
  refine⟨jk Ending.returned (tuple2_eq ?_ ?_),rfl⟩
  ·unfold gV;repeat(first|rw[ay fS]|rw[au ad])
  ·unfold m7;repeat(first|rw[ay fS]|rw[au ad])
theorem size_any(a:Int)(w:World):Calls prog 303 #[.int .i32 a] w fun b w'=>b=.returned (.int .i64 (ke a))/\w=w':=by
 go_enter func303,ntmps303
 go_wp2
 all_goals
  go_ret;refine⟨mZ ?_,rfl⟩;unfold ke;repeat(first|rw[ay fS]|rw[au ad])
def BytesAt(w:World)(b a:Nat)(l:Bytes):Prop:=∀i,i<l.length->w.cell? ⟨b,a+i,none⟩=some (.int .u8 ((l.getD i 0).toNat:Nat))
def decV:Option (Int×Nat)->Value
 |none=>.tuple #[.int .i32 0,.int .i64 0,.int .i64 10]
 |some (a,k)=>.tuple #[.int .i32 a,.int .i64 k,.int .i64 0]
theorem drop_cons{l:Bytes}{i:Nat}(a:i<l.length):l.drop i=l.getD i 0::l.drop (i+1):=by rw[rK a];simp[a]
def DecB(k:Nat)(a:Int):Prop:=(k=0/\a<32)∨(k=1/\a<2048)∨(k=2/\a<131072)∨(k=3/\a<8388608)
theorem DecB.le{k:Nat}{a:Int}(b:DecB k a):a<8388608:=by unfold DecB at b;omega
theorem DecB.le2{k:Nat}{a:Int}(b:DecB k a)(c:k<3):a<131072:=by unfold DecB at b;omega
theorem decode_bad(b g at_ cap:Nat)(l:Bytes)(w:World)(o:l.length<=cap)(p:cap<=9223372036854775807)(i:BytesAt w b g l)(h:at_<l.length)
 (d:gV (l.getD at_ 0).toNat=0∨(l.length:Int)-at_<gV (l.getD at_ 0).toNat):
 Calls prog 261 #[.slice (some ⟨b,g,none⟩) l.length cap,.int .i64 at_] w fun a w'=>a=.returned (decV none)/\w=w':=by
 have j:=i at_ h;have e:((l.getD at_ 0).toNat:Int)<256:=by have:=(l.getD at_ 0).toNat_lt;omega
 generalize hcv:(l.getD at_ 0).toNat=c at j e d;have m:=uP (c:Int);rcases d with f|f
 all_goals
  go_enter func261,ntmps261
  go_wp2_with fail
  refine(su (c:Int) _ ad e).mono ?_;rintro a w' ⟨rfl,rfl⟩;generalize gV (c:Int)=n at f m;go_wp2_with fail
  all_goals
   go_ret3
   exact⟨rfl,rfl⟩
theorem decode_more(b u at_ cap:Nat)(l:Bytes)(w:World)(ao:l.length<=cap)(a1:cap<=9223372036854775807)(K:BytesAt w b u l)(J:at_<l.length)
 (H:2<=gV (l.getD at_ 0).toNat) (Q:gV (l.getD at_ 0).toNat<=(l.length:Int)-at_) (G:5<w.heap.size) (R:Spans w):
 Calls prog 261 #[.slice (some ⟨b,u,none⟩) l.length cap,.int .i64 at_] w fun f w'=>f=.returned (decV (fh (l.drop at_)))/\Below w.heap.size w w':=by
 have Y:=K at_ J;have z:((l.getD at_ 0).toNat:Int)<256:=by have:=(l.getD at_ 0).toNat_lt;omega
 have P:=uP ((l.getD at_ 0).toNat:Int);have q:=Cg ((l.getD at_ 0).toNat:Int) ad z;have I:fh (l.drop at_)=fh (l.getD at_ 0::l.drop (at_+1)):=by rw[drop_cons J]
 have A:=ah I;clear I;generalize hcv:(l.getD at_ 0).toNat=c at Y z H Q P q;have E:=ah hcv;clear hcv;go_enter func261,ntmps261
 go_wp2_with fail
 refine(su (c:Int) _ ad z).mono ?_;rintro f w' ⟨rfl,rfl⟩;generalize hbn:gV (c:Int)=n at H Q P q;generalize hbr0:m7 (c:Int)=S at q;obtain⟨B,C⟩:=aD hbn hbr0;clear hbn hbr0;have ag:(n==0)=false:=gK;have al:decide ((l.length:Int)-at_<n)=false:=bK;go_wp2_with fail
 obtain⟨m,O⟩:∃m:Nat,((at_:Int)+n).toNat-(at_+1)=m:=⟨_,rfl⟩;have a2:(m:Int)+1<=n:=ad;have a3:n<=(m:Int)+1:=ad;rw[O];clear O;go_loop [8,45] (fun ae i=>∃(k:Nat) (a:Int),k<=m/\i=.int .i64 k/\ae=.int .i32 a/\jm S ((l.drop (at_+1)).take k)=some a/\0<=a/\DecB k a) (fun _ i=>m-(intOf i).toNat)
 case atStart=>exact⟨0,S,aZ _,rfl,rfl,by simp[jm],q.1,.inl ⟨rfl,q.2.2 ad⟩⟩
 case round=>
  obtain⟨k,a,av,rfl,rfl,M,a4,y⟩:=hrel;have D:=ah M;clear M;have aq:=y.le;have F:=ah y;clear y;by_cases a0:k<m
  ·have Z:w.cell? ⟨b,u+(at_+1)+k,none⟩=some (.int .u8 ((l.getD (at_+1+k) 0).toNat:Nat)):=by
    rw[iE u];exact K (at_+1+k) ad
   have aa:((l.getD (at_+1+k) 0).toNat:Int)<256:=by have:=(l.getD (at_+1+k) 0).toNat_lt;omega
   generalize hcv2:(l.getD (at_+1+k) 0)=e at Z aa;have V:=ah hcv2;clear hcv2;have t:(l.drop (at_+1)).take (k+1)=(l.drop (at_+1)).take k++[e]:=by
    rw[Tb aR];congr 2
    rw[<-V.o];simp;rw[aH ad];rfl
   by_cases o:qs e=true
   ·have s:=(Ch e).1 o
    have a5:=s.2;have s:=s.1;have an:=F.o.le2 ad;obtain⟨W,X⟩:=aD o t;clear o t
    go_wp2
    go_round
    case rel=>
     refine⟨k+1,a*64+((e.toNat:Int)-128),ad,aV,rfl,?_,ad,?_⟩
     ·rw[X.o,Jb D.o,ay W.o]
     ·have:=F.o
      unfold DecB at this⊢;omega
    case measure=>exact bh
   ·have s:¬((128:Int)<=e.toNat/\(e.toNat:Int)<=191):=fun p=>o ((Ch e).2 p)
    have d:fh (l.drop at_)=none:=by rw[A.o];simp only[fh];rw[E.o,B.o,C.o];rw[au aR];have f:(n.toNat-1)=(k+1)+(m-(k+1)):=ad;rw[f,List.take_add,t,xK,List.singleton_append,Jc (by simpa using o)]
    have h:=ah d;clear d t o;rcases(ad:(e.toNat:Int)<128∨(191:Int)<e.toNat)with ab|ab
    all_goals
     clear s
     go_wp2
     go_ret3
     rw[h.o];exact⟨rfl,aE _ _⟩
  ·obtain rfl:k=m:=ad
   have N:(l.drop (at_+1)).take (n.toNat-1)=(l.drop (at_+1)).take k:=by rw[show n.toNat-1=k by omega]
   have d:fh (l.drop at_)=if ke a=n/\lr a=true then some (a,n.toNat)else none:=by rw[A.o];simp only[fh];rw[E.o,B.o,C.o];rw[au aR,N,D.o]
   clear N;by_cases g:ke a=n
   ·by_cases j:lr a=true
    ·rw[ay ⟨g,j⟩]at d
     obtain⟨h,v⟩:=aD d j;have r:(ke a !=n)=false:=by simp[g]
     have af:=ah g;clear d j g;go_wp2_with fail
     refine(size_any a _).mono ?_;rintro f w' ⟨rfl,rfl⟩;generalize ke a=T at r;go_wp2_with fail
     refine(is_any a _ G R).mono ?_;rintro f w' ⟨rfl,x⟩;rw[v.o]
     go_wp2
     go_ret3
     rw[h.o];exact⟨jk Ending.returned (by simp only[decV];rw[show n=((n.toNat:Nat):Int) by omega];rfl),x⟩
    ·rw[au (fun p=>j p.2)]at d
     have h:=ah d;have L:lr a=false:=by simpa using j
     have v:=ah L;have r:(ke a !=n)=false:=by simp[g]
     clear d j g L;go_wp2_with fail
     refine(size_any a _).mono ?_;rintro f w' ⟨rfl,rfl⟩;generalize ke a=T at r;go_wp2_with fail
     refine(is_any a _ G R).mono ?_;rintro f w' ⟨rfl,x⟩;rw[v.o]
     go_wp2
     go_ret3
     rw[h.o];exact⟨rfl,x⟩
   ·rw[au (fun p=>g p.1)]at d
    have h:=ah d;have r:(ke a !=n)=true:=by simp[g]
    clear d g;go_wp2_with fail
    refine(size_any a _).mono ?_;rintro f w' ⟨rfl,rfl⟩;generalize ke a=T at r
    go_wp2
    go_ret3
    rw[h.o];exact⟨rfl,aE _ _⟩
theorem decode_one(b t at_ cap:Nat)(l:Bytes)(w:World)(D:l.length<=cap)(E:cap<=9223372036854775807)(z:BytesAt w b t l)(o:at_<l.length)
 (g:gV (l.getD at_ 0).toNat=1) (y:5<w.heap.size) (B:Spans w):
 Calls prog 261 #[.slice (some ⟨b,t,none⟩) l.length cap,.int .i64 at_] w fun f w'=>f=.returned (decV (fh (l.drop at_)))/\Below w.heap.size w w':=by
 have A:=z at_ o;have i:((l.getD at_ 0).toNat:Int)<256:=by have:=(l.getD at_ 0).toNat_lt;omega
 have q:=Cg ((l.getD at_ 0).toNat:Int) ad i;have n:fh (l.drop at_)=fh (l.getD at_ 0::l.drop (at_+1)):=by rw[drop_cons o]
 generalize hcv:(l.getD at_ 0).toNat=c at A i g q;generalize hbr0:m7 (c:Int)=d at q;have j:ke d=1:=by unfold ke;rw[ay ad]
 have s:fh (l.drop at_)=if lr d=true then some (d,1)else none:=by rw[n];simp only[fh];rw[hcv,g,hbr0,au ad];simp[jm,j]
 obtain⟨v,u,x,m⟩:=cr g hbr0 j s;clear g hbr0 hcv n j s;go_enter func261,ntmps261
 go_wp2_with fail
 refine(su (c:Int) _ ad i).mono ?_;rintro f w' ⟨rfl,rfl⟩;rw[v.o,u.o];have C:decide ((l.length:Int)-at_<1)=false:=bK;go_wp2_with fail
 all_goals
  refine wp_loop_rounds 1 ?_;rw[rounds_succ];go_wp2_with fail
  refine(size_any d _).mono ?_;rintro f w' ⟨rfl,rfl⟩;rw[x.o];go_wp2_with fail
  refine(is_any d _ y B).mono ?_;rintro f w' ⟨rfl,p⟩;by_cases e:lr d=true
  ·have a:=m.o
   rw[ay e]at a;have h:=ah a;rw[e];clear a e
   go_wp2
   go_ret3
   rw[h.o];exact⟨rfl,p⟩
  ·have a:=m.o
   rw[au e]at a;have h:=ah a;have r:lr d=false:=by simpa using e
   rw[r];clear a e r
   go_wp2
   go_ret3
   rw[h.o];exact⟨rfl,p⟩
theorem decode_any(b a at_ cap:Nat)(l:Bytes)(w:World)(e:l.length<=cap)(f:cap<=9223372036854775807)(d:BytesAt w b a l)(c:at_<l.length)
 (h:5<w.heap.size) (i:Spans w):
 Calls prog 261 #[.slice (some ⟨b,a,none⟩) l.length cap,.int .i64 at_] w fun g w'=>g=.returned (decV (fh (l.drop at_)))/\Below w.heap.size w w':=by
 have n:=uP ((l.getD at_ 0).toNat:Int);by_cases m:gV (l.getD at_ 0).toNat=0∨(l.length:Int)-at_<gV (l.getD at_ 0).toNat
 ·refine(decode_bad b a at_ cap l w e f d c m).mono ?_
  rintro g w' ⟨rfl,rfl⟩;refine⟨?_,aE _ _⟩;rw[drop_cons c];simp only[fh];rw[ay (by rw[ln];omega)]
 ·by_cases j:gV (l.getD at_ 0).toNat=1
  ·exact decode_one b a at_ cap l w e f d c j h i
  ·exact decode_more b a at_ cap l w e f d c ad ad h i
theorem Spans.below{B:Nat}{w w':World}(a:Spans w)(b:5<B)(c:Below B w w'):Spans w':=fun i d=>by rw[c.cell (p:=⟨5,i,none⟩) b];exact a i d
theorem BytesAt.below{B:Nat}{w w':World}{b a:Nat}{l:Bytes}(c:BytesAt w b a l)(d:b<B)(e:Below B w w'):BytesAt w' b a l:=fun i f=>by rw[e.cell (p:=⟨b,a+i,none⟩) d];exact c i f
def chkE(l:Bytes):Int:=if gy l<l.length then 10 else 0
theorem tuple_ii{n a n' b:Int}(c:n=n')(d:a=b):(Value.tuple #[.int .i64 n,.int .i64 a])=.tuple #[.int .i64 n',.int .i64 b]:=by rw[c,d]
theorem decV_some(a:Int)(n:Nat):decV (some (a,n))=.tuple #[.int .i32 a,.int .i64 n,.int .i64 0]:=rfl
theorem decV_none:decV none=.tuple #[.int .i32 0,.int .i64 0,.int .i64 10]:=rfl
theorem check_any(b h cap:Nat)(l:Bytes)(w:World)(t:l.length<=cap)(v:cap<=9223372036854775807)(s:BytesAt w b h l)(q:b<w.heap.size)
 (p:5<w.heap.size) (z:Spans w):
 Calls prog 199 #[.slice (some ⟨b,h,none⟩) l.length cap] w fun j w'=>j=.returned (.tuple #[.int .i64 (gy l:Nat),.int .i64 (chkE l)])/\Below w.heap.size w w':=by
 go_enter func199,ntmps199
 go_wp2_with fail
 go_step3
 go_wp2_with fail
 go_step3
 go_wp2
 go_loopw [4] (fun i wr=>∃k:Nat,i=.int .i64 k/\k<=l.length/\Hid (k+gy (l.drop k)=gy l)/\Below w.heap.size w wr) (fun i _=>l.length-(intOf i).toNat)
 case atStart=>exact⟨0,rfl,aZ _,by show 0+gy (l.drop 0)=gy l;simp,aE _ _⟩
 case round=>
  obtain⟨k,rfl,A,e,d⟩:=hrel;by_cases u:k<l.length
  ·go_wp2_with fail
   refine(decode_any b h k cap l _ t v (s.below q d) u (by have:=d.size;omega) (z.below p d)).mono ?_;rintro j w' ⟨rfl,r⟩;have m:=d.trans (r.mono d.size);have a:=e.o;cases c:fh (l.drop k)with
   |none=>
    rw[Ci c]at a;rw[decV_none];obtain⟨o,f⟩:=aD c a;clear c a e;go_wp2_with fail
    rw[lp];go_ret2
    have:=f.o;refine⟨jk Ending.returned (tuple_ii ad ?_),m⟩;unfold chkE;rw[ay ad]
   |some x=>
    obtain⟨C,n⟩:=x;rw[decV_some];rw[Cj c]at a;have g:=uQ c;have y:=g.2.2;rw[ln]at y;rw[List.drop_drop]at a;obtain⟨o,f⟩:=aD c a;clear c a e;have B:=g.1;clear g
    go_wp2
    go_roundw
    case rel=>exact⟨k+n,aV,ad,by have:=f.o;show k+n+gy (l.drop (k+n))=gy l;omega,m⟩
    case measure=>exact bh
  ·go_wp2_with fail
   rw[lp];go_ret2
   have:=e.o;rw[Io ad,Ck]at this;refine⟨jk Ending.returned (tuple_ii ad ?_),d⟩;unfold chkE;rw[au ad]
end U
structure Gl(w:World):Prop where
 spans0:5<w.heap.size
 spans:U.Spans w
 tab0:0<w.heap.size
 tab:Go.Proofs.TabAt 0 Lib.deBruijn64tab w
theorem Gl.grow{w w':World}{B:Nat}(a:Gl w)(b:Below B w w')(d:w.heap.size<=B):Gl w':=
 ⟨by have:=b.size;have:=a.spans0;omega,a.spans.below (by have:=a.spans0;omega) b,by have:=b.size;have:=a.tab0;omega,fun j c=>(b.cell (p:=⟨0,j,none⟩) (by have:=a.tab0;show 0<B;omega)).trans (a.tab j c)⟩
theorem Gl.below{w w':World}(a:Gl w)(b:Below w.heap.size w w'):Gl w':=a.grow b (az _)
def ki(w:World)(o:Option Addr)(cap:Nat)(l:List (Bytes×Bytes)):Prop:=dp w o l.length cap 2 (l.flatMap sj)
theorem ki.below{w w':World}{o:Option Addr}{cap:Nat}{l:List (Bytes×Bytes)}(a:ki w o cap l)(b:Below w.heap.size w w'):ki w' o cap l:=dp.below a b
theorem J5{F:Nat}{caps:Array Value}{q:(Bytes×Bytes)->Bool}(l:List (Bytes×Bytes))(o:Option Addr)(cap:Nat)(w:World)(m:ki w o cap l)(M:l.length<=1048576)
 (J:∀args z,(callFunc F args).run prog z=.ok (.enter F args) z)
 (u:∀x∈l,∀i,Below w.heap.size w i->Calls prog F (#[.agg #[.string ⟨x.1.toArray⟩,.string ⟨x.2.toArray⟩]]++caps) i fun e E=>e=.returned (.bool (q x))/\Below i.heap.size i E):
 Calls prog 198 #[.slice o l.length cap,.func (.func F) #[] caps] w fun e w'=>(∃y:Int,e=.returned (.int .i64 y)/\Hid (decide (y>=0)=l.any q))/\Below w.heap.size w w':=by
 have N:=m.2.1;have B:=m.2.2.1;unfold maxLen at B;have s:=ah u;clear u;go_enter func198,ntmps198
 go_wp2
 go_loopw [8] (fun v wr=>∃k:Nat,v=.int .i64 k/\k<=l.length/\Below w.heap.size w wr/\Hid ((l.take k).any q=false)) (fun v _=>l.length-(intOf v).toNat)
 case atStart=>exact⟨0,rfl,aZ _,aE _ _,rfl⟩
 case round=>
  obtain⟨k,rfl,K,a,t⟩:=hrel;by_cases D:k<l.length
  ·have C:decide ((k:Int)<l.length)=true:=bQ
   have L:(k:Int)<l.length:=ad;obtain⟨x,c⟩:∃n,l[k]?=some n:=⟨_,aH D⟩;obtain⟨b,O,rfl,I,P,Q⟩:=pw (m.below a) c;have d:=s.o x (aX c) wr a;have h:(l.take (k+1)).any q=q x:=by rw[bV,c,fF,uk,t.o];simp
   have H:=ah c;skip;cases g:q x with
   |true=>
    rw[g]at d;have f:l.any q=true:=by rw[ir];exact⟨x,aX c,g⟩
    have j:=ah f;clear f h c g s;go_wp2_with fail
    refine d.mono ?_;rintro e G ⟨rfl,p⟩;clear d;have r:=a.trans (p.mono a.size)
    go_wp2
    go_ret;exact⟨⟨(k:Nat),rfl,by show _=_;rw[j.o,ft];omega⟩,r⟩
   |false=>
    rw[g]at d h;have A:=ah h;clear h c g;go_wp2_with fail
    refine d.mono ?_;rintro e G ⟨rfl,p⟩;clear d;have r:=a.trans (p.mono a.size)
    go_wp2
    go_roundw
    case rel=>exact⟨k+1,aV,ad,r,A.o⟩
    case measure=>exact bh
  ·have C:decide ((k:Int)<l.length)=false:=bK
   have f:l.any q=false:=by have:=t.o;rwa[dh ad]at this
   have j:=ah f;clear f
   go_wp2
   go_ret;exact⟨⟨-1,rfl,by show _=_;rw[j.o,rI];omega⟩,a⟩
theorem CJ{F:Nat}{caps:Array Value}{q:(Bytes×Bytes)->Bool}(l:List (Bytes×Bytes))(o:Option Addr)(cap:Nat)(w:World)(c:ki w o cap l)(g:l.length<=1048576)
 (d:∀args h,(callFunc F args).run prog h=.ok (.enter F args) h)
 (e:∀x∈l,∀b,Below w.heap.size w b->Calls prog F (#[.agg #[.string ⟨x.1.toArray⟩,.string ⟨x.2.toArray⟩]]++caps) b fun a m=>a=.returned (.bool (q x))/\Below b.heap.size b m):
 Calls prog 135 #[.slice o l.length cap,.func (.func F) #[] caps] w fun a w'=>a=.returned (.bool (l.any q))/\Below w.heap.size w w':=by
 have f:=J5 l o cap w c g d e;clear c g d e;go_enter func135,ntmps135
 go_wp2_with fail
 refine f.mono ?_;rintro a p ⟨⟨n,rfl,j⟩,i⟩;clear f
 go_wp2
 go_ret;exact⟨ck j.out,i⟩
theorem J6(l:Bytes):decide (U.chkE l=0)=lw l:=by
 have b:=Je l;unfold U.chkE lw;by_cases a:gy l<l.length
 ·rw[ay a]
  have:(gy l==l.length)=false:=aR;rw[this];rfl
 ·rw[au a]
  have:(gy l==l.length)=true:=aR;rw[this];rfl
theorem CK(s:Bytes)(w:World)(p:Gl w)(A:s.length<=1048576):
 Calls prog 138 #[.string ⟨s.toArray⟩] w fun g w'=>g=.returned (.bool (lw s))/\Below w.heap.size w w':=by
 have b:=Lib.run_convert_string_bytes (P:=prog) w 9 151 5 ⟨s.toArray⟩ (u:=.string) gq underlying151 underlying5;have c:U.BytesAt (Lib.bytesWorld w 5 ⟨s.toArray⟩) w.heap.size 0 s:=fun j v=>by have:=Lib.bytesWorld_cell w 5 ⟨s.toArray⟩ j (by rw[dV];exact v);rw[cD];exact this
 have a:=Lib.bytesWorld_below w 5 ⟨s.toArray⟩;have q:w.heap.size<(Lib.bytesWorld w 5 ⟨s.toArray⟩).heap.size:=by rw[Lib.bytesWorld_size];omega
 have x:(⟨s.toArray⟩:ByteArray).size=s.length:=by rw[dV]
 have m:=grownCap_ge w s.length 0 5;have n:=grownCap_le_maxLen w s.length 0 5 bI;rw[x]at b;generalize grownCap w s.length 0 5=cap at b m n;unfold maxLen at n;have e:=J6 s;obtain⟨y,h⟩:=ar (lw s);rw[<-h]at e⊢;clear h;obtain⟨r,i⟩:=ar (Lib.bytesWorld w 5 ⟨s.toArray⟩);rw[<-i]at b c a q;clear i;have d:=p.below a;have o:=U.check_any w.heap.size 0 cap s r m ad c q d.spans0 d.spans;have f:=ah e;clear e p d c;go_enter func138,ntmps138
 go_wp2_with fail
 refine o.mono ?_;rintro g B ⟨rfl,l⟩;have t:=aO a l;clear o b l a;generalize U.chkE s=z at f
 go_wp2
 go_ret;refine⟨ck ?_,t⟩;have:=f.o;rw[<-this,iF];simp
def cP(t:Tr)(a:KA):Value:=.agg #[.string ⟨t.label.toArray⟩,.string ⟨t.text.toArray⟩,.slice a.ao t.attrs.length a.ac,.slice a.ko t.kids.length a.kc]
structure nj(t:Tr):Prop where
 label:t.label.length<=1048576
 text:t.text.length<=1048576
 attrs:t.attrs.length<=1048576
 attr:∀a∈t.attrs,a.1.length<=1048576/\a.2.length<=1048576
 kids:t.kids.length<=1048576
theorem CL:∀args a,(callFunc 134 args).run prog a=.ok (.enter 134 args) a:=fun _ _=>rfl
theorem CM:∀args a,(callFunc 137 args).run prog a=.ok (.enter 137 args) a:=fun _ _=>rfl
theorem J7(a:Bytes×Bytes)(w:World)(g:a.1.length<=1048576):Calls prog 134 #[.agg #[.string ⟨a.1.toArray⟩,.string ⟨a.2.toArray⟩]] w fun b w'=>b=.returned (.bool (!cH a.1))/\Below w.heap.size w w':=by
 have c:∀w,Calls prog 97 #[.string ⟨a.1.toArray⟩] w fun b w'=>b=.returned (.bool (cH a.1))/\Below w.heap.size w w':=fun w=>m9 ⟨a.1.toArray⟩ w (by rw[dV];show a.1.length<=_;omega);generalize cH a.1=q at c⊢;have d:Below w.heap.size w (w.alloc (.cells #[.string ⟨a.1.toArray⟩,.string ⟨a.2.toArray⟩] 69)):=aG;go_enter func134,ntmps134
 go_wp2_with fail
 refine(c _).mono ?_;rintro b h ⟨rfl,e⟩;have f:=aO d e;clear c d e
 go_wp2
 go_ret;exact⟨rfl,f⟩
theorem J8(a:Bytes×Bytes)(w:World)(h:Gl w)(f:a.2.length<=1048576):Calls prog 137 #[.agg #[.string ⟨a.1.toArray⟩,.string ⟨a.2.toArray⟩]] w fun d w'=>d=.returned (.bool (!lw a.2))/\Below w.heap.size w w':=by
 have b:Below w.heap.size w (w.alloc (.cells #[.string ⟨a.1.toArray⟩,.string ⟨a.2.toArray⟩] 69)):=aG;have c:=CK a.2 _ (h.below b) f;generalize lw a.2=q at c⊢;go_enter func137,ntmps137
 go_wp2_with fail
 refine c.mono ?_;rintro d i ⟨rfl,e⟩;have g:=aO b e;clear c b e
 go_wp2
 go_ret;exact⟨rfl,g⟩
theorem J9(t:Tr)(f:KA)(w:World):Calls prog 132 #[cP t f] w fun h w'=>h=.returned (.bool (qv t))/\Below w.heap.size w w':=by
 obtain⟨n,e⟩:=ar (qv t);rw[<-e];obtain⟨l,x,av,ks⟩:=t;obtain⟨g,ac,m,j⟩:=f;unfold cP;simp only[Tr.label,Tr.text,Tr.attrs,Tr.kids];have b:=ah e;clear e;have d:Below w.heap.size w (w.alloc (.cells #[.string ⟨l.toArray⟩,.string ⟨x.toArray⟩,.slice g av.length ac,.slice m ks.length j] 29)):=aG;go_enter func132,ntmps132
 cases l with
 |nil=>
  cases av with
  |nil=>
   cases ks with
   |nil=>
    go_wp2
    go_ret;exact⟨by rw[b.o];rfl,d⟩
   |cons k ks=>
    have i:decide (((k::ks).length:Int)>0)=true:=by rw[ft];simp only[db];omega
    go_wp2
    go_ret;exact⟨by rw[b.o];simp[qv,Tr.label,Tr.attrs,Tr.kids],d⟩
  |cons a av=>
   have i:decide (((a::av).length:Int)>0)=true:=by rw[ft];simp only[db];omega
   go_wp2
   go_ret;exact⟨by rw[b.o];simp[qv,Tr.label,Tr.attrs,Tr.kids],d⟩
 |cons c l=>
  cases x<;>(go_wp2_with fail;go_ret;exact⟨by rw[b.o];rfl,d⟩)
theorem Ka(t:Tr)(b:KA)(w:World):Calls prog 139 #[cP t b] w fun e w'=>e=.returned (.bool (uT t))/\Below w.heap.size w w':=by
 obtain⟨i,a⟩:=ar (uT t);rw[<-a];obtain⟨l,x,av,ks⟩:=t;obtain⟨d,ac,h,g⟩:=b;unfold cP;simp only[Tr.label,Tr.text,Tr.attrs,Tr.kids];have c:=ah a;clear a;have f:Below w.heap.size w (w.alloc (.cells #[.string ⟨l.toArray⟩,.string ⟨x.toArray⟩,.slice d av.length ac,.slice h ks.length g] 29)):=aG;go_enter func139,ntmps139
 cases l<;>cases x<;>(go_wp2_with fail;go_ret;exact⟨by rw[c.o];rfl,f⟩)
theorem Kb(t:Tr)(h:KA)(w:World)(v:eR w t h)(P:nj t):Calls prog 133 #[cP t h] w fun e w'=>e=.returned (.bool (r9 t))/\Below w.heap.size w w':=by
 have j:ki w h.ao h.ac t.attrs:=v.attr;obtain⟨Q,R,I,J,S⟩:=P;obtain⟨L,d⟩:=ar (r9 t);rw[<-d];obtain⟨l,x,av,ks⟩:=t;obtain⟨i,ac,C,B⟩:=h;unfold cP;unfold r9 at d;simp only[Tr.label,Tr.text,Tr.attrs,Tr.kids]at d j Q R I J S⊢;have g:Below w.heap.size w (w.alloc (.cells #[.string ⟨l.toArray⟩,.string ⟨x.toArray⟩,.slice i av.length ac,.slice C ks.length B] 29)):=aG;have o:=aB w (.cells #[.string ⟨l.toArray⟩,.string ⟨x.toArray⟩,.slice i av.length ac,.slice C ks.length B] 29);have H:=aU o;have W:=CL;have b:=fun r (O:Below w.heap.size w r)=>CJ (F:=134) (caps:=#[]) (q:=fun a=> !cH a.1) av i ac r (j.below O) I CL (fun a N D f=>J7 a D (J a N).1);have n:∀w,Calls prog 97 #[.string ⟨l.toArray⟩] w fun e w'=>e=.returned (.bool (cH l))/\Below w.heap.size w w':=fun w=>m9 ⟨l.toArray⟩ w (by rw[dV];show l.length<=_;omega);generalize av.any (fun a=> !cH a.1)=q at b d;generalize cH l=K at n d;have s:Hid (L=((!decide (l=[])&& !K)||q)):=ah (by rw[d];cases X:decide (l=[])<;>simp_all);clear d;obtain⟨w0,A⟩:=ar (w.alloc (.cells #[.string ⟨l.toArray⟩,.string ⟨x.toArray⟩,.slice i av.length ac,.slice C ks.length B] 29));rw[<-A]at g o H;have T:=ai 0 o;have M:=ai 2 o;go_enter func133,ntmps133
 by_cases m:l=[]
 ·subst m
  go_wp2_with fail
  rw[<-A];refine(b w0 g).mono ?_;rintro e D ⟨rfl,f⟩;have z:=aO g f;clear b n f g j v
  go_wp2
  go_ret;exact⟨by rw[s.o];first|rfl|simp[u.o],z⟩
 ·have Y:((⟨l.toArray⟩:ByteArray)==(⟨#[]⟩:ByteArray))=false:=by
   cases l with
   |nil=>exact absurd rfl m
   |cons c l=>rfl
  have u:=ah m;clear m;go_wp2_with fail
  rw[<-A];refine(n w0).mono ?_;rintro e r ⟨rfl,G⟩;have y:=aO g G;have V:=(G.cell (p:=⟨w.heap.size,2,none⟩) H).trans M;have E:=ah (b r y);clear b n j v;cases K with
  |false=>
   go_wp2
   go_ret;exact⟨by rw[s.o];first|rfl|simp[u.o],y⟩
  |true=>
   have b:=E.o;go_wp2_with fail
   refine b.mono ?_;rintro e D ⟨rfl,f⟩;have z:=aO y f;clear b E f
   go_wp2
   go_ret;exact⟨by rw[s.o];first|rfl|simp[u.o],z⟩

theorem Mx:(prog.info? 69).map (fun i=>(i.zero,i.size,i.bytes))=some (some (.agg #[.string ⟨#[]⟩,.string ⟨#[]⟩]),2,32):=aA
theorem DV:(prog.info? 29).map (fun i=>(i.zero,i.size,i.bytes))=some (some (.agg #[.string ⟨#[]⟩,.string ⟨#[]⟩,.slice none 0 0,.slice none 0 0]),4,80):=aA
theorem aT{w:World}{b:Nat}{cs:Array Value}{t:TypeId}(a:w.heap[b]?=some (.cells cs t (0,0)))(j:Nat):w.frozen? ⟨b,j,none⟩=false:=by simp[World.frozen?,a]
theorem DW{w w':World}{B size n:Nat}{a:TypeId}{v:Value}{xs:List Value}(c:w.ownsRow B a size v n xs)(d:Below w.heap.size w w'):w'.ownsRow B a size v n xs:=
 dS (row:=none) c (vL d) (by cases a:v.ownBlock with|none=>exact .inl rfl|some g=>exact .inr (fun b=>by cases b))
theorem My(w:World)(o:Obj){p:Addr}{v:Value}(a:w.cell? p=some v)(b:p.block<w.heap.size):(w.alloc o).cell? p=some v:=(((aE w.heap.size w).alloc (az _) o).cell b).trans a
structure mF(S:World->Nat->Prop):Prop where
 lt:∀{W b},S W b->b<W.heap.size
 grow:∀{W W' b},S W b->Below W.heap.size W W'->S W' b
 new:∀{W W' b b0},S W b0->Below W.heap.size W W'->W.heap.size<=b->b<W'.heap.size->S W' b
 put:∀{W b l o o'},S W b->W.heap[l]?=some o->o.isCells=false->o'.isCells=false->S (W.putObj l o') b
structure Kp(S:World->Nat->Prop)(W W':World):Prop where
 size:W.heap.size<=W'.heap.size
 same:∀b,S W b->S W' b/\W'.heap[b]?=W.heap[b]?
theorem Kp.refl(S:World->Nat->Prop)(W:World):Kp S W W:=⟨az _,fun b a=>⟨a,rfl⟩⟩
theorem Kp.trans{S:World->Nat->Prop}{a b c:World}(d:Kp S a b)(k:Kp S b c):Kp S a c:=
 ⟨aJ d.size k.size,fun x e=>⟨(k.same x (d.same x e).1).1,(k.same x (d.same x e).1).2.trans (d.same x e).2⟩⟩
theorem Kp.of{S:World->Nat->Prop}(c:mF S){W W':World}(a:Below W.heap.size W W'):Kp S W W':=
 ⟨a.size,fun b d=>⟨c.grow d a,a.block b (c.lt d)⟩⟩
theorem Kp.cell{S:World->Nat->Prop}{W W':World}(c:Kp S W W'){b a:Nat}(d:S W b):W'.cell? ⟨b,a,none⟩=W.cell? ⟨b,a,none⟩:=
 dD (c.same b d).2
theorem Kp.tree{S:World->Nat->Prop}(f:mF S){W W':World}(a:Kp S W W'){t:Tr}{d:KA}(e:dm W (S W) t d):dm W' (S W') t d:=
 e.kept a.size fun b h g c=>⟨a.cell c,(a.same b c).1⟩
theorem zC{W:World}{l c:Nat}{o:Obj}(a:W.heap[l]?=some o)(b:o.isCells=false):W.cell? ⟨l,c,none⟩=none:=by
 cases o with
 |cells=>cases b
 |_=>simp[World.cell?,a]
theorem lK(W:World)(l:Nat)(o:Obj):(W.putObj l o).heap.size=W.heap.size:=by simp[World.putObj]
theorem EF{W:World}{l b d:Nat}{o o':Obj}(c:W.heap[l]?=some o)(f:o.isCells=false)(g:o'.isCells=false):(W.putObj l o').cell? ⟨b,d,none⟩=W.cell? ⟨b,d,none⟩:=by
 by_cases a:b=l
 ·subst a
  rw[zC c f,zC (uD (iq.1 c).1) g]
 ·exact dD (dN (fun e=>a e))
theorem wK{S:World->Nat->Prop}(f:mF S){W:World}{l:Nat}{o o':Obj}(a:W.heap[l]?=some o)(c:o.isCells=false)(d:o'.isCells=false){t:Tr}{e:KA}(h:dm W (S W) t e):dm (W.putObj l o') (S (W.putObj l o')) t e:=
 h.kept (by rw[lK];exact az _) fun b j i g=>⟨EF a c d,f.put g a c d⟩
theorem Nx{W:World}{l:Nat}{o o':Obj}(e:W.heap[l]?=some o)(f:o.isCells=false)(g:o'.isCells=false){p:Option Addr}{n c s:Nat}{xs:List Value}(a:dp W p n c s xs):dp (W.putObj l o') p n c s xs:=by refine⟨a.1,a.2.1,a.2.2.1,fun m=> ?_⟩;obtain⟨b,r,d,i,q⟩:=a.2.2.2 m;exact⟨b,r,d,by rw[lK];exact i,fun j u h=>(EF e f g).trans (q j u h)⟩
theorem EG{m m':Nat}{P:Program}{l:Nat}{args:Array Value}{W:World}{a:Ending->World->Prop}(b:YieldAt Fence.wide m P l args W a):YieldAt Fence.wide m' P l args W a:=by obtain⟨fn,tmps,assign,body,e,hF,d⟩:=b;exact⟨fn,tmps,assign,body,e,hF,fun c cs _=>d c cs (room_wide _)⟩
def EH(S:World->Nat->Prop)(P:Program)(g:Nat)(h:Array Value)(d:Nat)(f:Nat->World->Array Value->Prop)(w:World):Prop:=
 ∀(l:Nat) (Inv:Nat->World->Prop) (W:World),Below w.heap.size w W->
  (∀k a e,Inv k a->Below a.heap.size a e->Inv k e)->
  (∀k a b o o',Inv k a->W.heap.size<=b->a.heap[b]?=some o->o.isCells=false->o'.isCells=false->Inv k (a.putObj b o'))->
  (∀k a args,k<d->Inv k a->f k a args->YieldAt Fence.wide 0 P l args a (fun c W'=>c=.returned (.bool true)/\Inv (k+1) W'/\Kp S a W'))->
  Inv 0 W->
  Calls P g (#[.func (.yield l) #[] #[]]++h) W (fun c W'=>(∃v,c=.returned v)/\Inv d W'/\Kp S W W')
theorem EI{P:Program}{S:World->Nat->Prop}(d:mF S){g:Operand}{ps:Array Tmp}{assign body:Code}{Q:Exit->Act->World->Prop}{a:Act}{w:World}(a2:Nat)(av:S w a2)(n x:Nat)(H:Array Value)(I:Nat)(J:Nat->World->Array Value->Prop)
 (bi:a.eval g=.func (.func x) #[] H) (a3:∀args w,(callFunc x args).run P w=.ok (.enter x args) w) (bd:EH S P x H I J w) (bw:∀k W args,J k W args->args.size=ps.size)
 (h:Nat->World->Prop)
 (af:∀k c E,h k c->Below c.heap.size c E->h k E)
 (L:∀k c b o o',h k c->w.heap.size<=b->c.heap[b]?=some o->o.isCells=false->o'.isCells=false->h k (c.putObj b o'))
 (a5:h 0 w)
 (bz:∀(l k:Nat) (W:World) (args:Array Value) (busy:Loop) (m:Nat),k<I->h k W->J k W args->w.heap.size<=l->(∃bB,W.heap[l]?=some (.loop bB))->
   assign.wpIn (Fence.wide.inRound l) m P (Exit.then (fun ae W'=>Below W.heap.size W W'/\
    body.wpIn (Fence.wide.inRound l) m P (fun u _ F=>u=.normal/\h (k+1) F/\Kp S (W'.putObj l (.loop busy)) F) ae (W'.putObj l (.loop busy))) (fun _ _ _=>False))
    {tmps:=(ps.zip args).foldl (fun t (p,v)=>t.setIfInBounds p v) a.tmps,defers:=[]} W)
 (bf:∀W,h I W->W.heap[w.heap.size]?=some (.deferred (some []))->S W w.heap.size->Kp S w W->Q .normal {a with defers:={target:=.collected w.heap.size,args:=#[]}::a.defers} W):
 (Code.rangeFunc g ps assign body).wpIn Fence.wide n P Q a w:=by
 refine wpIn_rangeFunc ?_;intro fn bg;obtain⟨s,j⟩:∃s:LoopState->Option Code->Loop,s=fun bE bA=>{state:=bE,pending:=bA,fn:=fn,tmps:=a.tmps,params:=ps,assign:=assign,body:=body,defers:=w.heap.size}:=⟨_,rfl⟩;obtain⟨c,C⟩:∃c,(w.alloc (.deferred (some []))).alloc (.loop (s .ready none))=c:=⟨_,rfl⟩;have z:Below w.heap.size w c:=by rw[<-C];exact aG.alloc ak _
 have b2:c.heap.size=w.heap.size+2:=by rw[<-C];simp
 have a8:c.heap[w.heap.size+1]?=some (.loop (s .ready none)):=by rw[<-C];have:=Bu (w.alloc (.deferred (some []))) (.loop (s .ready none));rwa[bj]at this
 have a7:c.heap[w.heap.size]?=some (.deferred (some [])):=by rw[<-C];exact(bk _ _ _ ak).trans (Bu w _)
 have a6:h 0 c:=af _ _ _ a5 z;refine⟨w.heap.size+1,[{target:=.collected w.heap.size,args:=#[]}],c,{target:=.fn (.func x) H,args:=#[.func (.yield (w.heap.size+1)) #[] #[]]},c,x,
  #[.func (.yield (w.heap.size+1)) #[] #[]]++H,c,?_,?_,?_,?_,(fun a4=>(by cases a4)),?_⟩
 ·rw[<-C,j];exact run_enterLoop_outer _ _ _ _ _
 ·simp only[resolve,bi]
  simp[go_sem]
 ·intro bZ _;trivial
 ·simp[invoke,go_sem,a3]
 ·have ba:S c (w.heap.size+1):=d.new av z ad ad
  have a9:S c w.heap.size:=d.new av z ad ad;refine(j9.2 (bd (w.heap.size+1) (fun k W=>h k W/\(W.heap[w.heap.size+1]?=some (.loop (s .ready none))/\S W (w.heap.size+1))/\W.heap[w.heap.size]?=some (.deferred (some []))/\S W w.heap.size) c z ?_ ?_ ?_ ⟨a6,⟨a8,ba⟩,a7,a9⟩)).mono ?_
  ·rintro k a1 B ⟨A,⟨y,Y⟩,G,Z⟩ e
   exact⟨af _ _ _ A e,⟨(e.block _ (iq.1 y).1).trans y,d.grow Y e⟩,(e.block _ (iq.1 G).1).trans G,d.grow Z e⟩
  ·rintro k a1 b o o' ⟨A,⟨y,Y⟩,G,Z⟩ b0 R T V
   exact⟨L _ _ _ _ _ A ad R T V,⟨(dN ad).trans y,d.put Y R T V⟩,(dN ad).trans G,d.put Z R T V⟩
  ·rintro k W args bo ⟨O,⟨f,a0⟩,M,ab⟩ aq
   have bt:w.heap.size+1<W.heap.size:=(iq.1 f).1;have X:=run_yield (P:=P) (args:=args) f (by rw[j];exact bw k W args aq);rw[j]at X;refine⟨fn,_,assign,body,X,roundIn_of_wpIn bg ?_⟩;clear X;obtain⟨busy,ag⟩:∃busy:Loop,busy={s .ready none with state:=.busy}:=⟨_,rfl⟩;refine wpIn_mono (bz (w.heap.size+1) k W args busy 0 bo O aq ad ⟨_,f⟩) ?_;intro u ae W' al;cases u with
   |normal=>
    obtain⟨q,bc⟩:=al;have D:=(q.block _ bt).trans f;have be:=(q.block _ ad).trans M;have bu:w.heap.size+1<W'.heap.size:=(iq.1 D).1;refine⟨W'.putObj (w.heap.size+1) (.loop busy),by rw[ag];exact run_beginRound D (by rw[j]),wpIn_mono bc ?_⟩;rintro bN bF F ⟨rfl,bl,r⟩;have bq:(W'.putObj (w.heap.size+1) (.loop busy)).heap[w.heap.size+1]?=some (.loop busy):=uD bu;obtain⟨bD,i⟩:=r.same _ (d.put (d.grow a0 q) D rfl rfl);obtain⟨bC,N⟩:=r.same _ (d.put (d.grow ab q) D rfl rfl)
    replace i:=i.trans bq
    replace N:=N.trans ((dN ad).trans be)
    have ao:w.heap.size+1<F.heap.size:=(iq.1 i).1;have an:=run_endRound (P:=P) none (by rw[ag]at i;exact i);rw[j]at an;refine⟨_,_,an,rfl,⟨L _ _ _ _ _ bl ad i rfl rfl,⟨by rw[j];exact uD ao,d.put bD i rfl rfl⟩,(dN ad).trans N,d.put bC i rfl rfl⟩,?_⟩;refine⟨by have A:=q.size;have y:=r.size;rw[lK]at y⊢;omega,fun b e=> ?_⟩;obtain⟨aa,K⟩:=r.same b (d.put (d.grow e q) D rfl rfl);refine⟨d.put aa i rfl rfl,?_⟩;by_cases u:b=w.heap.size+1
    ·subst u
     rw[uD ao,f,j];rfl
    ·rw[dN ad,K,dN ad]
     exact q.block b (d.lt e)
   |_=>exact al.elim
  ·rintro u E ⟨⟨v,rfl⟩,⟨O,⟨f,a0⟩,M,ab⟩,r⟩
   have b1:w.heap.size+1<E.heap.size:=(iq.1 f).1;refine⟨none,_,by have:=run_endLoop (P:=P) f (by rw[j];simp);rw[j]at this;exact this,bf _ (L _ _ _ _ _ O ad f rfl rfl) ((dN ad).trans M) (d.put ab f rfl rfl) ?_⟩;refine⟨by have A:=r.size;rw[lK];omega,fun b e=> ?_⟩;have bb:=d.lt e;obtain⟨aa,K⟩:=r.same b (d.grow e z);exact⟨d.put aa f rfl rfl,by rw[dN ad,K];exact z.block b bb⟩
theorem tg{F:Fence}{n:Nat}{P:Program}{fn:Func}{tmps:Array Value}{f:Ending->World->Prop}(c:World->Prop)(h:∀W,c W->LeavesInM F n P fn tmps f [] .returning W):
 ∀(b:List Nat) (W:World),b.Nodup->(∀a∈b,W.heap[a]?=some (.deferred (some [])))->c W->
  (∀W a,a∈b->W.heap[a]?=some (.deferred (some []))->c W->c (W.putObj a (.deferred none)))->LeavesInM F n P fn tmps f (b.map fun a=>{target:=.collected a,args:=#[]}) .returning W
 |[],W,_,_,e,_=>h W e
 |a::b,W,j,i,e,l=>by rw[gd];have g:=i a (dM ..);refine⟨ak,.inl ⟨a,_,rfl,Bx g,tg c h b _ (nS.1 j).2 (fun E d=> ?_) (l W a (dM ..) g e) (fun W E d=>l W E (dt _ d))⟩⟩;have o:E≠a:=fun m=>(nS.1 j).1 (m▸d);exact(dN o).trans (i E (dt _ d))
end Go.Proofs.YtnadadbndcdolaaGreatDoor
