import Derived.Test.YtbacloblanpghaaGreatDoorQab
import Derived.Test.YtbacloblanpghaaGreatDoorQad
set_option linter.unusedVariables false
set_option linter.unusedSimpArgs false
set_option maxRecDepth 100000
set_option maxHeartbeats 0
namespace Go.Proofs.YtbacloblanpghaaGreatDoor
open Go.RowKit Tryz
namespace U
theorem within_any(c a r:Int)(b:Nat)(w:World)(e:b<w.heap.size)(f:w.cell? ⟨b,0,none⟩=some (.int .i32 r)):
 Calls prog 288 #[.agg #[.int .i32 c,.int .i32 a],.pointer (some ⟨b,0,none⟩)] w fun d w'=>d=.returned (.bool (decide (c<=r)&&decide (r<=a)))/\Below w.heap.size w w':=by
 have g:∀o,(w.alloc o).cell? ⟨b,0,none⟩=some (.int .i32 r):=fun o=>by rw[Fo _ _ _ e];exact f
 go_enter func288,ntmps288
 go_wp2
 all_goals
  go_ret;exact⟨bC (by first|rfl|(simp;omega)),az⟩
def spanNums:List Int:=[9,10,13,13,32,55295,57344,65533,65536,1114111]
def Spans(w:World):Prop:=∀i,i<10->w.cell? ⟨5,i,none⟩=some (.int .i32 (spanNums.getD i 0))
theorem index_span(k:Nat)(a:k<5)(w:World):(Instr.index 388 (.agg #[.int .i32 9,.int .i32 10,.int .i32 13,.int .i32 13,.int .i32 32,.int .i32 55295,.int .i32 57344,.int .i32 65533,.int .i32 65536,.int .i32 1114111]) (.int .i64 k)).run prog w=.ok (.agg #[.int .i32 (oA.getD k 0),.int .i32 (im.getD k 0)]) w:=by rcases(ad:k=0∨k=1∨k=2∨k=3∨k=4)with rfl|rfl|rfl|rfl|rfl<;>kernel_rfl
def noSpan(r:Int)(k:Nat):Prop:=∀j,j<k->jh r j=false
theorem isCh_of{r:Int}{k:Nat}(b:k<5)(a:jh r k=true):eT r=true:=by unfold eT;rcases(ad:k=0∨k=1∨k=2∨k=3∨k=4)with rfl|rfl|rfl|rfl|rfl<;>simp[a]
theorem is_any(r:Int)(w:World)(L:5<w.heap.size)(a:Spans w):Calls prog 259 #[.int .i32 r] w fun c w'=>c=.returned (.bool (eT r))/\Below w.heap.size w w':=by
 have h:=a 0 ad;have l:=a 1 ad;have m:=a 2 ad;have n:=a 3 ad;have o:=a 4 ad;have p:=a 5 ad;have s:=a 6 ad;have t:=a 7 ad;have u:=a 8 ad;have v:=a 9 ad;simp only[spanNums,List.getD_cons_zero,List.getD_cons_succ]at h l m n o p s t u v;clear a;go_enter func259,ntmps259
 go_wp2_with fail
 clear h l m n o p s t u v;go_loopw [8] (fun i wr=>∃k:Nat,k<=5/\i=.int .i64 k/\noSpan r k/\wr.cell? ⟨w.heap.size,0,none⟩=some (.int .i32 r)/\Below w.heap.size w wr/\w.heap.size<wr.heap.size) (fun i _=>5-(intOf i).toNat)
 case atStart=>exact⟨0,ad,rfl,by intro j I;omega,ak,az,ak⟩
 case round=>
  obtain⟨k,M,rfl,C,z,y,E⟩:=hrel;have D:=ah C;clear C;by_cases J:k<5
  ·have A:=index_span k J
   generalize hlo:oA.getD k 0=F at A;generalize hhi:im.getD k 0=B at A;obtain⟨f,e⟩:=aE hlo hhi;clear hlo hhi;go_wp2_with fail
   refine(within_any F B r w.heap.size _ aO (by rw[Fo _ _ _ E];exact z)).mono ?_;rintro c w' ⟨rfl,d⟩;generalize hq:(decide (F<=r)&&decide (r<=B))=q;have g:=ah hq;clear hq;have x:Below w.heap.size w w':=(y.alloc ad _).trans (d.mono aO);have H:w'.cell? ⟨w.heap.size,0,none⟩=some (.int .i32 r):=by rw[d.cell aO,Fo _ _ _ E];exact z
   have K:w.heap.size<w'.heap.size:=by have:=d.size;simp at this;omega
   cases q with
   |true=>
    go_wp2
    go_ret;refine⟨bC ?_,x⟩;have G:jh r k=true:=by unfold jh;rw[f.o,e.o];exact g.o
    exact(isCh_of ad G).symm
   |false=>
    go_wp2
    go_roundw
    case rel=>
     refine⟨k+1,ad,aG,?_,H,x,K⟩;intro j I;by_cases c:j=k
     ·subst c;unfold jh;rw[f.o,e.o];exact g.o
     ·exact D.out j ad
    case measure=>exact aH
  ·go_wp2_with fail
   go_ret;obtain rfl:k=5:=ad;have b:=D.out;refine⟨bC ?_,y⟩;unfold eT;rw[b 0 ad,b 1 ad,b 2 ad,b 3 ad,b 4 ad];rfl
theorem tuple2_eq{n r n' a:Int}(b:n=n')(c:r=a):(Value.tuple #[.int .i64 n,.int .i32 r])=.tuple #[.int .i64 n',.int .i32 a]:=by rw[b,c]
theorem rj(c:Int)(w:World)(_h0:0<=c)(b:c<256):
 Calls prog 257 #[.int .u8 c] w fun a w'=>a=.returned (.tuple #[.int .i64 (dP c),.int .i32 (eU c)])/\w=w':=by
 go_enter func257,ntmps257
 go_wp2
 all_goals
  go_ret2
  refine⟨iK Ending.returned (tuple2_eq ?_ ?_),rfl⟩
  ·unfold dP;repeat(first|rw[au dQ]|rw[ap ad])
  ·unfold eU;repeat(first|rw[au dQ]|rw[ap ad])
theorem size_any(r:Int)(w:World):Calls prog 258 #[.int .i32 r] w fun a w'=>a=.returned (.int .i64 (fh r))/\w=w':=by
 go_enter func258,ntmps258
 go_wp2
 all_goals
  go_ret;refine⟨bT ?_,rfl⟩;unfold fh;repeat(first|rw[au dQ]|rw[ap ad])
def BytesAt(w:World)(b a:Nat)(l:Bytes):Prop:=∀i,i<l.length->w.cell? ⟨b,a+i,none⟩=some (.int .u8 ((l.getD i 0).toNat:Nat))
def decV:Option (Int×Nat)->Value
 |none=>.tuple #[.int .i32 0,.int .i64 0,.int .i64 10]
 |some (r,k)=>.tuple #[.int .i32 r,.int .i64 k,.int .i64 0]
theorem drop_cons{l:Bytes}{i:Nat}(a:i<l.length):l.drop i=l.getD i 0::l.drop (i+1):=by rw[mZ a];simp[a]
def DecB(k:Nat)(r:Int):Prop:=(k=0/\r<32)∨(k=1/\r<2048)∨(k=2/\r<131072)∨(k=3/\r<8388608)
theorem DecB.le{k:Nat}{r:Int}(a:DecB k r):r<8388608:=by unfold DecB at a;omega
theorem DecB.le2{k:Nat}{r:Int}(a:DecB k r)(b:k<3):r<131072:=by unfold DecB at a;omega
theorem decode_bad(b g at_ cap:Nat)(l:Bytes)(w:World)(o:l.length<=cap)(p:cap<=9223372036854775807)(i:BytesAt w b g l)(h:at_<l.length)
 (d:dP (l.getD at_ 0).toNat=0∨(l.length:Int)-at_<dP (l.getD at_ 0).toNat):
 Calls prog 222 #[.slice (some ⟨b,g,none⟩) l.length cap,.int .i64 at_] w fun a w'=>a=.returned (decV none)/\w=w':=by
 have j:=i at_ h;have e:((l.getD at_ 0).toNat:Int)<256:=by have:=(l.getD at_ 0).toNat_lt;omega
 generalize hcv:(l.getD at_ 0).toNat=c at j e d;have m:=qX (c:Int);rcases d with f|f
 all_goals
  go_enter func222,ntmps222
  go_wp2_with fail
  refine(rj (c:Int) _ ad e).mono ?_;rintro a w' ⟨rfl,rfl⟩;generalize dP (c:Int)=n at f m;go_wp2_with fail
  all_goals
   go_ret3
   exact⟨rfl,rfl⟩
theorem decode_more(b v at_ cap:Nat)(l:Bytes)(w:World)(ao:l.length<=cap)(a1:cap<=9223372036854775807)(L:BytesAt w b v l)(K:at_<l.length)
 (I:2<=dP (l.getD at_ 0).toNat) (R:dP (l.getD at_ 0).toNat<=(l.length:Int)-at_) (H:5<w.heap.size) (S:Spans w):
 Calls prog 222 #[.slice (some ⟨b,v,none⟩) l.length cap,.int .i64 at_] w fun f w'=>f=.returned (decV (cH (l.drop at_)))/\Below w.heap.size w w':=by
 have Z:=L at_ K;have A:((l.getD at_ 0).toNat:Int)<256:=by have:=(l.getD at_ 0).toNat_lt;omega
 have Q:=qX ((l.getD at_ 0).toNat:Int);have q:=Ai ((l.getD at_ 0).toNat:Int) ad A;have J:cH (l.drop at_)=cH (l.getD at_ 0::l.drop (at_+1)):=by rw[drop_cons K]
 have B:=ah J;clear J;generalize hcv:(l.getD at_ 0).toNat=c at Z A I R Q q;have F:=ah hcv;clear hcv;go_enter func222,ntmps222
 go_wp2_with fail
 refine(rj (c:Int) _ ad A).mono ?_;rintro f w' ⟨rfl,rfl⟩;generalize hbn:dP (c:Int)=n at I R Q q;generalize hbr0:eU (c:Int)=T at q;obtain⟨C,D⟩:=aE hbn hbr0;clear hbn hbr0;have ag:(n==0)=false:=dX;have al:decide ((l.length:Int)-at_<n)=false:=aJ;go_wp2_with fail
 obtain⟨m,P⟩:∃m:Nat,((at_:Int)+n).toNat-(at_+1)=m:=⟨_,rfl⟩;have a2:(m:Int)+1<=n:=ad;have a3:n<=(m:Int)+1:=ad;rw[P];clear P;go_loop [8,45] (fun r i=>∃(k:Nat) (a:Int),k<=m/\i=.int .i64 k/\r=.int .i32 a/\eV T ((l.drop (at_+1)).take k)=some a/\0<=a/\DecB k a) (fun _ i=>m-(intOf i).toNat)
 case atStart=>exact⟨0,T,aK _,rfl,rfl,by simp[eV],q.1,.inl ⟨rfl,q.2.2 ad⟩⟩
 case round=>
  obtain⟨k,a,av,rfl,rfl,N,a4,z⟩:=hrel;have E:=ah N;clear N;have aq:=z.le;have G:=ah z;clear z;by_cases a0:k<m
  ·have aa:w.cell? ⟨b,v+(at_+1)+k,none⟩=some (.int .u8 ((l.getD (at_+1+k) 0).toNat:Nat)):=by
    rw[fI v];exact L (at_+1+k) ad
   have ab:((l.getD (at_+1+k) 0).toNat:Int)<256:=by have:=(l.getD (at_+1+k) 0).toNat_lt;omega
   generalize hcv2:(l.getD (at_+1+k) 0)=e at aa ab;have W:=ah hcv2;clear hcv2;have u:(l.drop (at_+1)).take (k+1)=(l.drop (at_+1)).take k++[e]:=by
    rw[QM aO];congr 2
    rw[<-W.o];simp;rw[aF ad];rfl
   by_cases o:jG e=true
   ·have t:=(jk e).1 o
    have a5:=t.2;have t:=t.1;have an:=G.o.le2 ad;obtain⟨X,Y⟩:=aE o u;clear o u
    go_wp2
    go_round
    case rel=>
     refine⟨k+1,a*64+((e.toNat:Int)-128),ad,aG,rfl,?_,ad,?_⟩
     ·rw[Y.o,F3 E.o,au X.o]
     ·have:=G.o
      unfold DecB at this⊢;omega
    case measure=>exact aH
   ·have t:¬((128:Int)<=e.toNat/\(e.toNat:Int)<=191):=fun p=>o ((jk e).2 p)
    have d:cH (l.drop at_)=none:=by rw[B.o];simp only[cH];rw[F.o,C.o,D.o];rw[ap aO];have f:(n.toNat-1)=(k+1)+(m-(k+1)):=ad;rw[f,zo,u,qG,List.singleton_append,F4 (by simpa using o)]
    have h:=ah d;clear d u o;rcases(ad:(e.toNat:Int)<128∨(191:Int)<e.toNat)with ae|ae
    all_goals
     clear t
     go_wp2
     go_ret3
     rw[h.o];exact⟨rfl,aA _ _⟩
  ·obtain rfl:k=m:=ad
   have O:(l.drop (at_+1)).take (n.toNat-1)=(l.drop (at_+1)).take k:=by rw[show n.toNat-1=k by omega]
   have d:cH (l.drop at_)=if fh a=n/\eT a=true then some (a,n.toNat)else none:=by rw[B.o];simp only[cH];rw[F.o,C.o,D.o];rw[ap aO,O,E.o]
   clear O;by_cases g:fh a=n
   ·by_cases j:eT a=true
    ·rw[au ⟨g,j⟩]at d
     obtain⟨h,x⟩:=aE d j;have s:(fh a !=n)=false:=by simp[g]
     have af:=ah g;clear d j g;go_wp2_with fail
     refine(size_any a _).mono ?_;rintro f w' ⟨rfl,rfl⟩;generalize fh a=V at s;go_wp2_with fail
     refine(is_any a _ H S).mono ?_;rintro f w' ⟨rfl,y⟩;rw[x.o]
     go_wp2
     go_ret3
     rw[h.o];exact⟨iK Ending.returned (by simp only[decV];rw[show n=((n.toNat:Nat):Int) by omega];rfl),y⟩
    ·rw[ap (fun p=>j p.2)]at d
     have h:=ah d;have M:eT a=false:=by simpa using j
     have x:=ah M;have s:(fh a !=n)=false:=by simp[g]
     clear d j g M;go_wp2_with fail
     refine(size_any a _).mono ?_;rintro f w' ⟨rfl,rfl⟩;generalize fh a=V at s;go_wp2_with fail
     refine(is_any a _ H S).mono ?_;rintro f w' ⟨rfl,y⟩;rw[x.o]
     go_wp2
     go_ret3
     rw[h.o];exact⟨rfl,y⟩
   ·rw[ap (fun p=>g p.1)]at d
    have h:=ah d;have s:(fh a !=n)=true:=by simp[g]
    clear d g;go_wp2_with fail
    refine(size_any a _).mono ?_;rintro f w' ⟨rfl,rfl⟩;generalize fh a=V at s
    go_wp2
    go_ret3
    rw[h.o];exact⟨rfl,aA _ _⟩
theorem decode_one(b t at_ cap:Nat)(l:Bytes)(w:World)(D:l.length<=cap)(E:cap<=9223372036854775807)(z:BytesAt w b t l)(o:at_<l.length)
 (g:dP (l.getD at_ 0).toNat=1) (y:5<w.heap.size) (B:Spans w):
 Calls prog 222 #[.slice (some ⟨b,t,none⟩) l.length cap,.int .i64 at_] w fun f w'=>f=.returned (decV (cH (l.drop at_)))/\Below w.heap.size w w':=by
 have A:=z at_ o;have i:((l.getD at_ 0).toNat:Int)<256:=by have:=(l.getD at_ 0).toNat_lt;omega
 have q:=Ai ((l.getD at_ 0).toNat:Int) ad i;have n:cH (l.drop at_)=cH (l.getD at_ 0::l.drop (at_+1)):=by rw[drop_cons o]
 generalize hcv:(l.getD at_ 0).toNat=c at A i g q;generalize hbr0:eU (c:Int)=d at q;have j:fh d=1:=by unfold fh;rw[au ad]
 have s:cH (l.drop at_)=if eT d=true then some (d,1)else none:=by rw[n];simp only[cH];rw[hcv,g,hbr0,ap ad];simp[eV,j]
 obtain⟨v,u,x,m⟩:=cI g hbr0 j s;clear g hbr0 hcv n j s;go_enter func222,ntmps222
 go_wp2_with fail
 refine(rj (c:Int) _ ad i).mono ?_;rintro f w' ⟨rfl,rfl⟩;rw[v.o,u.o];have C:decide ((l.length:Int)-at_<1)=false:=aJ;go_wp2_with fail
 all_goals
  refine wp_loop_rounds 1 ?_;rw[rounds_succ];go_wp2_with fail
  refine(size_any d _).mono ?_;rintro f w' ⟨rfl,rfl⟩;rw[x.o];go_wp2_with fail
  refine(is_any d _ y B).mono ?_;rintro f w' ⟨rfl,p⟩;by_cases e:eT d=true
  ·have a:=m.o
   rw[au e]at a;have h:=ah a;rw[e];clear a e
   go_wp2
   go_ret3
   rw[h.o];exact⟨rfl,p⟩
  ·have a:=m.o
   rw[ap e]at a;have h:=ah a;have r:eT d=false:=by simpa using e
   rw[r];clear a e r
   go_wp2
   go_ret3
   rw[h.o];exact⟨rfl,p⟩
theorem decode_any(b a at_ cap:Nat)(l:Bytes)(w:World)(e:l.length<=cap)(f:cap<=9223372036854775807)(d:BytesAt w b a l)(c:at_<l.length)
 (h:5<w.heap.size) (i:Spans w):
 Calls prog 222 #[.slice (some ⟨b,a,none⟩) l.length cap,.int .i64 at_] w fun g w'=>g=.returned (decV (cH (l.drop at_)))/\Below w.heap.size w w':=by
 have n:=qX ((l.getD at_ 0).toNat:Int);by_cases m:dP (l.getD at_ 0).toNat=0∨(l.length:Int)-at_<dP (l.getD at_ 0).toNat
 ·refine(decode_bad b a at_ cap l w e f d c m).mono ?_
  rintro g w' ⟨rfl,rfl⟩;refine⟨?_,aA _ _⟩;rw[drop_cons c];simp only[cH];rw[au (by rw[gI];omega)]
 ·by_cases j:dP (l.getD at_ 0).toNat=1
  ·exact decode_one b a at_ cap l w e f d c j h i
  ·exact decode_more b a at_ cap l w e f d c ad ad h i
theorem Spans.below{B:Nat}{w w':World}(a:Spans w)(b:5<B)(c:Below B w w'):Spans w':=fun i d=>by rw[c.cell (p:=⟨5,i,none⟩) b];exact a i d
theorem BytesAt.below{B:Nat}{w w':World}{b a:Nat}{l:Bytes}(c:BytesAt w b a l)(d:b<B)(e:Below B w w'):BytesAt w' b a l:=fun i f=>by rw[e.cell (p:=⟨b,a+i,none⟩) d];exact c i f
def chkE(l:Bytes):Int:=if dZ l<l.length then 10 else 0
theorem tuple_ii{n r n' a:Int}(b:n=n')(c:r=a):(Value.tuple #[.int .i64 n,.int .i64 r])=.tuple #[.int .i64 n',.int .i64 a]:=by rw[b,c]
theorem decV_some(r:Int)(n:Nat):decV (some (r,n))=.tuple #[.int .i32 r,.int .i64 n,.int .i64 0]:=rfl
theorem decV_none:decV none=.tuple #[.int .i32 0,.int .i64 0,.int .i64 10]:=rfl
theorem check_any(b h cap:Nat)(l:Bytes)(w:World)(u:l.length<=cap)(y:cap<=9223372036854775807)(t:BytesAt w b h l)(q:b<w.heap.size)
 (p:5<w.heap.size) (A:Spans w):
 Calls prog 166 #[.slice (some ⟨b,h,none⟩) l.length cap] w fun j w'=>j=.returned (.tuple #[.int .i64 (dZ l:Nat),.int .i64 (chkE l)])/\Below w.heap.size w w':=by
 go_enter func166,ntmps166
 go_wp2_with fail
 go_step3
 go_wp2_with fail
 go_step3
 go_wp2
 go_loopw [4] (fun i wr=>∃k:Nat,i=.int .i64 k/\k<=l.length/\Hid (k+dZ (l.drop k)=dZ l)/\Below w.heap.size w wr) (fun i _=>l.length-(intOf i).toNat)
 case atStart=>exact⟨0,rfl,aK _,by show 0+dZ (l.drop 0)=dZ l;simp,aA _ _⟩
 case round=>
  obtain⟨k,rfl,B,e,d⟩:=hrel;by_cases v:k<l.length
  ·go_wp2_with fail
   refine(decode_any b h k cap l _ u y (t.below q d) v (by have:=d.size;omega) (A.below p d)).mono ?_;rintro j w' ⟨rfl,s⟩;have m:=d.trans (s.mono d.size);have a:=e.o;cases c:cH (l.drop k)with
   |none=>
    rw[vN c]at a;rw[decV_none];obtain⟨o,f⟩:=aE c a;clear c a e;go_wp2_with fail
    rw[l8];go_ret2
    have:=f.o;refine⟨iK Ending.returned (tuple_ii ad ?_),m⟩;unfold chkE;rw[au ad]
   |some x=>
    obtain⟨r,n⟩:=x;rw[decV_some];rw[vO c]at a;have g:=m9 c;have z:=g.2.2;rw[gI]at z;rw[sL]at a;obtain⟨o,f⟩:=aE c a;clear c a e;have C:=g.1;clear g
    go_wp2
    go_roundw
    case rel=>exact⟨k+n,aG,ad,by have:=f.o;show k+n+dZ (l.drop (k+n))=dZ l;omega,m⟩
    case measure=>exact aH
  ·go_wp2_with fail
   rw[l8];go_ret2
   have:=e.o;rw[qJ ad,vP]at this;refine⟨iK Ending.returned (tuple_ii ad ?_),d⟩;unfold chkE;rw[ap ad]
end U
end Go.Proofs.YtbacloblanpghaaGreatDoor
