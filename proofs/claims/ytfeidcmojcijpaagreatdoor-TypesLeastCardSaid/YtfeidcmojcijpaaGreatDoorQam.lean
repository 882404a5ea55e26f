import Derived.Test.YtfeidcmojcijpaaGreatDoorQaj
import Derived.Test.YtfeidcmojcijpaaGreatDoorQal
set_option linter.all false
set_option maxRecDepth 100000
set_option maxHeartbeats 0
namespace Go.Proofs.YtfeidcmojcijpaaGreatDoor
open Go.RowKit Tryz
def MP:∀args a,(callFunc 261 args).run prog a=.ok (.enter 261 args) a:=fun _ _=>rfl
def MQ:∀args a,(callFunc 238 args).run prog a=.ok (.enter 238 args) a:=fun _ _=>rfl
def fC.tuple{r:iB}{b:Nat}{g:ByteArray}{w w':World}{e:Ending}(d:fC r b g w e w'):∃o n c ok,e=.returned (.tuple #[.slice o n c,.bool ok])/\fC r b g w (.returned (.tuple #[.slice o n c,.bool ok])) w':=by
 cases r with
 |none=>
  have f:=d;obtain⟨⟨⟨o,n,c,a⟩,_⟩,_⟩:=f;exact⟨o,n,c,false,a,a▸d⟩
 |some z=>
  have f:=d;obtain⟨⟨⟨v,a,h⟩,_⟩,_⟩:=f;obtain⟨o,c,rfl⟩:=dR h;exact⟨o,_,c,true,a,a▸d⟩
def MR{b n doc E}(j:doc.size<=65536)(g:nS 261 b doc (mY doc.data.toList E) n)(f:lA doc.data.toList E):nS 238 b doc (pI doc.data.toList E) n:=by
 intro st w i a l;have d:=E3 j 44 44 rfl 3 1 g (EI f) MP st w i a l;have h:pI doc.data.toList E st=jg doc.data.toList 44 3 1 (mY doc.data.toList E) (doc.data.toList+1) [] st:=rfl;rw[h];clear h g f;generalize jg doc.data.toList 44 3 1 (mY doc.data.toList E) (doc.data.toList+1) [] st=p at d
 go_in
 go_wp2_with fail
 apply d.zz;intro e w1 a;obtain⟨o,n,c,ok,rfl,m⟩:=a.tuple;clear d a
 go_wp2
 go_ret2
 exact m
def MS{b n doc E}(i:doc.size<=65536)(g:nS 238 b doc (pI doc.data.toList E) n)(f:lA doc.data.toList E):
 nS 190 b doc (fun st=>jg doc.data.toList 124 4 0 (pI doc.data.toList E) (doc.data.toList+1) [] st) n:=by
 intro st w h a j;show Calls _ _ _ _ (fC (jg doc.data.toList 124 4 0 (pI doc.data.toList E) (doc.data.toList+1) [] st) b doc w)
 have d:=E3 i 124 124 rfl 4 0 g (EK f) MQ st w h a j;clear g f;generalize jg doc.data.toList 124 4 0 (pI doc.data.toList E) (doc.data.toList+1) [] st=m at d
 go_in
 go_wp2_with fail
 apply d.zz;intro e w1 a;obtain⟨o,n,c,ok,rfl,l⟩:=a.tuple;clear d a
 go_wp2
 go_ret2
 exact l
def MT{b doc}(a:doc.size<=65536):∀n,nS 190 b doc (pJ doc.data.toList n) n:=by
 intro n;induction n with
 |zero=>intro st w g i h;omega
 |succ n ih=>
  have c:=EL doc.data.toList n;have d:=MM a ih c;have e:=MN a d c;have f:=MR a e c;exact MS a f c
def nT(r:List ax×Int)(w:World)(e:Ending)(w':World):Prop:=
 ∃o c,e=.returned (.tuple #[.agg #[.slice o r.1 c],.int .i64 r.2])/\dg w' w (.slice o r.1 c) r.1/\aR w w'
def nT.of{r:List ax×Int}{l:List ax}{n:Int}{o:Option Addr}{c:Nat}{w w':World}{e:Ending}(a:r=(l,n))(d:e=.returned (.tuple #[.agg #[.slice o l.length c],.int .i64 n]))(f:dg w' w.heap.size (.slice o l.length c) l)(b:Below w.heap.size w w'):nT r w e w':=by subst a;exact⟨o,c,d,f,b⟩
def MU doc w(a:doc.size<=1152921504606846976):
 dB 107 #[.string doc] w (nT (pK doc.data.toList) w):=by
 obtain⟨d,a⟩:=am (pK doc.data.toList);rw[<-a];unfold pK at a;by_cases d:65536<doc.size;rw[au (by rw[<-eJ];exact d)]at a;have s:=ah a;have f:decide ((doc.size:Int)>65536)=true:=bT;clear a
 go_in
 go_wp2_with fail
 exact cQ (by simp[results,go_sem]) rfl (nT.of s.o rfl (cW _ _ _ _) aP);rw[ap (by rw[<-eJ];exact d)]at a;have f:decide ((doc.size:Int)>65536)=false:=bU;have J:doc.size<=65536:=ad;have⟨F,q⟩:=am ((w.alloc (.cells #[.slice none 0 0] 52)).alloc (.cells #[.string doc,.int .i64 0,false,false] 278));have u:aR w F:=by rw[q];exact sO _ _ _
 have I:cC F (w.heap.size+1) doc 0 false false:=by rw[q];have:=aN (cT w #[.slice none 0 0] 52) (.cells #[.string doc,.int .i64 0,false,false] 278);rwa[bP]at this
 have t:F.heap[w.heap.size]?=some (.cells #[.slice none 0 0] 52 (0,0)):=by rw[q];exact(((aA (w+1) _).alloc aj _).J _ ad).Z (aN w _)
 have m:=MT (b:=w.heap.size+1) J (doc.size+1) ⟨0,false,false⟩ F I (aH _) (by show doc.size-0<_;omega);have D:=EL doc.data.toList (doc.size+1) ⟨0,false,false⟩;have K:=(eJ doc).zy;rw[K]at a D;unfold fC at m;have N:=aS t;rw[q]at m;cases d:pJ doc.data.toList (doc.size+1) ⟨0,false,false⟩with
 |none=>
  rw[d]at a m;simp only at a m;have⟨s,X⟩:=aC a (And.intro u (And.intro t q));clear a d D u t I q N K
  go_in
  go_wp2_with fail
  apply m.zz;rintro e B ⟨⟨⟨o,k,c,rfl⟩,C,T,M,G,p⟩,g⟩;clear m;have i:=sN _ C doc T M B p G J;go_wp2_with fail
  apply i.zz;rintro e j ⟨⟨v,rfl⟩,l,h⟩;clear i;rw[<-X.out.2.2]at g;have f:=g.Z h;have n:=(f.J _ (aS X.out.2.1) ad).Z X.out.2.1;have y:=bj j _ 0 _ _ _ n;have P:j.frozen? ⟨w.heap.size,0,none⟩=false:=by simp[World.frozen?,n]
  have r:=X.out.1.Z (f.O ad X.out.1.size);clear X g h f n p;go_wp2_with fail
  refine cQ (by simp[results,go_sem,y]) rfl (nT.of s.o rfl (cW _ _ _ _) ?_);first|exact r|exact r.setCell (ay _) _
 |some z=>
  obtain⟨x,C,T,M⟩:=z;have R:=D x _ (aH _) d;rw[d]at a m;simp only at a m R;have G:=R.2.1;have E:=Az doc C G;have⟨Q,A⟩:=am (lx doc.data.toList C);rw[<-A]at a E;clear d D R;by_cases S:Q<doc.size;rw[au S]at a;have Z:=bC S;have⟨s,X⟩:=aC a (And.intro u (And.intro t q));clear a u t I q N K
  go_in
  go_wp2_with fail
  apply m.zz;rintro e B ⟨⟨⟨v,rfl,d⟩,p⟩,g⟩;clear m;obtain⟨E,D,rfl⟩:=dR d;have i:=sN _ C doc T M B p G J;rw[<-A]at i;go_wp2_with fail
  apply i.zz;rintro e j ⟨⟨v,rfl⟩,l,h⟩;clear i;rw[<-X.out.2.2]at g d;have f:=g.Z h;have n:=(f.J _ (aS X.out.2.1) ad).Z X.out.2.1;have y:=bj j _ 0 _ _ _ n;have P:j.frozen? ⟨w.heap.size,0,none⟩=false:=by simp[World.frozen?,n]
  have V:=l.cPos;have W:=l.cLo;have Y:=l.cBi;have r:=X.out.1.Z (f.O ad X.out.1.size);have O:dg j (w.heap.size+2) (.slice E x.length D) x:=by
   have H:F=w.heap.size+2:=by rw[X.out.2.2];simp
   have:=cm d h.grownBy (.inr (fun e=>by have:=(aY d _ e).1;omega));rwa[H]at this
  clear X g h f p d A;go_wp2_with fail
  refine cQ (by simp[results,go_sem,y]) rfl (nT.of s.o rfl (cW _ _ _ _) ?_);first|exact r|exact r.setCell (ay _) _
  rw[ap S]at a;have Z:=bG S;cases T with
  |true=>
   rw[au rfl]at a;have⟨s,X⟩:=aC a (And.intro u (And.intro t q));clear a u t I q N K
   go_in
   go_wp2_with fail
   apply m.zz;rintro e B ⟨⟨⟨v,rfl,d⟩,p⟩,g⟩;clear m;obtain⟨E,D,rfl⟩:=dR d;have i:=sN _ C doc true M B p G J;rw[<-A]at i;go_wp2_with fail
   apply i.zz;rintro e j ⟨⟨v,rfl⟩,l,h⟩;clear i;rw[<-X.out.2.2]at g d;have f:=g.Z h;have n:=(f.J _ (aS X.out.2.1) ad).Z X.out.2.1;have y:=bj j _ 0 _ _ _ n;have P:j.frozen? ⟨w.heap.size,0,none⟩=false:=by simp[World.frozen?,n]
   have V:=l.cPos;have W:=l.cLo;have Y:=l.cBi;have r:=X.out.1.Z (f.O ad X.out.1.size);have O:dg j (w.heap.size+2) (.slice E x.length D) x:=by
    have H:F=w.heap.size+2:=by rw[X.out.2.2];simp
    have:=cm d h.grownBy (.inr (fun e=>by have:=(aY d _ e).1;omega));rwa[H]at this
   clear X g h f p d A;go_wp2_with fail
   refine cQ (by simp[results,go_sem,y]) rfl (nT.of s.o rfl (cW _ _ _ _) ?_);first|exact r|exact r.setCell (ay _) _
  |false=>
   rw[ap aj]at a;cases M with
   |true=>
    rw[au rfl]at a;have⟨s,X⟩:=aC a (And.intro u (And.intro t q));clear a u t I q N K
    go_in
    go_wp2_with fail
    apply m.zz;rintro e B ⟨⟨⟨v,rfl,d⟩,p⟩,g⟩;clear m;obtain⟨E,D,rfl⟩:=dR d;have i:=sN _ C doc false true B p G J;rw[<-A]at i;go_wp2_with fail
    apply i.zz;rintro e j ⟨⟨v,rfl⟩,l,h⟩;clear i;rw[<-X.out.2.2]at g d;have f:=g.Z h;have n:=(f.J _ (aS X.out.2.1) ad).Z X.out.2.1;have y:=bj j _ 0 _ _ _ n;have P:j.frozen? ⟨w.heap.size,0,none⟩=false:=by simp[World.frozen?,n]
    have V:=l.cPos;have W:=l.cLo;have Y:=l.cBi;have r:=X.out.1.Z (f.O ad X.out.1.size);have O:dg j (w.heap.size+2) (.slice E x.length D) x:=by
     have H:F=w.heap.size+2:=by rw[X.out.2.2];simp
     have:=cm d h.grownBy (.inr (fun e=>by have:=(aY d _ e).1;omega));rwa[H]at this
    clear X g h f p d A;go_wp2_with fail
    refine cQ (by simp[results,go_sem,y]) rfl (nT.of s.o rfl (cW _ _ _ _) ?_);first|exact r|exact r.setCell (ay _) _
   |false=>
    rw[ap aj]at a;have⟨s,X⟩:=aC a (And.intro u (And.intro t q));clear a u t I q N K
    go_in
    go_wp2_with fail
    apply m.zz;rintro e B ⟨⟨⟨v,rfl,d⟩,p⟩,g⟩;clear m;obtain⟨E,D,rfl⟩:=dR d;have i:=sN _ C doc false false B p G J;rw[<-A]at i;go_wp2_with fail
    apply i.zz;rintro e j ⟨⟨v,rfl⟩,l,h⟩;clear i;rw[<-X.out.2.2]at g d;have f:=g.Z h;have n:=(f.J _ (aS X.out.2.1) ad).Z X.out.2.1;have y:=bj j _ 0 _ _ _ n;have P:j.frozen? ⟨w.heap.size,0,none⟩=false:=by simp[World.frozen?,n]
    have V:=l.cPos;have W:=l.cLo;have Y:=l.cBi;have r:=X.out.1.Z (f.O ad X.out.1.size);have O:dg j (w.heap.size+2) (.slice E x.length D) x:=by
     have H:F=w.heap.size+2:=by rw[X.out.2.2];simp
     have:=cm d h.grownBy (.inr (fun e=>by have:=(aY d _ e).1;omega));rwa[H]at this
    clear X g h f p d A;go_wp2_with fail
    refine cQ (v:=.tuple #[.agg #[.slice E x D],.int .i64 0]) (by simp[results,go_sem,y]) rfl (nT.of s.o rfl ?_ (r.setCell (ay _) _));exact lB (cm (row:=w) O ⟨rfl,rfl,rfl,by simp,fun k R a=>gq _ _ _ _ (fun e=>a (by rw[e]))⟩ (.inr (fun e=>by have:=(aY O _ e).1;omega))) ad
def sQ:Bytes:=[9,10,13,32]
def uM:Bytes:=[9,10,13,32,123]
def E5 c:sQ.contains c=gu c:=by unfold gu ll sQ;rw[ft];simp[<-wM];omega
def MV c:uM.contains c= !jR c:=by unfold jR gu ll uM;rw[Bool.not_not,ft];simp[<-wM];omega
def MX(l:Bytes):Lib.trimLeftS l sQ=bh l:=by unfold Lib.trimLeftS bh;rw[funext E5]
def MY(l:Bytes):Lib.trimRightS l sQ=ly l:=by unfold Lib.trimRightS ly;rw[funext E5]
def Fa:∀l:Bytes,Lib.indexAny l uM=if(l.takeWhile jR)=l.length then-1 else((l.takeWhile jR):Int)
 |[]=>rfl
 |c::l=>by
  have ih:=Fa l;have d:=Lib.indexAny_ge uM l;rw[Lib.indexAny,MV];cases b:jR c with
  |false=>
   rw[wL (by simp[b])];simp
  |true=>
   rw[wK (by omega),ih];simp only[Bool.not_true,iW,iy,ef];by_cases a:(l.takeWhile jR)=l.length;simp[a];rw[ap a];have:¬(((l.takeWhile jR):Int)== -1)=true:=aj;rw[ap this,ap ad];omega
def MZ p(l:Bytes):l.take (l.takeWhile p)=l.takeWhile p:=by
 induction l with
 |nil=>rfl
 |cons c t ih=>
  by_cases a:p c=true;rw[wK a];simp[ih];rw[wL a];rfl
def M0 p(l:Bytes):l.drop (l.takeWhile p)=l.dropWhile p:=by
 induction l with
 |nil=>rfl
 |cons c t ih=>
  by_cases a:p c=true;rw[wK a,List.dropWhile_cons_of_pos a];simp[ih];rw[wL a,List.dropWhile_cons_of_neg a];rfl
def fD(l:Bytes):Prop:=∀c∈l,c.toNat<128
def fD.next{l:Bytes}(a:fD l):fD (bh l):=fun c b=>a c ((wN _).subset b)
def fD.rest{l:Bytes}(a:fD l):fD (ce l):=fun c b=>a.next c ((wN _).subset b)
def lD l:(bh l)<=l.length:=(wN _).length_le
def kQ l:(ce l)<=l.length:=aW (wN _).length_le (lD l)
def qZ l:(db l)<=l.length:=aW (zJ _).length_le (lD l)
def jS(l:Bytes):(⟨l⟩:ByteArray).size=l:=by rfl
def Fc(l:Bytes) n(a:n<=l.length) w:(Instr.slice 9 l none (some (.int .i64 n)) none).run prog w=.ok (.string ⟨(l.take n)⟩) w:=by
 have b:n<=(⟨l⟩:ByteArray).size:=by rw[jS];exact a
 rw[run_slice_string_to_if w _ _ _ n iI,au ad];congr 2
 apply zK;apply lW;show((⟨_⟩:ByteArray).extract 0 n).data.toList=_
 rw[Dc];simp
def AL(l:Bytes) n(a:n<=l.length) w:(Instr.slice 9 l (some (.int .i64 n)) none none).run prog w=.ok (.string ⟨(l.drop n)⟩) w:=by
 have b:n<=(⟨l⟩:ByteArray).size:=by rw[jS];exact a
 rw[K9 _ n b w];congr 2
 apply zK;apply lW;rw[Lib.extract_to_end]
structure q6 where
 rest:Bytes
 name:Bytes
 zv:Bytes
 av:Value
 key:Bytes
 text:Bool
 nv:Value
def xO(x:q6):Array Value:=#[x.rest,x.name,x.zv,x.av,x.key,x.text,x.nv]
def bS(w:World)(b:Nat)(x:q6):Prop:=w.heap[b]?=some (.cells (xO x) 143 (0,0))
section
variable{w w':World} {b:Nat} {x:q6}
def bS.lt(a:bS w b x):b<w.heap.size:=aS a
def bS.c0(a:bS w b x):w.cell? ⟨b,0,none⟩=some (.string ⟨x.rest.toArray⟩):=bj w b 0 _ _ _ a
def bS.c1(a:bS w b x):w.cell? ⟨b,1,none⟩=some (.string ⟨x.name.toArray⟩):=bj w b 1 _ _ _ a
def bS.c2(a:bS w b x):w.cell? ⟨b,2,none⟩=some (.string ⟨x.zv.toArray⟩):=bj w b 2 _ _ _ a
def bS.c3(a:bS w b x):w.cell? ⟨b,3,none⟩=some x.av:=bj w b 3 _ _ _ a
def bS.c4(a:bS w b x):w.cell? ⟨b,4,none⟩=some (.string ⟨x.key.toArray⟩):=bj w b 4 _ _ _ a
def bS.c5(a:bS w b x):w.cell? ⟨b,5,none⟩=some (.bool x.text):=bj w b 5 _ _ _ a
def bS.c6(a:bS w b x):w.cell? ⟨b,6,none⟩=some x.nv:=bj w b 6 _ _ _ a
def bS.free(a:bS w b x)(o:Nat):w.frozen? ⟨b,o,none⟩=false:=by unfold bS at a;simp[World.frozen?,a]
def bS.O(a:bS w b x)(c:Below w.heap.size w w'):bS w' b x:=(c.J b a.lt).Z a
def q7(a:bS w b x) o v:(w.setCell ⟨b,o,none⟩ v).heap[b]?=some (.cells ((xO x).setIfInBounds o v) 143 (0,0)):=by
 have c:=a.lt;have d:w.heap[b]=.cells (xO x) 143 (0,0):=by unfold bS at a;simpa[pl c]using a
 show(w.heap.modify b _)[b]?=_
 rw[pl (by simpa using c),zD,d];rfl
def bS.rest(a:bS w b x)(r:Bytes):bS (w.setCell ⟨b,0,none⟩ (.string ⟨r.toArray⟩)) b {x with rest:=r}:=q7 a 0 _
def bS.name(a:bS w b x)(r:Bytes):bS (w.setCell ⟨b,1,none⟩ (.string ⟨r.toArray⟩)) b {x with name:=r}:=q7 a 1 _
def bS.zv(a:bS w b x)(r:Bytes):bS (w.setCell ⟨b,2,none⟩ (.string ⟨r.toArray⟩)) b {x with zv:=r}:=q7 a 2 _
def bS.zx(a:bS w b x)(v:Value):bS (w.setCell ⟨b,3,none⟩ v) b {x with av:=v}:=q7 a 3 _
def bS.key(a:bS w b x)(r:Bytes):bS (w.setCell ⟨b,4,none⟩ (.string ⟨r.toArray⟩)) b {x with key:=r}:=q7 a 4 _
def bS.text(a:bS w b x)(r:Bool):bS (w.setCell ⟨b,5,none⟩ (.bool r)) b {x with text:=r}:=q7 a 5 _
def bS.E(a:bS w b x)(v:Value):bS (w.setCell ⟨b,6,none⟩ v) b {x with nv:=v}:=q7 a 6 _
end
def m6{b w0 w}(a:aZ b w0 w) o v:aZ b w0 (w.setCell ⟨b,o,none⟩ v):=a.setCell o v
def m7(l:Bytes):Int:=match l with|[]=>0|c::_=>c.toNat
def Fd l w:cX 41 #[.string ⟨l.toArray⟩,.string ⟨#[9,10,13,32]⟩] w (.string ⟨(bh l)⟩):=by have c:=Any.strings_TrimLeft_laid lays161 az ⟨l.toArray⟩ ⟨#[9,10,13,32]⟩ w aq (by intro j b e;have:=aK e;simp at this;rcases this with rfl|rfl|rfl|rfl<;>decide);refine ar c ?_;intro w' d;have a:=MX l;unfold sQ at a;exact⟨by rw[a],d⟩
def M4 l w(f:l.length<=1048576):cX 106 #[.string ⟨l.toArray⟩,.string ⟨#[9,10,13,32]⟩] w (.string ⟨(ly l)⟩):=by have c:=Any.strings_TrimRight_laid lays162 az ⟨l.toArray⟩ ⟨#[9,10,13,32]⟩ w (by rw[jS];omega) aq (by intro j b e;have:=aK e;simp at this;rcases this with rfl|rfl|rfl|rfl<;>decide);refine ar c ?_;intro w' d;have a:=MY l;unfold sQ at a;exact⟨by rw[a],d⟩
def M5 l w(g:l.length<=1048576)(e:fD l):cX 182 #[l,.string ⟨#[9,10,13,32,123]⟩] w (.int .i64 (if(l.takeWhile jR)=l.length then-1 else(l.takeWhile jR))):=by have d:=strings_IndexAny_laid ⟨l.toArray⟩ ⟨#[9,10,13,32,123]⟩ w (by rw[jS];omega) aq (by intro j b a;exact e b (aK a)) (by intro j b a;have:=aK a;simp at this;rcases this with rfl|rfl|rfl|rfl|rfl<;>decide);refine ar d ?_;intro w' f;have c:=Fa l;unfold uM at c;exact⟨by rw[c],f⟩
def AM b x w(e:bS w b x)(q:x.rest.length<=65536):
 de 103 #[b] w (.int .u8 (m7 (bh x.rest))) fun w'=>bS w' b {x with rest:=bh x.rest}/\aZ b w w':=by
 have j:=e.c0;have d:=Fd x.rest w;have l:=lD x.rest;have⟨r,i⟩:=am (bh x.rest);rw[<-i]at d l⊢;clear i
 go_in
 go_wp2_with fail
 refine ar d ?_;intro w1 h;have a:=e.O h;have o:=a.free 0;have n:=a.c0;have f:=a.rest r;have g:=m6 (aZ.of h (b:=b)) 0 r;clear d j;cases r with
 |nil=>
  go_wp2
  go_ret;exact⟨rfl,f,g⟩
 |cons c t=>
  have m:(⟨(c::t)⟩:ByteArray).size=t+1:=by rw[jS];rfl
  have s:(0:Int)<((⟨(c::t).toArray⟩:ByteArray).size:Int):=by rw[m];omega
  have u:0<(⟨(c::t)⟩:ByteArray).size:=ad;have p:(⟨_⟩:ByteArray)[0]=c:=rfl
  go_wp2
  go_ret;exact⟨rfl,f,g⟩
def M6 r:(bh r).drop (db r)=ce r:=M0 jR _
def M7 r:(bh r).take (db r)=db r:=MZ jR _
def M8 r:(db r)<=(bh r).length:=(zJ _).length_le
def q8 b x w(q:bS w b x)(y:x.rest.length<=65536)(v:fD x.rest):
 de 101 #[b] w (.string ⟨(db x.rest)⟩) fun w'=>bS w' b {x with rest:=ce x.rest}/\aZ b w w':=by
 have h:=AM b x w q y;have z:=lD x.rest;have d:=fun w1=>M5 _ w1 ad v.next;have l:=M8 x.rest;have m:=fun w1=>Fc _ _ l w1;have i:=fun w1=>AL _ _ l w1;rw[M7]at m;rw[M6]at i;rw[show(bh x.rest).takeWhile jR=db x.rest from rfl]at d;have⟨r,t⟩:=am (bh x.rest);have⟨W,s⟩:=am (db x.rest);have⟨D,p⟩:=am (ce x.rest);rw[<-t]at h z d l m i;rw[<-s]at d l m i⊢;rw[<-p]at i⊢;have j:=jS r;clear t s p q;by_cases c:W=r.length
 ·have e:=fun w1=>d w1
  simp only[c,ix]at e;rw[c]at m i;have u:=ah j;clear d c j
  go_in
  go_wp2_with fail
  refine ar h ?_;rintro w1 ⟨f,o⟩;have n:=f.c0;clear h;go_wp2_with fail
  refine ar (e _) ?_;intro A g;clear e;have a:=f.O g;have n:=a.c0;have c:=a.free 0;have j:=u.o
  go_wp2
  go_ret;exact⟨rfl,a.rest D,m6 (o.Z (aZ.of g)) 0 _⟩
 ·have e:=fun w1=>d w1
  simp only[c,iy]at e;have B:decide ((W:Int)<0)=false:=bU;clear d c j
  go_in
  go_wp2_with fail
  refine ar h ?_;rintro w1 ⟨f,o⟩;have n:=f.c0;clear h;go_wp2_with fail
  refine ar (e _) ?_;intro A g;clear e;have a:=f.O g;have n:=a.c0;have c:=a.free 0
  go_wp2
  go_ret;exact⟨rfl,a.rest D,m6 (o.Z (aZ.of g)) 0 _⟩
def M9(W:Bytes) w:de 185 #[W,.string ⟨#[64]⟩] w (.tuple #[.string ⟨(match W with|[]=>[]|c::t=>if c=64 then t else c::t).toArray⟩,.bool (match W with|[]=>false|c::_=>decide (c=64))]) fun w'=>w'=w:=by
 refine ar (strings_CutPrefix _ _ w) ?_;rintro w' rfl;refine⟨?_,rfl⟩;have b:(⟨W⟩:ByteArray).data.toList=W:=rfl;have d:(⟨#[64]⟩:ByteArray).data.toList=[64]:=rfl;rw[b,d];unfold Lib.trimPrefix Lib.hasPrefix;cases W with
 |nil=>rfl
 |cons c t=>
  by_cases a:c=64;subst a;simp;have f:((64:UInt8)==c)=false:=by simpa using fun e=>a e.zy
  have g:([64]:Bytes).isPrefixOf (c::t)=false:=by show(64==c&&_)=false;rw[f];rfl
  simp[g,a]
def Fe b x w(h:bS w b x)(p:x.rest.length<=65536)(o:fD x.rest):
 de 104 #[b] w (.tuple #[.string ⟨(nO x.rest)⟩,.bool (nQ x.rest)]) fun w'=>bS w' b {x with rest:=ce x.rest}/\aZ b w w':=by
 have d:=q8 b x w h p o;have m:=qZ x.rest;have a:=fun w1=>M9 (db x.rest) w1;unfold nO nQ;have⟨W,i⟩:=am (db x.rest);rw[<-i]at d m a⊢;clear i h;cases W with
 |nil=>
  simp only at a
  go_in
  go_wp2_with fail
  refine ar d ?_;rintro w1 ⟨e,f⟩;clear d;go_wp2_with fail
  refine ar (a _) ?_;rintro n rfl;clear a
  go_wp2
  go_ret2
  exact⟨rfl,e,f⟩
 |cons c t=>
  simp only at a;by_cases g:c=64
  ·subst g
   simp only[ix,decide_true]at a⊢;have l:=fun w=>oD ⟨t.toArray⟩ w (by rw[jS];simp at m;omega)
   go_in
   go_wp2_with fail
   refine ar d ?_;rintro w1 ⟨e,f⟩;clear d;go_wp2_with fail
   refine ar (a _) ?_;rintro n rfl;clear a;go_wp2_with fail
   refine ar (l _) ?_;intro q j;clear l
   go_wp2
   go_ret2
   exact⟨rfl,e.O j,f.Z (aZ.of j)⟩
  ·simp only[g,iy,decide_false]at a⊢
   go_in
   go_wp2_with fail
   refine ar d ?_;rintro w1 ⟨e,f⟩;clear d;go_wp2_with fail
   refine ar (a _) ?_;rintro n rfl;clear a
   go_wp2
   go_ret2
   exact⟨rfl,e,f⟩
def Na b x w(a:bS w b x)(g:x.rest.length<=65536)(f:fD x.rest):
 de 65 #[b] w (.bool (db x.rest==xG)) fun w'=>bS w' b {x with rest:=ce x.rest}/\aZ b w w':=by
 have c:=q8 b x w a g f;clear a;unfold xG
 go_in
 go_wp2_with fail
 refine ar c ?_;rintro w1 ⟨d,e⟩;clear c
 go_wp2
 go_ret;exact⟨bJ (by first|rfl|simp),d,e⟩
def Nb b x w(a:bS w b x)(g:x.rest.length<=65536)(f:fD x.rest):
 de 67 #[b] w (.bool (db x.rest==[61])) fun w'=>bS w' b {x with rest:=ce x.rest}/\aZ b w w':=by
 have c:=q8 b x w a g f;clear a
 go_in
 go_wp2_with fail
 refine ar c ?_;rintro w1 ⟨d,e⟩;clear c
 go_wp2
 go_ret;exact⟨bJ (by first|rfl|simp),d,e⟩
def Nc b x w(c:bS w b x)(l:x.rest.length<=65536)(j:fD x.rest):
 de 66 #[b] w (.bool (bp (db x.rest))) fun w'=>bS w' b {x with rest:=ce x.rest,name:=db x.rest}/\aZ b w w':=by
 have f:=q8 b x w c l j;have o:=qZ x.rest;have e:=fun w=>oD ⟨(db x.rest).toArray⟩ w (by rw[jS];omega);clear c
 go_in
 go_wp2_with fail
 refine ar f ?_;rintro w1 ⟨a,h⟩;clear f;have n:=a.free 1;have m:=a.c1;have g:=a.name (db x.rest);have i:=m6 h 1 (.string ⟨(db x.rest)⟩);go_wp2_with fail
 refine ar (e _) ?_;intro p d;clear e
 go_wp2
 go_ret;exact⟨rfl,g.O d,i.Z (aZ.of d)⟩
def Nd b x w(c:bS w b x)(l:x.rest.length<=65536)(j:fD x.rest):
 de 68 #[b] w (.bool (bp (db x.rest))) fun w'=>bS w' b {x with rest:=ce x.rest,zv:=db x.rest}/\aZ b w w':=by
 have f:=q8 b x w c l j;have o:=qZ x.rest;have e:=fun w=>oD ⟨(db x.rest)⟩ w (by rw[jS];omega);clear c
 go_in
 go_wp2_with fail
 refine ar f ?_;rintro w1 ⟨a,h⟩;clear f;have n:=a.free 2;have m:=a.c2;have g:=a.zv (db x.rest);have i:=m6 h 2 (.string ⟨(db x.rest)⟩);go_wp2_with fail
 refine ar (e _) ?_;intro p d;clear e
 go_wp2
 go_ret;exact⟨rfl,g.O d,i.Z (aZ.of d)⟩
def Nf(r:Option (Bytes×Bytes))(x:q6)(b:Nat)(w:World)(e:Ending)(w':World):Prop:=
 e=.returned r.isSome/\(∃y,bS w' b y/\∀k q,r=(k,q)->x.key=[]->y={x with rest:=q,key:=k})/\aZ b w w'
def Ng b x w(m:bS w b x)(v:x.rest.length<=65536)(p:fD x.rest):
 dB 70 #[b] w (Nf (oK x.rest) x b w):=by
 have g:=q8 b x w m v p;have s:=m.c0;have⟨z,a⟩:=am (oK x.rest);rw[<-a];unfold oK at a;by_cases f:db x.rest=Av;have i:=fun w1 d=>Fe b {x with rest:=ce x.rest} w1 d (by have:=kQ x.rest;show(ce x.rest).length<=_;omega) p.rest;rw[au f]at a;rw[f]at g;unfold Av at g;simp only at i;clear m f;cases n:nQ (ce x.rest)with
 |true=>
  rw[n]at i a;have e:=ah a;clear n a
  go_in
  go_wp2_with fail
  refine ar g ?_;rintro w1 ⟨d,j⟩;clear g;have l:=i _ d;clear i;go_wp2_with fail
  refine ar l ?_;rintro y ⟨h,o⟩;clear l;have q:=h.free 4;have t:=h.c4
  go_wp2
  go_ret;refine⟨by rw[e.o];rfl,⟨_,h.key _,fun k r c _=> ?_⟩,m6 (j.Z o) 4 _⟩;rw[e.o]at c;simp only[ix,lX,ww]at c;rw[<-c.1,<-c.2]
 |false=>
  rw[n]at i a;have e:=ah a;clear n a
  go_in
  go_wp2_with fail
  refine ar g ?_;rintro w1 ⟨d,j⟩;clear g;have l:=i _ d;clear i;go_wp2_with fail
  refine ar l ?_;rintro y ⟨h,o⟩;clear l;have q:=h.free 4;have t:=h.c4
  go_wp2
  go_ret;refine⟨by rw[e.o];rfl,⟨_,h.key _,fun k r c _=> ?_⟩,m6 (j.Z o) 4 _⟩;rw[e.o]at c;simp at c
 rw[ap f]at a;have A:(db x.rest==[107,101,121])=false:=by rw[dF];exact f
 have e:=ah a;clear m f a
 go_in
 go_wp2_with fail
 refine ar g ?_;rintro w1 ⟨d,j⟩;clear g;have q:=d.free 0;have s:=d.c0
 go_wp2
 go_ret;refine⟨by rw[e.o];rfl,⟨_,d.rest _,fun k r c f=> ?_⟩,m6 j 0 _⟩;rw[e.o]at c;simp only[lX,ww]at c;obtain⟨rfl,u⟩:=c
                                                                                                              ;subst u
 rw[<-f]
structure jk(b B:Nat)(w w':World):Prop where
 os:w'.os=w.os
 tape:w'.tape=w.tape
 output:w'.output=w.output
 size:w.heap.size<=w'.heap.size
 J:∀k,k<B->k≠b->w'.heap[k]?=w.heap[k]?
def jk.refl(b a:Nat)(w:World):jk b a w w:=⟨rfl,rfl,rfl,ay _,fun _ _ _=>rfl⟩
def jk.Z{b f:Nat}{a c d:World}(e:jk b f a c)(k:jk b f c d):jk b f a d:=
 ⟨k.os.Z e.os,k.tape.Z e.tape,k.output.Z e.output,aW e.size k.size,fun i h g=>(k.J i h g).Z (e.J i h g)⟩
def aZ.far{b c:Nat}{w w':World}(a:aZ b w w')(e:c<=w.heap.size):jk b c w w':=⟨a.os,a.tape,a.output,a.size,fun k f d=>a.J k ad d⟩
def Nh{b B w w' row}(a:w.grownBy w' row)(d:B<=w.heap.size)(c:∀k,row=some k->B<=k):jk b B w w':=
 ⟨a.os,a.tape,a.output,a.size,fun k g f=>a.J k ad (fun e=>by have:=c k e.zy;omega)⟩
def jk.O{b c C:Nat}{w w':World}(a:jk b c w w')(e:C<=b)(d:C<=c)(g:C<=w.heap.size):Below C w w':=⟨a.os,a.tape,a.output,a.size,fun k f=>a.J k ad ad⟩
def Ni{r c}{t:Bytes}(a:bh r=c::t):gu c=false:=by unfold bh at a;have:=List.head?_dropWhile_not gu r;rw[a]at this;assumption
def Ff r:bh (bh r)=bh r:=by
 cases a:bh r with
 |nil=>rfl
 |cons c t=>
  have:=Ni a;show List.dropWhile gu (c::t)=_
  rw[List.dropWhile_cons_of_neg (by simp[this])]
def Nj r:db (bh r)=db r:=by unfold db;rw[Ff]
def Nk r:ce (bh r)=ce r:=by unfold ce;rw[Ff]
def AN{r}(a:(bh r).head?=some 64):(ce (bh r))<r.length:=by
 cases b:bh r with
 |nil=>rw[b]at a;cases a
 |cons c t=>
  rw[b]at a;simp only[List.head?_cons,lX]at a;subst a;have d:=lD r;rw[b]at d;have e:ce (64::t)=t.dropWhile jR:=by unfold ce;rw[show bh (64::t)=64::t from by unfold bh;rfl,List.dropWhile_cons_of_pos aq]
  rw[e];have:=(wN (l:=t) jR).length_le;simp at d;omega
def Nl l c:(m7 l==c.toNat)=true->c≠0->l.head?=some c:=by
 intro a b;cases l with
 |nil=>simp[m7]at a;exact absurd (wM.1 (by simpa using a.zy)) b
 |cons d t=>
  simp only[m7,nE]at a;have:=wM.1 (by exact_mod_cast a);rw[this];rfl
def Fg{l c}(a:l.head?≠some c)(b:c≠0):m7 l≠c.toNat:=fun e=>a (Nl l c (by simpa using e) b)
def Fh{l c}(a:l.head?=some c):m7 l=c.toNat:=by
 cases l with
 |nil=>cases a
 |cons d t=>simp at a;subst a;rfl
def Nm:(prog.info? 9).map (fun i=>(i.zero,i.size,i.bytes))=some (some (.string ⟨#[]⟩),1,16):=az
def AO{f acc r}(a:(bh r).head?=some 64)(b:nQ (bh r)=true):jh (f+1) acc r=jh f (acc++[nO (bh r)]) (ce (bh r)):=by
 conv=>lhs;unfold jh
 rw[au a,au b]
def AP{f acc r}(a:(bh r).head?=some 64)(b:nQ (bh r)=false):jh (f+1) acc r=none:=by unfold jh;rw[au a,ap (by simp[b])]
def AQ{f acc r}(a:(bh r).head?≠some 64):jh f acc r=(acc,bh r):=by
 cases f with
 |zero=>rfl
 |succ f=>unfold jh;rw[ap a]
def Nn(r:Option (List Bytes×Bytes))(x:q6)(b a:Nat)(w:World)(e:Ending)(w':World):Prop:=
 e=.returned r.isSome/\(∃y,bS w' b y/\∀l q,r=(l,q)->∃v,y={x with rest:=q,av:=v}/\bN w' a v l)/\jk b a w w'
def No b g x w(j:bS w b x)(o:x.rest.length<=65536)(m:fD x.rest)(d:g<=w.heap.size)(h:b<g)(n:bN w g x.av []):
 dB 69 #[b] w (Nn (jh x.rest [] x.rest) x b g w):=by
 obtain⟨p,d⟩:=am (jh x.rest [] x.rest);rw[<-d];have i:=ah d;have⟨ae,Y,Z,aa,ab⟩:=cZ Nm;obtain⟨rest,name,label,av,key,text,nv⟩:=x;simp only at o m n;clear d
 go_in
 go_wp2
 go_loopg [] rest (fun k wr=>∃d v r f,r.length=k/\k<=f/\k<=65536/\d.length+k<=65536/\bS wr b ⟨r,name,label,v,key,text,nv⟩/\bN wr g v d/\Hid (fD r)/\jk b g w wr/\Hid (p=jh f d r))
 case atStart=>exact⟨[],av,rest,_,rfl,ay _,o,aO,j,n,m,jk.refl _ _ _,i.o⟩
 case round=>
  obtain⟨d,v,r,f,rfl,n,R,m,p,y,A,hF,H⟩:=hrel;clear i j;have o:=AM b _ wr p R;have i:=lD r;simp only at o;have i:=hF.size;have i:=H.o;by_cases m:(bh r).head?=some 64
  ·have u:=Fh m
   have s:=AN m;obtain⟨f,rfl⟩:∃j,f=j+1:=⟨f-1,ad⟩;rw[u,show((64:UInt8).toNat:Int)=64 from rfl]at o;have j:=fun w1 n=>Fe b ⟨bh r,name,label,v,key,text,nv⟩ w1 n (by show(bh r).length<=_;omega) A.o.next;simp only at j;have P:=ah A.o.next.rest;obtain⟨V,T,rfl⟩:=dR y;have B:=p.lt;cases h:nQ (bh r)with
   |true=>
    rw[AO m h]at i;rw[h]at j;have p:(nO (bh r)).length<=65536:=by have C:=qZ (bh r);unfold nO;split;simp;rename_i c t e;rw[e]at C;simp at C;split<;>simp<;>omega
    generalize nO (bh r)=a at j i p;generalize ce (bh r)=O at j i s P;have p:=ah i;clear i h m u H A;go_wp2_with fail
    refine ar o ?_;rintro w1 ⟨n,s⟩;clear o;have E:=j _ n;clear j;go_wp2_with fail
    refine ar E ?_;rintro W ⟨D,I⟩;clear E;have K:=s.Z I;have B:=K.size;have B:=D.c3;simp only at B;have M:W.ownsRow g 9 1 (.slice V d.length T) d.length (d.map encStr):=cm y K.grownBy (.inr (fun e=>by have:=(aY y b e).1;omega));clear y n s I;go_wp2_with(first
     |(at_builtin;go_must (apply iV _ rfl _ _ 53 rfl g 9 ae _ 1 16 jM Y Z aa ab rfl aq _ _ _ rfl (dp M _) _ 1 1 _ rfl rfl (eq _ _ _ _ rfl) (fun z S=>by simp at S;subst S;rfl) bO ad aO);intro al G N Q ag;have J:bS G b ⟨O,name,label,.slice V d.length T,key,text,nv⟩:=(Q.J b (by have:=D.lt;simp;omega) (fun e=>by have:=(aY M b e.zy).1;omega)).Z (D.O aP);have af:=J.free 3;obtain⟨F,B,rfl⟩:=dR N;have X:=J.c3;simp only at X)
     |fail)
    have S:jk b g w G:=(hF.Z (K.far ad)).Z (Nh (ET Q) ad (fun k e=>(aY M k e).1));have K:=J.zx (.slice F (d+1) B);have M:bN (G.setCell ⟨b,3,none⟩ (.slice F (d.length+1) B)) g (.slice F (d.length+1) B) (d++[a]):=by have C:=cm (row:=some b) (w':=G.setCell ⟨b,3,none⟩ (.slice F (d.length+1) B)) N ⟨rfl,rfl,rfl,by simp,fun k R h=>gq _ _ _ _ (fun e=>h (by rw[e]))⟩ (.inr (fun e=>by have:=(aY N b e).1;omega));unfold bN;rw[ck,gL];assumption
    have J:jk b g w (G.setCell ⟨b,3,none⟩ (.slice F (d.length+1) B)):=S.Z ⟨rfl,rfl,rfl,by simp,fun k _ h=>gq _ _ _ _ h⟩;go_roundg O
    case rel=>exact⟨_,_,O,f,rfl,ad,ad,aO,K,M,P.o,J,p.o⟩
    case measure=>omega
   |false=>
    rw[AP m h]at i;rw[h]at j;have p:=ah i;clear i h m u H A;go_wp2_with fail
    refine ar o ?_;rintro w1 ⟨n,s⟩;clear o;have E:=j _ n;clear j;go_wp2_with fail
    refine ar E ?_;rintro W ⟨D,I⟩;clear E
    go_wp2
    go_ret;exact⟨by rw[p.o];rfl,⟨_,D,fun l q d=>by rw[p.o]at d;cases d⟩,hF.Z ((s.Z I).far ad)⟩
  rw[AQ m]at i;have u:=Fg m aq;have g:(m7 (bh r)==64)=false:=by rw[dF];exact u
  have p:=ah i;clear i u m H A;go_wp2_with fail
  refine ar o ?_;rintro w1 ⟨n,s⟩;clear o
  go_wp2
  go_ret;refine⟨by rw[p.o];rfl,⟨_,n,fun l q d=> ?_⟩,hF.Z (s.far ad)⟩;rw[p.o]at d;injection d with d
  injection d with C g
  subst C;subst g;exact⟨v,rfl,cm y s.grownBy (.inr (fun e=>by have:=(aY y b e).1;omega))⟩
def Np(l:Bytes) c:Lib.hasSuffix l [c]=(l.getLast?==c):=by unfold Lib.hasSuffix;rw[ft,List.isSuffixOf_iff_suffix,nE];constructor;rintro⟨t,rfl⟩;simp;intro a;obtain⟨b,d⟩:=List.getLast?_eq_some_iff.1 a;exact⟨b,d.zy⟩
def Nq(l:Bytes) w(c:l.length<=1048576):de 105 #[l,.string ⟨#[125]⟩] w (.tuple #[.string ⟨(if(l.getLast?==some 125)=true then l.dropLast else l).toArray⟩,.bool (l.getLast?==some 125)]) fun w'=>w'=w:=by refine ar (strings_CutSuffix _ _ w (by rw[jS];omega)) ?_;rintro w' rfl;refine⟨?_,rfl⟩;have a:(⟨l⟩:ByteArray).data.toList=l:=rfl;have b:(⟨#[125]⟩:ByteArray).data.toList=[125]:=rfl;rw[a,b];unfold Lib.trimSuffix;rw[Np,List.dropLast_eq_take];rfl
def Fi l:(ly l)<=l.length:=by unfold ly;rw[List.length_reverse];have:=(wN (l:=l.reverse) gu).length_le;rwa[List.length_reverse]at this
def Fj l:(mZ l)<=l.length:=by have a:=Fi (l.drop 1);rw[lV]at a;unfold mZ;split;rw[List.length_dropLast];omega;omega
def Nr(r:Option (Bool×List ax))(x:q6)(b a:Nat)(w:World)(e:Ending)(w':World):Prop:=
 e=.returned r.isSome/\(∃y,bS w' b y/\∀t l,r=some (t,l)->x.text=false->x.nv=.slice none 0 0->∃q o c,y={x with rest:=q,text:=t,nv:=.slice o l c}/\dg w' a (.slice o l c) l)/\aZ b w w'
def Ns b B x w(d:bS w b x)(a:x.rest.length<=65536)(D:fD x.rest)(f:B<=w.heap.size)(G:b<B):
 dB 71 #[b] w (Nr (qX x.rest) x b B w):=by
 obtain⟨y,g⟩:=am (qX x.rest);rw[<-g];have h:=AM b x w d a;have J:=lD x.rest;obtain⟨rest,name,label,av,key,text,nv⟩:=x;simp only at a D h J g;unfold qX at g;by_cases n:(bh rest).head?=some 123
 ·rw[au n]at g
  have p:=Fh n;rw[p,show((123:UInt8).toNat:Int)=123 from rfl]at h;have d:1<=(bh rest).length:=by cases a:bh rest with|nil=>rw[a]at n;cases n|cons c t=>simp
  have i:∀w1,(Instr.slice 9 (.string ⟨_⟩) ((1:Int)) none none).run prog w1=.ok (.string ⟨_⟩) w1:=fun w1=>AL _ 1 d w1;have s:=fun w1=>M4 ((bh rest).drop 1) w1 (by rw[lV];omega);have u:=Fi ((bh rest).drop 1);rw[lV]at u;have q:=fun w1=>Nq (ly ((bh rest).drop 1)) w1 ad;have v:=Fj (bh rest);have j:((ly ((bh rest).drop 1)).getLast?==some 125)=uK (bh rest):=rfl;rw[j,show(if uK (bh rest)=true then(ly ((bh rest).drop 1)).dropLast else ly ((bh rest).drop 1))=mZ (bh rest)from rfl]at q;have d:=fun w1=>MU ⟨(mZ (bh rest)).toArray⟩ w1 (by rw[jS];omega);rw[show(⟨(mZ (bh rest))⟩:ByteArray).data.toList=mZ (bh rest)from rfl]at d;have⟨f,r,m⟩:∃f r,pK (mZ (bh rest))=(f,r):=⟨_,_,rfl⟩;rw[m]at d g;unfold nT at d;simp only at d g;generalize mZ (bh rest)=z at q d;generalize ly ((bh rest).drop 1)=tr at s q;generalize uK (bh rest)=I at q g;generalize(bh rest).drop 1=z at i s;generalize bh rest=R at h i;have i:=ah g;clear g n p j m u v
  go_in
  go_wp2_with fail
  refine ar h ?_;rintro w1 ⟨j,m⟩;have u:=j.c0;simp only at u;clear h;go_wp2_with fail
  refine ar (s _) ?_;intro T v;clear s;go_wp2_with fail
  refine ar (q _) ?_;rintro s rfl;clear q;have q:=d s;clear d u;go_wp2_with fail
  apply q.zz;rintro e M ⟨o,c,rfl,H,u⟩;clear q;have F:=(m.Z (aZ.of v)).Z (aZ.of u);have E:=(j.O v).O u;have q:=(aA _ M).alloc (ay _) (.cells #[.slice o f c] 52);have d:=E.O q;have P:=d.free 6;have s:=d.c6;simp only at s;have C:=F.Z (aZ.of q);have z:=d.E (.slice o f c);have A:=m6 C 6 (.slice o f c);have N:dg ((M.alloc (.cells #[.slice o f.length c] 52)).setCell ⟨b,6,none⟩ (.slice o f.length c)) B (.slice o f.length c) f:=by have s:=dp H (.cells #[.slice o f c] 52);have K:=(m.Z (aZ.of v)).size;refine lB (cm (row:=b) s ⟨rfl,rfl,rfl,by simp,fun k K G=>gq _ _ _ _ (fun e=>G (by rw[e]))⟩ (.inr (fun e=>by have:=(aY s b e).1;omega))) ad
  clear j m v u F E q d C H;cases I with
  |true=>
   by_cases q:r=0
   ·have d:y=(false,f):=by rw[i.o,q];rfl
    have f:=ah d;subst q;clear d i
    go_wp2
    go_ret;refine⟨by rw[f.o];rfl,⟨_,z,fun t l a K _=> ?_⟩,A⟩;rw[f.o]at a;injection a with a
    injection a with s H
    subst s;subst H;simp only at K;subst K;exact⟨_,o,c,rfl,N⟩
   ·have d:y=none:=by rw[i.o];simp[q]
    have f:=ah d;have v:(r==0)=false:=by rw[dF];exact q
    clear d i q
    go_wp2
    go_ret;exact⟨by rw[f.o];rfl,⟨_,z,fun t l a=>by rw[f.o]at a;cases a⟩,A⟩
  |false=>
   have d:y=none:=by rw[i.o];rfl
   have f:=ah d;clear d i
   go_wp2
   go_ret;exact⟨by rw[f.o];rfl,⟨_,z,fun t l a=>by rw[f.o]at a;cases a⟩,A⟩
 ·rw[ap n]at g
  have p:=Fg n aq;have N:(m7 (bh rest)==123)=false:=by rw[dF];exact p
  have O:(m7 (bh rest) !=123)=true:=by rw[ka];exact p
  have i:=fun w1 j=>q8 b ⟨bh rest,name,label,av,key,text,nv⟩ w1 j (by show(bh rest).length<=_;omega) D.next;simp only[Nj,Nk]at i;have Q:=kQ rest;have r:=fun w1=>Ad ⟨(ce rest).toArray⟩ w1 (by rw[jS];omega);rw[show iZ ll (⟨(ce rest)⟩:ByteArray).data.toList=(ce rest).all gu from rfl]at r;by_cases v:db rest=Aw
  ·rw[v]at i
   unfold Aw at i;have d:y=if(ce rest).all gu=true then some (true,[])else none:=by rw[g];by_cases q:(ce rest).all gu=true;rw[au ⟨v,q⟩,au q];rw[ap (fun a=>q a.2),ap q]
   generalize ce rest=S at i r d;generalize m7 (bh rest)=X at h N O;generalize bh rest=R at h i;generalize S.all gu=V at r d;have f:=ah d;clear g d n p v Q J
   go_in
   go_wp2_with fail
   refine ar h ?_;rintro w1 ⟨j,m⟩;clear h;have C:=i _ j;clear i;go_wp2_with fail
   refine ar C ?_;rintro T ⟨q,A⟩;clear C;have P:=q.free 5;have G:=q.c5;simp only at G;have z:=m.Z A;have D:=q.text true;have I:=m6 z 5 true;have d0:=D.c0;simp only at d0;clear j m A z;go_wp2_with fail
   refine ar (r _) ?_;intro M u;clear r;have E:=D.O u;have F:=I.Z (aZ.of u)
   go_wp2
   go_ret;refine⟨?_,⟨_,E,fun t l a K u=> ?_⟩,F⟩;rw[f.o];cases V<;>rfl;rw[f.o]at a;split at a;injection a with a
   injection a with s H
   subst s;subst H;simp only at u;subst u;exact⟨_,none,0,rfl,cW _ _ _ _⟩;cases a
  ·have d:y=none:=by rw[g,ap (fun a=>v a.1)]
   have s:(db rest==[116,101,120,116])=false:=by rw[dF];exact v
   generalize db rest=W at i s;generalize ce rest=S at i r;generalize m7 (bh rest)=X at h N O;generalize bh rest=R at h i;have f:=ah d;clear g d n p v Q J r
   go_in
   go_wp2_with fail
   refine ar h ?_;rintro w1 ⟨j,m⟩;clear h;have C:=i _ j;clear i;go_wp2_with fail
   refine ar C ?_;rintro T ⟨q,A⟩;clear C;have P:=q.free 5;have G:=q.c5;simp only at G;have z:=m.Z A;have D:=q.text false;have I:=m6 z 5 false;clear j m A z
   go_wp2
   go_ret;exact⟨by rw[f.o];rfl,⟨_,D,fun t l a=>by rw[f.o]at a;cases a⟩,I⟩
structure PL where
 rest:Bytes
 name:Bytes
 zv:Bytes
 zx:List Bytes
 key:Bytes
 text:Bool
 E:List ax
def AR(p:PL):Option aB:=some ⟨p.name,p.zv,p.zx,p.key,p.text,p.E⟩
def q9(p:PL):Option aB:=match qX p.rest with|none=>none|some (t,a)=>AR {p with text:=t,E:=a}
def re(p:PL):Option aB:=match oK p.rest with|none=>none|some (k,r)=>q9 {p with key:=k,rest:=r}
def rf(p:PL):Option aB:=match jh p.rest [] p.rest with|none=>none|some (l,r)=>re {p with zx:=l,rest:=r}
def rh(p:PL):Option aB:=if bp (db p.rest)=false then none else rf {p with zv:=db p.rest,rest:=ce p.rest}
def ri(p:PL):Option aB:=if db p.rest≠[61]then none else rh {p with rest:=ce p.rest}
def rj(p:PL):Option aB:=if bp (db p.rest)=false then none else ri {p with name:=db p.rest,rest:=ce p.rest}
def uN(p:PL):Option aB:=if db p.rest≠xG then none else rj {p with rest:=ce p.rest}
def sR:Nat->PL->Option aB
 |0=>uN
 |1=>rj
 |2=>ri
 |3=>rh
 |4=>rf
 |5=>re
 |6=>q9
 |_=>AR
def Nt s:oL s=sR 0 ⟨s,[],[],[],[],false,[]⟩:=rfl
def sS:Nat->Nat
 |0=>65
 |1=>66
 |2=>67
 |3=>68
 |4=>69
 |5=>70
 |_=>71
def Nu k(b:k<7):∀args a,(callFunc (sS k) args).run prog a=.ok (.enter (sS k) args) a:=by
 obtain rfl|rfl|rfl|rfl|rfl|rfl|rfl:k=0∨k=1∨k=2∨k=3∨k=4∨k=5∨k=6:=ad
 all_goals exact fun _ _=>rfl
structure xP(b B:Nat)(w0:World)(k:Nat)(p:PL)(w:World):Prop where
 ex:∃y:q6,bS w b y/\y.name=p.name/\y.zv=p.zv/\y.key=p.key/\y.text=p.text/\bN w B y.av p.zx/\dg w B y.nv p.E/\(k<=6->y.rest=p.rest/\y.text=false/\y.nv=.slice none 0 0)
 asc:k<=6->fD p.rest/\p.rest.length<=65536
 none4:k<=4->p.zx=[]
 none5:k<=5->p.key=[]
 none6:k<=6->p.E=[]/\p.text=false
 far:jk b B w0 w
 bB:b<B
 size:B<=w.heap.size
def Fk(b a:Nat)(d:World)(k:Nat)(p:PL)(e:Ending)(w':World):Prop:=
 ∃ok,e=.returned (.bool ok)/\(ok=false->sR k p=none/\jk b a d w')/\(ok=true->∃c,sR k p=sR (k+1) c/\xP b a d (k+1) c w')
def sT{b B w w' v l}(a:bN w B v l)(c:aZ b w w')(d:b<B):bN w' B v l:=cm a c.grownBy (.inr (fun e=>by have:=(aY a b e).1;omega))
def uO{b B w w' v l}(a:dg w B v l)(c:aZ b w w')(d:b<B):dg w' B v l:=cm a c.grownBy (.inr (fun e=>by have:=(aY a b e).1;omega))
def fD.zx{l r:Bytes}{f:Nat}{d q:List Bytes}(c:fD l)(a:jh f d l=some (q,r)):fD r/\r.length<=l.length:=by
 induction f generalizing d l with
 |zero=>simp[jh]at a;rw[<-a.2];exact⟨c.next,lD l⟩
 |succ f ih=>
  by_cases b:(bh l).head?=some 64
  ·cases g:nQ (bh l)with
   |true=>
    rw[AO b g]at a;have:=ih c.next.rest a;exact⟨this.1,by have e:=AN b;omega⟩
   |false=>rw[AP b g]at a;cases a
  ·rw[AQ b]at a
   injection a with a
   injection a with _ e
   rw[<-e];exact⟨c.next,lD l⟩
def fD.key{l r k:Bytes}(c:fD l)(a:oK l=some (k,r)):fD r/\r.length<=l.length:=by
 unfold oK at a;split at a;split at a;injection a with a
 injection a with _ b
 rw[<-b];exact⟨c.rest.rest,aW (kQ _) (kQ _)⟩;cases a
 injection a with a
 injection a with _ b
 rw[<-b];exact⟨c,ay _⟩
def Nv b B w0 k(V:k<7) p w(a:xP b B w0 k p w):
 dB (sS k) #[b] w (Fk b B w0 k p):=by
 obtain⟨y,u,I,H,C,J,n,M,Q⟩:=a.ex;obtain⟨h,D,m⟩:=Q ad;obtain⟨A,K⟩:=a.asc ad;have g:=a.bB;have f:=a.size;have s:fD y.rest:=by rw[h];exact A
 have G:y.rest.length<=65536:=by rw[h];exact K
 have⟨R,W⟩:=a.none6 ad;obtain rfl|rfl|rfl|rfl|rfl|rfl|rfl:k=0∨k=1∨k=2∨k=3∨k=4∨k=5∨k=6:=ad
 refine ar (Na b y w u G s) ?_;rintro w' ⟨x,d⟩;refine⟨_,rfl,fun e=>⟨?_,a.far.Z (d.far f)⟩,fun e=>⟨{p with rest:=ce p.rest},?_,?_⟩⟩;show uN p=none
 unfold uN;rw[au (by rw[h]at e;simpa using e)];show uN p=rj _
 unfold uN;rw[ap (by rw[h]at e;simpa using e)];exact⟨⟨_,x,I,H,C,J,sT n d g,uO M d g,fun _=>⟨by show ce y.rest=_;rw[h],D,m⟩⟩,fun _=>⟨A.rest,aW (kQ _) K⟩,fun _=>a.none4 (by omega),fun _=>a.none5 ad,fun _=>a.none6 ad,a.far.Z (d.far f),g,aW f d.size⟩;refine ar (Nc b y w u G s) ?_;rintro w' ⟨x,d⟩;refine⟨_,rfl,fun e=>⟨?_,a.far.Z (d.far f)⟩,fun e=>⟨{p with name:=db p.rest,rest:=ce p.rest},?_,?_⟩⟩;show rj p=none
 unfold rj;rw[au (by rwa[h]at e)];show rj p=ri _
 unfold rj;rw[ap (by rw[h]at e;rw[e];simp)];exact⟨⟨_,x,by show db y.rest=_;rw[h],H,C,J,sT n d g,uO M d g,fun _=>⟨by show ce y.rest=_;rw[h],D,m⟩⟩,fun _=>⟨A.rest,aW (kQ _) K⟩,fun _=>a.none4 (by omega),fun _=>a.none5 ad,fun _=>a.none6 ad,a.far.Z (d.far f),g,aW f d.size⟩;refine ar (Nb b y w u G s) ?_;rintro w' ⟨x,d⟩;refine⟨_,rfl,fun e=>⟨?_,a.far.Z (d.far f)⟩,fun e=>⟨{p with rest:=ce p.rest},?_,?_⟩⟩;show ri p=none
 unfold ri;rw[au (by rw[h]at e;simpa using e)];show ri p=rh _
 unfold ri;rw[ap (by rw[h]at e;simpa using e)];exact⟨⟨_,x,I,H,C,J,sT n d g,uO M d g,fun _=>⟨by show ce y.rest=_;rw[h],D,m⟩⟩,fun _=>⟨A.rest,aW (kQ _) K⟩,fun _=>a.none4 (by omega),fun _=>a.none5 ad,fun _=>a.none6 ad,a.far.Z (d.far f),g,aW f d.size⟩;refine ar (Nd b y w u G s) ?_;rintro w' ⟨x,d⟩;refine⟨_,rfl,fun e=>⟨?_,a.far.Z (d.far f)⟩,fun e=>⟨{p with zv:=db p.rest,rest:=ce p.rest},?_,?_⟩⟩;show rh p=none
 unfold rh;rw[au (by rwa[h]at e)];show rh p=rf _
 unfold rh;rw[ap (by rw[h]at e;rw[e];simp)];exact⟨⟨_,x,I,by show db y.rest=_;rw[h],C,J,sT n d g,uO M d g,fun _=>⟨by show ce y.rest=_;rw[h],D,m⟩⟩,fun _=>⟨A.rest,aW (kQ _) K⟩,fun _=>a.none4 (by omega),fun _=>a.none5 ad,fun _=>a.none6 ad,a.far.Z (d.far f),g,aW f d.size⟩;have S:=a.none4 ad;rw[S]at n;refine ar (No b B y w u G s f g n) ?_;rintro w' ⟨⟨z,N,j⟩,hF⟩;rw[h]at j⊢;cases i:jh p.rest [] p.rest with
 |none=>
  refine⟨_,rfl,fun _=>⟨?_,a.far.Z hF⟩,fun e=>by simp at e⟩;show rf p=none
  unfold rf;rw[i]
 |some q=>
  obtain⟨l,r⟩:=q;refine⟨_,rfl,fun e=>by simp at e,fun _=>⟨{p with zx:=l,rest:=r},?_,?_⟩⟩;show rf p=re _
  unfold rf;rw[i];obtain⟨v,rfl,hv⟩:=j l r i;have O:=A.zx i;refine⟨⟨_,N,I,H,C,J,hv,?_,fun _=>⟨rfl,D,m⟩⟩,fun _=>⟨O.1,by show r.length<=_;omega⟩,fun F=>by omega,fun _=>a.none5 ad,fun _=>a.none6 ad,a.far.Z hF,g,aW f hF.size⟩;show dg w' B y.nv p.E
  rw[m,R];exact cW _ _ _ _
 refine ar (Ng b y w u G s) ?_;rintro w' ⟨⟨z,N,j⟩,d⟩;rw[h]at j⊢;cases i:oK p.rest with
 |none=>
  refine⟨_,rfl,fun _=>⟨?_,a.far.Z (d.far f)⟩,fun e=>by simp at e⟩;show re p=none
  unfold re;rw[i]
 |some q=>
  obtain⟨P,r⟩:=q;refine⟨_,rfl,fun e=>by simp at e,fun _=>⟨{p with key:=P,rest:=r},?_,?_⟩⟩;show re p=q9 _
  unfold re;rw[i];have:=j P r i (by rw[C];exact a.none5 ad);subst this;have O:=A.key i;exact⟨⟨_,N,I,H,rfl,J,sT n d g,uO M d g,fun _=>⟨rfl,D,m⟩⟩,fun _=>⟨O.1,by show r.length<=_;omega⟩,fun F=>by omega,fun F=>ad,fun _=>a.none6 ad,a.far.Z (d.far f),g,aW f d.size⟩
 refine ar (Ns b B y w u G s f g) ?_;rintro w' ⟨⟨z,N,j⟩,d⟩;rw[h]at j⊢;cases i:qX p.rest with
 |none=>
  refine⟨_,rfl,fun _=>⟨?_,a.far.Z (d.far f)⟩,fun e=>by simp at e⟩;show q9 p=none
  unfold q9;rw[i]
 |some q=>
  obtain⟨t,l⟩:=q;refine⟨_,rfl,fun e=>by simp at e,fun _=>⟨{p with text:=t,E:=l},?_,?_⟩⟩;show q9 p=AR _
  unfold q9;rw[i];obtain⟨q,o,c,rfl,T⟩:=j t l i D m;exact⟨⟨_,N,I,H,C,rfl,sT n d g,T,fun F=>ad⟩,fun F=>ad,fun F=>ad,fun F=>ad,fun F=>ad,a.far.Z (d.far f),g,aW f d.size⟩
end Go.Proofs.YtfeidcmojcijpaaGreatDoor
