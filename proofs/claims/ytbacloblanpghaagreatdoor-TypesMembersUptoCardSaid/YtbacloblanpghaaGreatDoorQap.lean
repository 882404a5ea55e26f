import Derived.Test.YtbacloblanpghaaGreatDoorQai
import Derived.Test.YtbacloblanpghaaGreatDoorQao
set_option linter.unusedVariables false
set_option linter.unusedSimpArgs false
set_option maxRecDepth 100000
set_option maxHeartbeats 0
namespace Go.Proofs.YtbacloblanpghaaGreatDoor
open Go.RowKit Tryz
def kR(w:World)(P:Nat->Prop)(o:Option Addr)(n cap size:Nat)(xs:List Value):Prop:=
 xs.length=n*size/\n<=cap/\cap<=maxLen/\(0<n->∃b a,o=some ⟨b,a,none⟩/\b<w.heap.size/\P b/\∀j u,xs[j]?=some u->w.cell? ⟨b,a+j,none⟩=some u)
theorem kR.row{w:World}{P:Nat->Prop}{o:Option Addr}{n cap size:Nat}{xs:List Value}(a:kR w P o n cap size xs):cS w o n cap size xs:=
 ⟨a.1,a.2.1,a.2.2.1,fun f=>by obtain⟨b,g,c,d,_,e⟩:=a.2.2.2 f;exact⟨b,g,c,d,e⟩⟩
theorem kR.kept{w w':World}{P Q:Nat->Prop}{o:Option Addr}{n cap size:Nat}{xs:List Value}(c:kR w P o n cap size xs)(m:w.heap.size<=w'.heap.size)
 (f:∀b a,b<w.heap.size->P b->w'.cell? ⟨b,a,none⟩=w.cell? ⟨b,a,none⟩/\Q b):kR w' Q o n cap size xs:=
 ⟨c.1,c.2.1,c.2.2.1,fun l=>by obtain⟨b,a,g,d,e,h⟩:=c.2.2.2 l;exact⟨b,a,g,ad,(f b 0 d e).2,fun j u i=>(f b (a+j) d e).1.trans (h j u i)⟩⟩
def ml(s:bh):List Value:=[.int .i64 s.kind,.string ⟨s.name.toArray⟩,.string ⟨s.text.toArray⟩]
def iq(w:World)(o:Option Addr)(cap:Nat)(l:List bh):Prop:=cS w o l.length cap 3 (l.flatMap ml)
theorem iq.below{w w':World}{o:Option Addr}{cap:Nat}{l:List bh}(a:iq w o cap l)(b:Below w.heap.size w w'):iq w' o cap l:=cS.below a b
theorem iq.at{w:World}{o:Option Addr}{cap:Nat}{l:List bh}(h:iq w o cap l){k:Nat}{s:bh}(e:l[k]?=some s):
 ∃b a,o=some ⟨b,a,none⟩/\b<w.heap.size/\w.cell? ⟨b,a+k*3,none⟩=some (.int .i64 s.kind)/\w.cell? ⟨b,a+k*3+1,none⟩=some (.string ⟨s.name.toArray⟩)/\w.cell? ⟨b,a+k*3+2,none⟩=some (.string ⟨s.text.toArray⟩):=by
 have j:=(aP.1 e).1;obtain⟨b,a,g,i,c⟩:=h.2.2.2 ad;have d:=nh (f:=ml) 3 (fun _=>rfl) e;refine⟨b,a,g,i,?_,?_,?_⟩
 ·exact c (k*3) _ ((d 0 ad).trans rfl)
 ·have:=c (k*3+1) _ ((d 1 ad).trans rfl);rwa[<-fI]at this
 ·have:=c (k*3+2) _ ((d 2 ad).trans rfl);rwa[<-fI]at this
def mn(a:Bytes×Bytes):List Value:=[.string ⟨a.1.toArray⟩,.string ⟨a.2.toArray⟩]
structure KA where
 ao:Option Addr
 ac:Nat
 ko:Option Addr
 kc:Nat
def lx(t:Tr)(r:KA):List Value:=[.string ⟨t.label.toArray⟩,.string ⟨t.text.toArray⟩,.slice r.ao t.attrs.length r.ac,.slice r.ko t.kids.length r.kc]
def kidRows(ks:List Tr)(rs:List KA):List Value:=(ks.zip rs).flatMap fun p=>lx p.1 p.2
inductive cg(w:World)(P:Nat->Prop):Tr->KA->Prop
 |mk {l x:Bytes} {av:List (Bytes×Bytes)} {ks:List Tr} {r:KA} (ha:kR w P r.ao av.length r.ac 2 (av.flatMap mn)) (rs:List KA) (hn:rs.length=ks.length)
   (hk:kR w P r.ko ks.length r.kc 4 (kidRows ks rs)) (hs:∀(i:Nat) (k:Tr) (q:KA),ks[i]?=some k->rs[i]?=some q->cg w P k q):cg w P (.mk l x av ks) r
def dN(w:World)(t:Tr)(r:KA):Prop:=cg w (fun _=>True) t r
theorem cg.kept{w w':World}{P Q:Nat->Prop}{t:Tr}{r:KA}(e:cg w P t r)(c:w.heap.size<=w'.heap.size)
 (a:∀b d,b<w.heap.size->P b->w'.cell? ⟨b,d,none⟩=w.cell? ⟨b,d,none⟩/\Q b):cg w' Q t r:=by
 induction e with
 |mk f rs h g _ ih=>exact .mk (f.kept c a) rs h (g.kept c a) ih
theorem cg.grow{w w':World}{P:Nat->Prop}{t:Tr}{r:KA}(c:cg w P t r)(a:Below w.heap.size w w'):cg w' P t r:=
 c.kept a.size fun b f d e=>⟨a.cell (p:=⟨b,f,none⟩) d,e⟩
theorem dN.below{w w':World}{t:Tr}{r:KA}(a:dN w t r)(b:Below w.heap.size w w'):dN w' t r:=cg.grow a b
theorem cg.at_{w:World}{P:Nat->Prop}{t:Tr}{r:KA}(a:cg w P t r):dN w t r:=a.kept (aB _) fun b c _ _=>⟨rfl,trivial⟩
theorem dN.attr{w:World}{t:Tr}{r:KA}(a:dN w t r):cS w r.ao t.attrs.length r.ac 2 (t.attrs.flatMap mn):=by
 cases a with
 |mk b rs d c e=>exact b.row
theorem mo{w:World}{o:Option Addr}{cap:Nat}{av:List (Bytes×Bytes)}(i:cS w o av.length cap 2 (av.flatMap mn)){k:Nat}{a:Bytes×Bytes}(g:av[k]?=some a):
 ∃b c,o=some ⟨b,c,none⟩/\b<w.heap.size/\w.cell? ⟨b,c+k*2,none⟩=some (.string ⟨a.1.toArray⟩)/\w.cell? ⟨b,c+k*2+1,none⟩=some (.string ⟨a.2.toArray⟩):=by
 have l:=(aP.1 g).1;obtain⟨b,c,h,j,d⟩:=i.2.2.2 ad;have e:=nh (f:=mn) 2 (fun _=>rfl) g;refine⟨b,c,h,j,?_,?_⟩
 ·exact d (k*2) _ ((e 0 ad).trans rfl)
 ·have:=d (k*2+1) _ ((e 1 ad).trans rfl);rwa[<-fI]at this
theorem dN.kids{w:World}{t:Tr}{r:KA}(a:dN w t r):∃rs:List KA,rs.length=t.kids.length/\cS w r.ko t.kids.length r.kc 4 (kidRows t.kids rs)/\∀(i:Nat) (k:Tr) (q:KA),t.kids[i]?=some k->rs[i]?=some q->dN w k q:=by
 cases a with
 |mk e rs c b d=>exact⟨rs,c,b.row,d⟩
theorem jl{w:World}{o:Option Addr}{cap:Nat}{ks:List Tr}{rs:List KA}(r:rs.length=ks.length)(j:cS w o ks.length cap 4 (kidRows ks rs)){i:Nat}{k:Tr}(g:ks[i]?=some k):
 ∃b a q,rs[i]?=some q/\o=some ⟨b,a,none⟩/\b<w.heap.size/\w.cell? ⟨b,a+i*4,none⟩=some (.string ⟨k.label.toArray⟩)/\w.cell? ⟨b,a+i*4+1,none⟩=some (.string ⟨k.text.toArray⟩)/\w.cell? ⟨b,a+i*4+2,none⟩=some (.slice q.ao k.attrs.length q.ac)/\w.cell? ⟨b,a+i*4+3,none⟩=some (.slice q.ko k.kids.length q.kc):=by
 have n:=(aP.1 g).1;obtain⟨b,a,h,l,c⟩:=j.2.2.2 ad;obtain⟨q,e⟩:∃q,rs[i]?=some q:=⟨_,aF ad⟩;have m:(ks.zip rs)[i]?=some (k,q):=by rw[List.getElem?_zip_eq_some];exact⟨g,e⟩
 have d:=nh (f:=fun p:Tr×KA=>lx p.1 p.2) 4 (fun _=>rfl) m;refine⟨b,a,q,e,h,l,?_,?_,?_,?_⟩
 ·exact c (i*4) _ ((d 0 ad).trans rfl)
 ·have:=c (i*4+1) _ ((d 1 ad).trans rfl);rwa[<-fI]at this
 ·have:=c (i*4+2) _ ((d 2 ad).trans rfl);rwa[<-fI]at this
 ·have:=c (i*4+3) _ ((d 3 ad).trans rfl);rwa[<-fI]at this
structure Gl(w:World):Prop where
 spans0:5<w.heap.size
 spans:U.Spans w
 tab0:0<w.heap.size
 tab:Go.Proofs.TabAt 0 Lib.deBruijn64tab w
theorem Gl.grow{w w':World}{B:Nat}(a:Gl w)(b:Below B w w')(d:w.heap.size<=B):Gl w':=
 ⟨by have:=b.size;have:=a.spans0;omega,a.spans.below (by have:=a.spans0;omega) b,by have:=b.size;have:=a.tab0;omega,fun j c=>(b.cell (p:=⟨0,j,none⟩) (by have:=a.tab0;show 0<B;omega)).trans (a.tab j c)⟩
theorem Gl.below{w w':World}(a:Gl w)(b:Below w.heap.size w w'):Gl w':=a.grow b (aB _)
def jm(w:World)(o:Option Addr)(cap:Nat)(l:List (Bytes×Bytes)):Prop:=cS w o l.length cap 2 (l.flatMap mn)
theorem jm.below{w w':World}{o:Option Addr}{cap:Nat}{l:List (Bytes×Bytes)}(a:jm w o cap l)(b:Below w.heap.size w w'):jm w' o cap l:=cS.below a b
theorem Ho{F:Nat}{caps:Array Value}{q:(Bytes×Bytes)->Bool}(l:List (Bytes×Bytes))(o:Option Addr)(cap:Nat)(w:World)(j:jm w o cap l)(L:l.length<=1048576)
 (I:∀args y,(callFunc F args).run prog y=.ok (.enter F args) y)
 (u:∀x∈l,∀w1,Below w.heap.size w w1->Calls prog F (#[.agg #[.string ⟨x.1.toArray⟩,.string ⟨x.2.toArray⟩]]++caps) w1 fun e D=>e=.returned (.bool (q x))/\Below w1.heap.size w1 D):
 Calls prog 165 #[.slice o l.length cap,.func (.func F) #[] caps] w fun e w'=>(∃r:Int,e=.returned (.int .i64 r)/\Hid (decide (r>=0)=l.any q))/\Below w.heap.size w w':=by
 have M:=j.2.1;have A:=j.2.2.1;unfold maxLen at A;have s:=ah u;clear u;go_enter func165,ntmps165
 go_wp2
 go_loopw [8] (fun v wr=>∃k:Nat,v=.int .i64 k/\k<=l.length/\Below w.heap.size w wr/\Hid ((l.take k).any q=false)) (fun v _=>l.length-(intOf v).toNat)
 case atStart=>exact⟨0,rfl,aK _,aA _ _,rfl⟩
 case round=>
  obtain⟨k,rfl,J,a,t⟩:=hrel;by_cases C:k<l.length
  ·have B:decide ((k:Int)<l.length)=true:=aM
   have K:(k:Int)<l.length:=ad;obtain⟨x,c⟩:∃n,l[k]?=some n:=⟨_,aF C⟩;obtain⟨b,N,rfl,H,O,P⟩:=mo (j.below a) c;have d:=s.o x (aU c) wr a;have h:(l.take (k+1)).any q=q x:=by rw[bG,c,dR,iX,t.o];simp
   have G:=ah c;skip;cases g:q x with
   |true=>
    rw[g]at d;have f:l.any q=true:=by rw[gt];exact⟨x,aU c,g⟩
    have i:=ah f;clear f h c g s;go_wp2_with fail
    refine d.mono ?_;rintro e E ⟨rfl,m⟩;clear d;have p:=a.trans (m.mono a.size)
    go_wp2
    go_ret;exact⟨⟨(k:Nat),rfl,by show _=_;rw[i.o,ct];omega⟩,p⟩
   |false=>
    rw[g]at d h;have z:=ah h;clear h c g;go_wp2_with fail
    refine d.mono ?_;rintro e E ⟨rfl,m⟩;clear d;have p:=a.trans (m.mono a.size)
    go_wp2
    go_roundw
    case rel=>exact⟨k+1,aG,ad,p,z.o⟩
    case measure=>exact aH
  ·have B:decide ((k:Int)<l.length)=false:=aJ
   have f:l.any q=false:=by have:=t.o;rwa[bx ad]at this
   have i:=ah f;clear f
   go_wp2
   go_ret;exact⟨⟨-1,rfl,by show _=_;rw[i.o,cF];omega⟩,a⟩
theorem AM{F:Nat}{caps:Array Value}{q:(Bytes×Bytes)->Bool}(l:List (Bytes×Bytes))(o:Option Addr)(cap:Nat)(w:World)(b:jm w o cap l)(f:l.length<=1048576)
 (c:∀args g,(callFunc F args).run prog g=.ok (.enter F args) g)
 (d:∀x∈l,∀w1,Below w.heap.size w w1->Calls prog F (#[.agg #[.string ⟨x.1.toArray⟩,.string ⟨x.2.toArray⟩]]++caps) w1 fun a j=>a=.returned (.bool (q x))/\Below w1.heap.size w1 j):
 Calls prog 100 #[.slice o l.length cap,.func (.func F) #[] caps] w fun a w'=>a=.returned (.bool (l.any q))/\Below w.heap.size w w':=by
 have e:=Ho l o cap w b f c d;clear b f c d;go_enter func100,ntmps100
 go_wp2_with fail
 refine e.mono ?_;rintro a m ⟨⟨r,rfl,i⟩,h⟩;clear e
 go_wp2
 go_ret;exact⟨bC i.out,h⟩
theorem Hv(l:Bytes):decide (U.chkE l=0)=fV l:=by
 have b:=F6 l;unfold U.chkE fV;by_cases a:dZ l<l.length
 ·rw[au a]
  have:(dZ l==l.length)=false:=aO;rw[this];rfl
 ·rw[ap a]
  have:(dZ l==l.length)=true:=aO;rw[this];rfl
theorem AN(s:Bytes)(w:World)(p:Gl w)(A:s.length<=1048576):
 Calls prog 103 #[.string ⟨s.toArray⟩] w fun g w'=>g=.returned (.bool (fV s))/\Below w.heap.size w w':=by
 have b:=QN (P:=prog) w 9 137 5 ⟨s.toArray⟩ (u:=.string) fZ underlying137 underlying5;have c:U.BytesAt (Lib.bytesWorld w 5 ⟨s.toArray⟩) w.heap.size 0 s:=fun j v=>by have:=Lib.bytesWorld_cell w 5 ⟨s.toArray⟩ j (by rw[dy];exact v);rw[cE];exact this
 have a:=Lib.bytesWorld_below w 5 ⟨s.toArray⟩;have q:w.heap.size<(Lib.bytesWorld w 5 ⟨s.toArray⟩).heap.size:=by rw[Lib.bytesWorld_size];omega
 have x:(⟨s.toArray⟩:ByteArray).size=s.length:=by rw[dy]
 have m:=grownCap_ge w s.length 0 5;have n:=Fp w s.length 0 5 bN;rw[x]at b;generalize grownCap w s.length 0 5=cap at b m n;unfold maxLen at n;have e:=Hv s;obtain⟨y,h⟩:=aj (fV s);rw[<-h]at e⊢;clear h;obtain⟨r,i⟩:=aj (Lib.bytesWorld w 5 ⟨s.toArray⟩);rw[<-i]at b c a q;clear i;have d:=p.below a;have o:=U.check_any w.heap.size 0 cap s r m ad c q d.spans0 d.spans;have f:=ah e;clear e p d c;go_enter func103,ntmps103
 go_wp2_with fail
 refine o.mono ?_;rintro g B ⟨rfl,l⟩;have t:=aD a l;clear o b l a;generalize U.chkE s=z at f
 go_wp2
 go_ret;refine⟨bC ?_,t⟩;have:=f.o;rw[<-this,eS];simp
def bJ(t:Tr)(r:KA):Value:=.agg #[.string ⟨t.label.toArray⟩,.string ⟨t.text.toArray⟩,.slice r.ao t.attrs.length r.ac,.slice r.ko t.kids.length r.kc]
structure kT(t:Tr):Prop where
 label:t.label.length<=1048576
 text:t.text.length<=1048576
 attrs:t.attrs.length<=1048576
 attr:∀a∈t.attrs,a.1.length<=1048576/\a.2.length<=1048576
 kids:t.kids.length<=1048576
theorem AO:∀args a,(callFunc 98 args).run prog a=.ok (.enter 98 args) a:=fun _ _=>rfl
theorem AP:∀args a,(callFunc 102 args).run prog a=.ok (.enter 102 args) a:=fun _ _=>rfl
theorem HJ(a:Bytes×Bytes)(w:World)(g:a.1.length<=1048576):Calls prog 98 #[.agg #[.string ⟨a.1.toArray⟩,.string ⟨a.2.toArray⟩]] w fun b w'=>b=.returned (.bool (!a8 a.1))/\Below w.heap.size w w':=by
 have c:∀w,Calls prog 99 #[.string ⟨a.1.toArray⟩] w fun b w'=>b=.returned (.bool (a8 a.1))/\Below w.heap.size w w':=fun w=>mi ⟨a.1.toArray⟩ w (by rw[dy];show a.1.length<=_;omega);generalize a8 a.1=q at c⊢;have d:Below w.heap.size w (w.alloc (.cells #[.string ⟨a.1.toArray⟩,.string ⟨a.2.toArray⟩] 72)):=az;go_enter func98,ntmps98
 go_wp2_with fail
 refine(c _).mono ?_;rintro b h ⟨rfl,e⟩;have f:=aD d e;clear c d e
 go_wp2
 go_ret;exact⟨rfl,f⟩
theorem Ia(a:Bytes×Bytes)(w:World)(h:Gl w)(f:a.2.length<=1048576):Calls prog 102 #[.agg #[.string ⟨a.1.toArray⟩,.string ⟨a.2.toArray⟩]] w fun d w'=>d=.returned (.bool (!fV a.2))/\Below w.heap.size w w':=by
 have b:Below w.heap.size w (w.alloc (.cells #[.string ⟨a.1.toArray⟩,.string ⟨a.2.toArray⟩] 72)):=az;have c:=AN a.2 _ (h.below b) f;generalize fV a.2=q at c⊢;go_enter func102,ntmps102
 go_wp2_with fail
 refine c.mono ?_;rintro d i ⟨rfl,e⟩;have g:=aD b e;clear c b e
 go_wp2
 go_ret;exact⟨rfl,g⟩
theorem Ib(t:Tr)(r:KA)(w:World):Calls prog 96 #[bJ t r] w fun g w'=>g=.returned (.bool (lw t))/\Below w.heap.size w w':=by
 obtain⟨m,e⟩:=aj (lw t);rw[<-e];obtain⟨l,x,av,ks⟩:=t;obtain⟨f,ac,j,i⟩:=r;unfold bJ;simp only[Tr.label,Tr.text,Tr.attrs,Tr.kids];have b:=ah e;clear e;have d:Below w.heap.size w (w.alloc (.cells #[.string ⟨l.toArray⟩,.string ⟨x.toArray⟩,.slice f av.length ac,.slice j ks.length i] 29)):=az;go_enter func96,ntmps96
 cases l with
 |nil=>
  cases av with
  |nil=>
   cases ks with
   |nil=>
    go_wp2
    go_ret;exact⟨by rw[b.o];rfl,d⟩
   |cons k ks=>
    have h:decide (((k::ks).length:Int)>0)=true:=by rw[ct];simp only[de];omega
    go_wp2
    go_ret;exact⟨by rw[b.o];simp[lw,Tr.label,Tr.attrs,Tr.kids],d⟩
  |cons a av=>
   have h:decide (((a::av).length:Int)>0)=true:=by rw[ct];simp only[de];omega
   go_wp2
   go_ret;exact⟨by rw[b.o];simp[lw,Tr.label,Tr.attrs,Tr.kids],d⟩
 |cons c l=>
  cases x<;>(go_wp2_with fail;go_ret;exact⟨by rw[b.o];rfl,d⟩)
theorem Ic(t:Tr)(r:KA)(w:World):Calls prog 104 #[bJ t r] w fun d w'=>d=.returned (.bool (oC t))/\Below w.heap.size w w':=by
 obtain⟨h,a⟩:=aj (oC t);rw[<-a];obtain⟨l,x,av,ks⟩:=t;obtain⟨c,ac,g,f⟩:=r;unfold bJ;simp only[Tr.label,Tr.text,Tr.attrs,Tr.kids];have b:=ah a;clear a;have e:Below w.heap.size w (w.alloc (.cells #[.string ⟨l.toArray⟩,.string ⟨x.toArray⟩,.slice c av.length ac,.slice g ks.length f] 29)):=az;go_enter func104,ntmps104
 cases l<;>cases x<;>(go_wp2_with fail;go_ret;exact⟨by rw[b.o];rfl,e⟩)
theorem Id(t:Tr)(r:KA)(w:World)(u:dN w t r)(O:kT t):Calls prog 97 #[bJ t r] w fun e w'=>e=.returned (.bool (ni t))/\Below w.heap.size w w':=by
 have i:jm w r.ao r.ac t.attrs:=u.attr;obtain⟨P,Q,H,I,R⟩:=O;obtain⟨K,d⟩:=aj (ni t);rw[<-d];obtain⟨l,x,av,ks⟩:=t;obtain⟨h,ac,B,A⟩:=r;unfold bJ;unfold ni at d;simp only[Tr.label,Tr.text,Tr.attrs,Tr.kids]at d i P Q H I R⊢;have g:Below w.heap.size w (w.alloc (.cells #[.string ⟨l.toArray⟩,.string ⟨x.toArray⟩,.slice h av.length ac,.slice B ks.length A] 29)):=az;have n:=aC w (.cells #[.string ⟨l.toArray⟩,.string ⟨x.toArray⟩,.slice h av.length ac,.slice B ks.length A] 29);have G:=aN n;have V:=AO;have b:=fun w1 (N:Below w.heap.size w w1)=>AM (F:=98) (caps:=#[]) (q:=fun a=> !a8 a.1) av h ac w1 (i.below N) H AO (fun a M C f=>HJ a C (I a M).1);have m:∀w,Calls prog 99 #[.string ⟨l.toArray⟩] w fun e w'=>e=.returned (.bool (a8 l))/\Below w.heap.size w w':=fun w=>mi ⟨l.toArray⟩ w (by rw[dy];show l.length<=_;omega);generalize av.any (fun a=> !a8 a.1)=q at b d;generalize a8 l=J at m d;have o:Hid (K=((!decide (l=[])&& !J)||q)):=ah (by rw[d];cases W:decide (l=[])<;>simp_all);clear d;obtain⟨w0,z⟩:=aj (w.alloc (.cells #[.string ⟨l.toArray⟩,.string ⟨x.toArray⟩,.slice h av.length ac,.slice B ks.length A] 29));rw[<-z]at g n G;have S:=ai 0 n;have L:=ai 2 n;go_enter func97,ntmps97
 by_cases j:l=[]
 ·subst j
  go_wp2_with fail
  rw[<-z];refine(b w0 g).mono ?_;rintro e C ⟨rfl,f⟩;have y:=aD g f;clear b m f g i u
  go_wp2
  go_ret;exact⟨by rw[o.o];first|rfl|simp[s.o],y⟩
 ·have X:((⟨l.toArray⟩:ByteArray)==(⟨#[]⟩:ByteArray))=false:=by
   cases l with
   |nil=>exact absurd rfl j
   |cons c l=>rfl
  have s:=ah j;clear j;go_wp2_with fail
  rw[<-z];refine(m w0).mono ?_;rintro e w1 ⟨rfl,E⟩;have v:=aD g E;have T:=(E.cell (p:=⟨w.heap.size,2,none⟩) G).trans L;have D:=ah (b w1 v);clear b m i u;cases J with
  |false=>
   go_wp2
   go_ret;exact⟨by rw[o.o];first|rfl|simp[s.o],v⟩
  |true=>
   have b:=D.o;go_wp2_with fail
   refine b.mono ?_;rintro e C ⟨rfl,f⟩;have y:=aD v f;clear b D f
   go_wp2
   go_ret;exact⟨by rw[o.o];first|rfl|simp[s.o],y⟩
def lN(l:List bh):Bool:=l.all (fun s=>decide (s.name.length<=100)&&decide (s.text.length<=100))&&decide (l.length<=60)
theorem KZ(l:List bh)(o:Option Addr)(cap:Nat)(w:World)(f:iq w o cap l):
 Calls prog 7 #[.slice o l.length cap] w fun z w'=>z=.returned (.bool (lN l))/\Below w.heap.size w w':=by
 have M:=f.2.1;have A:=f.2.2.1;unfold maxLen at A;obtain⟨I,g⟩:=aj (lN l);rw[<-g];have d:=ah g;clear g;go_enter func7,ntmps7
 go_wp2
 go_loopw [3] (fun v wr=>∃k:Nat,v=.int .i64 k/\k<=l.length/\wr=w/\Hid ((l.take k).all (fun s=>decide (s.name.length<=100)&&decide (s.text.length<=100))=true)) (fun v _=>l.length-(intOf v).toNat)
 case atStart=>exact⟨0,rfl,aK _,rfl,rfl⟩
 case round=>
  obtain⟨k,rfl,K,rfl,q⟩:=hrel;by_cases E:k<l.length
  ·have D:decide ((k:Int)<l.length)=true:=aM
   have L:(k:Int)<l.length:=ad;obtain⟨x,c⟩:∃n,l[k]?=some n:=⟨_,aF E⟩;obtain⟨b,O,rfl,J,F,G,H⟩:=f.at c;have a:=fun i=>rD (p:=fun s:bh=>decide (s.name.length<=100)&&decide (s.text.length<=100)) c q.o i;have y:=fun i=>rE (p:=fun s:bh=>decide (s.name.length<=100)&&decide (s.text.length<=100)) c i;obtain⟨e,r⟩:=aE a y;clear a y c;obtain⟨N,j,m⟩:=x;simp only at F G H;by_cases t:j.length<=100
   ·have B:decide ((j.length:Int)>100)=false:=aJ
    by_cases u:m.length<=100
    ·have C:decide ((m.length:Int)>100)=false:=aJ
     go_wp2
     go_roundw
     case rel=>exact⟨k+1,aG,ad,cD,e.o (by simp[t,u])⟩
     case measure=>exact aH
    ·have C:decide ((m.length:Int)>100)=true:=aM
     go_wp2
     go_ret;exact⟨by rw[d.o];unfold lN;rw[r.o (by simp[u])];rfl,aA _ _⟩
   ·have B:decide ((j.length:Int)>100)=true:=aM
    go_wp2
    go_ret;exact⟨by rw[d.o];unfold lN;rw[r.o (by simp[t])];rfl,aA _ _⟩
  ·have D:decide ((k:Int)<l.length)=false:=aJ
   have h:=q.o;rw[bx ad]at h;have a:lN l=decide ((l.length:Int)<=60):=by unfold lN;rw[h,qI];exact zM.2 ad
   have e:=ah a;clear a h
   go_wp2
   go_ret;exact⟨by rw[d.o,e.o];rfl,aA _ _⟩
theorem K1:∀(n:Nat) (t:Tr) (r:KA) (w:World),SizeOf.sizeOf t<=n->dN w t r->
 Calls prog 8 #[.agg #[.string ⟨t.label.toArray⟩,.string ⟨t.text.toArray⟩,.slice r.ao t.attrs.length r.ac,.slice r.ko t.kids.length r.kc]] w fun o w'=>(∃q,o=.returned (.bool q))/\Below w.heap.size w w':=by
 intro n;induction n with
 |zero=>intro t r w f;cases t;simp at f
 |succ n ih=>
  intro t r w f s;have K:=s.attr.2.2.1;obtain⟨rs,E,e,i⟩:=s.kids;have N:=e.2.1;have A:=e.2.2.1;unfold maxLen at A K;obtain⟨label,text,attrs,a⟩:=t;obtain⟨m,ac,l,j⟩:=r;simp only[Tr.label,Tr.text,Tr.attrs,Tr.kids]at E e i N A⊢;obtain⟨w1,c⟩:=aj (w.alloc (.cells #[.string ⟨label.toArray⟩,.string ⟨text.toArray⟩,.slice m attrs.length ac,.slice l a.length j] 29));have L:Below w.heap.size w w1:=by rw[c];exact az
  have C:w.heap.size<w1.heap.size:=by rw[c];simp
  have F:=dt w [.string ⟨label.toArray⟩,.string ⟨text.toArray⟩,.slice m attrs.length ac,.slice l a.length j] 29 _ rfl;have u:∀w',Below w1.heap.size w1 w'->w'.cell? ⟨w.heap.size,3,none⟩=some (.slice l a.length j):=fun w' y=>by rw[c]at y C;exact(y.cell (p:=⟨w.heap.size,3,none⟩) C).trans (F 3 _ rfl)
  obtain⟨G,H,I,J⟩:=cI u ih i f;clear u F ih i f;go_enter func8,ntmps8
  go_wp2_with fail
  rw[<-c];clear c;go_loopw [3] (fun v wr=>∃k:Nat,v=.int .i64 k/\k<=a.length/\Below w1.heap.size w1 wr) (fun v _=>a.length-(intOf v).toNat)
  case atStart=>exact⟨0,rfl,aK _,aA _ _⟩
  case round=>
   obtain⟨k,rfl,T,h⟩:=hrel;have R:=G.o _ h;have d:=aD L h;by_cases O:k<a.length
   ·have M:decide ((k:Int)<a.length)=true:=aM
    have V:(k:Int)<a.length:=ad;obtain⟨x,g⟩:∃n,a[k]?=some n:=⟨_,aF O⟩;obtain⟨b,W,q,D,rfl,S,Y,Z,aa,ab⟩:=jl E (cS.below e d) g;have P:SizeOf.sizeOf x<SizeOf.sizeOf a:=vx (aU g);have B:=H.o x q wr (by have:=J.o;simp at this;omega) ((I.o k x q g D).below d);clear g D P;go_wp2_with fail
    refine B.mono ?_;rintro o X ⟨⟨Q,rfl⟩,z⟩;clear B;cases Q with
    |true=>
     go_wp2
     go_roundw
     case rel=>exact⟨k+1,aG,ad,aD h z⟩
     case measure=>exact aH
    |false=>
     go_wp2
     go_ret;exact⟨⟨_,rfl⟩,aD d z⟩
   ·have M:decide ((k:Int)<a.length)=false:=aJ
    go_wp2
    go_ret;exact⟨⟨_,rfl⟩,d⟩
def pg(s:bh):Bool:=if s.kind=1 then s.text.isEmpty else if s.kind=3 then s.name.isEmpty else decide (s.kind=2)||(decide (s.kind=4)&&s.name.isEmpty&&s.text.isEmpty)
theorem Ck(s:bh)(w:World):
 Calls prog 79 #[.agg #[.int .i64 s.kind,.string ⟨s.name.toArray⟩,.string ⟨s.text.toArray⟩]] w fun h w'=>h=.returned (.bool (pg s))/\Below w.heap.size w w':=by
 obtain⟨a,c,d⟩:=s;have b:Below w.heap.size w (w.alloc (.cells #[.int .i64 a,.string ⟨c.toArray⟩,.string ⟨d.toArray⟩] 86)):=az;unfold pg;simp only;have i:a=1∨a=2∨a=3∨a=4∨(a≠1/\a≠2/\a≠3/\a≠4):=ad;go_enter func79,ntmps79
 rcases i with rfl|rfl|rfl|rfl|⟨a1,e,f,g⟩
 ·go_wp2_with fail
  go_ret;exact⟨rfl,b⟩
 ·go_wp2_with fail
  go_ret;exact⟨rfl,b⟩
 ·go_wp2_with fail
  go_ret;exact⟨rfl,b⟩
 ·cases o:c.isEmpty<;>cases p:d.isEmpty<;>(go_wp2_with fail;go_ret;exact⟨rfl,b⟩)
 ·have j:(a==1)=false:=by simpa using a1
  have l:(a==2)=false:=by simpa using e
  have m:(a==3)=false:=by simpa using f
  have n:(a==4)=false:=by simpa using g
  go_wp2
  go_ret;exact⟨rfl,b⟩
theorem K2:(prog.info? 86).map (fun i=>(i.zero,i.size,i.bytes))=some (some (.agg #[.int .i64 0,.string ⟨#[]⟩,.string ⟨#[]⟩]),3,40):=ay
theorem Cl(l:List bh)(o:Option Addr)(cap:Nat)(w:World)(t:iq w o cap l)(a0:l.length<=1048576):
 Calls prog 13 #[.slice o l.length cap] w fun f w'=>∃o' I,f=.returned (.slice o' l.length I)/\iq w' o' I l/\Below w.heap.size w w':=by
 obtain⟨aa,T,X,Y,Z⟩:=cL K2;have a1:=t.2.1;have R:=t.2.2.1;unfold maxLen at R;go_enter func13,ntmps13
 go_wp2
 go_loopw [3,4] (fun v i wr=>∃k:Nat,i=.int .i64 k/\k<=l.length/\wr.ownsRow w.heap.size 86 3 v k ((l.take k).flatMap ml)/\Below w.heap.size w wr) (fun _ i _=>l.length-(intOf i).toNat)
 case atStart=>exact⟨0,rfl,aK _,cR _ _ _ _,aA _ _⟩
 case round=>
  obtain⟨k,rfl,ao,d,c⟩:=hrel;by_cases V:k<l.length
  ·have S:decide ((k:Int)<l.length)=true:=aM
   have av:(k:Int)<l.length:=ad;have aq:(0:Int)<=k:=ad;obtain⟨n,E⟩:∃n,l[k]?=some n:=⟨_,aF V⟩;obtain⟨b,a,rfl,y,F,G,H⟩:=t.at E;have K:(l.take (k+1)).flatMap ml=(l.take k).flatMap ml++ml n:=by rw[bG,E];simp
   obtain⟨g,h,m⟩:=n;simp only at F G H;have ab:=(c.cell (p:=⟨b,a+k*3,none⟩) y).trans F;have ae:=(c.cell (p:=⟨b,a+k*3+1,none⟩) y).trans G;have af:=(c.cell (p:=⟨b,a+k*3+2,none⟩) y).trans H;have A:b<wr.heap.size:=by have:=c.size;omega
   clear F G H;obtain⟨s,r,rfl⟩:=cJ d;have D:some b≠(Value.slice s k r).ownBlock:=fun f=>by have:=(bX d _ f.symm).1;omega
   have M:=ah K;clear K E;have x:∀w',Below wr.heap.size wr w'->w'.cell? ⟨b,a+k*3,none⟩=some (.int .i64 g)/\w'.cell? ⟨b,a+k*3+1,none⟩=some (.string ⟨h.toArray⟩)/\w'.cell? ⟨b,a+k*3+2,none⟩=some (.string ⟨m.toArray⟩):=fun w' e=>⟨(e.cell (p:=⟨b,a+k*3,none⟩) A).trans ab,(e.cell (p:=⟨b,a+k*3+1,none⟩) A).trans ae,(e.cell (p:=⟨b,a+k*3+2,none⟩) A).trans af⟩;have Q:∀u q:World,Below wr.heap.size wr u->u.grownBy q (Value.slice s k r).ownBlock->q.cell? ⟨b,a+k*3,none⟩=some (.int .i64 g)/\q.cell? ⟨b,a+k*3+1,none⟩=some (.string ⟨h.toArray⟩)/\q.cell? ⟨b,a+k*3+2,none⟩=some (.string ⟨m.toArray⟩):=by
    intro u q e B;have C:b<u.heap.size:=by have:=e.size;omega
    obtain⟨N,O,P⟩:=x u e;exact⟨(B.cell_far ⟨b,a+k*3,none⟩ C D).trans N,(B.cell_far ⟨b,a+k*3+1,none⟩ C D).trans O,(B.cell_far ⟨b,a+k*3+2,none⟩ C D).trans P⟩
   have an:=(aA wr.heap.size wr).drew;go_wp2_with fail
   go_region_held3(fun w'=>w'.cell? ⟨b,a+k*3,none⟩=some (.int .i64 g)/\w'.cell? ⟨b,a+k*3+1,none⟩=some (.string ⟨h.toArray⟩)/\w'.cell? ⟨b,a+k*3+2,none⟩=some (.string ⟨m.toArray⟩))
    (first
      |exact x _ dQ
      |exact x _ (zP dQ (Below.size dQ) _)
      |exact Q _ _ (by first|exact az.drew|exact((aA _ wr).drew).alloc ak _) J)
    (first
      |((refine pO _ (by rfl) _ _ _ (by rfl) w.heap.size 86 aa _ 3 40 underlying41 T X Y Z rfl ad (.slice s k r) k ((l.take k).flatMap ml) (by rfl) (by(first|exact dA d.drew _|exact(dA d _).drew)) ⟨wr.heap.size,0,none⟩ 1 1 [.int .i64 g,.string ⟨h.toArray⟩,.string ⟨m.toArray⟩] (by rfl) (by rfl) (by exact dt wr.drew [.int .i64 g,.string ⟨h.toArray⟩,.string ⟨m.toArray⟩] _ _ rfl) (fun z L=>by simp at L;rcases L with rfl|rfl|rfl<;>rfl) ad bN ad (by have:=c.size;simp;omega) _ rfl ?_;intro ag gc w1 W J al a2)))
   go_wp2
   go_roundw
   case rel=>
    refine⟨k+1,aG,ad,?_,?_⟩
    ·rw[M.o];exact W
    ·exact((c.alloc c.size _).drew).grown J (by have:=c.size;simp;omega) (fun j f=>by have:=(bX d j f).1;omega)
   case measure=>exact aH
  ·have S:decide ((k:Int)<l.length)=false:=aJ
   obtain rfl:k=l.length:=ad;rw[bx ad]at d;obtain⟨s,r,rfl⟩:=cJ d
   go_wp2
   go_ret;exact⟨_,_,rfl,mC d,c⟩
structure lT(S:World->Nat->Prop):Prop where
 lt:∀{W b},S W b->b<W.heap.size
 grow:∀{W W' b},S W b->Below W.heap.size W W'->S W' b
 new:∀{W W' b b0},S W b0->Below W.heap.size W W'->W.heap.size<=b->b<W'.heap.size->S W' b
 put:∀{W b l o o'},S W b->W.heap[l]?=some o->o.isCells=false->o'.isCells=false->S (W.putObj l o') b
structure Kp(S:World->Nat->Prop)(W W':World):Prop where
 size:W.heap.size<=W'.heap.size
 same:∀b,S W b->S W' b/\W'.heap[b]?=W.heap[b]?
theorem Kp.refl(S:World->Nat->Prop)(W:World):Kp S W W:=⟨aB _,fun b a=>⟨a,rfl⟩⟩
theorem Kp.trans{S:World->Nat->Prop}{a b c:World}(d:Kp S a b)(k:Kp S b c):Kp S a c:=
 ⟨aR d.size k.size,fun x e=>⟨(k.same x (d.same x e).1).1,(k.same x (d.same x e).1).2.trans (d.same x e).2⟩⟩
theorem Kp.of{S:World->Nat->Prop}(c:lT S){W W':World}(a:Below W.heap.size W W'):Kp S W W':=
 ⟨a.size,fun b d=>⟨c.grow d a,a.block b (c.lt d)⟩⟩
theorem Kp.cell{S:World->Nat->Prop}{W W':World}(c:Kp S W W'){b a:Nat}(d:S W b):W'.cell? ⟨b,a,none⟩=W.cell? ⟨b,a,none⟩:=
 dB (c.same b d).2
theorem Kp.tree{S:World->Nat->Prop}(e:lT S){W W':World}(a:Kp S W W'){t:Tr}{r:KA}(d:cg W (S W) t r):cg W' (S W') t r:=
 d.kept a.size fun b g f c=>⟨a.cell c,(a.same b c).1⟩
theorem yd{W:World}{l c:Nat}{o:Obj}(a:W.heap[l]?=some o)(b:o.isCells=false):W.cell? ⟨l,c,none⟩=none:=by
 cases o with
 |cells=>cases b
 |_=>simp[World.cell?,a]
theorem k9(W:World)(l:Nat)(o:Obj):(W.putObj l o).heap.size=W.heap.size:=by simp[World.putObj]
theorem Dc{W:World}{l b d:Nat}{o o':Obj}(c:W.heap[l]?=some o)(f:o.isCells=false)(g:o'.isCells=false):(W.putObj l o').cell? ⟨b,d,none⟩=W.cell? ⟨b,d,none⟩:=by
 by_cases a:b=l
 ·subst a
  rw[yd c f,yd (sU (gW.1 c).1) g]
 ·exact dB (dJ (fun e=>a e))
theorem uN{S:World->Nat->Prop}(e:lT S){W:World}{l:Nat}{o o':Obj}(a:W.heap[l]?=some o)(c:o.isCells=false)(d:o'.isCells=false){t:Tr}{r:KA}(g:cg W (S W) t r):cg (W.putObj l o') (S (W.putObj l o')) t r:=
 g.kept (by rw[k9];exact aB _) fun b i h f=>⟨Dc a c d,e.put f a c d⟩
theorem Mb{W:World}{l:Nat}{o o':Obj}(e:W.heap[l]?=some o)(f:o.isCells=false)(g:o'.isCells=false){p:Option Addr}{n c s:Nat}{xs:List Value}(a:cS W p n c s xs):cS (W.putObj l o') p n c s xs:=by refine⟨a.1,a.2.1,a.2.2.1,fun m=> ?_⟩;obtain⟨b,r,d,i,q⟩:=a.2.2.2 m;exact⟨b,r,d,by rw[k9];exact i,fun j u h=>(Dc e f g).trans (q j u h)⟩
theorem Dd{m m':Nat}{P:Program}{l:Nat}{args:Array Value}{W:World}{a:Ending->World->Prop}(b:YieldAt Fence.wide m P l args W a):YieldAt Fence.wide m' P l args W a:=by obtain⟨fn,tmps,assign,body,e,hF,d⟩:=b;exact⟨fn,tmps,assign,body,e,hF,fun c cs _=>d c cs (room_wide _)⟩
def De(S:World->Nat->Prop)(P:Program)(g:Nat)(h:Array Value)(d:Nat)(f:Nat->World->Array Value->Prop)(w:World):Prop:=
 ∀(l:Nat) (Inv:Nat->World->Prop) (W:World),Below w.heap.size w W->
  (∀k a e,Inv k a->Below a.heap.size a e->Inv k e)->
  (∀k a b o o',Inv k a->W.heap.size<=b->a.heap[b]?=some o->o.isCells=false->o'.isCells=false->Inv k (a.putObj b o'))->
  (∀k a args,k<d->Inv k a->f k a args->YieldAt Fence.wide 0 P l args a (fun c W'=>c=.returned (.bool true)/\Inv (k+1) W'/\Kp S a W'))->
  Inv 0 W->
  Calls P g (#[.func (.yield l) #[] #[]]++h) W (fun c W'=>(∃v,c=.returned v)/\Inv d W'/\Kp S W W')
theorem Df{P:Program}{S:World->Nat->Prop}(d:lT S){g:Operand}{ps:Array Tmp}{assign body:Code}{Q:Exit->Act->World->Prop}{a:Act}{w:World}(a3:Nat)(a0:S w a3)(n y:Nat)(I:Array Value)(J:Nat)(K:Nat->World->Array Value->Prop)
 (bm:a.eval g=.func (.func y) #[] I) (a4:∀args w,(callFunc y args).run P w=.ok (.enter y args) w) (bf:De S P y I J K w) (bz:∀k W args,K k W args->args.size=ps.size)
 (h:Nat->World->Prop)
 (ag:∀k c F,h k c->Below c.heap.size c F->h k F)
 (M:∀k c b o o',h k c->w.heap.size<=b->c.heap[b]?=some o->o.isCells=false->o'.isCells=false->h k (c.putObj b o'))
 (a6:h 0 w)
 (bA:∀(l k:Nat) (W:World) (args:Array Value) (busy:Loop) (m:Nat),k<J->h k W->K k W args->w.heap.size<=l->(∃r,W.heap[l]?=some (.loop r))->
   assign.wpIn (Fence.wide.inRound l) m P (Exit.then (fun af W'=>Below W.heap.size W W'/\
    body.wpIn (Fence.wide.inRound l) m P (fun x _ G=>x=.normal/\h (k+1) G/\Kp S (W'.putObj l (.loop busy)) G) af (W'.putObj l (.loop busy))) (fun _ _ _=>False))
    {tmps:=(ps.zip args).foldl (fun t (p,v)=>t.setIfInBounds p v) a.tmps,defers:=[]} W)
 (bi:∀W,h J W->W.heap[w.heap.size]?=some (.deferred (some []))->S W w.heap.size->Kp S w W->Q .normal {a with defers:={target:=.collected w.heap.size,args:=#[]}::a.defers} W):
 (Code.rangeFunc g ps assign body).wpIn Fence.wide n P Q a w:=by
 refine wpIn_rangeFunc ?_;intro fn bl;obtain⟨u,j⟩:∃u:LoopState->Option Code->Loop,u=fun bZ bB=>{state:=bZ,pending:=bB,fn:=fn,tmps:=a.tmps,params:=ps,assign:=assign,body:=body,defers:=w.heap.size}:=⟨_,rfl⟩;obtain⟨c,D⟩:∃c,(w.alloc (.deferred (some []))).alloc (.loop (u .ready none))=c:=⟨_,rfl⟩;have A:Below w.heap.size w c:=by rw[<-D];exact az.alloc ak _
 have b5:c.heap.size=w.heap.size+2:=by rw[<-D];simp
 have ba:c.heap[w.heap.size+1]?=some (.loop (u .ready none)):=by rw[<-D];have:=zI (w.alloc (.deferred (some []))) (.loop (u .ready none));rwa[bI]at this
 have a9:c.heap[w.heap.size]?=some (.deferred (some [])):=by rw[<-D];exact(bH _ _ _ ak).trans (zI w _)
 have a7:h 0 c:=ag _ _ _ a6 A;refine⟨w.heap.size+1,[{target:=.collected w.heap.size,args:=#[]}],c,{target:=.fn (.func y) I,args:=#[.func (.yield (w.heap.size+1)) #[] #[]]},c,y,
  #[.func (.yield (w.heap.size+1)) #[] #[]]++I,c,?_,?_,?_,?_,(fun a5=>(by cases a5)),?_⟩
 ·rw[<-D,j];exact run_enterLoop_outer _ _ _ _ _
 ·simp only[resolve,bm]
  simp[go_sem]
 ·intro b2 _;trivial
 ·simp[invoke,go_sem,a4]
 ·have bc:S c (w.heap.size+1):=d.new a0 A ad ad
  have bb:S c w.heap.size:=d.new a0 A ad ad;refine(jF.2 (bf (w.heap.size+1) (fun k W=>h k W/\(W.heap[w.heap.size+1]?=some (.loop (u .ready none))/\S W (w.heap.size+1))/\W.heap[w.heap.size]?=some (.deferred (some []))/\S W w.heap.size) c A ?_ ?_ ?_ ⟨a7,⟨ba,bc⟩,a9,bb⟩)).mono ?_
  ·rintro k a2 B ⟨C,⟨z,Z⟩,H,aa⟩ e
   exact⟨ag _ _ _ C e,⟨(e.block _ (gW.1 z).1).trans z,d.grow Z e⟩,(e.block _ (gW.1 H).1).trans H,d.grow aa e⟩
  ·rintro k a2 b o o' ⟨C,⟨z,Z⟩,H,aa⟩ b3 T V X
   exact⟨M _ _ _ _ _ C ad T V X,⟨(dJ ad).trans z,d.put Z T V X⟩,(dJ ad).trans H,d.put aa T V X⟩
  ·rintro k W args bq ⟨R,⟨f,a1⟩,N,ae⟩ av
   have bu:w.heap.size+1<W.heap.size:=(gW.1 f).1;have Y:=run_yield (P:=P) (args:=args) f (by rw[j];exact bz k W args av);rw[j]at Y;refine⟨fn,_,assign,body,Y,roundIn_of_wpIn bl ?_⟩;clear Y;obtain⟨busy,al⟩:∃busy:Loop,busy={u .ready none with state:=.busy}:=⟨_,rfl⟩;refine wpIn_mono (bA (w.heap.size+1) k W args busy 0 bq R av ad ⟨_,f⟩) ?_;intro x af W' an;cases x with
   |normal=>
    obtain⟨q,be⟩:=an;have E:=(q.block _ bu).trans f;have bg:=(q.block _ ad).trans N;have bw:w.heap.size+1<W'.heap.size:=(gW.1 E).1;refine⟨W'.putObj (w.heap.size+1) (.loop busy),by rw[al];exact run_beginRound E (by rw[j]),wpIn_mono be ?_⟩;rintro b1 b0 G ⟨rfl,bo,s⟩;have bt:(W'.putObj (w.heap.size+1) (.loop busy)).heap[w.heap.size+1]?=some (.loop busy):=sU bw;obtain⟨bF,i⟩:=s.same _ (d.put (d.grow a1 q) E rfl rfl);obtain⟨bE,O⟩:=s.same _ (d.put (d.grow ae q) E rfl rfl)
    replace i:=i.trans bt
    replace O:=O.trans ((dJ ad).trans bg)
    have aq:w.heap.size+1<G.heap.size:=(gW.1 i).1;have ao:=run_endRound (P:=P) none (by rw[al]at i;exact i);rw[j]at ao;refine⟨_,_,ao,rfl,⟨M _ _ _ _ _ bo ad i rfl rfl,⟨by rw[j];exact sU aq,d.put bF i rfl rfl⟩,(dJ ad).trans O,d.put bE i rfl rfl⟩,?_⟩;refine⟨by have C:=q.size;have z:=s.size;rw[k9]at z⊢;omega,fun b e=> ?_⟩;obtain⟨ab,L⟩:=s.same b (d.put (d.grow e q) E rfl rfl);refine⟨d.put ab i rfl rfl,?_⟩;by_cases x:b=w.heap.size+1
    ·subst x
     rw[sU aq,f,j];rfl
    ·rw[dJ ad,L,dJ ad]
     exact q.block b (d.lt e)
   |_=>exact an.elim
  ·rintro x F ⟨⟨v,rfl⟩,⟨R,⟨f,a1⟩,N,ae⟩,s⟩
   have b4:w.heap.size+1<F.heap.size:=(gW.1 f).1;refine⟨none,_,by have:=run_endLoop (P:=P) f (by rw[j];simp);rw[j]at this;exact this,bi _ (M _ _ _ _ _ R ad f rfl rfl) ((dJ ad).trans N) (d.put ae f rfl rfl) ?_⟩;refine⟨by have C:=s.size;rw[k9];omega,fun b e=> ?_⟩;have bd:=d.lt e;obtain⟨ab,L⟩:=s.same b (d.grow e A);exact⟨d.put ab f rfl rfl,by rw[dJ ad,L];exact A.block b bd⟩
theorem rQ{F:Fence}{n:Nat}{P:Program}{fn:Func}{tmps:Array Value}{f:Ending->World->Prop}(c:World->Prop)(h:∀W,c W->LeavesInM F n P fn tmps f [] .returning W):
 ∀(b:List Nat) (W:World),b.Nodup->(∀a∈b,W.heap[a]?=some (.deferred (some [])))->c W->
  (∀W a,a∈b->W.heap[a]?=some (.deferred (some []))->c W->c (W.putObj a (.deferred none)))->LeavesInM F n P fn tmps f (b.map fun a=>{target:=.collected a,args:=#[]}) .returning W
 |[],W,_,_,e,_=>h W e
 |a::b,W,j,i,e,l=>by rw[gX];have g:=i a (f9 ..);refine⟨ak,.inl ⟨a,_,rfl,zK g,rQ c h b _ (vC.1 j).2 (fun E d=> ?_) (l W a (f9 ..) g e) (fun W E d=>l W E (f8 _ d))⟩⟩;have o:E≠a:=fun m=>(vC.1 j).1 (m▸d);exact(dJ o).trans (i E (f8 _ d))
end Go.Proofs.YtbacloblanpghaaGreatDoor
