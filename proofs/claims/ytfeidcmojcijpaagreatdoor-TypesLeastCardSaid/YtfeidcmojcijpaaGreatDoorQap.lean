import Derived.Test.YtfeidcmojcijpaaGreatDoorQao
set_option linter.all false
set_option maxRecDepth 100000
set_option maxHeartbeats 0
namespace Go.Proofs.YtfeidcmojcijpaaGreatDoor
open Go.RowKit Tryz
def kK(w:World)(P:Nat->Prop)(o:Option Addr)(n cap size:Nat)(xs:List Value):Prop:=
 xs=n*size/\n<=cap/\cap<=maxLen/\(0<n->∃b a,o=some ⟨b,a,none⟩/\b<w/\P b/\∀j u,xs[j]?=some u->gC w b (a+j) u)
def kK.row{w:World}{P:Nat->Prop}{o:Option Addr}{n cap size:Nat}{xs:List Value}(a:kK w P o n cap size xs):cn w o n cap size xs:=
 ⟨a.1,a.2.1,a.2.2.1,fun f=>by obtain⟨b,g,e,c,_,d⟩:=a.2.2.2 f;exact⟨b,g,e,c,d⟩⟩
def kK.zw{w w':World}{P Q:Nat->Prop}{o:Option Addr}{n cap size:Nat}{xs:List Value}(a:kK w P o n cap size xs)(m:w.heap.size<=w'.heap.size)
 (g:∀b c,b<w.heap.size->P b->w'.cell? ⟨b,c,none⟩=w.cell? ⟨b,c,none⟩/\Q b):kK w' Q o n cap size xs:=
 ⟨a.1,a.2.1,a.2.2.1,fun l=>by obtain⟨b,c,e,d,f,h⟩:=a.2.2.2 l;exact⟨b,c,e,ad,(g b 0 d f).2,fun j u i=>(g b _ d f).1.Z (h j u i)⟩⟩
def pz(s:dI):List Value:=[s.kind,s.name,s.text]
def qO(w:World)(o:Option Addr)(cap:Nat)(l:List dI):Prop:=cn w o l cap 3 (l.flatMap pz)
def qO.O{w w':World}{o:Option Addr}{cap:Nat}{l:List dI}(a:qO w o cap l)(b:Below w.heap.size w w'):qO w' o cap l:=cn.O a b
def qO.at{w:World}{o:Option Addr}{cap:Nat}{l:List dI}(h:qO w o cap l){k:Nat}{s:dI}(g:l[k]?=some s):
 ∃b a,o=some ⟨b,a,none⟩/\b<w.heap.size/\w.cell? ⟨b,a+k*3,none⟩=some (.int .i64 s.kind)/\w.cell? ⟨b,a+k*3+1,none⟩=some (.string ⟨s.name.toArray⟩)/\w.cell? ⟨b,a+k*3+2,none⟩=some (.string ⟨s.text.toArray⟩):=by
 have j:=(aF.1 g).1;have⟨b,a,e,i,c⟩:=h.2.2.2 ad;have d:=oC (f:=pz) 3 (fun _=>rfl) g;refine⟨b,a,e,i,?_,?_,?_⟩;exact c _ _ ((d 0 ad).Z rfl);have:=c _ _ ((d 1 ad).Z rfl);omega;have:=c _ _ ((d 2 ad).Z rfl);omega
def kL(a:Bytes×Bytes):List Value:=[.string ⟨a.1⟩,.string ⟨a.2⟩]
structure KA where
 ao:Option Addr
 ac:Nat
 ko:Option Addr
 kc:Nat
def oH(t:Tr)(r:KA):List Value:=[t.zv,t.text,.slice r.ao t.zx r.ac,.slice r.ko t.zs r.kc]
def kidRows(ks:List Tr)(rs:List KA):List Value:=(ks.zip rs).flatMap fun p=>oH p.1 p.2
inductive cE(w:World)(P:Nat->Prop):Tr->KA->Prop
 |mk {l x:Bytes} {av:List (Bytes×Bytes)} {ks:List Tr} {r:KA} (ha:kK w P r.ao av.length r.ac 2 (av.flatMap kL)) (rs:List KA) (hn:rs.length=ks.length)
   (hk:kK w P r.ko ks.length r.kc 4 (kidRows ks rs)) (hs:∀(i:Nat) (k:Tr) (q:KA),ks[i]?=some k->rs[i]?=some q->cE w P k q):cE w P (.mk l x av ks) r
def fM(w:World)(t:Tr)(r:KA):Prop:=cE w (fun _=>True) t r
def cE.zw{w w':World}{P Q:Nat->Prop}{t:Tr}{r:KA}(e:cE w P t r)(c:w.heap.size<=w'.heap.size)
 (a:∀b d,b<w.heap.size->P b->w'.cell? ⟨b,d,none⟩=w.cell? ⟨b,d,none⟩/\Q b):cE w' Q t r:=by
 induction e with
 |mk f rs h g _ ih=>exact .mk (f.zw c a) rs h (g.zw c a) ih
def cE.grow{w w':World}{P:Nat->Prop}{t:Tr}{r:KA}(c:cE w P t r)(a:Below w.heap.size w w'):cE w' P t r:=
 c.zw a.size fun b f d e=>⟨a.cell d,e⟩
def fM.O{w w':World}{t:Tr}{r:KA}(a:fM w t r)(b:Below w.heap.size w w'):fM w' t r:=cE.grow a b
def cE.at_{w:World}{P:Nat->Prop}{t:Tr}{r:KA}(a:cE w P t r):fM w t r:=a.zw (ay _) fun b c _ _=>⟨rfl,trivial⟩
def fM.attr{w:World}{t:Tr}{r:KA}(a:fM w t r):cn w r.ao t.zx.length r.ac 2 (t.zx.flatMap kL):=by
 cases a with
 |mk b rs d c e=>exact b.row
def pA{w o cap}{av:List _}(i:cn w o av cap 2 (av.flatMap kL)){k a}(h:av[k]?=some a):
 ∃b c,o=some ⟨b,c,none⟩/\b<w/\gC w b (c+k*2) (.string ⟨a.1⟩)/\gC w b (c+k*2+1) (.string ⟨a.2⟩):=by
 have l:=(aF.1 h).1;have⟨b,c,e,j,d⟩:=i.2.2.2 ad;have g:=oC (f:=kL) 2 (fun _=>rfl) h;refine⟨b,c,e,j,?_,?_⟩;exact d _ _ ((g 0 ad).Z rfl);have:=d _ _ ((g 1 ad).Z rfl);omega
def fM.zs{w:World}{t:Tr}{r:KA}(a:fM w t r):∃rs:List KA,rs.length=t.zs.length/\cn w r.ko t.zs.length r.kc 4 (kidRows t.zs rs)/\∀(i:Nat) (k:Tr) (q:KA),t.zs[i]?=some k->rs[i]?=some q->fM w k q:=by
 cases a with
 |mk e rs c b d=>exact⟨rs,c,b.row,d⟩
def qP{w o cap ks rs}(r:rs.length=ks.length)(j:cn w o ks.length cap 4 (kidRows ks rs)){i k}(h:ks[i]?=some k):
 ∃b a q,rs[i]?=some q/\o=some ⟨b,a,none⟩/\b<w/\gC w b (a+i*4) k.zv/\gC w b (a+i*4+1) k.text/\gC w b (a+i*4+2) (.slice q.ao k.zx q.ac)/\gC w b (a+i*4+3) (.slice q.ko k.zs q.kc):=by
 have n:=(aF.1 h).1;have⟨b,a,e,l,c⟩:=j.2.2.2 ad;have⟨q,g⟩:=df rs i;have m:(ks.zip rs)[i]?=some (k,q):=by rw[List.getElem?_zip_eq_some];exact⟨h,g⟩
 have d:=oC (f:=fun p=>oH p.1 p.2) 4 (fun _=>rfl) m;refine⟨b,a,q,g,e,l,?_,?_,?_,?_⟩;exact c _ _ ((d 0 ad).Z rfl);have:=c _ _ ((d 1 ad).Z rfl);omega;have:=c _ _ ((d 2 ad).Z rfl);omega;have:=c _ _ ((d 3 ad).Z rfl);omega
def zz_mt(t:Tr)(r:KA):Is (#[.string ⟨t.zv.toArray⟩,.string ⟨t.text.toArray⟩,.slice r.ao t.zx.length r.ac,.slice r.ko t.zs.length r.kc]:Array Value):={}
namespace U
def BytesAt(w:World)(b a:Nat)(l:Bytes):Prop:=∀i,i<l.length->w.cell? ⟨b,a+i,none⟩=some (.int .u8 ((l.getD i 0).toNat:Nat))
def BytesAt.O{c:Nat}{w w':World}{b a:Nat}{l:Bytes}(d:BytesAt w b a l)(e:b<c)(f:Below c w w'):BytesAt w' b a l:=fun i g=>by rw[f.cell (p:=⟨b,a+i,none⟩) e];exact d i g
def check_nil(o:Option Addr)(cap:Nat)(w:World):Calls prog 201 #[.slice o 0 cap] w fun e w'=>e=.returned (.tuple #[.int .i64 0,.int .i64 0])/\w'=w:=by
 go_enter func201,ntmps201
 go_wp2_with fail
 go_step3
 go_wp2_with fail
 go_step3
 go_wp2
 go_loopw [4] (fun i wr=>i=.int .i64 0/\wr=w) (fun _ _=>0)
 case atStart=>exact⟨rfl,rfl⟩
 case round=>
  obtain⟨rfl,rfl⟩:=hrel;go_wp2_with fail
  rw[sf];go_ret2
  exact⟨rfl,rfl⟩
end U
structure Gl(w:World):Prop where
 tab0:3<w.heap.size
 tab:Go.Proofs.TabAt 3 Lib.deBruijn64tab w
def Gl.grow{w w':World}{a:Nat}(b:Gl w)(c:Below a w w')(e:w.heap.size<=a):Gl w':=
 ⟨by have:=c.size;have:=b.tab0;omega,fun j d=>(c.cell (by have:=b.tab0;show 3<a;omega)).Z (b.tab j d)⟩
def Gl.O{w w':World}(a:Gl w)(b:Below w.heap.size w w'):Gl w':=a.grow b (ay _)
def lq(w:World)(o:Option Addr)(cap:Nat)(l:List (Bytes×Bytes)):Prop:=cn w o l cap 2 (l.flatMap kL)
def lq.O{w w':World}{o:Option Addr}{cap:Nat}{l:List (Bytes×Bytes)}(a:lq w o cap l)(b:Below w.heap.size w w'):lq w' o cap l:=cn.O a b
def L9{F:Nat}{caps}(l:List _) o cap w(d:lq w o cap l)(u:l.length<=1048576)
 (r:∀args h,(callFunc F args).run prog h=.ok (.enter F args) h)
 (f:∀x∈l,∀w1,aR w w1->cX F (#[.agg #[.string ⟨x.1⟩,.string ⟨x.2⟩]]++caps) w1 false):
 cX 200 #[.slice o l cap,.func (.func F) #[] caps] w (.int .i64 (-1)):=by
 have y:=d.2.1;have n:=d.2.2.1;unfold maxLen at n;have i:=ah f;clear f
 go_in
 go_wp2
 go_loopw [8] (fun v wr=>∃k:Nat,v=.int .i64 k/\k<=l/\aR w wr) (fun v _=>l-(intOf v).toNat)
 case atStart=>exact⟨0,rfl,aH _,aA _ _⟩
 case round=>
  obtain⟨k,rfl,s,a⟩:=hrel;by_cases c:k<l
  ·have p:=bC c
   have t:=bk c;have⟨x,e⟩:=aT c;obtain⟨b,z,rfl,q,B,C⟩:=pA (d.O a) e;have g:=i.o x (aK e) wr a;clear e;go_wp2_with fail
   refine ar g ?_;intro A j;clear g;have m:=a.Z (j.zz a.size)
   go_wp2
   go_roundw
   case rel=>exact⟨k+1,aD,ad,m⟩
   case measure=>exact aM
  have p:=bG c
  go_wp2
  go_ret;exact⟨rfl,a⟩
def Ei{F:Nat}{caps}(l:List _) o cap w(a:lq w o cap l)(e:l.length<=1048576)
 (b:∀args f,(callFunc F args).run prog f=.ok (.enter F args) f)
 (c:∀x∈l,∀w1,aR w w1->cX F (#[.agg #[.string ⟨x.1⟩,.string ⟨x.2⟩]]++caps) w1 false):
 cX 134 #[.slice o l cap,.func (.func F) #[] caps] w false:=by
 have d:=L9 l o cap w a e b c;clear a e b c
 go_in
 go_wp2_with fail
 refine ar d ?_;intro h g;clear d
 go_wp2
 go_ret;exact⟨rfl,g⟩
def Ej w:cX 137 #[.string ⟨#[]⟩] w true:=by
 have a:=Wu w 9 129 5 ⟨#[]⟩ iI underlying129 underlying5;have c:=Lib.bytesWorld_below w 5 ⟨#[]⟩;rw[show(⟨_⟩:ByteArray).size=0 from rfl]at a;generalize grownCap w 0 0 5=cap at a;have⟨e,b⟩:=am (Lib.bytesWorld w 5 ⟨#[]⟩);rw[<-b]at a c;clear b;have d:=U.check_nil w cap e
 go_in
 go_wp2_with fail
 refine ar d ?_;rintro f rfl;clear d a
 go_wp2
 go_ret;exact⟨rfl,c⟩
def cA(t:Tr)(r:KA):Value:=.agg (zz_mt t r)
structure uG(t:Tr):Prop where
 zv:t.zv.length<=1048576
 text:t.text.length<=1048576
 zx:t.zx.length<=1048576
 attr:∀a∈t.zx,a.1.length<=1048576/\a.2.length<=1048576
 zs:t.zs.length<=1048576
def Ek:∀args a,(callFunc 133 args).run prog a=.ok (.enter 133 args) a:=fun _ _=>rfl
def El:∀args a,(callFunc 136 args).run prog a=.ok (.enter 136 args) a:=fun _ _=>rfl
structure xz(t:Tr):Prop where
 zv:t.zv≠[]
 name:bp t.zv=true
 text:t.text=[]
 zx:t.zx.length<=1
 attr:∀a∈t.zx,bp a.1=true/\a.2=[]
 zs:t.zs.length<=1
def Ma(a:Bytes×Bytes) w(g:a.1.length<=1048576)(b:bp a.1=true):cX 133 #[.agg #[.string ⟨a.1⟩,.string ⟨a.2⟩]] w false:=by
 have b:∀w,Calls prog 102 #[.string ⟨a.1.toArray⟩] w fun e w'=>e=.returned (.bool true)/\Below w.heap.size w w':=fun w=>by have:=oD ⟨a.1.toArray⟩ w (by rw[eJ];show a.1.length<=_;omega);rwa[b]at this
 have c:aR w (cT w #[.string ⟨a.1⟩,.string ⟨a.2⟩] 59):=aP
 go_in
 go_wp2_with fail
 refine ar (b _) ?_;intro h d;have f:=aE c d;clear b c d
 go_wp2
 go_ret;exact⟨rfl,f⟩
def Mb(a:Bytes) w:cX 136 #[.agg #[a,.string ⟨#[]⟩]] w false:=by
 have b:aR w (cT w #[a,.string ⟨#[]⟩] 59):=aP;have d:=Ej (cT w #[a,.string ⟨#[]⟩] 59)
 go_in
 go_wp2_with fail
 refine ar d ?_;intro f c;have e:=aE b c;clear d b c
 go_wp2
 go_ret;exact⟨rfl,e⟩
def pE(F:Nat):Prop:=∀t r w,fM w t r->uG t->xz t->cX F #[cA t r] w false
def sH{F:Nat}(o:∀c (l:Bytes) (av:List _) (ks:List Tr) ao ac ko kc w,lq w ao ac av->bp (c::l)=true->(c::l).length<=1048576->av.length<=1->ks.length<=1->(∀a∈av,bp a.1=true/\a.2=[]/\a.1.length<=1048576)->
 aR w (cT w #[.string ⟨(c::l)⟩,.string ⟨#[]⟩,.slice ao av ac,.slice ko ks kc] 36)->
 cX F #[.agg #[.string ⟨(c::l)⟩,.string ⟨#[]⟩,.slice ao av ac,.slice ko ks kc]] w false):pE F:=by
 intro t r w q p ⟨e,f,g,h,b,i⟩;have j:lq w r.ao r.ac t.zx:=q.attr;obtain⟨m,_,_,n,_⟩:=p;obtain⟨l,x,av,ks⟩:=t;simp only[Tr.zv,Tr.text,Tr.zx,Tr.zs]at e f g h b i j m n;subst g;cases l with
 |nil=>exact absurd rfl e
 |cons c l=>exact o c l av ks _ _ _ _ w j f m h i (fun a d=>⟨(b a d).1,(b a d).2,(n a d).1⟩) aP
def Mc:pE 131:=sH fun c l av ks b ac m j w f i h e g d a=>by
 go_in
 go_wp2
 go_ret;exact⟨rfl,a⟩
def Md:pE 138:=sH fun c l av ks b ac m j w f i h e g d a=>by
 go_in
 go_wp2
 go_ret;exact⟨rfl,a⟩
def Me:pE 139:=sH fun c l av ks d ac g f w n r q m p j e=>by
 have o:decide ((1:Int)<av)=false:=bU;have⟨h,a⟩:=am (w.alloc (.cells #[.string ⟨(c::l)⟩,.string ⟨#[]⟩,.slice d av ac,.slice g ks f] 36));have b:=aN w (.cells #[.string ⟨(c::l)⟩,.string ⟨#[]⟩,.slice d av ac,.slice g ks f] 36);rw[<-a]at e b;have i:=ak 2 b
 go_in
 go_wp2_with fail
 rw[<-a];clear a b;go_loopw [3] (fun v wr=>v=.int .i64 1/\wr=h) (fun _ _=>0)
 case atStart=>simp
 case round=>
  obtain⟨rfl,rfl⟩:=hrel
  go_wp2
  go_ret;exact⟨rfl,e⟩
def Mf:pE 140:=sH fun c l av ks d ac g f w n r q m p j e=>by
 have o:decide ((1:Int)<ks)=false:=bU;have⟨h,a⟩:=am (w.alloc (.cells #[.string ⟨(c::l)⟩,.string ⟨#[]⟩,.slice d av ac,.slice g ks f] 36));have b:=aN w (.cells #[.string ⟨(c::l)⟩,.string ⟨#[]⟩,.slice d av ac,.slice g ks f] 36);rw[<-a]at e b;have i:=ak 3 b
 go_in
 go_wp2_with fail
 rw[<-a];clear a b;go_loopw [3] (fun v wr=>v=.int .i64 1/\wr=h) (fun _ _=>0)
 case atStart=>simp
 case round=>
  obtain⟨rfl,rfl⟩:=hrel
  go_wp2
  go_ret;exact⟨rfl,e⟩
def Mg:pE 132:=sH fun c l av ks g ac v u w o s H i G h p=>by
 obtain⟨f,m⟩:=am (w.alloc (.cells #[.string ⟨(c::l)⟩,.string ⟨#[]⟩,.slice g av ac,.slice v ks u] 36));have d:=aN w (.cells #[.string ⟨(c::l)⟩,.string ⟨#[]⟩,.slice g av ac,.slice v ks u] 36);rw[<-m]at p d;have B:=aS d;have C:=ak 0 d;have y:=ak 2 d;have E:=Ek;have b:=fun w1 z=>Ei (F:=133) (caps:=#[]) av g ac w1 (o.O z) ad Ek (fun a i x j=>Ma a x (h a i).2.2 (h a i).1);have t:Calls prog 102 #[.string ⟨(c::l).toArray⟩] f fun e w'=>e=.returned (.bool true)/\Below f.heap.size f w':=by have:=oD ⟨(c::l).toArray⟩ f (by rw[eJ];show(c::l).length<=_;omega);rwa[s]at this
 have n:=ah b;clear b o h s
 go_in
 go_wp2_with fail
 rw[<-m];clear m;refine ar t ?_;intro w1 r;have q:=aE p r;have D:=(r.cell B).Z y;have b:=n.o w1 q;clear t n;go_wp2_with fail
 refine ar b ?_;intro x j;have A:=aE q j;clear b j
 go_wp2
 go_ret;exact⟨rfl,A⟩
def Mh:pE 135:=sH fun c l av ks d ac s r w m y D j C i n=>by
 obtain⟨z,f⟩:=am (w.alloc (.cells #[.string ⟨(c::l)⟩,.string ⟨#[]⟩,.slice d av ac,.slice s ks r] 36));have g:=aN w (.cells #[.string ⟨(c::l)⟩,.string ⟨#[]⟩,.slice d av ac,.slice s ks r] 36);rw[<-f]at n g;have x:=aS g;have B:=El;have b:=fun w1 (u:Below w.heap.size w w1)=>Ei (F:=136) (caps:=#[]) av d ac w1 (m.O u) ad El (fun a j t e=>by rw[(i a j).2.1];exact Mb _ t);have q:=Ej z;have h:=ah b;clear b m i y
 go_in
 go_wp2_with fail
 rw[<-f];clear f;refine ar q ?_;intro w1 p;have o:=aE n p;have A:=ak 2 ((p.J _ x).Z g);have b:=h.o w1 o;clear q h;go_wp2_with fail
 refine ar b ?_;intro t e;have v:=aE o e;clear b e
 go_wp2
 go_ret;exact⟨rfl,v⟩
def O5:(prog.info? 91).map (fun i=>(i.zero,i.size,i.bytes))=some (some (.agg #[.int .i64 0,.string ⟨#[]⟩,.string ⟨#[]⟩]),3,40):=az
def FO:(prog.info? 59).map (fun i=>(i.zero,i.size,i.bytes))=some (some (.agg #[.string ⟨#[]⟩,.string ⟨#[]⟩]),2,32):=az
def A5:(prog.info? 36).map (fun i=>(i.zero,i.size,i.bytes))=some (some (.agg ik),4,80):=az
def aJ{w:World}{b cs t}(a:w.heap[b]?=some (.cells cs t (0,0))) j:w.frozen? ⟨b,j,none⟩=false:=by simp[World.frozen?,a]
def O6{ks rs}(a:rs.length=ks.length) k q:kidRows (ks++[k]) (rs++[q])=kidRows ks rs++oH k q:=by unfold kidRows;rw[List.zip_append ad];simp
def O7{w w' B size n e v xs}(b:w.ownsRow B e size v n xs)(c:aR w w'):w'.ownsRow B e size v n xs:=
 cm b (rm c) (by cases e:v.ownBlock with|none=>simp|some g=>exact .inr (fun a=>by cases a))
def yi{w:World}{a B' j size n:Nat}{e v u xs}(c:w.ownsRow (a+1) e size v n xs):(w.setCell ⟨a,j,none⟩ u).ownsRow (a+1) e size v n xs:=
 cm (row:=a) c ⟨rfl,rfl,rfl,by simp,fun k f d=>gq _ _ _ _ (fun e=>d (by rw[e]))⟩ (by
  cases e:v.ownBlock with
  |none=>simp
  |some g=>exact .inr (fun b=>by injection b with b;have:=(aY c _ e).1;omega))
def cE.set{w:World}{P:Nat->Prop}{t:Tr}{r:KA}{a j:Nat}{u:Value}(d:cE w P t r)(e:∀b,P b->b≠a):cE (w.setCell ⟨a,j,none⟩ u) P t r:=
 d.zw (by simp) fun b g f c=>⟨ej (gq _ _ _ _ (e b c)),c⟩
def A6{w B size n e vo vc xs}(d:w.ownsRow B e size (.slice vo n vc) n xs):kK w (fun b=>B<=b) vo n vc size xs:=by have a:=oM d;refine⟨a.1,a.2.1,a.2.2.1,fun h=> ?_⟩;obtain⟨b,i,c,g,f⟩:=a.2.2.2 h;exact⟨b,i,c,g,(aY d b (by rw[c];rfl)).1,f⟩
def O8(w:World) o{p v}(a:w.cell? p=some v)(b:p.block<w):(w.alloc o).cell? p=v:=(((aA _ w).alloc (ay _) o).cell b).Z a
structure nZ(S:World->Nat->Prop):Prop where
 lt:∀{W b},S W b->b<W.heap.size
 grow:∀{W W' b},S W b->Below W.heap.size W W'->S W' b
 new:∀{W W' b b0},S W b0->Below W.heap.size W W'->W.heap.size<=b->b<W'.heap.size->S W' b
 put:∀{W b l o o'},S W b->W.heap[l]?=some o->o.isCells=false->o'.isCells=false->S (W.putObj l o') b
structure Kp(S:World->Nat->Prop)(W W':World):Prop where
 size:W.heap.size<=W'.heap.size
 same:∀b,S W b->S W' b/\W'.heap[b]?=W.heap[b]?
def Kp.refl(S:World->Nat->Prop)(W:World):Kp S W W:=⟨ay _,fun b a=>⟨a,rfl⟩⟩
def Kp.Z{S:World->Nat->Prop}{a b c:World}(d:Kp S a b)(k:Kp S b c):Kp S a c:=
 ⟨aW d.size k.size,fun x e=>⟨(k.same x (d.same x e).1).1,(k.same x (d.same x e).1).2.Z (d.same x e).2⟩⟩
def Kp.of{S:World->Nat->Prop}(c:nZ S){W W':World}(a:Below W.heap.size W W'):Kp S W W':=
 ⟨a.size,fun b d=>⟨c.grow d a,a.J b (c.lt d)⟩⟩
def Kp.cell{S:World->Nat->Prop}{W W':World}(c:Kp S W W'){b a:Nat}(d:S W b):W'.cell? ⟨b,a,none⟩=W.cell? ⟨b,a,none⟩:=
 ej (c.same b d).2
def Kp.tree{S:World->Nat->Prop}(e:nZ S){W W':World}(a:Kp S W W'){t:Tr}{r:KA}(d:cE W (S W) t r):cE W' (S W') t r:=
 d.zw a.size fun b g f c=>⟨a.cell c,(a.same b c).1⟩
def vi{W:World}{l off o}(a:W.heap[l]?=some o)(b:o.isCells=false):W.cell? ⟨l,off,none⟩=none:=by
 cases o with
 |cells=>cases b
 |_=>simp[World.cell?,a]
def n5(W:World) l o:(W.putObj l o)=W.heap.size:=by simp
def Gj{W:World}{l b off o o'}(a:W.heap[l]?=some o)(d:o.isCells=false)(f:o'.isCells=false):(W.putObj l o').cell? ⟨b,off,none⟩=W.cell? ⟨b,off,none⟩:=by by_cases e:b=l;subst e;rw[vi a d,vi (wP (iJ.1 a).1) f];exact ej (eK (fun c=>e c))
def yy{S}(e:nZ S){W l o o'}(a:W.heap[l]?=some o)(c:o.isCells=false)(d:o'.isCells=false){t r}(g:cE W (S W) t r):cE (W.putObj l o') (S (W.putObj l o')) t r:=
 g.zw (by rw[n5];simp) fun b i h f=>⟨Gj a c d,e.put f a c d⟩
def Qs{W l o o'}(d:W.heap[l]?=some o)(f:o.isCells=false)(g:o'.isCells=false){p n c s xs}(a:cn W p n c s xs):cn (W.putObj l o') p n c s xs:=by refine⟨a.1,a.2.1,a.2.2.1,fun m=> ?_⟩;obtain⟨b,r,e,i,q⟩:=a.2.2.2 m;exact⟨b,r,e,by rw[n5];exact i,fun j u h=>(Gj d f g).Z (q j u h)⟩
def Gk{m m' P l args W R}(a:YieldAt Fence.wide m P l args W R):YieldAt Fence.wide m' P l args W R:=by obtain⟨fn,tmps,assign,body,d,hF,b⟩:=a;exact⟨fn,tmps,assign,body,d,hF,fun c cs _=>b c cs (room_wide _)⟩
def Gm(S:World->Nat->Prop)(P:Program)(g:Nat)(f:Array Value)(N:Nat)(d:Nat->World->Array Value->Prop)(w:World):Prop:=
 ∀l (Inv:Nat->World->Prop) W,aR w W->
  (∀k a c,Inv k a->aR a c->Inv k c)->
  (∀k a b o o',Inv k a->W.heap.size<=b->a.heap[b]?=some o->o.isCells=false->o'.isCells=false->Inv k (a.putObj b o'))->
  (∀k a args,k<N->Inv k a->d k a args->YieldAt Fence.wide 0 P l args a (fun e W'=>e=.returned true/\Inv (k+1) W'/\Kp S a W'))->
  Inv 0 W->
  Calls P g (#[.func (.yield l) #[] #[]]++f) W (fun e W'=>(∃v,e=.returned v)/\Inv N W'/\Kp S W W')
def Gn{P S}(c:nZ S){g ps assign body Q a w} b0(s:S w b0)(n j:Nat) lb N Ok
 (J:a.eval g=.func (.func j) #[] lb) (x:∀args w,(callFunc j args).run P w=.ok (.enter j args) w) (H:Gm S P j lb N Ok w) (O:∀k W args,Ok k W args->args.size=ps.size)
 (f:Nat->World->Prop)
 (y:∀k d z,f k d->aR d z->f k z)
 (B:∀k d b o o',f k d->w.heap.size<=b->d.heap[b]?=some o->o.isCells=false->o'.isCells=false->f k (d.putObj b o'))
 (C:f 0 w)
 (R:∀l k W args busy m,k<N->f k W->Ok k W args->w.heap.size<=l->(∃r,W.heap[l]?=some (.loop r))->
   assign.wpIn (Fence.wide.inRound l) m P (Exit.then (fun F W'=>aR W W'/\
    body.wpIn (Fence.wide.inRound l) m P (fun e _ A=>e=.normal/\f (k+1) A/\Kp S (W'.putObj l (.loop busy)) A) F (W'.putObj l (.loop busy))) (fun _ _ _=>False))
    {tmps:=(ps.zip args).foldl (fun t (p,v)=>t.setIfInBounds p v) a.tmps,defers:=[]} W)
 (K:∀W,f N W->W.heap[w.heap.size]?=some (.deferred (some []))->S W w->Kp S w W->Q .normal {a with defers:={target:=.collected w,args:=#[]}::a.defers} W):
 (Code.rangeFunc g ps assign body).wpIn Fence.wide n P Q a w:=by
 apply wpIn_rangeFunc;intro fn I;obtain⟨i,h⟩:∃i:LoopState->Option Code->Loop,i=fun st q=>{state:=st,pending:=q,fn:=fn,tmps:=a.tmps,params:=ps,assign:=assign,body:=body,defers:=w}:=⟨_,rfl⟩;obtain⟨d,q⟩:∃d,(w.alloc (.deferred (some []))).alloc (.loop (i .ready none))=d:=⟨_,rfl⟩;have u:aR w d:=by rw[<-q];exact aP.alloc aj _
 have D:d=w.heap.size+2:=by rw[<-q];simp
 have G:d.heap[w.heap.size+1]?=some (.loop (i .ready none)):=by rw[<-q];have:=Di (w.alloc (.deferred (some []))) (.loop (i .ready none));rwa[bP]at this
 have E:d.heap[w.heap.size]?=some (.deferred (some [])):=by rw[<-q];exact(br _ _ _ aj).Z (Di w _)
 have D:=y _ _ _ C u;refine⟨w+1,[{target:=.collected w,args:=#[]}],d,{target:=.fn (.func j) lb,args:=#[.func (.yield (w+1)) #[] #[]]},d,j,
  #[.func (.yield (w+1)) #[] #[]]++lb,d,?_,?_,?_,?_,(fun j=>(by cases j)),?_⟩
 rw[<-q,h];exact run_enterLoop_outer _ _ _ _ _;simp only[resolve,J];simp[go_sem];intro j _;trivial;simp[go_sem,x];have q:S d (w.heap.size+1):=c.new s u ad ad;have j:S d w.heap.size:=c.new s u ad ad;refine(lh.2 (H _ (fun k W=>f k W/\(W.heap[w.heap.size+1]?=some (.loop (i .ready none))/\S W (w+1))/\W.heap[w.heap.size]?=some (.deferred (some []))/\S W w) d u ?_ ?_ ?_ ⟨D,⟨G,q⟩,E,j⟩)).zz ?_;rintro k E j ⟨x,⟨s,C⟩,f,D⟩ d;exact⟨y _ _ _ x d,⟨(d.J _ (iJ.1 s).1).Z s,c.grow C d⟩,(d.J _ (iJ.1 f).1).Z f,c.grow D d⟩;rintro k E b o o' ⟨x,⟨s,C⟩,f,D⟩ G j q y;exact⟨B _ _ _ _ _ x ad j q y,⟨(eK ad).Z s,c.put C j q y⟩,(eK ad).Z f,c.put D j q y⟩;rintro k W args y ⟨D,⟨f,J⟩,C,E⟩ q;have M:=(iJ.1 f).1;have j:=run_yield (P:=P) (args:=args) f (by rw[h];exact O k W args q);rw[h]at j;refine⟨fn,_,assign,body,j,roundIn_of_wpIn I ?_⟩;clear j;obtain⟨busy,G⟩:∃busy,busy={i .ready none with state:=.busy}:=⟨_,rfl⟩;apply wpIn_mono (R _ k W args busy 0 y D q ad ⟨_,f⟩);intro e F W' H;cases e with
 |normal=>
  obtain⟨j,i⟩:=H;have y:=(j.J _ M).Z f;have F:=(j.J _ ad).Z C;have O:=(iJ.1 y).1;refine⟨_,G▸run_beginRound y (by rw[h]),wpIn_mono i ?_⟩;rintro I i A ⟨rfl,M,q⟩;have I:(W'.putObj (w+1) (.loop busy)).heap[w.heap.size+1]?=some (.loop busy):=wP O;have⟨R,i⟩:=q.same _ (c.put (c.grow J j) y rfl rfl);have⟨O,A⟩:=q.same _ (c.put (c.grow E j) y rfl rfl)
  replace i:=i.Z I
  replace A:=A.Z ((eK ad).Z F)
  have I:=(iJ.1 i).1;have F:=run_endRound (P:=P) none (by rwa[G]at i);rw[h]at F;refine⟨_,_,F,rfl,⟨B _ _ _ _ _ M ad i rfl rfl,⟨h.zy▸wP I,c.put R i rfl rfl⟩,(eK ad).Z A,c.put O i rfl rfl⟩,?_⟩;refine⟨by have x:=j.size;have s:=q.size;rw[n5]at s⊢;omega,fun b d=> ?_⟩;obtain⟨A,s⟩:=q.same b (c.put (c.grow d j) y rfl rfl);refine⟨c.put A i rfl rfl,?_⟩;by_cases e:b=w+1;subst e;rw[wP I,f,h];rfl;rw[eK ad,s,eK ad];exact j.J b (c.lt d)
 |_=>exact H.elim
 rintro e z ⟨⟨v,rfl⟩,⟨D,⟨f,J⟩,C,E⟩,q⟩;have i:=(iJ.1 f).1;refine⟨none,_,by have:=run_endLoop (P:=P) f (by rw[h];simp);rwa[h]at this,K _ (B _ _ _ _ _ D ad f rfl rfl) ((eK ad).Z C) (c.put E f rfl rfl) ?_⟩;refine⟨by have x:=q.size;rw[n5];omega,fun b d=> ?_⟩;have h:=c.lt d;have⟨A,s⟩:=q.same b (c.grow d u);exact⟨c.put A f rfl rfl,by rw[eK ad,s];exact u.J b h⟩
def Bx{F n P fn tmps R}(b:World->Prop)(g:∀W,b W->LeavesInM F n P fn tmps R [] .returning W):
 ∀(a:List Nat) W,a.Nodup->(∀D∈a,W.heap[D]?=some (.deferred (some [])))->b W->
  (∀W D,D∈a->W.heap[D]?=some (.deferred (some []))->b W->b (W.putObj D (.deferred none)))->LeavesInM F n P fn tmps R (a.map fun D=>{target:=.collected D,args:=#[]}) .returning W
 |[],W,_,_,d,_=>g W d
 |D::a,W,i,h,d,j=>by rw[dZ];have f:=h D (eV ..);refine⟨aj,.inl ⟨D,_,rfl,Dl f,Bx b g a _ (lS.1 i).2 (fun E c=> ?_) (j W D (eV ..) f d) (fun W E c=>j W E (dM _ c))⟩⟩;have l:E≠D:=fun e=>(lS.1 i).1 (e▸c);exact(eK l).Z (h E (dM _ c))
end Go.Proofs.YtfeidcmojcijpaaGreatDoor
