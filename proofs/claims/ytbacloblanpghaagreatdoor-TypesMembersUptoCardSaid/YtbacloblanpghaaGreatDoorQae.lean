import Derived.Test.YtbacloblanpghaaGreatDoorQab
import Derived.Test.YtbacloblanpghaaGreatDoorQad
set_option linter.unusedVariables false
set_option linter.unusedSimpArgs false
set_option maxRecDepth 100000
set_option maxHeartbeats 0
namespace Go.Proofs.YtbacloblanpghaaGreatDoor
open Go.RowKit Tryz
structure ar where
 op:Int
 sym:Bytes
 a:Int
 b:Int
structure ax where
 name:Bytes
 label:Bytes
 attrs:List Bytes
 key:Bytes
 text:Bool
 nodes:List ar
def bM(i:Nat)(x:Int):Bool:=decide (0<=x)&&decide (x<(i:Int))
def dG(i:Nat)(n:ar):Bool:=
 if n.op=0∨n.op=1 then n.sym.isEmpty&&decide (n.a=0)&&decide (n.b=0)
 else if n.op=2 then decide (n.a=0)&&decide (n.b=0)
 else if n.op=3∨n.op=4 then n.sym.isEmpty&&bM i n.a&&bM i n.b
 else if n.op=5 then n.sym.isEmpty&&bM i n.a&&decide (n.b=0)
 else false
def bU(n:ar):List Nat:=if n.op=3∨n.op=4 then [n.a.toNat,n.b.toNat]else if n.op=5 then [n.a.toNat]else []
def cY(l:List ar)(j:Nat):Nat:=(l.flatMap bU).count j
def dW:Nat->List ar->Bool
 |_,[]=>true
 |i,n::l=>dG i n&&dW (i+1) l
def gi(l:List ar):Bool:=dW 0 l&&(List.range (l.length-1)).all (fun j=>cY l j==1)&& !l.isEmpty
def cw(l:List ar):Int:=if 1024<l.length then 17 else if gi l=false then 12 else if l.any (fun n=>decide (n.op=2)&& !a8 n.sym)=true then 11 else 0
theorem Aj(i:Nat)(a b:List ar):dW i (a++b)=(dW i a&&dW (i+a.length) b):=by
 induction a generalizing i with
 |nil=>simp[dW]
 |cons n t ih=>
  simp only[fH,dW,ih,de,Bool.and_assoc];rw[show i+1+t.length=i+(t.length+1) by omega]
theorem vQ{l:List ar}{k:Nat}{n:ar}(a:l[k]?=some n):dW 0 (l.take (k+1))=(dW 0 (l.take k)&&dG k n):=by have b:=(aP.1 a).1;rw[bG,a,dR,Aj,dx,vt ad,cE];simp[dW]
theorem qY{l:List ar}{k:Nat}{n:ar}(a:l[k]?=some n)(j:Nat):cY (l.take (k+1)) j=cY (l.take k) j+(bU n).count j:=by unfold cY;rw[bG,a,dR,pE,pF];simp
theorem vR{l:List ar}{k:Nat}{n:ar}(a:l[k]?=some n)(d:dG k n=false):gi l=false:=by
 have b:dW 0 (l.take (k+1))=false:=by rw[vQ a,d,Bool.and_false]
 have c:dW 0 l=(dW 0 (l.take (k+1))&&dW (0+(l.take (k+1)).length) (l.drop (k+1))):=by
  conv=>lhs;rw[<-jC (k+1) l]
  rw[Aj]
 unfold gi;rw[c,b];simp
def cZ:List Bytes->List Bytes
 |[]=>[]
 |[a]=>[a]
 |a::b::t=>if a=b then cZ (b::t)else a::cZ (b::t)
def br(x y:Bytes):Bool:=decide (x<=y)
def fL(l:List ar):List Bytes:=l.filterMap fun n=>if n.op=2 then some n.sym else none
def symsS(l:List ar):List Bytes:=if cw l=0 then cZ ((fL l).mergeSort br)else []
def kq:Nat->List ax->Bytes->Option Nat->Option Nat
 |_,[],_,r=>r
 |i,t::ts,n,r=>kq (i+1) ts n (if t.name=n then some i else r)
def placeS(ts:List ax)(n:Bytes):Option Nat:=kq 0 ts n none
def kidsS(ts:List ax)(t:ax):List Nat:=(symsS t.nodes).map fun n=>(placeS ts n).getD 0
def fS(t:ax):Bool:= !a8 t.name|| !a8 t.label||t.attrs.any (fun a=> !a8 a)||(!t.key.isEmpty&& !a8 t.key)
def dh:List Bytes->Bool
 |[]=>false
 |[_]=>false
 |a::b::t=>br b a||dh (b::t)
def labelAt(ts:List ax)(k:Nat):Bytes:=match ts[k]? with|some t=>t.label|none=>[]
def fU(ts:List ax)(k:Nat):List Bytes:=match ts[k]? with|some t=>t.attrs|none=>[]
def bV:List Bytes->Bool
 |[]=>false
 |a::t=>t.contains a||bV t
def eh:List ax->Int
 |[]=>0
 |t::ts=>if t.text=false/\cw t.nodes≠0 then cw t.nodes else eh ts
def bW(ts:List ax):Int:=
 if 64<ts.length then 17 else if ts.length=0 then 18 else if ts.any fS=true then 11 else
 if bV (ts.map ax.name)=true then 15 else if ts.any (fun t=>dh t.attrs)=true then 14 else
 if ts.any (fun t=>t.text&&(!t.nodes.isEmpty|| !t.key.isEmpty))=true then 12 else
 if eh ts≠0 then eh ts else
 if ts.any (fun t=>(symsS t.nodes).any fun n=>(placeS ts n).isNone)=true then 16 else
 if ts.any (fun t=>bV ((kidsS ts t).map (labelAt ts)))=true then 24 else
 if ts.any (fun t=> !t.key.isEmpty&& !(kidsS ts t).any fun k=>(fU ts k).contains t.key)=true then 23 else 0
def kQ(ts:List ax)(n:Bytes):Int×Int:=if bW ts=0 then(match placeS ts n with|some k=>((k:Int),0)|none=>(0,16))else(0,bW ts)
def vS(ts:List ax)(n label:Bytes):Int×Int:=
 if bW ts=0 then(match placeS ts n with
  |none=>(0,16)
  |some k=>match ts[k]? with
   |none=>(0,16)
   |some t=>match(kidsS ts t).find? (fun j=>labelAt ts j==label)with|some j=>((j:Int),0)|none=>(0,16))
 else(0,bW ts)
def cS(w:World)(o:Option Addr)(n cap size:Nat)(xs:List Value):Prop:=
 xs.length=n*size/\n<=cap/\cap<=maxLen/\(0<n->∃b a,o=some ⟨b,a,none⟩/\b<w.heap.size/\∀j u,xs[j]?=some u->w.cell? ⟨b,a+j,none⟩=some u)
theorem cS.below{w w':World}{o:Option Addr}{n cap size:Nat}{xs:List Value}(a:cS w o n cap size xs)(c:Below w.heap.size w w'):cS w' o n cap size xs:=by refine⟨a.1,a.2.1,a.2.2.1,fun i=> ?_⟩;obtain⟨b,d,e,h,f⟩:=a.2.2.2 i;exact⟨b,d,e,by have:=c.size;omega,fun j u g=>(c.cell (p:=⟨b,d+j,none⟩) h).trans (f j u g)⟩
def nodeRow(n:ar):List Value:=[.int .i64 n.op,.string ⟨n.sym.toArray⟩,.int .i64 n.a,.int .i64 n.b]
theorem nh{b:Type}{f:b->List Value}(size:Nat)(d:∀x,(f x).length=size){l:List b}{k:Nat}{x:b}(a:l[k]?=some x):∀j,j<size->(l.flatMap f)[k*size+j]?=(f x)[j]?:=by
 induction l generalizing k with
 |nil=>simp at a
 |cons y r ih=>
  intro j e;rw[Fa];have c:=d y;cases k with
  |zero=>
   simp at a;subst a;rw[sK,cE,eF ad]
  |succ k=>
   simp only[gq]at a;rw[gH (by rw[c,Nat.add_mul];omega),c,show(k+1)*size+j-size=k*size+j from by rw[Nat.add_mul];omega];exact ih a j e
def di(w:World)(o:Option Addr)(cap:Nat)(l:List ar):Prop:=cS w o l.length cap 4 (l.flatMap nodeRow)
theorem di.below{w w':World}{o:Option Addr}{cap:Nat}{l:List ar}(a:di w o cap l)(b:Below w.heap.size w w'):di w' o cap l:=cS.below a b
theorem di.at{w:World}{o:Option Addr}{cap:Nat}{l:List ar}(h:di w o cap l){k:Nat}{n:ar}(e:l[k]?=some n):
 ∃b a,o=some ⟨b,a,none⟩/\b<w.heap.size/\w.cell? ⟨b,a+k*4,none⟩=some (.int .i64 n.op)/\w.cell? ⟨b,a+k*4+1,none⟩=some (.string ⟨n.sym.toArray⟩)/\w.cell? ⟨b,a+k*4+2,none⟩=some (.int .i64 n.a)/\w.cell? ⟨b,a+k*4+3,none⟩=some (.int .i64 n.b):=by
 have j:=(aP.1 e).1;obtain⟨b,a,g,i,c⟩:=h.2.2.2 ad;have d:=nh (f:=nodeRow) 4 (fun _=>rfl) e;refine⟨b,a,g,i,?_,?_,?_,?_⟩
 ·exact c (k*4) _ ((d 0 ad).trans rfl)
 ·have:=c (k*4+1) _ ((d 1 ad).trans rfl);rwa[<-fI]at this
 ·have:=c (k*4+2) _ ((d 2 ad).trans rfl);rwa[<-fI]at this
 ·have:=c (k*4+3) _ ((d 3 ad).trans rfl);rwa[<-fI]at this
inductive Tr where
 |mk (label text:Bytes) (attrs:List (Bytes×Bytes)) (kids:List Tr)
namespace Tr
def label:Tr->Bytes| .mk l _ _ _=>l
def text:Tr->Bytes| .mk _ t _ _=>t
def attrs:Tr->List (Bytes×Bytes)| .mk _ _ a _=>a
def kids:Tr->List Tr| .mk _ _ _ k=>k
end Tr
structure bh where
 kind:Int
 name:Bytes
 text:Bytes
def dH(a:Bytes×Bytes):bh:=⟨2,a.1,a.2⟩
mutual
def cy:Tr->List bh
 | .mk label text attrs a=>if label=[]then [⟨3,[],text⟩]else⟨1,label,[]⟩::(attrs.map dH++da a++[⟨4,[],[]⟩])
def da:List Tr->List bh
 |[]=>[]
 |k::ks=>cy k++da ks
end
mutual
def fi:Tr->Nat
 | .mk _ _ _ a=>eJ a+1
def eJ:List Tr->Nat
 |[]=>0
 |k::ks=>fi k+eJ ks
end
mutual
def dS:Tr->Nat
 | .mk _ _ _ a=>gL a+1
def gL:List Tr->Nat
 |[]=>0
 |k::ks=>max (dS k) (gL ks)
end
mutual
def nodesT:Tr->List Tr
 | .mk l t a b=>.mk l t a b::cf b
def cf:List Tr->List Tr
 |[]=>[]
 |k::ks=>nodesT k++cf ks
end
def fV(s:Bytes):Bool:=dZ s==s.length
def lw(n:Tr):Bool:=if n.label=[]then decide (n.attrs≠[])||decide (n.kids≠[])else decide (n.text≠[])
def ni(n:Tr):Bool:=(decide (n.label≠[])&& !a8 n.label)||n.attrs.any (fun a=> !a8 a.1)
def nj(n:Tr):Bool:= !fV n.text||n.attrs.any (fun a=> !fV a.2)
def oC(n:Tr):Bool:=decide (n.label=[])&&decide (n.text=[])
def oD(n:Tr):Bool:=dh (n.attrs.map Prod.fst)
def nt:List Tr->Bool
 |[]=>false
 |[_]=>false
 |a::b::t=>(decide (a.label=[])&&decide (b.label=[]))||nt (b::t)
def oE(n:Tr):Bool:=nt n.kids
def fW(t:Tr):Int:=
 if 4096<fi t∨32<dS t then 17 else if(nodesT t).any lw=true then 12 else if(nodesT t).any ni=true then 11 else
 if(nodesT t).any nj=true then 10 else if(nodesT t).any oC=true then 18 else if(nodesT t).any oD=true then 14 else
 if(nodesT t).any oE=true then 15 else 0
def oF(s:bh):Bool:=decide (s.kind=1)||decide (s.kind=3)
def gw(l:List bh):Nat:=(l.filter oF).length
def d9:List bh->Int->Int->Int×Int
 |[],d,m=>(d,m)
 |s::l,d,m=>if s.kind=1 then d9 l (d+1) (max m (d+1))else if s.kind=3 then d9 l d (max m (d+1))else if s.kind=4 then d9 l (d-1) m else d9 l d m
def q8:List bh->Bool
 |[]=>false
 |[_]=>false
 |a::b::t=>(decide (b.kind=2)&&decide (a.kind=2)&&br b.name a.name)||q8 (b::t)
def q9:List bh->Bool
 |[]=>false
 |[_]=>false
 |a::b::t=>(decide (b.kind=3)&&decide (a.kind=3))||q9 (b::t)
def pQ(l:List bh):Int:=
 if 4096<(gw l:Int)∨32<(d9 l 0 0).2 then 17 else if l.any (fun s=>decide (s.kind<=2)&& !a8 s.name)=true then 11 else
 if l.any (fun s=> !fV s.text)=true then 10 else if l.any (fun s=>decide (s.kind=3)&&decide (s.text=[]))=true then 18 else
 if q8 l=true then 14 else if q9 l=true then 15 else 0
mutual
def dC:Tr->Prop
 | .mk label text attrs a=>(label=[]->attrs=[]/\a=[])/\(label≠[]->text=[])/\gM a
def gM:List Tr->Prop
 |[]=>True
 |k::ks=>dC k/\gM ks
end
theorem dC.text{label text:Bytes}{attrs:List (Bytes×Bytes)}{a:List Tr}(b:dC (.mk label text attrs a)):(label=[]->attrs=[]/\a=[])/\(label≠[]->text=[])/\gM a:=by unfold dC at b;exact b
theorem Aq:∀{ks:List Tr},gM ks->∀m∈ks,dC m
 |[],_,m,a=>by simp at a
 |k::ks,b,m,a=>by
  unfold gM at b;rcases eH.1 a with rfl|a
  ·exact b.1
  ·exact Aq b.2 m a
theorem Ar(t:Tr):nodesT t=t::cf t.kids:=by cases t;rw[nodesT];rfl
theorem tp(p:bh->Bool)(q:Tr->Bool)(j:p ⟨4,[],[]⟩=false)
 (g:∀l t a k,(l=[]->a=[]/\k=[])->(l≠[]->t=[])->q (.mk l t a k)=if l=[]then p ⟨3,[],t⟩else(p ⟨1,l,[]⟩||a.any (fun x=>p (dH x)))):
 (∀t:Tr,dC t->(cy t).any p=(nodesT t).any q)/\(∀ks:List Tr,gM ks->(da ks).any p=(cf ks).any q):=by
 have H:∀n,(∀t:Tr,SizeOf.sizeOf t<=n->dC t->(cy t).any p=(nodesT t).any q)/\(∀ks:List Tr,SizeOf.sizeOf ks<=n->gM ks->(da ks).any p=(cf ks).any q):=by
  intro n;induction n with
  |zero=>
   refine⟨fun t f=> ?_,fun ks d=> ?_⟩
   ·cases t;simp at f
   ·cases ks<;>simp at d
  |succ n ih=>
   refine⟨fun t f c=> ?_,fun ks d c=> ?_⟩
   ·obtain⟨l,x,a,k⟩:=t
    have e:=dC.text c;have m:=ih.2 k (by simp at f;omega) e.2.2;rw[nodesT,cy,pJ,g l x a k e.1 e.2.1];by_cases b:l=[]
    ·obtain⟨rfl,rfl⟩:=e.1 b
     rw[au b,au b];simp[cf]
    ·rw[ap b,ap b,pJ,iX,iX,m,List.any_map]
     simp only[pJ,List.any_nil,j,zg];rw[Bool.or_assoc];rfl
   ·cases ks with
    |nil=>rfl
    |cons k ks=>
     unfold gM at c;have h:=ih.1 k (by simp at d;omega) c.1;have i:=ih.2 ks (by simp at d;omega) c.2;rw[da,cf,iX,iX,h,i]
 exact⟨fun t=>(H (SizeOf.sizeOf t)).1 t (aB _),fun ks=>(H (SizeOf.sizeOf ks)).2 ks (aB _)⟩
theorem Gi:(∀t:Tr,dC t->(nodesT t).any lw=false)/\(∀ks:List Tr,gM ks->(cf ks).any lw=false):=by
 have H:=tp (fun _=>false) lw rfl (fun l t a k d e=>by
  unfold lw;show(if l=[]then _ else _)=_
  by_cases b:l=[]
  ·obtain⟨rfl,rfl⟩:=d b
   rw[au b,au b];simp[Tr.attrs,Tr.kids]
  ·rw[ap b,ap b,e b];simp[Tr.text])
 refine⟨fun t c=> ?_,fun ks c=> ?_⟩
 ·rw[<-H.1 t c];simp
 ·rw[<-H.2 ks c];simp
theorem Gj:∀t:Tr,dC t->(cy t).any (fun s=>decide (s.kind<=2)&& !a8 s.name)=(nodesT t).any ni:=
 (tp _ ni ak (fun l t a k c d=>by
   unfold ni;show((decide (l≠[])&& !a8 l)||a.any _)=_
   by_cases b:l=[]
   ·obtain⟨rfl,rfl⟩:=c b
    rw[au b];simp[b]
   ·rw[ap b];simp[b,dH])).1
theorem Gk:∀t:Tr,dC t->(cy t).any (fun s=> !fV s.text)=(nodesT t).any nj:=
 (tp _ nj (by simp[fV,vP]) (fun l t a k c d=>by
   unfold nj;show(!fV t||a.any _)=_
   by_cases b:l=[]
   ·obtain⟨rfl,rfl⟩:=c b
    rw[au b];simp
   ·rw[ap b,d b];simp[dH])).1
theorem Gm:∀t:Tr,dC t->(cy t).any (fun s=>decide (s.kind=3)&&decide (s.text=[]))=(nodesT t).any oC:=
 (tp _ oC ak (fun l t a k c d=>by
   unfold oC;show(decide (l=[])&&decide (t=[]))=_
   by_cases b:l=[]
   ·rw[au b];simp[b]
   ·rw[ap b];simp[b,dH])).1
def dM(p:bh->bh->Bool):List bh->Bool
 |[]=>false
 |[_]=>false
 |a::b::t=>p a b||dM p (b::t)
theorem re(p:bh->bh->Bool):∀(x y:List bh),dM p (x++y)=(dM p x||(match x.getLast?,y.head? with|some a,some b=>p a b|_,_=>false)||dM p y)
 |[],y=>by simp[dM]
 |[a],[]=>by simp[dM]
 |[a],b::y=>by simp[dM]
 |a::b::x,y=>by have ih:=re p (b::x) y;rw[show(a::b::x)++y=a::b::(x++y)from rfl,dM,show b::(x++y)=(b::x)++y from rfl,ih,dM,List.getLast?_cons_cons];simp only[Bool.or_assoc]
theorem vV:∀l,q8 l=dM (fun a b=>decide (b.kind=2)&&decide (a.kind=2)&&br b.name a.name) l
 |[]=>rfl
 |[_]=>rfl
 |a::b::t=>by rw[q8,dM,vV (b::t)]
theorem vW:∀l,q9 l=dM (fun a b=>decide (b.kind=3)&&decide (a.kind=3)) l
 |[]=>rfl
 |[_]=>rfl
 |a::b::t=>by rw[q9,dM,vW (b::t)]
theorem Gn(t:Tr):∃s r,cy t=s::r/\s.kind=(if t.label=[]then 3 else 1):=by
 obtain⟨l,x,a,k⟩:=t;rw[cy];by_cases b:l=[]
 ·rw[au b];exact⟨_,_,rfl,by simp[Tr.label,b]⟩
 ·rw[ap b];exact⟨_,_,rfl,by simp[Tr.label,b]⟩
theorem Gp(t:Tr):∃s,(cy t).getLast?=some s/\s.kind=(if t.label=[]then 3 else 4):=by
 obtain⟨l,x,a,k⟩:=t;rw[cy];by_cases b:l=[]
 ·rw[au b];exact⟨_,rfl,by simp[Tr.label,b]⟩
 ·rw[ap b]
  refine⟨⟨4,[],[]⟩,?_,by simp[Tr.label,b]⟩;have c:(bh.mk 1 l []::(a.map dH++da k++[bh.mk 4 [] []]))=(bh.mk 1 l []::(a.map dH++da k))++[bh.mk 4 [] []]:=ak;rw[c,List.getLast?_concat]
theorem Gq(et:List (Bytes×Bytes)):dM (fun a b=>decide (b.kind=2)&&decide (a.kind=2)&&br b.name a.name) (et.map dH)=dh (et.map Prod.fst):=by
 induction et with
 |nil=>rfl
 |cons a t ih=>
  cases t with
  |nil=>rfl
  |cons b t=>
   simp only[gX]at ih⊢;rw[dM,dh,ih];simp[dH]
theorem Gr(et:List (Bytes×Bytes)):dM (fun a b=>decide (b.kind=3)&&decide (a.kind=3)) (et.map dH)=false:=by
 induction et with
 |nil=>rfl
 |cons a t ih=>
  cases t with
  |nil=>rfl
  |cons b t=>
   simp only[gX]at ih⊢;rw[dM,ih];simp[dH]
theorem As(k:Tr)(ks:List Tr):∃s r,da (k::ks)=s::r/\s.kind=(if k.label=[]then 3 else 1):=by obtain⟨s,r,a,b⟩:=Gn k;exact⟨s,r++da ks,by rw[da,a];rfl,b⟩
theorem Gs(et:List (Bytes×Bytes)):(et.map dH).getLast?=none∨∃s,(et.map dH).getLast?=some s/\s.kind=2:=by
 rw[List.getLast?_map];cases et.getLast? with
 |none=>exact .inl rfl
 |some a=>exact .inr ⟨_,rfl,rfl⟩
theorem Gt(p:bh->bh->Bool)(l:Bytes)(et:List (Bytes×Bytes))(ks:List Tr)
 (d:∀a b,(a.kind=1∨a.kind=4∨b.kind=1∨b.kind=4)->p a b=false) (j:∀a b,a.kind=2->b.kind=3->p a b=false):
 dM p (⟨1,l,[]⟩::(et.map dH++da ks++[⟨4,[],[]⟩]))=(dM p (et.map dH)||dM p (da ks)):=by
 have g:(bh.mk 1 l []::(et.map dH++da ks++[bh.mk 4 [] []]))=[bh.mk 1 l []]++(et.map dH++(da ks++[bh.mk 4 [] []])):=ak;rw[g,re,re,re];have h:dM p [bh.mk 1 l []]=false:=rfl;have c:dM p [(⟨4,[],[]⟩:bh)]=false:=rfl;have n:∀y:List bh,(match([⟨1,l,[]⟩]:List bh).getLast?,y.head? with|some a,some b=>p a b|_,_=>false)=false:=fun y=>by
  cases y with
  |nil=>rfl
  |cons b y=>exact d _ _ (.inl rfl)
 have o:∀x:List bh,(match x.getLast?,([⟨4,[],[]⟩]:List bh).head? with|some a,some b=>p a b|_,_=>false)=false:=fun x=>by
  cases x.getLast? with
  |none=>rfl
  |some a=>exact d _ _ (.inr (.inr (.inr rfl)))
 have q:(match(et.map dH).getLast?,(da ks++[bh.mk 4 [] []]).head? with|some a,some b=>p a b|_,_=>false)=false:=by
  rcases Gs et with f|⟨s,f,m⟩
  ·rw[f]
  ·rw[f]
   cases ks with
   |nil=>exact d _ _ (.inr (.inr (.inr rfl)))
   |cons k ks=>
    obtain⟨b,r,i,e⟩:=As k ks;rw[i];show p s b=false
    by_cases c:k.label=[]
    ·rw[au c]at e;exact j _ _ m e
    ·rw[ap c]at e;exact d _ _ (.inr (.inr (.inl e)))
 rw[n,o,q,h,c];simp
def kr(u:Tr->Tr->Bool):List Tr->Bool
 |[]=>false
 |[_]=>false
 |a::b::t=>u a b||kr u (b::t)
theorem At(p:bh->bh->Bool)(q:Tr->Bool)(u:Tr->Tr->Bool)(d:∀(a b:bh) (k m:Tr),a.kind=(if k.label=[]then 3 else 4)->b.kind=(if m.label=[]then 3 else 1)->p a b=u k m):∀ks:List Tr,(∀k∈ks,dM p (cy k)=(nodesT k).any q)->
 dM p (da ks)=((cf ks).any q||kr u ks)
 |[],_=>rfl
 |[k],c=>by rw[da,da,qF,c k ak,cf,cf,qF];simp[kr]
 |k::m::ks,c=>by
  have ih:=At p q u d (m::ks) (fun x j=>c x (f8 _ j));have e:cf (k::m::ks)=nodesT k++cf (m::ks):=by rw[cf]
  rw[da,re,c k ak,ih,e,iX];obtain⟨a,f,h⟩:=Gp k;obtain⟨b,r,g,i⟩:=As m ks;rw[f,g];simp only[List.head?_cons];rw[d a b k m h i,kr];cases(nodesT k).any q<;>cases u k m<;>cases(cf (m::ks)).any q<;>cases kr u (m::ks)<;>rfl
theorem Au:∀ks,nt ks=kr (fun a b=>decide (a.label=[])&&decide (b.label=[])) ks
 |[]=>rfl
 |[_]=>rfl
 |a::b::t=>by rw[nt,kr,Au (b::t)]
theorem Av:∀ks,kr (fun _ _=>false) ks=false
 |[]=>rfl
 |[_]=>rfl
 |a::b::t=>by rw[kr,Av (b::t)];rfl
theorem vX(p:bh->bh->Bool)(q:Tr->Bool)(u:Tr->Tr->Bool)
 (e:∀a b,(a.kind=1∨a.kind=4∨b.kind=1∨b.kind=4)->p a b=false) (f:∀a b,a.kind=2->b.kind=3->p a b=false)
 (j:∀(a b:bh) (k m:Tr),a.kind=(if k.label=[]then 3 else 4)->b.kind=(if m.label=[]then 3 else 1)->p a b=u k m)
 (i:∀l t a k,q (.mk l t a k)=(dM p (a.map dH)||kr u k)):
 ∀n,∀t:Tr,SizeOf.sizeOf t<=n->dC t->dM p (cy t)=(nodesT t).any q
 |0,t,d,_=>by cases t;simp at d
 |n+1,.mk l x a k,d,o=>by
  have h:=dC.text o;rw[nodesT,cy,pJ,i];by_cases c:l=[]
  ·obtain⟨rfl,rfl⟩:=h.1 c
   rw[au c];simp[cf,dM,kr]
  ·rw[ap c,Gt p l a k e f]
   have r:∀m∈k,dM p (cy m)=(nodesT m).any q:=fun m g=>by have s:SizeOf.sizeOf m<SizeOf.sizeOf k:=vx g;refine vX p q u e f j i n m (by simp at d;omega) ?_;exact Aq h.2.2 m g
   rw[At p q u j k r];cases dM p (a.map dH)<;>cases kr u k<;>cases(cf k).any q<;>rfl
theorem Gu(t:Tr)(c:dC t):q8 (cy t)=(nodesT t).any oD:=by
 rw[vV];refine vX _ oD (fun _ _=>false) ?_ ?_ ?_ ?_ _ t (aB _) c
 ·rintro a b (c|c|c|c)<;>simp[c]
 ·intro a b g e;simp[e]
 ·intro a b k m h f
  by_cases d:m.label=[]<;>simp[f,d]
 ·intro l t a k
  rw[Gq,Av,zg];rfl
theorem Gv(t:Tr)(c:dC t):q9 (cy t)=(nodesT t).any oE:=by
 rw[vW];refine vX _ oE (fun a b=>decide (a.label=[])&&decide (b.label=[])) ?_ ?_ ?_ ?_ _ t (aB _) c
 ·rintro a b (c|c|c|c)<;>simp[c]
 ·intro a b f i;simp[f]
 ·intro a b k m g h
  by_cases d:m.label=[]<;>by_cases e:k.label=[]<;>simp[g,h,d,e]
 ·intro l t a k
  rw[Gr,mW,<-Au];rfl
theorem rg(a b:List bh):gw (a++b)=gw a+gw b:=by unfold gw;rw[ou,cm]
theorem Gw(et:List (Bytes×Bytes)):gw (et.map dH)=0:=by
 induction et with
 |nil=>rfl
 |cons a t ih=>
  unfold gw at ih⊢;rw[gX,List.filter_cons_of_neg (by simp[oF,dH]),ih]
theorem Gx:(∀n,(∀t:Tr,SizeOf.sizeOf t<=n->dC t->gw (cy t)=fi t)/\(∀ks:List Tr,SizeOf.sizeOf ks<=n->gM ks->gw (da ks)=eJ ks)):=by
 intro n;induction n with
 |zero=>
  refine⟨fun t e=> ?_,fun ks c=> ?_⟩
  ·cases t;simp at e
  ·cases ks<;>simp at c
 |succ n ih=>
  refine⟨fun t e b=> ?_,fun ks c b=> ?_⟩
  ·obtain⟨l,x,a,k⟩:=t
   have f:=dC.text b;have i:=ih.2 k (by simp at e;omega) f.2.2;rw[cy,fi];by_cases d:l=[]
   ·obtain⟨rfl,rfl⟩:=f.1 d
    rw[au d];rfl
   ·rw[ap d,show(⟨1,l,[]⟩::(a.map dH++da k++[⟨4,[],[]⟩]):List bh)=[⟨1,l,[]⟩]++(a.map dH++(da k++[⟨4,[],[]⟩])) by simp,rg,rg,rg,Gw,i]
    have g:gw [(⟨1,l,[]⟩:bh)]=1:=by simp[gw,oF]
    have h:gw [(⟨4,[],[]⟩:bh)]=0:=by simp[gw,oF]
    rw[g,h];omega
  ·cases ks with
   |nil=>rfl
   |cons k ks=>
    unfold gM at b;rw[da,eJ,rg,ih.1 k (by simp at c;omega) b.1,ih.2 ks (by simp at c;omega) b.2]
theorem nu:∀(a b:List bh) (d m:Int),d9 (a++b) d m=d9 b (d9 a d m).1 (d9 a d m).2
 |[],_,_,_=>rfl
 |s::a,b,d,m=>by
  have c:∀x:List bh,d9 (s::x) d m=if s.kind=1 then d9 x (d+1) (max m (d+1))else if s.kind=3 then d9 x d (max m (d+1))else if s.kind=4 then d9 x (d-1) m else d9 x d m:=fun x=>by rw[d9]
  rw[fH,c,c];split
  ·exact nu a b _ _
  split
  ·exact nu a b _ _
  split
  ·exact nu a b _ _
  ·exact nu a b _ _
theorem Gy(et:List (Bytes×Bytes))(d m:Int):d9 (et.map dH) d m=(d,m):=by
 induction et with
 |nil=>rfl
 |cons a t ih=>rw[gX];unfold d9;simp[dH];exact ih
theorem Gz:(∀n,(∀t:Tr,SizeOf.sizeOf t<=n->dC t->∀d m:Int,d9 (cy t) d m=(d,max m (d+dS t)))/\(∀ks:List Tr,SizeOf.sizeOf ks<=n->gM ks->∀d m:Int,d9 (da ks) d m=(d,if ks=[]then m else max m (d+gL ks)))):=by
 intro n;induction n with
 |zero=>
  refine⟨fun t f=> ?_,fun ks b=> ?_⟩
  ·cases t;simp at f
  ·cases ks<;>simp at b
 |succ n ih=>
  refine⟨fun t f e d m=> ?_,fun ks b e d m=> ?_⟩
  ·obtain⟨l,x,a,k⟩:=t
   have g:=dC.text e;rw[cy,dS];by_cases c:l=[]
   ·obtain⟨rfl,rfl⟩:=g.1 c
    rw[au c];simp[d9,gL]
   ·have i:=ih.2 k (by simp at f;omega) g.2.2 (d+1) (max m (d+1))
    rw[ap c,d9,au rfl,qG,nu,Gy,nu,i];simp only[d9];rw[ap aw,ap aw,au trivial];by_cases b:k=[]
    ·subst b;rw[au rfl];simp[gL]
    ·rw[ap b]
     simp only[pD];omega
  ·cases ks with
   |nil=>rfl
   |cons k ks=>
    unfold gM at e;have h:gL (k::ks)=max (dS k) (gL ks):=by rw[gL]
    rw[da,nu,ih.1 k (by simp at b;omega) e.1,ih.2 ks (by simp at b;omega) e.2,h];by_cases c:ks=[]
    ·subst c;simp[gL]
    ·rw[ap c,ap ak]
     refine Prod.ext rfl ?_;show max (max m (d+(dS k:Nat))) (d+(gL ks:Nat))=max m (d+((max (dS k) (gL ks):Nat):Int))
     omega
theorem GA(t:Tr):1<=dS t:=by cases t;rw[dS];omega
theorem GB(t:Tr)(a:dC t):pQ (cy t)=fW t:=by
 unfold pQ fW;have b:=(Gx (SizeOf.sizeOf t)).1 t (aB _) a;have c:=(Gz (SizeOf.sizeOf t)).1 t (aB _) a 0 0;rw[b,c,Gj t a,Gk t a,Gm t a,Gu t a,Gv t a,Gi.1 t a];have d:=GA t;have:(4096<((fi t:Nat):Int)∨32<(((0:Int),max (0:Int) (0+(dS t:Nat))):Int×Int).2)↔(4096<fi t∨32<dS t):=by simp only;omega
 simp only[this];simp
def ew(c:UInt8):Bool:=jI (c.toNat:Nat)
def oJ(c:UInt8):Bool:=ip (c.toNat:Nat)
def jo(l:Bytes):Nat:=(l.takeWhile ew).length
def is(l:Bytes):Nat:=(l.takeWhile oJ).length
theorem Bb(l:Bytes):jo l<=l.length:=by unfold jo;exact(vE _).length_le
theorem wK(l:Bytes):is l<=l.length:=by unfold is;exact(vE _).length_le
theorem Ir(l:Bytes):l.take (is l)=l.takeWhile oJ:=by
 unfold is;induction l with
 |nil=>rfl
 |cons c t ih=>
  by_cases a:oJ c=true
  ·rw[sM (by simpa using a)];simp[ih]
  ·rw[sO (by simpa using a)];rfl
structure cQ where
 p:Nat
 long:Bool
 big:Bool
abbrev ek:=Option (List ar×cQ)
def jM(l:Bytes)(p:Nat):Nat:=p+jo (l.drop p)
def fA(l:Bytes)(c:UInt8)(p:Nat):Bool:=l[jM l p]?==some c
def bR(l:Bytes)(c:UInt8)(p:Nat):Nat:=if fA l c p then jM l p+1 else jM l p
def mv:ar:=⟨0,[],0,0⟩
def iO:ar:=⟨1,[],0,0⟩
def eW(c:Nat)(n:ar):ar:=if n.op=3∨n.op=4 then{n with a:=n.a+c,b:=n.b+c}else if n.op=5 then{n with a:=n.a+c}else n
def gN(a:Int):Nat->List ar->List (List ar)->List ar
 |_,out,[]=>out
 |i,out,p::ps=>gN a (i+1) (if i=0 then out++p.map (eW out.length)else out++p.map (eW out.length)++[⟨a,[],(out.length:Int)-1,((out++p.map (eW out.length)).length:Int)-1⟩]) ps
def gz(parts:List (List ar)):Nat:=(parts.map List.length).sum
def ey(b a:Int)(parts:List (List ar)):Option (List ar):=
 if parts=[]then some [⟨a,[],0,0⟩]else if 1024<parts.length-1+gz parts then none else some (gN b 0 [] parts)
def fk(big:Bool)(r:Option (List ar)):List ar×Bool:=
 match r with
 |none=>([mv],true)
 |some l=>if big=true∨1024<l.length then([mv],true)else(l,false)
def fM(l:List ar):List ar:=l++[⟨5,[],(l.length:Int)-1,0⟩]
def gO(l:Bytes)(c:UInt8)(e d:Int)(part:cQ->ek):Nat->List (List ar)->cQ->ek
 |0,_,_=>none
 |f+1,parts,g=>
  match part g with
  |none=>none
  |some (b,a)=>
   if fA l c a.p then gO l c e d part f (parts++[b]) {a with p:=bR l c a.p}
   else if parts=[]then some (b,{a with p:=bR l c a.p})
   else some ((fk a.big (ey e d (parts++[b]))).1,{p:=bR l c a.p,long:=a.long,big:=(fk a.big (ey e d (parts++[b]))).2})
def kx(l:Bytes):Nat->List ar->cQ->List ar×cQ
 |0,b,a=>(b,a)
 |f+1,b,a=>
  if fA l 42 a.p then kx l f (fk a.big (some (fM b))).1 {a with p:=bR l 42 a.p,big:=(fk a.big (some (fM b))).2}
  else if fA l 43 (bR l 42 a.p)then kx l f (fk a.big (ey 3 1 [b,fM b])).1 {a with p:=bR l 43 (bR l 42 a.p),big:=(fk a.big (ey 3 1 [b,fM b])).2}
  else if fA l 63 (bR l 43 (bR l 42 a.p))then kx l f (fk a.big (ey 4 0 [b,[iO]])).1 {a with p:=bR l 63 (bR l 43 (bR l 42 a.p)),big:=(fk a.big (ey 4 0 [b,[iO]])).2}
  else(b,{a with p:=bR l 63 (bR l 43 (bR l 42 a.p))})
def iu(l:Bytes)(q:Nat):Bytes:=
 match l[q]? with
 |none=>[]
 |some x=>if a8 [x]then(l.drop q).takeWhile oJ else []
def lD(l:Bytes)(E:cQ->ek)(a:cQ):ek:=
 if fA l 33 a.p then some ([mv],{a with p:=bR l 33 a.p})
 else if fA l 40 (bR l 33 a.p)then
  (if fA l 41 (bR l 40 (bR l 33 a.p))then some ([iO],{a with p:=bR l 41 (bR l 40 (bR l 33 a.p))})
   else match E {a with p:=bR l 41 (bR l 40 (bR l 33 a.p))}with
    |none=>none
    |some (c,b)=>if fA l 41 b.p then some (c,{b with p:=bR l 41 b.p})else none)
 else if iu l (bR l 40 (bR l 33 a.p))=[]then none
 else some ([⟨2,iu l (bR l 40 (bR l 33 a.p)),0,0⟩],{p:=bR l 40 (bR l 33 a.p)+(iu l (bR l 40 (bR l 33 a.p))).length,long:=a.long|| !a8 (iu l (bR l 40 (bR l 33 a.p))),big:=a.big})
def kU(l:Bytes)(E:cQ->ek)(b:cQ):ek:=
 match lD l E b with
 |none=>none
 |some (a,c)=>some (kx l (l.length+1) a c)
def nB(l:Bytes)(E:cQ->ek)(a:cQ):ek:=gO l 44 3 1 (kU l E) (l.length+1) [] a
def nC(l:Bytes):Nat->cQ->ek
 |0,_=>none
 |n+1,a=>gO l 124 4 0 (nB l (nC l n)) (l.length+1) [] a
def nD(l:Bytes):List ar×Int:=
 if 65536<l.length then([],17)else
 match nC l (l.length+1) ⟨0,false,false⟩with
 |none=>([],12)
 |some (b,a)=>if jM l a.p<l.length then([],12)else if a.long then([],11)else if a.big then([],17)else(b,0)
def aT(r:Bytes):Bytes:=r.dropWhile ew
def iw(c:UInt8):Bool:= !(ew c||c==123)
def cj(r:Bytes):Bytes:=(aT r).takeWhile iw
def bQ(r:Bytes):Bytes:=(aT r).dropWhile iw
def lE(r:Bytes):Bytes:=match cj r with|[]=>[]|c::t=>if c=64 then t else c::t
def lG(r:Bytes):Bool:=match cj r with|[]=>false|c::t=>if c=64 then a8 t else false
def gP:Nat->List Bytes->Bytes->Option (List Bytes×Bytes)
 |0,a,r=>some (a,aT r)
 |f+1,a,r=>if(aT r).head?=some 64 then(if lG (aT r)then gP f (a++[lE (aT r)]) (bQ (aT r))else none)else some (a,aT r)
def tP:Bytes:=[116,121,112,101]
def wL:Bytes:=[107,101,121]
def wM:Bytes:=[116,101,120,116]
def jN(r:Bytes):Bytes:=(r.reverse.dropWhile ew).reverse
def rn(r:Bytes):Bool:=(jN (r.drop 1)).getLast?==some 125
def kV(r:Bytes):Bytes:=if rn r then(jN (r.drop 1)).dropLast else jN (r.drop 1)
def mx(r:Bytes):Option (Bytes×Bytes):=if cj r=wL then(if lG (bQ r)then some (lE (bQ r),bQ (bQ r))else none)else some ([],r)
def oK(r:Bytes):Option (Bool×List ar):=
 if(aT r).head?=some 123 then(if rn (aT r)&&decide ((nD (kV (aT r))).2=0)then some (false,(nD (kV (aT r))).1)else none)
 else if cj r=wM/\(bQ r).all ew=true then some (true,[])else none
def my(s:Bytes):Option ax:=
 if cj s≠tP then none else
 let b:=bQ s
 if a8 (cj b)=false then none else
 let c:=bQ b
 if cj c≠[61]then none else
 let a:=bQ c
 if a8 (cj a)=false then none else
 match gP (bQ a).length [] (bQ a)with
 |none=>none
 |some (et,e)=>match mx e with
  |none=>none
  |some (k,f)=>match oK f with
   |none=>none
   |some (t,d)=>some ⟨cj b,cj a,et,k,t,d⟩
def dn:Bytes->List Bytes
 |[]=>[[]]
 |c::t=>if c=10 then []::dn t else match dn t with|[]=>[[c]]|a::r=>(c::a)::r
def nE(s:Bytes):Bool:= !s.all ew&&(aT s).head? !=some 35
def dY:Nat->List ax->List Bytes->List ax×Nat
 |_,a,[]=>(a,0)
 |n,a,s::r=>if nE s then(match my s with|some t=>dY (n+1) (a++[t]) r|none=>(a,n+1))else dY (n+1) a r
def lH(s:Bytes):List ax×Nat×Int:=
 if 65536<s.length then([],0,17)else
 if(dY 0 [] (dn s)).2≠0 then([],(dY 0 [] (dn s)).2,12)else
 if bW (dY 0 [] (dn s)).1≠0 then([],0,bW (dY 0 [] (dn s)).1)else((dY 0 [] (dn s)).1,0,0)
def jq(a:Int)(i:Nat)(out p:List ar):List ar:=if i=0 then out++p.map (eW out.length)else out++p.map (eW out.length)++[⟨a,[],(out.length:Int)-1,((out++p.map (eW out.length)).length:Int)-1⟩]
theorem Is(a:Int)(p:List ar):∀(ps:List (List ar)) (i:Nat) (out:List ar),gN a i out (ps++[p])=jq a (i+ps.length) (gN a i out ps) p:=by
 intro ps;induction ps with
 |nil=>intro i out;rfl
 |cons q t ih=>
  intro i out;simp only[fH,gN,ih,de];congr 1
  omega
theorem Iu(a:Int)(ps:List (List ar))(k:Nat)(p:List ar)(b:ps[k]?=some p):gN a 0 [] (ps.take (k+1))=jq a k (gN a 0 [] (ps.take k)) p:=by have c:=(aP.1 b).1;rw[bG,b,dR,Is,dx,vt ad,cE]
theorem Bc(a:Int)(i:Nat)(out p:List ar):(jq a i out p).length=out.length+p.length+(if i=0 then 0 else 1):=by unfold jq;split<;>simp<;>omega
theorem tQ(a:Int):∀(ps:List (List ar)) (i:Nat) (out:List ar),(gN a i out ps).length+(if i=0/\ps≠[]then 1 else 0)=out.length+gz ps+ps.length:=by
 intro ps;induction ps with
 |nil=>intro i out;simp[gN,gz]
 |cons q t ih=>
  intro i out;have:=ih (i+1) (jq a i out q);rw[Bc]at this;show(gN a (i+1) (jq a i out q) t).length+_=_
  simp only[gz,gX,List.sum_cons,de]at this⊢;by_cases b:i=0
  ·subst b;simp at this⊢;omega
  ·simp[b]at this⊢;omega
theorem Iv(ps:List (List ar))(k:Nat):gz (ps.take k)<=gz ps:=by
 have a:gz ps=gz (ps.take k)+gz (ps.drop k):=by
  conv=>lhs;rw[<-jC k ps]
  unfold gz;rw[fd,List.sum_append]
 omega
theorem Iw(ps:List (List ar))(k:Nat)(p:List ar)(a:ps[k]?=some p):gz (ps.take (k+1))=gz (ps.take k)+p.length:=by rw[bG,a];simp[gz]
def dE(l:List ar):Prop:=∀(i:Nat) (n:ar),l[i]?=some n->0<=n.a/\n.a<=(i:Int)/\0<=n.b/\n.b<=(i:Int)
theorem dE.nil:dE []:=fun i n a=>by simp at a
theorem dE.one(n:ar)(b:n.a=0)(c:n.b=0):dE [n]:=by
 intro i m a;cases i with
 |zero=>simp at a;subst a;simp[b,c]
 |succ i=>simp at a
theorem dE.append{a b:List ar}(d:dE a)(e:∀i n,b[i]?=some n->0<=n.a/\n.a<=((a.length+i:Nat):Int)/\0<=n.b/\n.b<=((a.length+i:Nat):Int)):dE (a++b):=by
 intro i n c;by_cases f:i<a.length
 ·rw[eF f]at c;exact d i n c
 ·rw[gH ad]at c
  have:=e _ n c;rwa[show a.length+(i-a.length)=i from ad]at this
theorem dE.moved{a p:List ar}(d:dE a)(e:dE p):dE (a++p.map (eW a.length)):=by
 refine d.append fun i n b=> ?_;rw[cb]at b;cases c:p[i]? with
 |none=>rw[c]at b;cases b
 |some m=>
  rw[c]at b;injection b with b
  have:=e i m c;subst b;unfold eW;split
  ·simp only;omega
  ·split
   ·simp only;omega
   ·omega
theorem dE.snoc{a:List ar}(c:dE a)(n:ar)(d:0<=n.a/\n.a<=(a.length:Int))(e:0<=n.b/\n.b<=(a.length:Int)):dE (a++[n]):=by
 refine c.append fun i m b=> ?_;cases i with
 |zero=>simp at b;subst b;simp;omega
 |succ i=>simp at b
theorem Iy{f:Int}{i:Nat}{out p:List ar}(b:dE out)(c:dE p)(e:i≠0->out≠[]):dE (jq f i out p):=by
 unfold jq;split
 ·exact b.moved c
 ·rename_i d
  have:=e d;have g:1<=out.length:=by cases out with|nil=>exact absurd rfl this|cons a t=>simp
  refine(b.moved c).snoc _ ?_ ?_
  ·simp;omega
  ·simp;omega
theorem Bd(b:Int):∀(ps:List (List ar)) (i:Nat) (out:List ar),dE out->(i≠0->out≠[])->(∀p∈ps,dE p/\p≠[])->dE (gN b i out ps)/\((ps≠[]∨out≠[])->gN b i out ps≠[]):=by
 intro ps;induction ps with
 |nil=>intro i out c e d;exact⟨c,fun a=>by rcases a with a|a;exact absurd rfl a;exact a⟩
 |cons q t ih=>
  intro i out c e d;have g:=d q (f9 ..);have f:jq b i out q≠[]:=by
   intro h;have:=Bc b i out q;rw[h]at this;have:q.length=0:=by simp at this;omega
   exact g.2 (pK this)
  have:=ih (i+1) (jq b i out q) (Iy c g.1 e) (fun _=>f) (fun p a=>d p (f8 _ a));exact⟨this.1,fun _=>this.2 (.inr f)⟩
structure dc(l:List ar):Prop where
 ahead:dE l
 ne:l≠[]
 len:l.length<=1024
theorem dc.one(n:ar)(a:n.a=0)(b:n.b=0):dc [n]:=⟨dE.one n a b,ak,ak⟩
theorem dc.fold{d h:Int}{ps:List (List ar)}{l:List ar}(f:∀p∈ps,dc p)(b:ey d h ps=some l):dc l:=by
 unfold ey at b;split at b
 ·injection b with b;subst b;exact dc.one _ rfl rfl
 ·rename_i c
  split at b
  ·cases b
  ·rename_i i
   injection b with b
   have e:=Bd d ps 0 [] dE.nil (fun b=>absurd rfl b) (fun p b=>⟨(f p b).ahead,(f p b).ne⟩);have g:=tQ d ps 0 [];subst b;have:1<=ps.length:=by cases ps with|nil=>exact absurd rfl c|cons a t=>simp
   refine⟨e.1,e.2 (.inl c),?_⟩
   ·simp[c]at g;omega
theorem dc.keep{big:Bool}{r:Option (List ar)}(a:∀l,r=some l->dE l/\l≠[]):dc (fk big r).1:=by
 unfold fk;split
 ·exact dc.one _ rfl rfl
 ·split
  ·exact dc.one _ rfl rfl
  ·rename_i l b
   have:=a l rfl;exact⟨this.1,this.2,by simp at b;show l.length<=_;omega⟩
theorem dc.many{l:List ar}(b:dc l):dE (fM l)/\fM l≠[]/\(fM l).length<=1025:=by
 have c:1<=l.length:=by have:=b.ne;cases l with|nil=>exact absurd rfl this|cons a t=>simp
 refine⟨b.ahead.snoc _ ?_ ?_,by simp[fM],by have:=b.len;simp[fM];omega⟩
 ·simp;omega
 ·simp
def jO(l:Bytes)(f:cQ->ek):Prop:=∀a c b,a.p<=l.length->f a=some (c,b)->a.p<=b.p/\b.p<=l.length/\dc c
theorem nF(l:Bytes)(c:UInt8)(p:Nat)(d:p<=l.length):bR l c p<=l.length/\p<=bR l c p:=by
 have b:=Bb (l.drop p);rw[gI]at b;unfold bR fA jM;split
 ·rename_i a
  by_cases e:p+jo (l.drop p)<l.length
  ·omega
  ·rw[mV ad]at a;simp at a
 ·omega
theorem Iz(l:Bytes)(q:Nat)(a:q<=l.length):q+(iu l q).length<=l.length:=by
 unfold iu;split
 ·simpa using a
 ·have:=wK (l.drop q)
  unfold is at this;rw[gI]at this;split
  ·omega
  ·simpa using a
theorem Be{l:Bytes}{E:cQ->ek}(h:jO l E):jO l (lD l E):=by
 intro n o q j a;have e:=nF l 33 n.p j;have f:=nF l 40 _ e.1;have g:=nF l 41 _ f.1;unfold lD at a;split at a
 ·injection a with a;injection a with b c;subst b;subst c
  exact⟨e.2,e.1,dc.one _ rfl rfl⟩
 ·split at a
  ·split at a
   ·injection a with a;injection a with b c;subst b;subst c
    exact⟨by simp only;omega,g.1,dc.one _ rfl rfl⟩
   ·split at a
    ·cases a
    ·rename_i p st' i
     have d:=h _ _ _ (by exact g.1) i;have m:=nF l 41 st'.p d.2.1;split at a
     ·injection a with a;injection a with b c;subst b;subst c
      exact⟨by have:=d.1;simp only at this⊢;omega,m.1,d.2.2⟩
     ·cases a
  ·split at a
   ·cases a
   ·injection a with a;injection a with b c;subst b;subst c
    have:=Iz l _ f.1;exact⟨by simp only;omega,this,dc.one _ rfl rfl⟩
theorem Bf{l:List ar}(b:dc l):∀x,some (fM l)=some x->dE x/\x≠[]:=by intro x a;injection a with a;subst a;exact⟨b.many.1,b.many.2.1⟩
theorem tR{f h:Int}{a b:List ar}(d:dc a)(g:dE b/\b≠[]):∀x,ey f h [a,b]=some x->dE x/\x≠[]:=by
 intro x c;unfold ey at c;rw[ap ak]at c;split at c
 ·cases c
 ·injection c with c
  have:=Bd f [a,b] 0 [] dE.nil (fun c=>absurd rfl c) (fun p e=>by simp at e;rcases e with rfl|rfl;exact⟨d.ahead,d.ne⟩;exact g);subst c;exact⟨this.1,this.2 (.inl ak)⟩
theorem IA(l:Bytes):∀(f:Nat) (b:List ar) (a:cQ),a.p<=l.length->dc b->a.p<=(kx l f b a).2.p/\(kx l f b a).2.p<=l.length/\dc (kx l f b a).1:=by
 intro f;induction f with
 |zero=>intro b a d c;exact⟨aB _,d,c⟩
 |succ f ih=>
  intro b a d c;have e:=nF l 42 a.p d;have g:=nF l 43 _ e.1;have h:=nF l 63 _ g.1;unfold kx;split
  ·have:=ih (fk a.big (some (fM b))).1 {a with p:=bR l 42 a.p,big:=(fk a.big (some (fM b))).2} e.1 (dc.keep (Bf c))
   exact⟨by have:=this.1;simp only at this;omega,this.2⟩
  ·split
   ·have:=ih (fk a.big (ey 3 1 [b,fM b])).1 {a with p:=bR l 43 (bR l 42 a.p),big:=(fk a.big (ey 3 1 [b,fM b])).2} g.1 (dc.keep (tR c ⟨c.many.1,c.many.2.1⟩))
    exact⟨by have:=this.1;simp only at this;omega,this.2⟩
   ·split
    ·have:=ih (fk a.big (ey 4 0 [b,[iO]])).1 {a with p:=bR l 63 (bR l 43 (bR l 42 a.p)),big:=(fk a.big (ey 4 0 [b,[iO]])).2} h.1 (dc.keep (tR c ⟨dE.one _ rfl rfl,ak⟩))
     exact⟨by have:=this.1;simp only at this;omega,this.2⟩
    ·exact⟨by simp only;omega,h.1,c⟩
theorem Bg{l:Bytes}{E:cQ->ek}(d:jO l E):jO l (kU l E):=by
 intro i h j f a;unfold kU at a;split at a
 ·cases a
 ·rename_i g st' e
  have b:=Be d _ _ _ f e;have c:=IA l (l.length+1) g st' b.2.1 b.2.2;injection a with a
  rw[a]at c;exact⟨aR b.1 c.1,c.2⟩
theorem Bh{l:Bytes}{part:cQ->ek}(c:UInt8)(w u:Int)(s:jO l part):∀(f:Nat) (parts:List (List ar)) (d:cQ) g e,(∀p∈parts,dc p)->d.p<=l.length->gO l c w u part f parts d=some (g,e)->d.p<=e.p/\e.p<=l.length/\dc g:=by
 intro f;induction f with
 |zero=>intro parts d g e n q a;simp[gO]at a
 |succ f ih=>
  intro parts d g e n q a;unfold gO at a;split at a
  ·cases a
  ·rename_i v st' r
   have j:=s _ _ _ q r;have m:=nF l c st'.p j.2.1;have o:∀p∈parts++[v],dc p:=fun p b=>by
    rcases fe.1 b with b|b
    ·exact n p b
    ·simp at b;subst b;exact j.2.2
   split at a
   ·have:=ih _ _ _ _ o (by exact m.1) a
    exact⟨by have:=this.1;simp only at this;omega,this.2⟩
   ·split at a
    ·injection a with a;injection a with h i;subst h;subst i
     exact⟨by simp only;omega,m.1,j.2.2⟩
    ·injection a with a;injection a with h i;subst h;subst i
     exact⟨by simp only;omega,m.1,dc.keep (fun x t=>by have:=dc.fold o t;exact⟨this.ahead,this.ne⟩)⟩
theorem Bi{l:Bytes}{E:cQ->ek}(c:jO l E):jO l (nB l E):=by intro e d f a b;exact Bh 44 3 1 (Bg c) _ _ _ _ _ (fun p a=>by simp at a) a b
theorem Bj(l:Bytes):∀n,jO l (nC l n):=by
 intro n;induction n with
 |zero=>intro d c e _ a;simp[nC]at a
 |succ n ih=>
  intro d c e b a;exact Bh 124 4 0 (Bi ih) _ _ _ _ _ (fun p b=>by simp at b) b a
end Go.Proofs.YtbacloblanpghaaGreatDoor
