import Derived.Test.YtfeidcmojcijpaaGreatDoorQbj
import Derived.Test.YtfeidcmojcijpaaGreatDoorQbs
set_option linter.all false
set_option maxRecDepth 100000
set_option maxHeartbeats 0
namespace Go.Proofs.YtfeidcmojcijpaaGreatDoor
open Go.RowKit Tryz
structure fh(x y:Nat)(w w':World):Prop where
 os:w'.os=w.os
 tape:w'.tape=w.tape
 output:w'.output=w.output
 size:w.heap.size<=w'.heap.size
 J:∀q,q<w.heap.size->q≠x->q≠y->w'.heap[q]?=w.heap[q]?
section
variable{x y:Nat} {w w' w2:World}
def fh.Z(a:fh x y w w')(k:fh x y w' w2):fh x y w w2:=
 ⟨k.os.Z a.os,k.tape.Z a.tape,k.output.Z a.output,aW a.size k.size,fun q b c d=>(k.J q (eU b a.size) c d).Z (a.J q b c d)⟩
def fh.of_below(a:Below w.heap.size w w'):fh x y w w':=⟨a.os,a.tape,a.output,a.size,fun q b _ _=>a.J q b⟩
def fh.of_x(a:w.grownBy w' (some x)):fh x y w w':=⟨a.os,a.tape,a.output,a.size,fun q b c _=>a.J q b (fun e=>c (by injection e))⟩
def fh.of_y(a:w.grownBy w' (some y)):fh x y w w':=⟨a.os,a.tape,a.output,a.size,fun q b _ c=>a.J q b (fun e=>c (by injection e))⟩
end
structure gm(W0:World)(A:Nat->Prop)(K M1 M2 M3 RM:Nat)(o:Option Addr)(cap:Nat)(l:List ai)(rw':Nat->List Bytes)(wr:World):Prop where
 known:eQ W0 A wr K M1 M2 M3 o cap l
 made:jX wr W0.heap.size M2 l
 rows:∃n f,bV wr prog 3 RM n f/\n<=((List.range l.length).filter (fun a=>(f (.int .i64 (a:Nat))).isSome)).length/\∀(j:Nat) (v:Value),f (.int .i64 (j:Nat))=some v->∃ro rc,v=.slice ro (rw' j).length rc/\bN wr W0.heap.size v (rw' j)
section
variable{W0 w w':World} {A:Nat->Prop} {K M1 M2 M3 RM:Nat} {o:Option Addr} {cap:Nat} {l:List ai} {rw':Nat->List Bytes}
def gm.O(b:gm W0 A K M1 M2 M3 RM o cap l rw' w)(a:Below w.heap.size w w'):gm W0 A K M1 M2 M3 RM o cap l rw' w':=by obtain⟨n,f,c,h,i⟩:=b.rows;exact⟨b.known.zw (bL a none) (fun q e=>by cases e),b.made.zu (bL a none) (fun q e=>by cases e),n,f,c.of_block (a.J _ c.lt),h,fun j v hv=>by obtain⟨r,p,e,d⟩:=i j v hv;exact⟨r,p,e,aX d (fun g m=>a.J g (aV d m).2)⟩⟩
def gm.row(d:gm W0 A K M1 M2 M3 RM o cap l rw' w)(a:kD W0 A K M1 M2 M3 o cap l w w')(r:RM≠M2):gm W0 A K M1 M2 M3 RM o cap l rw' w':=by obtain⟨n,f,i,m,p⟩:=d.rows;obtain⟨y,f2,s,_⟩:=d.made;refine⟨a.1,a.2.1,n,f,i.zw a.2.2 (fun e=>r (by injection e)),m,fun j v hv=> ?_⟩;obtain⟨u,t,e,b⟩:=p j v hv;obtain⟨x,c,q⟩:=s.J;exact⟨u,t,e,aX b (fun g h=>a.2.2.J g (aV b h).2 (fun e=>by injection e with e;subst e;exact mv b q h))⟩
def gm.put(t:gm W0 A K M1 M2 M3 RM o cap l rw' w){n k:Nat}{f:Lit->Option Value}{v:Value}{r:Option Addr}{m:Nat}(x:bV w prog 3 RM n f)(P:n<=((List.range l.length).filter (fun a=>(f (.int .i64 (a:Nat))).isSome)).length)
 (E:∀(j:Nat) (v:Value),f (.int .i64 (j:Nat))=some v->∃r m,v=.slice r (rw' j).length m/\bN w W0.heap.size v (rw' j)) (H:k<l.length) (G:f (.int .i64 (k:Nat))=none) (hv:v=.slice r (rw' k).length m) (b:bN w W0.heap.size v (rw' k))
 (I:bV w' prog 3 RM (n+1) (il f (.int .i64 (k:Nat)) v)) (s:w.grownBy w' (some RM)) (d:W0.heap.size<=RM/\RM≠K/\RM≠M1/\RM≠M2/\RM≠M3/\A RM):gm W0 A K M1 M2 M3 RM o cap l rw' w':=by
 have B:∀j,j≠k->il f (.int .i64 (k:Nat)) v (.int .i64 (j:Nat))=f (.int .i64 (j:Nat)):=fun j z=>mj _ _ (fun e=>by injection e with _ e;omega);have C:∀(j:Nat) (v:Value),bN w W0.heap.size v (rw' j)->bN w' W0.heap.size v (rw' j):=fun j v b=>by obtain⟨O,c,F⟩:=x.J;exact aX b (fun g y=>s.J g (aV b y).2 (fun e=>by injection e with e;subst e;exact mv b F y))
 refine⟨t.known.zw s (fun q e=>by cases e;exact⟨d.1,d.2.1,.inr d.2.2⟩),t.made.zu s (fun q e=>by cases e;exact⟨.inl x.J,d.2.2.2.1⟩),_,_,I,?_,fun j u h=> ?_⟩;have:=Gr (p:=fun a:Nat=>(il f (.int .i64 (k:Nat)) v (.int .i64 (a:Nat))).isSome) (q:=fun a:Nat=>(f (.int .i64 (a:Nat))).isSome) (i:=k) (fun j z=>by by_cases e:j=k;subst e;simp[kt];simp only[B j e];exact z) (by simp[kt]) (by simp[G]) l.length H
 omega;by_cases e:j=k;subst e;rw[kt]at h;cases h
 exact⟨r,m,hv,C _ _ b⟩;rw[B j e]at h;obtain⟨N,M,D,J⟩:=E j u h;exact⟨N,M,D,C _ _ J⟩
end
section
open Wey
def iq:Value:=.agg ik
def vX(j:World)(f:Nat->Prop)(g h b i c:Nat)(o:Option Addr)(cap:Nat)(l:List ai)(m:Nat->List Bytes)(d:Nat)(a:Tr)(w:World)(e:Ending)(w':World):Prop:=
 (fh c b w w'/\gm j f g h b i c o cap l m w')/\
 ((dh a<=d/\∃r,e=.returned (.tuple #[cA a r,.int .i64 0])/\jr w' w a r)∨(d<dh a/\e=.returned (.tuple #[iq,.int .i64 17])))
structure U5(W0:World)(A:Nat->Prop)(K M1 M2 M3 RM:Nat)(o:Option Addr)(cap:Nat)(l:List ai)(rw':Nat->List Bytes)(k:Nat)(no:Option Addr)(nc:Nat)(nd:List Nat)(w:World)(rv:Value)(wx:World):Prop where
 st:gm W0 A K M1 M2 M3 RM o cap l rw' wx
 own:bN wx W0.heap.size rv (rw' k)
 far:fh RM M2 w wx
 res:wx.heap[w.heap.size]?=some (.cells ik 36 (0,0))
 nums:gX wx no nc nd
def kB.off{w w':World}{a q:Nat}{v:Value}{l:List ax}{cs:Array Value}{t:TypeId}{h:Nat×Nat}(i:kB w a v l)(y:w.grownBy w' (some q))(z:w.heap[q]?=some (.cells cs t h))(A:t=59∨t=36):kB w' a v l:=by obtain⟨n,keys,C,D,nv,g,E,c,d,m,o,p,s,u,x⟩:=i;have b:∀{e size n:Nat} {v} {xs},w.ownsRow a e size v n xs->e≠59->e≠36->w'.ownsRow a e size v n xs:=fun f c d=>cm f y (.inr (iP f z (by rcases A with rfl|rfl;exact c;exact d)));exact⟨n,keys,C,D,nv,g,E,c,d,m,b o aq aq,b p aq aq,s,fun j v r hv B=>b (u j v r hv B) aq aq,b x aq aq⟩
def gm.cells{i w w':World}{p:Nat->Prop}{r s u y z:Nat}{o:Option Addr}{cap:Nat}{l:List ai}{G:Nat->List Bytes}(g:gm i p r s u y z o cap l G w){q:Nat}{cs:Array Value}{t:TypeId}{B:Nat×Nat}(d:w.grownBy w' (some q))(b:w.heap[q]?=some (.cells cs t B))(m:t=59∨t=36)(J:i.heap.size<=q)(M:B=(0,0)):gm i p r s u y z o cap l G w':=by
 subst M;obtain⟨n,f,C,H,I⟩:=g.rows;obtain⟨P,f2,F,N,O⟩:=g.made;have D:∀{X:Nat},(∃A c,w.heap[X]?=some (Obj.map A c))->some X≠some q:=fun⟨A,c,h⟩ e=>by injection e with e;subst e;rw[b]at h;cases h
 refine⟨g.known.zw d (fun x e=>by cases e;exact⟨J,(fun e=>by subst e;rw[g.known.blk]at b;injection b with b;injection b with _ b;rcases m with rfl|rfl<;>exact absurd b aq),.inl ⟨_,_,b⟩⟩),⟨P,f2,F.zw d (D F.J),N,fun a v hv=>by obtain⟨x,h,K⟩:=O a v hv;exact⟨x,h,K.off d b m⟩⟩,n,f,C.zw d (D C.J),H,fun j v hv=> ?_⟩;obtain⟨R,Q,e,E⟩:=I j v hv;exact⟨R,Q,e,cm E d (.inr (iP E b (by rcases m with rfl|rfl<;>decide)))⟩
def gm.set4{f w:World}{g:Nat->Prop}{h i j m n:Nat}{o:Option Addr}{cap:Nat}{l:List ai}{t:Nat->List Bytes}(u:gm f g h i j m n o cap l t w){q:Nat}{cs:Array Value}(s:w.heap[q]?=some (.cells cs 36 (0,0)))(e:f.heap.size<=q)(a b c d:Value):
 gm f g h i j m n o cap l t ((((w.setCell ⟨q,0,none⟩ a).setCell ⟨q,1,none⟩ b).setCell ⟨q,2,none⟩ c).setCell ⟨q,3,none⟩ d):=by
 have p:=a8 w q 0 a s;have r:=a8 _ q 1 b p;have v:=a8 _ q 2 c r;exact(((u.cells (gi _ _ _ _) s (.inr rfl) e rfl).cells (gi _ _ _ _) p (.inr rfl) e rfl).cells (gi _ _ _ _) r (.inr rfl) e rfl).cells (gi _ _ _ _) v (.inr rfl) e rfl
def fh.set4{x y q:Nat}{w w':World}(e:fh x y w w')(i:w.heap.size<=q)(a b c d:Value):fh x y w ((((w'.setCell ⟨q,0,none⟩ a).setCell ⟨q,1,none⟩ b).setCell ⟨q,2,none⟩ c).setCell ⟨q,3,none⟩ d):=
 ⟨e.os,e.tape,e.output,by simpa using e.size,fun k h f g=>by rw[aU _ _ _ _ _ ad,aU _ _ _ _ _ ad,aU _ _ _ _ _ ad,aU _ _ _ _ _ ad];exact e.J k h f g⟩
def gm.rowOf{a w w':World}{b:Nat->Prop}{d f h i j:Nat}{o:Option Addr}{cap:Nat}{l:List ai}{r:Nat->List Bytes}(m:gm a b d f h i j o cap l r w){v:Value}{c n size:Nat}{t:TypeId}{xs:List Value}(p:w.grownBy w' v.ownBlock)(q:w.ownsRow c t size v n xs)(x:t=59∨t=36)(s:a.heap.size<=c):gm a b d f h i j o cap l r w':=by
 rcases q.2 with⟨rfl,_⟩|⟨g,y,z,rfl,A,u,_⟩
 exact m.O ((aA _ w).zu p (ay _) (fun k e=>by cases e));exact m.cells p u x (aW s (aY q g rfl).1) rfl
def fh.new{x y:Nat}{w w' u:World}{row:Option Nat}(a:fh x y w w')(b:w'.grownBy u row)(g:∀q,row=some q->w.heap.size<=q):fh x y w u:=
 ⟨b.os.Z a.os,b.tape.Z a.tape,b.output.Z a.output,aW a.size b.size,fun k c d f=>(b.J k (eU c a.size) (fun e=>by have:=g k e.zy;omega)).Z (a.J k c d f)⟩
def cn.far2{x y:Nat}{w w':World}{o:Option Addr}{n c s:Nat}{xs:List Value}(d:cn w o n c s xs)(g:fh x y w w')(r:∃a c,w.heap[x]?=some (Obj.map a c))(t:∃a c,w.heap[y]?=some (Obj.map a c)):cn w' o n c s xs:=by
 refine⟨d.1,d.2.1,d.2.2.1,fun q=> ?_⟩;obtain⟨b,v,e,h,l⟩:=d.2.2.2 q;refine⟨b,v,e,eU h g.size,fun j u m=> ?_⟩;have f:=l j u m;have i:∀z,(∃a c,w.heap[z]?=(Obj.map a c))->b≠z:=fun z ⟨a,A,p⟩ e=>by subst e;rw[vi p rfl]at f;cases f
 exact(ej (g.J b h (i x r) (i y t))).Z f
def JT{W:World}{B size n c g e xs}(d:W.ownsRow B e size (.slice (some ⟨g,0,none⟩) n c) n xs):∃cs,W.heap[g]?=some (.cells cs e (0,0)):=by
 rcases d.2 with⟨a,_⟩|⟨h,cap,b,hv,m,f,a,i,j,l⟩
 cases a
 cases hv
 exact⟨b,f⟩
def cn.off{w w':World}{o:Option Addr}{n c s x:Nat}{xs:List Value}(a:cn w o n c s xs)(g:w.grownBy w' (some x))(r:∃f c,w.heap[x]?=some (Obj.map f c)):cn w' o n c s xs:=by
 refine⟨a.1,a.2.1,a.2.2.1,fun p=> ?_⟩;obtain⟨b,t,e,h,i⟩:=a.2.2.2 p;refine⟨b,t,e,eU h g.size,fun j u l=> ?_⟩;have d:=i j u l;obtain⟨f,v,m⟩:=r;have q:b≠x:=fun e=>by subst e;rw[vi m rfl]at d;cases d
 exact(ej (g.J b h (fun e=>q (by injection e)))).Z d
def U6 W0 A K M1 M2 M3 RM o cap l rw' k T nv w(i:gm W0 A K M1 M2 M3 RM o cap l rw' w):
 dB 26 #[K,.int .i64 (k:Nat),nv,.map RM,.int .i64 0] w (vX W0 A K M1 M2 M3 RM o cap l rw' 0 T w):=by
 obtain⟨w1,j,g,e⟩:=dy w (.cells ik 36);obtain⟨q,n,p⟩:=bm i g e;obtain⟨y,z,B,C⟩:=dC e;have f0:=aJ e 0;have f1:=aJ e 1;have f2:=aJ e 2;have f3:=aJ e 3;clear i g e
 go_in
 go_wp2_with(first|(rw[<-j];clear j)|fail)
 obtain⟨m,f⟩:=am ((((w1.setCell w (.string ⟨#[]⟩)).setCell ⟨w,1,none⟩ (.string ⟨#[]⟩)).setCell ⟨w,2,none⟩ ()).setCell ⟨w,3,none⟩ ());have r:m.heap[w.heap.size]?=some (.cells ik 36):=by rw[f];exact a8 _ _ 3 _ (a8 _ _ 2 _ (a8 _ _ 1 _ (a8 _ _ 0 _ p.out)))
 have h:Below w.heap.size w m:=by rw[f];exact(((n.out.setCell (ay _) _).setCell (ay _) _).setCell (ay _) _).setCell (ay _) _
 rw[<-f];have⟨t,u,v,x⟩:=dC r;have s:0<dh T:=by obtain⟨a,b,c,d⟩:=T;simp[dh]
 exact cQ (by simp[results,go_sem,t,u,v,x,iq]) rfl ⟨⟨fh.of_below h,q.o.O h⟩,.inr ⟨s,rfl⟩⟩
def U7 l o cap W0(d:cw W0 o cap l)(m:l.length<=64) A K M1 M2 M3 k x(c:l[k]?=some x)(f:x.t.text=true) nv w(a:eQ W0 A w K M1 M2 M3 o cap l):
 de 51 #[K,.int .i64 (k:Nat),nv] w (.tuple #[.slice none 0 0,.int .i64 0]) fun w'=>w'=w:=by
 have j:=(aF.1 c).1;have i:(k:Int)<l:=ad;have n:=ak 0 a.blk;have⟨b,p,e,h,q,r,s,t,g,u⟩:=(d.O a.base).at c;subst e;rw[f]at g;clear a c d
 go_in
 go_wp2
 go_ret2
 simp
def U8 l o cap W0(z:Gl W0)(j:cw W0 o cap l)(p:l.length<=64) A K M1 M2 M3(v:A M2) k x(q:l[k]?=some x)(c:Nat->List Bytes)(H:x.t.text=true->c k=[])
 nd(F:nd.length=l.length)(E:∀a∈nd,1<=a/\a<=4097)
 (y:x.t.text=false->bK x.t.E=0/\x.t.E.length<=20/\(∀a∈unionB (symsS x.t.E),kidOf (l.map ai.t) a<l/\a.length<=1048576)/\(unionB (symsS x.t.E)).length<=64/\
   ∀keys b,ev x.t.E keys b->Opt bM (unionB (symsS x.t.E)) (fun a=>nd.getD (kidOf (l.map ai.t) a) 0) (nxA x.t.E b) (finA x.t.E keys) (c k))
  no nc w (h:eQ W0 A w K M1 M2 M3 o cap l) (n:jX w W0 M2 l) (B:gX w no nc nd):
 dB 51 #[K,.int .i64 k,.slice no nd nc] w fun e w'=>(∃g f,e=.returned (.tuple #[.slice g (c k) f,.int .i64 0])/\bN w' w (.slice g (c k) f) (c k))/\kD W0 A K M1 M2 M3 o cap l w w':=by
 cases d:x.t.text with
 |true=>
  refine ar (U7 l o cap W0 j p A K M1 M2 M3 k x q d _ w h) ?_;rintro w' rfl;rw[H d];exact⟨⟨none,0,rfl,cW _ _ _ _⟩,h,n,bL (aA _ _) _⟩
 |false=>
  obtain⟨r,s,t,u,m⟩:=y d;apply(U2 l o cap W0 z j p A K M1 M2 M3 v k x q d r s nd F E t u (fun keys b i=>⟨_,(m keys b i).1⟩) no nc w h n B).zz;rintro e w' ⟨⟨keys,b,V,g,f,i,rfl,C,G⟩,D⟩;obtain rfl:=opt_one dw C (m keys b i);exact⟨⟨g,f,rfl,G⟩,D⟩
def U9(l:List ai)(o:Option Addr)(cap:Nat)(H:World)(gv:cw H o cap l)(md:l.length<=64)(Z:Nat->Prop)(K ab G ae B:Nat)(es:H.heap.size<=B/\B≠K/\B≠ab/\B≠G/\B≠ae/\Z B)(p:Nat->List Bytes)(nd:List Nat)(no:Option Addr)(ao d:Nat)(lF:d<=32)(k:Nat)(x:ai)(X:l[k]?=some x)(lo:x.t.zx.length<=1048576)(mz:(p k).length<100)(h8:∀n∈p k,kidOf (l.map ai.t) n<l.length/\n.length<=1048576)
 (hh:∀w,eQ H Z w K ab G ae o cap l->jX w H.heap.size G l->gX w no ao nd->Calls prog 51 #[.pointer (some ⟨K,0,none⟩),.int .i64 (k:Nat),.slice no nd.length ao] w fun e w'=>(∃F E,e=.returned (.tuple #[.slice F (p k).length E,.int .i64 0])/\bN w' w.heap.size (.slice F (p k).length E) (p k))/\kD H Z K ab G ae o cap l w w')
 (el:Tr) (b3:iE (l.map ai.t) p k el)
 (ih:∀(n:Bytes) (U:Tr),n∈p k->iE (l.map ai.t) p (kidOf (l.map ai.t) n) U->∀w,gm H Z K ab G ae B o cap l p w->gX w no ao nd->
   Calls prog 26 #[.pointer (some ⟨K,0,none⟩),.int .i64 (kidOf (l.map ai.t) n:Nat),.slice no nd.length ao,.map (some B),.int .i64 (d:Nat)] w (vX H Z K ab G ae B o cap l p d U w))
 (w:World) (h:gm H Z K ab G ae B o cap l p w) (g1:gX w no ao nd):
 Calls prog 26 #[.pointer (some ⟨K,0,none⟩),.int .i64 (k:Nat),.slice no nd.length ao,.map (some B),.int .i64 ((d+1:Nat):Int)] w (vX H Z K ab G ae B o cap l p (d+1) el w):=by
 have he:∀a:Nat,a<=64->keyOf prog 3 (.int .i64 (a:Nat))=some (.int .i64 (a:Nat)):=fun a a5=>wT ei (oI ad);have h7:=(aF.1 X).1;obtain⟨w1,hk,bE,a4⟩:=dy w (.cells ik 36);have C:=h.O bE;have g2:=cn.O g1 bE;obtain⟨m5,f1,e4,io,hc⟩:=C.rows;have ba:(zeroValue 53).run prog w1=.ok (.slice none 0 0) w1:=az;have e2:=e4.look_ok (iY ei) underlying79 ba (key:=.int .i64 (k:Nat)) (kl:=.int .i64 (k:Nat)) eY (he k ad);have h3:((d+1:Nat):Int)≠0:=ad;have h2:IntKind.i64.wrap (((d+1:Nat):Int)-1)=(d:Int):=by rw[K7];omega
 obtain⟨D,en⟩:∃D:Int,D=((d+1:Nat):Int):=⟨_,rfl⟩;rw[<-en]at h3 h2⊢;obtain⟨eg,bi,eb,cG,fr,hr,hx,hE,hy,kk⟩:=jB h C g2 a4 bE gv ih hh b3 en;obtain⟨hD,fP⟩:=aC e4 hc;clear h C g2 g1 a4 bE ba gv ih hh b3 en hc e4;obtain⟨nb,e9⟩:∃v,v=(f1 (.int .i64 (k:Nat))).getD (.slice none 0 0):=⟨_,rfl⟩;obtain⟨k2,eE⟩:∃b,b=(f1 (.int .i64 (k:Nat))).isSome:=⟨_,rfl⟩;rw[<-e9,<-eE]at e2;obtain⟨fF,fu⟩:=aC e9 eE;clear e9 eE;go_enter func26,ntmps26
 go_upto_if 36 with(first|(rw[<-hk];clear hk)|fail)
 go_cut [12]from 13 (fun hm j5=>∃F E,hm=.slice F (p k).length E/\U5 H Z K ab G ae B o cap l p k no ao nd w hm j5)
 case first=>
  cases b7:f1 (.int .i64 (k:Nat))with
  |some v=>
   obtain⟨F,E,rfl,a9⟩:=fP.o k v b7;have a4:=fF.o;have bd:=fu.o;rw[b7]at a4 bd;subst a4;subst bd;clear e2 b7;go_wp2_with fail
   go_meet
   exact⟨F,E,rfl,bi.o,a9,fh.of_below fr.out,cG.out,eb.o⟩
  |none=>
   have a4:=fF.o;have bd:=fu.o;rw[b7]at a4 bd;subst a4;subst bd;clear e2;go_wp2_with fail
   refine(hE.o _ bi.o.known bi.o.made eb.o).zz ?_;rintro e dq ⟨⟨F,E,rfl,a9⟩,s⟩;have c5:∃y c,w1.heap[G]?=some (Obj.map y c):=by obtain⟨na,f9,ii,_⟩:=bi.o.made;exact ii.J
   have W:=bi.o.row s es.2.2.2.1;have e5:=hD.o.zw s.2.2 (fun e=>es.2.2.2.1 (by injection e));have hC:Hid (∀(j:Nat) (v:Value),f1 (.int .i64 (j:Nat))=some v->∃F E,v=.slice F (p j).length E/\bN dq H.heap.size v (p j)):=ah (fun j v hv=>by obtain⟨y,c,al⟩:=c5;obtain⟨F,E,e,e7⟩:=fP.o j v hv;exact⟨F,E,e,aX e7 (fun g J=>s.2.2.J g (aV e7 J).2 (fun e=>by injection e with e;subst e;exact mv e7 al J))⟩)
   obtain⟨aa,fS,hu⟩:=bm W e5 s;have c2:Hid (bN dq H.heap.size (.slice F (p k).length E) (p k)):=ah (eR a9 bi.o.known.base.size);have fy:Hid (gX dq no ao nd):=ah (cn.off eb.o s.2.2 c5);have dz:Hid (dq.heap[w.heap.size]?=some (.cells ik 36)):=ah ((s.2.2.J _ (aI cG.out) (by obtain⟨y,c,al⟩:=c5;intro e;injection e with e;rw[<-e,cG.out]at al;cases al)).Z cG.out);clear s a9 W c5;go_wp2_with(first
    |(at_mapUpdate;go_must (refine tf e5 rfl _ _ _ 79 rfl 53 (iY ei) underlying79 rfl (by have:=lf (fun a=>(f1 (.int .i64 ((a:Nat):Int))).isSome) (List.range l.length);rw[wi]at this;unfold maxLen;omega) _ _ _ rfl rfl eY (he k ad) ?_);intro nc hf e1;clear e5;have g0:=aa.o.put fS.o io hC.o h7 b7 rfl c2.o hf e1 es;have hw:=ah g0;have cS:=ah e1;clear g0 e1 hf)
    |fail)
   go_meet
   have et:=fS.o.J;refine⟨F,E,rfl,hw.o,?_,?_,?_,cn.off fy.o cS.o et⟩;obtain⟨y,c,al⟩:=et;exact aX c2.o (fun g J=>cS.o.J g (aV c2.o J).2 (fun e=>by injection e with e;subst e;exact mv c2.o al J));exact((fh.of_below fr.out).Z (fh.of_y hu.o.2.2)).Z (fh.of_x cS.o);obtain⟨y,c,al⟩:=et;exact(cS.o.J _ (aI dz.o) (fun e=>by injection e with e;rw[<-e,dz.o]at al;cases al)).Z dz.o
 case rest=>
  obtain⟨F,E,rfl,c7⟩:=hcut;have g7:=c7.st.known.base;have jc:=ak 0 c7.st.known.blk;have fb:=hr.o.O g7;obtain⟨b,ji,af,ls,j6,j7,kb,kc,kd,kg⟩:=fb.at X;have dm:cI wc x.ao x.ac x.t.zx:=(fb.2 x (aK X)).1;subst af;have l5:(k:Int)<l.length:=ad;obtain⟨c3,b4⟩:=am ((wc.alloc (.cells (me x) 55)).alloc (.cells #[.string ⟨x.t.zv.toArray⟩,.string ⟨#[]⟩,.slice none 0 0,.slice none 0 0] 36));have gn:Below wc.heap.size wc c3:=by rw[b4];exact aP.alloc aj _
  have t4:c3.heap[wc.heap.size+1]?=some (.cells #[.string ⟨x.t.zv.toArray⟩,.string ⟨#[]⟩,.slice none 0 0,.slice none 0 0] 36):=by rw[b4];have:=aN (wc.alloc (.cells (me x) 55)) (.cells #[.string ⟨x.t.zv.toArray⟩,.string ⟨#[]⟩,.slice none 0 0,.slice none 0 0] 36);rwa[bP]at this
  have fq:c3.heap[wc.heap.size]?=some (.cells (me x) 55):=by rw[b4];exact(br _ _ _ aj).Z (aN wc _)
  have nl:=ak 2 fq;obtain⟨A,fs,hz,hB,hG⟩:=iz c7 gn t4 fq dm;have m1:=dm.2.1;have i0:=dm.2.2.1;unfold maxLen at i0;clear c7 gn t4 fq dm g7 fb;go_wp2_with(first|(rw[<-b4];clear b4)|fail)
  clear jc j6 j7 kb kc kd kg;go_loopw [66] (fun S wr=>∃(j:Nat) (gl:Value),S=.int .i64 j/\j<=x.t.zx.length/\ie (wc.heap.size+1) x.t.zv ((x.t.zx.take j).map fun a=>(a,[])) gl [] [] (.slice none 0 0) wr/\Below (wc.heap.size+1) c3 wr) (fun S _=>x.t.zx.length-(intOf S).toNat)
  case atStart=>exact⟨0,_,rfl,aH _,ie.start hz.o,aA _ _⟩
  case round=>
   obtain⟨j,gl,rfl,l1,ag,c9⟩:=hrel;have g5:=A.o;have hU:Below wc.heap.size wc wr:=fs.o.Z (c9.zz ad);by_cases bq:j<x.t.zx.length
   ·have hY:=bC bq
    have hZ:=od bq;have l3:=bk bq;have l2:=aL j;obtain⟨a,a5⟩:=aT bq;obtain⟨g,hN,af,dc,hp⟩:=(hG.o.O hU).at a5;rw[af];obtain⟨jb,hd,i2,i3,i4⟩:=cZ FO;obtain⟨N,M,rfl⟩:=bs ag.aown;have b5:((x.t.zx.take j).map fun a=>(a,([]:Bytes))).length=j:=aO;have cc:((x.t.zx.take (j+1)).map fun a=>(a,([]:Bytes)))=((x.t.zx.take j).map fun a=>(a,([]:Bytes)))++[(a,[])]:=by rw[bH,a5];simp
    have dn:=ak 2 ag.box;have a1:=ah ag;have hT:=ag.aown;generalize((x.t.zx.take j).map fun a=>(a,([]:Bytes)))=av at*;obtain⟨ec,hs⟩:=aC cc b5;have lg:av.length<=1048576:=ad;have mO:=ag.size;have ea:Hid (∀u aw:World,Below wr.heap.size wr u->u.grownBy aw (Value.slice N av.length M).ownBlock->aw.cell? ⟨wc.heap.size+1,2,none⟩=some (.slice N av.length M)/\aw.frozen? ⟨wc.heap.size+1,2,none⟩=false):=ah fun u aw s J=>by have X:=(J.J (wc.heap.size+1) (aQ s.size) (fun e=>by have:=(aY a1.o.aown _ e.zy).1;omega)).Z ((s.J _ a1.o.size).Z a1.o.box);exact⟨ak 2 X,aJ X 2⟩
    clear g5 ag a5 cc b5;go_wp2_with(first
     |(at_builtin;go_must (refine kI _ rfl _ _ 33 rfl (wc.heap.size+1+1) 59 jb _ 2 32 underlying33 hd i2 i3 i4 rfl ad (.slice N av.length M) av.length (av.flatMap kL) rfl (dp hT _) ⟨wr.heap.size,0,none⟩ 1 1 [.string ⟨a.toArray⟩,.string ⟨#[]⟩] rfl rfl (eq wr [.string ⟨a.toArray⟩,.string ⟨#[]⟩] _ _ rfl) (fun z ba=>by simp at ba;rcases ba with rfl|rfl<;>rfl) ad bO ad aO _ rfl ?_);intro bZ gc fl a9 Q ez ib;obtain⟨cl,co⟩:=ea.o _ _ aP Q)
     |fail)
    go_roundw
    case rel=>
     have eB:Below wr.heap.size wr (wr.alloc (.cells #[.string ⟨a.toArray⟩,.string ⟨#[]⟩] 59)):=aP;refine⟨j+1,.slice (some ⟨bZ,0,none⟩) (av.length+1) gc,aD,ad,?_,?_⟩;rw[ec.o];exact(a1.o.keep eB.size (fun b _ s=>eB.J b s)).addAttr (a:=(a,[])) Q a9;exact(((c9.alloc ad _).zu Q aO (fun q e=>by have:=(aY a1.o.aown q e).1;omega))).setCell (by show wc.heap.size+1<=wc.heap.size+1;omega) _
    case measure=>exact aM
   ·have hY:=bG bq
    have hZ:=mH bq;rw[bI ad]at ag;have a1:=ah ag;clear ag g5;have b3:=hy.o;obtain⟨us,hi,hj,rfl⟩:∃us:List Tr,us.length=(p k).length/\(∀(i:Nat) (n:Bytes) (u:Tr),(p k)[i]?=some n->us[i]?=some u->iE (l.map ai.t) p (kidOf (l.map ai.t) n) u)/\el=.mk x.t.zv [] (x.t.zx.map fun a=>(a,[])) (us.mapIdx fun i u=>ew x.t.key (Lib.decDigits i) u):=by
     cases b3 with
     | @mk _ t us C gG hP=>
       rw[bR,X]at C;injection C with C
       subst C;exact⟨us,gG,hP,rfl⟩
    obtain⟨fL,hA,fv⟩:=bm hi hj c9;obtain⟨N,M,rfl⟩:=bs a1.o.aown;clear hi hj b3 c9;go_wp2_with fail
    obtain⟨j4,i1⟩:=am wr;subst i1;go_loopw [80] (fun S wr=>∃(i:Nat) (rs:List KA) (hl:Value),S=.int .i64 i/\i<=(p k).length/\ie (wc.heap.size+1) x.t.zv (x.t.zx.map fun a=>(a,[])) (.slice N (x.t.zx.map fun a=>(a,([]:Bytes))).length M) ((us.take i).mapIdx fun i u=>ew x.t.key (Lib.decDigits i) u) rs hl wr/\gm H Z K ab G ae B (some ⟨b,ji,none⟩) cap l p wr/\fh B G wc wr/\wr.heap[wc.heap.size]?=some (.cells (me x) 55 (0,0))/\Hid (∀u∈us.take i,dh u<=d)/\gX wr no ao nd) (fun S _=>(p k).length-(intOf S).toNat)
    case atStart=>
     have eD:Below wc.heap.size wc j4:=fs.o.Z (fv.o.zz ad);exact⟨0,[],.slice none 0 0,rfl,aH _,by simpa using a1.o,A.o.st.O eD,fh.of_below eD,(fv.o.J _ ad).Z hB.o,ah aj,cn.O A.o.nums eD⟩
    case round=>
     obtain⟨i,rs,hl,rfl,lU,T,W,bl,ey,du,c6⟩:=hrel;have ca:∃y c,wc.heap[B]?=some (Obj.map y c):=by obtain⟨n,f,C,_⟩:=A.o.st.rows;exact C.J
     have b9:∃y c,wc.heap[G]?=some (Obj.map y c):=by obtain⟨n,f,C,_⟩:=A.o.st.made;exact C.J
     have eZ:∀{q:Nat} {cs:Array Value} {t:TypeId},wc.heap[q]?=some (.cells cs t (0,0))->wr.heap[q]?=some (.cells cs t (0,0)):=fun R=>(bl.J _ (aI R) (fun e=>by subst e;obtain⟨y,c,h⟩:=ca;rw[R]at h;cases h) (fun e=>by subst e;obtain⟨y,c,h⟩:=b9;rw[R]at h;cases h)).Z R;have e8:bN wr H.heap.size (.slice F (p k).length E) (p k):=aX A.o.own (fun g J=>bl.J g (aY A.o.own g J).2 (fun e=>by subst e;obtain⟨y,c,h⟩:=ca;exact mv A.o.own h J) (fun e=>by subst e;obtain⟨y,c,h⟩:=b9;exact mv A.o.own h J));have an:=eZ A.o.res;by_cases ic:i<(p k).length
     ·have hW:decide ((i:Int)<((p k).length:Int))=true:=bT
      have hX:decide (i<(p k).length)=true:=bT;have l0:(i:Int)<((p k).length:Int):=ad;have hd:=aL i;obtain⟨ci,cb⟩:=aT ic;obtain⟨U,ex⟩:=df us i (aQ fL.o);have e6:=aK cb;obtain⟨j0,j1,rfl,mB,hg⟩:=(dY e8).2.2.2 ad;have hH:wr.cell? ⟨j0,j1+i,none⟩=some (.string ⟨ci.toArray⟩):=hg i _ (by rw[bR,cb];rfl);have jd:=ak 1 W.known.blk;have ia:=yN (b:=ci) W.known.places (h8 ci e6).2;have hb:=hx.o ci U e6 (hA.o i ci U cb ex) wr W c6;obtain⟨fx,aa,fG,cL,fy,cP,bB,ko,bz,c1⟩:=jB hb T W bl c6 ey an cb ex ca;have c0:=ah b9;clear hb T W bl c6 ey an cb ex ca b9 eZ e8 hg e6;go_wp2_with fail
      refine fx.o.zz ?_;rintro e bg ⟨⟨b1,c8⟩,hQ⟩;clear ia jd hH fx;have cd:bg.heap[w.heap.size]?=some (.cells ik 36 (0,0)):=(b1.J _ (aI bB.o) (fun e=>by obtain⟨y,c,h⟩:=c1.o;rw[<-e,A.o.res]at h;cases h) (fun e=>by obtain⟨y,c,h⟩:=c0.o;rw[<-e,A.o.res]at h;cases h)).Z bB.o;rcases hQ with⟨b6,r,rfl,er⟩|⟨b6,rfl⟩
      ·obtain⟨cv,cx,I,cu⟩:=U
       obtain⟨bb,Y,cq,cp⟩:=r;obtain⟨ek,bc,ed,kp⟩:=dE b6 b1 c8 cd;unfold cA;simp only[Tr.zv,Tr.text,Tr.zx,Tr.zs];obtain⟨gb,g8,a2,fo⟩:=dy bg (.cells (fZ cv cx bb I Y cq cu cp) 36);have cO:Hid (∀q,(Value.slice bb I.length Y).ownBlock=some q->wr.heap.size<=q/\q<bg.heap.size):=ah fun q R=>aY er.1 q R;have g3:=er.keep a2.size (fun b _ s=>a2.J b s);obtain⟨fz,a0,gf⟩:=bm g3 a2 fo;have je:=ak 2 fo;clear b6 b1 c8 cd a2 fo er g3;go_wp2_with(first|(rw[<-g8];clear g8)|fail)
       have ho:gb.heap[wc.heap.size]?=some (.cells (me x) 55 (0,0)):=
        (a0.out.J _ (eU (aI cP.o) bc.o.size)).Z ((bc.o.J _ (aI cP.o) (fun e=>by obtain⟨y,c,h⟩:=c1.o;exact absurd (aI h) ad) (fun e=>by obtain⟨y,c,h⟩:=c0.o;exact absurd (aI h) ad)).Z cP.o)
       have fN:=ah ho;have m0:wc.heap.size<wr.heap.size:=aI cP.o;clear ho je;obtain⟨dr,iT⟩:=am wr;subst iT;go_loopw [107] (fun S hn=>∃m:Nat,S=.int .i64 m/\m<=I.length/\jr hn dr.heap.size (.mk cv cx (iH x.t.key (Lib.decDigits i) m I) cu) ⟨bb,Y,cq,cp⟩/\gb.grownBy hn (Value.slice bb I.length Y).ownBlock) (fun S _=>I.length-(intOf S).toNat)
       case atStart=>exact⟨0,rfl,aH _,by rw[JR];exact fz.o,⟨rfl,rfl,rfl,ay _,fun _ _ _=>rfl⟩⟩
       case round=>
        obtain⟨m,rfl,mm,V,a7⟩:=hrel;have cg:=(a7.J _ (aI gf.out) (fun e=>by have:=(cO.o _ e.zy).2;omega)).Z gf.out;have ch:=(a7.J _ (aI fN.o) (fun e=>by have:=(cO.o _ e.zy).1;omega)).Z fN.o;by_cases bt:m<I.length
        ·have h0:=bC bt
         have h1:=od bt;have mw:=bk bt;have ms:=aL m;obtain⟨a,a5⟩:=aT bt;obtain⟨g,k3,bd,k7,dc,_⟩:=yY V.1 (by show 0<(iH _ _ _ _).length;rw[zn];omega);injection bd with em _ gr
         simp only at em gr;subst em;subst gr;have⟨k5,hN,af,_,hp,hq⟩:=pA (dY V.1) (zo a5);injection af with af
         injection af with af hI _
         subst af;subst hI;rw[cH]at hp hq;have bo:Below wr.heap.size wr (wr.alloc (.cells #[.string ⟨a.1.toArray⟩,.string ⟨a.2.toArray⟩] 59)):=aP;have nm:=ak 3 ((bo.J _ (aI ch)).Z ch);have m4:=ak 2 ((bo.J _ (aI cg)).Z cg);have fO:=ah bo;have nn:=(bo.cell dc).Z hq;have⟨k4,hV⟩:=JT V.1;have np:=aJ ((bo.J _ dc).Z hV) (m*2+1);have h4:i<100:=ad;have iv:I.length<=maxLen:=by have C:(iH x.t.key (Lib.decDigits i) m I)<=Y:=(dY V.1).2.1;have gG:Y<=maxLen:=(dY V.1).2.2.1;rw[zn]at C;omega
         unfold maxLen at iv;have⟨cN,bA,ds⟩:=bm V a7 a5;have lP:=dc;clear V a7 a5 cg ch bo;by_cases dl:a.1=x.t.key
         ·obtain⟨kv,gg⟩:=a
          simp only at dl;subst dl;have h6:(x.t.key==x.t.key)=true:=aj;go_wp2_with fail
          go_region_law (first
           |(refine vO (by rfl) 52 _ _ (fun _ _=>az) (by rfl) ?_;go_simp;refine ar (strconv_Itoa_small i h4 _) ?_;rintro ng rfl;refine⟨_,rfl,?_⟩))
          all_goals(
           go_wp2_with fail
           refine⟨⟨m+1,aD,ad,?_,?_⟩,by simp[intOf];omega⟩;rw[zp ds.o,au rfl];have ha:=((aA (wr.setCell ⟨g,m*2+1,none⟩ (.string ⟨(Lib.decDigits i).toArray⟩)).heap.size (wr.setCell ⟨g,m*2+1,none⟩ (.string ⟨(Lib.decDigits i).toArray⟩))).alloc (ay _) (.cells #[.string ⟨x.t.key.toArray⟩,.string ⟨gg.toArray⟩] 59)).drew;exact(cN.o.store (zo ds.o) rfl _).keep ha.size (fun b _ s=>ha.J b s);have b0:=(bA.o.Z (gi wr g (m*2+1) (.string ⟨(Lib.decDigits i).toArray⟩))).Z (kf _ (.cells #[.string ⟨x.t.key.toArray⟩,.string ⟨gg.toArray⟩] 59) _);exact⟨b0.os,b0.tape,b0.output,b0.size,b0.J⟩)
         have h6:(a.1==x.t.key)=false:=by simpa using dl
         go_wp2_with fail
         refine⟨⟨m+1,aD,ad,?_,?_⟩,by simp[intOf];omega⟩;rw[zp ds.o,ap dl];exact cN.o.keep fO.o.size (fun b _ s=>fO.o.J b s);exact bA.o.Z (kf _ _ _)
        ·have h0:=bG bt
         have h1:=mH bt;have gs:m=I:=ad;rw[gs,JS]at V;have⟨ky,bE,k0,k1⟩:=dC cg;have e3:∀q,q<dr.heap.size->some q≠(Value.slice bb I.length Y).ownBlock:=fun q R e=>by have:=(cO.o q e.zy).1;omega
         have lb:B<wc.heap.size:=by obtain⟨y,c,h⟩:=c1.o;exact aI h
         have la:G<wc.heap.size:=by obtain⟨y,c,h⟩:=c0.o;exact aI h
         have mE:=bc.o.size;have mG:=a0.out.size;have mL:=a7.size;have b2:=aa.o.keep (w':=wr) ad (fun b eB g9=>(a7.J b ad (e3 b g9)).Z ((a0.out.J b ad).Z (bc.o.J b g9 ad ad)));obtain⟨P,O,rfl⟩:=bs b2.kown;have cc:((us.take (i+1)).mapIdx fun i u=>ew x.t.key (Lib.decDigits i) u)=((us.take i).mapIdx fun i u=>ew x.t.key (Lib.decDigits i) u)++[ew x.t.key (Lib.decDigits i) (.mk cv cx I cu)]:=by rw[bH,bz.o,List.mapIdx_append];have:=(aF.1 bz.o).1;simp[rX (DJ this)]
         have b5:((us.take i).mapIdx fun i u=>ew x.t.key (Lib.decDigits i) u).length=i:=by have:=(aF.1 bz.o).1;simp;omega
         have bw:Hid (∀q,(Value.slice P ((us.take i).mapIdx fun i u=>ew x.t.key (Lib.decDigits i) u) O).ownBlock=some q->wc+2<=q/\q<dr):=ah fun q R=>aY aa.o.kown q R;have ht:=ah fun q R=>(aY aa.o.aown q R).2;generalize((us.take i).mapIdx fun i u=>ew x.t.key (Lib.decDigits i) u)=ks at*;have h9:=b2.kown;have em:=ak 3 b2.box;have⟨ec,hs⟩:=aC cc b5;have l7:ks.length<=100:=ad;have⟨bu,cN,bA,ga,km⟩:=iz b2 V a7 ch e3;have⟨it,h5,i5,i7,i9⟩:=cZ A5;have ea:Hid (∀u aw:World,Below wr.heap.size wr u->u.grownBy aw (Value.slice P ks.length O).ownBlock->aw.cell? ⟨wc.heap.size+1,3,none⟩=some (.slice P ks.length O)/\aw.frozen? ⟨wc.heap.size+1,3,none⟩=false):=ah fun u aw s J=>by have X:=(J.J (wc.heap.size+1) (jO s.size bu.o.size) (fun e=>by have:=(bw.o _ e.zy).1;omega)).Z ((s.J _ bu.o.size).Z bu.o.box);exact⟨ak 3 X,aJ X 3⟩
         have mP:wc+2<=wr.heap.size:=bu.o.size;have mS:=aa.o.size;clear V a7 cg ch gs b2 cc b5 e3 aa;go_wp2_with(first
          |(at_builtin;go_must (apply kI _ rfl _ _ 34 rfl _ 36 it _ 4 80 KV h5 i5 i7 i9 rfl ad (.slice P ks O) _ _ rfl (dp h9 _) _ 1 1 _ rfl rfl (eq wr _ _ _ rfl) (fun z ba=>by simp at ba;rcases ba with rfl|rfl|rfl|rfl<;>rfl) ad bO ad aO _ rfl);intro bZ gc fl a9 Q ez ib;obtain⟨cl,co⟩:=ea.o _ _ aP Q)
          |fail)
         go_roundw
         case rel=>
          obtain⟨j3,iw,a3⟩:=fQ wr (.cells (fZ cv cx bb I Y cq cu cp) 36);rw[<-iw]at Q ez;have hS:=cN.o.keep a3.size (fun b _ s=>a3.J b s);have c4:=bu.o.keep a3.size (fun b _ s=>a3.J b s);have mN:=a3.size;have iu:cE j3 (fun b=>wc.heap.size+1<b/\some b≠(Value.slice P ks.length O).ownBlock/\some b≠(Value.slice N (x.t.zx.map fun a=>(a,([]:Bytes))).length M).ownBlock) (ew x.t.key (Lib.decDigits i) (.mk cv cx I cu)) ⟨bb,Y,cq,cp⟩:=
           hS.tr.weak fun b _ s=>have s:dr.heap.size<=b:=s;⟨ad,fun e=>by have:=(bw.o _ e.zy).2;omega,fun e=>by have:=ht.o _ e.zy;omega⟩
          have hR:=c4.addKid iu Q ez (by simpa[oH,ew,Tr.zv,Tr.text,Tr.zx,Tr.zs]using a9);have hO:=(Q.J (wc.heap.size+1) c4.size (fun e=>by have:=(bw.o _ e.zy).1;omega)).Z c4.box;have lc:=eg.o.known.base.size;have m3:=aI A.o.res;have is:=((((ed.o.O a0.out).rowOf bA.o fz.o.1 (.inl rfl) ad).O a3).rowOf Q c4.kown (.inr rfl) ad).cells (gi fl (wc.heap.size+1) 3 (.slice (some ⟨bZ,0,none⟩) (ks.length+1) gc)) hO (.inr rfl) ad rfl;have a6:=(((((cL.o.Z bc.o).Z (fh.of_below a0.out)).new bA.o (fun q h=>by have:=(cO.o q h).1;omega)).Z (fh.of_below a3)).new Q (fun q h=>by have:=(bw.o q h).1;omega)).new (gi fl (wc.heap.size+1) 3 (.slice (some ⟨bZ,0,none⟩) (ks.length+1) gc)) (fun q h=>by cases h;omega);refine⟨i+1,rs++[⟨bb,Y,cq,cp⟩],.slice (some ⟨bZ,0,none⟩) (ks.length+1) gc,aD,ad,?_,is,a6,?_,ah ?_,cn.far2 A.o.nums a6 c1.o c0.o⟩;rw[ec.o];exact hR;exact(aU _ _ _ _ _ ad).Z ((Q.J _ ad (fun e=>by have:=(bw.o _ e.zy).1;omega)).Z ((a3.J _ (aI ga.o)).Z ga.o));intro u bf;rw[bH,bz.o]at bf;rcases dk.1 bf with bf|bf
          exact du.o u bf;simp at bf;rw[bf];exact ek.o
         case measure=>exact aM
      have ek:=ah b6;have⟨bc,ed⟩:=aC b1 c8;unfold iq;have a2:Below bg.heap.size bg (bg.alloc (.cells ik 36)):=aP;have be:=(a2.J _ (aI cd)).Z cd;have⟨jp,js,jv,jy⟩:=dC be;have hJ:=aJ be 0;have hK:=aJ be 1;have hL:=aJ be 2;have hM:=aJ be 3;have⟨fT,a0⟩:=aC be a2;clear b6 b1 c8 cd be a2;go_wp2_with fail
      have a6:=(((A.o.far.Z cL.o).Z bc.o).Z (fh.of_below a0.out)).set4 (q:=w.heap.size) (ay _) (.string ⟨#[]⟩) (.string ⟨#[]⟩) (.slice none 0 0) (.slice none 0 0);have b8:=(ed.o.O a0.out).set4 fT.o eg.o.known.base.size (.string ⟨#[]⟩) (.string ⟨#[]⟩) (.slice none 0 0) (.slice none 0 0);have bF:=a8 _ _ 3 (.slice none 0 0) (a8 _ _ 2 (.slice none 0 0) (a8 _ _ 1 (.string ⟨#[]⟩) (a8 _ _ 0 (.string ⟨#[]⟩) fT.o)));have⟨j2,fc⟩:=am (((((bg.alloc (.cells ik 36)).setCell w (.string ⟨#[]⟩)).setCell ⟨w,1,none⟩ (.string ⟨#[]⟩)).setCell ⟨w,2,none⟩ ()).setCell ⟨w,3,none⟩ ());rw[<-fc]at a6 b8 bF⊢;have⟨cl,co,dn,fg⟩:=dC bF;have e0:d+1<dh (.mk x.t.zv [] (x.t.zx.map fun a=>(a,[])) (us.mapIdx fun i u=>ew x.t.key (Lib.decDigits i) u)):=by rw[dh];have C:=mt (Jd x.t.key Lib.decDigits us d).1 (fun h=>by have:=h U (aK bz.o);have:=ek.o;omega);omega
      refine cQ (by simp[results,go_sem,cl,co,dn,fg,iq]) rfl ⟨⟨a6,b8⟩,.inr ⟨e0,rfl⟩⟩
     ·have hW:decide (i<((p k):Int))=false:=bU
      have hX:=bU;rw[bI (aQ fL.o)]at T du;obtain⟨P,O,rfl⟩:=bs T.kown;have d0:=ak 0 T.box;have d1:=ak 1 T.box;have d2:=ak 2 T.box;have d3:=ak 3 T.box;have⟨jp,js,jv,jy⟩:=dC an;have hJ:=aJ an 0;have hK:=aJ an 1;have hL:=aJ an 2;have hM:=aJ an 3;have⟨aa,fG,cL,bB⟩:=dE T W bl an;clear T W bl c6 ey an ca b9 eZ e8;go_wp2_with fail
      have m2:=aI A.o.res;have a6:=(A.o.far.Z cL.o).set4 (q:=w.heap.size) (ay _) (.string ⟨x.t.zv.toArray⟩) (.string ⟨#[]⟩) (.slice N x.t.zx.length M) (.slice P us.length O);have b8:=fG.o.set4 bB.o eg.o.known.base.size (.string ⟨x.t.zv.toArray⟩) (.string ⟨#[]⟩) (.slice N x.t.zx.length M) (.slice P us.length O);have bF:=a8 _ _ 3 (.slice P us.length O) (a8 _ _ 2 (.slice N x.t.zx.length M) (a8 _ _ 1 (.string ⟨#[]⟩) (a8 _ _ 0 (.string ⟨x.t.zv.toArray⟩) bB.o)));have g4:jr ((((wr.setCell ⟨w.heap.size,0,none⟩ (.string ⟨x.t.zv.toArray⟩)).setCell ⟨w.heap.size,1,none⟩ (.string ⟨#[]⟩)).setCell ⟨w.heap.size,2,none⟩ (.slice N x.t.zx.length M)).setCell ⟨w.heap.size,3,none⟩ (.slice P us.length O)) w.heap.size (.mk x.t.zv [] (x.t.zx.map fun a=>(a,[])) (us.mapIdx fun i u=>ew x.t.key (Lib.decDigits i) u)) ⟨N,M,P,O⟩:=
       (aa.o.done.keep aj fun b s _=>by rw[aU _ _ _ _ _ ad,aU _ _ _ _ _ ad,aU _ _ _ _ _ ad,aU _ _ _ _ _ ad]).low ad
      have⟨j2,fc⟩:=am ((((wr.setCell w x.t.zv).setCell ⟨w,1,none⟩ (.string ⟨#[]⟩)).setCell ⟨w,2,none⟩ (.slice N x.t.zx M)).setCell ⟨w,3,none⟩ (.slice P us O));rw[<-fc]at a6 b8 bF g4⊢;have⟨cl,co,dn,fg⟩:=dC bF;have e0:dh (.mk x.t.zv [] (x.t.zx.map fun a=>(a,[])) (us.mapIdx fun i u=>ew x.t.key (Lib.decDigits i) u))<=d+1:=by rw[dh];have C:=(Jd x.t.key Lib.decDigits us d).2 du.o;omega
      refine cQ (by simp[results,go_sem,cl,co,dn,fg,sw,cA,Tr.zv,Tr.text,Tr.zx,Tr.zs]) rfl ⟨⟨a6,b8⟩,.inl ⟨e0,_,rfl,g4⟩⟩
def JU l o cap W0(m:cw W0 o cap l)(q:l.length<=64) A K M1 M2 M3 RM(p:W0.heap.size<=RM/\RM≠K/\RM≠M1/\RM≠M2/\RM≠M3/\A RM) a nd no nc(f:Nat->Prop)
 (h:∀k,f k->∃x,l[k]?=some x/\x.t.zx.length<=1048576/\(a k).length<100/\(∀n∈a k,f (kidOf (l.map ai.t) n)/\n.length<=1048576)/\
   ∀w,eQ W0 A w K M1 M2 M3 o cap l->jX w W0 M2 l->gX w no nc nd->dB 51 #[K,.int .i64 k,.slice no nd nc] w fun e w'=>(∃s r,e=.returned (.tuple #[.slice s (a k) r,.int .i64 0])/\bN w' w (.slice s (a k) r) (a k))/\kD W0 A K M1 M2 M3 o cap l w w'):
 ∀d,d<=33->∀k b,f k->iE (l.map ai.t) a k b->∀w,gm W0 A K M1 M2 M3 RM o cap l a w->gX w no nc nd->
  dB 26 #[K,.int .i64 k,.slice no nd nc,.map RM,.int .i64 (d:Nat)] w (vX W0 A K M1 M2 M3 RM o cap l a d b w)
 |0,_,k,b,_,_,w,c,_=>U6 W0 A K M1 M2 M3 RM o cap l a k b (.slice no nd.length nc) w c
 |d+1,F,k,b,B,v,w,c,i=>by
  obtain⟨x,D,t,u,j,C⟩:=h k B;exact U9 l o cap W0 m q A K M1 M2 M3 RM p a nd no nc d ad k x D t u (fun n g=>⟨by obtain⟨y,E,_⟩:=h _ (j n g).1;exact(aF.1 E).1,(j n g).2⟩) C b v
   (fun n U g z w c i=>JU l o cap W0 m q A K M1 M2 M3 RM p a nd no nc f h d ad _ U (j n g).1 z w c i) w c i
end
end Go.Proofs.YtfeidcmojcijpaaGreatDoor
