import Derived.Test.YtnadadbndcdolaaGreatDoorQar
import Derived.Test.YtnadadbndcdolaaGreatDoorQau
set_option linter.unusedVariables false
set_option linter.unusedSimpArgs false
set_option maxRecDepth 100000
set_option maxHeartbeats 0
namespace Go.Proofs.YtnadadbndcdolaaGreatDoor
open Go.RowKit Tryz

structure M4(ts:List aw):Prop where
 label:∀t∈ts,t.label≠[]
 name:∀t∈ts,cH t.name=true
 nodes:∀t∈ts,t.text=false->bG t.nodes=0
 places:∀t∈ts,∀k∈kidsS ts t,k<ts.length
theorem Ee{ts:List aw}(a:bT ts=0):M4 ts:=by
 have h:=Mw a;have i:=a;unfold bT at a;split at a
 ·cases a
 split at a
 ·cases a
 split at a
 ·cases a
 rename_i g;split at a
 ·cases a
 split at a
 ·cases a
 split at a
 ·cases a
 split at a
 ·rename_i c;exact absurd a c
 rename_i c;have c:eQ ts=0:=ei c;have e:∀t∈ts,kK t=false:=fun t b=>by rw[<-ka];exact fun d=>g (ir.2 ⟨t,b,d⟩)
 refine⟨fun t b d=> ?_,fun t b=> ?_,DU c,fun t b k f=> ?_⟩
 ·have:=e t b
  unfold kK at this;rw[d]at this;simp[show cH []=false from rfl]at this
 ·have:=e t b
  unfold kK at this;simp at this;exact this.1.1.1
 ·have:=Mi (((h.kids t b) (k:Int)).2 ⟨k,f,rfl⟩)
  omega
theorem M5{ts:List aw}(g:bT ts=0){x:aw}(h:x∈ts){e:Bytes}{j:Nat}(a:ix ts x e=some j):∃t,ts[j]?=some t/\t.label=e/\j<ts.length:=by have b:=Iv a;have f:=IG a;have c:=(Ee g).places x h j f;obtain⟨t,d⟩:∃t,ts[j]?=some t:=⟨_,aH c⟩;refine⟨t,d,?_,c⟩;rw[CH d]at b;simpa using b
theorem Ef:∀{ks:List Tr} {k m:Tr},k∈ks->m∈nodesT k->m∈dz ks
 |a::ks,k,m,b,c=>by
  rw[dz];rcases du.1 b with rfl|b
  ·exact IN _ c
  ·exact q1 _ (Ef b c)
theorem Eg(t:Tr):t∈nodesT t:=by rw[Cr];exact dM ..
theorem Eh{t k m:Tr}(a:k∈t.kids)(b:m∈nodesT k):m∈nodesT t:=by rw[Cr];exact dt _ (Ef a b)
theorem zn{t k:Tr}(b:k∈t.kids):SizeOf.sizeOf k<SizeOf.sizeOf t:=by obtain⟨l,x,a,ks⟩:=t;have:=IP b;simp only[Tr.kids]at this;simp only[Tr.mk.sizeOf_spec];omega
def Ei(p:Prop)(w:World)(a:Ending)(w':World):Prop:=(∃b,a=.returned (.bool b)/\(b=true↔p))/\Below w.heap.size w w'
def oz(w:World)(b:Nat)(ts:List aw)(x:aw):Prop:=∃n g,bp w prog 9 b n g/\n<=(kidsS ts x).length/\∀a:Bytes,g (.string a)=(ix ts x a).map (fun j=>Value.int .i64 (j:Nat))
structure cT(W0:World)(A:Nat->Prop)(w:World)(K M1 M2 M3:Nat)(o:Option Addr)(cap:Nat)(l:List am):Prop where
 base:Below W0.heap.size W0 w
 fresh:W0.heap.size<=K/\W0.heap.size<=M1/\W0.heap.size<=M2/\W0.heap.size<=M3
 blk:w.heap[K]?=some (.cells #[.slice o l.length cap,.map (some M1),.map (some M2),.map (some M3)] 78 (0,0))
 places:eF w M1 (l.map am.t)
 made:∃n f,bp w prog 3 M2 n f/\n<=64
 inside:∃n f,bp w prog 3 M3 n f/\n<=((List.range l.length).filter (fun a=>(f (.int .i64 (a:Nat))).isSome)).length/\∀(a:Nat) (v:Value),f (.int .i64 (a:Nat))=some v->∃Mk x,v=.map (some Mk)/\l[a]?=some x/\Mk≠M3/\¬A Mk/\oz w Mk (l.map am.t) x.t
 apart:M1≠M3/\K≠M3/\M2≠M3/\M1≠M2
def M6(w w':World)(c d a e:Nat)(o:Option Addr)(cap:Nat)(l:List am):Prop:=(∀b,cT w b w' c d a e o cap l)/\bp w' prog 3 a 0 (fun _=>none)
def zo(l:List am)(o:Option Addr)(cap:Nat)(w:World)(b:Ending)(w':World):Prop:=
 Below w.heap.size w w'/\((bT (l.map am.t)≠0/\b=.returned (.tuple #[.pointer none,.int .i64 (bT (l.map am.t))]))∨
  (bT (l.map am.t)=0/\∃a,b=.returned (.tuple #[.pointer (some ⟨a,0,none⟩),.int .i64 0])/\∃c d e,M6 w w' a c d e o cap l))
theorem wj(l:List am)(o:Option Addr)(cap:Nat)(w:World)(r:bR w o cap l)(t:dI l):
 Calls prog 26 #[.agg #[.slice o l.length cap]] w (zo l o cap w):=by
 have bl:=r.1.2.1;have an:=r.1.2.2.1;unfold maxLen at an;have bi:=t.len;have a3:=t.name;have z:Below w.heap.size w (w.alloc (.cells #[.slice o l.length cap] 24)):=aG;have J:=aB w (.cells #[.slice o l.length cap] 24);have P:=aU J;have F:=check_any l o cap _ (r.below z) t;obtain⟨L,Y⟩:=ar (bT (l.map am.t));unfold zo;rw[<-Y]at F⊢;obtain⟨w0,S⟩:=ar (w.alloc (.cells #[.slice o l.length cap] 24));rw[<-S]at z J P F;have bo:= @l8 prog;clear Y t;go_enter func26,ntmps26
 go_wp2_with fail
 rw[<-S];clear S;refine F.mono ?_;rintro q c ⟨rfl,A⟩;clear F;have E:=aO z A;have T:=(A.block _ P).trans J;have cs:=ai 0 T;by_cases g:L≠0
 ·have bd:(L==0)=false:=by simpa using g
  have ag:=ah g;clear g
  go_wp2
  go_ret2
  exact⟨E,.inl ⟨ag.o,rfl⟩⟩
 have g:L=0:=IQ.1 g;subst g;have D:Below c.heap.size c ((((c.alloc (.map #[] 0)).alloc (.map #[] 0)).alloc (.map #[] 0)).alloc (.cells #[.slice o l.length cap,.map (some c.heap.size),.map (some (c.heap.size+1)),.map (some (c.heap.size+1+1))] 78)):=(((aG.alloc ak _).alloc aR _).alloc aR _);have d:((((c.alloc (.map #[] 0)).alloc (.map #[] 0)).alloc (.map #[] 0)).alloc (.cells #[.slice o l.length cap,.map (some c.heap.size),.map (some (c.heap.size+1)),.map (some (c.heap.size+1+1))] 78)).heap[c.heap.size+1+1+1]?=some (.cells #[.slice o l.length cap,.map (some c.heap.size),.map (some (c.heap.size+1)),.map (some (c.heap.size+1+1))] 78 (0,0)):=by have:=aB (((c.alloc (.map #[] 0)).alloc (.map #[] 0)).alloc (.map #[] 0)) (.cells #[.slice o l.length cap,.map (some c.heap.size),.map (some (c.heap.size+1)),.map (some (c.heap.size+1+1))] 78);simpa using this
 have X:eF (c.alloc (.map #[] 0)) c.heap.size []:=⟨_,0,Pl.nil,az _,AZ (H:=Unit) c prog 9 (plainElem prog 3)⟩;have u:eF ((((c.alloc (.map #[] 0)).alloc (.map #[] 0)).alloc (.map #[] 0)).alloc (.cells #[.slice o l.length cap,.map (some c.heap.size),.map (some (c.heap.size+1)),.map (some (c.heap.size+1+1))] 78)) c.heap.size []:=((X.alloc _).alloc _).alloc _;have e:bp ((((c.alloc (.map #[] 0)).alloc (.map #[] 0)).alloc (.map #[] 0)).alloc (.cells #[.slice o l.length cap,.map (some c.heap.size),.map (some (c.heap.size+1)),.map (some (c.heap.size+1+1))] 78)) prog 3 (c.heap.size+1) 0 (fun _=>none):=by have:=bp.made (c.alloc (.map #[] 0)) prog 3;rw[bj]at this;exact((this.kept (jD _ _ none) ak).kept (jD _ _ none) ak)
 have f:bp ((((c.alloc (.map #[] 0)).alloc (.map #[] 0)).alloc (.map #[] 0)).alloc (.cells #[.slice o l.length cap,.map (some c.heap.size),.map (some (c.heap.size+1)),.map (some (c.heap.size+1+1))] 78)) prog 3 (c.heap.size+1+1) 0 (fun _=>none):=by have:=bp.made ((c.alloc (.map #[] 0)).alloc (.map #[] 0)) prog 3;rw[bj,bj]at this;exact this.kept (jD _ _ none) ak
 have a5:=A.size;have ao:((((c.alloc (.map #[] 0)).alloc (.map #[] 0)).alloc (.map #[] 0)).alloc (.cells #[.slice o l.length cap,.map (some c.heap.size),.map (some (c.heap.size+1)),.map (some (c.heap.size+1+1))] 78)).cell? ⟨w.heap.size,0,none⟩=some (.slice o l.length cap):=(D.cell (p:=⟨w.heap.size,0,none⟩) (aU T)).trans cs;go_wp2_with fail
 obtain⟨bu,ab⟩:=ar (((((c.alloc (.map #[] 0)).alloc (.map #[] 0)).alloc (.map #[] 0)).alloc (.cells #[.slice o l.length cap,.map (some c.heap.size),.map (some (c.heap.size+1)),.map (some (c.heap.size+1+1))] 78)));rw[<-ab]at D d u e f⊢;clear ab ao;obtain⟨B,s⟩:=ar (c.heap.size);rw[<-s]at d u e f⊢;have bb:w.heap.size<=B:=by rw[s];exact E.size
 have ba:=ah s;clear s;have Z:=aO E D;clear D A E T cs J P z a5;go_loopw [22] (fun v wr=>∃k:Nat,v=.int .i64 k/\k<=l.length/\eF wr B ((l.take k).map am.t)/\wr.heap[B+1+1+1]?=some (.cells #[.slice o l.length cap,.map (some B),.map (some (B+1)),.map (some (B+1+1))] 78 (0,0))/\bp wr prog 3 (B+1) 0 (fun _=>none)/\bp wr prog 3 (B+1+1) 0 (fun _=>none)/\Below w.heap.size w wr) (fun v _=>l.length-(intOf v).toNat)
 case atStart=>exact⟨0,rfl,aZ _,u,d,e,f,Z⟩
 case round=>
  clear u d e f X Z;obtain⟨k,rfl,bf,y,d,e,f,m⟩:=hrel;have a6:=ai 1 d;by_cases a0:k<l.length
  ·have aq:decide ((k:Int)<l.length)=true:=bQ
   have bg:(k:Int)<l.length:=ad;obtain⟨x,I⟩:∃n,l[k]?=some n:=⟨_,aH a0⟩;obtain⟨b,bq,rfl,bc,bw,bz,bA,bB,bC,bD⟩:=(r.below m).at I;have a4:=a3 x (aX I);have aa:(l.take (k+1)).map am.t=(l.take k).map am.t++[x.t]:=by rw[bV,I];simp
   have O:((l.take k).map am.t).length=k:=by rw[cf,fm];omega
   have av:=ni x.t.name a4;have al:=(y.alloc (.cells (typeRow x).toArray 53));obtain⟨ae,n,W,a1,Q⟩:=al;have R:=Q.drew;have i:=(bk wr (.cells (typeRow x).toArray 53) _ (aU d)).trans d;have M:=e.kept (jD wr (.cells (typeRow x).toArray 53) none) ak;have N:=f.kept (jD wr (.cells (typeRow x).toArray 53) none) ak;have C:=m.alloc m.size (.cells (typeRow x).toArray 53);obtain⟨V,af⟩:=aD aa W;rw[O]at a1;unfold typeRow at Q C R i M N;clear aa W I y;have a7:(wr.alloc (.cells #[.string ⟨x.t.name.toArray⟩,.string ⟨x.t.label.toArray⟩,.slice x.ao x.t.attrs.length x.ac,.string ⟨x.t.key.toArray⟩,.bool x.t.text,.slice x.no x.t.nodes.length x.nc] 53)).cell? ⟨B+1+1+1,1,none⟩=some (.map (some B)):=ai 1 i;clear a6;go_wp2_with fail
   obtain⟨K,G⟩:=ar ((wr.alloc (.cells #[.string ⟨x.t.name.toArray⟩,.string ⟨x.t.label.toArray⟩,.slice x.ao x.t.attrs.length x.ac,.string ⟨x.t.key.toArray⟩,.bool x.t.text,.slice x.no x.t.nodes.length x.nc] 53)));have t0:K.heap[wr.heap.size]?=some (.cells #[.string ⟨x.t.name.toArray⟩,.string ⟨x.t.label.toArray⟩,.slice x.ao x.t.attrs.length x.ac,.string ⟨x.t.key.toArray⟩,.bool x.t.text,.slice x.no x.t.nodes.length x.nc] 53 (0,0)):=by rw[G];exact aB wr _
   have be:wr.grownBy K (some B):=by rw[G];exact jD wr _ (some B)
   rw[<-G]at R i M N C a7⊢;clear Q G;have bt:K.cell? ⟨wr.heap.size,0,none⟩=some (.string ⟨x.t.name.toArray⟩):=ai 0 t0;go_still_tail 7,aA
   change wpList _ _ _ _ _ (World.drew _);go_wp2_with(first
    |(at_mapUpdate;go_must (refine A3 _ rfl _ _ _ 74 rfl 9 3 (ll gq) jE _ B _ ae rfl R bI _ _ _ rfl rfl av _ [] (plainElem_int cU (kM ad)) ?_);intro a8 a2 h)
    |go_in)
   have h:K.grownBy a8 (some B):={h with};go_roundw
   case rel=>
    refine⟨k+1,aV,ad,⟨_,n+1,by rw[V.o];have:=af.o.snoc x.t;rw[O]at this;exact this,by rw[V.o,cR,O];simp;omega,a2⟩,?_,M.kept h ak,N.kept h aR,C.grown h C.size (fun j q=>by cases q;omega)⟩;exact(h.block _ (aU i) aR).trans i
   case measure=>exact bh
  ·have aq:decide ((k:Int)<l.length)=false:=bK
   rw[dh ad]at y
   go_wp2
   go_ret2
   refine⟨m,_,rfl,?_⟩;exact⟨B,B+1,B+1+1,fun a9=>⟨m,ad,d,y,⟨0,_,e,ad⟩,⟨0,_,f,ad,fun a v q=>by cases q⟩,ad⟩,e⟩
theorem bJ{w w':World}(a:Below w.heap.size w w')(row:Option Nat):w.grownBy w' row:=⟨a.os,a.tape,a.output,a.size,fun k b _=>a.block k b⟩
theorem bp.block{w:World}{P:Program}{k:TypeId}{M n:Nat}{f:Lit->Option Value}(b:bp w P k M n f):∃a c,w.heap[M]?=some (.map a c):=by obtain⟨e,⟨a,c,d,_⟩,_⟩:=b;exact⟨a,c,d⟩
theorem eF.block{w:World}{M:Nat}{ts:List aw}(b:eF w M ts):∃a c,w.heap[M]?=some (.map a c):=by obtain⟨e,n,_,_,a,c,d,_⟩:=b;exact⟨a,c,d⟩
theorem oz.kept{w w':World}{a:Nat}{ts:List aw}{x:aw}{row:Option Nat}(b:oz w a ts x)(c:w.grownBy w' row)(f:some a≠row):oz w' a ts x:=by obtain⟨n,g,d,e,h⟩:=b;exact⟨n,g,d.kept c f,e,h⟩
theorem oz.block{w:World}{a:Nat}{ts:List aw}{x:aw}(d:oz w a ts x):∃b c,w.heap[a]?=some (.map b c):=by obtain⟨n,g,e,f,h⟩:=d;exact e.block
theorem ax{w:World}{M:Nat}{x:Obj}(a:w.heap[M]?=some x):M<w.heap.size:=(iq.1 a).1
theorem cT.kept{r w w':World}{h:Nat->Prop}{g i j m:Nat}{o:Option Addr}{cap:Nat}{l:List am}{row:Option Nat}(d:cT r h w g i j m o cap l)(f:w.grownBy w' row)
 (u:∀q,row=some q->r.heap.size<=q/\q≠g/\((∃xs t,w.heap[q]?=some (.cells xs t))∨(q≠i/\q≠j/\q≠m/\h q))):cT r h w' g i j m o cap l:=by
 have p:∀M,(∃y c,w.heap[M]?=some (.map y c))->(M=i∨M=j∨M=m∨¬h M)->some M≠row:=fun M ⟨y,c,E⟩ D b=>by
  obtain⟨_,_,e⟩:=u M b.symm;rcases e with⟨xs,t,e⟩|⟨s,n,e,C⟩
  ·rw[E]at e;cases e
  ·rcases D with b|b|b|b
   ·exact s b
   ·exact n b
   ·exact e b
   ·exact b C
 obtain⟨K,f2,z,G⟩:=d.made;obtain⟨L,f3,A,H,F⟩:=d.inside;refine⟨d.base.grown f d.base.size (fun k b=>(u k b).1),d.fresh,?_,d.places.kept f (p _ d.places.block (.inl rfl)),⟨K,f2,z.kept f (p _ z.block (.inr (.inl rfl))),G⟩,
  ⟨L,f3,A.kept f (p _ A.block (.inr (.inr (.inl rfl)))),H,fun a v I=> ?_⟩,d.apart⟩
 ·rw[f.block g (ax d.blk) (fun b=>(u g b.symm).2.1 rfl)]
  exact d.blk
 ·obtain⟨B,x,b,J,s,n,e⟩:=F a v I
  exact⟨B,x,b,J,s,n,e.kept f (p _ e.block (.inr (.inr (.inr n))))⟩
theorem cT.more{j w:World}{d A':Nat->Prop}{e f g h:Nat}{o:Option Addr}{cap:Nat}{l:List am}(b:cT j d w e f g h o cap l)
 (t:∀q,A' q->d q∨w.heap.size<=q):cT j A' w e f g h o cap l:=by
 obtain⟨E,f3,u,B,A⟩:=b.inside;refine⟨b.base,b.fresh,b.blk,b.places,b.made,⟨E,f3,u,B,fun a v C=> ?_⟩,b.apart⟩;obtain⟨i,x,p,D,r,s,m⟩:=A a v C;obtain⟨F,c,z⟩:=m.block;refine⟨i,x,p,D,r,fun y=> ?_,m⟩;rcases t i y with n|n
 ·exact s n
 ·have:=ax z
  omega
theorem zq(p q:Nat->Bool)(a:Nat)(g:p a=false)(f:∀x,q x=(p x||x==a)):∀L,((List.range L).filter p).length+(if a<L then 1 else 0)=((List.range L).filter q).length:=by
 intro L;induction L with
 |zero=>simp
 |succ L ih=>
  rw[ud,li,li,cR,cR,<-ih];by_cases e:L=a
  ·subst e
   have d:q L=true:=by rw[f];simp
   simp[g,d]
  ·have d:q L=p L:=by rw[f];simp[e]
   by_cases b:p L=true
   ·have:q L=true:=d.trans b
    by_cases c:a<L
    ·simp[b,this,c,show a<L+1 by omega]
    ·simp[b,this,c,show¬a<L+1 by omega]
   ·have b:p L=false:=by simpa using b
    have:q L=false:=d.trans b;by_cases c:a<L
    ·simp[b,this,c,show a<L+1 by omega]
    ·simp[b,this,c,show¬a<L+1 by omega]
theorem zr(p:Nat->Bool)(L:Nat):((List.range L).filter p).length<=L:=by have:=lq p (List.range L);simpa using this
def sW(ts:List aw)(b:List Bytes)(g:Lit->Option Value):Prop:=∀a:Bytes,g (.string a)=((b.map (cI ts)).find? (fun j=>labelAt ts j==a)).map (fun j=>Value.int .i64 (j:Nat))
theorem sW.put{ts:List aw}{a:List Bytes}{g:Lit->Option Value}{k:Nat}{b:Bytes}(s:dk ((a.map (cI ts)).map (labelAt ts))=false)(h:a[k]?=some b)(l:sW ts (a.take k) g):
 sW ts (a.take (k+1)) (eW g (.string (labelAt ts (cI ts b))) (.int .i64 (cI ts b:Nat))):=by
 intro f;rw[bV,h,iH,II];simp only[fF,gd,ul,List.find?_cons,List.find?_nil];by_cases e:f=labelAt ts (cI ts b)
 ·subst e
  rw[jw];have r:((a.take k).map (cI ts)).find? (fun j=>labelAt ts j==labelAt ts (cI ts b))=none:=by
   rw[Iu];intro j q p;obtain⟨b',o,rfl⟩:=fH.1 q;obtain⟨i,d⟩:=pd.1 o;rw[List.getElem?_take]at d;split at d
   ·rename_i t
    have m:((a.map (cI ts)).map (labelAt ts))[i]?=some (labelAt ts (cI ts b)):=by rw[bW,bW,d];simpa using p
    have n:((a.map (cI ts)).map (labelAt ts))[k]?=some (labelAt ts (cI ts b)):=by rw[bW,bW,h];rfl
    have:=sM s i k _ m n;omega
   ·cases d
  rw[r];simp
 ·rw[jS _ _ (by intro c;injection c with c;exact e c),l f]
  have:(labelAt ts (cI ts b)==f)=false:=by rw[eu];exact fun c=>e c.symm
  rw[this];simp
theorem zt{w:World}{B b size n q:Nat}{v:Value}{xs:List Value}(c:w.ownsRow B b size v n xs)(f:q<B):v.ownBlock=none∨v.ownBlock≠some q:=by
 rcases c.2 with⟨rfl,_⟩|⟨g,cap,d,rfl,e,_⟩
 ·exact .inl rfl
 ·refine .inr ?_
  simp only[Value.ownBlock];intro a;injection a with a
  omega
def zu(g:World)(c:Nat->Prop)(d e f a:Nat)(l:List am)(o:Option Addr)(cap:Nat)(x:am)(w:World)(h:Ending)(w':World):Prop:=
 ∃b,h=.returned (.map (some b))/\oz w' b (l.map am.t) x.t/\cT g c w' d e f a o cap l/\w.grownBy w' (some a)
theorem Ej(l:List am)(o:Option Addr)(cap:Nat)(W:World)(a6:bR W o cap l)(N:dI l)(b2:bT (l.map am.t)=0)(S:Nat->Prop)(C T a4 M:Nat)(k:Nat)(x:am)(B:l[k]?=some x)(w:World)
 (bF:∀q,S q->q<w.heap.size) (e:cT W S w C T a4 M o cap l):
 Calls prog 63 #[.pointer (some ⟨C,0,none⟩),.int .i64 (k:Nat)] w (zu W S C T a4 M l o cap x w):=by
 have b9:k<l.length:=(aL.1 B).1;have ed:=N.len;have ea:(k:Int)<l.length:=ad;obtain⟨cq,f3,O,be,aa⟩:=e.inside;have i:=e.blk;have a1:=ai 0 i;have bq:=ai 3 i;have ab:keyOf prog 3 (.int .i64 (k:Nat))=some (.int .i64 (k:Nat)):=pj cU (kM ad);have bo:(zeroValue 74).run prog w=.ok (.map none) w:=aA;have af:=O.look_ok (gw cU) underlying76 bo dH ab;have eg:= @l8 prog;clear bo;unfold zu;cases I:f3 (.int .i64 (k:Nat))with
 |some v=>
  obtain⟨V,y,rfl,u,em,c6,bZ⟩:=aa k v I;rw[B]at u;injection u with u
  subst u;rw[I]at af;clear aa I ab be;go_enter func63,ntmps63
  go_wp2
  go_ret;exact⟨V,rfl,bZ,e,bJ (aE _ w) _⟩
 |none=>
  rw[I]at af;have ba:=qJ b2;have a0:x.t∈l.map am.t:=l9 (aX B);have aq:=ba.labels x.t a0;have ao:=ba.placed x.t a0;rw[uW]at aq;have Z:∀{g:Lit->Option Value},sW (l.map am.t) (aI x.t.nodes) g->∀L:Bytes,g (.string L)=(ix (l.map am.t) x.t L).map (fun j=>Value.int .i64 (j:Nat)):=fun F L=>by unfold ix;rw[uW];exact F L
  have ag:(kidsS (l.map am.t) x.t).length=(aI x.t.nodes).length:=by rw[uW,cf]
  have a9:=a6.below e.base;have a8:=(a9.2 x (aX B)).2;have ce:=qB x.t.nodes;have bl:∀b∈aI x.t.nodes,b.length<=1048576:=fun b D=>by obtain⟨n,Q,rfl⟩:=yj D;exact N.sym x (aX B) n Q
  obtain⟨a5,bt,rfl,b4,cv,cx,cF,cG,cN,bz⟩:=a9.at B;have R:=fun bu (D:Below w.heap.size w bu)=>uV x.t.nodes x.no x.nc bu (a8.below D) (fun n Q=>N.sym x (aX B) n Q);unfold sr at R;obtain⟨f,bi⟩:=ar (aI x.t.nodes);rw[<-bi]at R bl ce Z aq ag ao;clear bi a0 a8;have A:Below w.heap.size w (w.alloc (.map #[] 0)):=aG;have co:(w.alloc (.map #[] 0)).cell? ⟨C,0,none⟩=some (.slice (some ⟨a5,bt,none⟩) l.length cap):=(A.cell (p:=⟨C,0,none⟩) (ax i)).trans a1;have c0:=(A.cell (p:=⟨a5,bt+k*6+5,none⟩) b4).trans bz;go_enter func63,ntmps63
  go_wp2_with fail
  go_must (refine(R _ aG).mono ?_)
  rintro d a2 ⟨⟨v,rfl,K⟩,Y⟩;have K:cn a2 (w.heap.size+1) v f:=by simpa using K
  have bb:Below w.heap.size w a2:=A.trans (Y.mono A.size);obtain⟨cu,cs,rfl⟩:=mg K;have J:bp a2 prog 9 w.heap.size 0 (fun _=>none):=(bp.made w prog 9).below Y ak;clear R af a1 bq co cv cx cF cG cN bz c0 A Y i
  go_wp2
  go_loopw [8,9,33] (fun i8 eo v wr=>∃h:Nat,v=.int .i64 h/\h<=f.length/\(∃n g,bp wr prog 9 w.heap.size n g/\n<=h/\sW (l.map am.t) (f.take h) g)/\cn wr (w.heap.size+1) (.slice cu f.length cs) f/\Below w.heap.size w wr) (fun _ _ v _=>f.length-(intOf v).toNat)
  case atStart=>exact⟨0,rfl,aZ _,⟨0,_,J,az _,fun L=>rfl⟩,K,bb⟩
  case round=>
   clear J K bb;obtain⟨h,rfl,eb,⟨n,g,J,Q,F⟩,av,s⟩:=hrel;have i:=(s.block C (ax e.blk)).trans e.blk;have a1:=ai 0 i;have er:=ai 1 i;have bq:=ai 3 i;by_cases ca:h<f.length
   ·have b5:decide ((h:Int)<f.length)=true:=bQ
    have ec:(h:Int)<f.length:=ad;obtain⟨b,D⟩:∃b,f[h]?=some b:=⟨_,aH ca⟩;obtain⟨_,b6⟩:=mh av;obtain⟨c4,c5,rfl,ds,ew⟩:=b6.at D;have A:b∈f:=aX D;have ch:=bl b A;have b7:=ni b ch;obtain⟨a3,es,bN,el,cc⟩:=e.places.kept (bJ s none) ak;have X:=bN.at0 b;have an:=ao b A;obtain⟨c,H⟩:=ar (cI (l.map am.t) b);obtain⟨y,u⟩:∃y,l[c]?=some y:=by
     cases al:placeS (l.map am.t) b with
     |none=>rw[al]at an;cases an
     |some bA=>
      have:c=bA:=by rw[H];unfold cI;rw[al];rfl
      subst this;have:=vf al;rw[cf]at this;exact⟨_,aH this⟩
    have ae:labelAt (l.map am.t) c=y.t.label:=by unfold labelAt;rw[bW,u];rfl
    have bf:=F.put aq D;rw[<-H,ae]at bf;have dr:c<l.length:=(aL.1 u).1;have c9:(c:Int)<l.length:=ad;obtain⟨c3,ev,m,c8,ex,ez,eA,eB,eC,eD⟩:=(a6.below (e.base.trans (s.mono e.base.size))).at u;injection m with m
    injection m with m r bC
    subst m r;clear bC;have ci:=N.label y (aX u);have b8:=ni y.t.label ci;change a3.atKey (.string b) _=.lit (.int .i64 ((cI (l.map am.t) b:Nat):Int))at X;rw[<-H]at X;obtain⟨c1,c2⟩:=aD H ae;clear H ae an ao;go_wp2_with(first
     |(at_lookup;go_must (refine wpList_lookup_own_int _ rfl _ _ 74 rfl 9 3 .i64 (ll gq) jE cU (px _) T _ a3 rfl cc _ _ rfl b7 ?_);intro bB E en;obtain rfl:bB=((c:Nat):Int):=by{rw[X]at E;injection E with E;injection E with _ E;exact E.symm})
     |(at_mapUpdate;go_must (refine oy J rfl _ _ _ 74 rfl 3 (ll gq) jE rfl bI _ _ _ rfl rfl dH b8 ?_);intro bw P t)
     |go_in)
    go_roundw
    case rel=>exact⟨h+1,aV,ad,⟨n+1,_,P,ad,bf⟩,dS av t (zt av (Nat.lt_succ_self _)),s.grown t s.size (fun q d=>by cases d;exact az _)⟩
    case measure=>exact bh
   ·have b5:decide ((h:Int)<f.length)=false:=bK
    rw[dh ad]at F;have b1:=O.below s O.lt;have ek:=zr (fun a=>(f3 (.int .i64 (a:Nat))).isSome) l.length;go_wp2_with(first
     |(at_mapUpdate;go_must (refine oy b1 rfl _ _ _ 76 rfl 74 (gw cU) underlying76 rfl bI _ _ _ rfl rfl dH ab ?_);intro bw cb t)
     |go_in)
    go_ret;have bg:=e.kept (bJ s none) (fun q d=>by cases d);have bd:w.grownBy bw (some M):=(bJ s _).trans t;have c7:M<w.heap.size:=O.lt;have P:=J.kept t (by intro d;injection d with d;omega);have bc:=zq (fun a=>(f3 (.int .i64 (a:Nat))).isSome) (fun a=>(eW f3 (.int .i64 (k:Nat)) (.map (some w.heap.size)) (.int .i64 (a:Nat))).isSome) k (by simp only[I];rfl) (fun a=>by
     by_cases d:a=k
     ·subst d;simp[jw]
     ·have m:(Lit.int .i64 (a:Nat))≠ .int .i64 (k:Nat):=fun r=>by injection r with _ r;omega
      simp[jS f3 _ m,d]) l.length
    rw[ay b9]at bc;refine⟨_,rfl,⟨n,g,P,by rw[ag];omega,Z F⟩,⟨e.base.grown bd e.base.size (fun q d=>by cases d;exact e.fresh.2.2.2),e.fresh,(t.block C (ax i) (fun d=>by cases d;exact e.apart.2.1 rfl)).trans i,bg.places.kept t (fun d=>by cases d;exact e.apart.1 rfl),?_,⟨cq+1,_,cb,aJ (Nat.succ_le_succ be) (BJ bc),fun a v G=> ?_⟩,e.apart⟩,bd⟩
    ·obtain⟨cp,f2,b0,cd⟩:=bg.made
     exact⟨cp,f2,b0.kept t (fun d=>by cases d;exact e.apart.2.2.1 rfl),cd⟩
    ·by_cases d:a=k
     ·subst d
      rw[jw]at G;injection G with G
      subst G;exact⟨_,x,rfl,B,ad,fun b3=>by have:=bF _ b3;omega,n,g,P,by rw[ag];omega,Z F⟩
     ·have m:(Lit.int .i64 (a:Nat))≠ .int .i64 (k:Nat):=fun r=>by injection r with _ r;omega
      rw[jS _ _ m]at G;obtain⟨V,z,r,cl,a7,bD,bE⟩:=aa a v G;exact⟨V,z,r,cl,a7,bD,(bE.kept (bJ s none) ak).kept t (fun d=>by cases d;exact a7 rfl)⟩
end Go.Proofs.YtnadadbndcdolaaGreatDoor
