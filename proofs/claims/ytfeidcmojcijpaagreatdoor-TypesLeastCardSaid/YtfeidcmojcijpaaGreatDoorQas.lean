import Derived.Test.YtfeidcmojcijpaaGreatDoorQab
import Derived.Test.YtfeidcmojcijpaaGreatDoorQar
set_option linter.all false
set_option maxRecDepth 100000
set_option maxHeartbeats 0
namespace Go.Proofs.YtfeidcmojcijpaaGreatDoor
open Go.RowKit Tryz
def cI.take{w:World}{o:Option Addr}{cap:Nat}{ws:List Bytes}(c:cI w o cap ws)(k:Nat)(l:k<=ws.length):cI w o cap (ws.take k):=by
 have f:(ws.take k).length=k:=by rw[eh];omega
 refine⟨by rw[bn];omega,by have:=c.2.1;omega,c.2.2.1,fun h=> ?_⟩;rw[f]at h;obtain⟨b,i,e,g,d⟩:=c.2.2.2 ad;refine⟨b,i,e,g,fun j u a=>d j u ?_⟩;rw[zP]at a;have:=(aF.1 a).1;rw[List.getElem?_take]at a;split at a;exact a;cases a
def cI.drop{w:World}{b d cap:Nat}{ws:List Bytes}(a:cI w (some ⟨b,d,none⟩) cap ws)(k:Nat)(t:k<=ws.length)(o:Option Addr)(n:k<ws.length->o=some ⟨b,d+k,none⟩):cI w o (cap-k) (ws.drop k):=by
 have i:(ws.drop k)=ws-k:=lV;have r:=a.2.1;have s:=a.2.2.1;refine⟨by rw[bn];omega,ad,ad,fun m=> ?_⟩;rw[i]at m;obtain⟨p,v,e,l,h⟩:=a.2.2.2 ad;injection e with e
 injection e with f g q
 subst f;subst g;refine⟨b,_,n ad,l,fun j u c=> ?_⟩;rw[List.map_drop,zN]at c;rw[lZ];exact h _ u c
def PM b off n c k(a:k<=c)(f:c<=maxLen) w:(Instr.slice 53 (.slice (some ⟨b,off,none⟩) n c) none (some (.int .i64 k)) none).run prog w=.ok (.slice (some ⟨b,off,none⟩) k c) w:=by have d:=aL k;have e:(k:Int)<=c:=ad;simp[go_sem,a]
def PN b off n c k(d:k<=n)(h:n<=c) w:(Instr.slice 53 (.slice (some ⟨b,off,none⟩) n c) (some (.int .i64 k)) none none).run prog w=.ok (.slice (some ⟨b,if c=k then off else off+k,none⟩) (n-k) (c-k)) w:=by have e:=aL k;have f:(k:Int)<=n:=ad;have g:(n:Int)<=c:=ad;by_cases a:c=k;rw[au a];simp[go_sem,d,a];rw[ap a];simp[go_sem,d,a]
def WH(k:Nat)(a:k=0) w:(Instr.slice 53 () none (some (.int .i64 k)) none).run prog w=.ok () w/\(Instr.slice 53 () (some (.int .i64 k)) none none).run prog w=.ok () w:=by subst a;constructor<;>simp[go_sem]
def ve(o:Option Addr)(c:Nat):Prop:=(o=none/\c=0)∨∃b a,o=some ⟨b,a,none⟩
def PO{w wo wc ws}(c:cI w wo wc ws)(m:ve wo wc) k(d:k<=ws.length):
 ∃f g e,(∀a,(Instr.slice 53 (.slice wo ws wc) none (some (.int .i64 k)) none).run prog a=.ok (.slice f k wc) a)/\(∀a,(Instr.slice 53 (.slice wo ws wc) (some (.int .i64 k)) none none).run prog a=.ok (.slice g (ws-k) e) a)/\
  cI w f wc (ws.take k)/\cI w g e (ws.drop k)/\ve f wc/\ve g e:=by
 have i:=c.2.1;have j:=c.2.2.1;rcases m with⟨rfl,rfl⟩|⟨b,h,rfl⟩
 have n:ws.length=0:=ad;have l:k=0:=ad;subst l;exact⟨none,none,0,fun a=>by rfl,fun a=>by rfl,c.take 0 d,c,.inl ⟨rfl,rfl⟩,.inl ⟨rfl,rfl⟩⟩;exact⟨_,_,_,fun a=>PM b h _ wc k ad j a,fun a=>PN b h _ wc k d i a,c.take k d,c.drop k d _ (fun o=>by rw[ap ad]),.inr ⟨_,_,rfl⟩,.inr ⟨_,_,rfl⟩⟩
structure PR(ts:List aB):Prop where
 zv:∀t∈ts,t.zv≠[]
 name:∀t∈ts,bp t.name=true
 E:∀t∈ts,t.text=false->bK t.E=0
 places:∀t∈ts,∀k∈kidsS ts t,k<ts.length
def F3{ts}(a:bY ts=0):PR ts:=by
 have h:=O4 a;have i:=a;unfold bY at a;split at a;cases a
 split at a;cases a
 split at a;cases a
 rename_i g;split at a;cases a
 split at a;cases a
 split at a;cases a
 split at a;rename_i c;omega;rename_i c;have c:=dU c;have d:∀t∈ts,gR t=false:=fun t b=>by rw[<-iX];exact fun e=>g (jx.2 ⟨t,b,e⟩)
 refine⟨fun t b e=> ?_,fun t b=> ?_,FM c,fun t b k f=> ?_⟩;have:=d t b;unfold gR at this;rw[e]at this;simp[show bp []=false from rfl]at this;have:=d t b;unfold gR at this;simp at this;exact this.1.1.1;have:=FJ (((h.zs t b) k).2 ⟨k,f,rfl⟩);omega
def F4{l}(a:bK l=0):d9 0 l=true/\l≠[]/\gB l=true:=by
 have b:gB l=true:=by
  unfold bK at a;split at a;cases a
  split at a;cases a
  rename_i b;simpa using b
 have:=b;unfold gB at this;simp at this;exact⟨this.1.1,this.2,b⟩
def PS{ts}(f:bY ts=0){x}(g:x∈ts){lb j}(a:lw ts x lb=some j):∃t,ts[j]?=some t/\t.zv=lb/\j<ts:=by have b:=List.find?_some a;have e:=List.mem_of_find?_eq_some a;have c:=(F3 f).places x g j e;have⟨t,d⟩:=aT c;refine⟨t,d,?_,c⟩;rw[Ag d]at b;simpa using b
def F5:∀{ks} {k m},k∈ks->m∈nodesT k->m∈di ks
 |a::ks,k,m,b,c=>by
  rw[di];rcases bX.1 b with rfl|b
  exact Do _ c;exact KS _ (F5 b c)
def Bg t:t∈nodesT t:=by rw[DX];simp
def Bh{t k m}(a:k∈t.zs)(b:m∈nodesT k):m∈nodesT t:=by rw[DX];exact dM _ (F5 a b)
def Bi{t k:Tr}(b:k∈t.zs):SizeOf.sizeOf k<SizeOf.sizeOf t:=by obtain⟨l,x,a,ks⟩:=t;have:=KT b;simp only[Tr.zs]at this;simp only[Tr.mk.sizeOf_spec];omega
def p7(w:World)(Mk:Nat)(ts:List aB)(x:aB):Prop:=∃n g,bV w prog 9 Mk n g/\n<=(kidsS ts x)/\∀a:Bytes,g (.string a)=(lw ts x a).map (fun j=>Value.int .i64 (j:Nat))
structure eQ(W0:World)(A:Nat->Prop)(w:World)(K M1 M2 M3:Nat)(o:Option Addr)(cap:Nat)(l:List ai):Prop where
 base:Below W0.heap.size W0 w
 fresh:W0.heap.size<=K/\W0.heap.size<=M1/\W0.heap.size<=M2/\W0.heap.size<=M3
 blk:w.heap[K]?=some (.cells #[.slice o l.length cap,.map (some M1),.map (some M2),.map (some M3)] 76 (0,0))
 places:fA w M1 (l.map ai.t)
 made:∃n f,bV w prog 3 M2 n f/\n<=64
 inside:∃n f,bV w prog 3 M3 n f/\n<=((List.range l.length).filter (fun a=>(f (.int .i64 (a:Nat))).isSome)).length/\∀(a:Nat) (v:Value),f (.int .i64 (a:Nat))=some v->∃Mk x,v=.map (some Mk)/\l[a]?=some x/\Mk≠M3/\¬A Mk/\p7 w Mk (l.map ai.t) x.t
 apart:M1≠M3/\K≠M3/\M2≠M3/\M1≠M2
def PU(w w':World)(c d a e:Nat)(o:Option Addr)(cap:Nat)(l:List ai):Prop:=(∀b,eQ w b w' c d a e o cap l)/\bV w' prog 3 a 0 (fun _=>none)
def Bj(l:List ai)(o:Option Addr)(cap:Nat)(w:World)(e:Ending)(w':World):Prop:=
 aR w w'/\((bY (l.map ai.t)≠0/\e=.returned (.tuple #[.pointer none,.int .i64 (bY (l.map ai.t))]))∨
  (bY (l.map ai.t)=0/\∃a,e=.returned (.tuple #[.pointer (some ⟨a,0,none⟩),.int .i64 0])/\∃b c d,PU w w' a b c d o cap l))
def Bk l o cap w(i:cw w o cap l)(c:ep l):
 dB 21 #[.agg #[.slice o l cap]] w (Bj l o cap w):=by
 have d:=i.1.2.1;have d:=i.1.2.2.1;unfold maxLen at d;have d:=c.len;have B:=c.name;have q:aR w (cT w #[.slice o l cap] 24):=aP;have t:=aN w (.cells #[.slice o l cap] 24);have y:=aS t;have d:=At l o cap _ (i.O q) c;have⟨g,h⟩:=am (bY (l.map ai.t));unfold Bj;rw[<-h]at d⊢;have⟨m,f⟩:=am (w.alloc (.cells #[.slice o l cap] 24));rw[<-f]at q t y d;have m:= @pq prog;clear h c
 go_in
 go_wp2_with fail
 rw[<-f];clear f;refine ar d ?_;intro c r;clear d;have u:=aE q r;have z:=(r.J _ y).Z t;have cs:=ak 0 z;by_cases d:g≠0
 ·have f:(g==0)=false:=by simpa using d
  have f:=ah d;clear d
  go_wp2
  go_ret2
  exact⟨u,.inl ⟨f.o,rfl⟩⟩
 have d:=Classical.not_not.1 d;subst d;have s:Below c.heap.size c ((((c.alloc (.map #[] 0)).alloc (.map #[] 0)).alloc (.map #[] 0)).alloc (.cells #[.slice o l.length cap,.map (some c.heap.size),.map (some (c.heap.size+1)),.map (some (c.heap.size+1+1))] 76)):=(((aP.alloc aj _).alloc aO _).alloc aO _);have f:((((c.alloc (.map #[] 0)).alloc (.map #[] 0)).alloc (.map #[] 0)).alloc (.cells #[.slice o l.length cap,.map (some c.heap.size),.map (some (c.heap.size+1)),.map (some (c.heap.size+1+1))] 76)).heap[c.heap.size+1+1+1]?=some (.cells #[.slice o l.length cap,.map (some c.heap.size),.map (some (c.heap.size+1)),.map (some (c.heap.size+1+1))] 76 (0,0)):=by have:=aN (((c.alloc (.map #[] 0)).alloc (.map #[] 0)).alloc (.map #[] 0)) (.cells #[.slice o l cap,.map c,.map (some (c+1)),.map (some (c+1+1))] 76);simpa using this
 have A:fA (c.alloc (.map #[] 0)) c []:=⟨_,0,Pl.nil,ay _,C7 c _ 9 _⟩;have p:fA (cT (((c.alloc (.map #[] 0)).alloc (.map #[] 0)).alloc (.map #[] 0)) #[.slice o l cap,.map c,.map (some (c+1)),.map (some (c+1+1))] 76) c []:=((A.alloc _).alloc _).alloc _;have g:bV ((((c.alloc (.map #[] 0)).alloc (.map #[] 0)).alloc (.map #[] 0)).alloc (.cells #[.slice o l.length cap,.map (some c.heap.size),.map (some (c.heap.size+1)),.map (some (c.heap.size+1+1))] 76)) prog 3 (c.heap.size+1) 0 (fun _=>none):=by have:=bV.made (c.alloc (.map #[] 0)) prog 3;rw[bP]at this;exact((this.zw (kf _ _ none) aj).zw (kf _ _ none) aj)
 have h:bV ((((c.alloc (.map #[] 0)).alloc (.map #[] 0)).alloc (.map #[] 0)).alloc (.cells #[.slice o l.length cap,.map (some c.heap.size),.map (some (c.heap.size+1)),.map (some (c.heap.size+1+1))] 76)) prog 3 (c.heap.size+1+1) 0 (fun _=>none):=by have:=bV.made ((c.alloc (.map #[] 0)).alloc (.map #[] 0)) prog 3;rw[bP,bP]at this;exact this.zw (kf _ _ none) aj
 have C:=r.size;have m:((((c.alloc (.map #[] 0)).alloc (.map #[] 0)).alloc (.map #[] 0)).alloc (.cells #[.slice o l cap,.map c,.map (some (c+1)),.map (some (c+1+1))] 76)).cell? _=some (.slice o l cap):=(s.cell (aS z)).Z cs;go_wp2_with fail
 obtain⟨E,d⟩:=am (((((c.alloc (.map #[] 0)).alloc (.map #[] 0)).alloc (.map #[] 0)).alloc (.cells #[.slice o l cap,.map c,.map (some (c+1)),.map (some (c+1+1))] 76)));rw[<-d]at s f p g h⊢;clear d m;obtain⟨d,m⟩:=am c.heap.size;rw[<-m]at f p g h⊢;have c:w.heap.size<=d:=by rw[m];omega
 have c:=ah m;clear m;have c:=aE u s;clear s r u z cs t y q C;go_loopw [22] (fun v wr=>∃k:Nat,v=.int .i64 k/\k<=l/\fA wr d ((l.take k).map ai.t)/\wr.heap[d+1+1+1]?=some (.cells #[.slice o l cap,.map d,.map (some (d+1)),.map (some (d+1+1))] 76 (0,0))/\bV wr prog 3 (d+1) 0 (fun _=>none)/\bV wr prog 3 (d+1+1) 0 (fun _=>none)/\aR w wr) (fun v _=>l-(intOf v).toNat)
 case atStart=>exact⟨0,rfl,aH _,p,f,g,h,c⟩
 case round=>
  clear p f g h A c;obtain⟨k,rfl,c,p,f,g,h,m⟩:=hrel;have I:=ak 1 f;by_cases r:k<l
  ·have F:=bC r
   have c:=bk r;have⟨x,c⟩:=aT r;obtain⟨b,s,rfl,q,t,u,y,z,A,C⟩:=(i.O m).at c;have i:=B x (aK c);have C:(l.take (k+1)).map ai.t=(l.take k).map ai.t++[x.t]:=by rw[bH,c];simp
   have y:((l.take k).map ai.t).length=k:=by rw[bn,eh];omega
   have G:=qS _ i;have i:=(p.alloc (.cells (typeRow x) 55));obtain⟨D,n,s,H,z⟩:=i;have A:=z.drew;have i:=(br wr (.cells (typeRow x) 55) _ (aS f)).Z f;have t:=g.zw (kf wr (.cells (typeRow x) 55) none) aj;have u:=h.zw (kf wr (.cells (typeRow x) 55) none) aj;have q:=m.alloc m.size (.cells (typeRow x) 55);have⟨B,E⟩:=aC C s;rw[y]at H;unfold typeRow at z q A i t u;clear C s c p;have C:(wr.alloc (.cells (me x) 55)).cell? ⟨_,1,none⟩=some (.map d):=ak 1 i;clear I;go_wp2_with fail
   obtain⟨s,c⟩:=am ((wr.alloc (.cells (me x) 55)));have t0:s.heap[wr.heap.size]?=some (.cells (me x) 55 (0,0)):=by rw[c];exact aN wr _
   have H:wr.grownBy s (some d):=by rw[c];exact kf wr _ _
   rw[<-c]at A i t u q C⊢;clear z c;have c:gC s _ 0 (.string ⟨_⟩):=ak 0 t0;go_still_tail 7,az
   change wpList _ _ _ _ _ (World.drew _);go_wp2_with(first
    |(at_mapUpdate;go_must (refine C9 _ rfl _ _ _ 72 rfl 9 3 (om iI) lT _ d _ D rfl A bO _ _ _ rfl rfl G _ [] (plainElem_int ei (oI ad)) ?_);intro C z c)
    |go_in)
   have c:s.grownBy C d:={c with};go_roundw
   case rel=>
    refine⟨k+1,aD,ad,⟨_,_,by rw[B.o];have:=E.o.snoc x.t;rwa[y]at this,by rw[B.o,ck,y];simp;omega,z⟩,?_,t.zw c aj,u.zw c aO,q.zu c q.size (fun j e=>by cases e;omega)⟩;exact(c.J _ (aS i) aO).Z i
   case measure=>exact aM
  ·have F:=bG r
   rw[bI ad]at p
   go_wp2
   go_ret2
   refine⟨m,_,rfl,?_⟩;exact⟨d,_,_,fun c=>⟨m,ad,f,p,⟨0,_,g,ad⟩,⟨0,_,h,ad,fun a v e=>by cases e⟩,ad⟩,g⟩
def bL{w w'}(a:aR w w') row:w.grownBy w' row:=⟨a.os,a.tape,a.output,a.size,fun k b _=>a.J k b⟩
def bV.J{w:World}{P:Program}{k:TypeId}{b n:Nat}{f:Lit->Option Value}(d:bV w P k b n f):∃a c,w.heap[b]?=some (.map a c):=by obtain⟨D,⟨a,c,e,_⟩,_⟩:=d;exact⟨a,c,e⟩
def fA.J{w:World}{b:Nat}{ts:List aB}(d:fA w b ts):∃a c,w.heap[b]?=some (.map a c):=by obtain⟨D,n,_,_,a,c,e,_⟩:=d;exact⟨a,c,e⟩
def p7.zw{w w':World}{Mk:Nat}{ts:List aB}{x:aB}{row:Option Nat}(a:p7 w Mk ts x)(b:w.grownBy w' row)(e:some Mk≠row):p7 w' Mk ts x:=by obtain⟨n,g,c,d,f⟩:=a;exact⟨n,g,c.zw b e,d,f⟩
def p7.J{w:World}{Mk:Nat}{ts:List aB}{x:aB}(b:p7 w Mk ts x):∃a c,w.heap[Mk]?=some (.map a c):=by obtain⟨n,g,d,e,f⟩:=b;exact d.J
def aI{w:World}{M x}(a:w.heap[M]?=some x):M<w.heap.size:=(iJ.1 a).1
def eQ.zw{s w w':World}{i:Nat->Prop}{h j m n:Nat}{o:Option Addr}{cap:Nat}{l:List ai}{row:Option Nat}(b:eQ s i w h j m n o cap l)(g:w.grownBy w' row)
 (y:∀q,row=some q->s.heap.size<=q/\q≠h/\((∃xs t,w.heap[q]?=some (.cells xs t))∨(q≠j/\q≠m/\q≠n/\i q))):eQ s i w' h j m n o cap l:=by
 have r:∀f,(∃z c,w.heap[f]?=some (.map z c))->(f=j∨f=m∨f=n∨¬i f)->some f≠row:=fun f ⟨z,c,E⟩ D e=>by
  obtain⟨_,_,d⟩:=y f e.zy;rcases d with⟨xs,t,d⟩|⟨u,p,d,C⟩
  rw[E]at d;cases d;rcases D with e|e|e|e
  exact u e;exact p e;exact d e;exact e C
 have⟨J,f2,A,G⟩:=b.made;have⟨K,f3,B,H,F⟩:=b.inside;refine⟨b.base.zu g b.base.size (fun k e=>(y k e).1),b.fresh,?_,b.places.zw g (r _ b.places.J (.inl rfl)),⟨J,f2,A.zw g (r _ A.J (.inr (.inl rfl))),G⟩,
  ⟨K,f3,B.zw g (r _ B.J (.inr (.inr (.inl rfl)))),H,fun a v hv=> ?_⟩,b.apart⟩
 rw[g.J h (aI b.blk) (fun e=>(y h e.zy).2.1 rfl)];exact b.blk;obtain⟨Mk,x,e,I,u,p,d⟩:=F a v hv;exact⟨Mk,x,e,I,u,p,d.zw g (r _ d.J (.inr (.inr (.inr p))))⟩
def eQ.more{j w:World}{d A':Nat->Prop}{f g h i:Nat}{o:Option Addr}{cap:Nat}{l:List ai}(b:eQ j d w f g h i o cap l)
 (s:∀q,A' q->d q∨w.heap.size<=q):eQ j A' w f g h i o cap l:=by
 obtain⟨C,f3,t,A,z⟩:=b.inside;refine⟨b.base,b.fresh,b.blk,b.places,b.made,⟨C,f3,t,A,fun a v hv=> ?_⟩,b.apart⟩;obtain⟨Mk,x,e,B,p,r,m⟩:=z a v hv;obtain⟨D,c,y⟩:=m.J;refine⟨Mk,x,e,B,p,fun u=> ?_,m⟩;rcases s Mk u with n|n
 exact r n;have:=aI y;omega
def Bl p q a(g:p a=false)(f:∀x,q x=(p x||x==a)):∀L,((List.range L).filter p)+(if a<L then 1 else 0)=((List.range L).filter q).length:=by
 intro L;induction L with
 |zero=>simp
 |succ L ih=>
  rw[tW,pk,pk,ck,ck,<-ih];by_cases e:L=a;subst e;have d:q L=true:=by rw[f];simp
  simp[g,d];have d:q L=p L:=by rw[f];simp[e]
  by_cases b:p L=true;have:=d.Z b;by_cases c:a<L;simp[b,this,c,show a<L+1 by omega];simp[b,this,c,show¬a<L+1 by omega];have b:p L=false:=by simpa using b
  have:=d.Z b;by_cases c:a<L;simp[b,this,c,show a<L+1 by omega];simp[b,this,c,show¬a<L+1 by omega]
def Bm p L:((List.range L).filter p)<=L:=by have:=lf p (List.range L);simpa using this
def vf(ts:List aB)(b:List Bytes)(g:Lit->Option Value):Prop:=∀a:Bytes,g (.string a)=((b.map (kidOf ts)).find? (fun j=>labelAt ts j==a)).map (fun j=>Value.int .i64 (j:Nat))
def vf.put{ts:List aB}{a:List Bytes}{g:Lit->Option Value}{k:Nat}{b:Bytes}(s:cz ((a.map (kidOf ts)).map (labelAt ts))=false)(h:a[k]?=some b)(l:vf ts (a.take k) g):
 vf ts (a.take (k+1)) (il g (.string (labelAt ts (kidOf ts b))) (.int .i64 (kidOf ts b:Nat))):=by
 intro f;rw[bH,h,gL,KK];simp only[fp,dZ,r9,List.find?_cons,List.find?_nil];by_cases e:f=labelAt ts (kidOf ts b);subst e;rw[kt];have r:((a.take k).map (kidOf ts)).find? (fun j=>labelAt ts j==labelAt ts (kidOf ts b))=none:=by
  rw[List.find?_eq_none];intro j q p;obtain⟨t,o,rfl⟩:=dL.1 q;obtain⟨i,d⟩:=qG.1 o;rw[List.getElem?_take]at d;split at d;rename_i u;have m:((a.map (kidOf ts)).map (labelAt ts))[i]?=some (labelAt ts (kidOf ts b)):=by rw[bR,bR,d];simpa using p
  have n:((a.map (kidOf ts)).map (labelAt ts))[k]?=(labelAt ts (kidOf ts b)):=by rw[bR,bR,h];rfl
  have:=xY s i k _ m n;omega;cases d
 rw[r];simp;rw[mj _ _ (by intro c;injection c with c;exact e c),l f];have:(labelAt ts (kidOf ts b)==f)=false:=by rw[dF];exact fun c=>e c.zy
 rw[this];simp
def F6{w:World}{a e size n q:Nat}{v xs}(c:w.ownsRow a e size v n xs)(h:q<a):v.ownBlock=none∨v.ownBlock≠q:=by
 rcases c.2 with⟨rfl,_⟩|⟨g,cap,d,rfl,f,_⟩
 exact .inl rfl;refine .inr ?_;simp only[Value.ownBlock];intro b;injection b with b
 omega
def Bn(g:World)(b:Nat->Prop)(c d f a:Nat)(l:List ai)(o:Option Addr)(cap:Nat)(x:ai)(w:World)(e:Ending)(w':World):Prop:=
 ∃Mk,e=.returned (.map (some Mk))/\p7 w' Mk (l.map ai.t) x.t/\eQ g b w' c d f a o cap l/\w.grownBy w' a
def PY l o cap W0(av:cw W0 o cap l)(J:ep l)(bB:bY (l.map ai.t)=0) A K M1 M2 M3 k x(r:l[k]?=some x) w
 (bt:∀q,A q->q<w.heap.size) (d:eQ W0 A w K M1 M2 M3 o cap l):
 dB 78 #[K,.int .i64 (k:Nat)] w (Bn W0 A K M1 M2 M3 l o cap x w):=by
 have b3:=(aF.1 r).1;have c8:=J.len;have c5:(k:Int)<l:=ad;have⟨ds,f3,M,a6,W⟩:=d.inside;have i:=d.blk;have ao:=ak 0 i;have bd:=ak 3 i;have X:keyOf prog 3 (.int .i64 k)=some (.int .i64 k):=wT ei (oI ad);have bc:(zeroValue 72).run prog w=.ok (.map none) w:=az;have Z:=M.look_ok (iY ei) underlying74 bc eY X;have c9:= @pq prog;clear bc;unfold Bn;cases G:f3 (.int .i64 (k:Nat))with
 |some v=>
  obtain⟨Mk,y,rfl,t,dm,cS,bw⟩:=W k v G;rw[r]at t;cases t
  rw[G]at Z;clear W G X a6
  go_in
  go_wp2
  go_ret;exact⟨Mk,rfl,bw,d,bL (aA _ w) _⟩
 |none=>
  rw[G]at Z;have a2:=uR bB;have an:x.t∈l.map ai.t:=lY (aK r);have ag:=a2.labels x.t an;have af:=a2.placed x.t an;rw[xt]at ag;have V:∀{g},vf (l.map ai.t) (symsS x.t.E) g->∀R:Bytes,g _=(lw (l.map ai.t) x.t R).map _:=fun C R=>by unfold lw;rw[xt];exact C R
  have aa:(kidsS (l.map ai.t) x.t).length=(symsS x.t.E).length:=by rw[xt,bn]
  have a1:=av.O d.base;have a0:=(a1.2 x (aK r)).2;have b7:=sE x.t.E;have bb:∀b∈symsS x.t.E,b.length<=1048576:=fun b s=>by obtain⟨n,P,rfl⟩:=Ae s;exact J.sym x (aK r) n P
  obtain⟨bf,cd,rfl,bF,cp,cq,cs,cu,cv,be⟩:=a1.at r;have Q:=fun ci s=>xr _ _ _ ci (a0.O s) (fun n P=>J.sym x (aK r) n P);unfold uE at Q;have⟨u,ba⟩:=am (symsS x.t.E);rw[<-ba]at Q bb b7 V ag aa af;clear ba an a0;have p:aR w (w.alloc (.map #[] 0)):=aP;have cb:(w.alloc (.map #[] 0)).cell? K=some (.slice (some ⟨bf,cd,none⟩) l cap):=(p.cell (aI i)).Z ao;have cx:=(p.cell bF).Z be
  go_in
  go_wp2_with fail
  go_must (apply(Q _ aP).zz)
  rintro e cl ⟨⟨v,rfl,I⟩,T⟩;have I:bN cl (w.heap.size+1) v u:=by simpa using I
  have a3:=p.Z (T.zz p.size);obtain⟨ch,cg,rfl⟩:=nK I;have H:=(bV.made w prog 9).O T aj;clear Q Z ao bd cb cp cq cs cu cv be cx p T i
  go_wp2
  go_loopw [8,9,33] (fun i8 dq v wr=>∃E:Nat,v=.int .i64 E/\E<=u/\(∃n g,bV wr prog 9 w n g/\n<=E/\vf (l.map ai.t) (u.take E) g)/\bN wr (w+1) (.slice ch u cg) u/\aR w wr) (fun _ _ v _=>u-(intOf v).toNat)
  case atStart=>exact⟨0,rfl,aH _,⟨0,_,H,ay _,fun R=>rfl⟩,I,a3⟩
  case round=>
   clear H I a3;obtain⟨E,rfl,c6,⟨n,g,H,P,C⟩,al,j⟩:=hrel;have i:=(j.J K (aI d.blk)).Z d.blk;have⟨ao,dr⟩:=ku i;have bd:=ak 3 i;by_cases N:E<u
   ·have bZ:=bC N
    have c7:=bk N;have⟨b,s⟩:=aT N;have⟨_,b0⟩:=pC al;obtain⟨cO,cP,rfl,c4,ea⟩:=b0.at s;have p:=aK s;have b8:=bb b p;have b1:=qS b b8;have⟨D,du,bu,dl,b5⟩:=d.places.zw (bL j none) aj;have S:=bu.at0 b;have ae:=af b p;have⟨c,F⟩:=am (kidOf (l.map ai.t) b);have⟨y,t⟩:∃y,l[c]?=some y:=by
     cases ab:placeS (l.map ai.t) b with
     |none=>rw[ab]at ae;cases ae
     |some bg=>
      have:c=bg:=by rw[F];unfold kidOf;rw[ab];rfl
      subst this;have:=sF ab;rw[bn]at this;exact⟨_,cV this⟩
    have Y:labelAt (l.map ai.t) c=y.t.zv:=by unfold labelAt;rw[bR,t];rfl
    have a7:=C.put ag s;rw[<-F,Y]at a7;have c3:=(aF.1 t).1;have c2:(c:Int)<l:=ad;have⟨cN,dz,f,c1,eb,ec,ed,eg,ek,el⟩:=(av.O (d.base.Z (j.zz d.base.size))).at t;injection f with f
    injection f with f h bl
    subst f h;clear bl;have b9:=J.zv y (aK t);have b2:=qS _ b9;change D.atKey (.string b) _=.lit (.int .i64 (kidOf (l.map ai.t) b:Nat))at S;rw[<-F]at S;have⟨cG,cL⟩:=aC F Y;clear F Y ae af;go_wp2_with(first
     |(at_lookup;go_must (refine wpList_lookup_own_int _ rfl _ _ 72 rfl 9 3 _ (om iI) lT ei (sD _) M1 _ D rfl b5 _ _ rfl b1 ?_);intro bi B dn;obtain rfl:bi=c:=by{rw[S]at B;injection B with B;injection B with _ B;exact B.zy})
     |(at_mapUpdate;go_must (refine tf H rfl _ _ _ 72 rfl 3 (om iI) lT rfl bO _ _ _ rfl rfl eY b2 ?_);intro co O m)
     |go_in)
    go_roundw
    case rel=>exact⟨_,aD,ad,⟨_,_,O,ad,a7⟩,cm al m (F6 al (Nat.lt_succ_self _)),j.zu m j.size (fun q e=>by cases e;simp)⟩
    case measure=>exact aM
   have bZ:=bG N;rw[bI ad]at C;have bA:=M.O j M.lt;have dc:=Bm (fun a=>(f3 (.int .i64 a)).isSome) l;go_wp2_with(first
    |(at_mapUpdate;go_must (refine tf bA rfl _ _ _ 74 rfl 72 (iY ei) underlying74 rfl bO _ _ _ rfl rfl eY X ?_);intro co b4 m)
    |go_in)
   go_ret;have a9:=d.zw (bL j none) (fun q e=>by cases e);have a5:=(bL j _).Z m;have c0:=M.lt;have O:=H.zw m (by intro e;injection e with e;omega);have a4:=Bl (fun a=>(f3 (.int .i64 (a:Nat))).isSome) (fun a=>(il f3 (.int .i64 (k:Nat)) (.map (some w.heap.size)) (.int .i64 (a:Nat))).isSome) k (by simp only[G];rfl) (fun a=>by
    by_cases e:a=k;subst e;simp[kt];have f:(Lit.int .i64 (a:Nat))≠ .int .i64 (k:Nat):=fun h=>by injection h with _ h;omega
    simp[mj f3 _ f,e]) l.length
   rw[au b3]at a4;refine⟨_,rfl,⟨n,g,O,by rw[aa];omega,V C⟩,⟨d.base.zu a5 d.base.size (fun q e=>by cases e;exact d.fresh.2.2.2),d.fresh,(m.J K (aI i) (fun e=>by cases e;exact d.apart.2.1 rfl)).Z i,a9.places.zw m (fun e=>by cases e;exact d.apart.1 rfl),?_,⟨_,_,b4,aW (Nat.succ_le_succ a6) (Dw a4),fun a v hv=> ?_⟩,d.apart⟩,a5⟩;obtain⟨cc,f2,bz,b6⟩:=a9.made;exact⟨cc,f2,bz.zw m (fun e=>by cases e;exact d.apart.2.2.1 rfl),b6⟩;by_cases e:a=k;subst e;rw[kt]at hv;cases hv
   exact⟨_,x,rfl,r,ad,fun bE=>by have:=bt _ bE;omega,n,g,O,by rw[aa];omega,V C⟩;have f:(Lit.int .i64 (a:Nat))≠ .int .i64 (k:Nat):=fun h=>by injection h with _ h;omega
   rw[mj _ _ f]at hv;have⟨Mk,z,h,ca,aw,bo,bq⟩:=W a v hv;exact⟨Mk,z,h,ca,aw,bo,(bq.zw (bL j none) aj).zw m (fun e=>by cases e;exact aw rfl)⟩
def Bq:Prop:=∀nodes no a ws c b w,Gl w->bK nodes=0->nodes.length<=60->ws.length<=1->dv w no a nodes->cI w c b ws->MatchS nodes ws->
 cX 80 #[.agg #[.slice no nodes a],.slice c ws b] w true
def P7{w Mk ts x lb co}(a:p7 w Mk ts x)(b:co=lw ts x lb)(c:lb.length<=1048576):
 (Instr.lookup 72 (.map Mk) lb true).run prog w=.ok (.tuple #[(co.map (fun j=>Value.int .i64 (j:Nat))).getD (0:Int),co.isSome]) w:=by
 obtain⟨n,g,d,f,e⟩:=a;have:=d.look_ok (om iI) lT (sD w) eY (qS lb c);rwa[e lb,<-b,Option.isSome_map]at this
def P8{c wr w':World}{M row}(a:c.grownBy wr (some M))(b:wr.grownBy w' row)(h:∀q,row=some q->q=M∨c<=q):c.grownBy w' M:=
 ⟨b.os.Z a.os,b.tape.Z a.tape,b.output.Z a.output,aW a.size b.size,fun k g f=>(b.J k (aQ a.size) (fun e=>by
   rcases h k e.zy with d|d
   exact f (by rw[d]);omega)).Z (a.J k g f)⟩
def Br{w:World}{b e size n:Nat}{v xs}(d:w.ownsRow b e size v n xs):∀q,v.ownBlock=some q->b<=q/\q<w/\∃xs t,kq w q xs t:=by
 intro q a;rcases d.2 with⟨rfl,_⟩|⟨g,cap,h,rfl,f,c,_⟩
 cases a
 simp only[Value.ownBlock]at a;injection a with a
 subst a;exact⟨f,aI c,_,_,c⟩
def yu(g:World)(b:Nat->Prop)(c d f a:Nat)(o:Option Addr)(cap:Nat)(l:List ai)(w:World)(e:Ending)(w':World):Prop:=
 e=.returned true/\eQ g b w' c d f a o cap l/\w.grownBy w' a
def P9(c7:Bq) l o cap(a:bY (l.map ai.t)=0)(B:ep l)(u:∀x∈l,x.t.E.length<=60)(s:∀x∈l,x.t.key=[]) W0(c:Gl W0)(R:cw W0 o cap l) K M1 M2 M3:
 ∀n at_ t r f w,SizeOf.sizeOf t<=n->at_<l.length->fM W0 t r->(∀m∈nodesT t,uG m)->(∀m∈nodesT t,m.zv≠[]/\m.zs.length<=1)->pH (l.map ai.t) at_ t->(∀q,f q->q<w.heap.size)->eQ W0 f w K M1 M2 M3 o cap l->
 dB 45 #[K,.int .i64 at_,cA t r] w (yu W0 f K M1 M2 M3 o cap l w):=by
 have cg:=ah c;clear c;intro n;induction n with
 |zero=>intro at_ t r f w G;cases t;simp at G
 |succ n ih=>
 intro at_ t r f w G c a1 bw an bZ bg A;have d:=R.O A.base;have g:=d.1.2.1;have g:=d.1.2.2.1;unfold maxLen at g;have g:(at_:Int)<l:=ad;have⟨x,g⟩:=aT c;have h:=aK g;have b4:(l.map ai.t)[at_]?=x.t:=by rw[bR,g];rfl
 have T:=(Ap b4 t).1 bZ;have p:=s x h;have O:=(d.2 x h).1;have Y:=(d.2 x h).2;have bB:=u x h;have Z:=fun c (S:aR W0 c)=>((R.O S).2 x h).2;have bz:=fun c A' s u=>PY l o cap W0 R B a A' K M1 M2 M3 at_ x g c s u;have bi:=F3 a;have bl:=bi.E x.t (lY h);have V:∀s j,lw (l.map ai.t) x.t s=some j->∃y,l[j]?=some y/\j<l.length:=fun s j ae=>by obtain⟨y,a4,_,J⟩:=PS a (lY h) ae;rw[bn]at J;exact⟨_,cV J,J⟩
 obtain⟨b,N,rfl,a,b6,b7,b8,b9,ca,cb⟩:=d.at g;have b3:=a1.O A.base;have P:lq w r.ao r.ac t.zx:=b3.attr;have⟨rs,b2,W,aw⟩:=a1.zs;have bA:=(an t (Bg t)).2;have a0:=fun k (s:k∈t.zs)=>Bi s;have af:=fun k s m (a:m∈nodesT k)=>bw m (Bh s a);have ao:=fun k s m (a:m∈nodesT k)=>an m (Bh s a);have M:=A.blk;have a:=aI M;have b5:=ak 0 M;obtain⟨a,H,av,ks⟩:=t;obtain⟨u,ac,F,B⟩:=r;unfold cA;simp only[Tr.zv,Tr.text,Tr.zx,Tr.zs]at T P b2 W aw bA a0 af ao⊢;have⟨I,co,a6,cp,cl,cN,bb,be,cv,cL⟩:=jB T bz bl V ih a0 af ao aw G;have⟨X,cd⟩:=aC A bg;obtain⟨⟨name,label,attrs,key,text,nodes⟩,E,D,no,C⟩:=x;simp only at b6 b7 b8 b9 ca cb O Y bB Z I a6 p;subst p;have⟨p,bq,b1⟩:=I.o;have ci:=ah Z;clear Z;have Z:=O.2.1;have dc:=O.2.2.1;have Z:=P.2.1;have Z:=P.2.2.1;have eb:=W.2.1;have c5:=W.2.2.1;have ec:=Y.2.1;have c9:=Y.2.2.1;unfold maxLen at dc Z c5 c9;subst p;have Y:=ah b1;clear T I b1 bZ g h b4 bz bi bl V ih a0 af bw ao an aw G a1 A bg M b3;have A:aR w (cT (w.alloc (.cells (fZ a H u av ac F ks B) 36)) #[name,a,.slice E attrs D,.string ⟨#[]⟩,text,.slice no nodes C] 55):=aP.alloc aj _;have⟨h,M⟩:=am ((w.alloc (.cells (fZ a H u av ac F ks B) 36)).alloc (.cells #[name,a,.slice E attrs D,.string ⟨#[]⟩,text,.slice no nodes C] 55));have Z:h.heap[w.heap.size]?=some (.cells (fZ a H u av ac F ks B) 36):=by rw[M];exact(br _ _ _ aj).Z (aN w _)
 have aa:h.heap[w.heap.size+1]?=some (.cells #[.string ⟨name.toArray⟩,.string ⟨a.toArray⟩,.slice E attrs.length D,.string ⟨#[]⟩,.bool text,.slice no nodes.length C] 55):=by rw[M];have:=aN (cT w (fZ a H u av ac F ks B) 36) (.cells #[name,a,.slice E attrs D,.string ⟨#[]⟩,text,.slice no nodes C] 55);rwa[bP]at this
 rw[<-M]at A;have H:=aS Z;have I:=aS aa;have T:M3<w.heap.size:=by obtain⟨ed,f3,G,_⟩:=X.o.inside;exact G.lt
 have G:w≠M3:=ad;have G:w+1≠M3:=ad;have ab:∀c,h.grownBy c (some M3)->c.cell? ⟨w.heap.size,0,none⟩=some (.string ⟨a.toArray⟩)/\c.cell? ⟨w.heap.size,2,none⟩=some (.slice u av.length ac)/\c.cell? ⟨w.heap.size,3,none⟩=some (.slice F ks.length B)/\
  c.cell? ⟨w.heap.size+1,1,none⟩=some (.string ⟨a.toArray⟩)/\c.cell? ⟨w.heap.size+1,2,none⟩=some (.slice E attrs.length D)/\c.cell? ⟨w.heap.size+1,3,none⟩=some (.string ⟨#[]⟩)/\c.cell? ⟨w.heap.size+1,4,none⟩=some (.bool text)/\c.cell? ⟨w.heap.size+1,5,none⟩=some (.slice no nodes.length C):=fun c T=>by
  have F:=(T.J _ H aO).Z Z;have B:=(T.J _ I aO).Z aa;exact⟨ak 0 F,ak 2 F,ak 3 F,ak 1 B,ak 2 B,ak 3 B,ak 4 B,ak 5 B⟩
 have F:=ah ab;have bt:h.grownBy h M3:=bL (aA _ h) _;have⟨G,H,I,d1,d2,d3,d4,d5⟩:=ab h bt;have B:∀c,h.grownBy c M3->eQ W0 f c K M1 M2 M3 (some ⟨b,N,none⟩) cap l->yu W0 f K M1 M2 M3 (some ⟨b,N,none⟩) cap l w (.returned true) c:=fun c T s=>⟨rfl,s,(bL A _).Z T⟩;have⟨a5,T⟩:=aC B (X.o.zw (bL A none) (fun q e=>by cases e));clear B ab Z aa;have Z:=P.O A;have P:=O.O A;have B:=Ph av u ac attrs E D h Z P;rw[iS bq]at B;have c:=ah B;clear bq Z P B
 go_in
 have D:(a==a)=true:=aj;have B:=c.o;clear c;go_wp2_with fail
 rw[<-M];clear M b6 b7 b8 b9 ca cb;refine Fn B ?_;intro c u;clear B G H I d1 d2 d3 d4 d5 D;have B:=bL u M3;have⟨G,H,I,d1,d2,d3,d4,d5⟩:=F.o c B;have E:=ah (T.o.zw (bL u none) (fun q e=>by cases e));cases text with
 |true=>
  have V:ks=[]:=by
   have d:=Y.o;rw[au rfl]at d;rcases d with d|⟨k,rfl,d⟩
   exact d;exact absurd d (be.o k aj k (Bg k)).1
  subst V;have Z:=ah (a5.o c B E.o)
  go_wp2
  go_ret;exact Z.o
 |false=>
  have a9:Hid (qW (l.map ai.t) ⟨name,a,attrs,[],false,nodes⟩ ks/\MatchS nodes (kO (l.map ai.t) ⟨name,a,attrs,[],false,nodes⟩ ks)):=ah (by have d:=Y.o;rw[ap aj]at d;exact⟨d.1,d.2.2⟩)
  clear Y;have d:=a6.o rfl;have⟨dq,c3,dl,dm,dn⟩:=cZ pB;have M:= @pq prog;have cG:=ah d;clear d;have D:h.grownBy (c.alloc (.map #[] 0)) M3:=B.Z (kf c _ _);have P:=(F.o _ D).2.2.1;have O:eQ W0 f (c.alloc (.map #[] 0)) K M1 M2 M3 (some ⟨b,N,none⟩) cap l:=E.o.zw (kf c _ none) (fun q e=>by cases e);have d:c<(c.alloc (.map #[] 0)).heap.size:=aj;have V:=u.size;have Y:=A.size;go_wp2_with fail
  obtain⟨Y,A⟩:=am (c.alloc (.map #[] 0));rw[<-A]at D O d⊢;clear A P G H I d1 d2 d3 d4 d5 B E T bt M b5;obtain⟨Q,A⟩:=am c.heap.size;rw[<-A]at d V⊢;clear A u;go_loopw [9,65] (fun v i wr=>∃k:Nat,i=.int .i64 k/\k<=ks/\h.grownBy wr M3/\Hid (eQ W0 f wr K M1 M2 M3 (some ⟨b,N,none⟩) cap l)/\bN wr (Q+1) v (kO (l.map ai.t) ⟨name,a,attrs,[],false,nodes⟩ (ks.take k))/\Q<wr) (fun _ i _=>ks-(intOf i).toNat)
  case atStart=>exact⟨0,rfl,aH _,D,ah O,cW _ _ _ _,d⟩
  case round=>
  clear D O d;obtain⟨k,rfl,s,E,B,u,c⟩:=hrel;obtain⟨G,H,I,d1,d2,d3,d4,d5⟩:=F.o wr E;obtain⟨P,O,rfl⟩:=dR u;have s:(kO (l.map ai.t) ⟨name,a,attrs,[],false,nodes⟩ (ks.take k)).length=k:=by unfold kO;rw[bn,eh];omega
  by_cases V:k<ks
  ·have c0:=bC V
   have c:=bk V;have⟨d,g⟩:=aT V;obtain⟨c,A,q,p,rfl,D,T,Y,el,em⟩:=qP b2 (W.O B.o.base) g;have A:=cv.o k d q g p;have c:=aK g;have⟨j,T,W⟩:=Classical.not_not.1 fun e=>Mm g e a9.o.1;have Y:=Mn (ts:=l.map ai.t) (x:=⟨name,a,attrs,[],false,nodes⟩) g;have⟨cx,du,bd,D,cq,ch⟩:=iL Y g A c W (bb.o d c d (Bg d));have c4:=ch.o.zv;clear Y g p A c W;have⟨c,A⟩:=am (wr.alloc (.cells (zz_mt d q) 36));have g:=iC A;have W:=kj A;go_wp2_with fail
   rw[<-A];clear A;have Y:=B.o.zw (bL W none) (fun q e=>by cases e);have b0:∀q,f q->q<c.heap.size:=fun q p=>by have cS:=E.size;have bf:=W.size;have:=cd.o q p;omega
   have A:=fun w' (S:Below c.heap.size c w')=>co.o w' f (fun q p=>by have:=b0 q p;have:=S.size;omega) (Y.zw (bL S none) (fun q e=>by cases e));unfold Bn at A;have a2:=ak 0 g;have a3:=aI g;have S:wr≠M3:=aQ E.size;have S:=(aA c.heap.size c).drew;have⟨bc,Y⟩:=aC A T;clear T A;have⟨y,a4,ae⟩:=cp.o _ j Y.o;have c:(j:Int)<l:=ad;go_region_held3(fun w'=>w'.cell? ⟨wr.heap.size,0,none⟩=some (.string ⟨d.zv.toArray⟩))
    (first
      |exact a2
      |exact(A.cell_far ⟨wr.heap.size,0,none⟩ a3 aO).Z a2)
    (first
      |((go_at_call 78;apply zU (bc.o _ fX);rintro e ds ⟨Mk,rfl,bo,a7,A⟩;have c6:=P7 bo Y.o.zy c4)))
   have T:=((bL W _).Z (bL S _)).Z A;have c1:=E.Z T;have c:=(bL S _).Z A;have f12:=(c.J _ a3 aO).Z g;have⟨t0,t1,t2,t3⟩:=dC f12;have S:=cl.o j d q f ds (jO (cN.o d D.o) cL.o) ae bd.o (bb.o d D.o) (be.o d D.o) cq.o (fun q p=>by have:=b0 q p;have:=c.size;omega) a7;unfold yu cA at S;have W:=ah a4;clear c6 a7 bo a4 a2 bc;go_wp2_with fail
   refine ar S ?_;rintro p ⟨A,D⟩;clear S t0 t1 t2 t3;have c2:=c.Z D;have bu:=T.Z D;have S:=c1.Z D;have⟨dz,eg,c,ea,ek,_⟩:=(R.O A.base).at W.o;injection c with c
   injection c with R cO cP;clear cP
   subst R;subst cO;have c:uJ (l.map ai.t) j=y.t.name:=by unfold uJ;rw[bR,W.o];rfl
   have cs:=ah c;have W:=cm u bu (F6 u ad);have R:=A.blk;have b5:=ak 0 R;have A:=ah A;clear c;rw[s]at W;have bF:=dp W (.cells #[.string ⟨y.t.name.toArray⟩] 9);have c:=bu.size;have c:=S.size;have ag:=Br W;have al:=Br u;rw[s]at al;have f12:=(c2.J _ a3 aO).Z g;have R:=kf p (.cells #[.string ⟨y.t.name.toArray⟩] 9) (Value.slice P k O).ownBlock;have ba:Hid (∀c,(p.alloc (.cells #[.string ⟨y.t.name.toArray⟩] 9)).grownBy c (Value.slice P k O).ownBlock->h.grownBy c (some M3)):=fun c g=>P8 S (R.Z g) (fun q e=>.inr (aQ ((ag q e).1)));have cc:Hid (∀c,(p.alloc (.cells #[.string ⟨y.t.name.toArray⟩] 9)).grownBy c (Value.slice P k O).ownBlock->c.cell? ⟨wr.heap.size,0,none⟩=some (.string ⟨d.zv.toArray⟩)/\c.cell? ⟨wr.heap.size,1,none⟩=some (.string ⟨d.text.toArray⟩)/\c.cell? ⟨wr.heap.size,2,none⟩=some (.slice q.ao d.zx.length q.ac)/\c.cell? ⟨wr.heap.size,3,none⟩=some (.slice q.ko d.zs.length q.kc)/\c.cell? ⟨w.heap.size+1,3,none⟩=some (.string ⟨#[]⟩)):=fun c g=>by have h:=((R.Z g).J _ (aI f12) (fun e=>by have:=(al _ e.zy).2.1;omega)).Z f12;exact⟨ak 0 h,ak 1 h,ak 2 h,ak 3 h,(F.o c (ba.o c g)).2.2.2.2.2.1⟩
   have⟨cu,h⟩:=aC ag R;clear ag al f12 R;go_wp2_with(first
    |(at_builtin;go_must (apply iV _ rfl _ _ 53 rfl _ 9 dq _ 1 16 jM c3 dl dm dn rfl aq _ _ _ rfl bF _ 1 1 _ rfl rfl (eq _ _ _ _ (by first|rfl|simp)) (fun z h=>by simp at h;subst h;rfl) bO ad aO);intro dr c bE g c8;obtain⟨t0,t1,t2,t3,d3⟩:=cc.o c g))
   have g:(p.alloc (.cells #[.string ⟨_⟩] 9)).grownBy c (Value.slice P k O).ownBlock:=g;have h:=ba.o c g;have R:eQ W0 f c K M1 M2 M3 (some ⟨b,N,none⟩) cap l:=(A.o.zw (row:=none) (kf p _ none) (fun q e=>by cases e)).zw g (fun q e=>by obtain⟨cS,bf,xs,t,J⟩:=cu.o q e;have:=X.o.base.size;exact⟨ad,ad,.inl ⟨xs,t,(br _ _ _ bf).Z J⟩⟩)
   have hv:=Pc d q [] c (bd.o.O R.base);unfold cA at hv;refine ar hv ?_;intro N c;have f:=h.Z (bL c _);have h:=ah (R.zw (bL c none) (fun q e=>by cases e));have J:=O7 bE c;have A:bN N (Q+1) dr (kO (l.map ai.t) ⟨name,a,attrs,[],false,nodes⟩ (ks.take (k+1))):=by
    rw[cx.o];unfold bN;rw[ck,s,gL,Y.o];show World.ownsRow _ _ _ _ _ _ ((kO (l.map ai.t) ⟨name,a,attrs,[],false,nodes⟩ (ks.take k)).map encStr++[encStr (uJ (l.map ai.t) j)])
    rw[cs.o];exact J
   clear d3 t0 t1 t2 t3 hv bE g c8 J W bF;have⟨G,H,I,d1,d2,d3,d4,d5⟩:=F.o N f;have⟨G,F⟩:=am (sJ d.zx []);rw[<-F];clear F;unfold FP;cases G with
   |none=>
    go_wp2
    go_roundw
    case rel=>exact⟨_,aD,ad,f,h,A,by have:=f.size;have:=S.size;have:=g.size;have:=c.size;have:=D.size;have:=T.size;simp at*;omega⟩
    case measure=>exact aM
   |some d=>
    go_wp2
    go_roundw
    case rel=>exact⟨_,aD,ad,f,h,A,by have:=f.size;have:=S.size;have:=g.size;have:=c.size;have:=D.size;have:=T.size;simp at*;omega⟩
    case measure=>exact aM
  have c0:=bG V;obtain rfl:k=ks:=ad;rw[bI (ay _)]at u s;have⟨d,c⟩:=pC u;have M:=c7 nodes no C (kO (l.map ai.t) ⟨name,a,attrs,[],false,nodes⟩ ks) P O wr (cg.o.O B.o.base) cG.o bB (by rw[s];exact bA) (ci.o wr B.o.base) c a9.o.2;rw[s]at M;have a:=ah M;clear d c M;go_wp2_with fail
  refine ar a.o ?_;intro p a;have Z:=ah (a5.o p (E.Z (bL a _)) (B.o.zw (bL a none) (fun q e=>by cases e)))
  go_wp2
  go_ret;exact Z.o
def GB:Prop:=∀t r w,Gl w->fM w t r->(∀m∈nodesT t,uG m)->(∀m∈nodesT t,xz m)->oF t=0->cX 44 #[cA t r] w (0:Int)
def QB(P:Bq)(R:GB) l o cap(u:ep l)(g:bY (l.map ai.t)=0)(Q:∀x∈l,x.t.E.length<=60)(O:∀x∈l,x.t.key=[]) n(b:n.length<=1048576) a(y:placeS (l.map ai.t) n=some a) t r w(C:Gl w)(f:cw w o cap l)(G:fM w t r)(i:∀m∈nodesT t,uG m)(H:∀m∈nodesT t,xz m)(E:oF t=0)(F:pH (l.map ai.t) a t):
 cX 19 #[.agg #[.slice o l cap],n,cA t r] w (0:Int):=by
 have b:=f.1.2.1;have b:=f.1.2.2.1;unfold maxLen at b;have⟨w1,j⟩:=am ((w.alloc (.cells #[.slice o l cap] 24)).alloc (.cells (zz_mt t r) 36));have d:Below w.heap.size w w1:=by rw[j];exact aP.alloc aj _
 have p:w1.heap[w.heap.size]?=some (.cells #[.slice o l.length cap] 24):=by rw[j];exact(br _ _ _ aj).Z (aN w _)
 have s:w1.heap[w.heap.size+1]?=some (.cells (zz_mt t r) 36):=by rw[j];have:=aN (cT w #[.slice o l cap] 24) (.cells (zz_mt t r) 36);rwa[bP]at this
 have v:=Bk l o cap w1 (f.O d) u;unfold Bj at v;have N:=ak 0 p;have b:=aI p;have A:=aI s;have⟨I,K⟩:=aC d v;have c:Hid (∀b,aR w1 b->cw b o cap l/\fM b t r/\Gl b):=fun b h=>⟨(f.O d).O h,(G.O d).O h,(C.O d).O h⟩;have z:Hid (∀b,Below w1.heap.size w1 b->b.cell? ⟨w.heap.size+1,0,none⟩=some (.string ⟨t.zv.toArray⟩)/\b.cell? ⟨w.heap.size+1,1,none⟩=some (.string ⟨t.text.toArray⟩)/\b.cell? ⟨w.heap.size+1,2,none⟩=some (.slice r.ao t.zx.length r.ac)/\b.cell? ⟨w.heap.size+1,3,none⟩=some (.slice r.ko t.zs.length r.kc)):=fun b h=>by have b:=(h.J _ A).Z s;exact⟨ak 0 b,ak 1 b,ak 2 b,ak 3 b⟩
 have⟨B,A,M,h,J⟩:=iz i g F H E;have D:=sF y;rw[bn]at D;clear v d p s f G C i g F H E;unfold cA
 go_in
 go_wp2_with fail
 rw[<-j];clear j;apply WJ K.o;rintro e f ⟨p,⟨b,rfl⟩|⟨g,s,rfl,v,C,E,d,_⟩⟩;exact absurd A.o b;have j:=ah (d (fun _=>False));have b:=j.o.blk;have F:=ak 0 b;have b:=EA l o cap f (c.o f p).1 u n bO;unfold sx at b;rw[au g,y]at b;have f:=ah b;clear g d b N y;go_wp2_with fail
 refine ar f.o ?_;intro d g;clear f;have b:=aE p g;have⟨t0,t1,t2,t3⟩:=z.o d b;have f:=R t r d (c.o d b).2.2 (c.o d b).2.1 B.o h.o J.o;unfold cA at f;have d:=ah f;clear F f;go_wp2_with fail
 refine ar d.o ?_;intro p f;clear d t0 t1 t2 t3;have d:=aE b f;have⟨t0,t1,t2,t3⟩:=z.o p d;have b:=P9 P l o cap A.o u Q O w1 (c.o w1 (aA _ _)).2.2 (c.o w1 (aA _ _)).1 s v C E (SizeOf.sizeOf t) a t r (fun _=>False) p (ay _) D (c.o w1 (aA _ _)).2.1 B.o (fun m i=>⟨(h.o m i).zv,(h.o m i).zs⟩) M.o (fun q e=>e.elim) ((j.o.zw (bL g none) (fun q e=>by cases e)).zw (bL f none) (fun q e=>by cases e));unfold yu cA at b;have c:=ah b;clear b;go_wp2_with fail
 refine ar c.o ?_;rintro d ⟨b,c⟩;have c:=ah (aE I.o b.base);clear b
 go_wp2
 go_ret;exact⟨rfl,c.o⟩
end Go.Proofs.YtfeidcmojcijpaaGreatDoor
