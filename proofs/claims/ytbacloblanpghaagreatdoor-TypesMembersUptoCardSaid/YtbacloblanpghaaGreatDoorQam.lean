import Derived.Test.YtbacloblanpghaaGreatDoorQah
import Derived.Test.YtbacloblanpghaaGreatDoorQal
set_option linter.unusedVariables false
set_option linter.unusedSimpArgs false
set_option maxRecDepth 100000
set_option maxHeartbeats 0
namespace Go.Proofs.YtbacloblanpghaaGreatDoor
open Go.RowKit Tryz
def iN(w:World)(os:List Obj):World:=os.foldl World.alloc w
theorem A8(os:List Obj):∀w:World,(iN w os).heap=w.heap++os.toArray:=by
 induction os with
 |nil=>intro w;simp[iN]
 |cons o t ih=>
  intro w;show(iN (w.alloc o) t).heap=_
  rw[ih];show w.heap.push o++t.toArray=_
  simp
theorem wv(w:World)(os:List Obj)(i:Nat)(a:i<os.length):(iN w os).heap[w.heap.size+i]?=os[i]?:=by rw[A8,Array.getElem?_append_right ad];simp
theorem ww(w:World)(os:List Obj):Below w.heap.size w (iN w os):=by
 induction os generalizing w with
 |nil=>exact aA _ _
 |cons o t ih=>
  show Below w.heap.size w (iN (w.alloc o) t)
  exact((aA _ w).alloc (aB _) o).trans ((ih (w.alloc o)).mono ak)
theorem wJ(w:World)(os:List Obj):(iN w os).heap.size=w.heap.size+os.length:=by rw[A8];simp
def askE(l:List ax):Nat->Int
 |0=>if 64<l.length then 17 else 0
 |1=>if l.length=0 then 18 else 0
 |2=>if l.any fS=true then 11 else 0
 |3=>if bV (l.map ax.name)=true then 15 else 0
 |4=>if l.any (fun t=>dh t.attrs)=true then 14 else 0
 |5=>if l.any eK=true then 12 else 0
 |6=>eh l
 |7=>if l.any (fun t=>(symsS t.nodes).any fun n=>(placeS l n).isNone)=true then 16 else 0
 |8=>if l.any (fun t=>bV ((kidsS l t).map (labelAt l)))=true then 24 else 0
 |_=>if l.any (fun t=> !t.key.isEmpty&& !(kidsS l t).any fun k=>(fU l k).contains t.key)=true then 23 else 0
def askF:Nat->Nat
 |0=>147
 |1=>148
 |3=>150
 |6=>153
 |_=>145
def cP(b:Nat):Value:=.pointer (some ⟨b,0,none⟩)
def askC(S Q:Nat):Nat->Array Value
 |0=>#[cP (Q+1),cP S]
 |1=>#[cP (Q+1),cP S]
 |2=>#[cP (Q+1),cP (Q+2),cP S,cP (Q+3)]
 |3=>#[cP (Q+1),cP Q,cP S]
 |4=>#[cP (Q+1),cP (Q+4),cP S,cP (Q+5)]
 |5=>#[cP (Q+1),cP (Q+6),cP S,cP (Q+7)]
 |6=>#[cP S]
 |7=>#[cP (Q+1),cP (Q+8),cP S,cP (Q+9)]
 |8=>#[cP (Q+1),cP (Q+10),cP S,cP (Q+11)]
 |_=>#[cP (Q+1),cP (Q+12),cP S,cP (Q+13)]
structure A9(l:List ax)(w:World)(e:Ending)(w':World):Prop where
 fns:∃G S Q,e=.returned (.slice (some ⟨G,0,none⟩) 10 10)/\G<w'.heap.size/\∀k,k<10->w'.cell? ⟨G,k,none⟩=some (.func (.func (askF k)) #[] (askC S Q k))/\
  ∀w1,Below w'.heap.size w' w1->Calls prog (askF k) (askC S Q k) w1 fun e w2=>e=.returned (.int .i64 (askE l k))/\Below w1.heap.size w1 w2
 below:Below w.heap.size w w'
def tO(S M Q:Nat):List Obj:=
 [.cells #[.map (some M)] 77,.cells #[.func (.func 143) #[] #[]] 240,
  .cells #[.int .i64 11] 36,.cells #[.func (.func 149) #[] #[]] 241,
  .cells #[.int .i64 14] 36,.cells #[.func (.func 151) #[] #[]] 241,
  .cells #[.int .i64 12] 36,.cells #[.func (.func 152) #[] #[]] 241,
  .cells #[.int .i64 16] 36,.cells #[.func (.func 155) #[] #[cP Q]] 241,
  .cells #[.int .i64 24] 36,.cells #[.func (.func 158) #[] #[cP S,cP Q]] 241,
  .cells #[.int .i64 23] 36,.cells #[.func (.func 160) #[] #[cP S,cP Q]] 241,
  .cells ((List.range 10).map fun k=>Value.func (.func (askF k)) #[] (askC S Q k)).toArray 95]
theorem pW(k:Nat)(b:k=149∨k=151∨k=152∨k=155∨k=158∨k=160):∀args a,(callFunc k args).run prog a=.ok (.enter k args) a:=by rcases b with rfl|rfl|rfl|rfl|rfl|rfl<;>exact fun _ _=>rfl
theorem any_map{l:List am}(p:ax->Bool):(l.map am.t).any p=l.any fun x=>p x.t:=by rw[List.any_map];rfl
theorem Im{l:List am}{o:Option Addr}{cap:Nat}{w a:World}(G:cn w o cap l)(e:ej l)(z:ei a (w.heap.size+2) (l.map am.t))(J:w.heap.size+2<a.heap.size)
 (d:Below (w.alloc (.cells #[.slice o l.length cap] 24)).heap.size (w.alloc (.cells #[.slice o l.length cap] 24)) a):
 A9 (l.map am.t) w (.returned (.slice (some ⟨a.heap.size+14,0,none⟩) 10 10)) (iN a (tO w.heap.size (w.heap.size+2) a.heap.size)):=by
 have K:Below w.heap.size w (w.alloc (.cells #[.slice o l.length cap] 24)):=az;have A:=aD K d;obtain⟨Q,m⟩:=aj (a.heap.size);obtain⟨S,u⟩:=aj (w.heap.size);rw[<-m];have B:a.heap[S]?=some (.cells #[.slice o l.length cap] 24 (0,0)):=by rw[u];exact(d.block w.heap.size ak).trans (aC w _)
 have R:S<Q:=by rw[m];exact aN B
 rw[<-u];rw[<-u]at z J;obtain⟨W,p⟩:=aj (iN a (tO S (S+2) Q));have s:Below a.heap.size a W:=by rw[p];exact ww _ _
 have y:W.heap.size=Q+15:=by rw[p,wJ,<-m];rfl
 have r:∀i,i<15->W.heap[Q+i]?=(tO S (S+2) Q)[i]?:=fun i v=>by rw[p,m];exact wv _ _ _ (by rw[<-m];exact v)
 rw[<-p];have I:kS W S Q (Q+1) (S+2) o cap l:=
  ⟨(s.block S ad).trans B,r 0 ad,r 1 ad,(G.below A).below s,z.below s,by rw[y];omega⟩
 have H:=fun w1 (b:Below W.heap.size W w1)=>I.below b;have L:=fun w1 (b:Below W.heap.size W w1) i (v:i<15) o (O:(tO S (S+2) Q)[i]?=some o)=>(b.block (Q+i) (by rw[y];omega)).trans ((r i v).trans O);refine⟨⟨Q+14,S,Q,rfl,by rw[y];omega,fun k N=>⟨?_,fun w1 b=> ?_⟩⟩,aD A s⟩
 ·rw[aZ W (Q+14) k _ _ _ (r 14 ad)]
  simp[N]
 ·have f:=L w1 b
  have g:=H w1 b;have j:=fun(q:am->Bool) E C F caps D=>He (w:=w1) (S:=S) (P:=Q) (T:=Q+1) (M:=S+2) (E:=E) (W:=C) (F:=F) (caps:=caps) (o:=o) (cap:=cap) (l:=l) (q:=q) D g e;obtain rfl|rfl|rfl|rfl|rfl|rfl|rfl|rfl|rfl|rfl:k=0∨k=1∨k=2∨k=3∨k=4∨k=5∨k=6∨k=7∨k=8∨k=9:=ad
  ·refine(GM g e.len).mono ?_
   rintro h w' ⟨rfl,rfl⟩;exact⟨by show _=Ending.returned (.int .i64 (if 64<(l.map am.t).length then 17 else 0));rw[cd],aA _ _⟩
  ·refine(GN g e.len).mono ?_
   rintro h w' ⟨rfl,rfl⟩;exact⟨by show _=Ending.returned (.int .i64 (if(l.map am.t).length=0 then 18 else 0));rw[cd],aA _ _⟩
  ·refine(j (fun x=>fS x.t) (Q+2) (Q+3) 149 #[] 11 (f 2 ad _ rfl) (f 3 ad _ rfl) (pW _ ak) (fun x c a d=>GR x a (((g.types).below d).2 x c).1 (e.name x c) (e.label x c) (e.key x c) (e.attrs x c) (e.attr x c))).mono ?_
   rintro h w' ⟨rfl,b⟩;exact⟨by rw[<-any_map];rfl,b⟩
  ·refine(GZ g e.len).mono ?_
   rintro h w' ⟨rfl,rfl⟩;exact⟨rfl,aA _ _⟩
  ·refine(j (fun x=>dh x.t.attrs) (Q+4) (Q+5) 151 #[] 14 (f 4 ad _ rfl) (f 5 ad _ rfl) (pW _ ak) (fun x c a d=>GS x a (((g.types).below d).2 x c).1 (e.attrs x c))).mono ?_
   rintro h w' ⟨rfl,b⟩;exact⟨by rw[<-any_map (fun t=>dh t.attrs)];rfl,b⟩
  ·refine(j (fun x=>eK x.t) (Q+6) (Q+7) 152 #[] 12 (f 6 ad _ rfl) (f 7 ad _ rfl) (pW _ ak) (fun x c a d=>GP x a)).mono ?_
   rintro h w' ⟨rfl,b⟩;exact⟨by rw[<-any_map];rfl,b⟩
  ·exact GU g e
  ·refine(j (fun x=>(symsS x.t.nodes).any fun n=>(placeS (l.map am.t) n).isNone) (Q+8) (Q+9) 155 #[cP Q] 16 (f 8 ad _ rfl) (f 9 ad _ rfl) (pW _ ak) (fun x c a d=>GY (g.below d).p (g.below d).places x (((g.types).below d).2 x c).2 (e.sym x c))).mono ?_
   rintro h w' ⟨rfl,b⟩;exact⟨by rw[<-any_map (fun t=>(symsS t.nodes).any fun n=>(placeS (l.map am.t) n).isNone)];rfl,b⟩
  ·refine(j (fun x=>bV ((kidsS (l.map am.t) x.t).map (labelAt (l.map am.t)))) (Q+10) (Q+11) 158 #[cP S,cP Q] 24 (f 10 ad _ rfl) (f 11 ad _ rfl) (pW _ ak) (fun x c a d=>G4 (g.below d) e x c)).mono ?_
   rintro h w' ⟨rfl,b⟩;exact⟨by rw[<-any_map (fun t=>bV ((kidsS (l.map am.t) t).map (labelAt (l.map am.t))))];rfl,b⟩
  ·refine(j (fun x=> !x.t.key.isEmpty&& !(kidsS (l.map am.t) x.t).any fun k=>(fU (l.map am.t) k).contains x.t.key) (Q+12) (Q+13) 160 #[cP S,cP Q] 23 (f 12 ad _ rfl) (f 13 ad _ rfl) (pW _ ak) (fun x c a d=>G9 (g.below d) e x c)).mono ?_
   rintro h w' ⟨rfl,b⟩;exact⟨by rw[<-any_map (fun t=> !t.key.isEmpty&& !(kidsS (l.map am.t) t).any fun k=>(fU (l.map am.t) k).contains t.key)];rfl,b⟩
theorem In(l:List am)(o:Option Addr)(cap:Nat)(w:World)(e:cn w o cap l)(a:ej l):
 Calls prog 94 #[.agg #[.slice o l.length cap]] w (A9 (l.map am.t) w):=by
 have i:=fun w' (j:Below w.heap.size w w')=>AB l o cap w' (e.below j) a.len a.name;have g:Below w.heap.size w (w.alloc (.cells #[.slice o l.length cap] 24)):=az;have c:=i _ g;have d:(w.alloc (.cells #[.slice o l.length cap] 24)).heap.size+1=w.heap.size+2:=ak;rw[d]at c;clear i d g;go_enter func94,ntmps94
 go_wp2_with fail
 refine c.mono ?_;rintro r p ⟨rfl,b,h⟩;have f:w.heap.size+2<p.heap.size:=by obtain⟨q,n,_,_,m⟩:=b;exact m.lt
 have X:=ah (And.intro b (And.intro f h));clear c b f h;go_wp2_with go_in
 go_ret;exact Im e a X.out.1 X.out.2.1 X.out.2.2
theorem Io{l:List ax}(a:∀k,k<10->askE l k=0):bW l=0:=by
 have b:=a 0 ad;have c:=a 1 ad;have d:=a 2 ad;have e:=a 3 ad;have f:=a 4 ad;have g:=a 5 ad;have m:=a 6 ad;have h:=a 7 ad;have i:=a 8 ad;have j:=a 9 ad;simp only[askE]at b c d e f g m h i j;unfold bW;rw[show(fun t:ax=>t.text&&(!t.nodes.isEmpty|| !t.key.isEmpty))=eK from rfl];split at b
 ·cases b
 rename_i n;rw[ap n];split at c
 ·cases c
 rename_i o;rw[ap o];split at d
 ·cases d
 rename_i p;rw[ap p];split at e
 ·cases e
 rename_i q;rw[ap q];split at f
 ·cases f
 rename_i r;rw[ap r];split at g
 ·cases g
 rename_i s;rw[ap s,ap (by simpa using m)];split at h
 ·cases h
 rename_i u;rw[ap u];split at i
 ·cases i
 rename_i v;rw[ap v];split at j
 ·cases j
 rename_i w;rw[ap w]
theorem Ip{l:List ax}{k:Nat}(i:k<10)(b:∀j,j<k->askE l j=0)(c:askE l k≠0):bW l=askE l k:=by
 have cond:∀j,j<k->askE l j=0:=b;unfold bW;rw[show(fun t:ax=>t.text&&(!t.nodes.isEmpty|| !t.key.isEmpty))=eK from rfl];have step:∀(p:Prop) [Decidable p] (a:Int),(if p then a else 0)=0->a≠0->¬p:=fun p _ a b h e=>by rw[au e]at b;exact h b
 have d:∀(p:Prop) [Decidable p] (a:Int),(if p then a else 0)≠0->p:=fun p _ a b=>by by_cases e:p;exact e;rw[ap e]at b;exact absurd rfl b
 obtain rfl|rfl|rfl|rfl|rfl|rfl|rfl|rfl|rfl|rfl:k=0∨k=1∨k=2∨k=3∨k=4∨k=5∨k=6∨k=7∨k=8∨k=9:=ad
 ·have g:=d _ _ c
  rw[au g];exact(au g).symm
 all_goals rw[ap (step _ _ (b 0 ad) aw)]
 ·have g:=d _ _ c
  rw[au g];exact(au g).symm
 all_goals rw[ap (step _ _ (b 1 ad) aw)]
 ·have g:=d _ _ c
  rw[au g];exact(au g).symm
 all_goals rw[ap (step _ _ (b 2 ad) aw)]
 ·have g:=d _ _ c
  rw[au g];exact(au g).symm
 all_goals rw[ap (step _ _ (b 3 ad) aw)]
 ·have g:=d _ _ c
  rw[au g];exact(au g).symm
 all_goals rw[ap (step _ _ (b 4 ad) aw)]
 ·have g:=d _ _ c
  rw[au g];exact(au g).symm
 all_goals rw[ap (step _ _ (b 5 ad) aw)]
 ·rw[au (show eh l≠0 from c)];rfl
 all_goals rw[ap (show¬eh l≠0 from fun f=>f (b 6 ad))]
 ·have g:=d _ _ c
  rw[au g];exact(au g).symm
 all_goals rw[ap (step _ _ (b 7 ad) aw)]
 ·have g:=d _ _ c
  rw[au g];exact(au g).symm
 all_goals rw[ap (step _ _ (b 8 ad) aw)]
 ·have g:=d _ _ c
  rw[au g];exact(au g).symm
theorem Iq(k:Nat)(b:k<10):∀args a,(callFunc (askF k) args).run prog a=.ok (.enter (askF k) args) a:=by
 obtain rfl|rfl|rfl|rfl|rfl|rfl|rfl|rfl|rfl|rfl:k=0∨k=1∨k=2∨k=3∨k=4∨k=5∨k=6∨k=7∨k=8∨k=9:=ad
 all_goals exact fun _ _=>rfl
theorem check_any(l:List am)(o:Option Addr)(cap:Nat)(w:World)(A:cn w o cap l)(B:ej l):
 Calls prog 57 #[.agg #[.slice o l.length cap]] w fun c w'=>c=.returned (.int .i64 (bW (l.map am.t)))/\Below w.heap.size w w':=by
 have q:Below w.heap.size w (w.alloc (.cells #[.slice o l.length cap] 24)):=az;have n:=In l o cap _ (A.below q) B;obtain⟨z,a⟩:=aj (bW (l.map am.t));rw[<-a];obtain⟨ts,K⟩:=aj (l.map am.t);rw[<-K]at n a;have y:=ah a;clear a K A B;go_enter func57,ntmps57
 go_wp2_with fail
 refine n.mono ?_;rintro c L ⟨⟨M,S,Q,rfl,O,i⟩,D⟩;have G:=aD q D;clear n q D
 go_wp2
 go_loopw [9] (fun v wr=>∃k:Nat,v=.int .i64 k/\k<=10/\Below L.heap.size L wr/\Hid (∀j,j<k->askE ts j=0)) (fun v _=>10-(intOf v).toNat)
 case atStart=>exact⟨0,rfl,ad,aA _ _,fun j u=>absurd u ad⟩
 case round=>
  obtain⟨k,rfl,Z,e,f⟩:=hrel;by_cases x:k<10
  ·have P:decide ((k:Int)<10)=true:=aM
   have X:(0:Int)<=k:=ad;have Y:(k:Int)<10:=ad;obtain⟨H,J⟩:=i k x;have I:=(e.cell (p:=⟨M,k,none⟩) O).trans H;have b:=J wr e;have R:=Iq k x;have h:=fun T=>Ip (l:=ts) (k:=k) x f.o T;obtain⟨E,g⟩:=aj (askE ts k);rw[<-g]at h b;generalize askF k=F at I b R;generalize askC S Q k=C at I b;have t:=i;clear i H J;by_cases d:E=0
   ·subst d
    have N:Hid (∀j,j<k+1->askE ts j=0):=fun j u=>by
     by_cases c:j=k
     ·subst c;exact g.symm
     ·exact f.o j ad
    have W:=ah t;clear h g f t;go_wp2_with fail
    refine b.mono ?_;rintro c V ⟨rfl,r⟩;clear b;have s:=aD e r
    go_wp2
    go_roundw
    case rel=>exact⟨k+1,aG,ad,s,N⟩
    case measure=>exact aH
   ·have a:z=E:=by rw[y.o];exact h d
    have m:=ah a;have aa:(E !=0)=true:=by rw[iJ];exact d
    have ab:(E==0)=false:=by rw[cW];exact d
    clear h g a d t;go_wp2_with fail
    refine b.mono ?_;rintro c V ⟨rfl,r⟩;clear b;have s:=aD e r
    go_wp2
    go_ret;exact⟨bT m.o.symm,aD G s⟩
  ·have P:decide ((k:Int)<10)=false:=aJ
   have a:z=0:=by rw[y.o];exact Io fun j u=>f.o j ad
   have m:=ah a;clear a i
   go_wp2
   go_ret;exact⟨bT m.o.symm,aD G e⟩
def lC(r:Int×Int)(w:World)(a:Ending)(w':World):Prop:=a=.returned (.tuple #[.int .i64 r.1,.int .i64 r.2])/\Below w.heap.size w w'
theorem lC.of{r:Int×Int}{a b:Int}{w w':World}{c:Ending}(d:r=(a,b))(f:c=.returned (.tuple #[.int .i64 a,.int .i64 b]))(e:Below w.heap.size w w'):lC r w c w':=by subst d;exact⟨f,e⟩
theorem Ba(l:List am)(o:Option Addr)(cap:Nat)(w:World)(j:cn w o cap l)(x:ej l)(n:Bytes)(S:n.length<=1048576):
 Calls prog 29 #[.agg #[.slice o l.length cap],.string ⟨n.toArray⟩] w (lC (kQ (l.map am.t) n) w):=by
 have p:Below w.heap.size w (w.alloc (.cells #[.slice o l.length cap] 24)):=az;have M:=aC w (.cells #[.slice o l.length cap] 24);have P:w.heap.size<(w.alloc (.cells #[.slice o l.length cap] 24)).heap.size:=ak;have f:=check_any l o cap _ (j.below p) x;have s:=fun w' (R:Below w.heap.size w w')=>AB l o cap w' (j.below R) x.len x.name;have I:=mr n S;have O:=oH;obtain⟨D,a⟩:=aj (kQ (l.map am.t) n);rw[<-a];unfold kQ at a;obtain⟨ts,z⟩:=aj (l.map am.t);rw[<-z]at f s a;obtain⟨E,v⟩:=aj (bW ts);rw[<-v]at f a;by_cases e:E=0
 ·rw[au e]at a
  subst e;obtain⟨C,d⟩:=aE s a;clear a v z s j;go_enter func29,ntmps29
  go_wp2_with fail
  refine f.mono ?_;rintro F A ⟨rfl,i⟩;have q:=aD p i;have N:=(i.block w.heap.size P).trans M;have cs:=aZ A w.heap.size 0 _ _ _ N;have K:=C.o A q;clear f p i M N P C;go_wp2_with fail
  refine K.mono ?_;rintro F X ⟨rfl,Q,G⟩;have H:=aD q G;obtain⟨B,m,u,T,J⟩:=Q;have r:=u.has n;have y:=u.at0 n;clear K G cs u;cases g:placeS ts n with
  |none=>
   rw[g]at r y;have h:D=(0,16):=by rw[d.o,g]
   have t:=ah h;clear h g d;go_wp2_with(first
    |(at_lookup;go_must (refine Fl _ rfl _ _ 77 rfl 9 3 .i64 (kN fZ) iZ cX (O _) _ _ B rfl J _ _ rfl I ?_);intro c b L;rw[r];clear b L)
    |fail)
   go_ret2
   exact lC.of t.o rfl H
  |some k=>
   rw[g]at r y;have h:D=((k:Int),0):=by rw[d.o,g]
   have t:=ah h;clear h g d;go_wp2_with(first
    |(at_lookup;go_must (refine Fl _ rfl _ _ 77 rfl 9 3 .i64 (kN fZ) iZ cX (O _) _ _ B rfl J _ _ rfl I ?_);intro c b L;rw[r];obtain rfl:c=(k:Int):=by{rw[y]at b;injection b with b;injection b with _ b;exact b.symm})
    |fail)
   go_ret2
   exact lC.of t.o rfl H
 ·rw[ap e]at a
  have d:=ah a;have V:(E !=0)=true:=by rw[iJ];exact e
  have W:(E==0)=false:=by rw[cW];exact e
  clear a v z s j e;go_enter func29,ntmps29
  go_wp2_with fail
  refine f.mono ?_;rintro F A ⟨rfl,i⟩;have q:=aD p i;clear f
  go_wp2
  go_ret2
  exact lC.of d.o rfl q
def tZ(b:Nat):Array Value:=((List.range 7).map fun k=>Value.func (.func (p8 k)) #[.pointer (some ⟨b,0,none⟩)] #[]).toArray
theorem Jw(b k:Nat)(a:k<7):(tZ b)[k]?=some (.func (.func (p8 k)) #[.pointer (some ⟨b,0,none⟩)] #[]):=by simp[tZ,a]
def mA:Value:=.agg #[.string ⟨#[]⟩,.string ⟨#[]⟩,.slice none 0 0,.string ⟨#[]⟩,.bool false,.slice none 0 0]
def jS(w:World)(B:Nat)(x:am):Prop:=cA w B (.slice x.ao x.t.attrs.length x.ac) x.t.attrs/\cr w B (.slice x.no x.t.nodes.length x.nc) x.t.nodes
def oV(r:Option ax)(w:World)(a:Ending)(w':World):Prop:=
 (match r with
  |none=>a=.returned (.tuple #[mA,.bool false])
  |some t=>∃x:am,x.t=t/\a=.returned (.tuple #[dj x,.bool true])/\jS w' w.heap.size x)/\Below w.heap.size w w'
theorem oV.no{r:Option ax}{w w':World}{a:Ending}(b:r=none)(d:a=.returned (.tuple #[mA,.bool false]))(c:Below w.heap.size w w'):oV r w a w':=by subst b;exact⟨d,c⟩
theorem oV.yes{r:Option ax}{t:ax}{w w':World}{a:Ending}(b:r=some t)(x:am)(f:x.t=t)(d:a=.returned (.tuple #[dj x,.bool true]))(e:jS w' w.heap.size x)(c:Below w.heap.size w w'):oV r w a w':=by subst b;exact⟨⟨x,f,d,e⟩,c⟩
theorem Jy(s:Bytes)(w:World)(bB:s.length<=65536)(bm:ep s):
 Calls prog 56 #[.string ⟨s.toArray⟩] w (oV (my s) w):=by
 obtain⟨G,H⟩:=aj (my s);rw[<-H];rw[Jt]at H;have an:=ah H;clear H;go_enter func56,ntmps56
 go_wp2_with fail
 obtain⟨os,j⟩:∃os:List Obj,os=[.cells #[.string ⟨#[]⟩,.string ⟨#[]⟩,.slice none 0 0,.string ⟨#[]⟩,.bool false,.slice none 0 0] 68,.cells (tX ⟨s,[],[],.slice none 0 0,[],false,.slice none 0 0⟩) 174,.cells (tZ (w.heap.size+1)) 35]:=⟨_,rfl⟩;obtain⟨b,d⟩:=aj (iN w os);have bZ:b.heap.size=w.heap.size+3:=by rw[d,wJ,j];rfl
 have I:∀i,i<3->b.heap[w.heap.size+i]?=os[i]?:=fun i bz=>by rw[d];exact wv w os i (by rw[j];exact bz)
 have A:b.heap[w.heap.size]?=some (.cells #[.string ⟨#[]⟩,.string ⟨#[]⟩,.slice none 0 0,.string ⟨#[]⟩,.bool false,.slice none 0 0] 68 (0,0)):=(I 0 ad).trans (by rw[j];rfl);have Y:bK b (w.heap.size+1) ⟨s,[],[],.slice none 0 0,[],false,.slice none 0 0⟩:=(I 1 ad).trans (by rw[j];rfl);have O:b.heap[w.heap.size+2]?=some (.cells (tZ (w.heap.size+1)) 35 (0,0)):=(I 2 ad).trans (by rw[j];rfl);have J:Below w.heap.size w b:=by rw[d];exact ww _ _
 rw[j]at d;clear I j;have R:tY (w.heap.size+1) (w.heap.size+3) b 0 ⟨s,[],[],[],[],false,[]⟩ b:=
  ⟨⟨_,Y,rfl,rfl,rfl,rfl,cR _ _ _ _,cR _ _ _ _,fun _=>⟨rfl,rfl,rfl⟩⟩,fun _=>⟨bm,bB⟩,fun _=>rfl,fun _=>rfl,fun _=>⟨rfl,rfl⟩,gQ.refl _ _ _,ad,ad⟩
 go_loopw [26] (fun v wr=>∃(k:Nat) (p:PL),v=.int .i64 k/\k<=7/\tY (w.heap.size+1) (w.heap.size+3) b k p wr/\Hid (G=p7 k p)) (fun v _=>7-(intOf v).toNat)
 case atStart=>exact⟨0,_,rfl,ad,by rw[d]at R;rw[d];exact R,an.o⟩
 case round=>
  obtain⟨k,p,rfl,bA,t,D⟩:=hrel;clear an R;have x:=t.far;have c:=(x.block w.heap.size ad ad).trans A;have W:=(x.block (w.heap.size+2) ad ad).trans O;have bq:=J.trans (x.below (C:=w.heap.size) ad ad ad);by_cases T:k<7
  ·have bu:decide ((k:Int)<7)=true:=aM
   have bE:(0:Int)<=k:=ad;have bF:(k:Int)<7:=ad;have S:=aZ wr (w.heap.size+2) k _ _ _ W;rw[Jw _ k T]at S;have K:=Jv (w.heap.size+1) (w.heap.size+3) b k T p wr t;have bw:=Ju k T;have z:=D.o;unfold BM at K;generalize p8 k=F at S K bw;obtain⟨E,X⟩:=aE z (And.intro A (And.intro O J));clear z D A O J Y c W d t x;go_wp2_with fail
   refine K.mono ?_;rintro m l ⟨ok,rfl,V,Z⟩;clear K S;cases ok with
   |false=>
    obtain⟨a3,Q⟩:=V rfl;have r:G=none:=by rw[E.o];exact a3
    have P:=ah r;have e:=(Q.block w.heap.size ad ad).trans X.out.1;have aa:=aZ l w.heap.size 0 _ _ _ e;have ab:=aZ l w.heap.size 1 _ _ _ e;have ae:=aZ l w.heap.size 2 _ _ _ e;have af:=aZ l w.heap.size 3 _ _ _ e;have ag:=aZ l w.heap.size 4 _ _ _ e;have al:=aZ l w.heap.size 5 _ _ _ e;have bi:∀o,l.frozen? ⟨w.heap.size,o,none⟩=false:=fun o=>by simp[World.frozen?,e]
    have bt:=X.out.2.2.trans (Q.below (C:=w.heap.size) ad ad ad);clear V Z a3 r X Q e;go_wp2_with fail
    refine bS (v:=.tuple #[mA,.bool false]) (by simp[results,results56,go_sem,aa,ab,ae,af,ag,al,mA]) rfl (oV.no P.o rfl ?_);exact(((((bt.setCell (aB _) _).setCell (aB _) _).setCell (aB _) _).setCell (aB _) _).setCell (aB _) _).setCell (aB _) _
   |true=>
    obtain⟨a9,a5,bl⟩:=Z rfl;have r:G=p7 (k+1) a9:=by rw[E.o];exact a5
    have P:=ah r;have A:=X.out.1;clear V Z a5 r
    go_wp2
    go_roundw
    case rel=>exact⟨k+1,a9,aG,ad,bl,P.o⟩
    case measure=>exact aH
  ·have bu:decide ((k:Int)<7)=false:=aJ
   obtain rfl:k=7:=ad;obtain⟨y,h,a2,a1,a0,a7,N,M,_⟩:=t.ex;obtain⟨q,ac,ao⟩:=cJ N;obtain⟨no,B,a4⟩:=cJ M;obtain⟨rest,name,label,av,key,text,nv⟩:=y;obtain⟨b3,b2,b1,f,b0,b4,g⟩:=p;simp only at a2 a1 a0 a7 ao a4 N M;subst a2;subst a1;subst a0;subst a7;subst ao;subst a4;have z:G=some ⟨name,label,f,key,text,g⟩:=D.o;obtain⟨E,ba⟩:=aE z (And.intro N M);have bb:=h.c1;have bc:=h.c2;have bd:=h.c3;have be:=h.c4;have bf:=h.c5;have bg:=h.c6;simp only at bb bc bd be bf bg;have aa:=aZ wr w.heap.size 0 _ _ _ c;have ab:=aZ wr w.heap.size 1 _ _ _ c;have ae:=aZ wr w.heap.size 2 _ _ _ c;have af:=aZ wr w.heap.size 3 _ _ _ c;have ag:=aZ wr w.heap.size 4 _ _ _ c;have al:=aZ wr w.heap.size 5 _ _ _ c;have bi:∀o,wr.frozen? ⟨w.heap.size,o,none⟩=false:=fun o=>by simp[World.frozen?,c]
   clear t x c W h N M D z A Y O J d;go_wp2_with fail
   refine bS (v:=.tuple #[.agg #[.string ⟨name.toArray⟩,.string ⟨label.toArray⟩,.slice q f.length ac,.string ⟨key.toArray⟩,.bool text,.slice no g.length B],.bool true]) (by simp[results,results56,go_sem,aa,ab,ae,af,ag,al]) rfl (oV.yes E.o ⟨⟨name,label,f,key,text,g⟩,q,ac,no,B⟩ rfl rfl ?_ (((((((bq.setCell (aB _) _).setCell (aB _) _).setCell (aB _) _).setCell (aB _) _).setCell (aB _) _).setCell (aB _) _)));have a6:∀(a:World) (o:Nat) (u:Value),a.grownBy (a.setCell ⟨w.heap.size,o,none⟩ u) (some w.heap.size):=fun a o u=>⟨rfl,rfl,rfl,by simp[World.setCell],fun k bA bo=>eG _ _ _ _ (fun m=>bo (by rw[m]))⟩;have n:∀(a:World) (o:Nat) (u:Value),cA a (w.heap.size+3) (.slice q f.length ac) f/\cr a (w.heap.size+3) (.slice no g.length B) g->cA (a.setCell ⟨w.heap.size,o,none⟩ u) (w.heap.size+3) (.slice q f.length ac) f/\cr (a.setCell ⟨w.heap.size,o,none⟩ u) (w.heap.size+3) (.slice no g.length B) g:=fun a o u L=>
    ⟨df L.1 (a6 a o u) (.inr (fun m=>by have:=(bX L.1 _ m).1;omega)),df L.2 (a6 a o u) (.inr (fun m=>by have:=(bX L.2 _ m).1;omega))⟩
   have aq:=n _ 5 (.slice no g.length B) (n _ 4 (.bool text) (n _ 3 (.string ⟨key.toArray⟩) (n _ 2 (.slice q f.length ac) (n _ 1 (.string ⟨label.toArray⟩) (n wr 0 (.string ⟨name.toArray⟩) ba.o)))));exact⟨jP aq.1 ad,jP aq.2 ad⟩
end Go.Proofs.YtbacloblanpghaaGreatDoor
