import Derived.Test.YtfeidcmojcijpaaGreatDoorQak
import Derived.Test.YtfeidcmojcijpaaGreatDoorQam
set_option linter.all false
set_option maxRecDepth 100000
set_option maxHeartbeats 0
namespace Go.Proofs.YtfeidcmojcijpaaGreatDoor
open Go.RowKit Tryz
def L0:∀args a,(callFunc 127 args).run prog a=.ok (.enter 127 args) a:=fun _ _=>rfl
def L6{w:World}{S P b d:Nat}{o:Option Addr}{cap:Nat}{l:List ai}(g:mW w S P b d o cap l)(p:ep l)(x:ai)(h:x∈l):
 Calls prog 126 #[dV x,.pointer (some ⟨S,0,none⟩),.pointer (some ⟨P,0,none⟩)] w fun e w'=>e=.returned (.bool (!x.t.key.isEmpty&& !(kidsS (l.map ai.t) x.t).any fun k=>(gS (l.map ai.t) k).contains x.t.key))/\Below w.heap.size w w':=by
 have b:1<=l.length:=by cases l with|nil=>simp at h|cons a t=>simp
 have n:∀k∈kidsS (l.map ai.t) x.t,k<l.length:=fun k i=>by have:=Ef (by rw[bn];exact b) i;rwa[bn]at this
 have f:(kidsS (l.map ai.t) x.t).length<=1024:=by unfold kidsS;rw[bn];exact sE _
 have m:=fun w' (b:Below w.heap.size w w')=>D9 (l.map ai.t) x (.agg #[.slice o l.length cap]) d w' ⟨_,_,_,rfl⟩ ((g.types.2 x h).2.O b) (g.places.O b) (jO b.size g.mlt) (aQ (sE x.t.E)) (p.sym x h);obtain⟨ks,A⟩:=am (kidsS (l.map ai.t) x.t);rw[<-A]at n f m⊢;have d:=Eh x w;have f:=g.O d;have y:=aN w (.cells (typeRow x).toArray 55);have g:=fun w' (b:Below (w.alloc (.cells (typeRow x).toArray 55)).heap.size (w.alloc (.cells (typeRow x).toArray 55)) w') j s=>
  LZ (w:=w') (S:=S) (X:=w.heap.size) (f.O b).s (f.O b).types p x ((b.J w.heap.size aj).Z y) j s
 obtain⟨q,p⟩:∃q:Nat->Bool,∀k,q k=(gS (l.map ai.t) k).contains x.t.key:=⟨_,fun _=>rfl⟩;rw[show(fun k=>(gS (l.map ai.t) k).contains x.t.key)=q from funext fun k=>(p k).zy];have z:=fun w' (b:Below (w.alloc (.cells (typeRow x).toArray 55)).heap.size (w.alloc (.cells (typeRow x).toArray 55)) w') u s (B:lp w' u s ks)=>
  Eb (F:=127) (caps:=#[.pointer (some ⟨S,0,none⟩),.pointer (some ⟨w.heap.size,0,none⟩)]) (q:=q) ks u s w' B ad L0
   (fun k i w1 s=>by rw[p];exact g w1 (b.Z (s.zz b.size)) k (n k i))
 have i:=m _ d;have cs:=bj _ S 0 _ _ _ f.s;have cp:=bj _ P 0 _ _ _ f.p;have s:=ah z;obtain⟨⟨name,label,attrs,key,text,nodes⟩,b,ac,no,u⟩:=x;unfold dV typeRow at*;simp only at*;obtain⟨r,b⟩:=am ((!key.isEmpty&& !ks.any q));rw[<-b];have u:=ah b;clear b z g m n A y f h p;cases key with
 |nil=>
  have b:r=false:=by rw[u.o];rfl
  have f:=ah b;clear b i;go_enter func126,ntmps126
  go_wp2
  go_ret;exact⟨bJ f.o.zy,d⟩
 |cons c t=>
  have b:r= !ks.any q:=by rw[u.o];rfl
  have f:=ah b;clear b;go_enter func126,ntmps126
  go_wp2_with fail
  refine i.zz ?_;rintro e y ⟨⟨v,rfl,n⟩,b⟩;have h:=d.Z (b.zz d.size);obtain⟨u,p,rfl,g⟩:=uF n;have m:=s.o y b u p g;clear i g n b s d;go_wp2_with fail
  refine ar m ?_;intro d b;clear m
  go_wp2
  go_ret;exact⟨bJ f.o.zy,h.Z (b.zz h.size)⟩
def aE{w0 w1 w2}(a:aR w0 w1)(k:aR w1 w2):aR w0 w2:=a.Z (k.zz a.size)
def L8{w}{S P c r E W F:Nat}{caps o cap l q} en(b:mW w S P c r o cap l)(z:ep l)
 (e:w.heap[E]?=some (.cells #[.int .i64 en] 30 (0,0))) (f:w.heap[W]?=some (.cells #[.func (.func F) #[] caps] 201 (0,0)))
 (m:∀args p,(callFunc F args).run prog p=.ok (.enter F args) p)
 (n:∀x∈l,∀w1,aR w w1->cX F (#[dV x]++caps) w1 (.bool (q x))):
 cX 110 #[c,E,S,W] w (.int .i64 (if l.any q=true then en else 0)):=by
 have h:=fun w' a=>LC l o cap w' (b.types.O a) z.len m (fun x d w1 A=>n x d w1 (a.Z (A.zz a.size)));have s:=bj _ c 0 _ _ _ b.t;have t:=bj _ E 0 _ _ _ e;have u:=bj _ S 0 _ _ _ b.s;have y:=bj _ W 0 _ _ _ f;have D:=xx;have d:∀w',aR w w'->w'.cell? _=some (.func (.func 108) #[] #[])/\w'.cell? _=some (.int .i64 en)/\w'.cell? _=some (.slice o l cap)/\w'.cell? _=some (.func (.func F) #[] caps):=fun w' a=>
  ⟨(a.cell (aS b.t)).Z s,(a.cell (aS e)).Z t,(a.cell (aS b.s)).Z u,(a.cell (aS f)).Z y⟩
 have C:=(aA w w).drew;have j:=d;clear d;clear b e f n m;have⟨v,hv⟩:=am (l.any q);rw[<-hv]at h⊢;clear hv;cases v with
 |true=>
  rw[au rfl]
  go_in
  go_wp2_with fail
  go_region_held3(fun w'=>Below w.heap.size w w'/\w'.cell? ⟨c,0,none⟩=some (.func (.func 108) #[] #[])/\w'.cell? ⟨E,0,none⟩=some (.int .i64 en)/\w'.cell? ⟨S,0,none⟩=some (.slice o l.length cap)/\w'.cell? ⟨W,0,none⟩=some (.func (.func F) #[] caps)) (first|exact⟨fX,j _ fX⟩)
   (first
     |(go_at_call 111;refine ar (h _ fX) ?_;intro i g;have B:=aE fX g)
     |(go_at_call 108;refine ar (xu _ _) ?_;rintro i rfl))
  go_wp2
  go_ret;exact⟨rfl,fX⟩
 |false=>
  rw[ap aj]
  go_in
  go_wp2_with fail
  go_region_held3(fun w'=>Below w.heap.size w w'/\w'.cell? ⟨c,0,none⟩=some (.func (.func 108) #[] #[])/\w'.cell? ⟨E,0,none⟩=some (.int .i64 en)/\w'.cell? ⟨S,0,none⟩=some (.slice o l.length cap)/\w'.cell? ⟨W,0,none⟩=some (.func (.func F) #[] caps)) (first|exact⟨fX,j _ fX⟩)
   (first
     |(go_at_call 111;refine ar (h _ fX) ?_;intro i g;have B:=aE fX g)
     |(go_at_call 108;refine ar (xw _ _) ?_;rintro i rfl))
  go_wp2
  go_ret;exact⟨rfl,fX⟩
def kh(w:World)(os:List Obj):World:=os.foldl World.alloc w
def Ey os:∀w,(kh w os).heap=w.heap++os:=by
 induction os with
 |nil=>intro w;rfl
 |cons o t ih=>
  intro w;show(kh (w.alloc o) t).heap=_
  rw[ih];show w.heap.push o++t=_
  simp
def Aq w os i(a:i<os.length):(kh w os).heap[w.heap.size+i]?=os[i]?:=by rw[Ey,Array.getElem?_append_right ad];simp
def Ar w os:aR w (kh w os):=by
 induction os generalizing w with
 |nil=>exact aA _ _
 |cons o t ih=>
  show aR w (kh (w.alloc o) t)
  exact((aA _ w).alloc (ay _) o).Z ((ih _).zz aj)
def As w os:(kh w os)=w+os.length:=by rw[Ey];simp
def askE(l:List aB):Nat->Int
 |0=>if 64<l.length then 17 else 0
 |1=>if l.length=0 then 18 else 0
 |2=>if l.any gR=true then 11 else 0
 |3=>if cz (l.map aB.name)=true then 15 else 0
 |4=>if l.any (fun t=>eo t.zx)=true then 14 else 0
 |5=>if l.any fW=true then 12 else 0
 |6=>eW l
 |7=>if l.any (fun t=>(symsS t.E).any fun n=>(placeS l n).isNone)=true then 16 else 0
 |8=>if l.any (fun t=>cz ((kidsS l t).map (labelAt l)))=true then 24 else 0
 |_=>if l.any (fun t=> !t.key.isEmpty&& !(kidsS l t).any fun k=>(gS l k).contains t.key)=true then 23 else 0
def askF:Nat->Nat
 |0=>112
 |1=>113
 |3=>115
 |6=>118
 |_=>110
def dD(b:Nat):Value:=b
def askC(S Q:Nat):Nat->Array Value
 |0=>#[dD (Q+1),dD S]
 |1=>#[dD (Q+1),dD S]
 |2=>#[dD (Q+1),dD (Q+2),dD S,dD (Q+3)]
 |3=>#[dD (Q+1),dD Q,dD S]
 |4=>#[dD (Q+1),dD (Q+4),dD S,dD (Q+5)]
 |5=>#[dD (Q+1),dD (Q+6),dD S,dD (Q+7)]
 |6=>#[dD S]
 |7=>#[dD (Q+1),dD (Q+8),dD S,dD (Q+9)]
 |8=>#[dD (Q+1),dD (Q+10),dD S,dD (Q+11)]
 |_=>#[dD (Q+1),dD (Q+12),dD S,dD (Q+13)]
structure Ez(l:List aB)(w:World)(e:Ending)(w':World):Prop where
 fns:∃G S Q,e=.returned (.slice (some ⟨G,0,none⟩) 10 10)/\G<w'.heap.size/\∀k,k<10->w'.cell? ⟨G,k,none⟩=some (.func (.func (askF k)) #[] (askC S Q k))/\
  ∀w1,Below w'.heap.size w' w1->Calls prog (askF k) (askC S Q k) w1 fun e w2=>e=.returned (.int .i64 (askE l k))/\Below w1.heap.size w1 w2
 O:Below w.heap.size w w'
def xF(S a Q:Nat):List Obj:=
 [.cells #[.map a] 72,.cells #[.func (.func 108) #[] #[]] 200,
  .cells #[.int .i64 11] 30,.cells #[.func (.func 114) #[] #[]] 201,
  .cells #[.int .i64 14] 30,.cells #[.func (.func 116) #[] #[]] 201,
  .cells #[.int .i64 12] 30,.cells #[.func (.func 117) #[] #[]] 201,
  .cells #[.int .i64 16] 30,.cells #[.func (.func 120) #[] #[dD Q]] 201,
  .cells #[.int .i64 24] 30,.cells #[.func (.func 124) #[] #[dD S,dD Q]] 201,
  .cells #[.int .i64 23] 30,.cells #[.func (.func 126) #[] #[dD S,dD Q]] 201,
  .cells ((List.range 10).map fun k=>Value.func (.func (askF k)) #[] (askC S Q k)) 68]
def sK(k:Nat)(b:k=114∨k=116∨k=117∨k=120∨k=124∨k=126):∀args a,(callFunc k args).run prog a=.ok (.enter k args) a:=by rcases b with rfl|rfl|rfl|rfl|rfl|rfl<;>simp
def any_map{l:List ai} p:(l.map ai.t).any p=l.any fun x=>p x.t:=by rw[List.any_map];rfl
def Mo{l o cap w a}(C:cw w o cap l)(f:ep l)(y:fA a (w+2) (l.map ai.t))(H:w+2<a.heap.size)
 (d:aR (cT w #[.slice o l cap] 24) a):
 Ez (l.map ai.t) w (.returned (.slice (some ⟨a+14,0,none⟩) 10 10)) (kh a (xF w (w+2) a)):=by
 have I:aR w (cT w #[.slice o l cap] 24):=aP;have z:=aE I d;have⟨Q,m⟩:=am a.heap.size;have⟨S,s⟩:=am w.heap.size;rw[<-m];have N:a.heap[S]?=some (.cells #[.slice o l.length cap] 24 (0,0)):=by rw[s];exact(d.J _ aj).Z (aN w _)
 have O:S<Q:=by rw[m];omega
 rw[<-s];rw[<-s]at y H;have⟨W,n⟩:=am (kh a (xF S (S+2) Q));have r:Below a.heap.size a W:=by rw[n];exact Ar _ _
 have v:W=Q+15:=by rw[n,As,<-m];rfl
 have p:∀i,i<15->W.heap[Q+i]?=(xF S (S+2) Q)[i]?:=fun i u=>by rw[n,m];exact Aq _ _ _ (m▸u)
 rw[<-n];have G:mW W S Q (Q+1) (S+2) o cap l:=
  ⟨(r.J S ad).Z N,p 0 ad,p 1 ad,(C.O z).O r,y.O r,by rw[v];omega⟩
 have D:=fun w1 (b:aR W w1)=>G.O b;have J:=fun w1 (b:Below W.heap.size W w1) i (u:i<15) o (M:(xF S (S+2) Q)[i]?=some o)=>(b.J (Q+i) (by rw[v];omega)).Z ((p i u).Z M);refine⟨⟨_,S,Q,rfl,by rw[v];omega,fun k K=>⟨?_,fun w1 b=> ?_⟩⟩,aE z r⟩;rw[bj W _ k _ _ _ (p 14 ad)];simp[K];have g:=J w1 b;have h:=D w1 b;have j:=fun q E A F caps B=>L8 (E:=E) (W:=A) (F:=F) (caps:=caps) (q:=q) B h f;obtain rfl|rfl|rfl|rfl|rfl|rfl|rfl|rfl|rfl|rfl:k=0∨k=1∨k=2∨k=3∨k=4∨k=5∨k=6∨k=7∨k=8∨k=9:=ad
 refine ar (LF h f.len) ?_;rintro w' rfl;exact⟨by show _=Ending.returned (.int .i64 (if 64<(l.map ai.t).length then 17 else 0));simp,aA _ _⟩;refine ar (LG h f.len) ?_;rintro w' rfl;exact⟨by show _=Ending.returned (.int .i64 (if(l.map ai.t).length=0 then 18 else 0));simp,aA _ _⟩;apply(j _ _ _ 114 _ 11 (g 2 ad _ rfl) (g 3 ad _ rfl) (sK _ aj) (fun x c a d=>LK x a (((h.types).O d).2 x c).1 (f.name x c) (f.zv x c) (f.key x c) (f.zx x c) (f.attr x c))).zz;rintro e w' ⟨rfl,b⟩;exact⟨by rw[<-any_map];rfl,b⟩;refine ar (LT h f.len) ?_;rintro w' rfl;exact⟨rfl,aA _ _⟩;apply(j _ _ _ 116 _ 14 (g 4 ad _ rfl) (g 5 ad _ rfl) (sK _ aj) (fun x c a d=>LM x a (((h.types).O d).2 x c).1 (f.zx x c))).zz;rintro e w' ⟨rfl,b⟩;exact⟨by rw[<-any_map (fun t=>eo t.zx)];rfl,b⟩;refine ar (j _ _ _ 117 _ 12 (g 6 ad _ rfl) (g 7 ad _ rfl) (sK _ aj) (fun x c a d=>LI x a)) ?_;intro w' b;exact⟨by rw[<-any_map];rfl,b⟩;exact LO h f;apply(j _ _ _ 120 _ 16 (g 8 ad _ rfl) (g 9 ad _ rfl) (sK _ aj) (fun x c a d=>LS (h.O d).p (h.O d).places x (((h.types).O d).2 x c).2 (f.sym x c))).zz;rintro e w' ⟨rfl,b⟩;exact⟨by rw[<-any_map (fun t=>(symsS t.E).any _)];rfl,b⟩;apply(j _ _ _ 124 _ 24 (g 10 ad _ rfl) (g 11 ad _ rfl) (sK _ aj) (fun x c a d=>LW (h.O d) f x c)).zz;rintro e w' ⟨rfl,b⟩;exact⟨by rw[<-any_map (fun t=>cz ((kidsS (l.map ai.t) t).map _))];rfl,b⟩;refine ar (j _ _ _ 126 _ 23 (g 12 ad _ rfl) (g 13 ad _ rfl) (sK _ aj) (fun x c a d=>L6 (h.O d) f x c)) ?_;intro w' b;exact⟨by rw[<-any_map (fun t=> !t.key.isEmpty&& !(kidsS (l.map ai.t) t).any fun k=>(gS (l.map ai.t) k).contains t.key)];rfl,b⟩
def Mp l o cap w(e:cw w o cap l)(a:ep l):
 dB 72 #[.agg #[.slice o l cap]] w (Ez (l.map ai.t) w):=by
 have i:=fun w' j=>D7 l o cap w' (e.O j) a.len a.name;have g:aR w (cT w #[.slice o l cap] 24):=aP;have c:=i _ g;have d:(w.alloc (.cells #[.slice o l cap] 24))+1=w.heap.size+2:=aj;rw[d]at c;clear i d g
 go_in
 go_wp2_with fail
 refine ar c ?_;rintro p ⟨b,h⟩;have f:w.heap.size+2<p.heap.size:=by obtain⟨D,n,_,_,m⟩:=b;exact m.lt
 have X:=ah (And.intro b (And.intro f h));clear c b f h;go_wp2_with go_in
 go_ret;exact Mo e a X.out.1 X.out.2.1 X.out.2.2
def Mq{l}(a:∀k,k<10->askE l k=0):bY l=0:=by
 have b:=a 0 ad;have c:=a 1 ad;have d:=a 2 ad;have e:=a 3 ad;have f:=a 4 ad;have g:=a 5 ad;have w:=a 6 ad;have h:=a 7 ad;have i:=a 8 ad;have j:=a 9 ad;simp only[askE]at b c d e f g w h i j;unfold bY;rw[show(fun t=>t.text&&(!t.E.isEmpty|| !t.key.isEmpty))=fW from rfl];split at b;cases b
 rename_i m;rw[ap m];split at c;cases c
 rename_i n;rw[ap n];split at d;cases d
 rename_i o;rw[ap o];split at e;cases e
 rename_i p;rw[ap p];split at f;cases f
 rename_i q;rw[ap q];split at g;cases g
 rename_i r;rw[ap r,ap (by omega)];split at h;cases h
 rename_i s;rw[ap s];split at i;cases i
 rename_i u;rw[ap u];split at j;cases j
 rename_i v;rw[ap v]
def Mr{l:List aB}{k:Nat}(i:k<10)(b:∀j,j<k->askE l j=0)(c:askE l k≠0):bY l=askE l k:=by
 have cond:∀j,j<k->askE l j=0:=b;unfold bY;rw[show(fun t:aB=>t.text&&(!t.E.isEmpty|| !t.key.isEmpty))=fW from rfl];have step:∀(p:Prop) [Decidable p] (a:Int),(if p then a else 0)=0->a≠0->¬p:=fun p _ a b h e=>by rw[au e]at b;exact h b
 have d:∀(p:Prop) [Decidable p] (a:Int),(if p then a else 0)≠0->p:=fun p _ a b=>by by_cases e:p;exact e;rw[ap e]at b;exact absurd rfl b
 obtain rfl|rfl|rfl|rfl|rfl|rfl|rfl|rfl|rfl|rfl:k=0∨k=1∨k=2∨k=3∨k=4∨k=5∨k=6∨k=7∨k=8∨k=9:=ad
 have g:=d _ _ c;rw[au g];exact(au g).zy;all_goals rw[ap (step _ _ (b 0 ad) aq)]
 have g:=d _ _ c;rw[au g];exact(au g).zy;all_goals rw[ap (step _ _ (b 1 ad) aq)]
 have g:=d _ _ c;rw[au g];exact(au g).zy;all_goals rw[ap (step _ _ (b 2 ad) aq)]
 have g:=d _ _ c;rw[au g];exact(au g).zy;all_goals rw[ap (step _ _ (b 3 ad) aq)]
 have g:=d _ _ c;rw[au g];exact(au g).zy;all_goals rw[ap (step _ _ (b 4 ad) aq)]
 have g:=d _ _ c;rw[au g];exact(au g).zy;all_goals rw[ap (step _ _ (b 5 ad) aq)]
 rw[au (show eW l≠0 from c)];rfl;all_goals rw[ap (show¬eW l≠0 from fun f=>f (b 6 ad))]
 have g:=d _ _ c;rw[au g];exact(au g).zy;all_goals rw[ap (step _ _ (b 7 ad) aq)]
 have g:=d _ _ c;rw[au g];exact(au g).zy;all_goals rw[ap (step _ _ (b 8 ad) aq)]
 have g:=d _ _ c;rw[au g];exact(au g).zy
def Ms k(b:k<10):∀args a,(callFunc (askF k) args).run prog a=.ok (.enter (askF k) args) a:=by
 obtain rfl|rfl|rfl|rfl|rfl|rfl|rfl|rfl|rfl|rfl:k=0∨k=1∨k=2∨k=3∨k=4∨k=5∨k=6∨k=7∨k=8∨k=9:=ad
 all_goals exact fun _ _=>rfl
def At l o cap w(d:cw w o cap l)(f:ep l):
 cX 43 #[.agg #[.slice o l cap]] w (.int .i64 (bY (l.map ai.t))):=by
 have c:aR w (cT w #[.slice o l cap] 24):=aP;have b:=Mp l o cap _ (d.O c) f;have⟨t,a⟩:=am (bY (l.map ai.t));rw[<-a];have⟨ts,g⟩:=am (l.map ai.t);rw[<-g]at b a;have s:=ah a;clear a g d f
 go_in
 go_wp2_with fail
 apply b.zz;rintro e f ⟨⟨i,S,Q,rfl,g,h⟩,d⟩;have u:=aE c d;clear b c d
 go_wp2
 go_loopw [9] (fun v wr=>∃k:Nat,v=.int .i64 k/\k<=10/\aR f wr/\Hid (∀j,j<k->askE ts j=0)) (fun v _=>10-(intOf v).toNat)
 case atStart=>exact⟨0,rfl,ad,aA _ _,fun j r=>absurd r ad⟩
 case round=>
  obtain⟨k,rfl,b,d,f⟩:=hrel;by_cases c:k<10
  ·have x:decide ((k:Int)<10)=true:=bT
   have b:=aL k;have b:(k:Int)<10:=ad;have⟨i,p⟩:=h k c;have n:=(d.cell g).Z i;have b:=p wr d;have q:=Ms k c;have g:=fun m=>Mr c f.o m;have⟨E,m⟩:=am (askE ts k);rw[<-m]at g b;generalize askF k=F at n b q;generalize askC S Q k=C at n b;have q:=h;clear h i p;by_cases c:E=0
   ·subst c
    have i:Hid (∀j,j<k+1->askE ts j=0):=fun j r=>by by_cases e:j=k;subst e;omega;exact f.o j ad
    have n:=ah q;clear g m f q;go_wp2_with fail
    refine ar b ?_;intro y n;clear b;have p:=aE d n
    go_wp2
    go_roundw
    case rel=>exact⟨_,aD,ad,p,i⟩
    case measure=>exact aM
   have a:t=E:=by rw[s.o];exact g c
   have i:=ah a;have z:(E !=0)=true:=by rw[ka];exact c
   have z:(E==0)=false:=by rw[dF];exact c
   clear g m a c q;go_wp2_with fail
   refine ar b ?_;intro y n;clear b;have p:=aE d n
   go_wp2
   go_ret;exact⟨da i.o.zy,aE u p⟩
  have x:decide ((k:Int)<10)=false:=bU;have a:t=0:=by rw[s.o];exact Mq fun j r=>f.o j ad
  have i:=ah a;clear a h
  go_wp2
  go_ret;exact⟨da i.o.zy,aE u d⟩
def sL(r:Int×Int)(w:World)(e:Ending)(w':World):Prop:=e=.returned (.tuple #[.int .i64 r.1,.int .i64 r.2])/\aR w w'
def sL.of{r:Int×Int}{a b:Int}{w w':World}{e:Ending}(c:r=(a,b))(f:e=.returned (.tuple #[.int .i64 a,.int .i64 b]))(d:Below w.heap.size w w'):sL r w e w':=by subst c;exact⟨f,d⟩
def EA l o cap w(j:cw w o cap l)(y:ep l) n(T:n.length<=maxLen):
 dB 24 #[.agg #[.slice o l cap],.string ⟨n.toArray⟩] w (sL (sx (l.map ai.t) n) w):=by
 have p:aR w (cT w #[.slice o l cap] 24):=aP;have N:=aN w (.cells #[.slice o l cap] 24);have Q:w<(w.alloc (.cells #[.slice o l cap] 24)).heap.size:=aj;have f:=At l o cap _ (j.O p) y;have t:=fun w' S=>D7 l o cap w' (j.O S) y.len y.name;have I:keyOf prog 9 (.string ⟨n.toArray⟩)=some (.string n):=by have:=C8 iI (s:=⟨n⟩) (by rw[eJ];exact T);omega
 have P:=sD;have⟨F,a⟩:=am (sx (l.map ai.t) n);rw[<-a];unfold sx at a;have⟨ts,A⟩:=am (l.map ai.t);rw[<-A]at f t a;have⟨E,x⟩:=am (bY ts);rw[<-x]at f a;by_cases e:E=0;rw[au e]at a;subst e;have⟨C,d⟩:=aC t a;clear a x A t j
 go_in
 go_wp2_with fail
 refine ar f ?_;intro B i;have q:=aE p i;have O:=(i.J _ Q).Z N;have cs:=bj B _ 0 _ _ _ O;have K:=C.o B q;clear f p i N O Q C;go_wp2_with fail
 refine ar K ?_;rintro Y ⟨R,G⟩;have H:=aE q G;obtain⟨D,m,v,V,J⟩:=R;have r:=v.has n;have z:=v.at0 n;clear K G cs v;cases g:placeS ts n with
 |none=>
  rw[g]at r z;have h:F=(0,16):=by rw[d.o,g]
  have u:=ah h;clear h g d;go_wp2_with(first
   |(at_lookup;go_must (refine Kt _ rfl _ _ 72 rfl 9 3 _ (om iI) lT ei (P _) _ _ D rfl J _ _ rfl I ?_);intro c b M;rw[r];clear b M)
   |fail)
  go_ret2
  exact sL.of u.o rfl H
 |some k=>
  rw[g]at r z;have h:F=((k:Int),0):=by rw[d.o,g]
  have u:=ah h;clear h g d;go_wp2_with(first
   |(at_lookup;go_must (refine Kt _ rfl _ _ 72 rfl 9 3 _ (om iI) lT ei (P _) _ _ D rfl J _ _ rfl I ?_);intro c b M;rw[r];obtain rfl:c=k:=by{rw[z]at b;injection b with b;injection b with _ b;exact b.zy})
   |fail)
  go_ret2
  exact sL.of u.o rfl H
 rw[ap e]at a;have d:=ah a;have W:(E !=0)=true:=by rw[ka];exact e
 have X:(E==0)=false:=by rw[dF];exact e
 clear a x A t j e
 go_in
 go_wp2_with fail
 refine ar f ?_;intro B i;have q:=aE p i;clear f
 go_wp2
 go_ret2
 exact sL.of d.o rfl q
def xQ(b:Nat):Array Value:=((List.range 7).map fun k=>Value.func (.func (sS k)) #[b] #[])
def Nw b k(a:k<7):(xQ b)[k]?=some (.func (.func (sS k)) #[b] #[]):=by simp[xQ,a]
def pR:Value:=.agg #[.string ⟨#[]⟩,.string ⟨#[]⟩,.slice none 0 0,.string ⟨#[]⟩,false,.slice none 0 0]
def lE(w:World)(a:Nat)(x:ai):Prop:=bN w a (.slice x.ao x.t.zx x.ac) x.t.zx/\dg w a (.slice x.no x.t.E x.nc) x.t.E
def rl(r:Option aB)(w:World)(e:Ending)(w':World):Prop:=
 (match r with
  |none=>e=.returned (.tuple #[pR,false])
  |some t=>∃x,x.t=t/\e=.returned (.tuple #[dV x,true])/\lE w' w x)/\aR w w'
def rl.no{r:Option aB}{w w':World}{e:Ending}(a:r=none)(c:e=.returned (.tuple #[pR,.bool false]))(b:Below w.heap.size w w'):rl r w e w':=by subst a;exact⟨c,b⟩
def rl.yes{r:Option aB}{t:aB}{w w':World}{e:Ending}(a:r=some t)(x:ai)(f:x.t=t)(c:e=.returned (.tuple #[dV x,.bool true]))(d:lE w' w.heap.size x)(b:Below w.heap.size w w'):rl r w e w':=by subst a;exact⟨⟨x,f,c,d⟩,b⟩
def Nx s w(j:s.length<=65536)(g:fD s):
 dB 42 #[s] w (rl (oL s) w):=by
 obtain⟨t,a⟩:=am (oL s);rw[<-a];rw[Nt]at a;have f:=ah a;clear a
 go_in
 go_wp2_with fail
 obtain⟨os,b⟩:∃os:List Obj,os=[.cells #[.string ⟨#[]⟩,.string ⟨#[]⟩,.slice none 0 0,.string ⟨#[]⟩,false,.slice none 0 0] 55,.cells (xO ⟨s,[],[],.slice none 0 0,[],false,.slice none 0 0⟩) 143,.cells (xQ (w+1)) 26]:=⟨_,rfl⟩;obtain⟨a,c⟩:=am (kh w os);have d:a=w.heap.size+3:=by rw[c,As,b];rfl
 have d:∀i,i<3->a.heap[w.heap.size+i]?=os[i]?:=fun i h=>by rw[c];exact Aq w os i (b▸h)
 have m:a.heap[w.heap.size]?=some (.cells #[.string ⟨#[]⟩,.string ⟨#[]⟩,.slice none 0 0,.string ⟨#[]⟩,.bool false,.slice none 0 0] 55 (0,0)):=(d 0 ad).Z (by rw[b];rfl);have E:bS a (w.heap.size+1) ⟨s,[],[],.slice none 0 0,[],false,.slice none 0 0⟩:=(d 1 ad).Z (by rw[b];rfl);have B:a.heap[w.heap.size+2]?=some (.cells (xQ (w.heap.size+1)) 26 (0,0)):=(d 2 ad).Z (by rw[b];rfl);have x:aR w a:=by rw[c];exact Ar _ _
 rw[b]at c;clear d b;have b:xP (w.heap.size+1) (w.heap.size+3) a 0 ⟨s,[],[],[],[],false,[]⟩ a:=
  ⟨⟨_,E,rfl,rfl,rfl,rfl,cW _ _ _ _,cW _ _ _ _,fun _=>⟨rfl,rfl,rfl⟩⟩,fun _=>⟨g,j⟩,fun _=>rfl,fun _=>rfl,fun _=>⟨rfl,rfl⟩,jk.refl _ _ _,ad,ad⟩
 go_loopw [26] (fun v wr=>∃(k:Nat) (p:PL),v=.int .i64 k/\k<=7/\xP (w+1) (w+3) a k p wr/\Hid (t=sR k p)) (fun v _=>7-(intOf v).toNat)
 case atStart=>exact⟨0,_,rfl,ad,by rw[c]at b;rw[c];exact b,f.o⟩
 case round=>
  obtain⟨k,p,rfl,W,h,q⟩:=hrel;clear f b;have j:=h.far;have b:=(j.J w.heap.size ad ad).Z m;have D:=(j.J (w.heap.size+2) ad ad).Z B;have V:=x.Z (j.O (C:=w.heap.size) ad ad ad);by_cases d:k<7
  ·have O:decide ((k:Int)<7)=true:=bT
   have f:=aL k;have f:(k:Int)<7:=ad;have g:=bj wr _ k _ _ _ D;rw[Nw _ k d]at g;have f:=Nv _ _ a k d p wr h;have a:=Nu k d;have l:=q.o;unfold Fk at f;generalize sS k=F at g f a;have⟨r,X⟩:=aC l (And.intro m (And.intro B x));clear l q m B x E b D c h j;go_wp2_with fail
   apply f.zz;rintro e d ⟨ok,rfl,z,A⟩;clear f g;cases ok with
   |false=>
    obtain⟨N,n⟩:=z rfl;have f:t=none:=by rw[r.o];exact N
    have g:=ah f;have a:=(n.J _ ad ad).Z X.out.1;have G:=bj d _ 0 _ _ _ a;have H:=bj d _ 1 _ _ _ a;have I:=bj d _ 2 _ _ _ a;have J:=bj d _ 3 _ _ _ a;have K:=bj d _ 4 _ _ _ a;have M:=bj d _ 5 _ _ _ a;have T:∀o,d.frozen? ⟨w.heap.size,o,none⟩=false:=fun o=>by simp[World.frozen?,a]
    have d:=X.out.2.2.Z (n.O ad ad ad);clear z A N f X n a;go_wp2_with fail
    refine cQ (by simp[results,go_sem,G,H,I,J,K,M,pR]) rfl (rl.no g.o rfl ?_);exact(((((d.setCell (ay _) _).setCell (ay _) _).setCell (ay _) _).setCell (ay _) _).setCell (ay _) _).setCell (ay _) _
   |true=>
    obtain⟨d,a,n⟩:=A rfl;have f:t=sR (k+1) d:=by rw[r.o];exact a
    have g:=ah f;have m:=X.out.1;clear z A a f
    go_wp2
    go_roundw
    case rel=>exact⟨_,d,aD,ad,n,g.o⟩
    case measure=>exact aM
  have O:decide ((k:Int)<7)=false:=bU;obtain rfl:k=7:=ad;have⟨y,a,Q,P,O,S,A,z,_⟩:=h.ex;have⟨g,ac,N⟩:=dR A;have⟨no,n,R⟩:=dR z;obtain⟨rest,name,label,av,key,text,nv⟩:=y;obtain⟨ab,aa,Z,d,Y,ae,f⟩:=p;simp only at Q P O S N R A z;subst Q;subst P;subst O;subst S;subst N;subst R;have l:t=some ⟨name,label,d,key,text,f⟩:=q.o;have⟨r,t⟩:=aC l (And.intro A z);have N:=a.c1;have O:=a.c2;have P:=a.c3;have Q:=a.c4;have R:=a.c5;have S:=a.c6;simp only at N O P Q R S;have G:=bj wr _ 0 _ _ _ b;have H:=bj wr _ 1 _ _ _ b;have I:=bj wr _ 2 _ _ _ b;have J:=bj wr _ 3 _ _ _ b;have K:=bj wr _ 4 _ _ _ b;have M:=bj wr _ 5 _ _ _ b;have T:∀o,wr.frozen? ⟨w.heap.size,o,none⟩=false:=fun o=>by simp[World.frozen?,b]
  clear h j b D a A z q l m E B x c;go_wp2_with fail
  refine cQ (v:=.tuple #[.agg (gT name label g d ac key text no f n),.bool true]) (by simp[results,go_sem,G,H,I,J,K,M]) rfl (rl.yes r.o ⟨_,g,ac,no,n⟩ rfl rfl ?_ (((((((V.setCell (ay _) _).setCell (ay _) _).setCell (ay _) _).setCell (ay _) _).setCell (ay _) _).setCell (ay _) _)));have h:∀(a:World) (o:Nat) (u:Value),a.grownBy (a.setCell ⟨w.heap.size,o,none⟩ u) (some w.heap.size):=fun a o u=>⟨rfl,rfl,rfl,by simp,fun k W b=>gq _ _ _ _ (fun e=>b (by rw[e]))⟩;have b:∀(a:World) (o:Nat) (u:Value),bN a (w.heap.size+3) (.slice g d.length ac) d/\dg a (w.heap.size+3) (.slice no f.length n) f->bN (a.setCell ⟨w.heap.size,o,none⟩ u) (w.heap.size+3) (.slice g d.length ac) d/\dg (a.setCell ⟨w.heap.size,o,none⟩ u) (w.heap.size+3) (.slice no f.length n) f:=fun a o u c=>
   ⟨cm c.1 (h a o u) (.inr (fun e=>by have:=(aY c.1 _ e).1;omega)),cm c.2 (h a o u) (.inr (fun e=>by have:=(aY c.2 _ e).1;omega))⟩
  have a:=b _ 5 (.slice no f n) (b _ 4 text (b _ 3 key (b _ 2 (.slice g d ac) (b _ 1 label (b wr 0 name t.o)))));exact⟨lB a.1 ad,lB a.2 ad⟩
end Go.Proofs.YtfeidcmojcijpaaGreatDoor
