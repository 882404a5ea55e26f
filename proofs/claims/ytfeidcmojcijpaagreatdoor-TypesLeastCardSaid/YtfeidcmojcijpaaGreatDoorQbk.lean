import Derived.Test.YtfeidcmojcijpaaGreatDoorQaf
set_option linter.all false
set_option maxRecDepth 100000
set_option maxHeartbeats 0
namespace Go.Proofs.YtfeidcmojcijpaaGreatDoor
open Go.RowKit Tryz
section
open PRegex
def dT(w:World)(n:ax)(a:World):Prop:=Below (w+1) (cT w #[n.op,n.sym,n.a,n.b] 105) a
def dT.cells{w a:World}{n:ax}(b:dT w n a):a.cell? ⟨w.heap.size,2,none⟩=some (.int .i64 n.a)/\a.cell? ⟨w.heap.size,3,none⟩=some (.int .i64 n.b):=by have:=(b.J _ ad).Z (aN w _);exact⟨ak 2 this,ak 3 this⟩
def dT.O{w a:World}{n:ax}(b:dT w n a):Below w.heap.size w a:=aP.Z (b.zz ad)
def dT.next{w a c:World}{n:ax}(b:dT w n a)(k:Below a.heap.size a c):dT w n c:=b.Z (k.zz (by have:=b.size;simpa using this))
def vM{i n}(a:eA i n=true):(n.op=3∨n.op=4->n.a.toNat<i/\0<=n.a/\n.b.toNat<i/\0<=n.b)/\(n.op=5->n.a.toNat<i/\0<=n.a):=by unfold eA cy at a;refine⟨fun e=> ?_,fun e=> ?_⟩;rw[ap ad,ap ad,au e]at a;simp only[cM,cf]at a;omega;rw[ap ad,ap ad,ap ad,au e]at a;simp only[cM,cf]at a;omega
def vN(a b:Nat):(a==(b:Int))=(a==b):=by rw[ft];simp only[nE];omega
def mD(b:Bool)(w:World)(e:Ending)(w':World):Prop:=e=.returned b/\aR w w'
def mF{w wy n b}{f:Nat}{args}(g:dT w n wy)(a:dB f args wy (mD b wy)):dB f args wy fun e w'=>∃v,b=v/\e=.returned v/\dT w n w':=
 a.zz fun e w' ⟨c,d⟩=>⟨b,rfl,c,g.next d⟩
def CA l o cap(q:d9 0 l=true):∀i w,i<l.length->dv w o cap l->dB 224 #[.slice o l cap,.int .i64 i] w (mD ((trN l i).null) w):=by
 intro i;induction i using Nat.strongRecOn with
 |_ i ih=>
 intro w B m;have I:(i:Int)<l:=ad;have⟨n,g⟩:=aT B;have f:=iA l 0 i n q g;rw[cH]at f;have d:=mX q g;have x:Hid (∀j:Int,j.toNat<i->0<=j->∀h,dT w n h->Calls prog 224 #[.slice o l.length cap,.int .i64 j] h fun e w'=>∃v,(trN l j.toNat).null=v/\e=.returned (.bool v)/\dT w n w'):=ah fun j C A h r=>by have:=ih _ C h ad (m.O r.O);rw[l8 A]at this;exact mF r this
 obtain⟨b,J,rfl,H,D,E,F,G⟩:=m.at g;obtain⟨u,sym,s,t⟩:=n;simp only at D E F G;have p:=nM f;unfold eP at d;simp only at d p;have a:=vM f;simp only at a;have c:dT w ⟨u,sym,s,t⟩ (cT w #[u,sym,s,t] 105):=aA _ _;have⟨y,z⟩:=c.cells;clear ih g m
 go_in
 clear f;rcases p with rfl|rfl|rfl|rfl|rfl|rfl
 all_goals
  simp at d a;go_wp2_with fail
  (repeat' (first
    |((refine(x.o _ ?_ ?_ _ c).zz ?_)<;>first|(rintro e w1 ⟨v,hv,rfl,c⟩;obtain⟨y,z⟩:=c.cells;cases v<;>go_wp2_with fail)|exact a.1|exact a.2|exact a.2.1|exact a.2.2.1|omega)))
  all_goals
   go_ret;exact⟨by(try rw[d]);simp[PT.null,vN, *],c.O⟩
def CB l o cap(q:d9 0 l=true):∀i w,i<l.length->dv w o cap l->dB 253 #[.slice o l cap,.int .i64 i] w (mD ((trN l i).zo) w):=by
 intro i;induction i using Nat.strongRecOn with
 |_ i ih=>
 intro w B m;have I:(i:Int)<l:=ad;have⟨n,g⟩:=aT B;have f:=iA l 0 i n q g;rw[cH]at f;have d:=mX q g;have x:Hid (∀j:Int,j.toNat<i->0<=j->∀h,dT w n h->Calls prog 253 #[.slice o l.length cap,.int .i64 j] h fun e w'=>∃v,(trN l j.toNat).zo=v/\e=.returned (.bool v)/\dT w n w'):=ah fun j C A h r=>by have:=ih _ C h ad (m.O r.O);rw[l8 A]at this;exact mF r this
 obtain⟨b,J,rfl,H,D,E,F,G⟩:=m.at g;obtain⟨u,sym,s,t⟩:=n;simp only at D E F G;have p:=nM f;unfold eP at d;simp only at d p;have a:=vM f;simp only at a;have c:dT w ⟨u,sym,s,t⟩ (cT w #[u,sym,s,t] 105):=aA _ _;have⟨y,z⟩:=c.cells;clear ih g m
 go_in
 clear f;rcases p with rfl|rfl|rfl|rfl|rfl|rfl
 all_goals
  simp at d a;go_wp2_with fail
  (repeat' (first
    |((refine(x.o _ ?_ ?_ _ c).zz ?_)<;>first|(rintro e w1 ⟨v,hv,rfl,c⟩;obtain⟨y,z⟩:=c.cells;cases v<;>go_wp2_with fail)|exact a.1|exact a.2|exact a.2.1|exact a.2.2.1|omega)))
  all_goals
   go_ret;exact⟨by(try rw[d]);simp[PT.zo,vN, *],c.O⟩
def Jk l o cap(r:d9 0 l=true) p:∀i w,i<l.length->dv w o cap l->dB 222 #[.slice o l cap,.int .i64 i,.int .i64 (p:Nat)] w (mD ((trN l i).zq p) w):=by
 intro i;induction i using Nat.strongRecOn with
 |_ i ih=>
 intro w F g;have M:(i:Int)<l:=ad;have⟨n,s⟩:=aT F;have q:=iA l 0 i n r s;rw[cH]at q;have m:=mX r s;have D:Hid (∀j:Int,j.toNat<i->0<=j->∀c,dT w n c->Calls prog 222 #[.slice o l.length cap,.int .i64 j,.int .i64 (p:Nat)] c fun e w'=>∃v,(trN l j.toNat).zq p=v/\e=.returned (.bool v)/\dT w n w'):=ah fun j x h c f=>by have:=ih _ x c ad (g.O f.O);rw[l8 h]at this;exact mF f this
 have C:Hid (∀j:Int,j.toNat<i->0<=j->∀c,dT w n c->Calls prog 253 #[.slice o l.length cap,.int .i64 j] c fun e w'=>∃v,(trN l j.toNat).zo=v/\e=.returned (.bool v)/\dT w n w'):=ah fun j x h c f=>by have:=CB l o cap r j.toNat c ad (g.O f.O);rw[l8 h]at this;exact mF f this
 have E:Hid (∀j:Int,j.toNat<i->0<=j->∀c,dT w n c->Calls prog 224 #[.slice o l.length cap,.int .i64 j] c fun e w'=>∃v,(trN l j.toNat).null=v/\e=.returned (.bool v)/\dT w n w'):=ah fun j x h c f=>by have:=CA l o cap r j.toNat c ad (g.O f.O);rw[l8 h]at this;exact mF f this
 obtain⟨b,N,rfl,K,G,H,I,J⟩:=g.at s;obtain⟨B,sym,z,A⟩:=n;simp only at G H I J;have y:=nM q;unfold eP at m;simp only at m y;have a:=vM q;simp only at a;have d:dT w ⟨B,sym,z,A⟩ (cT w #[B,sym,z,A] 105):=aA _ _;have⟨t,u⟩:=d.cells;clear ih s g
 go_in
 clear q;rcases y with rfl|rfl|rfl|rfl|rfl|rfl
 all_goals
  simp at m a;go_wp2_with fail
  (repeat' (first
    |((refine(D.o _ ?_ ?_ _ d).zz ?_)<;>first|(rintro e w1 ⟨v,hv,rfl,d⟩;obtain⟨t,u⟩:=d.cells;cases v<;>go_wp2_with fail)|exact a.1|exact a.2|exact a.2.1|exact a.2.2.1|omega)
    |((refine(C.o _ ?_ ?_ _ d).zz ?_)<;>first|(rintro e w1 ⟨v,hv,rfl,d⟩;obtain⟨t,u⟩:=d.cells;cases v<;>go_wp2_with fail)|exact a.1|exact a.2|exact a.2.1|exact a.2.2.1|omega)
    |((refine(E.o _ ?_ ?_ _ d).zz ?_)<;>first|(rintro e w1 ⟨v,hv,rfl,d⟩;obtain⟨t,u⟩:=d.cells;cases v<;>go_wp2_with fail)|exact a.1|exact a.2|omega|exact a.2.2.1|exact a.2.2.2)))
  all_goals
   go_ret;exact⟨by(try rw[m]);simp[PT.zq,vN, *],d.O⟩
def Jl l o cap(r:d9 0 l=true) p:∀i w,i<l.length->dv w o cap l->dB 225 #[.slice o l cap,.int .i64 i,.int .i64 (p:Nat)] w (mD ((trN l i).zp p) w):=by
 intro i;induction i using Nat.strongRecOn with
 |_ i ih=>
 intro w F g;have M:(i:Int)<l:=ad;have⟨n,s⟩:=aT F;have q:=iA l 0 i n r s;rw[cH]at q;have m:=mX r s;have D:Hid (∀j:Int,j.toNat<i->0<=j->∀c,dT w n c->Calls prog 225 #[.slice o l.length cap,.int .i64 j,.int .i64 (p:Nat)] c fun e w'=>∃v,(trN l j.toNat).zp p=v/\e=.returned (.bool v)/\dT w n w'):=ah fun j x h c f=>by have:=ih _ x c ad (g.O f.O);rw[l8 h]at this;exact mF f this
 have C:Hid (∀j:Int,j.toNat<i->0<=j->∀c,dT w n c->Calls prog 253 #[.slice o l.length cap,.int .i64 j] c fun e w'=>∃v,(trN l j.toNat).zo=v/\e=.returned (.bool v)/\dT w n w'):=ah fun j x h c f=>by have:=CB l o cap r j.toNat c ad (g.O f.O);rw[l8 h]at this;exact mF f this
 have E:Hid (∀j:Int,j.toNat<i->0<=j->∀c,dT w n c->Calls prog 224 #[.slice o l.length cap,.int .i64 j] c fun e w'=>∃v,(trN l j.toNat).null=v/\e=.returned (.bool v)/\dT w n w'):=ah fun j x h c f=>by have:=CA l o cap r j.toNat c ad (g.O f.O);rw[l8 h]at this;exact mF f this
 obtain⟨b,N,rfl,K,G,H,I,J⟩:=g.at s;obtain⟨B,sym,z,A⟩:=n;simp only at G H I J;have y:=nM q;unfold eP at m;simp only at m y;have a:=vM q;simp only at a;have d:dT w ⟨B,sym,z,A⟩ (cT w #[B,sym,z,A] 105):=aA _ _;have⟨t,u⟩:=d.cells;clear ih s g
 go_in
 clear q;rcases y with rfl|rfl|rfl|rfl|rfl|rfl
 all_goals
  simp at m a;go_wp2_with fail
  (repeat' (first
    |((refine(D.o _ ?_ ?_ _ d).zz ?_)<;>first|(rintro e w1 ⟨v,hv,rfl,d⟩;obtain⟨t,u⟩:=d.cells;cases v<;>go_wp2_with fail)|exact a.1|exact a.2|exact a.2.1|exact a.2.2.1|omega)
    |((refine(C.o _ ?_ ?_ _ d).zz ?_)<;>first|(rintro e w1 ⟨v,hv,rfl,d⟩;obtain⟨t,u⟩:=d.cells;cases v<;>go_wp2_with fail)|exact a.1|exact a.2|omega|exact a.2.2.1|exact a.2.2.2)
    |((refine(E.o _ ?_ ?_ _ d).zz ?_)<;>first|(rintro e w1 ⟨v,hv,rfl,d⟩;obtain⟨t,u⟩:=d.cells;cases v<;>go_wp2_with fail)|exact a.1|exact a.2|exact a.2.1|exact a.2.2.1|omega)))
  all_goals
   go_ret;exact⟨by(try rw[m]);simp[PT.zp,vN, *],d.O⟩
def TN l o cap(m:d9 0 l=true) p q:∀i w,i<l.length->dv w o cap l->dB 223 #[.slice o l cap,.int .i64 i,.int .i64 (p:Nat),.int .i64 (q:Nat)] w (mD ((trN l i).zr p q) w):=by
 intro i;induction i using Nat.strongRecOn with
 |_ i ih=>
 intro w H h;have O:(i:Int)<l:=ad;have⟨n,y⟩:=aT H;have x:=iA l 0 i n m y;rw[cH]at x;have t:=mX m y;have F:Hid (∀j:Int,j.toNat<i->0<=j->∀a,dT w n a->Calls prog 223 #[.slice o l.length cap,.int .i64 j,.int .i64 (p:Nat),.int .i64 (q:Nat)] a fun e w'=>∃v,(trN l j.toNat).zr p q=v/\e=.returned (.bool v)/\dT w n w'):=ah fun j u g a f=>by have:=ih _ u a ad (h.O f.O);rw[l8 g]at this;exact mF f this
 have E:Hid (∀j:Int,j.toNat<i->0<=j->∀a,dT w n a->Calls prog 253 #[.slice o l.length cap,.int .i64 j] a fun e w'=>∃v,(trN l j.toNat).zo=v/\e=.returned (.bool v)/\dT w n w'):=ah fun j u g a f=>by have:=CB l o cap m j.toNat a ad (h.O f.O);rw[l8 g]at this;exact mF f this
 have G:Hid (∀j:Int,j.toNat<i->0<=j->∀a,dT w n a->Calls prog 225 #[.slice o l.length cap,.int .i64 j,.int .i64 (p:Nat)] a fun e w'=>∃v,(trN l j.toNat).zp p=v/\e=.returned (.bool v)/\dT w n w'):=ah fun j u g a f=>by have:=Jl l o cap m p j.toNat a ad (h.O f.O);rw[l8 g]at this;exact mF f this
 have D:Hid (∀j:Int,j.toNat<i->0<=j->∀a,dT w n a->Calls prog 222 #[.slice o l.length cap,.int .i64 j,.int .i64 (q:Nat)] a fun e w'=>∃v,(trN l j.toNat).zq q=v/\e=.returned (.bool v)/\dT w n w'):=ah fun j u g a f=>by have:=Jk l o cap m q j.toNat a ad (h.O f.O);rw[l8 g]at this;exact mF f this
 obtain⟨b,P,rfl,N,I,J,K,M⟩:=h.at y;obtain⟨C,sym,A,B⟩:=n;simp only at I J K M;have z:=nM x;unfold eP at t;simp only at t z;have c:=vM x;simp only at c;have d:dT w ⟨C,sym,A,B⟩ (cT w #[C,sym,A,B] 105):=aA _ _;have⟨r,s⟩:=d.cells;clear ih y h
 go_in
 clear x;rcases z with rfl|rfl|rfl|rfl|rfl|rfl
 all_goals
  simp at t c;go_wp2_with fail
  (repeat' (first
    |((refine(F.o _ ?_ ?_ _ d).zz ?_)<;>first|(rintro e w1 ⟨v,hv,rfl,d⟩;obtain⟨r,s⟩:=d.cells;cases v<;>go_wp2_with fail)|exact c.1|exact c.2|exact c.2.1|exact c.2.2.1|omega)
    |((refine(E.o _ ?_ ?_ _ d).zz ?_)<;>first|(rintro e w1 ⟨v,hv,rfl,d⟩;obtain⟨r,s⟩:=d.cells;cases v<;>go_wp2_with fail)|exact c.1|exact c.2|exact c.2.1|exact c.2.2.1|omega)
    |((refine(G.o _ ?_ ?_ _ d).zz ?_)<;>first|(rintro e w1 ⟨v,hv,rfl,d⟩;obtain⟨r,s⟩:=d.cells;cases v<;>go_wp2_with fail)|exact c.1|exact c.2|omega|exact c.2.2.1|exact c.2.2.2)
    |((refine(D.o _ ?_ ?_ _ d).zz ?_)<;>first|(rintro e w1 ⟨v,hv,rfl,d⟩;obtain⟨r,s⟩:=d.cells;cases v<;>go_wp2_with fail)|exact c.1|exact c.2|exact c.2.1|exact c.2.2.1|omega)))
  all_goals
   go_ret;exact⟨by(try rw[t]);simp[PT.zr,vN, *],d.O⟩
end
end Go.Proofs.YtfeidcmojcijpaaGreatDoor
