import Derived.Test.YtfeidcmojcijpaaGreatDoorQay
set_option linter.all false
set_option maxRecDepth 100000
set_option maxHeartbeats 0
namespace Go.Proofs.YtfeidcmojcijpaaGreatDoor
open Go.RowKit Tryz
structure tn{α:Type}(lt:α->α->Bool)(val:α->Value)(Ok:α->World->Prop)(Q:Nat)(ty iT:TypeId)(fL fN fS fP fO:FuncId)(A:Nat->List α->World->Prop):Prop where
 ahead:p9 lt
 self:∀a,lt a a=false
 mL:∀v w,(method 498 ty v "Less").run prog w=.ok (fL,v) w
 mN:∀v w,(method 498 ty v "Len").run prog w=.ok (fN,v) w
 mS:∀v w,(method 498 ty v "Swap").run prog w=.ok (fS,v) w
 mP:∀v w,(method 498 ty v "Push").run prog w=.ok (fP,v) w
 mO:∀v w,(method 498 ty v "Pop").run prog w=.ok (fO,v) w
 cL:∀args w,(callFunc fL args).run prog w=.ok (.enter fL args) w
 cN:∀args w,(callFunc fN args).run prog w=.ok (.enter fN args) w
 cS:∀args w,(callFunc fS args).run prog w=.ok (.enter fS args) w
 cP:∀args w,(callFunc fP args).run prog w=.ok (.enter fP args) w
 cO:∀args w,(callFunc fO args).run prog w=.ok (.enter fO args) w
 O:∀{k L W W'},A k L W->Below W.heap.size W W'->A k L W'/\cF Q W W'
 len:∀{k L W},A k L W->Calls prog fN #[.pointer (some ⟨Q,0,none⟩)] W fun e w'=>e=.returned (.int .i64 (L.length:Nat))/\w'=W
 less:∀{k L W i j a b},A k L W->L[i]?=some a->L[j]?=some b->L.length<=1048577->Calls prog fL #[.pointer (some ⟨Q,0,none⟩),.int .i64 (i:Nat),.int .i64 (j:Nat)] W fun e w'=>e=.returned (.bool (lt a b))/\Below W.heap.size W w'
 swap:∀{k L W i j a b},A k L W->L[i]?=some a->L[j]?=some b->L.length<=1048577->k<=1048576->Calls prog fS #[.pointer (some ⟨Q,0,none⟩),.int .i64 (i:Nat),.int .i64 (j:Nat)] W fun e w'=>e=.returned (.tuple #[])/\A (k+1) (swapL L i j) w'/\cF Q W w'
 push:∀{k L W x},A k L W->L.length<=1048576->Ok x W->Calls prog fP #[.pointer (some ⟨Q,0,none⟩),.iface iT (val x)] W fun e w'=>e=.returned (.tuple #[])/\A k (L++[x]) w'/\cF Q W w'
 pop:∀{k L W a},A k (L++[a]) W->L.length<=1048577->Calls prog fO #[.pointer (some ⟨Q,0,none⟩)] W fun e w'=>e=.returned (.iface iT (val a))/\A k L w'/\cF Q W w'
section
variable{α:Type} {lt:α->α->Bool} {val:α->Value} {Ok:α->World->Prop} {Q:Nat} {ty iT:TypeId} {fL fN fS fP fO:FuncId} {A:Nat->List α->World->Prop}
def BG(A:Nat->List α->World->Prop)(lt:α->α->Bool)(Q:Nat)(W:World)(b:Nat)(L:List α)(c:Value)(wr:World):Prop:=
 ∃k j a,c=.int .i64 (j:Nat)/\A k a wr/\rJ lt a j/\j<a.length/\k+j<=b/\a.Perm L/\cF Q W wr
def tp(A:Nat->List α->World->Prop)(lt:α->α->Bool)(Q:Nat)(W:World)(L:List α)(e:Ending)(w':World):Prop:=
 e=.returned (.tuple #[])/\(∃k a,A k a w'/\gx lt a a.length/\a.Perm L)/\cF Q W w'
def Rj(c:tn lt val Ok Q ty iT fL fN fS fP fO A)(W:World)(k j:Nat)(L:List α)(e:A k L W)(d:rJ lt L j)(g:j<L.length)(f:L.length<=1048577)(l:k+j<=1048576):
 Calls prog 215 #[.iface ty (.pointer (some ⟨Q,0,none⟩)),.int .i64 (j:Nat)] W (tp A lt Q W L):=by
 have f:Hid (BG A lt Q W 1048576 L (.int .i64 (j:Nat)) W):=ah ⟨k,j,L,rfl,e,d,g,l,zW _,(c.O e (aA _ W)).2⟩;clear e d g l;go_enter func215,ntmps215
 go_wp2
 go_loopw [1] (fun e wr=>BG A lt Q W 1048576 L e wr) (fun e _=>(intOf e).toNat)
 case atStart=>exact f.out
 case round=>
 clear f;obtain⟨k,j,n,rfl,f,d,g,l,e,h⟩:=hrel;have x:=e.length_eq;by_cases l:j=0
 ·subst l
  have m:Hid (tp A lt Q W L (.returned (.tuple #[])) wr):=ah ⟨rfl,⟨_,_,f,QT d,e⟩,h⟩;clear f d e h
  go_wp2
  go_end0
  exact m.o
 ·obtain⟨i,u⟩:=am ((j-1)/2)
  have l:i<j:=ad;have l:((j:Int)-1).tdiv 2=(i:Nat):=by rw[Dp ad];omega
  obtain⟨a,p⟩:=aT g;obtain⟨b,q⟩:=df n i;have v:=c.less f p q ad;have d0:((i:Int)==(j:Int))=false:=aO;obtain⟨r,s,t,w,o,g,l,n⟩:=rx v f d h e p q u;clear v f d h e p q u x;have p:=c.mL (.pointer (some ⟨Q,0,none⟩)) wr;have d:=c.cL;go_wp2_with fail
  refine ar r.o ?_;intro h e;have f:=(c.O s.o e).1;have d:=w.o.Z (c.O s.o e).2;clear p r;cases e:lt a b with
  |false=>
   have m:Hid (tp A lt Q W L (.returned (.tuple #[])) h):=ah ⟨rfl,⟨_,_,f,QU t.o g.o (by rw[<-n.o];exact l.o) e,o.o⟩,d⟩;clear f d e
   go_wp2
   go_end0
   exact m.o
  |true=>
   have p:=c.mS (.pointer (some ⟨Q,0,none⟩)) h;have h:=c.cS;have m:=c.swap f l.o g.o (aQ o.o.length_eq) ad;have h:=QV c.ahead t.o ad g.o (by rw[<-n.o];exact l.o) e;rw[<-n.o]at h;obtain⟨l,c,g⟩:=bm h m d;clear f d e m h;go_wp2_with fail
   refine ar c.o ?_;rintro h ⟨e,d⟩;have f:Hid (BG A lt Q W 1048576 L (.int .i64 (i:Nat)) h):=ah ⟨k+1,i,_,rfl,e,l.o,by rw[oT];omega,ad,(tk _ _ _).Z o.o,g.o.Z d⟩;clear e d p c
   go_wp2
   go_roundw
   case rel=>exact f.out
   case measure=>exact aM
def vk(A:Nat->List α->World->Prop)(lt:α->α->Bool)(Q:Nat)(W:World)(n:Nat)(L:List α)(x:α)(b:Value)(wr:World):Prop:=
 ∃k i a,b=.int .i64 (i:Nat)/\A k a wr/\qb lt a n i/\a.length=n+1/\a[n]?=some x/\k<=i+1/\i<=n/\a.Perm L/\cF Q W wr
def vl(A:Nat->List α->World->Prop)(lt:α->α->Bool)(Q:Nat)(W:World)(n:Nat)(L:List α)(x:α)(e:Ending)(w':World):Prop:=
 (∃q:Bool,e=.returned (.bool q))/\(∃k a,A k a w'/\gx lt a n/\a.length=n+1/\a[n]?=some x/\a.Perm L/\k<=1048577)/\cF Q W w'
def Rk(b:tn lt val Ok Q ty iT fL fN fS fP fO A)(W:World)(k n:Nat)(L:List α)(x:α)(d:A k L W)(h:qb lt L n 0)(f:L.length=n+1)(c:L[n]?=some x)(g:n<=1048575)(e:k<=1):
 Calls prog 216 #[.iface ty (.pointer (some ⟨Q,0,none⟩)),.int .i64 0,.int .i64 (n:Nat)] W (vl A lt Q W n L x):=by
 have g:Hid (vk A lt Q W n L x (.int .i64 0) W):=ah ⟨k,0,L,rfl,d,h,f,c,e,aH _,zW _,(b.O d (aA _ W)).2⟩;clear d h e f c;go_enter func216,ntmps216
 go_wp2
 go_loopw [7] (fun d wr=>vk A lt Q W n L x d wr) (fun d _=>n-(intOf d).toNat)
 case atStart=>exact g.out
 case round=>
 clear g;obtain⟨k,i,m,rfl,I,P,T,c,e,d,X,S⟩:=hrel;obtain⟨d,R⟩:∃j,j=2*i+1:=⟨_,rfl⟩;have e:2*(i:Int)+1=(d:Nat):=ad;obtain⟨C,H,F,D⟩:=dE P c X T;have E:Hid (m.length<=1048576):=ah ad;by_cases e:n<=d;have B:Hid (∀q,vl A lt Q W n L x (.returned (.bool q)) wr):=fun q=>⟨⟨q,rfl⟩,⟨_,_,I,QY P ad,T,c,X,ad⟩,S⟩;have e:=aL i;have e:i<=1048576:=ad;clear I P T c X S R
 go_wp2
 go_ret;exact B.o _
 ·obtain⟨a,ae⟩:=df m i
  obtain⟨ab,Z⟩:=df m d;obtain⟨o,af⟩:∃j,j=2*i+2:=⟨_,rfl⟩;have e:(d:Int)+1=(o:Nat):=ad;obtain⟨e,f,J,av⟩:=dE ae Z I S;have g:i<d:=ad;have g:i<o:=ad;by_cases g:o<n
  ·obtain⟨s,g⟩:=df m o
   have p:=ah g;have l:=b.less I g Z ad;have t:=b.mL (.pointer (some ⟨Q,0,none⟩)) wr;have r:=b.cL;have h:=ah l;have a1:d<n:=ad;obtain⟨al,an⟩:=aC R af;clear I P T c X S R af l g Z ae;go_wp2_with fail
   refine ar h.o ?_;intro a0 g;have G:=ah (b.O J.o g).1;have ao:=ah (av.o.Z (b.O J.o g).2);clear t h r;cases aa:lt s ab with
   |true=>
    have r:Hid (qc lt m n i o):=ah (by have:=p.o;have:=f.o;have:=al.o;have:=an.o;subst d;subst o;exact Q1 b.ahead b.self ad p.o f.o aa);clear aa;have u:=b.mL (.pointer (some ⟨Q,0,none⟩)) a0;have g:=b.cL;have g:=b.less G.o p.o e.o (aQ E.o);have h:=ah g;clear g;go_wp2_with fail
    refine ar h.o ?_;intro z t;have l:=(b.O G.o t).1;have g:=ao.o.Z (b.O G.o t).2;clear u h;cases h:lt s a with
    |false=>
     have B:Hid (∀q,vl A lt Q W n L x (.returned (.bool q)) z):=fun q=>⟨⟨q,rfl⟩,⟨_,_,l,BD b.ahead C.o r.o p.o e.o h,D.o,H.o,F.o,ad⟩,g⟩;clear l g h
     go_wp2
     go_ret;exact B.o _
    |true=>
     have V:=b.mS (.pointer (some ⟨Q,0,none⟩)) z;have aw:=b.cS;have y:=b.swap l e.o p.o (aQ E.o) ad;have w:=BE b.ahead C.o r.o p.o e.o h;have c:(swapL m i o)[n]?=some x:=by rw[rI e.o p.o,ap ad,ap ad];exact H.o
     obtain⟨N,M,s,K⟩:=dE c w y g;clear l g h y w c;go_wp2_with fail
     refine ar s.o ?_;rintro Y ⟨v,u⟩;have O:Hid (vk A lt Q W n L x (.int .i64 (o:Nat)) Y):=ah ⟨k+1,o,_,rfl,v,M.o,by rw[oT];exact D.o,N.o,ad,ad,(tk _ _ _).Z F.o,K.o.Z u⟩;clear v u V s
     go_wp2
     go_roundw
     case rel=>exact O.out
     case measure=>exact aM
   |false=>
    have r:Hid (qc lt m n i d):=ah (by have:=p.o;have:=f.o;have:=al.o;have:=an.o;subst d;subst o;exact Q0 b.self ad p.o f.o aa);clear aa;have ag:=b.mL (.pointer (some ⟨Q,0,none⟩)) a0;have a2:=b.cL;have p:=b.less G.o f.o e.o (aQ E.o);have o:=ah p;clear p;go_wp2_with fail
    refine ar o.o ?_;intro z t;have l:=(b.O G.o t).1;have g:=ao.o.Z (b.O G.o t).2;clear ag o;cases h:lt ab a with
    |false=>
     have B:Hid (∀q,vl A lt Q W n L x (.returned (.bool q)) z):=fun q=>⟨⟨q,rfl⟩,⟨_,_,l,BD b.ahead C.o r.o f.o e.o h,D.o,H.o,F.o,ad⟩,g⟩;clear l g h
     go_wp2
     go_ret;exact B.o _
    |true=>
     have V:=b.mS (.pointer (some ⟨Q,0,none⟩)) z;have aw:=b.cS;have y:=b.swap l e.o f.o (aQ E.o) ad;have w:=BE b.ahead C.o r.o f.o e.o h;have c:(swapL m i d)[n]?=some x:=by rw[rI e.o f.o,ap ad,ap ad];exact H.o
     obtain⟨N,M,s,K⟩:=dE c w y g;clear l g h y w c;go_wp2_with fail
     refine ar s.o ?_;rintro Y ⟨v,u⟩;have O:Hid (vk A lt Q W n L x (.int .i64 (d:Nat)) Y):=ah ⟨k+1,d,_,rfl,v,M.o,by rw[oT];exact D.o,N.o,ad,ad,(tk _ _ _).Z F.o,K.o.Z u⟩;clear v u V s
     go_wp2
     go_roundw
     case rel=>exact O.out
     case measure=>exact aM
  ·have r:Hid (qc lt m n i d):=ah (by subst R;exact QZ b.self ad ad)
   have a1:d<n:=ad;clear I P T c X S R af Z ae;have ag:=b.mL (.pointer (some ⟨Q,0,none⟩)) wr;have a2:=b.cL;have p:=b.less J.o f.o e.o (aQ E.o);have o:=ah p;clear p;go_wp2_with fail
   refine ar o.o ?_;intro z t;have l:=(b.O J.o t).1;have g:=av.o.Z (b.O J.o t).2;clear ag o;cases h:lt ab a with
   |false=>
    have B:Hid (∀q,vl A lt Q W n L x (.returned (.bool q)) z):=fun q=>⟨⟨q,rfl⟩,⟨_,_,l,BD b.ahead C.o r.o f.o e.o h,D.o,H.o,F.o,ad⟩,g⟩;clear l g h
    go_wp2
    go_ret;exact B.o _
   |true=>
    have V:=b.mS (.pointer (some ⟨Q,0,none⟩)) z;have aw:=b.cS;have y:=b.swap l e.o f.o (aQ E.o) ad;have w:=BE b.ahead C.o r.o f.o e.o h;have c:(swapL m i d)[n]?=some x:=by rw[rI e.o f.o,ap ad,ap ad];exact H.o
    obtain⟨N,M,s,K⟩:=dE c w y g;clear l g h y w c;go_wp2_with fail
    refine ar s.o ?_;rintro Y ⟨v,u⟩;have O:Hid (vk A lt Q W n L x (.int .i64 (d:Nat)) Y):=ah ⟨k+1,d,_,rfl,v,M.o,by rw[oT];exact D.o,N.o,ad,ad,(tk _ _ _).Z F.o,K.o.Z u⟩;clear v u V s
    go_wp2
    go_roundw
    case rel=>exact O.out
    case measure=>exact aM
def GN(a:tn lt val Ok Q ty iT fL fN fS fP fO A)(W:World)(L:List α)(x:α)(z:Ok x W)(g:A 0 L W)(h:gx lt L L.length)(y:L.length<=1048575):
 Calls prog 170 #[.iface ty (.pointer (some ⟨Q,0,none⟩)),.iface iT (val x)] W (tp A lt Q W (L++[x])):=by
 have m:=a.push g ad z;have v:=a.mP (.pointer (some ⟨Q,0,none⟩)) W;have t:=a.cP;obtain⟨f,r⟩:=aC m h;clear m g h;go_enter func170,ntmps170
 go_wp2_with fail
 refine ar f.o ?_;rintro w1 ⟨d,i⟩;have c:=a.len d;rw[show((L++[x]).length:Nat)=L.length+1 by simp]at c;have p:=Rj a w1 0 L.length _ d (QS r.o) aj aO ad;have w:=a.mN (.pointer (some ⟨Q,0,none⟩)) w1;have u:=a.cN;obtain⟨e,b,s⟩:=bm c p i;clear c p d i v t f;go_wp2_with fail
 refine ar e.o ?_;rintro D rfl;obtain⟨n,l⟩:=am L.length;rw[<-l]at b y⊢;clear l e w u;have C:((n+1:Nat):Int)-1=(n:Nat):=ad;go_wp2_with fail
 refine ar b.o ?_;rintro B ⟨o,j⟩;have q:Hid (tp A lt Q W (L++[x]) (.returned (.tuple #[])) B):=ah ⟨rfl,o,s.o.Z j⟩;clear o j b
 go_wp2
 go_end0
 exact q.o
def GO(A:Nat->List α->World->Prop)(lt:α->α->Bool)(val:α->Value)(iT:TypeId)(Q:Nat)(W:World)(L:List α)(e:Ending)(w':World):Prop:=
 ∃x:α,e=.returned (.iface iT (val x))/\(∀y∈L,lt y x=false)/\(∃k a,A k a w'/\gx lt a a.length/\(x::a).Perm L)/\cF Q W w'
def GP(c:tn lt val Ok Q ty iT fL fN fS fP fO A)(W:World)(n:Nat)(L:List α)(g:A 0 L W)(h:gx lt L L.length)(d:L.length=n+1)(E:n<=1048575):
 Calls prog 172 #[.iface ty (.pointer (some ⟨Q,0,none⟩))] W (GO A lt val iT Q W L):=by
 obtain⟨x,f⟩:=df L 0;obtain⟨z,j⟩:=df L n;have p:∀y∈L,lt y x=false:=fun y l=>by obtain⟨k,i⟩:=mU l;exact QW c.ahead h c.self k y x (aF.1 i).1 (ay _) i f
 have i:=c.len g;rw[d]at i;have r:=c.swap g f j ad ad;have o:qb lt (swapL L 0 n) n 0:=QX (by rw[<-d];exact h) ad;have t:(swapL L 0 n)[n]?=some x:=by rw[rI f j,au rfl]
 have s:(swapL L 0 n).length=n+1:=by rw[oT];exact d
 have C:=c.mN (.pointer (some ⟨Q,0,none⟩)) W;have D:=c.mS (.pointer (some ⟨Q,0,none⟩)) W;have l:=c.cN;have l:=c.cS;have l:=c.cO;obtain⟨l,m,u,B,w,v⟩:=iL i r o t s p;have F:((n+1:Nat):Int)-1=(n:Nat):=ad;clear i r o t s p f j g h d;go_enter func172,ntmps172
 go_wp2_with fail
 refine ar l.o ?_;intro w1 d;rw[d];clear l C d w1;go_wp2_with fail
 refine ar m.o ?_;rintro h ⟨g,f⟩;have d:=Rk c h 1 n _ x g u.o w.o B.o E ad;obtain⟨Hd,r⟩:=aC d f;clear d g f D m;go_wp2_with fail
 refine Hd.o.zz ?_;rintro e o ⟨⟨q,rfl⟩,⟨p,h,m,i,f,g,l,d⟩,j⟩;obtain⟨d,rfl⟩:∃d,h=d++[x]:=by
  rcases zA h with rfl|⟨d,y,rfl⟩
  simp at f;simp only[zB]at f g⊢;simp at f;rw[gp ad]at g;simp[f]at g;exact⟨d,by rw[g]⟩
 have t:d.length=n:=by simpa using f
 have h:=c.pop m ad;have u:=c.mO (.pointer (some ⟨Q,0,none⟩)) o;have o:Hid (gx lt d d.length):=ah (by intro k a b s w c p;exact i k a b s ad (by rw[eC w];exact c) (by rw[eC ad];exact p))
 have p:Hid ((x::d).Perm L):=ah (((List.perm_append_singleton x d).zy.Z l).Z (tk _ _ _));obtain⟨c,s⟩:=aC h (r.o.Z j);clear h m i f g l j t Hd;go_wp2_with fail
 refine ar c.o ?_;rintro h ⟨f,d⟩;have g:Hid (GO A lt val iT Q W L (.returned (.iface iT (val x))) h):=ah ⟨x,rfl,v.o,⟨_,_,f,o.o,p.o⟩,s.o.Z d⟩;clear f d c u
 go_wp2
 go_ret;exact g.o
end
def PQ(Q a b d k:Nat)(L:List It)(W:World):Prop:=∃c e,eL W Q a b c e k d L
def GQ(Q l m o:Nat):tn gh (fun x=>.agg #[.int .i64 (x.1:Nat),.int .u64 (x.2:Nat)]) (fun _ _=>True) Q 348 341
 315 314 318 317 316 (PQ Q l m o)where
 ahead:=Q4
 self:=Q5
 mL _ _:=az
 mN _ _:=az
 mS _ _:=az
 mP _ _:=az
 mO _ _:=az
 cL _ _:=rfl
 cN _ _:=rfl
 cS _ _:=rfl
 cP _ _:=rfl
 cO _ _:=rfl
 O:=fun⟨c,d,a⟩ j=>⟨⟨c,d,a.O j⟩,im a j⟩
 len:=fun⟨_,_,a⟩=>Q9 _ _ _ _ _ _ _ _ _ a
 less:=fun⟨_,_,a⟩ g h b=>Re _ _ _ _ _ _ _ _ _ _ _ _ _ a g h b
 swap:=fun⟨_,_,a⟩ g h b n=>Rg _ _ _ _ _ _ _ _ _ _ _ _ _ a g h b n
 push:=fun⟨_,d,a⟩ b _=>(Ra _ _ _ _ _ _ _ _ _ _ a b).zz fun _ _ ⟨f,⟨c,e⟩,i⟩=>⟨f,⟨c,d,e⟩,i⟩
 pop:=fun⟨_,d,a⟩ b=>(Ri _ _ _ _ _ _ _ _ _ _ a b).zz fun _ _ ⟨f,⟨c,e⟩,i⟩=>⟨f,⟨c,d,e⟩,i⟩
def GR(W:World)(Q b c f:Nat)(L:List It)(e:Ending)(w':World):Prop:=
 e=.returned (.tuple #[])/\(∃d g k a,eL w' Q b c d g k f a/\gx gh a a.length/\a.Perm L)/\cF Q W w'
def Rl(W:World)(Q c d f:Nat)(a b:Value)(L:List It)(x:It)(e:eL W Q c d a b 0 f L)(i:gx gh L L.length)(l:L.length<=1048575):
 Calls prog 170 #[.iface 348 (.pointer (some ⟨Q,0,none⟩)),.iface 341 (.agg #[.int .i64 (x.1:Nat),.int .u64 (x.2:Nat)])] W (GR W Q c d f (L++[x])):=
 (GN (GQ Q c d f) W L x trivial ⟨a,b,e⟩ i l).zz fun _ _ ⟨h,⟨k,g,⟨a,b,e⟩,j⟩,m⟩=>⟨h,⟨a,b,k,g,e,j⟩,m⟩
def Rm(W:World)(Q b c f:Nat)(L:List It)(e:Ending)(w':World):Prop:=
 ∃x:It,e=.returned (.iface 341 (.agg #[.int .i64 (x.1:Nat),.int .u64 (x.2:Nat)]))/\(∀y∈L,gh y x=false)/\(∃d g k a,eL w' Q b c d g k f a/\gx gh a a.length/\(x::a).Perm L)/\cF Q W w'
def Rn(W:World)(Q c d f n:Nat)(a b:Value)(L:List It)(e:eL W Q c d a b 0 f L)(i:gx gh L L.length)(j:L.length=n+1)(m:n<=1048575):
 Calls prog 172 #[.iface 348 (.pointer (some ⟨Q,0,none⟩))] W (Rm W Q c d f L):=
 (GP (GQ Q c d f) W n L ⟨a,b,e⟩ i j m).zz fun _ _ ⟨x,h,l,⟨k,g,⟨a,b,e⟩,o⟩,p⟩=>⟨x,h,l,⟨a,b,k,g,e,o⟩,p⟩
def qd fn first cap w:(Instr.makeFunc fn first cap).run prog w=.ok (.func fn first cap) w:=rfl
def Ro W:de 210 #[.func (.func 211) #[] #[]] W (.tuple #[.pointer (some ⟨W+1,0,none⟩),.int .i64 0]) fun w'=>eL w' (W+1) (W+2) W () () 0 0 []/\aR W w':=by
 obtain⟨b,a⟩:=am ((W.alloc (.cells #[.func (.func 211) #[] #[]] 302)).alloc (.cells #[.slice none 0 0,.slice none 0 0,tm W,.int .u64 (0:Nat)] 347));have c:aR W b:=by rw[a];exact aP.alloc aj _
 have d:b.heap[W.heap.size]?=some (.cells #[.func (.func 211) #[] #[]] 302):=by rw[a];exact(br _ _ _ aj).Z (aN W _)
 have e:b.heap[W.heap.size+1]?=some (.cells #[.slice none 0 0,.slice none 0 0,tm W.heap.size,.int .u64 ((0:Nat):Int)] 347):=by rw[a];have:=aN (cT W #[.func (.func 211) #[] #[]] 302) (.cells #[.slice none 0 0,.slice none 0 0,tm W,.int .u64 (0:Nat)] 347);rwa[bP]at this
 have j:b=W.heap.size+2:=by rw[a];simp
 have h:Hid (eL b (W.heap.size+1) (W.heap.size+2) W.heap.size (.slice none 0 0) (.slice none 0 0) 0 0 []/\Below W.heap.size W b):=
  ah ⟨⟨e,cW _ _ _ _,⟨[],cW _ _ _ _⟩,(fun g i=>by cases i),ad,ad,d,ad,ad⟩,c⟩
 have l:=qd;have m:∀w,(binOp BinOp.eql 302 (.func (.func 211) #[] #[]) .nilFunc).run prog w=.ok false w:=fun _=>rfl;unfold tm at a;clear c d e j
 go_in
 go_wp2_with(first|(rw[<-a];clear a)|fail)
 go_ret2
 have f:=h.o;rw[a]at f;exact⟨rfl,f⟩
def Rp a b c w:CallsD prog 245 #[a,b,c] .returning w fun e g w'=>e=.returned (.tuple #[])/\g=.returning/\w'=w:=by
 refine DB func245 rfl fun d cs f=> ?_;apply wpS_seq;apply wpS_region;simp[wpOpsS,go_sem,recoverD,f,Exit.thenS];apply wpS_cond (t:=false) (by simp[Act.eval,Array.replicate]);simp only[iW,iy];refine wpS_of_wp (wp_skip ?_);cases d
 simp_all[bodyPostS,results,results245]
def Rq a b c d e w:CallsD prog 247 #[a,b,c,d,e] .returning w fun e h w'=>e=.returned (.tuple #[])/\h=.returning/\w'=w:=by
 refine DB func247 rfl fun f cs g=> ?_;apply wpS_seq;apply wpS_region;simp[wpOpsS,go_sem,recoverD,g,Exit.thenS];apply wpS_cond (t:=false) (by simp[Act.eval,Array.replicate]);simp only[iW,iy];refine wpS_of_wp (wp_skip ?_);cases f
 simp_all[bodyPostS,results,results247]
def SQ.apart{r t g:TypeId}{u n:Nat}{av h:Value}{xs:List Value}{Q e f:Nat}{W:World}{c d:Value}{k s b:Nat}(i:QG r t g u av h W Q e f c d k s n xs)(q:SQ Q W b):c.ownBlock≠some b/\d.ownBlock≠some b/\b≠Q/\b<W.heap.size:=by
 obtain⟨⟨x,z,v,y,w,j,l,m⟩,o,p⟩:=q;have a:=i.box;rw[j]at a;injection a with a
 injection a with a
 simp at a;obtain⟨rfl,rfl,_,_⟩:=a;exact⟨l,m,o,p⟩
def QG.sq{o q f:TypeId}{r n:Nat}{av g:Value}{xs:List Value}{Q d e:Nat}{W:World}{a c:Value}{k p b:Nat}(h:QG o q f r av g W Q d e a c k p n xs)(i:a.ownBlock≠some b)(j:c.ownBlock≠some b)(l:b≠Q)(m:b<W.heap.size):SQ Q W b:=
 ⟨⟨_,_,_,_,_,h.box,i,j⟩,l,m⟩
def QG.sq_new{m q g:TypeId}{s n:Nat}{av h:Value}{xs:List Value}{Q d f:Nat}{W c:World}{o r:Value}{k p b:Nat}(a:QG m q g s av h W Q d f o r k p n xs)(j:Below W.heap.size W c)(t:W.heap.size<=b)(i:b<c.heap.size):SQ Q c b:=
 (a.O j).sq (fun e=>by have:=(aV a.zt e).2;omega) (fun e=>by obtain⟨ys,l⟩:=a.zk;have:=(aV l e).2;omega) (fun e=>by have:=aS a.box;omega) i
def QG.sq_low{l p f:TypeId}{r n:Nat}{av g:Value}{xs:List Value}{Q c d:Nat}{W:World}{m q:Value}{k o b:Nat}(a:QG l p f r av g W Q c d m q k o n xs)(s:b<c)(h:b≠Q)(i:b<W.heap.size):SQ Q W b:=
 a.sq (fun e=>by have:=(aV a.zt e).1;omega) (fun e=>by obtain⟨ys,j⟩:=a.zk;have:=(aV j e).1;omega) h i
def QG.far{j p h:TypeId}{r n:Nat}{av i:Value}{xs:List Value}{Q f c:Nat}{W:World}{l q:Value}{k m b o:Nat}{v:Value}(a:QG j p h r av i W Q f c l q k m n xs)(x:SQ Q W b)(w:c≠b):QG j p h r av i (W.setCell ⟨b,o,none⟩ v) Q f c l q k m n xs:=by obtain⟨s,t,u,z⟩:=x.apart a;exact⟨(aU _ _ _ _ _ (fun e=>u e.zy)).Z a.box,aX a.zt (fun g d=>aU _ _ _ _ _ (fun e=>s (e▸d))),by obtain⟨ys,y⟩:=a.zk;exact⟨ys,aX y (fun g d=>aU _ _ _ _ _ (fun e=>t (e▸d)))⟩,a.apart,a.low,by rw[eF];exact a.lowB,(aU _ _ _ _ _ w).Z a.ob,a.obB,a.obQ⟩
def SQ.far{Q b x o:Nat}{W:World}{v:Value}(d:SQ Q W x)(l:b≠Q):SQ Q (W.setCell ⟨b,o,none⟩ v) x:=by obtain⟨⟨m,p,a,n,c,f,g,h⟩,i,j⟩:=d;exact⟨⟨m,p,a,n,c,(aU _ _ _ _ _ (fun e=>l e.zy)).Z f,g,h⟩,i,by rw[eF];exact j⟩
def cF.far{Q b o:Nat}{W w:World}{v:Value}(a:cF Q W w)(e:W.heap.size<=b)(d:b≠Q):cF Q W (w.setCell ⟨b,o,none⟩ v):=
 ⟨a.os,a.tape,a.output,by rw[eF];exact a.kp.size,fun x c=>⟨(a.kp.same x c).1.far d,(aU _ _ _ _ _ (aQ c.2.2)).Z (a.kp.same x c).2⟩⟩
def QG.reset{q s m:TypeId}{t n:Nat}{av o:Value}{xs:List Value}{Q h i:Nat}{W:World}{l:Value}{k r d:Nat}{e:Option Addr}(c:QG q s m t av o W Q h i l (.slice e k d) k r n xs):
 QG q s m t av o (W.setCell ⟨Q,1,none⟩ (.slice e 0 d)) Q h i l (.slice e 0 d) 0 r n xs/\cF Q W (W.setCell ⟨Q,1,none⟩ (.slice e 0 d)):=by
 obtain⟨ys,D⟩:=c.zk;have u:(Value.slice e 0 d).ownBlock=(Value.slice e k d).ownBlock:=by cases e<;>rfl
 have w:W.ownsRow h 307 2 (.slice e 0 d) 0 []:=by
  refine⟨rfl,?_⟩;rcases D.2 with⟨p,f⟩|⟨g,cap,x,hv,z,a,p,f,y,E⟩
  subst f;exact .inl ⟨p,rfl⟩;cases hv
  exact .inr ⟨g,d,x,rfl,z,a,aH _,f,y,aj⟩
 have j:∀g,g≠Q->(W.setCell ⟨Q,1,none⟩ (.slice e 0 d)).heap[g]?=W.heap[g]?:=fun g a=>aU _ _ _ _ _ a;have B:∀g,l.ownBlock=some g->g≠Q:=fun g a=>by have:=(aV c.zt a).1;have:=c.low;omega
 have C:∀g,(Value.slice e 0 d).ownBlock=some g->g≠Q:=fun g a=>by have:=(aV w a).1;have:=c.low;omega
 have A:=a8 W Q 1 (.slice e 0 d) c.box;have v:QG q s m t av o (W.setCell ⟨Q,1,none⟩ (.slice e 0 d)) Q h i l (.slice e 0 d) 0 r n xs:=
  ⟨A,aX c.zt (fun g a=>j g (B g a)),⟨[],aX w (fun g a=>j g (C g a))⟩,fun g a=>by rw[u];exact c.apart g a,c.low,by rw[eF];exact c.lowB,(j i c.obQ).Z c.ob,c.obB,c.obQ⟩
 exact⟨v,oU c.box v.box rfl rfl rfl (by rw[eF];simp) (fun b p f _ _=>j b f) (fun g a=>.inl a) (fun g a=>.inr (.inl (u▸a)))⟩
def QG.number{m o j:TypeId}{q n:Nat}{av l:Value}{xs:List Value}{Q i d:Nat}{W:World}{f h:Value}{k x p:Nat}(a:QG m o j q av l W Q i d f h k x n xs):
 QG m o j q av l (W.setCell ⟨Q,3,none⟩ (.int .u64 (p:Nat))) Q i d f h k p n xs/\cF Q W (W.setCell ⟨Q,3,none⟩ (.int .u64 (p:Nat))):=by
 obtain⟨ys,s⟩:=a.zk;have e:∀g,g≠Q->(W.setCell ⟨Q,3,none⟩ (.int .u64 p)).heap[g]?=W.heap[g]?:=fun g c=>aU _ _ _ _ _ c;have v:∀g,f.ownBlock=some g->g≠Q:=fun g c=>by have:=(aV a.zt c).1;have:=a.low;omega
 have w:∀g,h.ownBlock=some g->g≠Q:=fun g c=>by have:=(aV s c).1;have:=a.low;omega
 have u:=a8 W Q 3 (.int .u64 p) a.box;have r:QG m o j q av l (W.setCell ⟨Q,3,none⟩ (.int .u64 (p:Nat))) Q i d f h k p n xs:=
  ⟨u,aX a.zt (fun g c=>e g (v g c)),⟨ys,aX s (fun g c=>e g (w g c))⟩,a.apart,a.low,by rw[eF];exact a.lowB,(e d a.obQ).Z a.ob,a.obB,a.obQ⟩
 exact⟨r,oU a.box r.box rfl rfl rfl (by rw[eF];simp) (fun b y t _ _=>e b t) (fun g c=>.inl c) (fun g c=>.inr (.inl c))⟩
def yD{W:World}{B k sc so ys}(c:W.ownsRow B 307 2 (.slice so k sc) k ys) w:(Instr.slice 260 (.slice so k sc) none ((0:Int)) none).run prog w=.ok (.slice so 0 sc) w:=by
 rcases c.2 with⟨a,b⟩|⟨g,cap,d,hv,h,i,a,b,e,f⟩
 cases a
 rfl;cases hv
 have:(0:Int)<=sc:=ad;simp[go_sem,this]
def BH(W:World)(Q b c f:Nat)(L:List It)(e:Ending)(w':World):Prop:=
 e=.returned (0:Int)/\(∃d g k a,eL w' Q b c d g k (f+1) a/\gx gh a a/\a.Perm L)/\cF Q W w'
def Rr W Q B OB k a r iv sv L(c:eL W Q B OB iv sv k a L)(H:gx gh L L)(Z:L.length<=1048575)(d:a<=1048576):
 dB 212 #[Q,.agg #[.int .i64 (r:Nat)]] W (BH W Q B OB a (L++[(r,a)])):=by
 obtain⟨x,v,rfl⟩:∃x v,sv=.slice x k v:=by obtain⟨ys,d⟩:=c.zk;exact bs d
 obtain⟨g,d,rfl⟩:=bs c.zt;obtain⟨n,o⟩:=am L.length;have g:=aS c.box;have d:=aS c.ob;have⟨h,d⟩:=am ((((W.alloc (.cells #[Q] 297)).alloc (.cells #[.int .i64 r] 301)).alloc (.cells #[.int .i64 0] 30)).alloc (.cells #[.int .i64 n] 3));have l:Below W.heap.size W h:=by rw[d];exact((aP.alloc dj _).alloc dj _).alloc dj _
 have J:h.heap.size=W.heap.size+4:=by rw[d];simp
 have y:h.heap[W.heap.size]?=some (.cells #[.pointer (some ⟨Q,0,none⟩)] 297):=by rw[d];exact(br _ _ _ dj).Z ((br _ _ _ dj).Z ((br _ _ _ dj).Z (aN W _)))
 have z:h.heap[W.heap.size+1]?=some (.cells #[.int .i64 (r:Nat)] 301):=by rw[d];have:=aN (cT W #[Q] 297) (.cells #[.int .i64 r] 301);rw[bP]at this;exact(br _ _ _ dj).Z ((br _ _ _ dj).Z this)
 have A:h.heap[W.heap.size+2]?=some (.cells #[.int .i64 0] 30):=by rw[d];have:=aN (cT (W.alloc (.cells #[Q] 297)) #[.int .i64 r] 301) (.cells #[.int .i64 0] 30);rw[bP,bP]at this;exact(br _ _ _ dj).Z this
 have⟨j,i⟩:=am (((W.alloc (.cells #[Q] 297)).alloc (.cells #[.int .i64 r] 301)).alloc (.cells #[.int .i64 0] 30));have E:Below W.heap.size W j:=by rw[i];exact(aP.alloc dj _).alloc dj _
 have K:j=W.heap.size+3:=by rw[i];simp
 have M:j.heap[W.heap.size]?=some (.cells #[.pointer (some ⟨Q,0,none⟩)] 297):=by rw[i];exact(br _ _ _ dj).Z ((br _ _ _ dj).Z (aN W _))
 rw[<-i]at d;have ag:=ak 0 M;have N:=ak 0 ((E.J _ g).Z c.box);rw[<-o]at N;have g:=c.O l;have⟨m,I⟩:=g.reset;have s:=m.O (aA _ _).drew;have u:=((im c l).Z I).Z (im m (aA _ _).drew);have ab:=ak 0 y;have ae:=ak 0 z;have af:=ak 0 A;have F:=ak 0 g.box;have Y:=ak 1 g.box;have f1:=aJ g.box 1;have G:=ak 0 c.box;have⟨q,t⟩:=am ((h.setCell ⟨Q,1,none⟩ (.slice x 0 v)).drew);rw[<-t]at s u;have v:=qd;rw[<-o]at F G;have⟨R,v,T,P,C,D,X,V,x,O⟩:=jB K s u g y z A J t o;have⟨S,O,R⟩:=bm H c l;have aa:=fun w=>yD c.zk.choose_spec w;clear c g m I s u y z A J t o H l E K M
 go_enter_defers func212,ntmps212
 go_wp2_with(first|(rw[<-i];clear i)|(rw[<-d];clear d)|fail)
 go_region
 rw[<-x.o];have l:=v.o.O (aA _ _).drew;have y:=Rl _ Q B OB a _ _ L (r,a) l S.o Z;have d:∀b,W.heap.size<=b->b<W.heap.size+4->SQ Q q.drew b/\q.drew.heap[b]?=h.heap[b]?:=fun b g m=>by have:=(P.o.reset.2.kp.same b (O.o.sq_new R.o g (aQ V.out)));rw[x.o];exact this
 have m:=l.box;have o:=T.out.Z (im v.o (aA _ _).drew);have u:=ak 0 ((d _ (ay _) ad).2.Z C.out);have v:=ak 0 ((d (W.heap.size+1) ad ad).2.Z D.out);have x:=ak 3 m;have s:Hid (∀c,GR q.drew Q B OB a (L++[(r,a)]) (.returned (.tuple #[])) c->c.heap[W.heap.size]?=some (.cells #[.pointer (some ⟨Q,0,none⟩)] 297)/\c.heap[W.heap.size+1]?=some (.cells #[.int .i64 (r:Nat)] 301)/\c.heap[W.heap.size+2]?=some (.cells #[.int .i64 0] 30)/\SQ Q c (W.heap.size+2)):=fun c g=>by have h:=g.2.2.kp.same _ (d _ (ay _) ad).1;have a1:=g.2.2.kp.same _ (d (W+1) ad ad).1;have i:=g.2.2.kp.same _ (d (W.heap.size+2) ad ad).1;exact⟨h.2.Z ((d _ (ay _) ad).2.Z C.out),a1.2.Z ((d _ ad ad).2.Z D.out),i.2.Z ((d _ ad ad).2.Z X.out),i.1⟩
 have⟨t,E⟩:=aC y o;clear y o l d m ab ae af F Y f1 G ag N aa;go_wp2_with fail
 go_region_held3(fun w'=>w'.cell? ⟨W.heap.size,0,none⟩=some (.pointer (some ⟨Q,0,none⟩))/\w'.cell? ⟨W.heap.size+1,0,none⟩=some (.int .i64 (r:Nat))/\w'.cell? ⟨Q,3,none⟩=some (.int .u64 (a:Nat)))
  (first|exact⟨u,v,x⟩|exact y)
  (first|(go_at_call 170;apply t.o.zz;rintro e c g;have y:c.cell? ⟨W.heap.size,0,none⟩=some (.pointer (some ⟨Q,0,none⟩))/\c.cell? ⟨W.heap.size+1,0,none⟩=some (.int .i64 (r:Nat))/\c.cell? ⟨Q,3,none⟩=some (.int .u64 (a:Nat)):=(by obtain⟨rfl,d,q⟩:=g;obtain⟨h,a1,i,m⟩:=s.o c ⟨rfl,d,q⟩;obtain⟨_,_,_,_,d,_⟩:=d;exact⟨ak 0 h,ak 0 a1,ak 3 d.box⟩);obtain⟨rfl,l,o⟩:=g))
 obtain⟨h,a1,i,m⟩:=s.o c ⟨rfl,l,o⟩;obtain⟨F,H,G,A,d,z,g⟩:=l;obtain⟨C,q⟩:=d.number (p:=a+1);have D:=(q.kp.same _ m).1;have s:W+2≠Q:=ad;have l:eL ((c.setCell ⟨Q,3,none⟩ (.int .u64 (a+1:Nat))).setCell ⟨_,0,none⟩ (0:Int)) Q B OB F H G (a+1) A:=C.far D ad;have A:cF Q W ((c.setCell ⟨Q,3,none⟩ (.int .u64 (a+1:Nat))).setCell ⟨_,0,none⟩ (0:Int)):=((E.o.Z o).Z q).far ad s;have E:Hid (BH W Q B OB a (L++[(r,a)]) (.returned (0:Int)) ((c.setCell ⟨Q,3,none⟩ (.int .u64 (a+1:Nat))).setCell _ (0:Int))):=ah ⟨rfl,⟨_,_,_,_,l,z,g⟩,A⟩;have F:=ak 0 h;have F:=ak 0 i;have G:=ak 3 d.box;have G:=aJ i 0;have G:=aJ d.box 3;have G:c.heap.size≠0:=aQ (aS h);clear d z g C q D l A h a1 i m o y u v x t;go_wp2_with fail
 refine DC (f:=245) (args:=#[.pointer (some ⟨W.heap.size,0,none⟩),.pointer (some ⟨j.heap.size,0,none⟩),.pointer (some ⟨W.heap.size+1+1,0,none⟩)]) aj (by rfl) ?_;apply(Rp _ _ _ _).zz;rintro e d g ⟨rfl,rfl,rfl⟩;have l:BH W Q B OB a (L++[(r,a)]) (.returned (0:Int)) ((c.setCell ⟨Q,3,none⟩ (.int .u64 (a+1))).setCell ⟨W+1+1,0,none⟩ (0:Int)):=E.o;have d:((c.setCell ⟨Q,3,none⟩ (.int .u64 ((a:Int)+1))).setCell ⟨W.heap.size+1+1,0,none⟩ (.int .i64 0)).cell? ⟨W.heap.size+1+1,0,none⟩=some (.int .i64 0):=sm _ _ _ (by rw[li _ _ _ _ (fun e=>s (by injection e with e;exact e.zy)),F];rfl);exact⟨_,by simp[results,go_sem,d],l⟩
def BI(W:World)(Q:Nat)(e:Ending)(w':World):Prop:=e=.returned (.tuple #[.agg #[.int .i64 0],.int .i64 16])/\aR W w'
def GS(W:World)(Q b c f:Nat)(L:List It)(e:Ending)(w':World):Prop:=
 ∃x,e=.returned (.tuple #[.agg #[.int .i64 x.1],.int .i64 0])/\(∀y∈L,gh y x=false)/\(∃d g k a,eL w' Q b c d g k f a/\gx gh a a/\(x::a).Perm L)/\cF Q W w'
def n6(W:World)(Q n:Nat):World:=cT ((((W.alloc (.cells #[Q] 297)).alloc (.cells #[.int .i64 0] 301)).alloc (.cells #[.int .i64 0] 30)).alloc (.cells #[.int .i64 0] 301)) #[.int .i64 n] 3
def lL(W:World)(Q:Nat):World:=cT (((W.alloc (.cells #[Q] 297)).alloc (.cells #[.int .i64 0] 301)).alloc (.cells #[.int .i64 0] 30)) #[.int .i64 0] 301
def BJ W Q:aR W (lL W Q)/\(lL W Q)=W.heap.size+4/\(lL W Q).heap[W.heap.size]?=some (.cells #[Q] 297)/\(lL W Q).heap[W.heap.size+1]?=some (.cells #[.int .i64 0] 301)/\(lL W Q).heap[W.heap.size+2]?=some (.cells #[.int .i64 0] 30)/\(lL W Q).heap[W.heap.size+3]?=some (.cells #[.int .i64 0] 301):=by unfold lL;refine⟨((aP.alloc dj _).alloc dj _).alloc dj _,by simp,?_,?_,?_,?_⟩;exact(br _ _ _ dj).Z ((br _ _ _ dj).Z ((br _ _ _ dj).Z (aN W _)));have:=aN (cT W #[Q] 297) (.cells #[.int .i64 0] 301);rw[bP]at this;exact(br _ _ _ dj).Z ((br _ _ _ dj).Z this);have:=aN (cT (W.alloc (.cells #[Q] 297)) #[.int .i64 0] 301) (.cells #[.int .i64 0] 30);rw[bP,bP]at this;exact(br _ _ _ dj).Z this;have:=aN (cT ((W.alloc (.cells #[Q] 297)).alloc (.cells #[.int .i64 0] 301)) #[.int .i64 0] 30) (.cells #[.int .i64 0] 301);rwa[bP,bP,bP]at this
def GT W Q n:aR W (n6 W Q n)/\(n6 W Q n)=W.heap.size+5/\(n6 W Q n).heap[W.heap.size]?=some (.cells #[Q] 297)/\(n6 W Q n).heap[W.heap.size+1]?=some (.cells #[.int .i64 0] 301)/\(n6 W Q n).heap[W.heap.size+2]?=some (.cells #[.int .i64 0] 30)/\(n6 W Q n).heap[W.heap.size+3]?=some (.cells #[.int .i64 0] 301)/\(n6 W Q n).heap[W.heap.size+4]?=some (.cells #[.int .i64 n] 3):=by obtain⟨c,a,d,f,g,h⟩:=BJ W Q;have e:n6 W Q n=cT (lL W Q) #[.int .i64 n] 3:=rfl;rw[e];have b:=aN (lL W Q) (.cells #[.int .i64 n] 3);rw[a]at b;exact⟨c.alloc ad _,by rw[bP,a],(br _ _ _ ad).Z d,(br _ _ _ ad).Z f,(br _ _ _ ad).Z g,(br _ _ _ ad).Z h,b⟩
def Rs W Q B OB k put iv sv(d:eL W Q B OB iv sv k put []):
 dB 213 #[Q] W (BI W Q):=by
 obtain⟨O,N,rfl⟩:=bs d.zt;have z:=aS d.box;have⟨i,j,l,w,x,y⟩:=BJ W Q;have⟨m,n,t,f,g,o,p⟩:=GT W Q 0;have⟨a,b⟩:=am (lL W Q);have⟨c,h⟩:=am (a.alloc (.cells #[.int .i64 0] 3));have s:c=n6 W Q 0:=by rw[h,b];rfl
 rw[<-b]at i j l;rw[<-s]at m n t f g o p;have P:=ak 0 l;have R:=ak 0 ((i.J _ z).Z d.box);have q:=ak 0 f;have r:=ak 0 g;have E:=ak 0 o;have F:=ak 0 p;have f1:=aJ f 0;have f2:=aJ g 0;unfold lL at b;have⟨u,H,G⟩:=bm m n j;have I:W≠a.heap.size:=ad;have J:W+1≠a.heap.size:=ad;have K:W+1+1≠a.heap.size:=ad;have M:W+1+1+1≠a.heap.size:=ad;rw[h]at q r E F f1 f2;have v:=ah h;clear i j l w x y m n t f g o p s d h
 go_enter_defers func213,ntmps213
 go_wp2_with(first|(rw[<-b];clear b)|fail)
 rw[<-v.o]at q r⊢;have A:((c.setCell ⟨W.heap.size+1,0,none⟩ (.int .i64 0)).setCell ⟨W.heap.size+1+1,0,none⟩ (.int .i64 16)).cell? ⟨W.heap.size+1,0,none⟩=some (.int .i64 0):=by rw[li _ _ _ _ (fun e=>by injection e with e;omega)];exact sm _ _ _ (by rw[q];rfl)
 have C:((c.setCell ⟨W.heap.size+1,0,none⟩ (.int .i64 0)).setCell ⟨W.heap.size+1+1,0,none⟩ (.int .i64 16)).cell? ⟨W.heap.size+1+1,0,none⟩=some (.int .i64 16):=
  sm _ _ _ (by rw[li _ _ _ _ (fun e=>by injection e with e;omega),r];rfl)
 have D:BI W Q (.returned (.tuple #[.agg #[.int .i64 0],.int .i64 16])) ((c.setCell ⟨W+1,0,none⟩ (0:Int)).setCell ⟨W+1+1,0,none⟩ (16:Int)):=⟨rfl,(u.o.setCell aj _).setCell aO _⟩;exact⟨_,by simp[results,go_sem,A,C],D⟩
def Rt W Q B OB k put n iv sv L(c:eL W Q B OB iv sv k put L)(O:gx gh L L)(G:L.length=n+1)(J:n<=1048575):
 dB 213 #[Q] W (GS W Q B OB put L):=by
 obtain⟨g,d,rfl⟩:∃g d,sv=.slice g k d:=by obtain⟨ys,a⟩:=c.zk;exact bs a
 obtain⟨h,a,rfl⟩:=bs c.zt;have l:=aS c.box;have a:=aS c.ob;have⟨z,A,C,Y,Z,aa⟩:=BJ W Q;have⟨i,M,s,D,h,N,E⟩:=GT W Q (n+1);have⟨u,j⟩:=am (lL W Q);have⟨a,F⟩:=am (u.alloc (.cells #[.int .i64 (n+1)] 3));have K:a=n6 W Q (n+1):=by rw[F,j];rfl
 rw[<-j]at z A C;rw[<-K]at i M s D h N E;have ag:=ak 0 C;have R:=ak 0 ((z.J _ l).Z c.box);rw[G]at R;have q:=c.O i;have⟨x,H⟩:=q.reset;have y:=x.O (aA _ _).drew;have I:=((im c i).Z H).Z (im x (aA _ _).drew);have ae:=ak 0 s;have af:a.cell? ⟨u.heap.size,0,none⟩=some (.int .i64 ((n:Int)+1)):=by rw[A];exact ak 0 E
 have d4:((n:Int)+1==0)=false:=aO;have V:=ak 1 q.box;have f1:=aJ q.box 1;have⟨p,t⟩:=am ((a.setCell ⟨Q,1,none⟩ (.slice g 0 d)).drew);rw[<-t]at y I;have d:=qd;have ab:=fun w=>yD c.zk.choose_spec w;have P:=Rn p Q B OB put n _ _ L y O G J;have g:∀b,W.heap.size<=b->b<W.heap.size+5->SQ Q p b/\p.heap[b]?=a.heap[b]?:=fun b a1 d=>by have:=(H.kp.same b (c.sq_new i a1 ad));rw[t];exact this
 have J:Hid (∀a,cF Q p a->a.heap[W.heap.size+1]?=some (.cells #[.int .i64 0] 301)/\a.heap[W.heap.size+2]?=some (.cells #[.int .i64 0] 30)/\SQ Q a (W.heap.size+1)/\SQ Q a (W.heap.size+2)):=fun a l=>by have a1:=l.kp.same _ (g (W.heap.size+1) ad ad).1;have d:=l.kp.same _ (g (W.heap.size+2) ad ad).1;exact⟨a1.2.Z ((g _ ad ad).2.Z D),d.2.Z ((g _ ad ad).2.Z h),a1.1,d.1⟩
 have X:=ak 0 ((g _ (ay _) ad).2.Z s);have⟨T,p,S⟩:=bm I t P;unfold lL at j;clear z A C Y Z aa i M s D h N E K c q x H y I O G t P g
 go_enter_defers func213,ntmps213
 go_wp2_with(first|(rw[<-j];clear j)|(rw[<-F];clear F)|fail)
 go_region
 rw[<-p.o];clear ag R ae af V f1 ab;go_wp2_with fail
 apply S.o.zz;rintro e a ⟨⟨r,m⟩,rfl,z,⟨i,p,j,c,g,t,l⟩,q⟩;obtain⟨i,h,c,G⟩:=dy a (.cells #[.int .i64 r,.int .u64 m] 341);obtain⟨a1,d,j,p⟩:=J.o a q;have s:=j.2.2;have x:=p.2.2;have u1:=(c.J _ s).Z a1;have u2:=(c.J _ x).Z d;have A:=g.O c;have x:=(T.out.Z q).Z (im g c);have E:=(im g c).kp.same _ j;have F:=(im g c).kp.same _ p;have C:=A.far (o:=0) (v:=.int .i64 r) E.1 ad;have D:=C.far (o:=0) (v:=.int .i64 0) (F.1.far ad) ad;have y:cF Q W ((i.setCell ⟨W.heap.size+1,0,none⟩ (.int .i64 (r:Nat))).setCell ⟨W.heap.size+2,0,none⟩ (.int .i64 0)):=(x.far ad ad).far ad ad;have s:GS W Q B OB put L (.returned (.tuple #[.agg #[.int .i64 r],.int .i64 0])) ((i.setCell _ (.int .i64 r)).setCell ⟨W+1+1,0,none⟩ (0:Int)):=⟨_,rfl,z,⟨_,_,_,_,D,t,l⟩,y⟩;have H:=ah s;have⟨I,K⟩:=ku G;have I:=ak 0 u1;have K:=ak 0 u2;have M:=aJ u1 0;have M:=aJ u2 0;have M:=fun w=>GK (.agg #[.int .i64 r,.int .u64 m]) w;have M:a≠W.heap.size+1:=ad;have M:a≠W.heap.size+1+1:=ad;clear g t l z q c G a1 d j p u1 u2 A x E F C D y s X J;simp only;go_wp2_with(first|(rw[<-h];clear h)|fail)
 refine DC (f:=247) (args:=#[.pointer (some ⟨W.heap.size,0,none⟩),.pointer (some ⟨u.heap.size,0,none⟩),.pointer (some ⟨W.heap.size+1+1+1,0,none⟩),.pointer (some ⟨W.heap.size+1,0,none⟩),.pointer (some ⟨W.heap.size+1+1,0,none⟩)]) aj (by simp[go_sem]) ?_;apply(Rq _ _ _ _ _ _).zz;rintro e a c ⟨rfl,rfl,rfl⟩;have a:((i.setCell ⟨W.heap.size+1,0,none⟩ (.int .i64 (r:Nat))).setCell ⟨W.heap.size+1+1,0,none⟩ (.int .i64 0)).cell? ⟨W.heap.size+1,0,none⟩=some (.int .i64 (r:Nat)):=by rw[li _ _ _ _ (fun e=>by injection e with e;omega)];exact sm _ _ _ (by rw[I];rfl)
 have c:((i.setCell ⟨W.heap.size+1,0,none⟩ (.int .i64 (r:Nat))).setCell ⟨W.heap.size+1+1,0,none⟩ (.int .i64 0)).cell? ⟨W.heap.size+1+1,0,none⟩=some (.int .i64 0):=
  sm _ _ _ (by rw[li _ _ _ _ (fun e=>by injection e with e;omega),K];rfl)
 exact⟨.tuple #[.agg #[.int .i64 r],.int .i64 0],by simp[results,go_sem,a,c],H.o⟩
end Go.Proofs.YtfeidcmojcijpaaGreatDoor
