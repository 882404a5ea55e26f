import Derived.Test.YtnadadbndcdolaaGreatDoorQbc
set_option linter.unusedVariables false
set_option linter.unusedSimpArgs false
set_option maxRecDepth 100000
set_option maxHeartbeats 0
namespace Go.Proofs.YtnadadbndcdolaaGreatDoor
open Go.RowKit Tryz
theorem tn(v:Value)(w:World):(method 551 421 v "Less").run prog w=.ok (361,v) w:=aA
theorem Fg(v:Value)(w:World):(method 551 421 v "Len").run prog w=.ok (360,v) w:=aA
theorem tp(v:Value)(w:World):(method 551 421 v "Swap").run prog w=.ok (364,v) w:=aA
theorem Oz(v:Value)(w:World):(method 551 421 v "Push").run prog w=.ok (363,v) w:=aA
theorem OA(v:Value)(w:World):(method 551 421 v "Pop").run prog w=.ok (362,v) w:=aA
theorem jU(k:FuncId)(args:Array Value)(w:World)(a:k=361∨k=360∨k=364∨k=363∨k=362):(callFunc k args).run prog w=.ok (.enter k args) w:=by rcases a with rfl|rfl|rfl|rfl|rfl<;>rfl
def zQ(W:World)(Q B c f b:Nat)(L:List It)(e:Value)(wr:World):Prop:=
 ∃d g k j a,e=.int .i64 (j:Nat)/\dx wr Q B c d g k f a/\pY de a j/\j<a.length/\k+j<=b/\a.Perm L/\bY Q W wr
def zR(W:World)(Q B b e:Nat)(L:List It)(c:Ending)(w':World):Prop:=
 c=.returned (.tuple #[])/\(∃d f k a,dx w' Q B b d f k e a/\gP de a a.length/\a.Perm L)/\bY Q W w'
theorem OC(W:World)(Q B c k d j:Nat)(h l:Value)(L:List It)(y:dx W Q B c h l k d L)(e:pY de L j)(n:j<L.length)(a1:L.length<=1048577)(C:k+j<=1048576):
 Calls prog 296 #[.iface 421 (.pointer (some ⟨Q,0,none⟩)),.int .i64 (j:Nat)] W (zR W Q B c d L):=by
 have R:Hid (zQ W Q B c d 1048576 L (.int .i64 (j:Nat)) W):=ah ⟨h,l,k,j,L,rfl,y,e,n,C,List.Perm.refl _,fj y (aE _ W)⟩;clear y e n C;go_enter func296,ntmps296
 go_wp2
 go_loopw [1] (fun E wr=>zQ W Q B c d 1048576 L E wr) (fun E _=>(intOf E).toNat)
 case atStart=>exact R.out
 case round=>
 clear R;obtain⟨h,l,k,j,m,rfl,g,e,n,C,f,p⟩:=hrel;have ab:=f.length_eq;by_cases aa:j=0
 ·subst aa
  have u:Hid (zR W Q B c d L (.returned (.tuple #[])) wr):=ah ⟨rfl,⟨_,_,_,_,g,Oc e,f⟩,p⟩;clear g e f p
  go_wp2
  go_end0
  exact u.o
 ·obtain⟨i,M⟩:=ar ((j-1)/2)
  have a0:i<j:=ad;have ao:((j:Int)-1).tdiv 2=(i:Nat):=by rw[BD ad];omega
  obtain⟨a,z⟩:∃a,m[j]?=some a:=⟨_,aH n⟩;obtain⟨b,A⟩:∃b,m[i]?=some b:=⟨_,aH ad⟩;have O:=tk wr Q B c k d j i h l m a b g z A ad;have d0:((i:Int)==(j:Int))=false:=aR;obtain⟨G,H,I,T,x,s,t,v⟩:=s9 O g e p f z A M;clear O g e p f z A M ab;have ae:=tn (.pointer (some ⟨Q,0,none⟩)) wr;have aq:=fun args w=>jU 361 args w ak;go_wp2_with fail
  refine G.o.mono ?_;rintro Y F ⟨rfl,K⟩;have r:=H.o.below K;have o:=T.o.trans (fj H.o K);clear ae G;cases q:de a b with
  |false=>
   have u:Hid (zR W Q B c d L (.returned (.tuple #[])) F):=ah ⟨rfl,⟨_,_,_,_,r,Od I.o s.o (by rw[<-v.o];exact t.o) q,x.o⟩,o⟩;clear r o q
   go_wp2
   go_end0
   exact u.o
  |true=>
   have af:=tp (.pointer (some ⟨Q,0,none⟩)) F;have av:=fun args w=>jU 364 args w ak;have S:=tm F Q B c k d i j h l m b a r t.o s.o (by have:=x.o.length_eq;omega) ad;have D:=Oe nH I.o ad s.o (by rw[<-v.o];exact t.o) q;rw[<-v.o]at D;obtain⟨X,J,V⟩:=bH D S o;clear r o q S D;go_wp2_with fail
   refine J.o.mono ?_;rintro Y an ⟨rfl,⟨ag,al,P⟩,N⟩;have Z:Hid (zQ W Q B c d 1048576 L (.int .i64 (i:Nat)) an):=ah ⟨ag,al,k+1,i,_,rfl,P,X.o,by rw[oC];omega,ad,(ti _ _ _).trans x.o,V.o.trans N⟩;clear P N af J
   go_wp2
   go_roundw
   case rel=>exact Z.out
   case measure=>exact bh
def tq(W:World)(Q B b e n:Nat)(L:List It)(x:It)(d:Value)(wr:World):Prop:=
 ∃c f k i a,d=.int .i64 (i:Nat)/\dx wr Q B b c f k e a/\oD de a n i/\a.length=n+1/\a[n]?=some x/\k<=i+1/\i<=n/\a.Perm L/\bY Q W wr
def tt(W:World)(Q B b e n:Nat)(L:List It)(x:It)(c:Ending)(w':World):Prop:=
 (∃q:Bool,c=.returned (.bool q))/\(∃d f k a,dx w' Q B b d f k e a/\gP de a n/\a.length=n+1/\a[n]?=some x/\a.Perm L/\k<=1048577)/\bY Q W w'
theorem OD(W:World)(Q B c k d n:Nat)(s t:Value)(L:List It)(x:It)(a3:dx W Q B c s t k d L)(bu:oD de L n 0)(bq:L.length=n+1)(f:L[n]?=some x)(b3:n<=1048575)(a7:k<=1):
 Calls prog 297 #[.iface 421 (.pointer (some ⟨Q,0,none⟩)),.int .i64 0,.int .i64 (n:Nat)] W (tt W Q B c d n L x):=by
 have bt:Hid (tq W Q B c d n L x (.int .i64 0) W):=ah ⟨s,t,k,0,L,rfl,a3,bu,bq,f,a7,aZ _,List.Perm.refl _,fj a3 (aE _ W)⟩;clear a3 bu a7 bq f;go_enter func297,ntmps297
 go_wp2
 go_loopw [7] (fun a9 wr=>tq W Q B c d n L x a9 wr) (fun a9 _=>n-(intOf a9).toNat)
 case atStart=>exact bt.out
 case round=>
 clear bt;obtain⟨s,t,k,i,e,rfl,P,aa,af,f,a7,b2,an,ae⟩:=hrel;obtain⟨b,ab⟩:∃j,j=2*i+1:=⟨_,rfl⟩;have bD:2*(i:Int)+1=(b:Nat):=ad;obtain⟨H,N,K,I⟩:=cr aa f an af;have J:Hid (e.length<=1048576):=ah ad;by_cases bF:n<=b
 ·have G:Hid (∀q,tt W Q B c d n L x (.returned (.bool q)) wr):=fun q=>⟨⟨q,rfl⟩,⟨_,_,_,_,P,Oh aa ad,af,f,an,ad⟩,ae⟩
  have b4:(0:Int)<=i:=ad;have b5:i<=1048576:=ad;clear P aa af f an ae ab
  go_wp2
  go_ret;exact G.o _
 ·obtain⟨a,a4⟩:∃a,e[i]?=some a:=⟨_,aH ad⟩
  obtain⟨z,a0⟩:∃a,e[b]?=some a:=⟨_,aH ad⟩;obtain⟨p,a6⟩:∃j,j=2*i+2:=⟨_,rfl⟩;have bE:(b:Int)+1=(p:Nat):=ad;obtain⟨g,h,S,bd⟩:=cr a4 a0 P ae;have b0:i<b:=ad;have b1:i<p:=ad;by_cases bN:p<n
  ·obtain⟨Y,a5⟩:∃a,e[p]?=some a:=⟨_,aH ad⟩
   have u:=ah a5;have bl:=tk wr Q B c k d p b s t e Y z P a5 a0 ad;have bB:=tn (.pointer (some ⟨Q,0,none⟩)) wr;have bz:=fun args w=>jU 361 args w ak;have be:=ah bl;have bw:b<n:=ad;obtain⟨ba,bb⟩:=aD ab a6;clear P aa af f an ae ab a6 bl a5 a0 a4;go_wp2_with fail
   refine be.o.mono ?_;rintro O a2 ⟨rfl,bg⟩;obtain⟨M,bc⟩:=aD (S.o.below bg) (bd.o.trans (fj S.o bg));clear bB be bz;cases a1:de Y z with
   |true=>
    have v:Hid (oE de e n i p):=ah (by have:=u.o;have:=h.o;have:=ba.o;have:=bb.o;subst b;subst p;exact Ol nH wM ad u.o h.o a1);clear a1;have bC:=tn (.pointer (some ⟨Q,0,none⟩)) a2;have bZ:=fun args w=>jU 361 args w ak;have bo:=tk a2 Q B c k d p i s t e Y a M.o u.o g.o (by have:=J.o;omega);have bf:=ah bo;clear bo;go_wp2_with fail
    refine bf.o.mono ?_;rintro O r ⟨rfl,A⟩;have o:=M.o.below A;have l:=bc.o.trans (fj M.o A);clear bC bf;cases m:de Y a with
    |false=>
     have G:Hid (∀q,tt W Q B c d n L x (.returned (.bool q)) r):=fun q=>⟨⟨q,rfl⟩,⟨_,_,_,_,o,zN nH H.o v.o u.o g.o m,I.o,N.o,K.o,ad⟩,l⟩;clear o l m
     go_wp2
     go_ret;exact G.o _
    |true=>
     have al:=tp (.pointer (some ⟨Q,0,none⟩)) r;have bi:=fun args w=>jU 364 args w ak;have F:=tm r Q B c k d i p s t e a Y o g.o u.o (by have:=J.o;omega) ad;have E:=zO nH H.o v.o u.o g.o m;have f:(fW e i p)[n]?=some x:=by rw[pX g.o u.o,au ad,au ad];exact N.o
     obtain⟨X,V,y,T⟩:=cr f E F l;clear o l m F E f;go_wp2_with fail
     refine y.o.mono ?_;rintro O av ⟨rfl,⟨ao,aq,D⟩,C⟩;have Z:Hid (tq W Q B c d n L x (.int .i64 (p:Nat)) av):=ah ⟨ao,aq,k+1,p,_,rfl,D,V.o,by rw[oC];exact I.o,X.o,ad,ad,(ti _ _ _).trans K.o,T.o.trans C⟩;clear D C al y
     go_wp2
     go_roundw
     case rel=>exact Z.out
     case measure=>exact bh
   |false=>
    have v:Hid (oE de e n i b):=ah (by have:=u.o;have:=h.o;have:=ba.o;have:=bb.o;subst b;subst p;exact Oj wM ad u.o h.o a1);clear a1;have a8:=tn (.pointer (some ⟨Q,0,none⟩)) a2;have bA:=fun args w=>jU 361 args w ak;have ag:=tk a2 Q B c k d b i s t e z a M.o h.o g.o (by have:=J.o;omega);have R:=ah ag;clear ag;go_wp2_with fail
    refine R.o.mono ?_;rintro O r ⟨rfl,A⟩;have o:=M.o.below A;have l:=bc.o.trans (fj M.o A);clear a8 R;cases m:de z a with
    |false=>
     have G:Hid (∀q,tt W Q B c d n L x (.returned (.bool q)) r):=fun q=>⟨⟨q,rfl⟩,⟨_,_,_,_,o,zN nH H.o v.o h.o g.o m,I.o,N.o,K.o,ad⟩,l⟩;clear o l m
     go_wp2
     go_ret;exact G.o _
    |true=>
     have al:=tp (.pointer (some ⟨Q,0,none⟩)) r;have bi:=fun args w=>jU 364 args w ak;have F:=tm r Q B c k d i b s t e a z o g.o h.o (by have:=J.o;omega) ad;have E:=zO nH H.o v.o h.o g.o m;have f:(fW e i b)[n]?=some x:=by rw[pX g.o h.o,au ad,au ad];exact N.o
     obtain⟨X,V,y,T⟩:=cr f E F l;clear o l m F E f;go_wp2_with fail
     refine y.o.mono ?_;rintro O av ⟨rfl,⟨ao,aq,D⟩,C⟩;have Z:Hid (tq W Q B c d n L x (.int .i64 (b:Nat)) av):=ah ⟨ao,aq,k+1,b,_,rfl,D,V.o,by rw[oC];exact I.o,X.o,ad,ad,(ti _ _ _).trans K.o,T.o.trans C⟩;clear D C al y
     go_wp2
     go_roundw
     case rel=>exact Z.out
     case measure=>exact bh
  ·have v:Hid (oE de e n i b):=ah (by subst ab;exact Oi wM ad ad)
   have bw:b<n:=ad;clear P aa af f an ae ab a6 a0 a4;have a8:=tn (.pointer (some ⟨Q,0,none⟩)) wr;have bA:=fun args w=>jU 361 args w ak;have ag:=tk wr Q B c k d b i s t e z a S.o h.o g.o (by have:=J.o;omega);have R:=ah ag;clear ag;go_wp2_with fail
   refine R.o.mono ?_;rintro O r ⟨rfl,A⟩;have o:=S.o.below A;have l:=bd.o.trans (fj S.o A);clear a8 R;cases m:de z a with
   |false=>
    have G:Hid (∀q,tt W Q B c d n L x (.returned (.bool q)) r):=fun q=>⟨⟨q,rfl⟩,⟨_,_,_,_,o,zN nH H.o v.o h.o g.o m,I.o,N.o,K.o,ad⟩,l⟩;clear o l m
    go_wp2
    go_ret;exact G.o _
   |true=>
    have al:=tp (.pointer (some ⟨Q,0,none⟩)) r;have bi:=fun args w=>jU 364 args w ak;have F:=tm r Q B c k d i b s t e a z o g.o h.o (by have:=J.o;omega) ad;have E:=zO nH H.o v.o h.o g.o m;have f:(fW e i b)[n]?=some x:=by rw[pX g.o h.o,au ad,au ad];exact N.o
    obtain⟨X,V,y,T⟩:=cr f E F l;clear o l m F E f;go_wp2_with fail
    refine y.o.mono ?_;rintro O av ⟨rfl,⟨ao,aq,D⟩,C⟩;have Z:Hid (tq W Q B c d n L x (.int .i64 (b:Nat)) av):=ah ⟨ao,aq,k+1,b,_,rfl,D,V.o,by rw[oC];exact I.o,X.o,ad,ad,(ti _ _ _).trans K.o,T.o.trans C⟩;clear D C al y
    go_wp2
    go_roundw
    case rel=>exact Z.out
    case measure=>exact bh
def zS(W:World)(Q B b e:Nat)(L:List It)(c:Ending)(w':World):Prop:=
 c=.returned (.tuple #[])/\(∃d f k a,dx w' Q B b d f k e a/\gP de a a.length/\a.Perm L)/\bY Q W w'
theorem OE(W:World)(Q B a b:Nat)(v c:Value)(L:List It)(x:It)(o:dx W Q B a v c 0 b L)(p:gP de L L.length)(I:L.length<=1048575):
 Calls prog 257 #[.iface 421 (.pointer (some ⟨Q,0,none⟩)),.iface 414 (.agg #[.int .i64 (x.1:Nat),.int .u64 (x.2:Nat)])] W (zS W Q B a b (L++[x])):=by
 have f:=Ot W Q B a 0 b v c L x o ad;have G:=Oz (.pointer (some ⟨Q,0,none⟩)) W;have E:=fun args w=>jU 363 args w ak;obtain⟨z,m⟩:=x;simp only at f⊢;obtain⟨j,C⟩:=aD f p;clear f o p;go_enter func257,ntmps257
 go_wp2_with fail
 refine j.o.mono ?_;rintro l h ⟨rfl,⟨y,g⟩,q⟩;have e:=E6 h Q B a 0 b y c _ g;rw[show((L++[(z,m)]).length:Nat)=L.length+1 by simp]at e;have u:=OC h Q B a 0 b L.length y c _ g (Ob C.o) ak aR ad;have H:=Fg (.pointer (some ⟨Q,0,none⟩)) h;have F:=fun args w=>jU 360 args w ak;obtain⟨i,d,D⟩:=bH e u q;clear e u g q G E j;go_wp2_with fail
 refine i.o.mono ?_;rintro l M ⟨rfl,rfl⟩;obtain⟨n,s⟩:=ar (L.length);rw[<-s]at d I⊢;clear s i H F;have K:((n+1:Nat):Int)-1=(n:Nat):=ad;go_wp2_with fail
 refine d.o.mono ?_;rintro l J ⟨rfl,t,r⟩;have A:Hid (zS W Q B a b (L++[(z,m)]) (.returned (.tuple #[])) J):=ah ⟨rfl,t,D.o.trans r⟩;clear t r d
 go_wp2
 go_end0
 exact A.o
def Fh(W:World)(Q B b e:Nat)(L:List It)(c:Ending)(w':World):Prop:=
 ∃x:It,c=.returned (.iface 414 (.agg #[.int .i64 (x.1:Nat),.int .u64 (x.2:Nat)]))/\(∀y∈L,de y x=false)/\(∃d f k a,dx w' Q B b d f k e a/\gP de a a.length/\(x::a).Perm L)/\bY Q W w'
theorem OF(W:World)(Q B d e n:Nat)(t u:Value)(L:List It)(o:dx W Q B d t u 0 e L)(p:gP de L L.length)(h:L.length=n+1)(a6:n<=1048575):
 Calls prog 259 #[.iface 421 (.pointer (some ⟨Q,0,none⟩))] W (Fh W Q B d e L):=by
 obtain⟨x,i⟩:∃a,L[0]?=some a:=⟨_,aH ad⟩;obtain⟨z,s⟩:∃a,L[n]?=some a:=⟨_,aH ad⟩;have M:∀y∈L,de y x=false:=fun y a7=>by obtain⟨k,H⟩:=xZ a7;exact Of nH p wM k y x (aL.1 H).1 (az _) H i
 have r:=E6 W Q B d 0 e t u L o;rw[h]at r;have T:=tm W Q B d 0 e 0 n t u L x z o i s ad ad;have F:oD de (fW L 0 n) n 0:=Og (by rw[<-h];exact p) ad;have Y:(fW L 0 n)[n]?=some x:=by rw[pX i s,ay rfl]
 have V:(fW L 0 n).length=n+1:=by rw[oC];exact h
 have a3:=Fg (.pointer (some ⟨Q,0,none⟩)) W;have a4:=tp (.pointer (some ⟨Q,0,none⟩)) W;have bo:=fun args w=>jU 360 args w ak;have bq:=fun args w=>jU 364 args w ak;have bt:=fun args w=>jU 362 args w ak;obtain⟨A,C,ag,av,aq,ao⟩:=g6 r T F Y V M;have bl:((n+1:Nat):Int)-1=(n:Nat):=ad;clear r T F Y V M i s o p h;go_enter func259,ntmps259
 go_wp2_with fail
 refine A.o.mono ?_;rintro l bf ⟨rfl,X⟩;rw[X];clear A a3 X bf;go_wp2_with fail
 refine C.o.mono ?_;rintro l bg ⟨rfl,⟨a8,bd,P⟩,I⟩;have E:=OD bg Q B d 1 e n a8 bd _ x P ag.o aq.o av.o a6 ad;obtain⟨v,al⟩:=aD E I;clear E P I a4 C;go_wp2_with fail
 refine v.o.mono ?_;rintro l aa ⟨⟨q,rfl⟩,⟨a9,be,bc,D,R,G,f,g,N,bu⟩,J⟩;obtain⟨c,rfl⟩:∃c,D=c++[x]:=by
  rcases BQ D with rfl|⟨c,y,rfl⟩
  ·simp at f
  ·simp only[BR]at f g⊢
   simp at f;rw[fZ ad]at g;simp[f]at g;exact⟨c,by rw[g]⟩
 have a2:c.length=n:=by simpa using f
 have O:=Oy aa Q B d bc e a9 be c x R ad;have a5:=OA (.pointer (some ⟨Q,0,none⟩)) aa;have ae:Hid (gP de c c.length):=ah (by intro k a b ba bb a0 a1;exact G k a b ba ad (by rw[eP bb];exact a0) (by rw[eP ad];exact a1))
 have af:Hid ((x::c).Perm L):=ah (((List.perm_append_singleton x c).symm.trans N).trans (ti _ _ _));obtain⟨j,an⟩:=aD O (al.o.trans J);clear O R G f g N J a2 v;obtain⟨Z,m⟩:=x;simp only at j;go_wp2_with fail
 refine j.o.mono ?_;rintro l bi ⟨rfl,⟨bw,S⟩,K⟩;have ab:Hid (Fh W Q B d e L (.returned (.iface 414 (.agg #[.int .i64 (Z:Nat),.int .u64 (m:Nat)]))) bi):=ah ⟨(Z,m),rfl,ao.o,⟨_,_,_,_,S,ae.o,af.o⟩,an.o.trans K⟩;clear S K j a5
 go_wp2
 go_ret;exact ab.o
theorem oG(fn:Fn)(first cap:Array Value)(w:World):(Instr.makeFunc fn first cap).run prog w=.ok (.func fn first cap) w:=rfl
theorem OG(W:World):Calls prog 276 #[.func (.func 277) #[] #[]] W fun i w'=>i=.returned (.tuple #[.pointer (some ⟨W.heap.size+1,0,none⟩),.int .i64 0])/\dx w' (W.heap.size+1) (W.heap.size+2) W.heap.size (.slice none 0 0) (.slice none 0 0) 0 0 []/\Below W.heap.size W w':=by
 obtain⟨b,a⟩:=ar ((W.alloc (.cells #[.func (.func 277) #[] #[]] 373)).alloc (.cells #[.slice none 0 0,.slice none 0 0,qR W.heap.size,.int .u64 ((0:Nat):Int)] 420));have c:Below W.heap.size W b:=by rw[a];exact aG.alloc ak _
 have d:b.heap[W.heap.size]?=some (.cells #[.func (.func 277) #[] #[]] 373):=by rw[a];exact(bk _ _ _ ak).trans (aB W _)
 have e:b.heap[W.heap.size+1]?=some (.cells #[.slice none 0 0,.slice none 0 0,qR W.heap.size,.int .u64 ((0:Nat):Int)] 420):=by rw[a];have:=aB (W.alloc (.cells #[.func (.func 277) #[] #[]] 373)) (.cells #[.slice none 0 0,.slice none 0 0,qR W.heap.size,.int .u64 ((0:Nat):Int)] 420);rwa[bj]at this
 have l:b.heap.size=W.heap.size+2:=by rw[a];simp
 have h:Hid (dx b (W.heap.size+1) (W.heap.size+2) W.heap.size (.slice none 0 0) (.slice none 0 0) 0 0 []/\Below W.heap.size W b):=
  ah ⟨⟨e,dc _ _ _ _,⟨[],dc _ _ _ _⟩,(fun g j=>by cases j),ad,ad,d,ad,ad⟩,c⟩
 have m:=oG;have n:∀w:World,(binOp BinOp.eql 373 (.func (.func 277) #[] #[]) .nilFunc).run prog w=.ok (.bool false) w:=fun _=>rfl;unfold qR at a;clear c d e l;go_enter func276,ntmps276
 go_wp2_with(first|(rw[<-a];clear a)|fail)
 go_ret2
 have f:=h.o;rw[a]at f;exact⟨rfl,f⟩
theorem OH(a b c:Value)(w:World):CallsD prog 313 #[a,b,c] .returning w fun e g w'=>e=.returned (.tuple #[])/\g=.returning/\w'=w:=by
 refine BS func313 rfl fun d cs f=> ?_;apply wpS_seq;apply wpS_region;simp[wpOpsS,go_sem,recoverD,f,ntmps313,Exit.thenS];refine wpS_cond (t:=false) (by simp[Act.eval,Array.replicate]) ?_;simp only[j8,jl];refine wpS_of_wp (wp_skip ?_);cases d
 simp_all[bodyPostS,results,results313]
theorem OI(a b c d e:Value)(w:World):CallsD prog 315 #[a,b,c,d,e] .returning w fun e h w'=>e=.returned (.tuple #[])/\h=.returning/\w'=w:=by
 refine BS func315 rfl fun f cs g=> ?_;apply wpS_seq;apply wpS_region;simp[wpOpsS,go_sem,recoverD,g,ntmps315,Exit.thenS];refine wpS_cond (t:=false) (by simp[Act.eval,Array.replicate]) ?_;simp only[j8,jl];refine wpS_of_wp (wp_skip ?_);cases f
 simp_all[bodyPostS,results,results315]
theorem SQ.apart{q s f:TypeId}{t n:Nat}{av g:Value}{xs:List Value}{Q B e:Nat}{W:World}{c d:Value}{k r b:Nat}(h:QG q s f t av g W Q B e c d k r n xs)(p:SQ Q W b):c.ownBlock≠some b/\d.ownBlock≠some b/\b≠Q/\b<W.heap.size:=by
 obtain⟨⟨w,y,u,x,v,i,j,l⟩,m,o⟩:=p;have a:=h.box;rw[i]at a;injection a with a
 injection a with a
 simp at a;obtain⟨rfl,rfl,_,_⟩:=a;exact⟨j,l,m,o⟩
theorem QG.sq{m p e:TypeId}{q n:Nat}{av f:Value}{xs:List Value}{Q B d:Nat}{W:World}{a c:Value}{k o b:Nat}(g:QG m p e q av f W Q B d a c k o n xs)(h:a.ownBlock≠some b)(i:c.ownBlock≠some b)(j:b≠Q)(l:b<W.heap.size):SQ Q W b:=
 ⟨⟨_,_,_,_,_,g.box,h,i⟩,j,l⟩
theorem QG.sq_new{l p f:TypeId}{r n:Nat}{av g:Value}{xs:List Value}{Q B e:Nat}{W d:World}{m q:Value}{k o b:Nat}(c:QG l p f r av g W Q B e m q k o n xs)(i:Below W.heap.size W d)(s:W.heap.size<=b)(h:b<d.heap.size):SQ Q d b:=
 (c.below i).sq (fun a=>by have:=(aF c.items a).2;omega) (fun a=>by obtain⟨ys,j⟩:=c.swaps;have:=(aF j a).2;omega) (fun a=>by have:=aU c.box;omega) h
theorem QG.sq_low{j o e:TypeId}{q n:Nat}{av f:Value}{xs:List Value}{Q B d:Nat}{W:World}{l p:Value}{k m b:Nat}(c:QG j o e q av f W Q B d l p k m n xs)(r:b<B)(g:b≠Q)(h:b<W.heap.size):SQ Q W b:=
 c.sq (fun a=>by have:=(aF c.items a).1;omega) (fun a=>by obtain⟨ys,i⟩:=c.swaps;have:=(aF i a).1;omega) g h
theorem QG.far{i m f:TypeId}{q n:Nat}{av h:Value}{xs:List Value}{Q B d:Nat}{W:World}{j p:Value}{k l b o:Nat}{v:Value}(a:QG i m f q av h W Q B d j p k l n xs)(w:SQ Q W b)(u:d≠b):QG i m f q av h (W.setCell ⟨b,o,none⟩ v) Q B d j p k l n xs:=by obtain⟨r,s,t,y⟩:=w.apart a;exact⟨(aS _ _ _ _ _ (fun c=>t c.symm)).trans a.box,aP a.items (fun g e=>aS _ _ _ _ _ (fun c=>r (c▸e))),by obtain⟨ys,x⟩:=a.swaps;exact⟨ys,aP x (fun g e=>aS _ _ _ _ _ (fun c=>s (c▸e)))⟩,a.apart,a.low,by rw[dE];exact a.lowB,(aS _ _ _ _ _ u).trans a.ob,a.obB,a.obQ⟩
theorem SQ.far{Q b x o:Nat}{W:World}{v:Value}(e:SQ Q W x)(l:b≠Q):SQ Q (W.setCell ⟨b,o,none⟩ v) x:=by obtain⟨⟨m,p,a,n,d,f,g,h⟩,i,j⟩:=e;exact⟨⟨m,p,a,n,d,(aS _ _ _ _ _ (fun c=>l c.symm)).trans f,g,h⟩,i,by rw[dE];exact j⟩
theorem bY.far{Q b o:Nat}{W w:World}{v:Value}(a:bY Q W w)(e:W.heap.size<=b)(d:b≠Q):bY Q W (w.setCell ⟨b,o,none⟩ v):=
 ⟨a.os,a.tape,a.output,by rw[dE];exact a.kp.size,fun x c=>⟨(a.kp.same x c).1.far d,(aS _ _ _ _ _ (by have:=c.2.2;omega)).trans (a.kp.same x c).2⟩⟩
theorem QG.reset{p r l:TypeId}{s n:Nat}{av m:Value}{xs:List Value}{Q B h:Nat}{W:World}{j:Value}{k q d:Nat}{e:Option Addr}(c:QG p r l s av m W Q B h j (.slice e k d) k q n xs):
 QG p r l s av m (W.setCell ⟨Q,1,none⟩ (.slice e 0 d)) Q B h j (.slice e 0 d) 0 q n xs/\bY Q W (W.setCell ⟨Q,1,none⟩ (.slice e 0 d)):=by
 obtain⟨ys,E⟩:=c.swaps;have t:(Value.slice e 0 d).ownBlock=(Value.slice e k d).ownBlock:=by cases e<;>rfl
 have v:W.ownsRow B 105 2 (.slice e 0 d) 0 []:=by
  refine⟨rfl,?_⟩;rcases E.2 with⟨o,f⟩|⟨g,cap,w,D,y,a,o,f,x,F⟩
  ·subst f
   exact .inl ⟨o,rfl⟩
  ·cases D
   exact .inr ⟨g,d,w,rfl,y,a,aZ _,f,x,ak⟩
 have i:∀g,g≠Q->(W.setCell ⟨Q,1,none⟩ (.slice e 0 d)).heap[g]?=W.heap[g]?:=fun g a=>aS _ _ _ _ _ a;have A:∀g,j.ownBlock=some g->g≠Q:=fun g a=>by have:=(aF c.items a).1;have:=c.low;omega
 have C:∀g,(Value.slice e 0 d).ownBlock=some g->g≠Q:=fun g a=>by have:=(aF v a).1;have:=c.low;omega
 have z:=bn W Q 1 (.slice e 0 d) c.box;have u:QG p r l s av m (W.setCell ⟨Q,1,none⟩ (.slice e 0 d)) Q B h j (.slice e 0 d) 0 q n xs:=
  ⟨z,aP c.items (fun g a=>i g (A g a)),⟨[],aP v (fun g a=>i g (C g a))⟩,fun g a=>by rw[t];exact c.apart g a,c.low,by rw[dE];exact c.lowB,(i h c.obQ).trans c.ob,c.obB,c.obQ⟩
 exact⟨u,oF c.box u.box rfl rfl rfl (by rw[dE];exact az _) (fun b o f _ _=>i b f) (fun g a=>.inl a) (fun g a=>.inr (.inl (by rw[<-t];exact a)))⟩
theorem QG.number{l m i:TypeId}{o n:Nat}{av j:Value}{xs:List Value}{Q B d:Nat}{W:World}{f h:Value}{k w p:Nat}(a:QG l m i o av j W Q B d f h k w n xs):
 QG l m i o av j (W.setCell ⟨Q,3,none⟩ (.int .u64 (p:Nat))) Q B d f h k p n xs/\bY Q W (W.setCell ⟨Q,3,none⟩ (.int .u64 (p:Nat))):=by
 obtain⟨ys,r⟩:=a.swaps;have e:∀g,g≠Q->(W.setCell ⟨Q,3,none⟩ (.int .u64 (p:Nat))).heap[g]?=W.heap[g]?:=fun g c=>aS _ _ _ _ _ c;have u:∀g,f.ownBlock=some g->g≠Q:=fun g c=>by have:=(aF a.items c).1;have:=a.low;omega
 have v:∀g,h.ownBlock=some g->g≠Q:=fun g c=>by have:=(aF r c).1;have:=a.low;omega
 have t:=bn W Q 3 (.int .u64 (p:Nat)) a.box;have q:QG l m i o av j (W.setCell ⟨Q,3,none⟩ (.int .u64 (p:Nat))) Q B d f h k p n xs:=
  ⟨t,aP a.items (fun g c=>e g (u g c)),⟨ys,aP r (fun g c=>e g (v g c))⟩,a.apart,a.low,by rw[dE];exact a.lowB,(e d a.obQ).trans a.ob,a.obB,a.obQ⟩
 exact⟨q,oF a.box q.box rfl rfl rfl (by rw[dE];exact az _) (fun b x s _ _=>e b s) (fun g c=>.inl c) (fun g c=>.inr (.inl c))⟩
theorem wN{W:World}{B k a:Nat}{b:Option Addr}{ys:List Value}(f:W.ownsRow B 105 2 (.slice b k a) k ys)(w:World):(Instr.slice 298 (.slice b k a) none (some (.int .i64 0)) none).run prog w=.ok (.slice b 0 a) w:=by
 rcases f.2 with⟨c,d⟩|⟨g,cap,h,e,l,m,c,d,i,j⟩
 ·cases c
  simp[Instr.slice,go_sem,BP]
 ·cases e
  have:(0:Int)<=a:=ad;simp[Instr.slice,go_sem,BP,this]
def zT(W:World)(Q B b e:Nat)(L:List It)(c:Ending)(w':World):Prop:=
 c=.returned (.int .i64 0)/\(∃d f k a,dx w' Q B b d f k (e+1) a/\gP de a a.length/\a.Perm L)/\bY Q W w'
theorem OJ(W:World)(Q B m k a d:Nat)(bE a9:Value)(L:List It)(e:dx W Q B m bE a9 k a L)(ao:gP de L L.length)(bB:L.length<=1048575)(b9:a<=1048576):
 Calls prog 278 #[.pointer (some ⟨Q,0,none⟩),.agg #[.int .i64 (d:Nat)]] W (zT W Q B m a (L++[(d,a)])):=by
 obtain⟨K,J,rfl⟩:∃K J,a9=.slice K k J:=by obtain⟨ys,bD⟩:=e.swaps;exact bL bD
 obtain⟨cc,cb,rfl⟩:=bL e.items;obtain⟨n,A⟩:=ar (L.length);have bw:=aU e.box;have b7:=aU e.ob;obtain⟨o,l⟩:=ar ((((W.alloc (.cells #[.pointer (some ⟨Q,0,none⟩)] 368)).alloc (.cells #[.int .i64 (d:Nat)] 372)).alloc (.cells #[.int .i64 0] 36)).alloc (.cells #[.int .i64 (n:Nat)] 3));have x:Below W.heap.size W o:=by rw[l];exact((aG.alloc cL _).alloc cL _).alloc cL _
 have a7:o.heap.size=W.heap.size+4:=by rw[l];simp
 have M:o.heap[W.heap.size]?=some (.cells #[.pointer (some ⟨Q,0,none⟩)] 368):=by rw[l];exact(bk _ _ _ cL).trans ((bk _ _ _ cL).trans ((bk _ _ _ cL).trans (aB W _)))
 have N:o.heap[W.heap.size+1]?=some (.cells #[.int .i64 (d:Nat)] 372):=by rw[l];have:=aB (W.alloc (.cells #[.pointer (some ⟨Q,0,none⟩)] 368)) (.cells #[.int .i64 (d:Nat)] 372);rw[bj]at this;exact(bk _ _ _ cL).trans ((bk _ _ _ cL).trans this)
 have O:o.heap[W.heap.size+2]?=some (.cells #[.int .i64 0] 36):=by rw[l];have:=aB ((W.alloc (.cells #[.pointer (some ⟨Q,0,none⟩)] 368)).alloc (.cells #[.int .i64 (d:Nat)] 372)) (.cells #[.int .i64 0] 36);rw[bj,bj]at this;exact(bk _ _ _ cL).trans this
 obtain⟨v,s⟩:=ar (((W.alloc (.cells #[.pointer (some ⟨Q,0,none⟩)] 368)).alloc (.cells #[.int .i64 (d:Nat)] 372)).alloc (.cells #[.int .i64 0] 36));have Y:Below W.heap.size W v:=by rw[s];exact(aG.alloc cL _).alloc cL _
 have a8:v.heap.size=W.heap.size+3:=by rw[s];simp
 have ba:v.heap[W.heap.size]?=some (.cells #[.pointer (some ⟨Q,0,none⟩)] 368):=by rw[s];exact(bk _ _ _ cL).trans ((bk _ _ _ cL).trans (aB W _))
 rw[<-s]at l;have b4:=ai 0 ba;have bb:=ai 0 ((Y.block _ bw).trans e.box);rw[<-A]at bb;have j:=e.below x;obtain⟨y,a6⟩:=j.reset;have D:=y.below (aE _ _).drew;have I:=((fj e x).trans a6).trans (fj y (aE _ _).drew);have b1:=ai 0 M;have b2:=ai 0 N;have b3:=ai 0 O;have Z:=ai 0 j.box;have bu:=ai 1 j.box;have f1:=aT j.box 1;have aa:=ai 0 e.box;obtain⟨u,E⟩:=ar ((o.setCell ⟨Q,1,none⟩ (.slice K 0 J)).drew);rw[<-E]at D I;have b8:=oG;rw[<-A]at Z aa;obtain⟨b6,P,bl,bd,V,X,bt,bq,R,b5⟩:=ju a8 D I j M N O a7 E A;obtain⟨bg,bc,be⟩:=bH ao e x;have bC:=fun w=>wN e.swaps.choose_spec w;clear e j y a6 D I M N O a7 E A ao x Y a8 ba
 go_enter_defers func278,ntmps278
 go_wp2_with(first|(rw[<-s];clear s)|(rw[<-l];clear l)|fail)
 go_region
 rw[<-R.o];have H:=P.o.below (aE _ _).drew;have a3:=OE u.drew Q B m a _ _ L (d,a) H bg.o bB;have g:∀b,W.heap.size<=b->b<W.heap.size+4->SQ Q u.drew b/\u.drew.heap[b]?=o.heap[b]?:=fun b j y=>by have:=(bd.o.reset.2.kp.same b (bc.o.sq_new be.o j (by have:=bq.out;omega)));rw[R.o];exact this
 have an:=H.box;have av:=bl.out.trans (fj P.o (aE _ _).drew);have ab:=ai 0 ((g W.heap.size (az _) ad).2.trans V.out);have ae:=ai 0 ((g (W.heap.size+1) ad ad).2.trans X.out);have af:=ai 3 an;have S:Hid (∀c,zS u.drew Q B m a (L++[(d,a)]) (.returned (.tuple #[])) c->c.heap[W.heap.size]?=some (.cells #[.pointer (some ⟨Q,0,none⟩)] 368)/\c.heap[W.heap.size+1]?=some (.cells #[.int .i64 (d:Nat)] 372)/\c.heap[W.heap.size+2]?=some (.cells #[.int .i64 0] 36)/\SQ Q c (W.heap.size+2)):=fun c h=>by have q:=h.2.2.kp.same _ (g W.heap.size (az _) ad).1;have a1:=h.2.2.kp.same _ (g (W.heap.size+1) ad ad).1;have r:=h.2.2.kp.same _ (g (W.heap.size+2) ad ad).1;exact⟨q.2.trans ((g W.heap.size (az _) ad).2.trans V.out),a1.2.trans ((g (W.heap.size+1) ad ad).2.trans X.out),r.2.trans ((g (W.heap.size+2) ad ad).2.trans bt.out),r.1⟩
 obtain⟨T,bi⟩:=aD a3 av;clear a3 av H g an b1 b2 b3 Z bu f1 aa b4 bb bC;go_wp2_with fail
 go_region_held3(fun w'=>w'.cell? ⟨W.heap.size,0,none⟩=some (.pointer (some ⟨Q,0,none⟩))/\w'.cell? ⟨W.heap.size+1,0,none⟩=some (.int .i64 (d:Nat))/\w'.cell? ⟨Q,3,none⟩=some (.int .u64 (a:Nat)))
  (first|exact⟨ab,ae,af⟩|exact al)
  (first|(go_at_call 257;refine T.o.mono ?_;rintro t c h;have al:c.cell? ⟨W.heap.size,0,none⟩=some (.pointer (some ⟨Q,0,none⟩))/\c.cell? ⟨W.heap.size+1,0,none⟩=some (.int .i64 (d:Nat))/\c.cell? ⟨Q,3,none⟩=some (.int .u64 (a:Nat)):=(by obtain⟨rfl,i,bA⟩:=h;obtain⟨q,a1,r,C⟩:=S.o c ⟨rfl,i,bA⟩;obtain⟨_,_,_,_,i,_⟩:=i;exact⟨ai 0 q,ai 0 a1,ai 3 i.box⟩);obtain⟨rfl,a4,F⟩:=h))
 obtain⟨q,a1,r,C⟩:=S.o c ⟨rfl,a4,F⟩;obtain⟨bF,b0,bN,bo,i,aq,h⟩:=a4;obtain⟨a2,G⟩:=i.number (p:=a+1);have a5:=(G.kp.same _ C).1;have ag:W.heap.size+2≠Q:=ad;have z:dx ((c.setCell ⟨Q,3,none⟩ (.int .u64 ((a+1:Nat):Int))).setCell ⟨W.heap.size+2,0,none⟩ (.int .i64 0)) Q B m bF b0 bN (a+1) bo:=a2.far a5 ad;have a0:bY Q W ((c.setCell ⟨Q,3,none⟩ (.int .u64 ((a+1:Nat):Int))).setCell ⟨W.heap.size+2,0,none⟩ (.int .i64 0)):=((bi.o.trans F).trans G).far ad ag;have bf:Hid (zT W Q B m a (L++[(d,a)]) (.returned (.int .i64 0)) ((c.setCell ⟨Q,3,none⟩ (.int .u64 ((a+1:Nat):Int))).setCell ⟨W.heap.size+2,0,none⟩ (.int .i64 0))):=ah ⟨rfl,⟨_,_,_,_,z,aq,h⟩,a0⟩;have ch:=ai 0 q;have bZ:=ai 0 r;have ci:=ai 3 i.box;have cd:=aT r 0;have ce:=aT i.box 3;have ca:c.heap.size≠0:=by have:=aU q;omega
 clear i aq h a2 G a5 z a0 q a1 r C F al ab ae af T;go_wp2_with fail
 refine BT (f:=313) (args:=#[.pointer (some ⟨W.heap.size,0,none⟩),.pointer (some ⟨v.heap.size,0,none⟩),.pointer (some ⟨W.heap.size+1+1,0,none⟩)]) ak (by simp[go_sem]) ?_;refine(OH _ _ _ _).mono ?_;rintro t cl co ⟨rfl,rfl,rfl⟩;have z:zT W Q B m a (L++[(d,a)]) (.returned (.int .i64 0)) ((c.setCell ⟨Q,3,none⟩ (.int .u64 ((a:Int)+1))).setCell ⟨W.heap.size+1+1,0,none⟩ (.int .i64 0)):=bf.o;have bz:((c.setCell ⟨Q,3,none⟩ (.int .u64 ((a:Int)+1))).setCell ⟨W.heap.size+1+1,0,none⟩ (.int .i64 0)).cell? ⟨W.heap.size+1+1,0,none⟩=some (.int .i64 0):=rR _ _ _ (by rw[kd _ _ _ _ (fun t=>ag (by injection t with t;exact t.symm)),bZ];rfl);exact⟨.int .i64 0,by simp[results,results278,go_sem,bz],z⟩
def zU(W:World)(Q:Nat)(a:Ending)(w':World):Prop:=a=.returned (.tuple #[.agg #[.int .i64 0],.int .i64 16])/\Below W.heap.size W w'
def Fi(W:World)(Q B b e:Nat)(L:List It)(c:Ending)(w':World):Prop:=
 ∃x:It,c=.returned (.tuple #[.agg #[.int .i64 (x.1:Nat)],.int .i64 0])/\(∀y∈L,de y x=false)/\(∃d f k a,dx w' Q B b d f k e a/\gP de a a.length/\(x::a).Perm L)/\bY Q W w'
def mI(W:World)(Q n:Nat):World:=((((W.alloc (.cells #[.pointer (some ⟨Q,0,none⟩)] 368)).alloc (.cells #[.int .i64 0] 372)).alloc (.cells #[.int .i64 0] 36)).alloc (.cells #[.int .i64 0] 372)).alloc (.cells #[.int .i64 (n:Nat)] 3)
def kB(W:World)(Q:Nat):World:=(((W.alloc (.cells #[.pointer (some ⟨Q,0,none⟩)] 368)).alloc (.cells #[.int .i64 0] 372)).alloc (.cells #[.int .i64 0] 36)).alloc (.cells #[.int .i64 0] 372)
theorem zV(W:World)(Q:Nat):Below W.heap.size W (kB W Q)/\(kB W Q).heap.size=W.heap.size+4/\(kB W Q).heap[W.heap.size]?=some (.cells #[.pointer (some ⟨Q,0,none⟩)] 368)/\(kB W Q).heap[W.heap.size+1]?=some (.cells #[.int .i64 0] 372)/\(kB W Q).heap[W.heap.size+2]?=some (.cells #[.int .i64 0] 36)/\(kB W Q).heap[W.heap.size+3]?=some (.cells #[.int .i64 0] 372):=by
 unfold kB;refine⟨((aG.alloc cL _).alloc cL _).alloc cL _,by simp only[bj],?_,?_,?_,?_⟩
 ·exact(bk _ _ _ cL).trans ((bk _ _ _ cL).trans ((bk _ _ _ cL).trans (aB W _)))
 ·have:=aB (W.alloc (.cells #[.pointer (some ⟨Q,0,none⟩)] 368)) (.cells #[.int .i64 0] 372)
  rw[bj]at this;exact(bk _ _ _ cL).trans ((bk _ _ _ cL).trans this)
 ·have:=aB ((W.alloc (.cells #[.pointer (some ⟨Q,0,none⟩)] 368)).alloc (.cells #[.int .i64 0] 372)) (.cells #[.int .i64 0] 36)
  rw[bj,bj]at this;exact(bk _ _ _ cL).trans this
 ·have:=aB (((W.alloc (.cells #[.pointer (some ⟨Q,0,none⟩)] 368)).alloc (.cells #[.int .i64 0] 372)).alloc (.cells #[.int .i64 0] 36)) (.cells #[.int .i64 0] 372)
  rw[bj,bj,bj]at this;exact this
theorem Fj(W:World)(Q n:Nat):Below W.heap.size W (mI W Q n)/\(mI W Q n).heap.size=W.heap.size+5/\(mI W Q n).heap[W.heap.size]?=some (.cells #[.pointer (some ⟨Q,0,none⟩)] 368)/\(mI W Q n).heap[W.heap.size+1]?=some (.cells #[.int .i64 0] 372)/\(mI W Q n).heap[W.heap.size+2]?=some (.cells #[.int .i64 0] 36)/\(mI W Q n).heap[W.heap.size+3]?=some (.cells #[.int .i64 0] 372)/\(mI W Q n).heap[W.heap.size+4]?=some (.cells #[.int .i64 (n:Nat)] 3):=by obtain⟨d,a,e,f,g,h⟩:=zV W Q;have c:mI W Q n=(kB W Q).alloc (.cells #[.int .i64 (n:Nat)] 3):=rfl;rw[c];have b:=aB (kB W Q) (.cells #[.int .i64 (n:Nat)] 3);rw[a]at b;exact⟨d.alloc ad _,by rw[bj,a],(bk _ _ _ ad).trans e,(bk _ _ _ ad).trans f,(bk _ _ _ ad).trans g,(bk _ _ _ ad).trans h,b⟩
theorem OK(W:World)(Q B w k G:Nat)(F H:Value)(e:dx W Q B w F H k G []):
 Calls prog 279 #[.pointer (some ⟨Q,0,none⟩)] W (zU W Q):=by
 obtain⟨S,R,rfl⟩:=bL e.items;have A:=aU e.box;obtain⟨i,j,l,x,y,z⟩:=zV W Q;obtain⟨m,n,t,f,g,o,p⟩:=Fj W Q 0;obtain⟨a,c⟩:=ar (kB W Q);obtain⟨d,h⟩:=ar (a.alloc (.cells #[.int .i64 0] 3));have s:d=mI W Q 0:=by rw[h,c];rfl
 rw[<-c]at i j l;rw[<-s]at m n t f g o p;have T:=ai 0 l;have V:=ai 0 ((i.block _ A).trans e.box);have q:=ai 0 f;have r:=ai 0 g;have I:=ai 0 o;have J:=ai 0 p;have f1:=aT f 0;have f2:=aT g 0;unfold kB at c;obtain⟨u,L,K⟩:=bH m n j;have M:W.heap.size≠a.heap.size:=ad;have N:W.heap.size+1≠a.heap.size:=ad;have O:W.heap.size+1+1≠a.heap.size:=ad;have P:W.heap.size+1+1+1≠a.heap.size:=ad;rw[h]at q r I J f1 f2;have v:=ah h;clear i j l x y z m n t f g o p s e h
 go_enter_defers func279,ntmps279
 go_wp2_with(first|(rw[<-c];clear c)|fail)
 rw[<-v.o]at q r⊢;have C:((d.setCell ⟨W.heap.size+1,0,none⟩ (.int .i64 0)).setCell ⟨W.heap.size+1+1,0,none⟩ (.int .i64 16)).cell? ⟨W.heap.size+1,0,none⟩=some (.int .i64 0):=by rw[kd _ _ _ _ (fun b=>by injection b with b;omega)];exact rR _ _ _ (by rw[q];rfl)
 have D:((d.setCell ⟨W.heap.size+1,0,none⟩ (.int .i64 0)).setCell ⟨W.heap.size+1+1,0,none⟩ (.int .i64 16)).cell? ⟨W.heap.size+1+1,0,none⟩=some (.int .i64 16):=
  rR _ _ _ (by rw[kd _ _ _ _ (fun b=>by injection b with b;omega),r];rfl)
 have E:zU W Q (.returned (.tuple #[.agg #[.int .i64 0],.int .i64 16])) ((d.setCell ⟨W.heap.size+1,0,none⟩ (.int .i64 0)).setCell ⟨W.heap.size+1+1,0,none⟩ (.int .i64 16)):=⟨rfl,(u.o.setCell ak _).setCell aR _⟩;exact⟨.tuple #[.agg #[.int .i64 0],.int .i64 16],by simp[results,results279,go_sem,C,D,underlying372],E⟩
theorem OL(W:World)(Q B s k C n:Nat)(bw a6:Value)(L:List It)(d:dx W Q B s bw a6 k C L)(ag:gP de L L.length)(R:L.length=n+1)(bq:n<=1048575):
 Calls prog 279 #[.pointer (some ⟨Q,0,none⟩)] W (Fi W Q B s C L):=by
 obtain⟨X,V,rfl⟩:∃X V,a6=.slice X k V:=by obtain⟨ys,bu⟩:=d.swaps;exact bL bu
 obtain⟨b5,b4,rfl⟩:=bL d.items;have bi:=aU d.box;have bZ:=aU d.ob;obtain⟨I,J,K,be,bf,bg⟩:=zV W Q;obtain⟨l,ab,z,M,j,ae,N⟩:=Fj W Q (n+1);obtain⟨D,p⟩:=ar (kB W Q);obtain⟨t,O⟩:=ar (D.alloc (.cells #[.int .i64 ((n:Int)+1)] 3));have aa:t=mI W Q (n+1):=by rw[O,p];rfl
 rw[<-p]at I J K;rw[<-aa]at l ab z M j ae N;have bF:=ai 0 K;have a7:=ai 0 ((I.block _ bi).trans d.box);rw[R]at a7;have y:=d.below l;obtain⟨G,S⟩:=y.reset;have H:=G.below (aE _ _).drew;have T:=((fj d l).trans S).trans (fj G (aE _ _).drew);have bD:=ai 0 z;have bE:t.cell? ⟨D.heap.size,0,none⟩=some (.int .i64 ((n:Int)+1)):=by rw[J];exact ai 0 N
 have d4:((n:Int)+1==0)=false:=aR;have bc:=ai 1 y.box;have f1:=aT y.box 1;obtain⟨u,A⟩:=ar ((t.setCell ⟨Q,1,none⟩ (.slice X 0 V)).drew);rw[<-A]at H T;have b1:=oG;have bt:=fun w=>wN d.swaps.choose_spec w;have av:=OF u Q B s C n _ _ L H ag R bq;have i:∀b,W.heap.size<=b->b<W.heap.size+5->SQ Q u b/\u.heap[b]?=t.heap[b]?:=fun b a1 h=>by have:=(S.kp.same b (d.sq_new l a1 ad));rw[A];exact this
 have Z:Hid (∀c,bY Q u c->c.heap[W.heap.size+1]?=some (.cells #[.int .i64 0] 372)/\c.heap[W.heap.size+2]?=some (.cells #[.int .i64 0] 36)/\SQ Q c (W.heap.size+1)/\SQ Q c (W.heap.size+2)):=fun c q=>by have a1:=q.kp.same _ (i (W.heap.size+1) ad ad).1;have h:=q.kp.same _ (i (W.heap.size+2) ad ad).1;exact⟨a1.2.trans ((i (W.heap.size+1) ad ad).2.trans M),h.2.trans ((i (W.heap.size+2) ad ad).2.trans j),a1.1,h.1⟩
 have bd:=ai 0 ((i W.heap.size (az _) ad).2.trans z);obtain⟨bb,a9,ba⟩:=bH T A av;unfold kB at p;clear I J K be bf bg l ab z M j ae N aa d y G S H T ag R A av i
 go_enter_defers func279,ntmps279
 go_wp2_with(first|(rw[<-p];clear p)|(rw[<-O];clear O)|fail)
 go_region
 rw[<-a9.o];clear bF a7 bD bE bc f1 bt;go_wp2_with fail
 refine ba.o.mono ?_;rintro g c ⟨⟨a,m⟩,rfl,aq,⟨b6,ca,b7,bN,r,al,q⟩,P⟩;obtain⟨x,j,e,Y⟩:=cm c (.cells #[.int .i64 (a:Nat),.int .u64 (m:Nat)] 414);obtain⟨a1,h,E,F⟩:=Z.o c P;have bz:=E.2.2;have bA:=F.2.2;have u1:=(e.block _ bz).trans a1;have u2:=(e.block _ bA).trans h;have a0:=r.below e;have an:=(bb.out.trans P).trans (fj r e);have a4:=(fj r e).kp.same _ E;have a5:=(fj r e).kp.same _ F;have a2:=a0.far (o:=0) (v:=.int .i64 (a:Nat)) a4.1 ad;have a3:=a2.far (o:=0) (v:=.int .i64 0) (a5.1.far ad) ad;have ao:bY Q W ((x.setCell ⟨W.heap.size+1,0,none⟩ (.int .i64 (a:Nat))).setCell ⟨W.heap.size+2,0,none⟩ (.int .i64 0)):=(an.far ad ad).far ad ad;have af:Fi W Q B s C L (.returned (.tuple #[.agg #[.int .i64 (a:Nat)],.int .i64 0])) ((x.setCell ⟨W.heap.size+1,0,none⟩ (.int .i64 (a:Nat))).setCell ⟨W.heap.size+1+1,0,none⟩ (.int .i64 0)):=⟨(a,m),rfl,aq,⟨_,_,_,_,a3,al,q⟩,ao⟩;have a8:=ah af;have cc:=ai 0 Y;have cd:=ai 1 Y;have bB:=ai 0 u1;have bC:=ai 0 u2;have b8:=aT u1 0;have b9:=aT u2 0;have b0:=fun(w:World)=>Fd (.agg #[.int .i64 (a:Nat),.int .u64 (m:Nat)]) w;have b2:c.heap.size≠W.heap.size+1:=ad;have b3:c.heap.size≠W.heap.size+1+1:=ad;clear r al q aq P e Y a1 h E F u1 u2 a0 an a4 a5 a2 a3 ao af bd Z;simp only;go_wp2_with(first|(rw[<-j];clear j)|fail)
 refine BT (f:=315) (args:=#[.pointer (some ⟨W.heap.size,0,none⟩),.pointer (some ⟨D.heap.size,0,none⟩),.pointer (some ⟨W.heap.size+1+1+1,0,none⟩),.pointer (some ⟨W.heap.size+1,0,none⟩),.pointer (some ⟨W.heap.size+1+1,0,none⟩)]) ak (by simp[go_sem]) ?_;refine(OI _ _ _ _ _ _).mono ?_;rintro g cb ce ⟨rfl,rfl,rfl⟩;have bl:((x.setCell ⟨W.heap.size+1,0,none⟩ (.int .i64 (a:Nat))).setCell ⟨W.heap.size+1+1,0,none⟩ (.int .i64 0)).cell? ⟨W.heap.size+1,0,none⟩=some (.int .i64 (a:Nat)):=by rw[kd _ _ _ _ (fun g=>by injection g with g;omega)];exact rR _ _ _ (by rw[bB];rfl)
 have bo:((x.setCell ⟨W.heap.size+1,0,none⟩ (.int .i64 (a:Nat))).setCell ⟨W.heap.size+1+1,0,none⟩ (.int .i64 0)).cell? ⟨W.heap.size+1+1,0,none⟩=some (.int .i64 0):=
  rR _ _ _ (by rw[kd _ _ _ _ (fun g=>by injection g with g;omega),bC];rfl)
 exact⟨.tuple #[.agg #[.int .i64 (a:Nat)],.int .i64 0],by simp[results,results279,go_sem,bl,bo,underlying372],a8.o⟩
end Go.Proofs.YtnadadbndcdolaaGreatDoor
