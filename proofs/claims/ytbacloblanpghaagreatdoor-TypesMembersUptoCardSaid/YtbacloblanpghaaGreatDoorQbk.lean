import Derived.Test.YtbacloblanpghaaGreatDoorQbj
set_option linter.unusedVariables false
set_option linter.unusedSimpArgs false
set_option maxRecDepth 100000
set_option maxHeartbeats 0
namespace Go.Proofs.YtbacloblanpghaaGreatDoor
open Go.RowKit Tryz
theorem rW(v:Value)(w:World):(method 514 375 v "Less").run prog w=.ok (329,v) w:=ay
theorem DH(v:Value)(w:World):(method 514 375 v "Len").run prog w=.ok (328,v) w:=ay
theorem rX(v:Value)(w:World):(method 514 375 v "Swap").run prog w=.ok (332,v) w:=ay
theorem M0(v:Value)(w:World):(method 514 375 v "Push").run prog w=.ok (331,v) w:=ay
theorem M4(v:Value)(w:World):(method 514 375 v "Pop").run prog w=.ok (330,v) w:=ay
theorem jB(k:FuncId)(args:Array Value)(w:World)(a:k=329∨k=328∨k=332∨k=331∨k=330):(callFunc k args).run prog w=.ok (.enter k args) w:=by rcases a with rfl|rfl|rfl|rfl|rfl<;>rfl
def yq(W:World)(Q B c f b:Nat)(L:List It)(e:Value)(wr:World):Prop:=
 ∃d g k j a,e=.int .i64 (j:Nat)/\dq wr Q B c d g k f a/\pr cU a j/\j<a.length/\k+j<=b/\a.Perm L/\ca Q W wr
def yr(W:World)(Q B b e:Nat)(L:List It)(c:Ending)(w':World):Prop:=
 c=.returned (.tuple #[])/\(∃d f k a,dq w' Q B b d f k e a/\gD cU a a.length/\a.Perm L)/\ca Q W w'
theorem M5(W:World)(Q B c k d j:Nat)(h l:Value)(L:List It)(y:dq W Q B c h l k d L)(e:pr cU L j)(n:j<L.length)(a2:L.length<=1048577)(C:k+j<=1048576):
 Calls prog 233 #[.iface 375 (.pointer (some ⟨Q,0,none⟩)),.int .i64 (j:Nat)] W (yr W Q B c d L):=by
 have R:Hid (yq W Q B c d 1048576 L (.int .i64 (j:Nat)) W):=ah ⟨h,l,k,j,L,rfl,y,e,n,C,List.Perm.refl _,eY y (aA _ W)⟩;clear y e n C;go_enter func233,ntmps233
 go_wp2
 go_loopw [1] (fun E wr=>yq W Q B c d 1048576 L E wr) (fun E _=>(intOf E).toNat)
 case atStart=>exact R.out
 case round=>
 clear R;obtain⟨h,l,k,j,m,rfl,g,e,n,C,f,p⟩:=hrel;have ab:=f.length_eq;by_cases aa:j=0
 ·subst aa
  have u:Hid (yr W Q B c d L (.returned (.tuple #[])) wr):=ah ⟨rfl,⟨_,_,_,_,g,MG e,f⟩,p⟩;clear g e f p
  go_wp2
  go_end0
  exact u.o
 ·obtain⟨i,M⟩:=aj ((j-1)/2)
  have a1:i<j:=ad;have aq:((j:Int)-1).tdiv 2=(i:Nat):=by rw[zU ad];omega
  obtain⟨a,z⟩:∃a,m[j]?=some a:=⟨_,aF n⟩;obtain⟨b,A⟩:∃b,m[i]?=some b:=⟨_,aF ad⟩;have O:=rU wr Q B c k d j i h l m a b g z A ad;have ao:((i:Int)==(j:Int))=false:=aO;obtain⟨G,H,I,T,x,s,t,v⟩:=oZ O g e p f z A M;clear O g e p f z A M ab;have ae:=rW (.pointer (some ⟨Q,0,none⟩)) wr;have av:=fun args w=>jB 329 args w ak;go_wp2_with fail
  refine G.o.mono ?_;rintro Y F ⟨rfl,K⟩;have r:=H.o.below K;have o:=T.o.trans (eY H.o K);clear ae G;cases q:cU a b with
  |false=>
   have u:Hid (yr W Q B c d L (.returned (.tuple #[])) F):=ah ⟨rfl,⟨_,_,_,_,r,MH I.o s.o (by rw[<-v.o];exact t.o) q,x.o⟩,o⟩;clear r o q
   go_wp2
   go_end0
   exact u.o
  |true=>
   have af:=rX (.pointer (some ⟨Q,0,none⟩)) F;have a0:=fun args w=>jB 332 args w ak;have S:=rV F Q B c k d i j h l m b a r t.o s.o (by have:=x.o.length_eq;omega) ad;have D:=MI mO I.o ad s.o (by rw[<-v.o];exact t.o) q;rw[<-v.o]at D;obtain⟨X,J,V⟩:=bO D S o;clear r o q S D;go_wp2_with fail
   refine J.o.mono ?_;rintro Y an ⟨rfl,⟨ag,al,P⟩,N⟩;have Z:Hid (yq W Q B c d 1048576 L (.int .i64 (i:Nat)) an):=ah ⟨ag,al,k+1,i,_,rfl,P,X.o,by rw[n5];omega,ad,(rS _ _ _).trans x.o,V.o.trans N⟩;clear P N af J
   go_wp2
   go_roundw
   case rel=>exact Z.out
   case measure=>exact aH
def rY(W:World)(Q B b e n:Nat)(L:List It)(x:It)(d:Value)(wr:World):Prop:=
 ∃c f k i a,d=.int .i64 (i:Nat)/\dq wr Q B b c f k e a/\n6 cU a n i/\a.length=n+1/\a[n]?=some x/\k<=i+1/\i<=n/\a.Perm L/\ca Q W wr
def rZ(W:World)(Q B b e n:Nat)(L:List It)(x:It)(c:Ending)(w':World):Prop:=
 (∃q:Bool,c=.returned (.bool q))/\(∃d f k a,dq w' Q B b d f k e a/\gD cU a n/\a.length=n+1/\a[n]?=some x/\a.Perm L/\k<=1048577)/\ca Q W w'
theorem M6(W:World)(Q B c k d n:Nat)(s t:Value)(L:List It)(x:It)(a3:dq W Q B c s t k d L)(bu:n6 cU L n 0)(bq:L.length=n+1)(f:L[n]?=some x)(b6:n<=1048575)(a7:k<=1):
 Calls prog 234 #[.iface 375 (.pointer (some ⟨Q,0,none⟩)),.int .i64 0,.int .i64 (n:Nat)] W (rZ W Q B c d n L x):=by
 have bt:Hid (rY W Q B c d n L x (.int .i64 0) W):=ah ⟨s,t,k,0,L,rfl,a3,bu,bq,f,a7,aK _,List.Perm.refl _,eY a3 (aA _ W)⟩;clear a3 bu a7 bq f;go_enter func234,ntmps234
 go_wp2
 go_loopw [7] (fun ba wr=>rY W Q B c d n L x ba wr) (fun ba _=>n-(intOf ba).toNat)
 case atStart=>exact bt.out
 case round=>
 clear bt;obtain⟨s,t,k,i,e,rfl,P,aa,af,f,a7,b5,an,ae⟩:=hrel;obtain⟨b,ab⟩:∃j,j=2*i+1:=⟨_,rfl⟩;have bF:2*(i:Int)+1=(b:Nat):=ad;obtain⟨H,N,K,I⟩:=cI aa f an af;have J:Hid (e.length<=1048576):=ah ad;by_cases b0:n<=b
 ·have G:Hid (∀q,rZ W Q B c d n L x (.returned (.bool q)) wr):=fun q=>⟨⟨q,rfl⟩,⟨_,_,_,_,P,ML aa ad,af,f,an,ad⟩,ae⟩
  have b7:(0:Int)<=i:=ad;have b8:i<=1048576:=ad;clear P aa af f an ae ab
  go_wp2
  go_ret;exact G.o _
 ·obtain⟨a,a4⟩:∃a,e[i]?=some a:=⟨_,aF ad⟩
  obtain⟨z,a0⟩:∃a,e[b]?=some a:=⟨_,aF ad⟩;obtain⟨p,a6⟩:∃j,j=2*i+2:=⟨_,rfl⟩;have bZ:(b:Int)+1=(p:Nat):=ad;obtain⟨g,h,S,be⟩:=cI a4 a0 P ae;have b3:i<b:=ad;have b4:i<p:=ad;by_cases b1:p<n
  ·obtain⟨Y,a5⟩:∃a,e[p]?=some a:=⟨_,aF ad⟩
   have u:=ah a5;have bm:=rU wr Q B c k d p b s t e Y z P a5 a0 ad;have bB:=rW (.pointer (some ⟨Q,0,none⟩)) wr;have bz:=fun args w=>jB 329 args w ak;have bf:=ah bm;have bw:b<n:=ad;obtain⟨bb,bc⟩:=aE ab a6;clear P aa af f an ae ab a6 bm a5 a0 a4;go_wp2_with fail
   refine bf.o.mono ?_;rintro O a2 ⟨rfl,bi⟩;obtain⟨M,bd⟩:=aE (S.o.below bi) (be.o.trans (eY S.o bi));clear bB bf bz;cases a1:cU Y z with
   |true=>
    have v:Hid (n7 cU e n i p):=ah (by have:=u.o;have:=h.o;have:=bb.o;have:=bc.o;subst b;subst p;exact MO mO uQ ad u.o h.o a1);clear a1;have bE:=rW (.pointer (some ⟨Q,0,none⟩)) a2;have b2:=fun args w=>jB 329 args w ak;have bo:=rU a2 Q B c k d p i s t e Y a M.o u.o g.o (by have:=J.o;omega);have bg:=ah bo;clear bo;go_wp2_with fail
    refine bg.o.mono ?_;rintro O r ⟨rfl,A⟩;have o:=M.o.below A;have l:=bd.o.trans (eY M.o A);clear bE bg;cases m:cU Y a with
    |false=>
     have G:Hid (∀q,rZ W Q B c d n L x (.returned (.bool q)) r):=fun q=>⟨⟨q,rfl⟩,⟨_,_,_,_,o,ym mO H.o v.o u.o g.o m,I.o,N.o,K.o,ad⟩,l⟩;clear o l m
     go_wp2
     go_ret;exact G.o _
    |true=>
     have al:=rX (.pointer (some ⟨Q,0,none⟩)) r;have bl:=fun args w=>jB 332 args w ak;have F:=rV r Q B c k d i p s t e a Y o g.o u.o (by have:=J.o;omega) ad;have E:=yo mO H.o v.o u.o g.o m;have f:(fP e i p)[n]?=some x:=by rw[pq g.o u.o,ap ad,ap ad];exact N.o
     obtain⟨X,V,y,T⟩:=cI f E F l;clear o l m F E f;go_wp2_with fail
     refine y.o.mono ?_;rintro O av ⟨rfl,⟨ao,aq,D⟩,C⟩;have Z:Hid (rY W Q B c d n L x (.int .i64 (p:Nat)) av):=ah ⟨ao,aq,k+1,p,_,rfl,D,V.o,by rw[n5];exact I.o,X.o,ad,ad,(rS _ _ _).trans K.o,T.o.trans C⟩;clear D C al y
     go_wp2
     go_roundw
     case rel=>exact Z.out
     case measure=>exact aH
   |false=>
    have v:Hid (n7 cU e n i b):=ah (by have:=u.o;have:=h.o;have:=bb.o;have:=bc.o;subst b;subst p;exact MN uQ ad u.o h.o a1);clear a1;have a9:=rW (.pointer (some ⟨Q,0,none⟩)) a2;have bA:=fun args w=>jB 329 args w ak;have ag:=rU a2 Q B c k d b i s t e z a M.o h.o g.o (by have:=J.o;omega);have R:=ah ag;clear ag;go_wp2_with fail
    refine R.o.mono ?_;rintro O r ⟨rfl,A⟩;have o:=M.o.below A;have l:=bd.o.trans (eY M.o A);clear a9 R;cases m:cU z a with
    |false=>
     have G:Hid (∀q,rZ W Q B c d n L x (.returned (.bool q)) r):=fun q=>⟨⟨q,rfl⟩,⟨_,_,_,_,o,ym mO H.o v.o h.o g.o m,I.o,N.o,K.o,ad⟩,l⟩;clear o l m
     go_wp2
     go_ret;exact G.o _
    |true=>
     have al:=rX (.pointer (some ⟨Q,0,none⟩)) r;have bl:=fun args w=>jB 332 args w ak;have F:=rV r Q B c k d i b s t e a z o g.o h.o (by have:=J.o;omega) ad;have E:=yo mO H.o v.o h.o g.o m;have f:(fP e i b)[n]?=some x:=by rw[pq g.o h.o,ap ad,ap ad];exact N.o
     obtain⟨X,V,y,T⟩:=cI f E F l;clear o l m F E f;go_wp2_with fail
     refine y.o.mono ?_;rintro O av ⟨rfl,⟨ao,aq,D⟩,C⟩;have Z:Hid (rY W Q B c d n L x (.int .i64 (b:Nat)) av):=ah ⟨ao,aq,k+1,b,_,rfl,D,V.o,by rw[n5];exact I.o,X.o,ad,ad,(rS _ _ _).trans K.o,T.o.trans C⟩;clear D C al y
     go_wp2
     go_roundw
     case rel=>exact Z.out
     case measure=>exact aH
  ·have v:Hid (n7 cU e n i b):=ah (by subst ab;exact MM uQ ad ad)
   have bw:b<n:=ad;clear P aa af f an ae ab a6 a0 a4;have a9:=rW (.pointer (some ⟨Q,0,none⟩)) wr;have bA:=fun args w=>jB 329 args w ak;have ag:=rU wr Q B c k d b i s t e z a S.o h.o g.o (by have:=J.o;omega);have R:=ah ag;clear ag;go_wp2_with fail
   refine R.o.mono ?_;rintro O r ⟨rfl,A⟩;have o:=S.o.below A;have l:=be.o.trans (eY S.o A);clear a9 R;cases m:cU z a with
   |false=>
    have G:Hid (∀q,rZ W Q B c d n L x (.returned (.bool q)) r):=fun q=>⟨⟨q,rfl⟩,⟨_,_,_,_,o,ym mO H.o v.o h.o g.o m,I.o,N.o,K.o,ad⟩,l⟩;clear o l m
    go_wp2
    go_ret;exact G.o _
   |true=>
    have al:=rX (.pointer (some ⟨Q,0,none⟩)) r;have bl:=fun args w=>jB 332 args w ak;have F:=rV r Q B c k d i b s t e a z o g.o h.o (by have:=J.o;omega) ad;have E:=yo mO H.o v.o h.o g.o m;have f:(fP e i b)[n]?=some x:=by rw[pq g.o h.o,ap ad,ap ad];exact N.o
    obtain⟨X,V,y,T⟩:=cI f E F l;clear o l m F E f;go_wp2_with fail
    refine y.o.mono ?_;rintro O av ⟨rfl,⟨ao,aq,D⟩,C⟩;have Z:Hid (rY W Q B c d n L x (.int .i64 (b:Nat)) av):=ah ⟨ao,aq,k+1,b,_,rfl,D,V.o,by rw[n5];exact I.o,X.o,ad,ad,(rS _ _ _).trans K.o,T.o.trans C⟩;clear D C al y
    go_wp2
    go_roundw
    case rel=>exact Z.out
    case measure=>exact aH
def yt(W:World)(Q B b e:Nat)(L:List It)(c:Ending)(w':World):Prop:=
 c=.returned (.tuple #[])/\(∃d f k a,dq w' Q B b d f k e a/\gD cU a a.length/\a.Perm L)/\ca Q W w'
theorem M8(W:World)(Q B a b:Nat)(v c:Value)(L:List It)(x:It)(l:dq W Q B a v c 0 b L)(o:gD cU L L.length)(H:L.length<=1048575):
 Calls prog 198 #[.iface 375 (.pointer (some ⟨Q,0,none⟩)),.iface 368 (.agg #[.int .i64 (x.1:Nat),.int .u64 (x.2:Nat)])] W (yt W Q B a b (L++[x])):=by
 have f:=MT W Q B a 0 b v c L x l ad;have F:=M0 (.pointer (some ⟨Q,0,none⟩)) W;have D:=fun args w=>jB 331 args w ak;obtain⟨r,m⟩:=x;simp only at f⊢;obtain⟨i,A⟩:=aE f o;clear f l o;go_enter func198,ntmps198
 go_wp2_with fail
 refine i.o.mono ?_;rintro j w1 ⟨rfl,⟨y,g⟩,p⟩;have e:=DA w1 Q B a 0 b y c _ g;rw[show((L++[(r,m)]).length:Nat)=L.length+1 by simp]at e;have u:=M5 w1 Q B a 0 b L.length y c _ g (MF A.o) ak aO ad;have G:=DH (.pointer (some ⟨Q,0,none⟩)) w1;have E:=fun args w=>jB 328 args w ak;obtain⟨h,d,C⟩:=bO e u p;clear e u g p F D i;go_wp2_with fail
 refine h.o.mono ?_;rintro j K ⟨rfl,rfl⟩;obtain⟨n,s⟩:=aj (L.length);rw[<-s]at d H⊢;clear s h G E;have J:((n+1:Nat):Int)-1=(n:Nat):=ad;go_wp2_with fail
 refine d.o.mono ?_;rintro j I ⟨rfl,t,q⟩;have z:Hid (yt W Q B a b (L++[(r,m)]) (.returned (.tuple #[])) I):=ah ⟨rfl,t,C.o.trans q⟩;clear t q d
 go_wp2
 go_end0
 exact z.o
def DI(W:World)(Q B b e:Nat)(L:List It)(c:Ending)(w':World):Prop:=
 ∃x:It,c=.returned (.iface 368 (.agg #[.int .i64 (x.1:Nat),.int .u64 (x.2:Nat)]))/\(∀y∈L,cU y x=false)/\(∃d f k a,dq w' Q B b d f k e a/\gD cU a a.length/\(x::a).Perm L)/\ca Q W w'
theorem M9(W:World)(Q B d e n:Nat)(u v:Value)(L:List It)(o:dq W Q B d u v 0 e L)(p:gD cU L L.length)(h:L.length=n+1)(a6:n<=1048575):
 Calls prog 200 #[.iface 375 (.pointer (some ⟨Q,0,none⟩))] W (DI W Q B d e L):=by
 obtain⟨x,i⟩:∃a,L[0]?=some a:=⟨_,aF ad⟩;obtain⟨z,t⟩:∃a,L[n]?=some a:=⟨_,aF ad⟩;have N:∀y∈L,cU y x=false:=fun y a7=>by obtain⟨k,I⟩:=zu a7;exact MJ mO p uQ k y x (aP.1 I).1 (aB _) I i
 have s:=DA W Q B d 0 e u v L o;rw[h]at s;have V:=rV W Q B d 0 e 0 n u v L x z o i t ad ad;have G:n6 cU (fP L 0 n) n 0:=MK (by rw[<-h];exact p) ad;have Z:(fP L 0 n)[n]?=some x:=by rw[pq i t,au rfl]
 have X:(fP L 0 n).length=n+1:=by rw[n5];exact h
 have a3:=DH (.pointer (some ⟨Q,0,none⟩)) W;have a4:=rX (.pointer (some ⟨Q,0,none⟩)) W;have bm:=fun args w=>jB 328 args w ak;have bo:=fun args w=>jB 332 args w ak;have bq:=fun args w=>jB 330 args w ak;obtain⟨C,D,ag,av,aq,ao⟩:=gR s V G Z X N;have bl:((n+1:Nat):Int)-1=(n:Nat):=ad;clear s V G Z X N i t o p h;go_enter func200,ntmps200
 go_wp2_with fail
 refine C.o.mono ?_;rintro l w1 ⟨rfl,Y⟩;rw[Y];clear C a3 Y w1;go_wp2_with fail
 refine D.o.mono ?_;rintro l bg ⟨rfl,⟨a9,be,R⟩,J⟩;have F:=M6 bg Q B d 1 e n a9 be _ x R ag.o aq.o av.o a6 ad;obtain⟨A,al⟩:=aE F J;clear F R J a4 D;go_wp2_with fail
 refine A.o.mono ?_;rintro l aa ⟨⟨q,rfl⟩,⟨ba,bf,bd,E,S,H,f,g,O,bt⟩,K⟩;obtain⟨c,rfl⟩:∃c,E=c++[x]:=by
  rcases List.eq_nil_or_concat E with rfl|⟨c,y,rfl⟩
  ·simp at f
  ·simp only[List.concat_eq_append]at f g⊢
   simp at f;rw[gH ad]at g;simp[f]at g;exact⟨c,by rw[g]⟩
 have a2:c.length=n:=by simpa using f
 have P:=MZ aa Q B d bd e ba bf c x S ad;have a5:=M4 (.pointer (some ⟨Q,0,none⟩)) aa;have ae:Hid (gD cU c c.length):=ah (by intro k a b bb bc a0 a1;exact H k a b bb ad (by rw[eF bc];exact a0) (by rw[eF ad];exact a1))
 have af:Hid ((x::c).Perm L):=ah (((List.perm_append_singleton x c).symm.trans O).trans (rS _ _ _));obtain⟨j,an⟩:=aE P (al.o.trans K);clear P S H f g O K a2 A;obtain⟨r,m⟩:=x;simp only at j;go_wp2_with fail
 refine j.o.mono ?_;rintro l bi ⟨rfl,⟨bu,T⟩,M⟩;have ab:Hid (DI W Q B d e L (.returned (.iface 368 (.agg #[.int .i64 (r:Nat),.int .u64 (m:Nat)]))) bi):=ah ⟨(r,m),rfl,ao.o,⟨_,_,_,_,T,ae.o,af.o⟩,an.o.trans M⟩;clear T M j a5
 go_wp2
 go_ret;exact ab.o
theorem n9(fn:Fn)(first cap:Array Value)(w:World):(Instr.makeFunc fn first cap).run prog w=.ok (.func fn first cap) w:=rfl
theorem Na(W:World):Calls prog 228 #[.func (.func 229) #[] #[]] W fun i w'=>i=.returned (.tuple #[.pointer (some ⟨W.heap.size+1,0,none⟩),.int .i64 0])/\dq w' (W.heap.size+1) (W.heap.size+2) W.heap.size (.slice none 0 0) (.slice none 0 0) 0 0 []/\Below W.heap.size W w':=by
 obtain⟨b,a⟩:=aj ((W.alloc (.cells #[.func (.func 229) #[] #[]] 323)).alloc (.cells #[.slice none 0 0,.slice none 0 0,qr W.heap.size,.int .u64 ((0:Nat):Int)] 374));have c:Below W.heap.size W b:=by rw[a];exact az.alloc ak _
 have d:b.heap[W.heap.size]?=some (.cells #[.func (.func 229) #[] #[]] 323):=by rw[a];exact(bH _ _ _ ak).trans (aC W _)
 have e:b.heap[W.heap.size+1]?=some (.cells #[.slice none 0 0,.slice none 0 0,qr W.heap.size,.int .u64 ((0:Nat):Int)] 374):=by rw[a];have:=aC (W.alloc (.cells #[.func (.func 229) #[] #[]] 323)) (.cells #[.slice none 0 0,.slice none 0 0,qr W.heap.size,.int .u64 ((0:Nat):Int)] 374);rwa[bI]at this
 have l:b.heap.size=W.heap.size+2:=by rw[a];simp
 have h:Hid (dq b (W.heap.size+1) (W.heap.size+2) W.heap.size (.slice none 0 0) (.slice none 0 0) 0 0 []/\Below W.heap.size W b):=
  ah ⟨⟨e,cR _ _ _ _,⟨[],cR _ _ _ _⟩,(fun g j=>by cases j),ad,ad,d,ad,ad⟩,c⟩
 have m:=n9;have n:∀w:World,(binOp BinOp.eql 323 (.func (.func 229) #[] #[]) .nilFunc).run prog w=.ok (.bool false) w:=fun _=>rfl;unfold qr at a;clear c d e l;go_enter func228,ntmps228
 go_wp2_with(first|(rw[<-a];clear a)|fail)
 go_ret2
 have f:=h.o;rw[a]at f;exact⟨rfl,f⟩
theorem Nb(a b c:Value)(w:World):CallsD prog 272 #[a,b,c] .returning w fun e g w'=>e=.returned (.tuple #[])/\g=.returning/\w'=w:=by
 refine z6 func272 rfl fun d cs f=> ?_;apply wpS_seq;apply wpS_region;simp[wpOpsS,go_sem,recoverD,f,ntmps272,Exit.thenS];refine wpS_cond (t:=false) (by simp[Act.eval,Array.replicate]) ?_;simp only[kh,i6];refine wpS_of_wp (wp_skip ?_);cases d
 simp_all[bodyPostS,results,results272]
theorem Nc(a b c d e:Value)(w:World):CallsD prog 274 #[a,b,c,d,e] .returning w fun e h w'=>e=.returned (.tuple #[])/\h=.returning/\w'=w:=by
 refine z6 func274 rfl fun f cs g=> ?_;apply wpS_seq;apply wpS_region;simp[wpOpsS,go_sem,recoverD,g,ntmps274,Exit.thenS];refine wpS_cond (t:=false) (by simp[Act.eval,Array.replicate]) ?_;simp only[kh,i6];refine wpS_of_wp (wp_skip ?_);cases f
 simp_all[bodyPostS,results,results274]
theorem SQ.apart{q s f:TypeId}{t n:Nat}{av g:Value}{xs:List Value}{Q B e:Nat}{W:World}{c d:Value}{k r b:Nat}(h:QG q s f t av g W Q B e c d k r n xs)(p:SQ Q W b):c.ownBlock≠some b/\d.ownBlock≠some b/\b≠Q/\b<W.heap.size:=by
 obtain⟨⟨w,y,u,x,v,i,j,l⟩,m,o⟩:=p;have a:=h.box;rw[i]at a;injection a with a
 injection a with a
 simp at a;obtain⟨rfl,rfl,_,_⟩:=a;exact⟨j,l,m,o⟩
theorem QG.sq{m p e:TypeId}{q n:Nat}{av f:Value}{xs:List Value}{Q B d:Nat}{W:World}{a c:Value}{k o b:Nat}(g:QG m p e q av f W Q B d a c k o n xs)(h:a.ownBlock≠some b)(i:c.ownBlock≠some b)(j:b≠Q)(l:b<W.heap.size):SQ Q W b:=
 ⟨⟨_,_,_,_,_,g.box,h,i⟩,j,l⟩
theorem QG.sq_new{l p f:TypeId}{r n:Nat}{av g:Value}{xs:List Value}{Q B e:Nat}{W d:World}{m q:Value}{k o b:Nat}(c:QG l p f r av g W Q B e m q k o n xs)(i:Below W.heap.size W d)(s:W.heap.size<=b)(h:b<d.heap.size):SQ Q d b:=
 (c.below i).sq (fun a=>by have:=(aV c.items a).2;omega) (fun a=>by obtain⟨ys,j⟩:=c.swaps;have:=(aV j a).2;omega) (fun a=>by have:=aN c.box;omega) h
theorem QG.sq_low{j o e:TypeId}{q n:Nat}{av f:Value}{xs:List Value}{Q B d:Nat}{W:World}{l p:Value}{k m b:Nat}(c:QG j o e q av f W Q B d l p k m n xs)(r:b<B)(g:b≠Q)(h:b<W.heap.size):SQ Q W b:=
 c.sq (fun a=>by have:=(aV c.items a).1;omega) (fun a=>by obtain⟨ys,i⟩:=c.swaps;have:=(aV i a).1;omega) g h
theorem QG.far{i m f:TypeId}{q n:Nat}{av h:Value}{xs:List Value}{Q B d:Nat}{W:World}{j p:Value}{k l b o:Nat}{v:Value}(a:QG i m f q av h W Q B d j p k l n xs)(w:SQ Q W b)(u:d≠b):QG i m f q av h (W.setCell ⟨b,o,none⟩ v) Q B d j p k l n xs:=by obtain⟨r,s,t,y⟩:=w.apart a;exact⟨(aX _ _ _ _ _ (fun c=>t c.symm)).trans a.box,aY a.items (fun g e=>aX _ _ _ _ _ (fun c=>r (c▸e))),by obtain⟨ys,x⟩:=a.swaps;exact⟨ys,aY x (fun g e=>aX _ _ _ _ _ (fun c=>s (c▸e)))⟩,a.apart,a.low,by rw[dK];exact a.lowB,(aX _ _ _ _ _ u).trans a.ob,a.obB,a.obQ⟩
theorem SQ.far{Q b x o:Nat}{W:World}{v:Value}(e:SQ Q W x)(l:b≠Q):SQ Q (W.setCell ⟨b,o,none⟩ v) x:=by obtain⟨⟨m,p,a,n,d,f,g,h⟩,i,j⟩:=e;exact⟨⟨m,p,a,n,d,(aX _ _ _ _ _ (fun c=>l c.symm)).trans f,g,h⟩,i,by rw[dK];exact j⟩
theorem ca.far{Q b o:Nat}{W w:World}{v:Value}(a:ca Q W w)(e:W.heap.size<=b)(d:b≠Q):ca Q W (w.setCell ⟨b,o,none⟩ v):=
 ⟨a.os,a.tape,a.output,by rw[dK];exact a.kp.size,fun x c=>⟨(a.kp.same x c).1.far d,(aX _ _ _ _ _ (by have:=c.2.2;omega)).trans (a.kp.same x c).2⟩⟩
theorem QG.reset{p r l:TypeId}{s n:Nat}{av m:Value}{xs:List Value}{Q B h:Nat}{W:World}{j:Value}{k q d:Nat}{e:Option Addr}(c:QG p r l s av m W Q B h j (.slice e k d) k q n xs):
 QG p r l s av m (W.setCell ⟨Q,1,none⟩ (.slice e 0 d)) Q B h j (.slice e 0 d) 0 q n xs/\ca Q W (W.setCell ⟨Q,1,none⟩ (.slice e 0 d)):=by
 obtain⟨ys,E⟩:=c.swaps;have t:(Value.slice e 0 d).ownBlock=(Value.slice e k d).ownBlock:=by cases e<;>rfl
 have v:W.ownsRow B 328 2 (.slice e 0 d) 0 []:=by
  refine⟨rfl,?_⟩;rcases E.2 with⟨o,f⟩|⟨g,cap,w,D,y,a,o,f,x,F⟩
  ·subst f
   exact .inl ⟨o,rfl⟩
  ·cases D
   exact .inr ⟨g,d,w,rfl,y,a,aK _,f,x,ak⟩
 have i:∀g,g≠Q->(W.setCell ⟨Q,1,none⟩ (.slice e 0 d)).heap[g]?=W.heap[g]?:=fun g a=>aX _ _ _ _ _ a;have A:∀g,j.ownBlock=some g->g≠Q:=fun g a=>by have:=(aV c.items a).1;have:=c.low;omega
 have C:∀g,(Value.slice e 0 d).ownBlock=some g->g≠Q:=fun g a=>by have:=(aV v a).1;have:=c.low;omega
 have z:=bL W Q 1 (.slice e 0 d) c.box;have u:QG p r l s av m (W.setCell ⟨Q,1,none⟩ (.slice e 0 d)) Q B h j (.slice e 0 d) 0 q n xs:=
  ⟨z,aY c.items (fun g a=>i g (A g a)),⟨[],aY v (fun g a=>i g (C g a))⟩,fun g a=>by rw[t];exact c.apart g a,c.low,by rw[dK];exact c.lowB,(i h c.obQ).trans c.ob,c.obB,c.obQ⟩
 exact⟨u,n8 c.box u.box rfl rfl rfl (by rw[dK];exact aB _) (fun b o f _ _=>i b f) (fun g a=>.inl a) (fun g a=>.inr (.inl (by rw[<-t];exact a)))⟩
theorem QG.number{l m i:TypeId}{o n:Nat}{av j:Value}{xs:List Value}{Q B d:Nat}{W:World}{f h:Value}{k w p:Nat}(a:QG l m i o av j W Q B d f h k w n xs):
 QG l m i o av j (W.setCell ⟨Q,3,none⟩ (.int .u64 (p:Nat))) Q B d f h k p n xs/\ca Q W (W.setCell ⟨Q,3,none⟩ (.int .u64 (p:Nat))):=by
 obtain⟨ys,r⟩:=a.swaps;have e:∀g,g≠Q->(W.setCell ⟨Q,3,none⟩ (.int .u64 (p:Nat))).heap[g]?=W.heap[g]?:=fun g c=>aX _ _ _ _ _ c;have u:∀g,f.ownBlock=some g->g≠Q:=fun g c=>by have:=(aV a.items c).1;have:=a.low;omega
 have v:∀g,h.ownBlock=some g->g≠Q:=fun g c=>by have:=(aV r c).1;have:=a.low;omega
 have t:=bL W Q 3 (.int .u64 (p:Nat)) a.box;have q:QG l m i o av j (W.setCell ⟨Q,3,none⟩ (.int .u64 (p:Nat))) Q B d f h k p n xs:=
  ⟨t,aY a.items (fun g c=>e g (u g c)),⟨ys,aY r (fun g c=>e g (v g c))⟩,a.apart,a.low,by rw[dK];exact a.lowB,(e d a.obQ).trans a.ob,a.obB,a.obQ⟩
 exact⟨q,n8 a.box q.box rfl rfl rfl (by rw[dK];exact aB _) (fun b x s _ _=>e b s) (fun g c=>.inl c) (fun g c=>.inr (.inl c))⟩
theorem uR{W:World}{B k a:Nat}{b:Option Addr}{ys:List Value}(f:W.ownsRow B 328 2 (.slice b k a) k ys)(w:World):(Instr.slice 285 (.slice b k a) none (some (.int .i64 0)) none).run prog w=.ok (.slice b 0 a) w:=by
 rcases f.2 with⟨c,d⟩|⟨g,cap,h,e,l,m,c,d,i,j⟩
 ·cases c
  simp[Instr.slice,go_sem,zZ]
 ·cases e
  have:(0:Int)<=a:=ad;simp[Instr.slice,go_sem,zZ,this]
def yu(W:World)(Q B b e:Nat)(L:List It)(c:Ending)(w':World):Prop:=
 c=.returned (.int .i64 0)/\(∃d f k a,dq w' Q B b d f k (e+1) a/\gD cU a a.length/\a.Perm L)/\ca Q W w'
theorem Nd(W:World)(Q B l k a r:Nat)(b0 ba:Value)(L:List It)(d:dq W Q B l b0 ba k a L)(ao:gD cU L L.length)(bE:L.length<=1048575)(ci:a<=1048576):
 Calls prog 230 #[.pointer (some ⟨Q,0,none⟩),.agg #[.int .i64 (r:Nat)]] W (yu W Q B l a (L++[(r,a)])):=by
 obtain⟨K,J,rfl⟩:∃K J,ba=.slice K k J:=by obtain⟨ys,bZ⟩:=d.swaps;exact cC bZ
 obtain⟨cp,co,rfl⟩:=cC d.items;obtain⟨n,A⟩:=aj (L.length);have bz:=aN d.box;have ce:=aN d.ob;obtain⟨m,j⟩:=aj ((((W.alloc (.cells #[.pointer (some ⟨Q,0,none⟩)] 318)).alloc (.cells #[.int .i64 (r:Nat)] 322)).alloc (.cells #[.int .i64 0] 36)).alloc (.cells #[.int .i64 (n:Nat)] 3));have x:Below W.heap.size W m:=by rw[j];exact((az.alloc cz _).alloc cz _).alloc cz _
 have a7:m.heap.size=W.heap.size+4:=by rw[j];simp
 have M:m.heap[W.heap.size]?=some (.cells #[.pointer (some ⟨Q,0,none⟩)] 318):=by rw[j];exact(bH _ _ _ cz).trans ((bH _ _ _ cz).trans ((bH _ _ _ cz).trans (aC W _)))
 have N:m.heap[W.heap.size+1]?=some (.cells #[.int .i64 (r:Nat)] 322):=by rw[j];have:=aC (W.alloc (.cells #[.pointer (some ⟨Q,0,none⟩)] 318)) (.cells #[.int .i64 (r:Nat)] 322);rw[bI]at this;exact(bH _ _ _ cz).trans ((bH _ _ _ cz).trans this)
 have O:m.heap[W.heap.size+2]?=some (.cells #[.int .i64 0] 36):=by rw[j];have:=aC ((W.alloc (.cells #[.pointer (some ⟨Q,0,none⟩)] 318)).alloc (.cells #[.int .i64 (r:Nat)] 322)) (.cells #[.int .i64 0] 36);rw[bI,bI]at this;exact(bH _ _ _ cz).trans this
 obtain⟨v,s⟩:=aj (((W.alloc (.cells #[.pointer (some ⟨Q,0,none⟩)] 318)).alloc (.cells #[.int .i64 (r:Nat)] 322)).alloc (.cells #[.int .i64 0] 36));have Y:Below W.heap.size W v:=by rw[s];exact(az.alloc cz _).alloc cz _
 have a9:v.heap.size=W.heap.size+3:=by rw[s];simp
 have bb:v.heap[W.heap.size]?=some (.cells #[.pointer (some ⟨Q,0,none⟩)] 318):=by rw[s];exact(bH _ _ _ cz).trans ((bH _ _ _ cz).trans (aC W _))
 rw[<-s]at j;have b8:=ai 0 bb;have bc:=ai 0 ((Y.block _ bz).trans d.box);rw[<-A]at bc;have i:=d.below x;obtain⟨y,a6⟩:=i.reset;have D:=y.below (aA _ _).drew;have I:=((eY d x).trans a6).trans (eY y (aA _ _).drew);have b5:=ai 0 M;have b6:=ai 0 N;have b7:=ai 0 O;have Z:=ai 0 i.box;have bu:=ai 1 i.box;have bw:=aQ i.box 1;have aa:=ai 0 d.box;obtain⟨u,E⟩:=aj ((m.setCell ⟨Q,1,none⟩ (.slice K 0 J)).drew);rw[<-E]at D I;have ch:=n9;rw[<-A]at Z aa;obtain⟨cc,P,bm,be,V,X,bt,bq,R,b9⟩:=kB a9 D I i M N O a7 E A;obtain⟨bi,bd,bf⟩:=bO ao d x;have bF:=fun w=>uR d.swaps.choose_spec w;clear d i y a6 D I M N O a7 E A ao x Y a9 bb
 go_enter_defers func230,ntmps230
 go_wp2_with(first|(rw[<-s];clear s)|(rw[<-j];clear j)|fail)
 go_region
 rw[<-R.o];have H:=P.o.below (aA _ _).drew;have a3:=M8 u.drew Q B l a _ _ L (r,a) H bi.o bE;have e:∀b,W.heap.size<=b->b<W.heap.size+4->SQ Q u.drew b/\u.drew.heap[b]?=m.heap[b]?:=fun b i y=>by have:=(be.o.reset.2.kp.same b (bd.o.sq_new bf.o i (by have:=bq.out;omega)));rw[R.o];exact this
 have an:=H.box;have av:=bm.out.trans (eY P.o (aA _ _).drew);have ab:=ai 0 ((e W.heap.size (aB _) ad).2.trans V.out);have ae:=ai 0 ((e (W.heap.size+1) ad ad).2.trans X.out);have af:=ai 3 an;have S:Hid (∀c,yt u.drew Q B l a (L++[(r,a)]) (.returned (.tuple #[])) c->c.heap[W.heap.size]?=some (.cells #[.pointer (some ⟨Q,0,none⟩)] 318)/\c.heap[W.heap.size+1]?=some (.cells #[.int .i64 (r:Nat)] 322)/\c.heap[W.heap.size+2]?=some (.cells #[.int .i64 0] 36)/\SQ Q c (W.heap.size+2)):=fun c g=>by have o:=g.2.2.kp.same _ (e W.heap.size (aB _) ad).1;have a1:=g.2.2.kp.same _ (e (W.heap.size+1) ad ad).1;have q:=g.2.2.kp.same _ (e (W.heap.size+2) ad ad).1;exact⟨o.2.trans ((e W.heap.size (aB _) ad).2.trans V.out),a1.2.trans ((e (W.heap.size+1) ad ad).2.trans X.out),q.2.trans ((e (W.heap.size+2) ad ad).2.trans bt.out),q.1⟩
 obtain⟨T,bl⟩:=aE a3 av;clear a3 av H e an b5 b6 b7 Z bu bw aa b8 bc bF;go_wp2_with fail
 go_region_held3(fun w'=>w'.cell? ⟨W.heap.size,0,none⟩=some (.pointer (some ⟨Q,0,none⟩))/\w'.cell? ⟨W.heap.size+1,0,none⟩=some (.int .i64 (r:Nat))/\w'.cell? ⟨Q,3,none⟩=some (.int .u64 (a:Nat)))
  (first|exact⟨ab,ae,af⟩|exact al)
  (first|(go_at_call 198;refine T.o.mono ?_;rintro t c g;have al:c.cell? ⟨W.heap.size,0,none⟩=some (.pointer (some ⟨Q,0,none⟩))/\c.cell? ⟨W.heap.size+1,0,none⟩=some (.int .i64 (r:Nat))/\c.cell? ⟨Q,3,none⟩=some (.int .u64 (a:Nat)):=(by obtain⟨rfl,h,bB⟩:=g;obtain⟨o,a1,q,C⟩:=S.o c ⟨rfl,h,bB⟩;obtain⟨_,_,_,_,h,_⟩:=h;exact⟨ai 0 o,ai 0 a1,ai 3 h.box⟩);obtain⟨rfl,a4,F⟩:=g))
 obtain⟨o,a1,q,C⟩:=S.o c ⟨rfl,a4,F⟩;obtain⟨b1,b4,b2,bo,h,aq,g⟩:=a4;obtain⟨a2,G⟩:=h.number (p:=a+1);have a5:=(G.kp.same _ C).1;have ag:W.heap.size+2≠Q:=ad;have z:dq ((c.setCell ⟨Q,3,none⟩ (.int .u64 ((a+1:Nat):Int))).setCell ⟨W.heap.size+2,0,none⟩ (.int .i64 0)) Q B l b1 b4 b2 (a+1) bo:=a2.far a5 ad;have a0:ca Q W ((c.setCell ⟨Q,3,none⟩ (.int .u64 ((a+1:Nat):Int))).setCell ⟨W.heap.size+2,0,none⟩ (.int .i64 0)):=((bl.o.trans F).trans G).far ad ag;have bg:Hid (yu W Q B l a (L++[(r,a)]) (.returned (.int .i64 0)) ((c.setCell ⟨Q,3,none⟩ (.int .u64 ((a+1:Nat):Int))).setCell ⟨W.heap.size+2,0,none⟩ (.int .i64 0))):=ah ⟨rfl,⟨_,_,_,_,z,aq,g⟩,a0⟩;have cu:=ai 0 o;have b3:=ai 0 q;have cx:=ai 3 h.box;have cq:=aQ q 0;have cs:=aQ h.box 3;have cl:c.heap.size≠0:=by have:=aN o;omega
 clear h aq g a2 G a5 z a0 o a1 q C F al ab ae af T;go_wp2_with fail
 refine z7 (f:=272) (args:=#[.pointer (some ⟨W.heap.size,0,none⟩),.pointer (some ⟨v.heap.size,0,none⟩),.pointer (some ⟨W.heap.size+1+1,0,none⟩)]) ak (by simp[go_sem]) ?_;refine(Nb _ _ _ _).mono ?_;rintro t cG cN ⟨rfl,rfl,rfl⟩;have z:yu W Q B l a (L++[(r,a)]) (.returned (.int .i64 0)) ((c.setCell ⟨Q,3,none⟩ (.int .u64 ((a:Int)+1))).setCell ⟨W.heap.size+1+1,0,none⟩ (.int .i64 0)):=bg.o;have bA:((c.setCell ⟨Q,3,none⟩ (.int .u64 ((a:Int)+1))).setCell ⟨W.heap.size+1+1,0,none⟩ (.int .i64 0)).cell? ⟨W.heap.size+1+1,0,none⟩=some (.int .i64 0):=qU _ _ _ (by rw[kj _ _ _ _ (fun t=>ag (by injection t with t;exact t.symm)),b3];rfl);exact⟨.int .i64 0,by simp[results,results230,go_sem,bA],z⟩
def yv(W:World)(Q:Nat)(a:Ending)(w':World):Prop:=a=.returned (.tuple #[.agg #[.int .i64 0],.int .i64 16])/\Below W.heap.size W w'
def DJ(W:World)(Q B b e:Nat)(L:List It)(c:Ending)(w':World):Prop:=
 ∃x:It,c=.returned (.tuple #[.agg #[.int .i64 (x.1:Nat)],.int .i64 0])/\(∀y∈L,cU y x=false)/\(∃d f k a,dq w' Q B b d f k e a/\gD cU a a.length/\(x::a).Perm L)/\ca Q W w'
def lW(W:World)(Q n:Nat):World:=((((W.alloc (.cells #[.pointer (some ⟨Q,0,none⟩)] 318)).alloc (.cells #[.int .i64 0] 322)).alloc (.cells #[.int .i64 0] 36)).alloc (.cells #[.int .i64 0] 322)).alloc (.cells #[.int .i64 (n:Nat)] 3)
def jZ(W:World)(Q:Nat):World:=(((W.alloc (.cells #[.pointer (some ⟨Q,0,none⟩)] 318)).alloc (.cells #[.int .i64 0] 322)).alloc (.cells #[.int .i64 0] 36)).alloc (.cells #[.int .i64 0] 322)
theorem yw(W:World)(Q:Nat):Below W.heap.size W (jZ W Q)/\(jZ W Q).heap.size=W.heap.size+4/\(jZ W Q).heap[W.heap.size]?=some (.cells #[.pointer (some ⟨Q,0,none⟩)] 318)/\(jZ W Q).heap[W.heap.size+1]?=some (.cells #[.int .i64 0] 322)/\(jZ W Q).heap[W.heap.size+2]?=some (.cells #[.int .i64 0] 36)/\(jZ W Q).heap[W.heap.size+3]?=some (.cells #[.int .i64 0] 322):=by
 unfold jZ;refine⟨((az.alloc cz _).alloc cz _).alloc cz _,by simp only[bI],?_,?_,?_,?_⟩
 ·exact(bH _ _ _ cz).trans ((bH _ _ _ cz).trans ((bH _ _ _ cz).trans (aC W _)))
 ·have:=aC (W.alloc (.cells #[.pointer (some ⟨Q,0,none⟩)] 318)) (.cells #[.int .i64 0] 322)
  rw[bI]at this;exact(bH _ _ _ cz).trans ((bH _ _ _ cz).trans this)
 ·have:=aC ((W.alloc (.cells #[.pointer (some ⟨Q,0,none⟩)] 318)).alloc (.cells #[.int .i64 0] 322)) (.cells #[.int .i64 0] 36)
  rw[bI,bI]at this;exact(bH _ _ _ cz).trans this
 ·have:=aC (((W.alloc (.cells #[.pointer (some ⟨Q,0,none⟩)] 318)).alloc (.cells #[.int .i64 0] 322)).alloc (.cells #[.int .i64 0] 36)) (.cells #[.int .i64 0] 322)
  rw[bI,bI,bI]at this;exact this
theorem DK(W:World)(Q n:Nat):Below W.heap.size W (lW W Q n)/\(lW W Q n).heap.size=W.heap.size+5/\(lW W Q n).heap[W.heap.size]?=some (.cells #[.pointer (some ⟨Q,0,none⟩)] 318)/\(lW W Q n).heap[W.heap.size+1]?=some (.cells #[.int .i64 0] 322)/\(lW W Q n).heap[W.heap.size+2]?=some (.cells #[.int .i64 0] 36)/\(lW W Q n).heap[W.heap.size+3]?=some (.cells #[.int .i64 0] 322)/\(lW W Q n).heap[W.heap.size+4]?=some (.cells #[.int .i64 (n:Nat)] 3):=by obtain⟨d,a,e,f,g,h⟩:=yw W Q;have c:lW W Q n=(jZ W Q).alloc (.cells #[.int .i64 (n:Nat)] 3):=rfl;rw[c];have b:=aC (jZ W Q) (.cells #[.int .i64 (n:Nat)] 3);rw[a]at b;exact⟨d.alloc ad _,by rw[bI,a],(bH _ _ _ ad).trans e,(bH _ _ _ ad).trans f,(bH _ _ _ ad).trans g,(bH _ _ _ ad).trans h,b⟩
theorem Nf(W:World)(Q B w k I:Nat)(H J:Value)(e:dq W Q B w H J k I []):
 Calls prog 231 #[.pointer (some ⟨Q,0,none⟩)] W (yv W Q):=by
 obtain⟨V,T,rfl⟩:=cC e.items;have D:=aN e.box;obtain⟨i,j,l,z,A,C⟩:=yw W Q;obtain⟨m,n,t,f,g,o,p⟩:=DK W Q 0;obtain⟨a,c⟩:=aj (jZ W Q);obtain⟨d,h⟩:=aj (a.alloc (.cells #[.int .i64 0] 3));have s:d=lW W Q 0:=by rw[h,c];rfl
 rw[<-c]at i j l;rw[<-s]at m n t f g o p;have X:=ai 0 l;have Y:=ai 0 ((i.block _ D).trans e.box);have q:=ai 0 f;have r:=ai 0 g;have K:=ai 0 o;have L:=ai 0 p;have x:=aQ f 0;have y:=aQ g 0;unfold jZ at c;obtain⟨u,N,M⟩:=bO m n j;have O:W.heap.size≠a.heap.size:=ad;have P:W.heap.size+1≠a.heap.size:=ad;have R:W.heap.size+1+1≠a.heap.size:=ad;have S:W.heap.size+1+1+1≠a.heap.size:=ad;rw[h]at q r K L x y;have v:=ah h;clear i j l z A C m n t f g o p s e h
 go_enter_defers func231,ntmps231
 go_wp2_with(first|(rw[<-c];clear c)|fail)
 rw[<-v.o]at q r⊢;have E:((d.setCell ⟨W.heap.size+1,0,none⟩ (.int .i64 0)).setCell ⟨W.heap.size+1+1,0,none⟩ (.int .i64 16)).cell? ⟨W.heap.size+1,0,none⟩=some (.int .i64 0):=by rw[kj _ _ _ _ (fun b=>by injection b with b;omega)];exact qU _ _ _ (by rw[q];rfl)
 have F:((d.setCell ⟨W.heap.size+1,0,none⟩ (.int .i64 0)).setCell ⟨W.heap.size+1+1,0,none⟩ (.int .i64 16)).cell? ⟨W.heap.size+1+1,0,none⟩=some (.int .i64 16):=
  qU _ _ _ (by rw[kj _ _ _ _ (fun b=>by injection b with b;omega),r];rfl)
 have G:yv W Q (.returned (.tuple #[.agg #[.int .i64 0],.int .i64 16])) ((d.setCell ⟨W.heap.size+1,0,none⟩ (.int .i64 0)).setCell ⟨W.heap.size+1+1,0,none⟩ (.int .i64 16)):=⟨rfl,(u.o.setCell ak _).setCell aO _⟩;exact⟨.tuple #[.agg #[.int .i64 0],.int .i64 16],by simp[results,results231,go_sem,E,F,underlying322],G⟩
theorem Ng(W:World)(Q B t k C n:Nat)(bz a6:Value)(L:List It)(c:dq W Q B t bz a6 k C L)(ag:gD cU L L.length)(R:L.length=n+1)(bt:n<=1048575):
 Calls prog 231 #[.pointer (some ⟨Q,0,none⟩)] W (DJ W Q B t C L):=by
 obtain⟨X,V,rfl⟩:∃X V,a6=.slice X k V:=by obtain⟨ys,bw⟩:=c.swaps;exact cC bw
 obtain⟨cc,b9,rfl⟩:=cC c.items;have bm:=aN c.box;have b4:=aN c.ob;obtain⟨I,J,K,bg,bi,bl⟩:=yw W Q;obtain⟨l,ab,z,M,d,ae,N⟩:=DK W Q (n+1);obtain⟨D,p⟩:=aj (jZ W Q);obtain⟨u,O⟩:=aj (D.alloc (.cells #[.int .i64 ((n:Int)+1)] 3));have aa:u=lW W Q (n+1):=by rw[O,p];rfl
 rw[<-p]at I J K;rw[<-aa]at l ab z M d ae N;have b1:=ai 0 K;have a7:=ai 0 ((I.block _ bm).trans c.box);rw[R]at a7;have y:=c.below l;obtain⟨G,S⟩:=y.reset;have H:=G.below (aA _ _).drew;have T:=((eY c l).trans S).trans (eY G (aA _ _).drew);have bZ:=ai 0 z;have b0:u.cell? ⟨D.heap.size,0,none⟩=some (.int .i64 ((n:Int)+1)):=by rw[J];exact ai 0 N
 have b3:((n:Int)+1==0)=false:=aO;have bd:=ai 1 y.box;have be:=aQ y.box 1;obtain⟨x,A⟩:=aj ((u.setCell ⟨Q,1,none⟩ (.slice X 0 V)).drew);rw[<-A]at H T;have b6:=n9;have bu:=fun w=>uR c.swaps.choose_spec w;have av:=M9 x Q B t C n _ _ L H ag R bt;have j:∀b,W.heap.size<=b->b<W.heap.size+5->SQ Q x b/\x.heap[b]?=u.heap[b]?:=fun b a1 i=>by have:=(S.kp.same b (c.sq_new l a1 ad));rw[A];exact this
 have Z:Hid (∀a,ca Q x a->a.heap[W.heap.size+1]?=some (.cells #[.int .i64 0] 322)/\a.heap[W.heap.size+2]?=some (.cells #[.int .i64 0] 36)/\SQ Q a (W.heap.size+1)/\SQ Q a (W.heap.size+2)):=fun a q=>by have a1:=q.kp.same _ (j (W.heap.size+1) ad ad).1;have i:=q.kp.same _ (j (W.heap.size+2) ad ad).1;exact⟨a1.2.trans ((j (W.heap.size+1) ad ad).2.trans M),i.2.trans ((j (W.heap.size+2) ad ad).2.trans d),a1.1,i.1⟩
 have bf:=ai 0 ((j W.heap.size (aB _) ad).2.trans z);obtain⟨bc,ba,bb⟩:=bO T A av;unfold jZ at p;clear I J K bg bi bl l ab z M d ae N aa c y G S H T ag R A av j
 go_enter_defers func231,ntmps231
 go_wp2_with(first|(rw[<-p];clear p)|(rw[<-O];clear O)|fail)
 go_region
 rw[<-ba.o];clear b1 a7 bZ b0 bd be bu;go_wp2_with fail
 refine bb.o.mono ?_;rintro g a ⟨⟨r,m⟩,rfl,aq,⟨ce,co,ch,b2,s,al,q⟩,P⟩;obtain⟨h,d⟩:=aj (a.alloc (.cells #[.int .i64 (r:Nat),.int .u64 (m:Nat)] 368));have e:Below a.heap.size a h:=by rw[d];exact az
 have Y:h.heap[a.heap.size]?=some (.cells #[.int .i64 (r:Nat),.int .u64 (m:Nat)] 368):=by rw[d];exact aC a _
 obtain⟨a1,i,E,F⟩:=Z.o a P;have bA:=E.2.2;have bB:=F.2.2;have u1:=(e.block _ bA).trans a1;have u2:=(e.block _ bB).trans i;have a0:=s.below e;have an:=(bc.out.trans P).trans (eY s e);have a4:=(eY s e).kp.same _ E;have a5:=(eY s e).kp.same _ F;have a2:=a0.far (o:=0) (v:=.int .i64 (r:Nat)) a4.1 ad;have a3:=a2.far (o:=0) (v:=.int .i64 0) (a5.1.far ad) ad;have ao:ca Q W ((h.setCell ⟨W.heap.size+1,0,none⟩ (.int .i64 (r:Nat))).setCell ⟨W.heap.size+2,0,none⟩ (.int .i64 0)):=(an.far ad ad).far ad ad;have af:DJ W Q B t C L (.returned (.tuple #[.agg #[.int .i64 (r:Nat)],.int .i64 0])) ((h.setCell ⟨W.heap.size+1,0,none⟩ (.int .i64 (r:Nat))).setCell ⟨W.heap.size+1+1,0,none⟩ (.int .i64 0)):=⟨(r,m),rfl,aq,⟨_,_,_,_,a3,al,q⟩,ao⟩;have a9:=ah af;have cq:=ai 0 Y;have cs:=ai 1 Y;have bE:=ai 0 u1;have bF:=ai 0 u2;have ci:=aQ u1 0;have cl:=aQ u2 0;have b5:=fun(w:World)=>DE (.agg #[.int .i64 (r:Nat),.int .u64 (m:Nat)]) w;have b7:a.heap.size≠W.heap.size+1:=ad;have b8:a.heap.size≠W.heap.size+1+1:=ad;clear s al q aq P e Y a1 i E F u1 u2 a0 an a4 a5 a2 a3 ao af bf Z;simp only;go_wp2_with(first|(rw[<-d];clear d)|fail)
 refine z7 (f:=274) (args:=#[.pointer (some ⟨W.heap.size,0,none⟩),.pointer (some ⟨D.heap.size,0,none⟩),.pointer (some ⟨W.heap.size+1+1+1,0,none⟩),.pointer (some ⟨W.heap.size+1,0,none⟩),.pointer (some ⟨W.heap.size+1+1,0,none⟩)]) ak (by simp[go_sem]) ?_;refine(Nc _ _ _ _ _ _).mono ?_;rintro g cp cu ⟨rfl,rfl,rfl⟩;have bo:((h.setCell ⟨W.heap.size+1,0,none⟩ (.int .i64 (r:Nat))).setCell ⟨W.heap.size+1+1,0,none⟩ (.int .i64 0)).cell? ⟨W.heap.size+1,0,none⟩=some (.int .i64 (r:Nat)):=by rw[kj _ _ _ _ (fun g=>by injection g with g;omega)];exact qU _ _ _ (by rw[bE];rfl)
 have bq:((h.setCell ⟨W.heap.size+1,0,none⟩ (.int .i64 (r:Nat))).setCell ⟨W.heap.size+1+1,0,none⟩ (.int .i64 0)).cell? ⟨W.heap.size+1+1,0,none⟩=some (.int .i64 0):=
  qU _ _ _ (by rw[kj _ _ _ _ (fun g=>by injection g with g;omega),bF];rfl)
 exact⟨.tuple #[.agg #[.int .i64 (r:Nat)],.int .i64 0],by simp[results,results231,go_sem,bo,bq,underlying322],a9.o⟩
end Go.Proofs.YtbacloblanpghaaGreatDoor
