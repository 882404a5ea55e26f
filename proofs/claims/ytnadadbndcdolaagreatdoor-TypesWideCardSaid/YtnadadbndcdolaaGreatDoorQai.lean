import Derived.Test.YtnadadbndcdolaaGreatDoorQah
set_option linter.unusedVariables false
set_option linter.unusedSimpArgs false
set_option maxRecDepth 100000
set_option maxHeartbeats 0
namespace Go.Proofs.YtnadadbndcdolaaGreatDoor
open Go.RowKit Tryz
theorem Jy(n:Bytes)(t:aw):∀(ts:List aw) (i:Nat) (a:Option Nat),jn i (ts++[t]) n a=if t.name=n then some (i+ts.length)else jn i ts n a:=by
 intro ts;induction ts with
 |nil=>intro i a;simp[jn]
 |cons x ts ih=>
  intro i a;simp only[jf,jn];rw[ih];simp only[db];rw[show i+1+ts.length=i+(ts.length+1) by omega]
theorem Cu(ts:List aw)(t:aw)(n:Bytes):placeS (ts++[t]) n=if t.name=n then some ts.length else placeS ts n:=by unfold placeS;rw[Jy,cD]
def iK:List Bytes->Nat
 |[]=>0
 |a::t=>(if t.contains a then 0 else 1)+iK t
theorem Cv(l:List Bytes)(a:Bytes):iK (l++[a])=if l.contains a then iK l else iK l+1:=by
 induction l with
 |nil=>simp[iK]
 |cons b t ih=>
  simp only[jf,iK,ih];by_cases c:a=b
  ·subst c
   by_cases d:t.contains a=true
   ·simp_all
   ·simp_all;omega
  ·have f:((a==b):Bool)=false:=by simpa using c
   have g:¬b=a:=fun d=>c d.symm;by_cases d:t.contains a=true
   ·by_cases e:t.contains b=true<;>simp_all
   ·by_cases e:t.contains b=true<;>simp_all<;>omega
theorem Jz(l:List Bytes):iK l<=l.length:=by
 induction l with
 |nil=>simp[iK]
 |cons b t ih=>simp only[iK,db];split<;>omega
theorem Cw(l:List Bytes):decide (iK l<l.length)=dk l:=by
 have a:iK l<l.length↔dk l=true:=by
  induction l with
  |nil=>simp[iK,dk]
  |cons b t ih=>
   have f:=Jz t;have d:iK (b::t)=(if t.contains b=true then 0 else 1)+iK t:=rfl;have e:dk (b::t)=(t.contains b||dk t):=rfl;rw[d,e,di,<-ih,db];by_cases c:t.contains b=true
   ·rw[ay c]
    exact⟨fun _=>.inl c,fun _=>ad⟩
   ·rw[au c]
    exact⟨fun a=>.inr ad,fun a=>by rcases a with a|a;exact absurd a c;omega⟩
 rw[iF,ft];exact a
structure Pl(D:DataW Unit)(ts:List aw):Prop where
 tidy:Maps.Tidy D
 at0:∀n:Bytes,D.atKey (.string n) (.lit (.int .i64 0))=.lit (.int .i64 (((placeS ts n).getD 0:Nat):Int))
 has:∀n:Bytes,Maps.has D (.string n)=(placeS ts n).isSome
 size:Maps.size D=iK (ts.map aw.name)
theorem yi(ts:List aw)(n:Bytes):(placeS ts n).isSome=(ts.map aw.name).contains n:=by
 have:∀(l:List aw) (i:Nat) (a:Option Nat),(jn i l n a).isSome=(a.isSome||(l.map aw.name).contains n):=by
  intro l;induction l with
  |nil=>intro i a;simp[jn]
  |cons t l ih=>
   intro i a;simp only[jn,ih,gd,List.contains_cons];by_cases b:t.name=n
   ·simp[b]
   ·have c:((n==t.name):Bool)=false:=by simpa using fun d=>b d.symm
    simp[b,c]
 simpa[placeS]using this ts 0 none
theorem Pl.nil:Pl (.map []) []:=⟨Maps.tidy_empty,fun n=>rfl,fun n=>rfl,rfl⟩
theorem Pl.snoc{d:DataW Unit}{ts:List aw}(a:Pl d ts)(t:aw):Pl (d.put (.string t.name) (.lit (.int .i64 (ts.length:Nat)))) (ts++[t]):=by
 refine⟨a.tidy.put dH _,fun n=> ?_,fun n=> ?_,?_⟩
 ·rw[Cu]
  by_cases b:t.name=n
  ·subst b
   rw[ay rfl,Maps.atKey_put_same a.tidy.isMap dH];rfl
  ·rw[au b,Maps.atKey_put_other (by simpa using fun c:n=t.name=>b c.symm)]
   exact a.at0 n
 ·rw[Cu]
  by_cases b:t.name=n
  ·subst b
   rw[ay rfl,Ij a.tidy.isMap dH];rfl
  ·rw[au b,Ik (by simpa using fun c:n=t.name=>b c.symm)]
   exact a.has n
 ·rw[Maps.size_put a.tidy,a.has t.name,yi,iH,gd,ul,Cv,a.size]
theorem kM{n:Nat}(a:n<=1048576):(Lit.int .i64 (n:Int)).wf=true:=WalkArith.wf_i64 ad
def eF(w:World)(M:Nat)(ts:List aw):Prop:=∃a n,Pl a ts/\n<=ts.length/\w.ownsMap prog 9 (plainElem prog 3) M n a
theorem eF.kept{w w':World}{M:Nat}{ts:List aw}{row:Option Nat}(b:eF w M ts)(d:w.grownBy w' row)(g:some M≠row):eF w' M ts:=by obtain⟨a,n,c,f,e⟩:=b;exact⟨a,n,c,f,e.kept d g⟩
theorem eF.alloc{w:World}{M:Nat}{ts:List aw}(a:eF w M ts)(o:Obj):eF (w.alloc o) M ts:=a.kept (jD w o none) ak
theorem Cx(l:List am)(o:Option Addr)(cap:Nat)(w:World)(f:bR w o cap l)(N:l.length<=1048576)(J:∀x∈l,x.t.name.length<=1048576):
 Calls prog 57 #[.agg #[.slice o l.length cap]] w fun e w'=>e=.returned (.map (some (w.heap.size+1)))/\eF w' (w.heap.size+1) (l.map am.t)/\Below w.heap.size w w':=by
 have O:=f.1.2.1;have A:=f.1.2.2.1;unfold maxLen at A;have z:Below w.heap.size w ((w.alloc (.cells #[.slice o l.length cap] 24)).alloc (.map #[] 0)):=aG.alloc ak _;have F:eF ((w.alloc (.cells #[.slice o l.length cap] 24)).alloc (.map #[] 0)) (w.heap.size+1) []:=by have:=AZ (H:=Unit) (w.alloc (.cells #[.slice o l.length cap] 24)) prog 9 (plainElem prog 3);have u:(w.alloc (.cells #[.slice o l.length cap] 24)).heap.size=w.heap.size+1:=ak;rw[u]at this;exact⟨_,0,Pl.nil,az _,this⟩
 have P:= @l8 prog;go_enter func57,ntmps57
 go_wp2
 go_loopw [10] (fun v wr=>∃k:Nat,v=.int .i64 k/\k<=l.length/\eF wr (w.heap.size+1) ((l.take k).map am.t)/\Below w.heap.size w wr) (fun v _=>l.length-(intOf v).toNat)
 case atStart=>exact⟨0,rfl,aZ _,F,z⟩
 case round=>
  obtain⟨k,rfl,L,a,c⟩:=hrel;by_cases E:k<l.length
  ·have B:decide ((k:Int)<l.length)=true:=bQ
   have M:(k:Int)<l.length:=ad;obtain⟨x,d⟩:∃n,l[k]?=some n:=⟨_,aH E⟩;obtain⟨b,R,rfl,K,T,V,W,X,Y,Z⟩:=(f.below c).at d;have Q:=J x (aX d);have q:(l.take (k+1)).map am.t=(l.take k).map am.t++[x.t]:=by rw[bV,d];simp
   have h:((l.take k).map am.t).length=k:=by rw[cf,fm];omega
   have D:keyOf prog 9 (.string ⟨x.t.name.toArray⟩)=some (.string x.t.name):=by have:=Il gq (s:=⟨x.t.name.toArray⟩) (by rw[dV];show x.t.name.length<=maxLen;unfold maxLen;omega);simpa using this
   have g:=c.alloc c.size (.cells (typeRow x).toArray 53);have y:=a.alloc (.cells (typeRow x).toArray 53);obtain⟨r,n,m,G,p⟩:=y;obtain⟨i,t⟩:=aD q m;rw[h]at G;unfold typeRow at p g;clear q m d a;go_wp2_with(first
    |(at_mapUpdate;go_must (refine A3 _ rfl _ _ _ 74 rfl 9 3 (ll gq) jE _ (w.heap.size+1) _ r rfl p bI _ _ _ rfl rfl D _ [] (plainElem_int cU (kM ad)) ?_);intro S I C)
    |go_in)
   go_roundw
   case rel=>exact⟨k+1,aV,ad,⟨_,n+1,by rw[i.o];have:=t.o.snoc x.t;rw[h]at this;exact this,by rw[i.o,cR,h];simp;omega,I⟩,g.grown C g.size (fun j e=>by cases e;omega)⟩
   case measure=>exact bh
  ·have B:decide ((k:Int)<l.length)=false:=bK
   rw[dh ad]at a
   go_wp2
   go_ret;exact⟨rfl,a,c⟩
theorem mh{w:World}{B:Nat}{o:Option Addr}{n c:Nat}{d:List Bytes}(f:cn w B (.slice o n c) d):n=d.length/\dZ w o c d:=by
 by_cases i:Value.slice o n c=.slice none 0 0
 ·injection i with s t v
  subst s;subst t;subst v;have A:d.length=0:=by
   rcases f.2 with⟨_,E⟩|⟨g,cap,F,D,_⟩
   ·exact E
   ·cases D
  obtain rfl:=qi A;exact⟨rfl,rfl,az _,aZ _,fun r=>absurd r ak⟩
 ·obtain⟨g,cap,l,G,z,C,y,H,x⟩:=Ii f i
  injection l with m p q
  subst m;subst q;refine⟨p,ak,C,y,fun _=>⟨g,0,rfl,z,fun j u a=> ?_⟩⟩;rw[bW]at a;cases e:d[j]? with
  |none=>rw[e]at a;cases a
  |some b=>
   rw[e]at a;injection a with a
   subst a;have h:=(aL.1 e).1;have:=(x j (by simpa using h)).1;rw[this];congr 2
   simp[h,(aL.1 e).2]
theorem qz{b:Bytes}:∀{l:List Bytes},b∈dd l->b∈l
 |[],d=>d
 |[a],d=>d
 |a::c::t,d=>by
  simp only[dd]at d;by_cases e:a=c
  ·rw[ay e]at d;exact dt _ (qz d)
  ·rw[au e]at d
   rcases du.1 d with d|d
   ·exact du.2 (.inl d)
   ·exact dt _ (qz d)
theorem yj{l:List aj}{b:Bytes}(a:b∈aI l):∃n∈l,n.sym=b:=by
 unfold aI at a;split at a
 ·have d:=xJ.1 (qz a)
  unfold fB at d;obtain⟨n,e,c⟩:=In.1 d;refine⟨n,e,?_⟩;split at c
  ·injection c
  ·cases c
 ·cases a
def fi(l:List Nat):List Value:=l.map fun k=>.int .i64 (k:Nat)
def cW(w:World)(B:Nat)(v:Value)(l:List Nat):Prop:=w.ownsRow B 3 1 v l.length (fi l)
theorem JA{w:World}{B a size n:Nat}{b:TypeId}{v:Value}{xs:List Value}(c:w.ownsRow B b size v n xs)(h:a<=B):w.ownsRow a b size v n xs:=by
 refine⟨c.1,?_⟩;rcases c.2 with e|⟨g,cap,d,f,i,rest⟩
 ·exact .inl e
 ·exact .inr ⟨g,cap,d,f,ad,rest⟩
theorem JB{w:World}{B c d size m n n':Nat}{v e:Value}{xs o:List Value}(h:w.ownsRow B c size v n xs)(i:w.ownsRow B d m e n' o)(l:c≠d):v.ownBlock=none∨v.ownBlock≠e.ownBlock:=by
 rcases h.2 with⟨rfl,_⟩|⟨g,cap,q,rfl,_,j,_⟩
 ·exact .inl rfl
 ·refine .inr ?_
  rcases i.2 with⟨rfl,_⟩|⟨s,p,r,rfl,_,a,_⟩
  ·simp[Value.ownBlock]
  ·simp only[Value.ownBlock]
   intro b;injection b with b
   subst b;rw[j]at a;injection a with a
   injection a with _ f _
   exact l f
def cI(ts:List aw)(n:Bytes):Nat:=(placeS ts n).getD 0
theorem uW(ts:List aw)(t:aw):kidsS ts t=(aI t.nodes).map (cI ts):=rfl
theorem Cy(ts:List aw)(x:am)(N:Value)(M:Nat)(w:World)(av:∃o n c,N=.agg #[.slice o n c])(B:cO w x.no x.nc x.t.nodes)(V:eF w M ts)(a6:M<w.heap.size)(ae:(aI x.t.nodes).length<=1048576)(G:∀n∈x.t.nodes,n.sym.length<=1048576):
 Calls prog 90 #[N,dT x,.map (some M)] w fun j w'=>(∃v,j=.returned v/\cW w' w.heap.size v (kidsS ts x.t))/\Below w.heap.size w w':=by
 obtain⟨bg,bf,be,rfl⟩:=av;have I:∀b∈aI x.t.nodes,b.length<=1048576:=fun b m=>by obtain⟨n,r,rfl⟩:=yj m;exact G n r
 obtain⟨a5,aa,a1,a2,a3⟩:=cY pq;unfold dT typeRow;have l:=fun Q (m:Below w.heap.size w Q)=>uV x.t.nodes x.no x.nc Q (B.below m) G;unfold sr at l;rw[uW];obtain⟨a,H⟩:=ar (aI x.t.nodes);rw[<-H]at l I ae⊢;go_enter func90,ntmps90
 go_wp2_with fail
 go_must (refine(l _ (aG.alloc ak _)).mono ?_)
 rintro j R ⟨⟨v,rfl,t⟩,Y⟩;have e:Below w.heap.size w R:=(aG.alloc ak _).trans (Y.mono aR);obtain⟨P,O,rfl⟩:=mg t;obtain⟨ba,D⟩:=mh t;have an:cn R w.heap.size (.slice P a.length O) a:=JA t aR;clear l B H
 go_wp2
 go_loopw [7,14] (fun v i wr=>∃k:Nat,i=.int .i64 k/\k<=a.length/\cW wr w.heap.size v ((a.take k).map (cI ts))/\cn wr w.heap.size (.slice P a.length O) a/\eF wr M ts/\Below w.heap.size w wr) (fun _ i _=>a.length-(intOf i).toNat)
 case atStart=>exact⟨0,rfl,aZ _,dc _ _ _ _,an,V.kept (row:=none) ⟨e.os,e.tape,e.output,e.size,fun k E _=>e.block k E⟩ ak,e⟩
 case round=>
  obtain⟨k,rfl,E,f,J,W,h⟩:=hrel;obtain⟨_,D⟩:=mh J;by_cases ag:k<a.length
  ·have Z:decide ((k:Int)<a.length)=true:=bQ
   have a8:(k:Int)<a.length:=ad;obtain⟨b,u⟩:∃b,a[k]?=some b:=⟨_,aH ag⟩;obtain⟨g,bd,rfl,a7,bo⟩:=D.at u;have bb:=I b (aX u);have ab:keyOf prog 9 (.string ⟨b.toArray⟩)=some (.string b):=by have:=Il gq (s:=⟨b.toArray⟩) (by rw[dV];show b.length<=maxLen;unfold maxLen;omega);simpa using this
   have a4:∀y,(zeroValue 3).run prog y=.ok (.int .i64 0) y:=fun y=>aA;obtain⟨A,n,C,r,F⟩:=W;have af:((a.take k).map (cI ts)).length=k:=by rw[cf,fm];omega
   have a0:(a.take (k+1)).map (cI ts)=(a.take k).map (cI ts)++[cI ts b]:=by rw[bV,u];simp
   have X:=C.at0 b;go_wp2_with(first
    |(at_lookup;go_must (refine wpList_lookup_own_int _ rfl _ _ 74 rfl 9 3 .i64 (ll gq) jE cU (a4 _) M _ A rfl F _ _ rfl ab ?_);intro c d bc;obtain rfl:c=((cI ts b:Nat):Int):=by{rw[X]at d;injection d with d;injection d with _ d;exact d.symm})
    |(at_builtin;go_must (refine jh _ rfl _ _ 125 rfl w.heap.size 3 a5 (.int .i64 0) 1 8 mR aa a1 a2 a3 rfl ap _ _ _ rfl (f9 f _) ⟨wr.heap.size,0,none⟩ 1 1 [.int .i64 (cI ts b:Nat)] rfl rfl (Cs _ [.int .i64 (cI ts b:Nat)] _ _ rfl) (fun z L=>by simp at L;subst L;rfl) bI ad (by have:=h.size;simp;omega) ?_);intro bi bl ao p a9)
    |go_in)
   have K:=f9 J (.cells #[.int .i64 (cI ts b:Nat)] 3);have aq:=f9 f (.cells #[.int .i64 (cI ts b:Nat)] 3);have al:∀q:Option Nat,q=u7.ownBlock->some M≠q:=fun q S T=>by subst S;have:=(dC f M T.symm).1;omega
   go_roundw
   case rel=>exact⟨k+1,aV,ad,by rw[a0];unfold cW;simpa[fi,af]using ao,dS K p (JB K aq ap),⟨A,n,C,r,(F.kept (jD wr _ none) ak).kept p (al _ rfl)⟩,(h.alloc h.size _).grown p (by have:=h.size;simp;omega) (fun k j=>(dC f k j).1)⟩
   case measure=>exact bh
  ·have Z:decide ((k:Int)<a.length)=false:=bK
   rw[dh ad]at f
   go_wp2
   go_ret;exact⟨⟨_,rfl,f⟩,h⟩
def kh(w:World)(o:Option Addr)(cap:Nat)(l:List Nat):Prop:=dp w o l.length cap 1 (fi l)
theorem kh.below{w w':World}{o:Option Addr}{cap:Nat}{l:List Nat}(a:kh w o cap l)(b:Below w.heap.size w w'):kh w' o cap l:=dp.below a b
theorem kh.at{w:World}{o:Option Addr}{cap:Nat}{l:List Nat}(d:kh w o cap l){k:Nat}{x:Nat}(b:l[k]?=some x):
 ∃g a,o=some ⟨g,a,none⟩/\g<w.heap.size/\w.cell? ⟨g,a+k,none⟩=some (.int .i64 (x:Nat)):=by
 have h:=(aL.1 b).1;obtain⟨g,a,c,f,e⟩:=d.2.2.2 ad;exact⟨g,a,c,f,e k _ (by unfold fi;rw[bW,b];rfl)⟩
theorem qA{w:World}{B:Nat}{v:Value}{l:List Nat}(a:cW w B v l):∃o c,v=.slice o l.length c/\kh w o c l:=by
 obtain⟨o,c,rfl⟩:=mg a;refine⟨o,c,rfl,?_⟩;by_cases b:Value.slice o l.length c=.slice none 0 0
 ·injection b with f h i
  subst f;subst i;exact⟨by simp[fi],ad,aZ _,fun e=>ad⟩
 ·rcases a.2 with⟨d,e⟩|⟨g,cap,x,t,A,q,f,h,i,z⟩
  ·exfalso
   rw[e]at d b;exact b d
  ·injection t with n y p
   subst n;subst p;have s:=aU q;refine⟨by simp[fi],ad,h,fun _=>⟨g,0,rfl,s,fun j u m=> ?_⟩⟩;have r:j<(fi l).length:=(aL.1 m).1;rw[cD];exact(rH a j (by simpa[fi]using r)).trans m
theorem JC{F:Nat}{caps:Array Value}{q:am->Bool}(l:List am)(o:Option Addr)(cap:Nat)(w:World)(m:bR w o cap l)(M:l.length<=1048576)
 (J:∀args z,(callFunc F args).run prog z=.ok (.enter F args) z)
 (u:∀x∈l,∀i,Below w.heap.size w i->Calls prog F (#[dT x]++caps) i fun e E=>e=.returned (.bool (q x))/\Below i.heap.size i E):
 Calls prog 153 #[.slice o l.length cap,.func (.func F) #[] caps] w fun e w'=>(∃y:Int,e=.returned (.int .i64 y)/\Hid (decide (y>=0)=l.any q))/\Below w.heap.size w w':=by
 have N:=m.1.2.1;have B:=m.1.2.2.1;unfold maxLen at B;have s:=ah u;clear u;go_enter func153,ntmps153
 go_wp2
 go_loopw [8] (fun v wr=>∃k:Nat,v=.int .i64 k/\k<=l.length/\Below w.heap.size w wr/\Hid ((l.take k).any q=false)) (fun v _=>l.length-(intOf v).toNat)
 case atStart=>exact⟨0,rfl,aZ _,aE _ _,rfl⟩
 case round=>
  obtain⟨k,rfl,K,a,t⟩:=hrel;by_cases D:k<l.length
  ·have C:decide ((k:Int)<l.length)=true:=bQ
   have L:(k:Int)<l.length:=ad;obtain⟨x,d⟩:∃n,l[k]?=some n:=⟨_,aH D⟩;obtain⟨b,O,rfl,I,P,Q,R,S,T,V⟩:=(m.below a).at d;have c:=s.o x (aX d) wr a;have h:(l.take (k+1)).any q=q x:=by rw[bV,d,fF,uk,t.o];simp
   have H:=ah d;unfold dT typeRow at c;cases g:q x with
   |true=>
    rw[g]at c;have f:l.any q=true:=by rw[ir];exact⟨x,aX d,g⟩
    have j:=ah f;clear f h d g s;go_wp2_with fail
    refine c.mono ?_;rintro e G ⟨rfl,p⟩;clear c;have r:=a.trans (p.mono a.size)
    go_wp2
    go_ret;exact⟨⟨(k:Nat),rfl,by show _=_;rw[j.o,ft];omega⟩,r⟩
   |false=>
    rw[g]at c h;have A:=ah h;clear h d g;go_wp2_with fail
    refine c.mono ?_;rintro e G ⟨rfl,p⟩;clear c;have r:=a.trans (p.mono a.size)
    go_wp2
    go_roundw
    case rel=>exact⟨k+1,aV,ad,r,A.o⟩
    case measure=>exact bh
  ·have C:decide ((k:Int)<l.length)=false:=bK
   have f:l.any q=false:=by have:=t.o;rwa[dh ad]at this
   have j:=ah f;clear f
   go_wp2
   go_ret;exact⟨⟨-1,rfl,by show _=_;rw[j.o,rI];omega⟩,a⟩
theorem JD{F:Nat}{caps:Array Value}{q:am->Bool}(l:List am)(o:Option Addr)(cap:Nat)(w:World)(c:bR w o cap l)(g:l.length<=1048576)
 (d:∀args h,(callFunc F args).run prog h=.ok (.enter F args) h)
 (e:∀x∈l,∀b,Below w.heap.size w b->Calls prog F (#[dT x]++caps) b fun a m=>a=.returned (.bool (q x))/\Below b.heap.size b m):
 Calls prog 77 #[.slice o l.length cap,.func (.func F) #[] caps] w fun a w'=>a=.returned (.bool (l.any q))/\Below w.heap.size w w':=by
 have f:=JC l o cap w c g d e;clear c g d e;go_enter func77,ntmps77
 go_wp2_with fail
 refine f.mono ?_;rintro a p ⟨⟨n,rfl,j⟩,i⟩;clear f
 go_wp2
 go_ret;exact⟨ck j.out,i⟩
theorem JE{F:Nat}{caps:Array Value}{q:Bytes->Bool}(l:List Bytes)(o:Option Addr)(cap:Nat)(w:World)(m:dZ w o cap l)(M:l.length<=1048576)
 (J:∀args z,(callFunc F args).run prog z=.ok (.enter F args) z)
 (u:∀x∈l,∀i,Below w.heap.size w i->Calls prog F (#[.string ⟨x.toArray⟩]++caps) i fun e E=>e=.returned (.bool (q x))/\Below i.heap.size i E):
 Calls prog 155 #[.slice o l.length cap,.func (.func F) #[] caps] w fun e w'=>(∃y:Int,e=.returned (.int .i64 y)/\Hid (decide (y>=0)=l.any q))/\Below w.heap.size w w':=by
 have N:=m.2.1;have B:=m.2.2.1;unfold maxLen at B;have s:=ah u;clear u;go_enter func155,ntmps155
 go_wp2
 go_loopw [8] (fun v wr=>∃k:Nat,v=.int .i64 k/\k<=l.length/\Below w.heap.size w wr/\Hid ((l.take k).any q=false)) (fun v _=>l.length-(intOf v).toNat)
 case atStart=>exact⟨0,rfl,aZ _,aE _ _,rfl⟩
 case round=>
  obtain⟨k,rfl,K,a,t⟩:=hrel;by_cases D:k<l.length
  ·have C:decide ((k:Int)<l.length)=true:=bQ
   have L:(k:Int)<l.length:=ad;obtain⟨x,c⟩:∃n,l[k]?=some n:=⟨_,aH D⟩;obtain⟨b,O,rfl,I,P⟩:=(m.below a).at c;have d:=s.o x (aX c) wr a;have h:(l.take (k+1)).any q=q x:=by rw[bV,c,fF,uk,t.o];simp
   have H:=ah c;skip;cases g:q x with
   |true=>
    rw[g]at d;have f:l.any q=true:=by rw[ir];exact⟨x,aX c,g⟩
    have j:=ah f;clear f h c g s;go_wp2_with fail
    refine d.mono ?_;rintro e G ⟨rfl,p⟩;clear d;have r:=a.trans (p.mono a.size)
    go_wp2
    go_ret;exact⟨⟨(k:Nat),rfl,by show _=_;rw[j.o,ft];omega⟩,r⟩
   |false=>
    rw[g]at d h;have A:=ah h;clear h c g;go_wp2_with fail
    refine d.mono ?_;rintro e G ⟨rfl,p⟩;clear d;have r:=a.trans (p.mono a.size)
    go_wp2
    go_roundw
    case rel=>exact⟨k+1,aV,ad,r,A.o⟩
    case measure=>exact bh
  ·have C:decide ((k:Int)<l.length)=false:=bK
   have f:l.any q=false:=by have:=t.o;rwa[dh ad]at this
   have j:=ah f;clear f
   go_wp2
   go_ret;exact⟨⟨-1,rfl,by show _=_;rw[j.o,rI];omega⟩,a⟩
theorem Cz{F:Nat}{caps:Array Value}{q:Bytes->Bool}(l:List Bytes)(o:Option Addr)(cap:Nat)(w:World)(c:dZ w o cap l)(g:l.length<=1048576)
 (d:∀args h,(callFunc F args).run prog h=.ok (.enter F args) h)
 (e:∀x∈l,∀b,Below w.heap.size w b->Calls prog F (#[.string ⟨x.toArray⟩]++caps) b fun a m=>a=.returned (.bool (q x))/\Below b.heap.size b m):
 Calls prog 86 #[.slice o l.length cap,.func (.func F) #[] caps] w fun a w'=>a=.returned (.bool (l.any q))/\Below w.heap.size w w':=by
 have f:=JE l o cap w c g d e;clear c g d e;go_enter func86,ntmps86
 go_wp2_with fail
 refine f.mono ?_;rintro a p ⟨⟨n,rfl,j⟩,i⟩;clear f
 go_wp2
 go_ret;exact⟨ck j.out,i⟩
theorem JF{F:Nat}{caps:Array Value}{q:Nat->Bool}(l:List Nat)(o:Option Addr)(cap:Nat)(w:World)(m:kh w o cap l)(M:l.length<=1048576)
 (J:∀args z,(callFunc F args).run prog z=.ok (.enter F args) z)
 (u:∀x∈l,∀i,Below w.heap.size w i->Calls prog F (#[.int .i64 (x:Nat)]++caps) i fun e E=>e=.returned (.bool (q x))/\Below i.heap.size i E):
 Calls prog 159 #[.slice o l.length cap,.func (.func F) #[] caps] w fun e w'=>(∃y:Int,e=.returned (.int .i64 y)/\Hid (decide (y>=0)=l.any q))/\Below w.heap.size w w':=by
 have N:=m.2.1;have B:=m.2.2.1;unfold maxLen at B;have s:=ah u;clear u;go_enter func159,ntmps159
 go_wp2
 go_loopw [8] (fun v wr=>∃k:Nat,v=.int .i64 k/\k<=l.length/\Below w.heap.size w wr/\Hid ((l.take k).any q=false)) (fun v _=>l.length-(intOf v).toNat)
 case atStart=>exact⟨0,rfl,aZ _,aE _ _,rfl⟩
 case round=>
  obtain⟨k,rfl,K,a,t⟩:=hrel;by_cases D:k<l.length
  ·have C:decide ((k:Int)<l.length)=true:=bQ
   have L:(k:Int)<l.length:=ad;obtain⟨x,c⟩:∃n,l[k]?=some n:=⟨_,aH D⟩;obtain⟨b,O,rfl,I,P⟩:=(m.below a).at c;have d:=s.o x (aX c) wr a;have h:(l.take (k+1)).any q=q x:=by rw[bV,c,fF,uk,t.o];simp
   have H:=ah c;skip;cases g:q x with
   |true=>
    rw[g]at d;have f:l.any q=true:=by rw[ir];exact⟨x,aX c,g⟩
    have j:=ah f;clear f h c g s;go_wp2_with fail
    refine d.mono ?_;rintro e G ⟨rfl,p⟩;clear d;have r:=a.trans (p.mono a.size)
    go_wp2
    go_ret;exact⟨⟨(k:Nat),rfl,by show _=_;rw[j.o,ft];omega⟩,r⟩
   |false=>
    rw[g]at d h;have A:=ah h;clear h c g;go_wp2_with fail
    refine d.mono ?_;rintro e G ⟨rfl,p⟩;clear d;have r:=a.trans (p.mono a.size)
    go_wp2
    go_roundw
    case rel=>exact⟨k+1,aV,ad,r,A.o⟩
    case measure=>exact bh
  ·have C:decide ((k:Int)<l.length)=false:=bK
   have f:l.any q=false:=by have:=t.o;rwa[dh ad]at this
   have j:=ah f;clear f
   go_wp2
   go_ret;exact⟨⟨-1,rfl,by show _=_;rw[j.o,rI];omega⟩,a⟩
theorem CA{F:Nat}{caps:Array Value}{q:Nat->Bool}(l:List Nat)(o:Option Addr)(cap:Nat)(w:World)(c:kh w o cap l)(g:l.length<=1048576)
 (d:∀args h,(callFunc F args).run prog h=.ok (.enter F args) h)
 (e:∀x∈l,∀b,Below w.heap.size w b->Calls prog F (#[.int .i64 (x:Nat)]++caps) b fun a m=>a=.returned (.bool (q x))/\Below b.heap.size b m):
 Calls prog 94 #[.slice o l.length cap,.func (.func F) #[] caps] w fun a w'=>a=.returned (.bool (l.any q))/\Below w.heap.size w w':=by
 have f:=JF l o cap w c g d e;clear c g d e;go_enter func94,ntmps94
 go_wp2_with fail
 refine f.mono ?_;rintro a p ⟨⟨n,rfl,j⟩,i⟩;clear f
 go_wp2
 go_ret;exact⟨ck j.out,i⟩
end Go.Proofs.YtnadadbndcdolaaGreatDoor
