import Derived.Test.YtfeidcmojcijpaaGreatDoorQbk
import Derived.Test.YtfeidcmojcijpaaGreatDoorQbm
set_option linter.all false
set_option maxRecDepth 100000
set_option maxHeartbeats 0
namespace Go.Proofs.YtfeidcmojcijpaaGreatDoor
open Go.RowKit Tryz
def ze W t e ty i z size bytes(x:prog.underlying t=some (.slice e))(r:prog.info? e=some i)(M:i.zero=some z)(K:i.size=size)(G:i.bytes=bytes)(N:z.cells.size=size)(J:0<size)
 {B n} {v} {xs} (l:W.ownsRow B e size v n xs) {o} {m c} {ys} (g:cn W o m c size ys) (I:o=none->c=0) (F:∀a,o=some a->a.spot=none) (C:∀u∈ys,u.oneCell'=true) (D:n+m<=maxLen) (H:(n+m)*bytes<=140737488355328) (E:B<=W.heap.size):
 ∃d W',(Builtin.append_ #[t,t] ty #[v,.slice o m c]).run prog W=.ok d W'/\W'.ownsRow B e size d (n+m) (xs++ys)/\W.grownBy W' v.ownBlock/\(d.ownBlock=v.ownBlock∨d.ownBlock=W.heap.size):=by
 cases o with
 |none=>
  have p:=I rfl;have w:=g.2.1;have y:ys=[]:=by have:=g.1;rw[show m=0 by omega,wu]at this;exact zX.1 this
  obtain rfl:m=0:=ad;subst p;subst y;exact⟨v,W,run_append_owned_none W B t ty e i size x r v n xs l,by simpa using l,⟨rfl,rfl,rfl,ay _,fun _ _ _=>rfl⟩,.inl rfl⟩
 |some a=>
  obtain⟨b,q,X⟩:=a;obtain rfl:=F _ rfl;obtain⟨d,w',O,P,Q,_,R⟩:=run_append_own_at W B t ty e i z size bytes x r M K G N J v n xs l ⟨b,q,none⟩ m c ys g.1 (fun j u s=>by
   have w:0<m:=by have f:=(aF.1 s).1;rw[g.1]at f;exact Nat.pos_of_ne_zero fun e=>by rw[e,wu]at f;omega
   have⟨S,V,e,T,p⟩:=g.2.2.2 w;injection e with e
   injection e with h A
   subst h;subst A;have h:(⟨b,q,none⟩:Addr).add j=⟨b,q+j,none⟩:=by by_cases f:j=0;subst f;rfl;simp[Addr.add,f]
   rw[h];exact p j u s) C D H E
  exact⟨d,w',O,P,Q,R⟩
def Jo W t e ty i z size bytes(s:prog.underlying t=some (.slice e))(p:prog.info? e=some i)(w:i.zero=some z)(r:i.size=size)(l:i.bytes=bytes)(x:z.cells.size=size)(q:0<size)
 {B B' n m} {v u} {xs ys} (b:W.ownsRow B e size v n xs) (c:W.ownsRow B' e size u m ys) (f:∀u∈ys,u.oneCell'=true) (h:n+m<=maxLen) (o:(n+m)*bytes<=140737488355328) (j:B<=W.heap.size):
 ∃d W',(Builtin.append_ #[t,t] ty #[v,u]).run prog W=.ok d W'/\W'.ownsRow B e size d (n+m) (xs++ys)/\W.grownBy W' v.ownBlock/\(d.ownBlock=v.ownBlock∨d.ownBlock=W.heap.size):=by
 have A:=c;rcases c.2 with⟨rfl,_⟩|⟨g,cap,y,rfl,_⟩
 obtain rfl:m=0:=by rcases c.2 with⟨_,b⟩|⟨g,cap,y,b,_⟩;exact b;cases b
 exact ze W t e ty i z size bytes s p w r l x q b (dY c) (fun _=>rfl) (fun a e=>by cases e) f h o j;exact ze W t e ty i z size bytes s p w r l x q b (dY c) (fun e=>by cases e) (fun a e=>by injection e with e;rw[<-e]) f h o j
section
open Wey
def Ub:∀n w,n<100->de 34 #[.int .i64 (n:Nat)] w (.string ⟨(Lib.decDigits n)⟩) fun w'=>w'=w:=by
 intro n;induction n using Nat.strongRecOn with
 |_ n ih=>
 intro w m;have a:=Lib.decDigits.eq_1 n;by_cases f:n<10
 ·have j:decide ((n:Int)<10)=true:=bT
  rw[dif_pos f]at a;have b:=ah a;clear a ih
  go_in
  rcases(show n=0∨n=1∨n=2∨n=3∨n=4∨n=5∨n=6∨n=7∨n=8∨n=9 by omega)with rfl|rfl|rfl|rfl|rfl|rfl|rfl|rfl|rfl|rfl
  all_goals
   go_wp2
   go_ret;exact⟨by rw[b.o];rfl,rfl⟩
 have j:decide ((n:Int)<10)=false:=bU;rw[dif_neg f]at a;have d:(n/10:Nat)=(n:Int)/10:=ad;have e:(n % 10:Nat)=(n:Int) % 10:=ad;have g:=ih (n/10) ad w ad;have h:=ih (n % 10) ad w ad;rw[d]at g;rw[e]at h;have i:Lib.decDigits (n/10)=[UInt8.ofNat (48+n/10)]:=by rw[Lib.decDigits,dif_pos ad]
 have c:Lib.decDigits (n % 10)=[UInt8.ofNat (48+n % 10)]:=by rw[Lib.decDigits,dif_pos ad]
 have l:¬9223372036854775807<(Lib.decDigits (n/10)).length+(Lib.decDigits (n % 10)).length:=by rw[i,c];simp
 rw[<-c]at a;have b:=ah a;clear a ih d e i c
 go_in
 go_wp2_with fail
 refine ar g ?_;rintro w1 rfl;go_wp2_with fail
 refine ar h ?_;rintro o rfl
 go_wp2
 go_ret;exact⟨gA _ (gA _ (zK (by rw[b.o];simp))),rfl⟩
def gJ(b:Bool)(n:Nat)(ws:List Bytes):Option (Nat×List Bytes):=if b then(n,ws)else none
def Uc{c:Type}{a b:List c}{k}(d:a=b.length)(f:¬k<a.length)(e:a.take k=b.take k):a=b:=by rwa[bI ad,bI ad]at e
def Jp{a b}:∀k {V W},V.take k=W.take k->V[k]?=some a->W[k]?=some b->a≠b->(lex bM V W↔bM a b)
 |0,x::V,y::W,_,d,e,f=>by simp at d e;subst d;subst e;simp[lex,f]
 |k+1,x::V,y::W,c,d,e,f=>by simp at c d e;obtain⟨rfl,c⟩:=c;have:=Jp k c d e f;simp only[lex,this,true_and];constructor;rintro(c|c);exact absurd rfl c.2;exact c;exact .inr
def CF(a b:Bytes)(d:a≠b):Op.bytesLess a b=true↔bM a b:=by rw[qR a b,zR];unfold bM bD;rw[cf,dd];constructor;intro c;exact⟨(wQ a b).resolve_right c,d⟩;rintro⟨c,_⟩ e;exact d (si c e)
def Jq ia ib c h wa a ao bo ac bc w(G:cI w ao ac wa)(o:cI w bo bc a)(f:wa.length<=1048576)(B:ia=false->c=0/\wa=[])(C:ib=false->h=0/\a=[]):
 dB 56 #[.agg #[ia,.int .i64 (c:Nat),.slice ao wa ac],.agg #[ib,.int .i64 (h:Nat),.slice bo a bc]] w fun e w'=>(∃b,e=.returned (.bool b)/\(b=true↔ahR bM (gJ ia c wa) (gJ ib h a)))/\aR w w':=by
 have f:=G.2.2.1;have j:=o.2.2.1;have l:=o.2.1;unfold maxLen at f j;have⟨n,s⟩:=am (ahR bM (gJ ia c wa) (gJ ib h a));rw[<-s];have⟨m,f⟩:=am ((w.alloc (.cells #[ia,.int .i64 c,.slice ao wa ac] 85)).alloc (.cells #[ib,.int .i64 h,.slice bo a bc] 85));have A:Below w.heap.size w m:=by rw[f];exact aP.alloc aj _
 have t:m.heap[w.heap.size]?=some (.cells #[.bool ia,.int .i64 (c:Nat),.slice ao wa.length ac] 85):=by rw[f];exact(br _ _ _ aj).Z (aN w _)
 have u:m.heap[w.heap.size+1]?=some (.cells #[.bool ib,.int .i64 (h:Nat),.slice bo a.length bc] 85):=by rw[f];have:=aN (cT w #[ia,.int .i64 c,.slice ao wa ac] 85) (.cells #[ib,.int .i64 h,.slice bo a bc] 85);rwa[bP]at this
 have p:∀j,Below m.heap.size m j->j.cell? ⟨w.heap.size,0,none⟩=some (.bool ia)/\j.cell? ⟨w.heap.size,1,none⟩=some (.int .i64 (c:Nat))/\j.cell? ⟨w.heap.size,2,none⟩=some (.slice ao wa.length ac)/\
  j.cell? ⟨w.heap.size+1,0,none⟩=some (.bool ib)/\j.cell? ⟨w.heap.size+1,1,none⟩=some (.int .i64 (h:Nat))/\j.cell? ⟨w.heap.size+1,2,none⟩=some (.slice bo a.length bc):=fun j o=>by
  have j:=(o.J _ (aS t)).Z t;have l:=(o.J _ (aS u)).Z u;exact⟨ak 0 j,ak 1 j,ak 2 j,ak 0 l,ak 1 l,ak 2 l⟩
 have⟨D,E,F,d0,d1,d2⟩:=p m (aA _ _);have⟨I,q,r,v,z⟩:=iz p A s B C;clear p A t u s B C
 go_in
 by_cases H:ia=ib
 ·subst H
  have J:(!ia==ia)=false:=by cases ia<;>rfl
  by_cases t:c=h
  ·subst t
   have K:(c !=(c:Int))=false:=aj;by_cases l:wa=a.length
   ·have M:(wa !=(a:Int))=false:=by simp[l]
    have C:Hid (n↔lex bM wa a):=ah (by
     rw[r.o];cases ia with
     |true=>simp[gJ,ahR,l]
     |false=>rw[(v.o rfl).2,(z.o rfl).2];rfl)
    have B:=ah l;clear l;go_wp2_with(first|(rw[<-f];clear f)|fail)
    go_loopw [5] (fun i wr=>∃k:Nat,i=.int .i64 k/\k<=wa/\Hid (wa.take k=a.take k)/\aR m wr) (fun i _=>wa-(intOf i).toNat)
    case atStart=>exact⟨0,rfl,aH _,ah aj,aA _ _⟩
    case round=>
     obtain⟨k,rfl,m,u,j⟩:=hrel;clear D E F d0 d1 d2;obtain⟨D,E,F,d0,d1,d2⟩:=I.o wr j;have s:=aE q.o j;by_cases p:k<wa
     ·have E:=bC p
      have m:=bk p;have m:(k:Int)<a:=aQ B.o;have m:=aL k;have⟨x,m⟩:=aT p;have⟨y,A⟩:=df a k;obtain⟨g,F,rfl,D,I⟩:=(G.O s).at m;obtain⟨D,G,rfl,F,I⟩:=(o.O s).at A;have⟨o,D⟩:=aC m A;clear m A;by_cases m:x=y
      ·have d:(x==y)=true:=by simpa using m
       have A:=ah m;clear m
       go_wp2
       go_quiet(fail)
       go_wp2
       go_roundw
       case rel=>exact⟨k+1,aD,ad,ah (by rw[bH,bH,o.o,D.o,u.o,A.o]),ee j _⟩
       case measure=>exact aM
      have d:(x==y)=false:=by simpa using m
      have j:Hid (Op.bytesLess x y=true↔n):=ah (by rw[C.o,CF x y m,Jp k u.o o.o D.o m]);clear m
      go_wp2
      go_quiet(fail)
      go_wp2
      go_quiet(fail)
      go_wp2
      go_ret;exact⟨⟨_,rfl,j.o⟩,ee (ee s _) _⟩
     have E:=bG p;have j:Hid (¬n):=ah (by rw[C.o,Uc B.o p u.o];exact lex_irr dw a)
     go_wp2
     go_ret;exact⟨⟨_,rfl,by simpa using j.o⟩,s⟩
   have M:(wa !=(a:Int))=true:=aO;have j:Hid (decide (wa.length<a.length)=true↔n):=ah (by
    rw[r.o,cf];cases ia with
    |true=>simp[gJ,ahR,l]
    |false=>exact absurd (by rw[(v.o rfl).2,(z.o rfl).2]) l)
   clear l;go_wp2_with(first|(rw[<-f];clear f)|fail)
   go_ret;exact⟨⟨_,rfl,j.o⟩,q.o⟩
  have K:(c !=(h:Int))=true:=aO;have j:Hid (decide (c<h)=true↔n):=ah (by
   rw[r.o,cf];cases ia with
   |true=>simp[gJ,ahR,t]
   |false=>exact absurd (by rw[(v.o rfl).1,(z.o rfl).1]) t)
  clear t;go_wp2_with(first|(rw[<-f];clear f)|fail)
  go_ret;exact⟨⟨_,rfl,j.o⟩,q.o⟩
 have J:(!ia==ib)=true:=by cases ia<;>cases ib<;>simp_all
 have j:Hid (ia=true↔n):=ah (by rw[r.o];cases ia<;>cases ib<;>simp_all[gJ,ahR])
 clear H;go_wp2_with(first|(rw[<-f];clear f)|fail)
 go_ret;exact⟨⟨_,rfl,j.o⟩,q.o⟩
end
section
open Wey
def Ud{L s n}(f:jV L)(g:∀a∈L.take n,bM a s)(h:∀a,L[n]?=some a->bM s a):jV (L.take n++[s]++L.drop n):=by
 have j:∀a∈L.drop n,bM s a:=fun a e=>by
  obtain⟨i,d⟩:=mU e;rw[zN]at d;have m:=(aF.1 d).1;have⟨b,c⟩:=df L n;rcases zM i with rfl|l
  rw[rY,c]at d;injection d with d
  rw[<-d];exact h b c;exact dw.tr (h b c) (vt f (by omega) c d)
 unfold jV;rw[qF,List.pairwise_append];refine⟨f.sublist (List.take_sublist _ _),?_,fun a e b c=> ?_⟩;rw[List.singleton_append,ue];exact⟨j,f.sublist (List.drop_sublist _ _)⟩;rw[List.singleton_append,bX]at c;rcases c with rfl|c
 exact g a e;exact dw.tr (g a e) (j b c)
def Ue(a b:Bytes):(Op.bytesLess a b=true/\bM a b)∨(Op.bytesLess a b=false/\(a==b)=true/\a=b)∨(Op.bytesLess a b=false/\(a==b)=false/\bM b a):=by
 by_cases e:a=b;subst e;refine .inr (.inl ⟨?_,aj,rfl⟩);rw[qR];simp[bD];rcases dw.tri a b with c|c|c
 exact .inl ⟨(CF a b e).2 c,c⟩;exact absurd c e;refine .inr (.inr ⟨?_,by simpa using e,c⟩);rw[Km];exact fun d=>dw.irr a (dw.tr ((CF a b e).1 d) c)
def zg{o c}(d:ve o c):(o=none->c=0)/\∀a,o=some a->a.spot=none:=by
 rcases d with⟨rfl,rfl⟩|⟨b,f,rfl⟩
 exact⟨fun _=>rfl,fun a e=>by cases e⟩;exact⟨(fun e=>by cases e),fun a e=>by injection e with e;rw[<-e]⟩
def Jr(L:List Bytes)(s:Bytes)(a:List Bytes):Prop:=jV a/\a<=L.length+1/\∀b,b∈a↔b∈L∨b=s
def Uf L s B v w(y:bN w B v L)(a5:B<=w)(aa:jV L)(bZ:L.length<=4096):
 dB 93 #[v,.string ⟨s.toArray⟩] w fun e w'=>(∃a1 Z,e=.returned a1/\Jr L s Z/\bN w' B a1 Z)/\aR w w':=by
 obtain⟨S,O,P,Q,R⟩:=cZ pB;obtain⟨o,c,rfl⟩:=bs y;have q:cI w o c L:=dY y;have ao:ve o c:=by
  rcases y.2 with⟨d,_⟩|⟨g,cap,bB,d,_⟩
  injection d with n K p;exact .inl ⟨n,p⟩
  injection d with n K p;exact .inr ⟨_,_,n⟩
 have b0:=q.2.1;have a7:=q.2.2.1;unfold maxLen at a7;have⟨a2,Y⟩:=aC y aa;clear y aa
 go_in
 go_wp2
 go_loop [5] (fun i=>∃k:Nat,i=.int .i64 k/\k<=L/\Hid (∀a∈L.take k,bM a s)) (fun i=>L-(intOf i).toNat)
 case atStart=>exact⟨0,rfl,aH _,ah aj⟩
 case round=>
  obtain⟨k,rfl,bb,X⟩:=hrel;have a6:(∃x,L[k]?=some x/\bM x s/\Op.bytesLess x s=true)∨(∃x,L[k]?=some x/\Op.bytesLess x s=false/\(x==s)=true/\x=s)∨(∀a,L[k]?=some a->Op.bytesLess a s=false/\(a==s)=false/\bM s a):=by
   by_cases A:k<L;obtain⟨x,f⟩:=aT A;rcases Ue x s with d|d|d
   exact .inl ⟨x,f,d.2,d.1⟩;exact .inr (.inl ⟨x,f,d⟩);exact .inr (.inr fun a h=>by rw[f]at h;cases h;exact d);exact .inr (.inr fun a h=>by rw[jL ad]at h;cases h)
  rcases a6 with⟨x,f,n,K⟩|⟨x,f,n,K,p⟩|F
  ·have A:=(aF.1 f).1
   have N:decide ((k:Int)<L)=true:=bT;have af:(k:Int)<L:=ad;have ae:=aL k;obtain⟨g,r,rfl,ab,G⟩:=q.at f;have H:Hid (∀a∈L.take (k+1),bM a s):=ah (by
    rw[bH,f];intro a h;rcases dk.1 h with h|h
    exact X.o a h;simp at h;subst h;exact n)
   clear f n
   go_wp2
   go_round
   case rel=>exact⟨_,aD,ad,H⟩
   case measure=>exact aM
  ·have A:=(aF.1 f).1
   have N:decide ((k:Int)<L)=true:=bT;have af:(k:Int)<L:=ad;have ae:=aL k;obtain⟨g,r,rfl,ab,G⟩:=q.at f;have H:Hid (s∈L):=ah (by rw[<-p];exact aK f);clear f p
   go_wp2
   go_ret;exact⟨⟨_,rfl,L,⟨Y.o,sk _,fun b=>⟨.inl,fun d=>d.elim id (fun e=>e▸H.o)⟩⟩,a2.o⟩,aA _ _⟩
  ·have⟨b3,bt,a4,bf,bg,bl,bo,aw,a0⟩:=PO q ao k bb
   have a3:Hid (Jr L s (L.take k++[s]++L.drop k)):=ah ⟨Ud Y.o X.o fun a h=>(F a h).2.2,aO,fun b=>by
    conv=>rhs;rw[<-ig k L]
    simp only[dk,pm];constructor;rintro((d|d)|d);exact .inl (.inl d);exact .inr d;exact .inl (.inr d);rintro((d|d)|d);exact .inl (.inl d);exact .inr d;exact .inl (.inr d)⟩
   have a9:(decide ((k:Int)<L.length)=false/\decide (k<L.length)=false)∨(decide ((k:Int)<L.length)=true/\(k:Int)<L.length/\(0:Int)<=k/\∃x g r,o=some ⟨g,r,none⟩/\w.cell? ⟨g,r+k,none⟩=some (.string ⟨x.toArray⟩)/\Op.bytesLess x s=false/\(x==s)=false):=by by_cases A:k<L;obtain⟨x,f⟩:=aT A;obtain⟨g,r,e,ab,G⟩:=q.at f;exact .inr ⟨by rw[cf];omega,ad,ad,x,g,r,e,G,(F x f).1,(F x f).2.1⟩;exact .inl ⟨by rw[dd];omega,by rw[dd];omega⟩
   clear F q ao;have an:∀(l:List Bytes),∀u∈l.map encStr,u.oneCell'=true:=fun l u bi=>by obtain⟨b,_,rfl⟩:=dL.1 bi;rfl
   have be:=bf w;have⟨bz,bA,I,T,bw,b4⟩:=ze w 53 9 53 S _ 1 16 jM O P Q R rfl aq (cW w _ 9 1) bl (zg aw).1 (zg aw).2 (an _) (by simp;unfold maxLen;omega) aO (ay _);have ag:(L.take k).length=k:=by rw[eh];omega
   rw[ag]at I T;clear ag;have M:=(aA _ w).zu bw (ay _) (fun j e=>by cases e);have p:Hid (∀C m,m.ownsRow w.heap.size 9 1 C (0+k+1) ([]++(L.take k).map encStr++[.string ⟨s.toArray⟩])->Below w.heap.size w m->∃D t,(Builtin.append_ #[53,53] 53 #[C,.slice bt (L.length-k) a4]).run prog m=.ok D t/\bN t w.heap.size D (L.take k++[s]++L.drop k)/\Below w.heap.size w t):=ah fun C m al E=>by
    have bq:=bo.O E;have⟨D,t,J,V,W,b5⟩:=ze m 53 9 53 S _ 1 16 jM O P Q R rfl aq al bq (zg a0).1 (zg a0).2 (an _) (by simp;unfold maxLen;omega) aO E.size;have bc:(L.take k++[s]++L.drop k).length=0+k+1+(L.drop k):=aO;have bd:(L.take k++[s]++L.drop k).map encStr=([]++(L.take k).map encStr++[.string ⟨s.toArray⟩])++(L.drop k).map encStr:=by simp
    refine⟨D,t,by rw[<-J,lV],?_,E.zu W E.size (fun j e=>(aY al j e).1)⟩;unfold bN;rw[bc,bd];exact V
   have bE:=M.size;rcases a9 with⟨N,bF⟩|⟨N,af,ae,x,g,r,rfl,G,d1,d2⟩
   all_goals go_wp2_with(first
    |(at_builtin;refine qI _ rfl _ _ _ _ rfl _ _ rfl rfl _ _ I ?_;clear I be)
    |(at_builtin;refine qI _ rfl _ _ _ _ rfl _ _ rfl rfl _ _ J ?_)
    |(at_builtin;go_must (apply iV _ rfl _ _ 53 rfl _ 9 S _ 1 16 jM O P Q R rfl aq bz _ _ rfl (dp T _) _ 1 1 _ rfl rfl (ln _ _ _ _ rfl) (fun z av=>by simp at av;subst av;rfl) (by simp;unfold maxLen;omega) aO aO);intro C m bu ba b1;obtain⟨D,t,J,V,W⟩:=p.out C m bu ((M.alloc M.size _).zu ba aO (fun j e=>(aY T j e).1));have b2:=bg m)
    |fail)
   all_goals
    go_ret;exact⟨⟨_,rfl,_,a3.o,eR V a5⟩,W⟩
end
def nC(w:World)(a:Nat)(v:Value)(l:List dI):Prop:=w.ownsRow a 91 3 v l (l.flatMap pz)
def nC.snoc{w:World}{a:Nat}{v:Value}{l m:List dI}(b:w.ownsRow a 91 3 v (l.length+m.length) (l.flatMap pz++m.flatMap pz)):nC w a v (l++m):=by unfold nC;rw[ck,qA];exact b
def VM{l:List dI}:∀u∈l.flatMap pz,u.oneCell'=true:=by intro u b;obtain⟨s,_,a⟩:=sh.1 b;simp[pz]at a;rcases a with rfl|rfl|rfl<;>rfl
def VN{ks k i}(e:ks[i]?=some k):(dQ (ks.take i))+(fV k)<=(dQ ks).length/\dQ (ks.take (i+1))=dQ (ks.take i)++fV k:=by
 have d:∀a b:List Tr,dQ (a++b)=dQ a++dQ b:=fun a b=>by
  induction a with
  |nil=>rfl
  |cons x a ih=>simp[dQ,ih]
 have c:dQ (ks.take (i+1))=dQ (ks.take i)++fV k:=by rw[bH,e,d];simp[dQ]
 refine⟨?_,c⟩;have:=gA List.length (d (ks.take (i+1)) (ks.drop (i+1)));rw[ig,ck,c,ck]at this;omega
def J5(w:World) B e xs{size}(b:xs.length=size)(a:B<=w.heap.size):(w.alloc (.cells xs.toArray e)).ownsRow B e size (.slice w 1 1) 1 xs:=
 ⟨ad,.inr ⟨_,1,_,rfl,a,aN w _,ay _,aq,aO,by simp only;exact bI ad⟩⟩
def VO:∀m t r w,SizeOf.sizeOf t<=m->fM w t r->(fV t).length<=1048576->
 dB 15 #[cA t r] w fun e w'=>(∃v,e=.returned v/\nC w' w v (fV t))/\aR w w':=by
 obtain⟨Q,M,N,O,P⟩:=cZ O5;intro m;induction m with
 |zero=>intro t r w y;cases t;simp at y
 |succ m ih=>
 intro t r w y C T;have f:lq w r.ao r.ac t.zx:=C.attr;have⟨rs,H,n,I⟩:=C.zs;have J:=fun k (S:k∈t.zs)=>J3 S;obtain⟨l,x,av,ks⟩:=t;obtain⟨h,ac,A,o⟩:=r;unfold cA;simp only[Tr.zv,Tr.text,Tr.zx,Tr.zs]at f H n I J⊢;have⟨i,s,R,K⟩:=dy w (.cells (fZ l x h av ac A ks o) 36);have X:=fH s;have D:∀d,Below i.heap.size i d->d.cell? ⟨w.heap.size,0,none⟩=some (.string ⟨l.toArray⟩)/\d.cell? ⟨w.heap.size,1,none⟩=some (.string ⟨x.toArray⟩)/\d.cell? ⟨w.heap.size,2,none⟩=some (.slice h av.length ac)/\d.cell? ⟨w.heap.size,3,none⟩=some (.slice A ks.length o):=fun d B=>by have h:=(B.J _ (aS K)).Z K;exact⟨ak 0 h,ak 1 h,ak 2 h,ak 3 h⟩
 have⟨E,F,A,G⟩:=D i (aA _ _);have d:=f.2.1;have d:=f.2.2.1;have o:=n.2.1;have o:=n.2.2.1;unfold maxLen at d o;have⟨V,o,Y,ab,ae,an,af,al,ag,W⟩:=jB D R f n I J ih y H X;clear D R f n I J ih y C K H X
 go_in
 by_cases f:l=[]
 ·subst f
  go_wp2_with(first|(rw[<-s];clear s)|fail)
  go_ret;have d:fV (.mk [] x av ks)=[⟨3,[],x⟩]:=by rw[fV];rfl
  rw[d];exact⟨⟨_,rfl,J5 i _ _ _ rfl (aQ W.o)⟩,o.o.alloc o.o.size _⟩
 ·have n:(l==[])=false:=by simpa using f
  have d:fV (.mk l x av ks)=⟨1,l,[]⟩::(av.map gt++dQ ks++[⟨4,[],[]⟩]):=by rw[fV,ap f]
  rw[d]at T⊢;simp at T;clear d f;go_wp2_with(first|(rw[<-s];clear s)|fail)
  go_loopw [3,4] (fun R s wr=>∃k:Nat,s=.int .i64 k/\k<=av/\nC wr i R (⟨1,l,[]⟩::(av.take k).map gt)/\aR i wr) (fun _ s _=>av-(intOf s).toNat)
  case atStart=>exact⟨0,rfl,aH _,J5 i _ _ _ rfl (ay _),aP⟩
  case round=>
   obtain⟨k,rfl,S,d,f⟩:=hrel;obtain⟨aa,Z,rfl⟩:=bs d;clear E F A G;obtain⟨E,F,A,G⟩:=V.o wr f;have C:=aE o.o f;by_cases D:k<av
   ·have aw:=bC D
    have n:=bk D;have n:=aL k;have⟨a,n⟩:=aT D;obtain⟨b,y,rfl,J,S,T⟩:=pA (Y.o.O C) n;have h:(⟨1,l,[]⟩::(av.take (k+1)).map gt:List dI)=(⟨1,l,[]⟩::(av.take k).map gt)++[gt a]:=by rw[bH,n];simp
    have I:(⟨1,l,[]⟩::(av.take k).map gt:List dI)=k+1:=aO;unfold nC at d;generalize⟨1,l,[]⟩::(av.take k).map gt=xs at d h I;have H:=ah h;clear h n;obtain⟨X,Y⟩:=a;simp only at S T;have K:∀u:World,Below wr.heap.size wr u->u.cell? ⟨w.heap.size,2,none⟩=some (.slice (some ⟨b,y,none⟩) av.length ac)/\u.cell? ⟨b,y+k*2,none⟩=some (.string ⟨X.toArray⟩)/\u.cell? ⟨b,y+k*2+1,none⟩=some (.string ⟨Y.toArray⟩):=fun u B=>⟨(B.cell (p:=⟨w.heap.size,2,none⟩) (by have:=W.o;have:=f.size;show w.heap.size<_;omega)).Z A,(B.cell (p:=⟨b,y+k*2,none⟩) J).Z S,(B.cell (p:=⟨b,y+k*2+1,none⟩) J).Z T⟩;have B:=ah K;have K:=f.size;have B:xs.length<=1048576:=ad;have B:=ah I;clear I;go_wp2_with fail
    go_region_law (first
     |((refine nG _ (by rfl) _ _ _ (by rfl) _ 91 Q _ 3 40 K8 M N O P rfl ad (.slice aa xs Z) _ _ (by rfl) (by(first|exact dp d.drew _|exact(dp d _).drew)) _ 1 1 [.int .i64 2,.string ⟨_⟩,.string ⟨_⟩] (by rfl) (by rfl) (eq wr.drew [.int .i64 2,.string ⟨X.toArray⟩,.string ⟨Y.toArray⟩] _ _ rfl) (fun z B=>by simp at B;rcases B with rfl|rfl|rfl<;>rfl) ad bO ad aO _ rfl ?_);intro a1 gc W I a0 ao a2))
    all_goals go_wp2_with fail
    all_goals go_roundw
    all_goals first
     |(refine⟨k+1,aD,ad,?_,?_⟩
       rw[H.out];exact nC.snoc I;exact(by first|exact(f.alloc f.size _).drew|exact(f.drew).alloc (by simpa using f.size) _:aR i _).zu a0 aO (fun j e=>(aY d j e).1))
     |(simp[intOf];omega)
   ·have aw:=bG D
    rw[bI ad]at d;have X:=mH D
    go_wp2
    go_loopw [3,5] (fun R s wr=>∃k:Nat,s=.int .i64 k/\k<=ks/\nC wr i R (⟨1,l,[]⟩::av.map gt++dQ (ks.take k))/\aR i wr) (fun _ s _=>ks-(intOf s).toNat)
    case atStart=>exact⟨0,rfl,aH _,(by(have:k=av:=ad);subst this;simpa[dQ]using d),f⟩
    case round=>
     clear E F A G d C f;obtain⟨j,rfl,i,d,f⟩:=hrel;obtain⟨aa,Z,rfl⟩:=bs d;obtain⟨E,F,A,G⟩:=V.o wr f;have C:=aE o.o f;by_cases i:j<ks
     ·have F:=bC i
      have s:=bk i;have s:=aL j;have⟨u,n⟩:=aT i;obtain⟨b,y,q,s,rfl,J,S,T,A,D⟩:=qP ag.o (cn.O ab.o C) n;have⟨D,h⟩:=VN n;have E:(fV u).length<=1048576:=ad;have y:=af.o u q wr (jO (an.o u (aK n)) al.o) ((ae.o j u q n s).O C) E;unfold cA at y;have⟨H,A⟩:=aC h D;clear h n s D E;generalize hxs:⟨1,l,[]⟩::av.map gt++dQ (ks.take j)=xs at d;have s:=ah hxs;have n:xs.length<=1+av.length+(dQ (ks.take j)).length:=by rw[<-hxs];simp;omega
      have C:=ah n;clear hxs n;go_wp2_with fail
      apply y.zz;rintro e W ⟨⟨D,rfl,E⟩,h⟩;clear y;have y:=aX d (fun g D=>h.J g (aV d D).2);have K:=f.size;have⟨R,W',J,G,D,_⟩:=Jo W 46 91 46 Q _ 3 40 K8 M N O P rfl ad y E VM (by have:=A.o;have:=C.o;unfold maxLen;omega) (jO A.o C.o) (aQ h.size);go_wp2_with(first
       |(at_builtin;refine qI _ rfl _ _ _ _ rfl _ _ rfl rfl _ _ J ?_)
       |fail)
      go_roundw
      case rel=>
       refine⟨j+1,aD,ad,?_,?_⟩;rw[H.out,<-qF,s.o];exact nC.snoc G;exact((aE (aA _ _) f).Z (h.zz K)).zu D (aQ h.size) (fun j e=>(aY y j e).1)
      case measure=>exact aM
     ·have F:=bG i
      have h:j=ks:=ad;subst h;rw[ol]at d⊢;have h:⟨1,l,[]⟩::(av.map gt++dQ ks++[⟨4,[],[]⟩])=(⟨1,l,[]⟩::av.map gt++dQ ks)++[⟨4,[],[]⟩]:=aj;have i:=ah h;have n:(⟨1,l,[]⟩::av.map gt++dQ ks:List dI).length<=1048576:=aO;unfold nC at d;generalize hxs:⟨1,l,[]⟩::av.map gt++dQ ks=xs at d n⊢;have s:=ah hxs;clear hxs;have K:=f.size;have n:decide (ks<ks.length)=false:=aj;clear h;go_wp2_with(first
       |(at_builtin;go_must (apply kI _ rfl _ _ 46 rfl _ 91 Q _ 3 40 K8 M N O P rfl ad _ _ _ rfl (dp d _) _ 1 1 _ rfl rfl (eq _ _ _ _ rfl) (fun z B=>by simp at B;rcases B with rfl|rfl|rfl<;>rfl) ad bO ad aO _ rfl);intro g c y I h ao n)
       |fail)
      go_ret;exact⟨⟨_,rfl,by rw[i.out,s.o];exact D8 (nC.snoc I) o.o.size⟩,o.o.Z (((f.alloc f.size _).zu h aO (fun j e=>(aY d j e).1)).zz o.o.size)⟩
end Go.Proofs.YtfeidcmojcijpaaGreatDoor
