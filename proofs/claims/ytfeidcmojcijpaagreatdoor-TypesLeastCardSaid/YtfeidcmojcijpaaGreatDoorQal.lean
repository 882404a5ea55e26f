import Derived.Test.YtfeidcmojcijpaaGreatDoorQai
set_option linter.all false
set_option maxRecDepth 100000
set_option maxHeartbeats 0
namespace Go.Proofs.YtfeidcmojcijpaaGreatDoor
open Go.RowKit Tryz
def lz(a:Int)(i:Nat)(out p:List ax):List ax:=if i=0 then out++p.map (fY out)else out++p.map (fY out)++[⟨a,[],out-1,(out++p.map (fY out)).length-1⟩]
def Mu op p:∀(ps:List _) i out,jf op i out (ps++[p])=lz op (i+ps) (jf op i out ps) p:=by
 intro ps;induction ps with
 |nil=>intro i out;rfl
 |cons q t ih=>
  intro i out;simp only[jK,jf,ih,ef];congr 1
  omega
def Mv op(ps:List _) k p(a:ps[k]?=some p):jf op 0 [] (ps.take (k+1))=lz op k (jf op 0 [] (ps.take k)) p:=by have b:=(aF.1 a).1;rw[bH,a,fp,Mu,eh,rX ad,cH]
def EE op i out p:(lz op i out p)=out+p.length+(if i=0 then 0 else 1):=by unfold lz;split<;>simp<;>omega
def xH op:∀(ps:List _) i out,(jf op i out ps)+(if i=0/\ps≠[]then 1 else 0)=out+iK ps+ps:=by
 intro ps;induction ps with
 |nil=>intro i out;simp[jf,iK]
 |cons q t ih=>
  intro i out;have:=ih (i+1) (lz op i out q);rw[EE]at this;show(jf op (i+1) (lz op i out q) t).length+_=_
  simp only[iK,dZ,fm,ef]at this⊢;by_cases a:i=0;subst a;simp at this⊢;omega;simp[a]at this⊢;omega
def Mw(ps:List _) k:iK (ps.take k)<=iK ps:=by
 have a:iK ps=iK (ps.take k)+iK (ps.drop k):=by
  conv=>lhs;rw[<-ig k ps]
  unfold iK;rw[gL,List.sum_append]
 omega
def Mx(ps:List _) k p(a:ps[k]?=some p):iK (ps.take (k+1))=iK (ps.take k)+p.length:=by rw[bH,a];simp[iK]
def eI(l:List ax):Prop:=∀(i:Nat) n,l[i]?=some n->0<=n.a/\n.a<=i/\0<=n.b/\n.b<=i
def eI.nil:eI []:=fun i n a=>by simp at a
def eI.one(n:ax)(b:n.a=0)(c:n.b=0):eI [n]:=by
 intro i m a;cases i with
 |zero=>simp at a;subst a;omega
 |succ i=>simp at a
def eI.append{a b:List ax}(d:eI a)(e:∀i n,b[i]?=some n->0<=n.a/\n.a<=((a.length+i:Nat):Int)/\0<=n.b/\n.b<=((a.length+i:Nat):Int)):eI (a++b):=by intro i n c;by_cases f:i<a;rw[eC f]at c;exact d i n c;rw[gp ad]at c;have:=e _ n c;omega
def eI.moved{a p:List ax}(d:eI a)(e:eI p):eI (a++p.map (fY a.length)):=by
 refine d.append fun i n b=> ?_;rw[bR]at b;cases c:p[i]? with
 |none=>rw[c]at b;cases b
 |some m=>
  rw[c]at b;injection b with b
  have:=e i m c;subst b;unfold fY;split;simp only;omega;split;simp only;omega;omega
def eI.snoc{a:List ax}(c:eI a)(n:ax)(d:0<=n.a/\n.a<=(a.length:Int))(e:0<=n.b/\n.b<=(a.length:Int)):eI (a++[n]):=by
 refine c.append fun i m b=> ?_;cases i with
 |zero=>simp at b;subst b;simp;omega
 |succ i=>simp at b
def My{op i out p}(b:eI out)(c:eI p)(e:i≠0->out≠[]):eI (lz op i out p):=by
 unfold lz;split;exact b.moved c;rename_i d;have:=e d;have f:1<=out.length:=by cases out with|nil=>exact absurd rfl this|cons a t=>simp
 apply(b.moved c).snoc _;simp;omega;simp;omega
def EF op:∀(ps:List _) i out,eI out->(i≠0->out≠[])->(∀p∈ps,eI p/\p≠[])->eI (jf op i out ps)/\((ps≠[]∨out≠[])->jf op i out ps≠[]):=by
 intro ps;induction ps with
 |nil=>intro i out b d c;exact⟨b,fun a=>by rcases a with a|a;exact absurd rfl a;exact a⟩
 |cons q t ih=>
  intro i out b d c;have g:=c q (eV ..);have f:lz op i out q≠[]:=by
   intro e;have:=EE op i out q;rw[e]at this;have:q.length=0:=by simp at this;omega
   exact g.2 (pp this)
  have:=ih (i+1) _ (My b g.1 d) (fun _=>f) (fun p a=>c p (dM _ a));exact⟨this.1,fun _=>this.2 (.inr f)⟩
structure dJ(l:List ax):Prop where
 ahead:eI l
 ne:l≠[]
 len:l.length<=1024
def dJ.one(n:ax)(a:n.a=0)(b:n.b=0):dJ [n]:=⟨eI.one n a b,aj,aj⟩
def dJ.fold{d h:Int}{ps:List (List ax)}{l:List ax}(f:∀p∈ps,dJ p)(b:fI d h ps=some l):dJ l:=by
 unfold fI at b;split at b;cases b;exact dJ.one _ rfl rfl
 rename_i c;split at b;cases b
 rename_i i;injection b with b
 have e:=EF d ps 0 [] eI.nil (fun b=>absurd rfl b) (fun p b=>⟨(f p b).ahead,(f p b).ne⟩);have g:=xH d ps 0 [];subst b;have:1<=ps.length:=by cases ps with|nil=>exact absurd rfl c|cons a t=>simp
 refine⟨e.1,e.2 (.inl c),?_⟩;simp[c]at g;omega
def dJ.keep{big:Bool}{r:Option (List ax)}(a:∀l,r=some l->eI l/\l≠[]):dJ (gw big r).1:=by unfold gw;split;exact dJ.one _ rfl rfl;split;exact dJ.one _ rfl rfl;rename_i l b;have:=a l rfl;exact⟨this.1,this.2,by simp at b;show l.length<=_;omega⟩
def dJ.many{l:List ax}(b:dJ l):eI (gU l)/\gU l≠[]/\(gU l).length<=1025:=by
 have c:1<=l.length:=by have:=b.ne;cases l with|nil=>exact absurd rfl this|cons a t=>simp
 refine⟨b.ahead.snoc _ ?_ ?_,by simp[gU],by have:=b.len;simp[gU];omega⟩;simp;omega;simp
def lA(l:Bytes)(f:fa->iB):Prop:=∀st b a,st.p<=l.length->f st=some (b,a)->st.p<=a.p/\a.p<=l/\dJ b
def pM l c p(d:p<=l.length):cr l c p<=l/\p<=cr l c p:=by have b:=EC (l.drop p);rw[lV]at b;unfold cr gD lx;split;rename_i a;by_cases e:p+kP (l.drop p)<l;omega;rw[jL ad]at a;simp at a;omega
def Mz l q(a:q<=l.length):q+(jQ l q)<=l:=by unfold jQ;split;omega;have:=Au (l.drop q);unfold jP at this;rw[lV]at this;split;omega;omega
def EG{l E}(h:lA l E):lA l (nN l E):=by
 intro st n p j a;have e:=pM l 33 _ j;have f:=pM l 40 _ e.1;have g:=pM l 41 _ f.1;unfold nN at a;split at a;injection a with a;injection a with b c;subst b;subst c
 exact⟨e.2,e.1,dJ.one _ rfl rfl⟩;split at a;split at a;injection a with a;injection a with b c;subst b;subst c
 exact⟨by simp only;omega,g.1,dJ.one _ rfl rfl⟩;split at a;cases a
 rename_i o st' i;have d:=h _ _ _ g.1 i;have m:=pM l 41 _ d.2.1;split at a;injection a with a;injection a with b c;subst b;subst c
 exact⟨by have:=d.1;simp only at this⊢;omega,m.1,d.2.2⟩;cases a
 split at a;cases a
 injection a with a;injection a with b c;subst b;subst c
 have:=Mz l _ f.1;exact⟨by simp only;omega,this,dJ.one _ rfl rfl⟩
def EH{l}(a:dJ l):∀x,some (gU l)=some x->eI x/\x≠[]:=by intro x e;cases e;exact⟨a.many.1,a.many.2.1⟩
def xI{op none_ a b}(d:dJ a)(f:eI b/\b≠[]):∀x,fI op none_ [a,b]=some x->eI x/\x≠[]:=by
 intro x c;unfold fI at c;rw[ap aj]at c;split at c;cases c
 injection c with c
 have:=EF op [a,b] 0 [] eI.nil (fun c=>absurd rfl c) (fun p e=>by simp at e;rcases e with rfl|rfl;exact⟨d.ahead,d.ne⟩;exact f);subst c;exact⟨this.1,this.2 (.inl aj)⟩
def MA l:∀f a st,st.p<=l.length->dJ a->st.p<=(mc l f a st).2.p/\(mc l f a st).2.p<=l/\dJ (mc l f a st).1:=by
 intro f;induction f with
 |zero=>intro a st c b;exact⟨ay _,c,b⟩
 |succ f ih=>
  intro a st c b;have d:=pM l 42 _ c;have e:=pM l 43 _ d.1;have g:=pM l 63 _ e.1;unfold mc;split;have:=ih (gw st.big ((gU a))).1 {st with p:=cr l 42 st.p,big:=(gw st.big ((gU a))).2} d.1 (dJ.keep (EH b));exact⟨by have:=this.1;simp only at this;omega,this.2⟩;split;have:=ih (gw st.big (fI 3 1 [a,gU a])).1 {st with p:=cr l 43 (cr l 42 st.p),big:=(gw st.big (fI 3 1 [a,gU a])).2} e.1 (dJ.keep (xI b ⟨b.many.1,b.many.2.1⟩));exact⟨by have:=this.1;simp only at this;omega,this.2⟩;split;have:=ih (gw st.big (fI 4 0 [a,[mb]])).1 {st with p:=cr l 63 (cr l 43 (cr l 42 st.p)),big:=(gw st.big (fI 4 0 [a,[mb]])).2} g.1 (dJ.keep (xI b ⟨eI.one _ rfl rfl,aj⟩));exact⟨by have:=this.1;simp only at this;omega,this.2⟩;exact⟨by simp only;omega,g.1,b⟩
def EI{l E}(d:lA l E):lA l (mY l E):=by
 intro st h i f a;unfold mY at a;split at a;cases a
 rename_i g st' e;have b:=EG d _ _ _ f e;have c:=MA l (l+1) g st' b.2.1 b.2.2;injection a with a
 rw[a]at c;exact⟨aW b.1 c.1,c.2⟩
def EJ{l part} c op none_(r:lA l part):∀f (parts:List _) st e d,(∀p∈parts,dJ p)->st.p<=l.length->jg l c op none_ part f parts st=some (e,d)->st.p<=d.p/\d.p<=l/\dJ e:=by
 intro f;induction f with
 |zero=>intro parts st e d j o a;simp[jg]at a
 |succ f ih=>
  intro parts st e d j o a;unfold jg at a;split at a;cases a
  rename_i t st' q;have i:=r _ _ _ o q;have m:=pM l c _ i.2.1;have n:∀p∈parts++[t],dJ p:=fun p b=>by
   rcases dk.1 b with b|b
   exact j p b;simp at b;subst b;exact i.2.2
  split at a;have:=ih _ _ _ _ n m.1 a;exact⟨by have:=this.1;simp only at this;omega,this.2⟩;split at a;injection a with a;injection a with g h;subst g;subst h
  exact⟨by simp only;omega,m.1,i.2.2⟩;injection a with a;injection a with g h;subst g;subst h
  exact⟨by simp only;omega,m.1,dJ.keep (fun x s=>by have:=dJ.fold n s;exact⟨this.ahead,this.ne⟩)⟩
def EK{l E}(c:lA l E):lA l (pI l E):=by intro st d e a b;exact EJ 44 3 1 (EI c) _ _ _ _ _ (fun p a=>by simp at a) a b
def EL l:∀n,lA l (pJ l n):=by
 intro n;induction n with
 |zero=>intro st c d _ a;simp[pJ]at a
 |succ n ih=>
  intro st c d b a;exact EJ 124 4 0 (EK ih) _ _ _ _ _ (fun p b=>by simp at b) b a
structure PV where
 l:List ax
 o:Option Addr
 c:Nat
def pvVal(p:PV):Value:=.slice p.o p.l p.c
def pP(w:World)(o:Option Addr)(cap:Nat)(ps:List PV):Prop:=cn w o ps cap 1 (ps.map pvVal)/\∀p∈ps,dv w p.o p.c p.l
def pP.O{w w':World}{o:Option Addr}{cap:Nat}{l:List PV}(a:pP w o cap l)(b:Below w.heap.size w w'):pP w' o cap l:=⟨a.1.O b,fun p c=>(a.2 p c).O b⟩
def pP.at{w:World}{o:Option Addr}{cap:Nat}{l:List PV}(c:pP w o cap l){k:Nat}{x:PV}(b:l[k]?=some x):
 ∃g a,o=some ⟨g,a,none⟩/\g<w.heap.size/\w.cell? ⟨g,a+k,none⟩=some (.slice x.o x.l.length x.c):=by
 have h:=(aF.1 b).1;have⟨g,a,e,f,d⟩:=c.1.2.2.2 ad;exact⟨g,a,e,f,d k _ (by rw[bR,b];rfl)⟩
def pQ(r:Option (List ax))(w:World)(e:Ending)(w':World):Prop:=
 (match r with
  |none=>e=.returned (.tuple #[.slice none 0 0,false])
  |some l=>∃v,e=.returned (.tuple #[v,true])/\dg w' w v l)/\aR w w'
def pQ.none{r:Option (List ax)}{w w':World}{e:Ending}(a:r=.none)(c:e=.returned (.tuple #[.slice .none 0 0,.bool false]))(b:Below w.heap.size w w'):pQ r w e w':=by subst a;exact⟨c,b⟩
def pQ.some{r:Option (List ax)}{l:List ax}{v:Value}{w w':World}{e:Ending}(a:r=.some l)(c:e=.returned (.tuple #[v,.bool true]))(d:dg w' w.heap.size v l)(b:Below w.heap.size w w'):pQ r w e w':=by subst a;exact⟨⟨v,c,d⟩,b⟩
def MH{op none_}{ps:List _}(a:ps≠[])(b:1024<ps-1+iK ps):fI op none_ ps=none:=by unfold fI;rw[ap a,au b]
def MI{op none_}{ps:List _}(a:ps≠[])(b:¬1024<ps-1+iK ps):fI op none_ ps=(jf op 0 [] ps):=by unfold fI;rw[ap a,ap b]
def MJ(l:List ax) k by_(a:k<=l.length):((l.take k).map (fY by_))=k:=aO
def AF h none_ ps o cap w(A:pP w o cap ps)(cx:ps.length<=131072)(a6:∀p∈ps,eI p.l/\p.l.length<=2048)(bZ:1<=ps.length):
 dB 260 #[.int .i64 h,.int .i64 none_,.slice o ps cap] w (pQ (fI h none_ (ps.map PV.l)) w):=by
 obtain⟨al,N⟩:=am (fI h none_ (ps.map PV.l));rw[<-N];have a5:ps.map PV.l≠[]:=by cases ps with|nil=>simp at bZ|cons a t=>simp
 have cG:=A.1.2.1;have b3:=A.1.2.2.1;unfold maxLen at b3;have co:((ps:Int)==0)=false:=fU;have a0:(ps.map PV.l)=ps.length:=bn _;have⟨Y,ab,ae,C⟩:=dE N a5 a6 a0;clear N a5 a6 a0
 go_in
 go_wp2
 go_loop [8,28] (fun s i=>∃k m:Nat,i=.int .i64 k/\k<=ps/\s=.int .i64 m/\m<=2048*k+ps/\Hid (m=ps-1+iK ((ps.map PV.l).take k))) (fun _ i=>ps-(intOf i).toNat)
 case atStart=>exact⟨0,ps-1,rfl,aH _,by congr 1;omega,ad,by show _=_;simp[iK]⟩
 case round=>
  obtain⟨k,m,rfl,S,rfl,b8,aa⟩:=hrel;by_cases r:k<ps
  ·have Q:=bC r
   have b6:=bk r;have⟨x,f⟩:=aT r;obtain⟨b,cb,rfl,b1,X⟩:=A.at f;have be:=(ae.o x (aK f)).2;have bc:m+x.l.length=ps.length-1+iK ((ps.map PV.l).take (k+1)):=by rw[Mx _ k x.l (by rw[bR,f];rfl)];have:=aa.o;omega
   have bF:=ah bc;clear bc f
   go_wp2
   go_round
   case rel=>exact⟨_,_,aD,ad,aD,ad,bF.o⟩
   case measure=>exact aM
  ·have Q:=bG r
   have a4:m=ps.length-1+iK (ps.map PV.l):=by have:=aa.o;rwa[bI (by rw[C.o];omega)]at this
   by_cases cp:1024<m;have b4:decide ((m:Int)>1024)=true:=bT;have D:al=none:=by rw[Y.o];exact MH ab.o (by rw[C.o];omega)
   have M:=ah D;clear D a4
   go_wp2
   go_ret2
   exact pQ.none M.o rfl (aA _ _)
   ·have b4:decide ((m:Int)>1024)=false:=bU
    have D:al=some (jf h 0 [] (ps.map PV.l)):=by rw[Y.o];exact MI ab.o (by rw[C.o];omega)
    have M:=ah D;have a2:∀k,(jf h 0 [] ((ps.map PV.l).take k)).length<=3072:=fun k=>by have ao:=xH h ((ps.map PV.l).take k) 0 [];have cl:=Mw (ps.map PV.l) k;rw[eh,C.o]at ao;simp only[gN]at ao;omega
    have Z:=ah a2;have⟨bl,aw,bf,bg,bi⟩:=cZ AA;clear D a4 a2
    go_wp2
    go_loopw [11,41] (fun v i wr=>∃k:Nat,i=.int .i64 k/\k<=ps/\dg wr w v (jf h 0 [] ((ps.map PV.l).take k))/\aR w wr) (fun _ i _=>ps-(intOf i).toNat)
    case atStart=>exact⟨0,rfl,aH _,cW _ _ _ _,aA _ _⟩
    case round=>
     obtain⟨k,rfl,S,B,I⟩:=hrel;by_cases r:k<ps
     ·have Q:=bC r
      have b6:=bk r;have⟨x,f⟩:=aT r;obtain⟨b,cb,rfl,b1,X⟩:=(A.O I).at f;have W:=ae.o x (aK f);have b9:=(A.2 x (aK f)).O I;have d:=Mv h _ k x.l (by rw[bR,f];rfl);have b2:=Z.o k;have P:=Z.o (k+1);rw[d]at P;generalize jf h 0 [] ((ps.map PV.l).take k)=out at B d b2 P;have⟨y,ag⟩:=aC d W.1;have be:=W.2;obtain⟨c2,c1,rfl⟩:=dR B;have bd:=A.2 x (aK f);clear f b9 W b8;obtain⟨c,c4,c3⟩:=x;simp only at bd be y ag X P;obtain⟨bA,rfl⟩:∃bA,bA=wr:=⟨_,rfl⟩
      go_wp2
      go_loopw [11,50] (fun v i bB=>∃j:Nat,i=.int .i64 j/\j<=c/\dg bB w v (out++(c.take j).map (fY out))/\aR w bB) (fun _ i _=>c-(intOf i).toNat)
      case atStart=>exact⟨0,rfl,aH _,by simpa using B,I⟩
      case round=>
       obtain⟨j,rfl,cs,l,q⟩:=hrel;clear X B;by_cases J:j<c
       ·have b5:=bC J
        have cu:=bk J;have⟨n,K⟩:=aT J;obtain⟨g,cN,rfl,cq,bo,bq,bt,bu⟩:=(bd.O q).at K;have V:(c.take (j+1)).map (fY out.length)=(c.take j).map (fY out.length)++[fY out.length n]:=by rw[bH,K];simp
        have b0:=ag.o j n K;have E:=fun w1=>ME n out.length w1 ad ad ad;have⟨m',a3⟩:=am (fY out n);rw[<-a3]at E V;unfold xJ nodeRow at E;obtain⟨bw,bz,a1,an⟩:=n;have a7:(out++(c.take j).map (fY out.length)).length=out.length+j:=by rw[ck,MJ _ _ _ ad]
        have a9:out++((c.take j).map (fY out)++[m'])=(out++(c.take j).map (fY out))++[m']:=aj;have⟨bE,af⟩:=aC V a9;generalize out++(c.take j).map (fY out)=row at l af a7;have cL:row.length<=8192:=ad;obtain⟨cO,c0,ch,ci⟩:=m';simp only at E bo bq bt bu;have O:=q.alloc q.size (.cells #[bw,bz,a1,an] 104);have ba:dg (cT wr #[bw,bz,a1,an] 104) w u11 row:=dp l _;clear V a9 K a3 b0 l a7;go_wp2_with fail
        refine ar (E _) ?_;intro cd u;have bb:cd.ownsRow w.heap.size 104 4 u11 row.length (row.flatMap nodeRow):=cm (row:=none) ba ⟨u.os,u.tape,u.output,u.size,fun k S _=>u.J k S⟩ (by cases u11.ownBlock<;>simp);have H:=O.Z (u.zz O.size);clear E ba O u q bo bq bt bu;go_wp2_with(first
         |(at_builtin;go_must (apply iV _ rfl _ _ 50 rfl _ 104 bl _ 4 40 zL aw bf bg bi rfl aq _ _ _ rfl (dp bb _) _ 1 1 _ rfl rfl (eq _ _ _ _ rfl) (fun z F=>by simp at F;rcases F with rfl|rfl|rfl|rfl<;>rfl) bO ad (by have:=H.size;simp;omega));intro cc cg T R ca)
         |go_in)
        go_roundw
        case rel=>exact⟨j+1,aD,ad,by rw[bE.o,af.o];exact AE T,(H.alloc H.size _).zu R (by have:=H.size;simp;omega) (fun k e=>(aY bb k e).1)⟩
        case measure=>exact aM
       ·have b5:=bG J
        rw[bI ad]at l;unfold lz at y;rcases zM k with av|av
        ·subst av
         have d:=y.o;rw[au rfl]at d;have G:=ah d;clear d y
         go_wp2
         go_roundw
         case rel=>exact⟨1,rfl,ad,G.o▸l,q⟩
         case measure=>exact aM
        ·have cv:decide ((k:Int)>0)=true:=bT
         have d:=y.o;rw[ap ad]at d;have b7:(out++c.map (fY out.length)).length<=8192:=by rw[ck,bn];omega
         have G:=ah d;generalize out++c.map (fY out)=row at l G b7;unfold dg at l;obtain⟨cS,cP,rfl⟩:=dR l;clear d y;go_wp2_with(first
          |(at_builtin;go_must (apply iV _ rfl _ _ 50 rfl _ 104 bl _ 4 40 zL aw bf bg bi rfl aq _ _ _ rfl (dp l _) _ 1 1 [h,.string ⟨_⟩,.int .i64 (out-1),.int .i64 (row-1)] rfl rfl (eq _ [h,.string ⟨_⟩,.int .i64 (out-1),.int .i64 (row-1)] _ _ rfl) (fun z F=>by simp at F;rcases F with rfl|rfl|rfl|rfl<;>rfl) bO ad (by have:=q.size;simp;omega));intro cc cg T R ca)
          |go_in)
         go_roundw
         case rel=>exact⟨k+1,aD,ad,G.o▸AE T,(q.alloc q.size _).zu R (by have:=q.size;simp;omega) (fun k e=>(aY l k e).1)⟩
         case measure=>exact aM
     have Q:=bG r;rw[bI (by rw[C.o];omega)]at B
     go_wp2
     go_ret2
     exact pQ.some M.o rfl B I
def uL(w:World)(a:Nat)(v:Value)(ok:Bool)(r:Option (List ax)):Prop:=
 match r with
 |none=>v=.slice none 0 0/\ok=false
 |some l=>dg w a v l/\ok=true
def EV:(nodeRow oJ).toArray=#[.int .i64 0,.string ⟨#[]⟩,.int .i64 0,.int .i64 0]:=rfl
def EW:(nodeRow mb).toArray=#[.int .i64 1,.string ⟨#[]⟩,.int .i64 0,.int .i64 0]:=rfl
def AG(r:List ax×Bool)(b p a:Nat)(c:ByteArray)(d:Bool)(w:World)(e:Ending)(w':World):Prop:=
 ∃v,e=.returned v/\dg w' a v r.1/\cC w' b c p d r.2/\aZ b w w'
def AH{b p B doc lo w w1}(d:cC w1 b doc p lo true)(e:aZ b w w1) H(c:w1.heap.size=H)(a:B<=H):
 AG ([oJ],true) b p B doc lo w (.returned (.slice H 1 1)) (cT w1 #[.int .i64 0,.string ⟨#[]⟩,.int .i64 0,.int .i64 0] 104):=by
 subst c;refine⟨_,rfl,?_,d.O aP,e.alloc _⟩;have:=AC w1 oJ B a;rwa[EV]at this
def EX{big}{r:Option _}(a:∀l,r=some l->1024<l.length):gw big r=([oJ],true):=by unfold gw;split;rfl;rename_i l;rw[au (.inr (a l rfl))]
def MK{r:Option _}:gw true r=([oJ],true):=by unfold gw;split;rfl;rfl
def ML{l}(a:l.length<=1024):gw false (some l)=(l,false):=by
 show(if false=true∨1024<l.length then([oJ],true)else(l,false))=_
 rw[ap aO]
def xL b p B doc lo bi(r:Option _) v ok w(a:cC w b doc p lo bi)(f:uL w B v ok r)(d:B<=w)(m:b<B)(j:∀l,r=some l->l.length<=1048576):
 dB 259 #[b,v,ok] w (AG (gw bi r) b p B doc lo w):=by
 have n:=a.free 3;cases r with
 |none=>
  obtain⟨rfl,rfl⟩:=f;rw[EX (by intro l c;cases c)];have e:=a.cBi
  go_in
  go_wp2
  go_ret;exact AH (a.setBi true) ((aZ.refl b w).setCell 3 _) _ (by simp) d
 |some l=>
  obtain⟨g,rfl⟩:=f;have o:=j l rfl;obtain⟨t,s,rfl⟩:=dR g;by_cases h:1024<l.length
  ·rw[EX (by intro q c;cases c;exact h)]
   have i:decide ((l:Int)>1024)=true:=bT;have e:=a.cBi
   go_in
   go_wp2
   go_ret;exact AH (a.setBi true) ((aZ.refl b w).setCell 3 _) _ (by simp) d
  ·have i:decide ((l:Int)>1024)=false:=bU
   have e:=a.cBi;cases bi with
   |true=>
    rw[MK]
    go_in
    go_wp2
    go_ret;exact AH a (aZ.refl b w) _ rfl d
   |false=>
    rw[ML ad]
    go_in
    go_wp2
    go_ret;exact⟨_,rfl,g,a,aZ.refl b w⟩
def fC(r:iB)(b:Nat)(a:ByteArray)(w:World)(e:Ending)(w':World):Prop:=
 (match r with
  |none=>(∃o n c,e=.returned (.tuple #[.slice o n c,false]))/\∃p f d,p<=a.size/\cC w' b a p f d
  |some (l,st)=>(∃v,e=.returned (.tuple #[v,true])/\dg w' w v l)/\cC w' b a st.p st.long st.big)/\aZ b w w'
def fC.no{r:iB}{b:Nat}{a:ByteArray}{w w':World}{e:Ending}{o:Option Addr}{n c p:Nat}{f d:Bool}(g:r=none)(j:e=.returned (.tuple #[.slice o n c,.bool false]))(l:p<=a.size)(h:cC w' b a p f d)(i:aZ b w w'):fC r b a w e w':=by subst g;exact⟨⟨⟨o,n,c,j⟩,p,f,d,l,h⟩,i⟩
def fC.yes{r:iB}{b:Nat}{a:ByteArray}{w w':World}{e:Ending}{v:Value}{l:List ax}{st:fa}(c:r=some (l,st))(g:e=.returned (.tuple #[v,.bool true]))(h:dg w' w.heap.size v l)(d:cC w' b a st.p st.long st.big)(f:aZ b w w'):fC r b a w e w':=by subst c;exact⟨⟨⟨v,g,h⟩,d⟩,f⟩
def nS(k:FuncId)(b:Nat)(a:ByteArray)(F:fa->iB)(n:Nat):Prop:=
 ∀st w,cC w b a st.p st.long st.big->st.p<=a.size->a.size-st.p<n->dB k #[b] w (fC (F st) b a w)
def xM{w:World}{B H n}(b:w.heap.size=H)(a:B<=H){cs}(c:(nodeRow n).toArray=cs):dg (cT w cs 104) B (.slice H 1 1) [n]:=by subst b;subst c;exact AC w n B a
def MM{b n doc E}(O:doc.size<=65536)(H:nS 190 b doc E n)(P:lA doc.data.toList E):nS 276 b doc (nN doc.data.toList E) (n+1):=by
 intro st w f d a;obtain⟨p,D,C⟩:=st;simp only at f d a;obtain⟨g,a⟩:=am (nN doc.data.toList E ⟨p,D,C⟩);rw[<-a];unfold nN at a;simp only at a;have g:=pO 33 33 rfl b p doc D C w f d O;have J:=pN doc 33 p d;have⟨f,d⟩:=am (cr doc.data.toList 33 p);rw[<-d]at g J a;cases h:gD doc.data.toList 33 p with
 |true=>
  rw[h]at g a;rw[au rfl]at a;have m:=ah a;clear a h d
  go_in
  go_wp2_with fail
  refine ar g ?_;rintro w1 ⟨d,l⟩;clear g
  go_wp2
  go_ret2
  exact fC.yes m.o rfl (xM rfl l.size EV) (d.O aP) (l.alloc _)
 |false=>
  rw[h]at g a;rw[ap aj]at a;have j:=fun w1 d=>pO 40 40 rfl b f doc D C w1 d J.1 O;have B:=pN doc 40 f J.1;have⟨G,i⟩:=am (cr doc.data.toList 40 f);rw[<-i]at j B a;clear h d;cases Q:gD doc.data.toList 40 f with
  |true=>
   rw[Q]at j a B;rw[au rfl]at a;have y:=fun w1 d=>pO 41 41 rfl b G doc D C w1 d B.1 O;have f:=pN doc 41 G B.1;have⟨x,h⟩:=am (cr doc.data.toList 41 G);rw[<-h]at y f a;have q:=B.2.2 rfl;have q:=J.2.1;have q:=f.2.1;have I:=f.1;clear Q i J B f;cases F:gD doc.data.toList 41 G with
   |true=>
    rw[F]at y a;rw[au rfl]at a;have m:=ah a;clear a F h
    go_in
    go_wp2_with fail
    refine ar g ?_;rintro w1 ⟨d,l⟩;clear g;have f:=j _ d;clear j;go_wp2_with fail
    refine ar f ?_;rintro K ⟨i,r⟩;clear f;have A:=y _ i;clear y;go_wp2_with fail
    refine ar A ?_;rintro M ⟨h,s⟩;clear A;have q:=(l.Z r).Z s
    go_wp2
    go_ret2
    exact fC.yes m.o rfl (xM rfl q.size EW) (h.O aP) (q.alloc _)
   |false=>
    rw[F]at y a;rw[ap aj]at a;have u:=fun w1 d=>H ⟨x,D,C⟩ w1 d I (by show doc.size-x<n;omega);have V:=fun S H N=>P ⟨x,D,C⟩ S H (by rw[<-eJ];exact I) N;clear F h;cases P:E ⟨x,D,C⟩with
    |none=>
     rw[P]at a u;simp only at a;have m:=ah a;unfold fC at u;simp only at u;clear a P V
     go_in
     go_wp2_with fail
     refine ar g ?_;rintro w1 ⟨d,l⟩;clear g;have f:=j _ d;clear j;go_wp2_with fail
     refine ar f ?_;rintro K ⟨i,r⟩;clear f;have A:=y _ i;clear y;go_wp2_with fail
     refine ar A ?_;rintro M ⟨h,s⟩;clear A;have q:=(l.Z r).Z s;have F:=u _ h;clear u;go_wp2_with fail
     apply F.zz;rintro e T ⟨⟨⟨o,k,c,rfl⟩,I,Y,X,R,x⟩,N⟩;clear F
     go_wp2
     go_ret2
     exact fC.no m.o rfl R x (q.Z N)
    |some z=>
     obtain⟨S,H⟩:=z;obtain⟨I,Y,X⟩:=H;have S:=V _ _ P;rw[P]at a u;simp only at a S;have R:I<=doc.size:=by rw[eJ];exact S.2.1
     have H:=fun w1 d=>pO 41 41 rfl b I doc Y X w1 d R O;have X:=pN doc 41 I R;unfold fC at u;simp only at u;have⟨Y,R⟩:=am (cr doc.data.toList 41 I);rw[<-R]at H X a;have Y:=X.1;clear P V S R X;cases R:gD doc.data.toList 41 I with
     |true=>
      rw[R]at H a;rw[au rfl]at a;have m:=ah a;clear a R
      go_in
      go_wp2_with fail
      refine ar g ?_;rintro w1 ⟨d,l⟩;clear g;have f:=j _ d;clear j;go_wp2_with fail
      refine ar f ?_;rintro K ⟨i,r⟩;clear f;have A:=y _ i;clear y;go_wp2_with fail
      refine ar A ?_;rintro M ⟨h,s⟩;clear A;have q:=(l.Z r).Z s;have F:=u _ h;clear u;go_wp2_with fail
      apply F.zz;rintro e T ⟨⟨⟨v,rfl,I⟩,x⟩,N⟩;clear F;have P:=H _ x;clear H;obtain⟨aa,Z,rfl⟩:=dR I;have X:=ah I;clear I;go_wp2_with fail
      refine ar P ?_;rintro ab ⟨V,S⟩;clear P
      go_wp2
      go_ret2
      exact fC.yes m.o rfl (lB (cm X.o S.grownBy (.inr (by have:=aY X.o;intro X;have:=(this b X).1;have:=h.lt;omega))) q.size) V ((q.Z N).Z S)
     |false=>
      rw[R]at H a;rw[ap aj]at a;have m:=ah a;clear a R
      go_in
      go_wp2_with fail
      refine ar g ?_;rintro w1 ⟨d,l⟩;clear g;have f:=j _ d;clear j;go_wp2_with fail
      refine ar f ?_;rintro K ⟨i,r⟩;clear f;have A:=y _ i;clear y;go_wp2_with fail
      refine ar A ?_;rintro M ⟨h,s⟩;clear A;have q:=(l.Z r).Z s;have F:=u _ h;clear u;go_wp2_with fail
      apply F.zz;rintro e T ⟨⟨⟨v,rfl,I⟩,x⟩,N⟩;clear F;have P:=H _ x;clear H;obtain⟨aa,Z,rfl⟩:=dR I;clear I;go_wp2_with fail
      refine ar P ?_;rintro ab ⟨V,S⟩;clear P
      go_wp2
      go_ret2
      exact fC.no m.o rfl Y V ((q.Z N).Z S)
  |false=>
   rw[Q]at j a;rw[ap aj]at a;have A:=fun w1 d=>MD b G doc D C w1 d B.1 O;have C:=MC doc G;have y:=B.1;have⟨W,u⟩:=am (jQ doc.data.toList G);rw[<-u]at A C a;clear Q i u J B;cases W with
   |nil=>
    rw[au rfl]at a;have m:=ah a;clear a
    go_in
    go_wp2_with fail
    refine ar g ?_;rintro w1 ⟨d,l⟩;clear g;have f:=j _ d;clear j;go_wp2_with fail
    refine ar f ?_;rintro K ⟨i,r⟩;clear f;have u:=A _ i;clear A;go_wp2_with fail
    refine ar u ?_;rintro M ⟨h,s⟩;clear u
    go_wp2
    go_ret2
    exact fC.no m.o rfl y h ((l.Z r).Z s)
   |cons c t=>
    rw[ap aj]at a;have y:=fun w=>oD ⟨(c::t).toArray⟩ w (by rw[eJ];show(c::t).length<=_;omega);simp only at y;have B:=ah C;clear C;generalize hwd:c::t=W at*;have B:W.toArray.isEmpty=false:=by rw[<-hwd];rfl
    have B:W.isEmpty=false:=by rw[<-hwd];rfl
    clear hwd;cases C:bp W with
    |true=>
     rw[C]at y a;have m:=ah a;clear a C
     go_in
     go_wp2_with fail
     refine ar g ?_;rintro w1 ⟨d,l⟩;clear g;have f:=j _ d;clear j;go_wp2_with fail
     refine ar f ?_;rintro K ⟨i,r⟩;clear f;have u:=A _ i;clear A;go_wp2_with fail
     refine ar u ?_;rintro M ⟨h,s⟩;clear u;go_wp2_with fail
     refine ar (y _) ?_;intro T B;clear y;have q:=((l.Z r).Z s).Z (aZ.of B);have x:=h.O B
     go_wp2
     go_ret2
     exact fC.yes m.o rfl (xM rfl q.size rfl) (by simpa using x.O aP) (q.alloc _)
    |false=>
     rw[C]at y a;have m:=ah a;clear a C
     go_in
     go_wp2_with fail
     refine ar g ?_;rintro w1 ⟨d,l⟩;clear g;have f:=j _ d;clear j;go_wp2_with fail
     refine ar f ?_;rintro K ⟨i,r⟩;clear f;have u:=A _ i;clear A;go_wp2_with fail
     refine ar u ?_;rintro M ⟨h,s⟩;clear u;go_wp2_with fail
     refine ar (y _) ?_;intro T B;clear y;have q:=((l.Z r).Z s).Z (aZ.of B);have x:=h.O B;have a:=x.free 2;have a:=x.cLo
     go_wp2
     go_ret2
     exact fC.yes m.o rfl (xM (by simp) q.size rfl) (by simpa using(x.setLo true).O aP) ((q.setCell 2 _).alloc _)
def AI{b w0 w w' row}(a:aZ b w0 w)(c:w.grownBy w' row)(g:∀k,row=some k->w0<=k):aZ b w0 w':=
 ⟨c.os.Z a.os,c.tape.Z a.tape,c.output.Z a.output,aW a.size c.size,fun k d f=>(c.J k (eU d a.size) (fun e=>by have:=g k e.zy;omega)).Z (a.J k d f)⟩
def AJ{w w' b p doc lo bi row}(a:cC w b doc p lo bi)(c:w.grownBy w' row)(d:row≠b):cC w' b doc p lo bi:=
 (c.J b a.lt (fun e=>d e.zy)).Z a
def AK{r:Option _}{w w' e}(a:pQ r w e w'):∃o n c ok,e=.returned (.tuple #[.slice o n c,.bool ok])/\uL w' w (.slice o n c) ok r/\aR w w':=by
 cases r with
 |none=>exact⟨none,0,0,false,a.1,⟨rfl,rfl⟩,a.2⟩
 |some l=>
  obtain⟨⟨v,f,b⟩,d⟩:=a;obtain⟨o,c,rfl⟩:=dR b;exact⟨o,_,c,true,f,⟨b,rfl⟩,d⟩
def uL.down{w:World}{b B':Nat}{v:Value}{ok:Bool}{r:Option (List ax)}(a:uL w b v ok r)(c:B'<=b):uL w B' v ok r:=by
 cases r with
 |none=>exact a
 |some l=>exact⟨lB a.1 c,a.2⟩
def EY{w B o1 o2 c1 c2 a b}(n:dg w B (.slice o1 a.length c1) a)(q:dg w B (.slice o2 b.length c2) b):
 pP (cT w #[.slice o1 a c1,.slice o2 b c2] 50) w 2 [⟨a,o1,c1⟩,⟨b,o2,c2⟩]:=by
 have v:=aN w (.cells #[.slice o1 a c1,.slice o2 b c2] 50);have d:=(aA _ w).alloc (ay _) (.cells #[.slice o1 a c1,.slice o2 b c2] 50);refine⟨⟨rfl,ay _,bO,fun _=>⟨_,0,rfl,aj,fun j u r=> ?_⟩⟩,fun p f=> ?_⟩;rw[cH,bj _ _ j _ _ _ v];simpa[pvVal]using r;obtain⟨o,c,e,s⟩:=AB n;injection e with h _ l
 obtain⟨o',x,g,t⟩:=AB q;injection g with i _ m
 subst h;subst l;subst i;subst m;simp at f;rcases f with rfl|rfl
 exact s.O d;exact t.O d
def dJ.pos{l:List ax}(b:dJ l):1<=l.length:=by have:=b.ne;cases l with|nil=>exact absurd rfl this|cons a t=>simp
structure qY(b:Nat)(doc:ByteArray)(ns:List ax)(st:fa)(v:Value)(w0 w:World):Prop where
 own:dg w w0.heap.size v ns
 rd:cC w b doc st.p st.long st.big
 sole:aZ b w0 w
 good:dJ ns
 bw:b<w0.heap.size
def qY.sole'{b:Nat}{c:ByteArray}{f:List ax}{st:fa}{v:Value}{g w w':World}{p:Nat}(a:qY b c f st v g w)(d:aZ b w w')(h:cC w' b c p st.long st.big):qY b c f ⟨p,st.long,st.big⟩ v g w':=
 ⟨cm a.own d.grownBy (.inr (fun e=>by have:=(aY a.own b e).1;have:=a.bw;omega)),h,a.sole.Z d,a.good,a.bw⟩
def xN{b p doc lo r w0 w w' e}(f:aZ b w0 w)(i:AG r b p w0 doc lo w e w')(h:dJ r.1)(g:b<w0):∃o c,e=.returned (.slice o r.1 c)/\qY b doc r.1 ⟨p,lo,r.2⟩ (.slice o r.1 c) w0 w':=by obtain⟨v,rfl,a,d,j⟩:=i;obtain⟨o,c,rfl⟩:=dR a;exact⟨o,c,rfl,⟨a,d,f.Z j,h,g⟩⟩
def MN{b n doc E}(a5:doc.size<=65536)(t:nS 276 b doc (nN doc.data.toList E) n)(u:lA doc.data.toList E):nS 261 b doc (mY doc.data.toList E) n:=by
 intro st w y s C;obtain⟨F,d⟩:=am (mY doc.data.toList E st);rw[<-d];unfold mY at d;have h:=t st w y s C;have B:=fun a i g=>EG u st a i (by rw[<-eJ];exact s) g;have I:=y.lt;unfold fC at h;cases g:nN doc.data.toList E st with
 |none=>
  rw[g]at d h;simp only at d h;have j:=ah d;clear d g B t u
  go_in
  go_wp2_with fail
  go_step3
  go_wp2_with fail
  apply h.zz;rintro e D ⟨⟨⟨o,k,c,rfl⟩,J,H,G,A,m⟩,q⟩;clear h;go_wp2_with fail
  rw[sf];go_ret2
  exact fC.no j.o rfl A m q
 |some z=>
  obtain⟨a,i⟩:=z;have A:=B _ _ g;rw[g]at d h;simp only at d h;have j:=ah d;clear d g B t u
  go_in
  go_wp2_with fail
  go_step3
  go_wp2_with fail
  apply h.zz;rintro e D ⟨⟨⟨v,rfl,t⟩,m⟩,q⟩;clear h;have d:qY b doc a i v w D:=⟨t,m,q,A.2.2,I⟩;have u:i.p<=doc.size:=by rw[eJ];exact A.2.1
  clear t m q A y s C;go_wp2_with fail
  go_step3
  go_wp2
  go_loopg [4] (doc.size-i.p) (fun k v wr=>∃a st f,st.p<=doc.size/\k=doc.size-st.p/\k<f/\qY b doc a st v w wr/\Hid (F=(mc doc.data.toList f a st)))
  case atStart=>exact⟨a,i,_,u,rfl,by rw[<-eJ];omega,d,j.o⟩
  case round=>
   obtain⟨a,⟨p,X,R⟩,f,s,rfl,i,t,J⟩:=hrel;clear j d u;simp only at s i;obtain⟨f,rfl⟩:∃d,f=d+1:=⟨f-1,ad⟩;have d:=J.o;unfold mc at d;simp only at d;obtain⟨af,ae,rfl⟩:=dR t.own;have h:=pO 42 42 rfl b p doc X R wr t.rd s a5;have m:=pN doc 42 p s;have⟨q,T⟩:=am (cr doc.data.toList 42 p);rw[<-T]at h m d;have S:=t.good.pos;have i:=t.good.len;cases F:gD doc.data.toList 42 p with
   |true=>
    rw[F]at h d m;rw[au rfl]at d;have G:=m.2.2 rfl;have ab:=m.1;have H:=ah d;clear d F T m J;go_wp2_with fail
    refine ar h ?_;rintro a0 ⟨y,B⟩;clear h;have i:=t.sole' B y;have V:=i.sole.size;have D:=EU _ a _ a0 i.own V ad S;clear t y B;go_wp2_with fail
    apply D.zz;rintro e ao ⟨M,rfl,K,j⟩;clear D;have u:=fun k e=>(aY i.own k e).1;have A:=AJ i.rd j (fun e=>by have:=u b e;have:=i.bw;omega);have C:=AI i.sole j u;have N:=xL b q w.heap.size doc X R (some (gU a)) M true ao A ⟨K,rfl⟩ C.size I (by intro l e;cases e;have:=i.good.many.2.2;omega);obtain⟨O,M,rfl⟩:=dR K;clear A K j u;go_wp2_with fail
    apply N.zz;intro e M O;obtain⟨Z,W,rfl,j⟩:=xN C O (dJ.keep (EH i.good)) I;clear N O
    go_wp2
    go_roundg(doc.size-q)
    case rel=>exact⟨_,_,f,ab,rfl,ad,j,H.o⟩
    case measure=>omega
   |false=>
    rw[F]at h d;rw[ap aj]at d;have K:=fun w1 T=>pO 43 43 rfl b q doc X R w1 T m.1 a5;have G:=pN doc 43 q m.1;have⟨Q,a2⟩:=am (cr doc.data.toList 43 q);rw[<-a2]at K G d;have P:=m.2.1;clear F T m J;cases av:gD doc.data.toList 43 q with
    |true=>
     rw[av]at K d G;rw[au rfl]at d;have bg:=G.2.2 rfl;have ab:=G.1;have H:=ah d;clear d av a2 G;go_wp2_with fail
     refine ar h ?_;rintro a0 ⟨y,B⟩;clear h;have i:=t.sole' B y;have P:=K _ i.rd;clear K t y B;go_wp2_with fail
     refine ar P ?_;rintro ao ⟨A,C⟩;clear P;have q:=i.sole' C A;clear i A C;have V:=q.sole.size;have J:=MG a _ _ ao q.own ad S;go_wp2_with fail
     apply J.zz;rintro e M ⟨Y,rfl,m,F⟩;clear J;have j:=q.sole' (aZ.of F) (q.rd.O F);have Y:=ah q.own;clear q;obtain⟨Z,W,rfl⟩:=dR m;have J:=j.sole.size;have D:=EU _ a _ M (lB m V) J ad S;have u:=fun k e=>(aY m k e).1;have S:=fun k e=>by have J:=(aY Y.out k e).2;exact J
     clear m F;go_wp2_with fail
     apply D.zz;rintro e Y ⟨m,rfl,Z,F⟩;clear D;have m:qY b doc a ⟨Q,X,R⟩ (.slice af a.length ae) w Y:=
      ⟨cm j.own F (by
        cases e:(Value.slice af a ae).ownBlock with
        |none=>simp
        |some k=>exact .inr (fun D=>by have J:=S k e;have V:=u k D.zy;omega)),
       AJ j.rd F (fun e=>by have:=u b e;have:=I;omega),AI j.sole F (fun k e=>by have:=u k e;omega),j.good,I⟩
     clear j F u S;obtain⟨V,D,rfl⟩:=dR Z;have aa:=EY m.own Z;have W:=(aA _ Y).alloc (ay _) (.cells #[.slice af a ae,.slice V (gU a) D] 50);have F:=m.sole' (aZ.of W) (m.rd.O W);have S:=m.good.many;have J:=AF 3 1 [⟨a,af,ae⟩,⟨gU a,V,D⟩] _ 2 _ aa aj (by intro p s;simp at s;rcases s with rfl|rfl;exact⟨m.good.ahead,by simp only;omega⟩;exact⟨S.1,by simp only;omega⟩) aj;simp only[dZ,r9,ef,gN,Nat.reduceAdd]at J;have⟨r,D⟩:=am (fI 3 1 [a,gU a]);rw[<-D]at J;have a7:=fun x g=>xI m.good ⟨S.1,S.2.1⟩ x (D.zy.Z g);have a6:∀x,r=some x->x.length<=1048576:=fun x g=>by
      rw[D]at g;unfold fI at g;rw[ap aj]at g;split at g;cases g
      rename_i u;cases g
      have:=xH 3 [a,gU a] 0 [];simp at this u;omega
     rw[<-D]at H;clear D S aa m Z;go_wp2_with fail
     apply J.zz;intro e a9 ag;obtain⟨be,bd,bb,ok,rfl,al,V⟩:=AK ag;clear J ag;have S:=F.sole' (aZ.of V) (F.rd.O V);have N:=xL b Q _ doc X R r _ ok a9 S.rd (al.down F.sole.size) S.sole.size I a6;clear al F W V;go_wp2_with fail
     apply N.zz;intro e bi O;obtain⟨bf,bc,rfl,a1⟩:=xN S.sole O (dJ.keep a7) I;clear N O
     go_wp2
     go_roundg(doc.size-Q)
     case rel=>exact⟨_,_,f,ab,rfl,ad,a1,H.o⟩
     case measure=>omega
    |false=>
     rw[av]at K d;rw[ap aj]at d;have Y:=fun w1 T=>pO 63 63 rfl b Q doc X R w1 T G.1 a5;have T:=pN doc 63 Q G.1;have⟨ba,a3⟩:=am (cr doc.data.toList 63 Q);rw[<-a3]at Y T d;have bl:=G.2.1;clear av a2 G;cases aw:gD doc.data.toList 63 Q with
     |true=>
      rw[aw]at Y d T;rw[au rfl]at d;have bg:=T.2.2 rfl;have ab:=T.1;have H:=ah d;clear d aw a3 T;go_wp2_with fail
      refine ar h ?_;rintro a0 ⟨y,B⟩;clear h;have i:=t.sole' B y;have P:=K _ i.rd;clear K t y B;go_wp2_with fail
      refine ar P ?_;rintro ao ⟨A,C⟩;clear P;have q:=i.sole' C A;clear i A C;have an:=Y _ q.rd;clear Y;go_wp2_with fail
      refine ar an ?_;rintro M ⟨G,Q⟩;clear an;have j:=q.sole' Q G;clear q G Q;have a4:=(aA _ M).alloc (ay _) (.cells (nodeRow mb) 104);have m:=j.sole' (aZ.of a4) (j.rd.O a4);have Z:=AC M mb _ j.sole.size;have aa:=EY m.own Z;rw[EW]at aa m;have W:=(aA _ (cT M #[.int .i64 1,.string ⟨#[]⟩,.int .i64 0,.int .i64 0] 104)).alloc (ay _) (.cells #[.slice af a ae,.slice M [mb] 1] 50);have F:=m.sole' (aZ.of W) (m.rd.O W);have J:=AF 4 0 [⟨a,af,ae⟩,⟨[mb],some ⟨M.heap.size,0,none⟩,1⟩] _ 2 _ aa aj (by intro p s;simp at s;rcases s with rfl|rfl;exact⟨m.good.ahead,by simp only;omega⟩;exact⟨eI.one _ rfl rfl,aj⟩) aj;simp only[dZ,r9,ef,gN,cH,Nat.reduceAdd,bP]at J F;have⟨r,D⟩:=am (fI 4 0 [a,[mb]]);rw[<-D]at J;have a7:=fun x g=>xI m.good ⟨eI.one _ rfl rfl,aj⟩ x (D.zy.Z g);have a6:∀x,r=some x->x.length<=1048576:=fun x g=>by
       rw[D]at g;unfold fI at g;rw[ap aj]at g;split at g;cases g
       rename_i u;cases g
       have:=xH 4 [a,[mb]] 0 [];simp at this u;omega
      rw[<-D]at H;clear D aa m Z j a4;go_wp2_with fail
      apply J.zz;intro e a9 ag;obtain⟨be,bd,bb,ok,rfl,al,V⟩:=AK ag;clear J ag;have S:=F.sole' (aZ.of V) (F.rd.O V);have N:=xL b ba _ doc X R r _ ok a9 S.rd (al.down F.sole.size) S.sole.size I a6;clear al F W V;go_wp2_with fail
      apply N.zz;intro e bi O;obtain⟨bf,bc,rfl,a1⟩:=xN S.sole O (dJ.keep a7) I;clear N O
      go_wp2
      go_roundg(doc.size-ba)
      case rel=>exact⟨_,_,f,ab,rfl,ad,a1,H.o⟩
      case measure=>omega
     |false=>
      rw[aw]at Y d;rw[ap aj]at d;have ab:=T.1;have H:=ah d;clear d aw a3 T;go_wp2_with fail
      refine ar h ?_;rintro a0 ⟨y,B⟩;clear h;have i:=t.sole' B y;have P:=K _ i.rd;clear K t y B;go_wp2_with fail
      refine ar P ?_;rintro ao ⟨A,C⟩;clear P;have q:=i.sole' C A;clear i A C;have an:=Y _ q.rd;clear Y;go_wp2_with fail
      refine ar an ?_;rintro M ⟨G,Q⟩;clear an;have j:=q.sole' Q G;clear q G Q;go_wp2_with fail
      rw[sf];go_ret2
      exact fC.yes H.o rfl j.own j.rd j.sole
def jj{w:World}{b e c size m n n':Nat}{v v' xs xs'}(h:w.ownsRow b e size v n xs)(i:w.ownsRow b c m v' n' xs')(l:e≠c):v.ownBlock=none∨v.ownBlock≠v'.ownBlock:=by
 rcases h.2 with⟨rfl,_⟩|⟨g,cap,p,rfl,_,j,_⟩
 exact .inl rfl;refine .inr ?_;rcases i.2 with⟨rfl,_⟩|⟨r,o,q,rfl,_,a,_⟩
 simp[Value.ownBlock];simp only[Value.ownBlock];intro d;cases d
 rw[j]at a;injection a with a
 injection a with _ f _
 exact l f
def MO:(prog.info? 50).map (fun i=>(i.zero,i.size,i.bytes))=some (some (.slice none 0 0),1,24):=az
structure lC(b:Nat)(doc:ByteArray)(ps:List PV)(st:fa)(v:Value)(w0 w:World):Prop where
 row:w.ownsRow w0.heap.size 50 1 v ps.length (ps.map pvVal)
 own:∀p∈ps,dg w w0.heap.size (pvVal p) p.l
 rd:cC w b doc st.p st.long st.big
 sole:aZ b w0 w
 good:∀p∈ps,dJ p.l
 bw:b<w0.heap.size
def lC.sole'{b:Nat}{c:ByteArray}{ps:List PV}{st st':fa}{v:Value}{g w w':World}(a:lC b c ps st v g w)(d:aZ b w w')(h:cC w' b c st'.p st'.long st'.big):lC b c ps st' v g w':=
 ⟨cm a.row d.grownBy (.inr (fun e=>by have:=(aY a.row b e).1;have:=a.bw;omega)),fun p f=>cm (a.own p f) d.grownBy (.inr (fun e=>by have:=(aY (a.own p f) b e).1;have:=a.bw;omega)),h,a.sole.Z d,a.good,a.bw⟩
def lC.push{b:Nat}{g:ByteArray}{ps:List PV}{st:fa}{v j:Value}{f w w':World}(c:lC b g ps st v f w){x:PV}(i:dg w f.heap.size (pvVal x) x.l)(l:dJ x.l)(d:w.grownBy w' v.ownBlock)
 (m:w'.ownsRow f.heap.size 50 1 j (ps.length+1) (ps.map pvVal++[pvVal x])):lC b g (ps++[x]) st j f w':=by
 have h:=fun k e=>(aY c.row k e).1;refine⟨by rw[ck,gL];assumption,fun p a=> ?_,AJ c.rd d (fun e=>by have:=h b e;have:=c.bw;omega),AI c.sole d h,fun p a=> ?_,c.bw⟩;rcases dk.1 a with a|a
 exact cm (c.own p a) d (jj (c.own p a) c.row aq);simp at a;subst a;exact cm i d (jj i c.row aq);rcases dk.1 a with a|a
 exact c.good p a;simp at a;subst a;exact l
def lC.parts{b:Nat}{i:ByteArray}{ps:List PV}{st:fa}{o:Option Addr}{c:Nat}{v w:World}(f:lC b i ps st (.slice o ps.length c) v w)(l:1<=ps.length):pP w o c ps:=by
 obtain⟨g,x,hv,z,n,r,m⟩:=sP f.row l;injection hv with a y d
 subst a;subst d;refine⟨⟨aj,r,m,fun _=>⟨g,0,rfl,n,fun j u h=> ?_⟩⟩,fun p t=> ?_⟩;rw[cH];have q:j<ps*1:=by have:=(aF.1 h).1;simpa using this
 exact(zH f.row j q).Z h;obtain⟨o,c,e,s⟩:=AB (f.own p t);unfold pvVal at e;injection e with a _ d
 rw[a,d];exact s
def E3{b n a:Nat}{g:ByteArray}{F:fa->iB}(B:g.size<=65536)(c:UInt8)(h:Int)(j:h=(c.toNat:Nat))(Y X:Int)(hF:nS a b g F n)(A:lA g.data.toList F)
 (m:∀args i,(callFunc a args).run prog i=.ok (.enter a args) i) (st:fa) (w:World) (d:cC w b g st.p st.long st.big) (D:st.p<=g.size) (q:g.size-st.p<n):
 Calls prog 237 #[.pointer (some ⟨b,0,none⟩),.int .u8 h,.int .i64 Y,.int .i64 X,.func (.func a) #[.pointer (some ⟨b,0,none⟩)] #[]] w (fC (jg g.data.toList c Y X F (g.data.toList.length+1) [] st) b g w):=by
 subst j;obtain⟨j,a⟩:=am (jg g.data.toList c Y X F (g.data.toList.length+1) [] st);rw[<-a];have h:=ah a;have ab:=d.lt;have i:lC b g [] st (.slice none 0 0) w w:=⟨cW _ _ _ _,fun p D=>by simp at D,d,aZ.refl b w,fun p D=>by simp at D,ab⟩;obtain⟨ao,af,ag,al,an⟩:=cZ MO;clear a;go_enter func237,ntmps237
 go_wp2
 go_loopg [12] (g.size-st.p) (fun k v wr=>∃(ps:List PV) (st':fa) (f:Nat),st'.p<=g.size/\st.p<=st'.p/\ps.length<=st'.p/\k=g.size-st'.p/\k<f/\lC b g ps st' v w wr/\Hid (j=jg g.data.toList c Y X F f (ps.map PV.l) st'))
 case atStart=>exact⟨[],st,g.data.toList.length+1,D,ay _,aH _,rfl,by rw[<-eJ];omega,i,h.o⟩
 case round=>
  obtain⟨ps,st',f,m,j,s,rfl,a,t,q⟩:=hrel;clear h i d;obtain⟨f,rfl⟩:∃a,f=a+1:=⟨f-1,ad⟩;have j:=q.o;unfold jg at j;obtain⟨aw,av,rfl⟩:=dR t.row;have u:=hF st' wr t.rd m ad;unfold fC at u;have s:=fun a i T=>A st' a i (by rw[<-eJ];exact m) T;cases R:F st' with
  |none=>
   rw[R]at j u;simp only at j u;have I:=ah j;clear j R s q;go_wp2_with fail
   refine u.zz ?_;rintro e m ⟨⟨⟨o,k,A,rfl⟩,H,C,h,d,E⟩,G⟩;clear u
   go_wp2
   go_ret2
   exact fC.no I.o rfl d E (t.sole.Z G)
  |some z=>
   obtain⟨a,i⟩:=z;have h:=s _ _ R;rw[R]at j u;simp only at j u;have A:i.p<=g.size:=by rw[eJ];exact h.2.1
   have d:=h.1;have ae:=h.2.2;have H:=fun w1 d=>pO c _ rfl b i.p g i.long i.big w1 d A B;have S:=pN g c i.p A;obtain⟨Q,d⟩:=am (cr g.data.toList c i.p);rw[<-d]at H S j;clear R s q h d;cases aa:gD g.data.toList c i.p with
   |true=>
    rw[aa]at H j S;rw[au rfl]at j;have d:=S.2.2 rfl;have a4:=S.1;have I:=ah j;clear j aa S;go_wp2_with fail
    refine u.zz ?_;rintro e m ⟨⟨⟨v,rfl,C⟩,E⟩,G⟩;clear u;obtain⟨h,d,rfl⟩:=dR C;have s:=t.sole' G (st':=i) E;have K:dg m w.heap.size (pvVal ⟨a,h,d⟩) a:=lB C t.sole.size;have a2:=s.sole.size;have A:lC b g ps i (.slice aw ps.length av) w (m.alloc (.cells #[.slice h a.length d] 50)):=s.sole' ((aZ.refl b m).alloc _) (s.rd.O aP);have M:dg (m.alloc (.cells #[.slice h a.length d] 50)) w.heap.size (pvVal ⟨a,h,d⟩) a:=dp K _;clear t s C K E G;go_wp2_with(first
     |(at_builtin;go_must (refine iV _ rfl _ _ 355 rfl w.heap.size 50 ao (.slice none 0 0) 1 24 KG af ag al an rfl aq _ _ _ rfl A.row ⟨m.heap.size,0,none⟩ 1 1 [.slice h a.length d] rfl rfl (eq _ [.slice h a.length d] _ _ rfl) (fun z O=>by simp at O;subst O;rfl) bO ad aO ?_);intro a5 a6 N J Z)
     |fail)
    have B:=A.push (x:=⟨a,h,d⟩) M ae J N;have P:=H _ B.rd;clear H A M J N Z;go_wp2_with fail
    refine ar P ?_;rintro a0 ⟨V,W⟩;clear P;have q:=B.sole' W (st':=⟨Q,i.long,i.big⟩) V
    go_wp2
    go_roundg(g.size-Q)
    case rel=>exact⟨ps++[⟨a,h,d⟩],⟨Q,i.long,i.big⟩,f,a4,by(try simp only);omega,by simp only[ck,ef,gN];omega,rfl,by(try simp only);omega,q,by have:=I.o;show _=_;rw[gL];exact this⟩
    case measure=>omega
   |false=>
    rw[aa]at H j;rw[ap aj]at j;have a4:=S.1;clear aa S;cases ps with
    |nil=>
     rw[r9,au rfl]at j;have I:=ah j;clear j;simp only[gN]at t;go_wp2_with fail
     refine u.zz ?_;rintro e m ⟨⟨⟨v,rfl,C⟩,E⟩,G⟩;clear u;obtain⟨h,d,rfl⟩:=dR C;have s:=t.sole' G (st':=i) E;have K:dg m w.heap.size (pvVal ⟨a,h,d⟩) a:=lB C t.sole.size;have a2:=s.sole.size;have A:lC b g [] i (.slice aw 0 av) w (m.alloc (.cells #[.slice h a.length d] 50)):=s.sole' ((aZ.refl b m).alloc _) (s.rd.O aP);have M:dg (m.alloc (.cells #[.slice h a.length d] 50)) w.heap.size (pvVal ⟨a,h,d⟩) a:=dp K _;clear t s C K E G;have S:=A.row;simp only[gN]at S;go_wp2_with(first
      |(at_builtin;go_must (refine iV _ rfl _ _ 355 rfl w.heap.size 50 ao (.slice none 0 0) 1 24 KG af ag al an rfl aq _ _ _ rfl S ⟨m.heap.size,0,none⟩ 1 1 [.slice h a.length d] rfl rfl (eq _ [.slice h a.length d] _ _ rfl) (fun z O=>by simp at O;subst O;rfl) bO ad aO ?_);intro a5 a6 N J Z)
      |fail)
     have B:=A.push (x:=⟨a,h,d⟩) M ae J N;have P:=H _ B.rd;clear H A M J N Z S;have S:=B.row;simp only[qE,ef,gN]at S;obtain⟨a3,a1,rfl⟩:=dR S;clear S;go_wp2_with fail
     refine ar P ?_;rintro a0 ⟨V,W⟩;clear P;have q:=B.sole' W (st':=⟨Q,i.long,i.big⟩) V
     go_wp2
     go_ret2
     exact fC.yes I.o rfl (q.own ⟨a,h,d⟩ aj) q.rd q.sole
    |cons S a7=>
     rw[ap aj]at j;generalize hps2:S::a7=ps at*;have S:1<=ps.length:=by rw[<-hps2];simp
     have S:((ps.length:Int)+1==1)=false:=fU;have S:(((ps.length+1:Nat):Int)==1)=false:=fU;have I:=ah j;clear j hps2;go_wp2_with fail
     refine u.zz ?_;rintro e m ⟨⟨⟨v,rfl,C⟩,E⟩,G⟩;clear u;obtain⟨h,d,rfl⟩:=dR C;have s:=t.sole' G (st':=i) E;have K:dg m w.heap.size (pvVal ⟨a,h,d⟩) a:=lB C t.sole.size;have a2:=s.sole.size;have A:lC b g ps i (.slice aw ps.length av) w (m.alloc (.cells #[.slice h a.length d] 50)):=s.sole' ((aZ.refl b m).alloc _) (s.rd.O aP);have M:dg (m.alloc (.cells #[.slice h a.length d] 50)) w.heap.size (pvVal ⟨a,h,d⟩) a:=dp K _;clear t s C K E G;go_wp2_with(first
      |(at_builtin;go_must (refine iV _ rfl _ _ 355 rfl w.heap.size 50 ao (.slice none 0 0) 1 24 KG af ag al an rfl aq _ _ _ rfl A.row ⟨m.heap.size,0,none⟩ 1 1 [.slice h a.length d] rfl rfl (eq _ [.slice h a.length d] _ _ rfl) (fun z O=>by simp at O;subst O;rfl) bO ad aO ?_);intro a5 a6 N J Z)
      |fail)
     have B:=A.push (x:=⟨a,h,d⟩) M ae J N;have P:=H _ B.rd;clear H A M J N Z;obtain⟨a3,a1,j⟩:=dR B.row;have m:(ps++[(⟨a,h,d⟩:PV)]).length=ps.length+1:=aj;rw[m]at j;subst j;go_wp2_with fail
     refine ar P ?_;rintro a0 ⟨V,W⟩;clear P;have q:=B.sole' W (st':=⟨Q,i.long,i.big⟩) V;clear B V W;rw[<-m]at q;have j:=AF Y X (ps++[(⟨a,h,d⟩:PV)]) a3 a1 a0 (q.parts ad) ad (fun p D=>⟨(q.good p D).ahead,by have:=(q.good p D).len;omega⟩) ad;rw[m]at j q;have s:(ps++[(⟨a,h,d⟩:PV)]).map PV.l=ps.map PV.l++[a]:=aj;rw[s]at j;obtain⟨r,d⟩:=am (fI Y X (ps.map PV.l++[a]));rw[<-d]at j I;have h:∀x,r=some x->dJ x:=fun x R=>dJ.fold (ps:=ps.map PV.l++[a]) (fun p D=>by rw[<-s]at D;obtain⟨y,a,rfl⟩:=dL.1 D;exact q.good y a) (d.zy.Z R)
     clear d s m;go_wp2_with fail
     refine j.zz ?_;intro e s a;obtain⟨A,u,t,ok,rfl,m,d⟩:=AK a;clear j a;have a:=q.sole' (aZ.of d) (st':=⟨Q,i.long,i.big⟩) (q.rd.O d);have j:=xL b Q w.heap.size g i.long i.big r _ ok s a.rd (m.down q.sole.size) a.sole.size ab (fun l T=>by have:=(h l T).len;omega);have g:=a.sole;clear m q d a;go_wp2_with fail
     refine j.zz ?_;intro e a d;obtain⟨m,i,rfl,a⟩:=xN g d (dJ.keep (fun l T=>⟨(h l T).ahead,(h l T).ne⟩)) ab;clear j d
     go_wp2
     go_ret2
     exact fC.yes I.o rfl a.own a.rd a.sole
end Go.Proofs.YtfeidcmojcijpaaGreatDoor
