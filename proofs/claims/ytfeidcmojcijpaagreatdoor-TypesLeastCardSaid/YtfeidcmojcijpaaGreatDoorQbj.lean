import Derived.Test.YtfeidcmojcijpaaGreatDoorQbi
set_option linter.all false
set_option maxRecDepth 100000
set_option maxHeartbeats 0
namespace Go.Proofs.YtfeidcmojcijpaaGreatDoor
open Go.RowKit Tryz
section
open PRegex Wey
section
variable{ts:List aB} {N nd:List Nat} {hv:List Bool} {t:aB}
def I6 ts nd k:∀m,(gY ts nd (k+m)).sum<=(gY ts nd k).sum
 |0=>ay _
 |m+1=>by
  rw[<-lZ,vJ];have b:=I6 ts nd k m;rcases IT ts (gY ts nd (k+m)) (k+m)with a|a
  rw[a];exact b;omega
def Tj(b:roundW ts nd=nd){k}(d:k<ts.length):jY ts nd k=nd:=by
 have key:∀k,k<=ts.length->gY ts nd k=nd:=fun k d=>by
  rcases za ts nd k with e|e
  exact e;have a:=I6 ts nd k (ts-k);rw[show k+(ts-k)=ts by omega]at a;have c:gY ts nd ts=nd:=b;rw[c]at a;omega
 have:=vJ ts nd k;rw[key _ ad,key k ad]at this;exact this.zy
def Tk(d:iR ts)(e:t∈ts){c}(g:∀a∈nd,a<=4097)(h:∀a∈c,a<=4097)(f:∀k,c.getD k 0<=nd.getD k 0):gH ts c t<=gH ts nd t:=by
 cases b:t.text with
 |true=>unfold gH;rw[b];simp
 |false=>exact(yU b (d.right t e b).1 h).zz (yU b (d.right t e b).1 g) fun a=>f _
def vL(ts:List aB)(nd:List Nat):Prop:=(nd=ts.length/\∀a∈nd,a<=4097)/\∀k t,ts[k]?=some t->min (1+gH ts nd t) 4097<=nd.getD k 0
def Tl(h:iR ts)(a:vL ts nd) k:vL ts (jY ts nd k):=by
 refine⟨⟨by rw[Tf];exact a.1.1,IU ts a.1.2 k⟩,?_⟩;have c:=IU ts a.1.2 k;unfold jY at c⊢;cases g:ts[k]? with
 |none=>exact a.2
 |some u=>
  rw[g]at c;simp only at c⊢;by_cases d:min (1+gH ts nd u) 4097<nd.getD k 0;rw[au d]at c⊢;have l:k<nd.length:=by refine dU fun n=> ?_;rw[cB,jL ad]at d;simp at d
  have f:∀j,(nd.set k (min (1+gH ts nd u) 4097)).getD j 0=if j=k then min (1+gH ts nd u) 4097 else nd.getD j 0:=fun j=>by by_cases e:j=k;subst e;rw[au rfl,cB,su l,gM];rw[ap e,cB,un (mQ e),cB]
  have i:∀j,(nd.set k (min (1+gH ts nd u) 4097)).getD j 0<=nd.getD j 0:=fun j=>by rw[f];split;rename_i e;subst e;omega;simp
  intro j t b;have m:=Tk h (aK b) a.1.2 c i;rw[f];by_cases e:j=k;subst e;obtain rfl:t=u:=by rw[g]at b;injection b with b;exact b.zy
  rw[au rfl];omega;rw[ap e];have:=a.2 j t b;omega;rw[ap d];exact a.2
def zc(b:iR ts):∀i,vL ts (cY (roundW ts) i (List.replicate ts 4097))
 |0=>by refine⟨⟨by simp[cY],fun a d=>by simp only[cY,List.mem_replicate]at d;omega⟩,fun k t e=> ?_⟩;have f:=(aF.1 e).1;simp[cY,f];omega
 |i+1=>by
  have c:=zc b i;have key:∀k,vL ts (gY ts (cY (roundW ts) i (List.replicate ts.length 4097)) k):=by
   intro k;induction k with
   |zero=>exact c
   |succ k ih=>rw[vJ];exact Tl b ih k
  exact key _
def I7(f:iR ts){i}(m:nd=cY (roundW ts) i (List.replicate ts 4097))(n:roundW ts nd=nd):
 Fix (fun i=>i<ts.length) (kidOf ts) (fun i=>MatchS ((ts[i]?.map aB.E).getD [])) (fun i=>(ts[i]?.map aB.text).getD true) (fun i=>nd.getD i 0):=by
 have b:=m▸zc f i;intro k h;obtain⟨t,c⟩:=aT h;have p:=aK c;have j:k<nd:=aQ b.1.1;have o:nd.getD k 0<=4097:=by rw[cB,cV j];exact b.1.2 _ (wv _)
 have q:=b.2 k t c;have a:=Tj n h;unfold jY at a;rw[c]at a;simp only at a;have r:¬min (1+gH ts nd t) 4097<nd.getD k 0:=fun g=>by rw[au g]at a;have:=gA (fun l=>l.getD k 0) a;simp only[cB,su j,gM]at this;rw[cB]at g;omega
 have e:nd.getD k 0=min (1+gH ts nd t) 4097:=ad;simp only[c,qJ,gM];refine⟨o,fun d=> ?_,fun d=>⟨_,yU d (f.right t p d).1 b.1.2,e⟩⟩;rw[e];unfold gH;rw[d];simp
def Tm(b:iR ts){i}(c:nd=cY (roundW ts) i (List.replicate ts 4097))(n:roundW ts nd=nd)(e:jZ ts N)(l:oa ts N):nd=bigL N:=by
 have d:=c▸zc b i;have q:=(e.low b).len;have r:(bigL N)=ts.length:=by unfold bigL;rw[bn,q]
 apply zQ;intro k;by_cases p:k<ts;have:=fix_one (D:=fun i=>i<ts.length) (fun i o j W f a m=>by obtain⟨t,h⟩:=aT o;have g:=aK h;simp only[h,qJ,gM]at j f;exact b.zs t g a (tL (b.right t g j).1 f a m)) (I7 b c n) (Cy b e l) k p
 simp only[cB]at this;rw[cV (aQ d.1.1),cV ad]at this⊢;simpa using this;rw[jL (aQ d.1.1),jL ad]
def I8 ts hv(b:hv.length=ts.length) k:∀m,(gI ts hv (k+m)).count false<=(gI ts hv k).count false
 |0=>ay _
 |m+1=>by
  rw[<-lZ,tQ];have c:=I8 ts hv b k m;rcases Ct ts (gI ts hv (k+m)) (k+m) (by rw[Cs,b])with a|a
  rw[a];exact c;omega
def Tn(b:hv=ts.length)(c:roundU ts hv=hv){k}(f:k<ts.length):kZ ts hv k=hv:=by
 have key:∀k,k<=ts.length->gI ts hv k=hv:=fun k f=>by
  rcases y7 ts hv b k with e|e
  exact e;have a:=I8 ts hv b k (ts-k);rw[show k+(ts-k)=ts by omega]at a;have d:gI ts hv ts=hv:=c;rw[d]at a;omega
 have:=tQ ts hv k;rw[key _ ad,key k ad]at this;exact this.zy
def To(d:iR ts)(s:jZ ts N)(p:oa ts N)(b:∀k,hv.getD k false=true->0<N.getD k 0) k:∀j,(kZ ts hv k).getD j false=true->0<N.getD j 0:=by
 unfold kZ;cases g:ts[k]? with
 |none=>exact b
 |some t=>
  simp only;split;exact b;split;rename_i r;intro j f;by_cases e:j=k;subst e;obtain⟨n,i,u⟩:=p j t g;have h:=aK g;have v:0<n:=by
   cases c:t.text with
   |true=>have:=i.1 c;omega
   |false=>
    obtain⟨out,o,rfl⟩:=i.2 c;obtain⟨W,l,m⟩:=(ID c (d.right t h c).1).1 r;have:=(I0 d h c o).2 ⟨W,l,fun a q=>b _ (m a q)⟩;omega
  omega;rw[cB,un (mQ e),<-cB]at f;exact b j f;exact b
def I9(b:iR ts)(c:jZ ts N)(d:oa ts N):∀i j,(cY (roundU ts) i (List.replicate ts false)).getD j false=true->0<N.getD j 0
 |0=>fun j a=>by simp[cY,nD]at a;split at a<;>simp at a
 |i+1=>by
  have e:=I9 b c d i;have key:∀k j,(gI ts (cY (roundU ts) i (List.replicate ts.length false)) k).getD j false=true->0<N.getD j 0:=by
   intro k;induction k with
   |zero=>exact e
   |succ k ih=>rw[tQ];exact To b c d ih k
  exact key _
def Tp(h:iR ts)(v:hv=ts.length)(s:roundU ts hv=hv)(j:jZ ts N):∀k,0<N.getD k 0->hv.getD k false=true:=by
 induction j with
 |start=>
  intro k b;simp[nD]at b;split at b<;>simp at b
 | @step N z j x ih=>
   obtain⟨i,t,n,g,y,A,_,rfl⟩:=x;intro k b;by_cases e:k=i;subst e;have u:=(aF.1 g).1;have m:=aK g;have w:(my ts hv t).1=true:=by
    cases d:t.text with
    |true=>unfold my;rw[d];rfl
    |false=>
     obtain⟨out,q,rfl⟩:=y.2 d;obtain⟨W,o,p⟩:=(I0 h m d q).1 ad;exact(ID d (h.right t m d).1).2 ⟨W,o,fun a r=>ih _ (p a r)⟩
   have c:=Tn v s u;unfold kZ at c;rw[g]at c;simp only at c;cases f:hv.getD k false with
   |true=>rfl
   |false=>
    rw[f,ap aq,au w]at c;have:=gA (fun l=>l.getD k false) c;simp only[cB,su (show k<hv by omega),gM]at this;rw[cB]at f;rw[<-this]at f;cases f
   rw[cB,un (mQ e),<-cB]at b;exact ih k b
def Tq(a:iR ts){i}(c:hv=cY (roundU ts) i (List.replicate ts false))(g:hv=ts.length)(f:roundU ts hv=hv)(b:jZ ts N)(e:oa ts N) k:hv.getD k false=decide (0<N.getD k 0):=by rw[ft,cf];exact⟨fun d=>I9 a b e i k (c▸d),Tp a g f b k⟩
end
end
def ew(key v:Bytes):Tr->Tr
 | .mk l x av ks=>.mk l x (av.map fun a=>if a.1=key then(a.1,v)else a) ks
inductive iE(ts:List aB)(rwz:Nat->List Bytes):Nat->Tr->Prop
 |mk {k:Nat} {t:aB} {us:List Tr}:ts[k]?=some t->us.length=(rwz k).length->(∀(i:Nat) (n:Bytes) (u:Tr),(rwz k)[i]?=some n->us[i]?=some u->iE ts rwz (kidOf ts n) u)->
   iE ts rwz k (.mk t.zv [] (t.zx.map fun a=>(a,[])) (us.mapIdx fun i u=>ew t.key (Lib.decDigits i) u))
section
variable{ts:List aB} {rwz:Nat->List Bytes} {k:Nat} {T U:Tr}
def Ts key v:∀t,eO (ew key v t)=eO t
 | .mk l x av ks=>by rfl
def Ja key v:∀t,dh (ew key v t)=dh t
 | .mk l x av ks=>by rfl
def Jb:∀ks,eX ks=(ks.map eO).sum
 |[]=>rfl
 |k::ks=>by rw[eX,Jb ks];rfl
def Jc:∀ks d,ij ks<=d↔∀u∈ks,dh u<=d
 |[],d=>by simp[ij]
 |k::ks,d=>by rw[ij,Nat.max_le,Jc ks d];simp
def Tt key(f:Nat->Bytes)(us:List Tr):eX (us.mapIdx fun i u=>ew key (f i) u)=(us.map eO).sum:=by
 rw[Jb];congr 1
 apply zQ;intro i;simp[z7];cases us[i]? with
 |none=>rfl
 |some u=>simp[Ts]
def Jd key(f:Nat->Bytes)(us:List Tr) d:ij (us.mapIdx fun i u=>ew key (f i) u)<=d↔∀u∈us,dh u<=d:=by
 rw[Jc];constructor;intro b u c;obtain⟨i,a⟩:=mU c;have:=b (ew key (f i) u) (aK (by rw[z7,a];rfl));rwa[Ja]at this;intro b u c;obtain⟨i,a⟩:=mU c;rw[z7]at a;cases e:us[i]? with
 |none=>rw[e]at a;cases a
 |some v=>
  rw[e]at a;cases a
  rw[Ja];exact b v (aK e)
def Tu{F:Nat->Nat}(hF:∀k t,ts[k]?=some t->F k<=4096->F k=1+((rwz k).map fun n=>F (kidOf ts n)).sum)(f:iE ts rwz k T):F k<=4096->eO T=F k:=by
 induction f with
 | @mk k t us g m o ih=>
   intro h;have e:=hF k t g h;rw[eO,Tt,e];have:us.map eO=(rwz k).map fun n=>F (kidOf ts n):=by
    apply zQ;intro i;rw[bR,bR];by_cases j:i<us;obtain⟨u,d⟩:=aT j;obtain⟨n,c⟩:=df (rwz k) i;have p:F (kidOf ts n)<=((rwz k).map fun n=>F (kidOf ts n)).sum:=by
     have b:=aK c;generalize rwz k=L at b;induction L with
     |nil=>simp at b
     |cons a L l=>
      simp only[dZ,fm];rcases bX.1 b with rfl|b
      omega;have:=l b;omega
    rw[d,c,qJ,qJ,ih i n u c d ad];rw[jL ad,jL ad];rfl
   rw[this];omega
def Cz:∀{ks} {n},n∈di ks↔∃u∈ks,n∈nodesT u
 |[],n=>by simp[di]
 |k::ks,n=>by rw[di,dk,Cz];simp
def Tv{key v}(hv:∀c∈v,48<=c.toNat/\c.toNat<=57){t}(f:∀n∈nodesT t,nJ n):∀n∈nodesT (ew key v t),nJ n:=by
 obtain⟨l,x,av,ks⟩:=t;intro n d;unfold ew at d;rw[nodesT]at d;rcases bX.1 d with rfl|d
 obtain⟨h,i,j,m,o⟩:=f (.mk l x av ks) (by rw[nodesT];simp);refine⟨h,i,j,fun a g=> ?_,?_⟩;simp only[Tr.zx]at g;obtain⟨b,p,rfl⟩:=dL.1 g;have:=m b p;by_cases e:b.1=key;rw[au e];exact⟨this.1,hv⟩;rw[ap e];exact this;have:(av.map fun a=>if a.1=key then(a.1,v)else a).map Prod.fst=av.map Prod.fst:=by rw[z6];exact CX fun a _=>by simp only[Function.comp];split<;>rfl
 simp only[Tr.zx];rw[this];exact o;exact f n (by rw[nodesT];simp[d])
def Tw:∀n,∀c∈Lib.decDigits n,48<=c.toNat/\c.toNat<=57:=by
 intro n;induction n using Nat.strongRecOn with
 |ind n ih=>
 intro c a;rw[Lib.decDigits]at a;by_cases b:n<10;rw[dif_pos b,pm]at a;subst a;have:(UInt8.ofNat (48+n)).toNat=(48+n) % 256:=rfl;omega;rw[dif_neg b]at a;rcases dk.1 a with a|a
 exact ih _ ad c a;rw[pm]at a;subst a;have:(UInt8.ofNat (48+n % 10)).toNat=(48+n % 10) % 256:=rfl;omega
def Tx(w:∀t∈ts,bp t.zv=true/\(∀a∈t.zx,bp a=true)/\eo t.zx=false)(o:iE ts rwz k T):∀n∈nodesT T,nJ n:=by
 induction o with
 | @mk k t us p x y ih=>
   obtain⟨g,l,m⟩:=w t (aK p);have h:∀u∈us,∀n∈nodesT u,nJ n:=fun u h=>by obtain⟨i,d⟩:=mU h;have:=(aF.1 d).1;have⟨n,f⟩:=df (rwz k) i;exact ih i n u f d
   have s:∀v∈us.mapIdx (fun i u=>ew t.key (Lib.decDigits i) u),∀n∈nodesT v,nJ n:=fun v hv=>by
    obtain⟨i,d⟩:=mU hv;rw[z7]at d;cases e:us[i]? with
    |none=>rw[e]at d;cases d
    |some u=>
     rw[e]at d;cases d
     exact Tv (Tw i) (h u (aK e))
   intro n f;rw[nodesT]at f;rcases bX.1 f with rfl|f
   refine⟨fun e=> ?_,rfl,g,fun a j=> ?_,?_⟩;simp only[Tr.zv]at e;rw[e]at g;exact absurd g aq;simp only[Tr.zx]at j;obtain⟨b,q,rfl⟩:=dL.1 j;exact⟨l b q,fun c r=>by cases r⟩;simp only[Tr.zx];rw[z6];have:(t.zx.map (Prod.fst∘fun a=>(a,([]:Bytes))))=t.zx:=by
    conv=>rhs;rw[<-List.map_id t.zx]
    rfl
   rw[this];exact m;obtain⟨v,hv,f⟩:=Cz.1 f;exact s v hv n f
def Ty{t}(a:eO t<=4096):oF t=if 32<dh t then 17 else 0:=by unfold oF;by_cases b:32<dh t;omega;omega
def Tz{F:Nat->Nat}(hF:∀k t,ts[k]?=some t->F k<=4096->∀n∈rwz k,F (kidOf ts n)<F k/\kidOf ts n<ts):∀f k,F k=f->f<=4096->k<ts->∃T,iE ts rwz k T:=by
 intro f;induction f using Nat.strongRecOn with
 |ind f ih=>
 intro k w s j;obtain⟨t,e⟩:=aT j;have H:∀L:List Bytes,(∀n∈L,n∈rwz k)->∃us:List Tr,us.length=L.length/\∀(i:Nat) (n:Bytes) (u:Tr),L[i]?=some n->us[i]?=some u->iE ts rwz (kidOf ts n) u:=by
  intro L;induction L with
  |nil=>exact fun _=>⟨[],rfl,fun i n u h=>by simp at h⟩
  |cons n L q=>
   intro d;obtain⟨us,a,b⟩:=q fun x p=>d x (by simp[p]);obtain⟨r,g⟩:=hF k t e ad n (d n aj);obtain⟨u,o⟩:=ih _ ad _ rfl ad g;refine⟨u::us,by simp[a],fun i m v c hv=> ?_⟩;cases i with
   |zero=>simp at c hv;subst c;subst hv;exact o
   |succ i=>exact b i m v (by simpa using c) (by simpa using hv)
 have⟨us,a,b⟩:=H _ fun n l=>l;exact⟨_,.mk e a b⟩
end
section
namespace Wey
open Classical
section
variable{α:Type} {lt:α->α->Prop} {syms:List α} {n:Nat}
def rowsTo(syms:List α):Nat->List (List α)
 |0=>[[]]
 |k+1=>rowsTo syms k++(rowsTo syms k).flatMap fun W=>syms.map fun a=>W++[a]
def rowsTo_mem:∀(k:Nat) (W:List α),W.length<=k->(∀a∈W,a∈syms)->W∈rowsTo syms k
 |0,W,c,_=>by
  have:W=[]:=by cases W;rfl;simp at c
  rw[this];simp[rowsTo]
 |k+1,W,c,d=>by unfold rowsTo;rw[dk];by_cases e:W.length<=k;exact .inl (rowsTo_mem k W e d);right;obtain⟨U,a,rfl⟩:∃U a,W=U++[a]:=⟨W.dropLast,W.getLast (by intro f;subst f;simp at e),(Kd _).zy⟩;rw[sh];exact⟨U,rowsTo_mem k U (by simp at c;omega) (fun b g=>d b (by simp[g])),dL.2 ⟨a,d a aj,rfl⟩⟩
def allRows(syms:List α)(n:Nat):List (Option (Nat×List α)):=(List.range 4098).flatMap fun N=>(rowsTo syms n).map fun W=>(N,W)
def allRows_mem{N W}(d:N<=4097)(b:W.length<=n)(c:∀a∈W,a∈syms):some (N,W)∈allRows syms n:=by unfold allRows;rw[sh];exact⟨N,eT.2 ad,dL.2 ⟨W,rowsTo_mem n W b c,rfl⟩⟩
noncomputable def rankR(lt:α->α->Prop)(syms:List α)(n:Nat)(x:Option (Nat×List α)):Nat:=(allRows syms n).countP fun z=>decide (ahR lt z x)
def countP_lt{i:Type}{p q x}:∀{l:List i},(∀z,p z=true->q z=true)->x∈l->p x=false->q x=true->l.countP p<l.countP q
 |a::l,b,c,d,e=>by
  have j:=List.countP_mono_left (l:=l) fun z _=>b z;rw[List.countP_cons,List.countP_cons];rcases bX.1 c with rfl|c
  simp[d,e];omega;have:=countP_lt b c d e;have f:=b a;cases g:p a<;>cases h:q a<;>simp[g,h]at f⊢<;>omega
def rank_lt(o:Tot lt){N W}{y:Option _}(d:N<=4097)(e:W.length<=n)(f:∀a∈W,a∈syms)(b:ahR lt ((N,W)) y):rankR lt syms n (some (N,W))<rankR lt syms n y:=
 countP_lt (fun z c=>by simp only[cf]at c⊢;exact ahR_tr o c b) (allRows_mem d e f) (by simp only[dd];exact ahR_irr o _) (by simp only[cf];exact b)
noncomputable def ranksR(lt:α->α->Prop)(syms:List α)(n:Nat)(L:List (Option (Nat×List α))):Nat:=(L.map (rankR lt syms n)).sum
def sum_set_lt{d:Type}{f:d->Nat}{x y}:∀{L:List d} {i},L[i]?=some y->f x<f y->((L.set i x).map f).sum<(L.map f).sum
 |a::L,0,b,c=>by simp at b;subst b;simp;omega
 |a::L,i+1,b,c=>by have:=sum_set_lt (L:=L) (i:=i) (by simpa using b) c;rw[ct,dZ,dZ,fm,fm];omega
end
end Wey
end
section
open PRegex Wey
def TC{t u}(r:L t u):t.lin->∃v,L t v/\v.Sublist u/\v.Nodup/\∀p∈v,t.zl p=true:=by
 induction r with
 |eps=>exact fun _=>⟨[],.eps,.slnil,Dz,fun p c=>by simp at c⟩
 |sym p=>exact fun _=>⟨_,.sym p,List.Sublist.refl _,aj,fun q l=>by simp at l;simp[PT.zl,l]⟩
 | @cat a b u v m s f n=>
   intro d;obtain⟨x,h,i,j,g⟩:=f d.1;obtain⟨y,w,z,A,o⟩:=n d.2.1;refine⟨_,.cat h w,i.append z,Ke.2 ⟨j,A,fun p c q l e=> ?_⟩,fun p c=> ?_⟩;subst e;exact d.2.2 p (g p c) (o p l);rcases dk.1 c with c|c
   simp[PT.zl,g p c];simp[PT.zl,o p c]
 | @altl a b u m f=>
   intro d;obtain⟨x,h,i,j,g⟩:=f d.1;exact⟨x,.altl h,i,j,fun p c=>by simp[PT.zl,g p c]⟩
 | @altr a b u m f=>
   intro d;obtain⟨x,h,i,j,g⟩:=f d.2.1;exact⟨x,.altr h,i,j,fun p c=>by simp[PT.zl,g p c]⟩
 |nil=>exact fun _=>⟨[],.nil,.slnil,Dz,fun p c=>by simp at c⟩
 |more m s f n=>exact fun _=>⟨[],.nil,List.nil_sublist _,Dz,fun p c=>by simp at c⟩
def TD{α c}{V W:List α}(b:V.Sublist W):wt c V<=wt c W:=by
 unfold wt;induction b with
 |slnil=>simp
 |cons a _ ih=>rw[dZ,fm];omega
 |cons_cons a _ ih=>rw[dZ,dZ,fm,fm];omega
section
variable{l:List ax} {keys keys2:List St} {rows rows2:List (List Nat)} {c d:Bytes->Nat} {V W:List Bytes}
def TE(d:bK l=0)(n:0<l.length)(a:MatchS l W):∃V,MatchS l V/\V.Sublist W/\V<=l.length:=by obtain⟨u,f,rfl⟩:=a;obtain⟨b,c⟩:=uI (qU (oX d)) (i:=l-1) ad;obtain⟨v,g,h,j,m⟩:=TC f b;refine⟨_,⟨v,g,rfl⟩,h.map _,?_⟩;rw[bn];have:=vB v (List.range l) j fun p e=>eT.2 (aQ (c p (m p e)));rwa[wi]at this
def mC(d:ev l keys rows)(e:bK l=0)(f:l.length<=60):Acc (unionB (symsS l)) c (nxA l rows) (finA l keys) W↔(∀a∈W,a∈unionB (symsS l))/\wt c W<=4096/\MatchS l W:=
 ⟨fun b=>⟨b.1,b.2.1,(tR d e f b.1).1 b.2.2⟩,fun b=>⟨b.1,b.2.1,(tR d e f b.1).2 b.2.2⟩⟩
def TF(e:ev l keys rows)(f:ev l keys2 rows2)(a:bK l=0)(b:l.length<=60)(d:Opt bM (unionB (symsS l)) c (nxA l rows) (finA l keys) W):Opt bM (unionB (symsS l)) c (nxA l rows2) (finA l keys2) W:=
 ⟨(mC f a b).2 ((mC e a b).1 d.1),fun P g=>d.2 P ((mC e a b).2 ((mC f a b).1 g))⟩
def Je(b:∀a∈W,c a=d a):wt c W=wt d W:=by
 unfold wt;congr 1
 exact CX b
def TH{g:List Bytes}{nx:Nat->Bytes->Nat}{h:Nat->Prop}(j:∀a∈g,c a=d a)(f:Opt bM g c nx h W):Opt bM g d nx h W:=by
 have key:∀{P:List Bytes},(∀a∈P,a∈g)->wt c P=wt d P:=fun b=>Je fun a i=>j a (b a i);refine⟨⟨f.1.1,by rw[<-key f.1.1];exact f.1.2.1,f.1.2.2⟩,fun P b=> ?_⟩;rcases f.2 P ⟨b.1,by rw[key b.1];exact b.2.1,b.2.2⟩with e|e
 exact .inl e;right;unfold bef at e⊢;rwa[key f.1.1,key b.1]at e
def TI(g:ev l keys rows)(b:bK l=0)(o:0<l.length)(h:l.length<=60)(d:Opt bM (unionB (symsS l)) c (nxA l rows) (finA l keys) W):W.length<=l.length:=by
 obtain⟨j,r,m⟩:=(mC g b h).1 d.1;obtain⟨V,p,i,q⟩:=TE b o m;have s:wt c V<=wt c W:=TD i;rcases d.2 V ((mC g b h).2 ⟨fun a n=>j a (i.subset n),ad,p⟩)with e|e|⟨e,f|f⟩
 rw[e];exact q;omega;omega;omega
end
section
variable{α:Type}
def Jf{p:α->Prop}(f:α->Nat):∀n a,f a=n->p a->∃a,p a/\∀b,p b->f a<=f b:=by
 intro n;induction n using Nat.strongRecOn with
 |ind n ih=>
 intro a i h;by_cases c:∃b,p b/\f b<n;obtain⟨b,e,d⟩:=c;exact ih _ d b rfl e;exact⟨a,h,fun b g=>Nat.le_of_not_lt fun d=>c ⟨b,g,ad⟩⟩
def Jg{lt}(o:Tot lt)(c:α->Nat):∀(L:List _),L≠[]->∃m∈L,∀x∈L,Wey.le lt c m x
 |[],d=>absurd rfl d
 |a::L,_=>by
  by_cases f:L=[];exact⟨a,aj,fun x b=>by rw[f]at b;simp at b;exact .inl b.zy⟩;obtain⟨m,g,e⟩:=Jg o c L f;by_cases d:Wey.le lt c a m;refine⟨a,aj,fun x b=> ?_⟩;rcases bX.1 b with rfl|b
  exact .inl rfl;exact le_tr o d (e x b);refine⟨m,dM _ g,fun x b=> ?_⟩;rcases bX.1 b with rfl|b
  exact .inr (not_le o d);exact e x b
open Classical in
def TJ{lt}(o:Tot lt){syms c nx fin}{W:List α}(r:Acc syms c nx fin W):∃V,Opt lt syms c nx fin V:=by
 obtain⟨U,q,i⟩:=Jf (wt c) _ W rfl r;obtain⟨X,⟨f,s⟩,t⟩:=Jf (p:=fun P=>Acc syms c nx fin P/\wt c P=wt c U) List.length _ U rfl ⟨q,rfl⟩;have g:X∈(rowsTo syms X).filter fun P=>decide _:=jJ.2 ⟨rowsTo_mem _ X (ay _) f.1,by simpa using f⟩;have⟨m,l,d⟩:=Jg o c _ (List.ne_nil_of_mem g);have j:Acc syms c nx fin m:=by simpa using(jJ.1 l).2
 have h:=d X g;have x:=le_wt h;refine⟨m,j,fun P a=> ?_⟩;by_cases n:P<=X.length;exact d P (jJ.2 ⟨rowsTo_mem _ P n a.1,by simpa using a⟩);have w:=i P a;by_cases e:wt c P=wt c U;have u:=i m j;have v:m.length<=X.length:=by
  rcases h with rfl|b|⟨_,b|⟨b,_⟩⟩
  simp;omega;omega;omega
 exact .inr (.inr ⟨ad,.inl ad⟩);exact .inr (.inl ad)
end
def rR(ts:List aB)(nd:List Nat):Prop:=Fix (fun i=>i<ts.length) (kidOf ts) (fun i=>MatchS ((ts[i]?.map aB.E).getD [])) (fun i=>(ts[i]?.map aB.text).getD true) (fun i=>nd.getD i 0)
def rS(ts:List aB)(nd:List Nat)(k:Nat)(V:List Bytes):Prop:=∀t,ts[k]?=some t->(t.text=true->V=[])/\
 (t.text=false->∀keys rows,ev t.E keys rows->Opt bM (unionB (symsS t.E)) (fun a=>nd.getD (kidOf ts a) 0) (nxA t.E rows) (finA t.E keys) V)/\
 V<=t.E.length/\(∀n∈V,n∈unionB (symsS t.E)/\nd.getD (kidOf ts n) 0<nd.getD k 0)
section
variable{ts:List aB} {N nd:List Nat} {k:Nat} {t:aB} {V:List Bytes} {out:Option (Nat×List Bytes)}
def zd(hF:rR ts nd)(b:ts[k]?=t):nd.getD k 0<=4097/\(t.text=true->nd.getD k 0=1)/\(t.text=false->∃v,LeastIs (fun a=>nd.getD (kidOf ts a) 0) (MatchS t.E) v/\nd.getD k 0=min (1+v) 4097):=by have c:=hF k (aF.1 b).1;simpa only[b,qJ,gM]using c
def Jh(j:iR ts)(hF:rR ts nd)(f:ts[k]?=t)(g:t.text=false)(m:nd.getD k 0<=4096){keys}{rows:List _}(c:ev t.E keys rows)(d:Opt bM (unionB (symsS t.E)) (fun a=>nd.getD (kidOf ts a) 0) (nxA t.E rows) (finA t.E keys) V):nd.getD k 0=1+(V.map fun n=>nd.getD (kidOf ts n) 0).sum:=by
 obtain⟨v,h,q⟩:=(zd hF f).2.2 g;obtain⟨W,w1,r⟩:=h.is ad;obtain⟨b,e⟩:=j.right t (aK f) g;obtain⟨a1,l,i⟩:=(mC c b e).1 d.1;have o:=h.low V i;have p:=le_wt (d.2 W ((mC c b e).2 ⟨tL b w1,ad,w1⟩));show _=1+wt (fun n=>nd.getD (kidOf ts n) 0) V
 omega
def Ji{α:Type}{f:α->Nat}{n}:∀{V:List α},n∈V->f n<=(V.map f).sum
 |a::V,b=>by
  rw[dZ,fm];rcases bX.1 b with rfl|b
  omega;have:=Ji (f:=f) b;omega
def TL(o:iR ts)(hF:rR ts nd)(q:∀t∈ts,t.text=false->0<t.E.length)(k:Nat)(r:nd.getD k 0<=4096):∃V,rS ts nd k V:=by
 cases g:ts[k]? with
 |none=>exact⟨[],fun t b=>by rw[g]at b;cases b⟩
 |some t=>
  have p:=aK g;have one:∀{V:List Bytes},((t.text=true->V=[])/\(t.text=false->∀keys rows,ev t.E keys rows->Opt bM (unionB (symsS t.E)) (fun a=>nd.getD (kidOf ts a) 0) (nxA t.E rows) (finA t.E keys) V)/\V.length<=t.E.length/\∀n∈V,n∈unionB (symsS t.E)/\nd.getD (kidOf ts n) 0<nd.getD k 0)->rS ts nd k V:=fun b u l=>by rw[g]at l;injection l with l;subst l;exact b
  by_cases b:t.text=false/\∃keys rows,ev t.E keys rows;obtain⟨d,keys,rows,e⟩:=b;obtain⟨h,m⟩:=o.right t p d;obtain⟨v,w,y⟩:=(zd hF g).2.2 d;obtain⟨W,w1,z⟩:=w.is ad;obtain⟨V,i⟩:=TJ dw ((mC (c:=fun a=>nd.getD (kidOf ts a) 0) e h m).2 ⟨tL h w1,ad,w1⟩);have x:=Jh o hF g d r e i;refine⟨V,one ⟨(fun b=>by rw[d]at b;cases b),fun _ keys2 rows2 s=>TF e s h m i,TI e h (q t p d) m i,fun n j=>⟨i.1.1 n j,?_⟩⟩⟩;have:=Ji (f:=fun n=>nd.getD (kidOf ts n) 0) j;omega;exact⟨[],one ⟨fun _=>rfl,(fun d keys rows e=>absurd ⟨d,keys,rows,e⟩ b),aH _,fun n j=>by simp at j⟩⟩
def TM(b:iR ts)(e:t∈ts)(d:N=ts.length):∀a∈unionB (symsS t.E),big (fun a=>N.getD (kidOf ts a) 0) a=(bigL N).getD (kidOf ts a) 0:=fun a c=>by rw[oZ (d▸b.zs t e a c)];rfl
def Jj(f:iR ts)(hF:rR ts (bigL N))(s:N=ts.length)(q:rS ts (bigL N) k V)(c:ts[k]?=t)(d:t.text=false)(l:(bigL N).getD k 0<=4096)(o:qs ts N t out):
 (∃m,out=some (m,V))/\(bigL N).getD k 0=1+(V.map fun n=>(bigL N).getD (kidOf ts n) 0).sum:=by
 obtain⟨v,w,y⟩:=(zd hF c).2.2 d;obtain⟨W,w1,z⟩:=w.is ad;obtain⟨keys,rows,b,p⟩:=o;obtain⟨g,u⟩:=f.right t (aK c) d;have i:=tL g w1;have e:=TM f (aK c) s;have⟨x,a1,j⟩:=p.near dw b.start.lt (Cv b) ((mC b g u).2 ⟨i,by rw[Je fun a r=>e a (i a r)];omega,w1⟩);have h:=(q t c).2.1 d keys rows b;obtain rfl:=opt_one dw (TH e j) h;exact⟨⟨_,a1⟩,Jh f hF c d l b h⟩
end
end
def U3:Tr->Tr| .mk l x _ ks=>.mk l x [] ks
def U4{w B size n e vo vc xs}(f:w.ownsRow B e size (.slice vo n vc) n xs):kK w (fun b=>B<=b/\(Value.slice vo n vc).ownBlock=b) vo n vc size xs:=by
 have a:=oM f;refine⟨a.1,a.2.1,a.2.2.1,fun i=> ?_⟩;obtain⟨b,j,c,h,g⟩:=a.2.2.2 i;have d:(Value.slice vo n vc).ownBlock=b:=by rw[c];rfl
 exact⟨b,j,c,h,⟨(aY f b d).1,d⟩,g⟩
def kK.weak{w:World}{P Q:Nat->Prop}{o:Option Addr}{n cap size:Nat}{xs:List Value}(a:kK w P o n cap size xs)(e:∀b,b<w.heap.size->P b->Q b):kK w Q o n cap size xs:=
 a.zw (ay _) fun b _ c d=>⟨rfl,e b c d⟩
def cE.weak{w:World}{P Q:Nat->Prop}{t:Tr}{r:KA}(a:cE w P t r)(e:∀b,b<w.heap.size->P b->Q b):cE w Q t r:=
 a.zw (ay _) fun b _ c d=>⟨rfl,e b c d⟩
def jr(w:World)(B:Nat)(T:Tr)(r:KA):Prop:=
 w.ownsRow B 59 2 (.slice r.ao T.zx r.ac) T.zx (T.zx.flatMap kL)/\cE w (fun b=>B<=b/\b≠(Value.slice r.ao T.zx r.ac).ownBlock) (U3 T) ⟨none,0,r.ko,r.kc⟩
section
variable{w w':World} {B B':Nat} {T:Tr} {r:KA}
def jr.tr(e:jr w B T r):cE w (fun b=>B<=b) T r:=by
 obtain⟨l,x,av,ks⟩:=T;obtain⟨f,g⟩:=e;cases g with
 |mk n rs j h m=>exact .mk (A6 f) rs j (h.weak fun b _ a=>a.1) fun i k q c d=>(m i k q c d).weak fun b _ a=>a.1
def jr.keep(a:jr w B T r)(h:w.heap.size<=w'.heap.size)(c:∀b,B<=b->b<w.heap.size->w'.heap[b]?=w.heap[b]?):jr w' B T r:=
 ⟨aX a.1 (fun g d=>c g (aY a.1 g d).1 (aY a.1 g d).2),a.2.zw h fun b i f e=>⟨ej (c b e.1 f),e⟩⟩
def jr.low(a:jr w B T r)(c:B'<=B):jr w B' T r:=⟨eR a.1 c,a.2.weak fun b _ d=>⟨ad,d.2⟩⟩
def JQ a b:∀(av:List _) i,av[i]?=some a->b.1=a.1->(av.flatMap kL).set (i*2+1) (.string ⟨b.2⟩)=(av.set i b).flatMap kL
 |[],i,d,_=>by simp at d
 |c::av,0,d,e=>by simp at d;subst d;simp[kL,e]
 |c::av,i+1,d,e=>by have:=JQ a b av i (by simpa using d) e;rw[ct,tZ,tZ,<-this,show(i+1)*2+1=(i*2+1)+2 by omega];rfl
def jr.store{l x:Bytes}{av:List (Bytes×Bytes)}{ks:List Tr}(h:jr w B (.mk l x av ks) r){i g:Nat}{a:Bytes×Bytes}(j:av[i]?=some a)(f:r.ao=some ⟨g,0,none⟩)(v:Bytes):
 jr (w.setCell ⟨g,i*2+1,none⟩ (.string ⟨v.toArray⟩)) B (.mk l x (av.set i (a.1,v)) ks) r:=by
 obtain⟨c,d⟩:=h;simp only[Tr.zx]at c d;rw[f]at c d;refine⟨?_,?_⟩;simp only[Tr.zx,l6];rw[f,<-JQ a (a.1,v) av i j rfl];exact iN c;simp only[Tr.zx,l6];rw[f];exact cE.set d fun b m e=>m.2 (by rw[e];rfl)
end
def iH(key v:Bytes)(i:Nat)(av:List (Bytes×Bytes)):List (Bytes×Bytes):=((av.take i).map fun a=>if a.1=key then(a.1,v)else a)++av.drop i
section
variable{key v:Bytes} {av:List (Bytes×Bytes)} {a:Bytes×Bytes} {i:Nat}
def JR:iH key v 0 av=av:=by simp[iH]
def JS:iH key v av av=av.map fun a=>if a.1=key then(a.1,v)else a:=by simp[iH]
def zn:(iH key v i av)=av.length:=by simp[iH];omega
def zo(b:av[i]?=a):(iH key v i av)[i]?=a:=by have c:=(aF.1 b).1;unfold iH;rw[gp aO,zN];simp;rw[show i+(i-min i av)=i by omega];exact b
def zp(b:av[i]?=a):iH key v (i+1) av=if a.1=key then(iH key v i av).set i (a.1,v)else iH key v i av:=by
 have f:=(aF.1 b).1;have e:av.drop i=a::av.drop (i+1):=by rw[mT f];congr 1;exact(aF.1 b).2
 have d:av.take (i+1)=av.take i++[a]:=by rw[List.take_succ,b];rfl
 unfold iH;rw[d,gL,qF,e];split;rename_i c;rw[DG _ _ aO];simp[c,show i-min i av=0 by omega];rename_i c;simp[c]
end
structure ie(B6:Nat)(nm:Bytes)(av:List (Bytes×Bytes))(aval:Value)(ks:List Tr)(rs:List KA)(kval:Value)(wr:World):Prop where
 box:wr.heap[B6]?=some (.cells #[.string ⟨nm.toArray⟩,.string ⟨#[]⟩,aval,kval] 36 (0,0))
 aown:wr.ownsRow (B6+1) 59 2 aval av.length (av.flatMap kL)
 kown:wr.ownsRow (B6+1) 36 4 kval ks.length (kidRows ks rs)
 rlen:rs.length=ks.length
 kin:∀(i:Nat) (k:Tr) (q:KA),ks[i]?=some k->rs[i]?=some q->cE wr (fun b=>B6<b/\some b≠kval.ownBlock/\some b≠aval.ownBlock) k q
section
variable{B6:Nat} {nm:Bytes} {av:List (Bytes×Bytes)} {aval kval:Value} {ks:List Tr} {rs:List KA} {wr w' u:World}
def ie.size(a:ie B6 nm av aval ks rs kval wr):B6<wr.heap.size:=aS a.box
def ie.start(a:wr.heap[B6]?=some (.cells #[.string ⟨nm.toArray⟩,.string ⟨#[]⟩,.slice none 0 0,.slice none 0 0] 36 (0,0))):ie B6 nm [] (.slice none 0 0) [] [] (.slice none 0 0) wr:=
 ⟨a,cW _ _ _ _,cW _ _ _ _,rfl,fun i k q b=>by simp at b⟩
def ie.keep(a:ie B6 nm av aval ks rs kval wr)(o:wr.heap.size<=w'.heap.size)(c:∀b,B6<=b->b<wr.heap.size->w'.heap[b]?=wr.heap[b]?):ie B6 nm av aval ks rs kval w':=by have f:∀{e size n:Nat} {v} {xs},wr.ownsRow (B6+1) e size v n xs->w'.ownsRow (B6+1) e size v n xs:=fun a=>aX a (fun g d=>c g (aQ ((aY a g d).1)) (aY a g d).2);exact⟨(c _ (ay _) a.size).Z a.box,f a.aown,f a.kown,a.rlen,fun i k q h j=>(a.kin i k q h j).zw o fun b p l m=>⟨ej (c b ad l),m⟩⟩
def ie.addAttr(b:ie B6 nm av aval [] [] (.slice none 0 0) wr)(g:wr.grownBy u aval.ownBlock){c:Value}{a:Bytes×Bytes}(h:u.ownsRow (B6+1) 59 2 c (av.length+1) (av.flatMap kL++kL a)):
 ie B6 nm (av++[a]) c [] [] (.slice none 0 0) (u.setCell ⟨B6,2,none⟩ c):=by
 have f:=(g.J B6 b.size (fun e=>by have:=(aY b.aown _ e.zy).1;omega)).Z b.box;refine⟨a8 _ _ 2 _ f,?_,cW _ _ _ _,rfl,fun i k q d=>by simp at d⟩;apply yi (B':=0);rw[ck,qA];assumption
def ie.addKid(a:ie B6 nm av aval ks rs kval wr){t:Tr}{q:KA}(x:cE wr (fun b=>B6<b/\some b≠kval.ownBlock/\some b≠aval.ownBlock) t q)(h:wr.grownBy u kval.ownBlock){g n c:Nat}(o:kval.ownBlock=some g∨g=wr.heap.size)
 (A:u.ownsRow (B6+1) 36 4 (.slice (some ⟨g,0,none⟩) n c) (ks.length+1) (kidRows ks rs++oH t q)):ie B6 nm av aval (ks++[t]) (rs++[q]) (.slice (some ⟨g,0,none⟩) n c) (u.setCell ⟨B6,3,none⟩ (.slice (some ⟨g,0,none⟩) n c)):=by
 have r:=(h.J B6 a.size (fun e=>by have:=(aY a.kown _ e.zy).1;omega)).Z a.box;have m:∀{k:Tr} {p:KA},cE wr (fun b=>B6<b/\some b≠kval.ownBlock/\some b≠aval.ownBlock) k p->cE (u.setCell ⟨B6,3,none⟩ (.slice (some ⟨g,0,none⟩) n c)) (fun b=>B6<b/\some b≠(Value.slice (some ⟨g,0,none⟩) n c).ownBlock/\some b≠aval.ownBlock) k p:=fun v=>
  cE.set (v.zw h.size fun b y w j=>⟨h.cell_far ⟨b,y,none⟩ w j.2.1,j.1,(fun e=>by
   have e:b=g:=by injection e
   rcases o with l|l
   exact j.2.1 (by rw[l,e]);omega),j.2.2⟩) (fun b z=>ad)
 refine⟨a8 _ _ 3 _ r,yi (B':=0) (cm a.aown h (jj a.aown a.kown aq)),?_,by rw[ck,ck,a.rlen];rfl,?_⟩;apply yi (B':=0);rw[ck,O6 a.rlen];omega;intro i k p d f;by_cases e:i<ks;rw[eC e]at d;rw[eC (a.rlen▸e)]at f;exact m (a.kin i k p d f);have s:i=ks.length:=by have:=(aF.1 d).1;simp at this;omega
 subst s;rw[gp ad]at d;rw[gp (by rw[a.rlen];omega)]at f;rw[a.rlen]at f;simp at d f;subst d;subst f;exact m x
def ie.done{g j:Option Addr}{f h:Nat}(a:ie B6 nm av (.slice g av.length f) ks rs (.slice j ks.length h) wr):jr wr (B6+1) (.mk nm [] av ks) ⟨g,f,j,h⟩:=by
 refine⟨a.aown,.mk ⟨rfl,ay _,aH _,fun m=>absurd m aj⟩ rs a.rlen ((U4 a.kown).weak fun b _ d=>⟨d.1,fun e=> ?_⟩) fun i k q c l=>(a.kin i k q c l).weak fun b _ d=>⟨d.1,d.2.2⟩⟩;rcases jj a.kown a.aown aq with c|c
 rw[d.2]at c;cases c;exact c (by rw[d.2,e];rfl)
end
end Go.Proofs.YtfeidcmojcijpaaGreatDoor
