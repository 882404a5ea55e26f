import Derived.Test.YtnadadbndcdolaaGreatDoorQan
set_option linter.unusedVariables false
set_option linter.unusedSimpArgs false
set_option maxRecDepth 100000
set_option maxHeartbeats 0
namespace Go.Proofs.YtnadadbndcdolaaGreatDoor
open Go.RowKit Tryz
section
theorem L1:∀(ts:List aw) (i:Nat) (n:Bytes) (d:Option Nat) (c:Nat),jn i ts n d=some c->d=some c∨∃j t,c=i+j/\ts[j]?=some t/\t.name=n:=by
 intro ts;induction ts with
 |nil=>intro i n d c b;exact .inl b
 |cons t ts ih=>
  intro i n d c b;unfold jn at b;rcases ih (i+1) n _ c b with a|⟨j,u,a,f,g⟩
  ·by_cases e:t.name=n
   ·rw[ay e]at a;injection a with a
    exact .inr ⟨0,t,ad,rfl,e⟩
   ·rw[au e]at a;exact .inl a
  ·exact .inr ⟨j+1,u,ad,f,g⟩
theorem pP{ts:List aw}{n:Bytes}{c:Nat}(a:placeS ts n=some c):∃t,ts[c]?=some t/\t.name=n:=by
 rcases L1 ts 0 n none c a with a|⟨j,t,b,d,e⟩
 ·cases a
 ·rw[cD]at b;subst b;exact⟨t,d,e⟩
theorem sM{l:List Bytes}(e:dk l=false):∀(a b:Nat) (x:Bytes),l[a]?=some x->l[b]?=some x->a=b:=by
 induction l with
 |nil=>intro a b x c d;simp at c
 |cons y t ih=>
  unfold dk at e;rw[IF]at e;intro a b x c d;cases a with
  |zero=>
   cases b with
   |zero=>rfl
   |succ b=>
    simp only[jZ,jY]at c;simp only[gI]at d;subst c;have:=aX d;have f:=e.1;rw[rO.2 this]at f;cases f
  |succ a=>
   cases b with
   |zero=>
    simp only[jZ,jY]at d;simp only[gI]at c;subst d;have:=aX c;have f:=e.1;rw[rO.2 this]at f;cases f
   |succ b=>
    simp only[gI]at c d;rw[ih e.2 a b x c d]
structure Whole(ts:List aw):Prop where
 names:dk (ts.map aw.name)=false
 placed:∀t∈ts,∀n∈aI t.nodes,(placeS ts n).isSome=true
 labels:∀t∈ts,dk ((kidsS ts t).map (labelAt ts))=false
theorem qJ{ts:List aw}(a:bT ts=0):Whole ts:=by
 unfold bT at a;split at a
 ·cases a
 split at a
 ·cases a
 split at a
 ·cases a
 split at a
 ·cases a
 rename_i g;split at a
 ·cases a
 split at a
 ·cases a
 split at a
 ·rename_i h;exact absurd a h
 split at a
 ·cases a
 rename_i d;split at a
 ·cases a
 rename_i e;refine⟨by simpa using g,fun t b n i=> ?_,fun t b=> ?_⟩
 ·rw[ka,pg]at d
  have:=d t b;rw[ka,pg]at this;have:=this n i;cases f:placeS ts n with
  |none=>rw[f]at this;exact absurd rfl this
  |some c=>rfl
 ·rw[ka,pg]at e
  simpa using e t b
theorem L5{ts:List aw}{n:Bytes}(f:Whole ts){k:Nat}{t:aw}(d:ts[k]?=some t)(b:t.name=n):placeS ts n=some k:=by
 have e:(placeS ts n).isSome=true:=by rw[yi,rO];exact fH.2 ⟨t,aX d,b⟩
 obtain⟨c,a⟩:=By.1 e;obtain⟨u,g,h⟩:=pP a;have:k=c:=sM f.names k c n (by rw[bW,d];simp[b]) (by rw[bW,g];simp[h]);rw[a,this]
theorem L6{l:List Nat}{f:Nat->Bytes}(h:dk (l.map f)=false){j:Nat}(g:j∈l):l.find? (fun i=>f i==f j)=some j:=by
 cases c:l.find? (fun i=>f i==f j)with
 |none=>rw[Iu]at c;exact absurd ak (c j g)
 |some i=>
  have m:=Iv c;have n:=IG c;obtain⟨a,e⟩:=pd.1 n;obtain⟨b,d⟩:=pd.1 g;have o:f i=f j:=by simpa using m
  have:=sM h a b (f j) (by rw[bW,e];simp[o]) (by rw[bW,d];rfl);subst this;rw[e]at d;exact d
theorem y9:aI []=[]:=aA
open Go.RowKit Go.Shelf
attribute [local go_sem] uC
open Go.RowKit Go.Shelf
def jO(l:List aj):Bool:=l.all (fun n=>decide (n.sym.length<=80))&&decide (l.length<=24)
theorem vP{a:Type}{l:List a}{p:a->Bool}{k:Nat}{x:a}(d:l[k]?=some x)(b:(l.take k).all p=true)(c:p x=true):(l.take (k+1)).all p=true:=by rw[bV,d,List.all_append,b];simp[c]
theorem vQ{a:Type}{l:List a}{p:a->Bool}{k:Nat}{x:a}(c:l[k]?=some x)(b:p x=false):l.all p=false:=by rw[List.all_eq_false];exact⟨x,aX c,by simp[b]⟩
theorem L8(l:List aj)(o:Option Addr)(cap:Nat)(w:World)(e:cO w o cap l):
 Calls prog 49 #[.agg #[.slice o l.length cap]] w fun q w'=>q=.returned (.bool (jO l))/\Below w.heap.size w w':=by
 obtain⟨z,f⟩:=ar (jO l);rw[<-f];have j:=ah f;clear f;have E:=e.2.1;have s:=e.2.2.1;unfold maxLen at s;have h:Below w.heap.size w (w.alloc (.cells #[.slice o l.length cap] 51)):=aG;have r:=e.below h;go_enter func49,ntmps49
 go_wp2
 go_loopw [3] (fun v wr=>∃k:Nat,v=.int .i64 k/\k<=l.length/\wr=w.alloc (.cells #[.slice o l.length cap] 51)/\Hid ((l.take k).all (fun n=>decide (n.sym.length<=80))=true)) (fun v _=>l.length-(intOf v).toNat)
 case atStart=>exact⟨0,rfl,aZ _,rfl,rfl⟩
 case round=>
  obtain⟨k,rfl,B,rfl,i⟩:=hrel;by_cases y:k<l.length
  ·have u:decide ((k:Int)<l.length)=true:=bQ
   have D:(k:Int)<l.length:=ad;have C:(0:Int)<=k:=ad;obtain⟨x,d⟩:∃n,l[k]?=some n:=⟨_,aH y⟩;obtain⟨b,F,rfl,A,G,H,I,J⟩:=r.at d;by_cases m:x.sym.length<=80
   ·have t:decide ((x.sym.length:Int)>80)=false:=bK
    have a:=vP d i.o (p:=fun n=>decide (n.sym.length<=80)) (by simp[m]);have c:=ah a;clear a d
    go_wp2
    go_roundw
    case rel=>exact⟨k+1,aV,ad,trivial,c.o⟩
    case measure=>exact bh
   ·have t:decide ((x.sym.length:Int)>80)=true:=bQ
    have a:jO l=false:=by unfold jO;rw[vQ d (p:=fun n=>decide (n.sym.length<=80)) (by simp[m]),um]
    have c:=ah a;clear a d
    go_wp2
    go_ret;exact⟨by rw[j.o,c.o];rfl,h⟩
  ·have u:decide ((k:Int)<l.length)=false:=bK
   have g:=i.o;rw[dh ad]at g;have a:jO l=decide ((l.length:Int)<=24):=by unfold jO;rw[g,rJ];exact decide_eq_decide.2 ad
   have c:=ah a;clear a g
   go_wp2
   go_ret;exact⟨by rw[j.o,c.o];rfl,h⟩
def pQ(t:aw):Bool:=t.attrs.all (fun a=>decide (a.length<=80))
def kx(t:aw):Bool:=decide (t.attrs.length<=5)&&jO t.nodes&&decide (t.name.length<=80)&&decide (t.label.length<=80)&&decide (t.key.length<=80)&&pQ t
def lJ(ts:List aw):Bool:=ts.all kx&&decide (ts.length<=8)
theorem Ma{l:List am}{k:Nat}{x:am}(b:l[k]?=some x)(a:kx x.t=false):lJ (l.map am.t)=false:=by unfold lJ;rw[vQ (k:=k) (x:=x.t) (by rw[bW,b];rfl) a,um]
theorem Mb(l:List am)(o:Option Addr)(cap:Nat)(w:World)(I:bR w o cap l):
 Calls prog 22 #[.agg #[.slice o l.length cap]] w fun T w'=>T=.returned (.bool (lJ (l.map am.t)))/\Below w.heap.size w w':=by
 obtain⟨S,q⟩:=ar (lJ (l.map am.t));rw[<-q];have C:=ah q;clear q;have bC:=I.1.2.1;have a6:=I.1.2.2.1;unfold maxLen at a6;have M:Below w.heap.size w (w.alloc (.cells #[.slice o l.length cap] 24)):=aG;have c:=I.below M;obtain⟨al,ab⟩:=ar (w.alloc (.cells #[.slice o l.length cap] 24));have ae:=aB w (.cells #[.slice o l.length cap] 24);have ag:w.heap.size<(w.alloc (.cells #[.slice o l.length cap] 24)).heap.size:=ak;go_enter func22,ntmps22
 go_wp2_with fail
 rw[<-ab]at M c ae ag⊢;clear ab;go_loopw [3] (fun v wr=>∃k:Nat,v=.int .i64 k/\k<=l.length/\Below al.heap.size al wr/\Hid (((l.take k).map am.t).all kx=true)) (fun v _=>l.length-(intOf v).toNat)
 case atStart=>exact⟨0,rfl,aZ _,aE _ _,rfl⟩
 case round=>
  obtain⟨k,rfl,bz,u,H⟩:=hrel;have cs:=ai 0 ((u.block w.heap.size ag).trans ae);have W:=aO M u;by_cases bf:k<l.length
  ·have bd:decide ((k:Int)<l.length)=true:=bQ
   have bB:(k:Int)<l.length:=ad;have bA:(0:Int)<=k:=ad;obtain⟨x,z⟩:∃n,l[k]?=some n:=⟨_,aH bf⟩;obtain⟨O,P⟩:=(c.below u).2 x (aX z);obtain⟨b,bD,rfl,a4,an,ao,aq,av,a0,a1⟩:=(c.below u).at z;have X:=fun e=>Ma z e;have af:kx x.t=true->((l.take (k+1)).map am.t).all kx=true:=fun e=>by have:=vP (l:=l.map am.t) (k:=k) (x:=x.t) (p:=kx) (by rw[bW,z];rfl) (by rw[<-Bz];exact H.o) e;rw[Bz];exact this
   obtain⟨R,D⟩:=aD af X;clear z af X H c;obtain⟨⟨name,label,attrs,key,text,nodes⟩,E,ac,no,G⟩:=x;simp only at an ao aq av a0 a1 O P;have aa:=fun w' s=>L8 nodes no G w' (P.below s);have t:Below wr.heap.size wr (wr.alloc (.cells #[.string ⟨name.toArray⟩,.string ⟨label.toArray⟩,.slice E attrs.length ac,.string ⟨key.toArray⟩,.bool text,.slice no nodes.length G] 53)):=aG;have N:=aO W t;have V:=aO u t;by_cases h:attrs.length<=5
   ·have bb:decide ((attrs.length:Int)>5)=false:=bK
    go_wp2_with fail
    refine(aa _ t).mono ?_;rintro T B ⟨rfl,d⟩;have F:wr.heap.size<(wr.alloc (.cells #[.string ⟨name.toArray⟩,.string ⟨label.toArray⟩,.slice E attrs.length ac,.string ⟨key.toArray⟩,.bool text,.slice no nodes.length G] 53)).heap.size:=ak;have A:=dK wr [.string ⟨name.toArray⟩,.string ⟨label.toArray⟩,.slice E attrs.length ac,.string ⟨key.toArray⟩,.bool text,.slice no nodes.length G] 53 _ rfl;have bF:B.cell? ⟨wr.heap.size,0,none⟩=some (.string ⟨name.toArray⟩):=(d.cell (p:=⟨wr.heap.size,0,none⟩) F).trans (A 0 _ rfl);have bN:B.cell? ⟨wr.heap.size,1,none⟩=some (.string ⟨label.toArray⟩):=(d.cell (p:=⟨wr.heap.size,1,none⟩) F).trans (A 1 _ rfl);have bZ:B.cell? ⟨wr.heap.size,2,none⟩=some (.slice E attrs.length ac):=(d.cell (p:=⟨wr.heap.size,2,none⟩) F).trans (A 2 _ rfl);have b0:B.cell? ⟨wr.heap.size,3,none⟩=some (.string ⟨key.toArray⟩):=(d.cell (p:=⟨wr.heap.size,3,none⟩) F).trans (A 3 _ rfl);have bg:=(O.below t).below d;have y:=aO N d;have a5:=aO V d;have Y:(jO nodes&&decide (name.length<=80)&&decide (label.length<=80)&&decide (key.length<=80))=false->S=false:=fun e=>by
     rw[C.o];refine D.o ?_;unfold kx;show(decide (attrs.length<=5)&&jO nodes&&decide (name.length<=80)&&decide (label.length<=80)&&decide (key.length<=80)&&_)=false
     cases c:decide (attrs.length<=5)<;>cases J:jO nodes<;>cases K:decide (name.length<=80)<;>cases bl:decide (label.length<=80)<;>cases bo:decide (key.length<=80)<;>simp_all
    clear A aa t d V N an ao aq av a0 a1 O P a4 cs;have i:=ah Y;clear Y;cases L:jO nodes with
    |false=>
     go_wp2
     go_ret;exact⟨by rw[i.o (by rw[L];rfl)];rfl,y⟩
    |true=>
     by_cases c:name.length<=80
     ·have a7:decide ((name.length:Int)>80)=false:=bK
      by_cases J:label.length<=80
      ·have a8:decide ((label.length:Int)>80)=false:=bK
       by_cases K:key.length<=80
       ·have a9:decide ((key.length:Int)>80)=false:=bK
        have a3:Hid (pQ ⟨name,label,attrs,key,text,nodes⟩=true->((l.take (k+1)).map am.t).all kx=true):=fun e=>R.o (by
         unfold kx;show(decide (attrs.length<=5)&&jO nodes&&decide (name.length<=80)&&decide (label.length<=80)&&decide (key.length<=80)&&_)=true
         rw[L,e];simp[h,c,J,K])
        have a2:Hid (pQ ⟨name,label,attrs,key,text,nodes⟩=false->S=false):=fun e=>by rw[C.o];refine D.o ?_;unfold kx;rw[e,Bool.and_false]
        clear R D i L
        go_wp2
        go_loopw [5] (fun v bi=>∃j:Nat,v=.int .i64 j/\j<=attrs.length/\bi=B/\Hid ((attrs.take j).all (fun a=>decide (a.length<=80))=true)) (fun v _=>attrs.length-(intOf v).toNat)
        case atStart=>exact⟨0,rfl,aZ _,rfl,rfl⟩
        case round=>
         obtain⟨j,rfl,bt,rfl,Q⟩:=hrel;by_cases be:j<attrs.length
         ·have bc:decide ((j:Int)<attrs.length)=true:=bQ
          have bw:(j:Int)<attrs.length:=ad;have bu:(0:Int)<=j:=ad;obtain⟨a,r⟩:∃n,attrs[j]?=some n:=⟨_,aH be⟩;obtain⟨g,bE,rfl,bq,b1⟩:=bg.at r;by_cases Z:a.length<=80
          ·have ba:decide ((a.length:Int)>80)=false:=bK
           have f:=vP r Q.o (p:=fun n=>decide (n.length<=80)) (by simp[Z]);have m:=ah f;clear f r
           go_wp2
           go_roundw
           case rel=>exact⟨j+1,aV,ad,trivial,m.o⟩
           case measure=>exact bh
          ·have ba:decide ((a.length:Int)>80)=true:=bQ
           have f:pQ ⟨name,label,attrs,key,text,nodes⟩=false:=by unfold pQ;exact vQ r (p:=fun a:Bytes=>decide (a.length<=80)) (by simp[Z])
           have q:=a2.o f;clear f r
           go_wp2
           go_ret;exact⟨by rw[q];rfl,y⟩
         ·have bc:decide ((j:Int)<attrs.length)=false:=bK
          have s:=Q.o;rw[dh ad]at s;have m:=ah (a3.o s);clear s
          go_wp2
          go_roundw
          case rel=>exact⟨k+1,aV,ad,a5,m.o⟩
          case measure=>exact bh
       ·have a9:decide ((key.length:Int)>80)=true:=bQ
        go_wp2
        go_ret;exact⟨by rw[i.o (by simp[K])];rfl,y⟩
      ·have a8:decide ((label.length:Int)>80)=true:=bQ
       go_wp2
       go_ret;exact⟨by rw[i.o (by simp[J])];rfl,y⟩
     ·have a7:decide ((name.length:Int)>80)=true:=bQ
      go_wp2
      go_ret;exact⟨by rw[i.o (by simp[c])];rfl,y⟩
   ·have bb:decide ((attrs.length:Int)>5)=true:=bQ
    go_wp2
    go_ret;exact⟨by rw[C.o,D.o (by unfold kx;simp[h])];rfl,N⟩
  ·have bd:decide ((k:Int)<l.length)=false:=bK
   have h:=H.o;rw[dh ad]at h;have f:lJ (l.map am.t)=decide ((l.length:Int)<=8):=by unfold lJ;rw[h,rJ,cf];exact decide_eq_decide.2 ad
   have m:=ah f;clear f h
   go_wp2
   go_ret;exact⟨by rw[C.o,m.o];rfl,W⟩
open Go.RowKit Go.Shelf
attribute [local go_sem] uC
theorem Mc{l:List am}(i:lJ (l.map am.t)=true):dI l:=by
 unfold lJ at i;rw[cS,l4]at i;have o:∀x∈l,kx x.t=true:=fun x e=>i.1 _ (l9 e);have j:=xS i.2;rw[cf]at j;have h:∀x∈l,x.t.attrs.length<=5/\jO x.t.nodes=true/\x.t.name.length<=80/\x.t.label.length<=80/\x.t.key.length<=80/\pQ x.t=true:=fun x e=>by have:=o x e;unfold kx at this;simp only[cS,ft]at this;obtain⟨⟨⟨⟨⟨a,b⟩,c⟩,d⟩,m⟩,f⟩:=this;exact⟨a,b,c,d,m,f⟩
 refine⟨ad,fun x e=> ?_,fun x e=> ?_,fun x e=> ?_,fun x e=> ?_,fun x e a p=> ?_,fun x e n j=> ?_⟩
 ·have:=(h x e).2.2.1;omega
 ·have:=(h x e).2.2.2.1;omega
 ·have:=(h x e).2.2.2.2.1;omega
 ·have:=(h x e).1;omega
 ·have g:=(h x e).2.2.2.2.2
  unfold pQ at g;have:=xS (l4.1 g a p);omega
 ·have g:=(h x e).2.1
  unfold jO at g;rw[cS]at g;have:=xS (l4.1 g.1 n j);omega
end
end Go.Proofs.YtnadadbndcdolaaGreatDoor
