import Derived.Test.YtbacloblanpghaaGreatDoorQan
set_option linter.unusedVariables false
set_option linter.unusedSimpArgs false
set_option maxRecDepth 100000
set_option maxHeartbeats 0
namespace Go.Proofs.YtbacloblanpghaaGreatDoor
open Go.RowKit Tryz
section
theorem J4:∀(ts:List ax) (i:Nat) (n:Bytes) (r:Option Nat) (c:Nat),kq i ts n r=some c->r=some c∨∃j t,c=i+j/\ts[j]?=some t/\t.name=n:=by
 intro ts;induction ts with
 |nil=>intro i n r c b;exact .inl b
 |cons t ts ih=>
  intro i n r c b;unfold kq at b;rcases ih (i+1) n _ c b with a|⟨j,u,a,e,f⟩
  ·by_cases d:t.name=n
   ·rw[au d]at a;injection a with a
    exact .inr ⟨0,t,ad,rfl,d⟩
   ·rw[ap d]at a;exact .inl a
  ·exact .inr ⟨j+1,u,ad,e,f⟩
theorem rz{ts:List ax}{n:Bytes}{c:Nat}(a:placeS ts n=some c):∃t,ts[c]?=some t/\t.name=n:=by
 rcases J4 ts 0 n none c a with a|⟨j,t,b,d,e⟩
 ·cases a
 ·rw[cE]at b;subst b;exact⟨t,d,e⟩
theorem rC{l:List Bytes}(e:bV l=false):∀(a b:Nat) (x:Bytes),l[a]?=some x->l[b]?=some x->a=b:=by
 induction l with
 |nil=>intro a b x c d;simp at c
 |cons y t ih=>
  unfold bV at e;rw[Bool.or_eq_false_iff]at e;intro a b x c d;cases a with
  |zero=>
   cases b with
   |zero=>rfl
   |succ b=>
    simp only[jD,gV]at c;simp only[gq]at d;subst c;have:=aU d;have f:=e.1;rw[m6.2 this]at f;cases f
  |succ a=>
   cases b with
   |zero=>
    simp only[jD,gV]at d;simp only[gq]at c;subst d;have:=aU c;have f:=e.1;rw[m6.2 this]at f;cases f
   |succ b=>
    simp only[gq]at c d;rw[ih e.2 a b x c d]
structure J5(ts:List ax):Prop where
 names:bV (ts.map ax.name)=false
 placed:∀t∈ts,∀n∈symsS t.nodes,(placeS ts n).isSome=true
 labels:∀t∈ts,bV ((kidsS ts t).map (labelAt ts))=false
theorem ui{ts:List ax}(a:bW ts=0):J5 ts:=by
 unfold bW at a;split at a
 ·cases a
 split at a
 ·cases a
 split at a
 ·cases a
 split at a
 ·cases a
 rename_i g;split at a
 ·cases a
 split at a
 ·cases a
 split at a
 ·rename_i h;exact absurd a h
 split at a
 ·cases a
 rename_i d;split at a
 ·cases a
 rename_i e;refine⟨by simpa using g,fun t b n i=> ?_,fun t b=> ?_⟩
 ·rw[fR,lq]at d
  have:=d t b;rw[fR,lq]at this;have:=this n i;cases f:placeS ts n with
  |none=>rw[f]at this;exact absurd rfl this
  |some c=>rfl
 ·rw[fR,lq]at e
  simpa using e t b
theorem J6{l:List Nat}{f:Nat->Bytes}(h:bV (l.map f)=false){j:Nat}(g:j∈l):l.find? (fun i=>f i==f j)=some j:=by
 cases c:l.find? (fun i=>f i==f j)with
 |none=>rw[Fs]at c;exact absurd ak (c j g)
 |some i=>
  have m:=zr c;have n:=zL c;obtain⟨a,e⟩:=m0.1 n;obtain⟨b,d⟩:=m0.1 g;have o:f i=f j:=by simpa using m
  have:=rC h a b (f j) (by rw[cb,e];simp[o]) (by rw[cb,d];rfl);subst this;rw[e]at d;exact d
theorem xr:symsS []=[]:=ay
open Go.RowKit Go.Shelf
attribute [local go_sem] sT
open Go.RowKit Go.Shelf
def js(l:List ar):Bool:=l.all (fun n=>decide (n.sym.length<=80))&&decide (l.length<=24)
theorem rD{a:Type}{l:List a}{p:a->Bool}{k:Nat}{x:a}(d:l[k]?=some x)(b:(l.take k).all p=true)(c:p x=true):(l.take (k+1)).all p=true:=by rw[bG,d,List.all_append,b];simp[c]
theorem rE{a:Type}{l:List a}{p:a->Bool}{k:Nat}{x:a}(c:l[k]?=some x)(b:p x=false):l.all p=false:=by rw[zb];exact⟨x,aU c,by simp[b]⟩
theorem J7(l:List ar)(o:Option Addr)(cap:Nat)(w:World)(e:di w o cap l):
 Calls prog 52 #[.agg #[.slice o l.length cap]] w fun q w'=>q=.returned (.bool (js l))/\Below w.heap.size w w':=by
 obtain⟨z,f⟩:=aj (js l);rw[<-f];have j:=ah f;clear f;have E:=e.2.1;have s:=e.2.2.1;unfold maxLen at s;have h:Below w.heap.size w (w.alloc (.cells #[.slice o l.length cap] 65)):=az;have r:=e.below h;go_enter func52,ntmps52
 go_wp2
 go_loopw [3] (fun v wr=>∃k:Nat,v=.int .i64 k/\k<=l.length/\wr=w.alloc (.cells #[.slice o l.length cap] 65)/\Hid ((l.take k).all (fun n=>decide (n.sym.length<=80))=true)) (fun v _=>l.length-(intOf v).toNat)
 case atStart=>exact⟨0,rfl,aK _,rfl,rfl⟩
 case round=>
  obtain⟨k,rfl,B,rfl,i⟩:=hrel;by_cases y:k<l.length
  ·have u:decide ((k:Int)<l.length)=true:=aM
   have D:(k:Int)<l.length:=ad;have C:(0:Int)<=k:=ad;obtain⟨x,d⟩:∃n,l[k]?=some n:=⟨_,aF y⟩;obtain⟨b,F,rfl,A,G,H,I,J⟩:=r.at d;by_cases m:x.sym.length<=80
   ·have t:decide ((x.sym.length:Int)>80)=false:=aJ
    have a:=rD d i.o (p:=fun n=>decide (n.sym.length<=80)) (by simp[m]);have c:=ah a;clear a d
    go_wp2
    go_roundw
    case rel=>exact⟨k+1,aG,ad,trivial,c.o⟩
    case measure=>exact aH
   ·have t:decide ((x.sym.length:Int)>80)=true:=aM
    have a:js l=false:=by unfold js;rw[rE d (p:=fun n=>decide (n.sym.length<=80)) (by simp[m]),vA]
    have c:=ah a;clear a d
    go_wp2
    go_ret;exact⟨by rw[j.o,c.o];rfl,h⟩
  ·have u:decide ((k:Int)<l.length)=false:=aJ
   have g:=i.o;rw[bx ad]at g;have a:js l=decide ((l.length:Int)<=24):=by unfold js;rw[g,qI];exact zM.2 ad
   have c:=ah a;clear a g
   go_wp2
   go_ret;exact⟨by rw[j.o,c.o];rfl,h⟩
def oX(t:ax):Bool:=t.attrs.all (fun a=>decide (a.length<=80))
def jT(t:ax):Bool:=decide (t.attrs.length<=5)&&js t.nodes&&decide (t.name.length<=80)&&decide (t.label.length<=80)&&decide (t.key.length<=80)&&oX t
def k6(ts:List ax):Bool:=ts.all jT&&decide (ts.length<=8)
theorem J8{l:List am}{k:Nat}{x:am}(b:l[k]?=some x)(a:jT x.t=false):k6 (l.map am.t)=false:=by unfold k6;rw[rE (k:=k) (x:=x.t) (by rw[cb,b];rfl) a,vA]
theorem J9(l:List am)(o:Option Addr)(cap:Nat)(w:World)(I:cn w o cap l):
 Calls prog 26 #[.agg #[.slice o l.length cap]] w fun T w'=>T=.returned (.bool (k6 (l.map am.t)))/\Below w.heap.size w w':=by
 obtain⟨S,q⟩:=aj (k6 (l.map am.t));rw[<-q];have C:=ah q;clear q;have bB:=I.1.2.1;have a5:=I.1.2.2.1;unfold maxLen at a5;have M:Below w.heap.size w (w.alloc (.cells #[.slice o l.length cap] 24)):=az;have c:=I.below M;obtain⟨w1,ab⟩:=aj (w.alloc (.cells #[.slice o l.length cap] 24));have ae:=aC w (.cells #[.slice o l.length cap] 24);have ag:w.heap.size<(w.alloc (.cells #[.slice o l.length cap] 24)).heap.size:=ak;go_enter func26,ntmps26
 go_wp2_with fail
 rw[<-ab]at M c ae ag⊢;clear ab;go_loopw [3] (fun v wr=>∃k:Nat,v=.int .i64 k/\k<=l.length/\Below w1.heap.size w1 wr/\Hid (((l.take k).map am.t).all jT=true)) (fun v _=>l.length-(intOf v).toNat)
 case atStart=>exact⟨0,rfl,aK _,aA _ _,rfl⟩
 case round=>
  obtain⟨k,rfl,bw,u,H⟩:=hrel;have cs:=ai 0 ((u.block w.heap.size ag).trans ae);have W:=aD M u;by_cases bf:k<l.length
  ·have bd:decide ((k:Int)<l.length)=true:=aM
   have bA:(k:Int)<l.length:=ad;have bz:(0:Int)<=k:=ad;obtain⟨x,z⟩:∃n,l[k]?=some n:=⟨_,aF bf⟩;obtain⟨O,P⟩:=(c.below u).2 x (aU z);obtain⟨b,bE,rfl,a3,al,an,ao,aq,av,a0⟩:=(c.below u).at z;have X:=fun e=>J8 z e;have af:jT x.t=true->((l.take (k+1)).map am.t).all jT=true:=fun e=>by have:=rD (l:=l.map am.t) (k:=k) (x:=x.t) (p:=jT) (by rw[cb,z];rfl) (by rw[<-vI];exact H.o) e;rw[vI];exact this
   obtain⟨R,D⟩:=aE af X;clear z af X H c;obtain⟨⟨name,label,attrs,key,text,nodes⟩,E,ac,no,G⟩:=x;simp only at al an ao aq av a0 O P;have aa:=fun w' s=>J7 nodes no G w' (P.below s);have t:Below wr.heap.size wr (wr.alloc (.cells #[.string ⟨name.toArray⟩,.string ⟨label.toArray⟩,.slice E attrs.length ac,.string ⟨key.toArray⟩,.bool text,.slice no nodes.length G] 68)):=az;have N:=aD W t;have V:=aD u t;by_cases h:attrs.length<=5
   ·have bb:decide ((attrs.length:Int)>5)=false:=aJ
    go_wp2_with fail
    refine(aa _ t).mono ?_;rintro T B ⟨rfl,d⟩;have F:wr.heap.size<(wr.alloc (.cells #[.string ⟨name.toArray⟩,.string ⟨label.toArray⟩,.slice E attrs.length ac,.string ⟨key.toArray⟩,.bool text,.slice no nodes.length G] 68)).heap.size:=ak;have A:=dt wr [.string ⟨name.toArray⟩,.string ⟨label.toArray⟩,.slice E attrs.length ac,.string ⟨key.toArray⟩,.bool text,.slice no nodes.length G] 68 _ rfl;have bZ:B.cell? ⟨wr.heap.size,0,none⟩=some (.string ⟨name.toArray⟩):=(d.cell (p:=⟨wr.heap.size,0,none⟩) F).trans (A 0 _ rfl);have b0:B.cell? ⟨wr.heap.size,1,none⟩=some (.string ⟨label.toArray⟩):=(d.cell (p:=⟨wr.heap.size,1,none⟩) F).trans (A 1 _ rfl);have b1:B.cell? ⟨wr.heap.size,2,none⟩=some (.slice E attrs.length ac):=(d.cell (p:=⟨wr.heap.size,2,none⟩) F).trans (A 2 _ rfl);have b2:B.cell? ⟨wr.heap.size,3,none⟩=some (.string ⟨key.toArray⟩):=(d.cell (p:=⟨wr.heap.size,3,none⟩) F).trans (A 3 _ rfl);have bg:=(O.below t).below d;have y:=aD N d;have a4:=aD V d;have Y:(js nodes&&decide (name.length<=80)&&decide (label.length<=80)&&decide (key.length<=80))=false->S=false:=fun e=>by
     rw[C.o];refine D.o ?_;unfold jT;show(decide (attrs.length<=5)&&js nodes&&decide (name.length<=80)&&decide (label.length<=80)&&decide (key.length<=80)&&_)=false
     cases c:decide (attrs.length<=5)<;>cases J:js nodes<;>cases K:decide (name.length<=80)<;>cases bl:decide (label.length<=80)<;>cases bm:decide (key.length<=80)<;>simp_all
    clear A aa t d V N al an ao aq av a0 O P a3 cs;have i:=ah Y;clear Y;cases L:js nodes with
    |false=>
     go_wp2
     go_ret;exact⟨by rw[i.o (by rw[L];rfl)];rfl,y⟩
    |true=>
     by_cases c:name.length<=80
     ·have a6:decide ((name.length:Int)>80)=false:=aJ
      by_cases J:label.length<=80
      ·have a7:decide ((label.length:Int)>80)=false:=aJ
       by_cases K:key.length<=80
       ·have a9:decide ((key.length:Int)>80)=false:=aJ
        have a2:Hid (oX ⟨name,label,attrs,key,text,nodes⟩=true->((l.take (k+1)).map am.t).all jT=true):=fun e=>R.o (by
         unfold jT;show(decide (attrs.length<=5)&&js nodes&&decide (name.length<=80)&&decide (label.length<=80)&&decide (key.length<=80)&&_)=true
         rw[L,e];simp[h,c,J,K])
        have a1:Hid (oX ⟨name,label,attrs,key,text,nodes⟩=false->S=false):=fun e=>by rw[C.o];refine D.o ?_;unfold jT;rw[e,Bool.and_false]
        clear R D i L
        go_wp2
        go_loopw [5] (fun v bi=>∃j:Nat,v=.int .i64 j/\j<=attrs.length/\bi=B/\Hid ((attrs.take j).all (fun a=>decide (a.length<=80))=true)) (fun v _=>attrs.length-(intOf v).toNat)
        case atStart=>exact⟨0,rfl,aK _,rfl,rfl⟩
        case round=>
         obtain⟨j,rfl,bq,rfl,Q⟩:=hrel;by_cases be:j<attrs.length
         ·have bc:decide ((j:Int)<attrs.length)=true:=aM
          have bu:(j:Int)<attrs.length:=ad;have bt:(0:Int)<=j:=ad;obtain⟨a,r⟩:∃n,attrs[j]?=some n:=⟨_,aF be⟩;obtain⟨g,bF,rfl,bo,b3⟩:=bg.at r;by_cases Z:a.length<=80
          ·have ba:decide ((a.length:Int)>80)=false:=aJ
           have f:=rD r Q.o (p:=fun n=>decide (n.length<=80)) (by simp[Z]);have m:=ah f;clear f r
           go_wp2
           go_roundw
           case rel=>exact⟨j+1,aG,ad,trivial,m.o⟩
           case measure=>exact aH
          ·have ba:decide ((a.length:Int)>80)=true:=aM
           have f:oX ⟨name,label,attrs,key,text,nodes⟩=false:=by unfold oX;exact rE r (p:=fun a:Bytes=>decide (a.length<=80)) (by simp[Z])
           have q:=a1.o f;clear f r
           go_wp2
           go_ret;exact⟨by rw[q];rfl,y⟩
         ·have bc:decide ((j:Int)<attrs.length)=false:=aJ
          have s:=Q.o;rw[bx ad]at s;have m:=ah (a2.o s);clear s
          go_wp2
          go_roundw
          case rel=>exact⟨k+1,aG,ad,a4,m.o⟩
          case measure=>exact aH
       ·have a9:decide ((key.length:Int)>80)=true:=aM
        go_wp2
        go_ret;exact⟨by rw[i.o (by simp[K])];rfl,y⟩
      ·have a7:decide ((label.length:Int)>80)=true:=aM
       go_wp2
       go_ret;exact⟨by rw[i.o (by simp[J])];rfl,y⟩
     ·have a6:decide ((name.length:Int)>80)=true:=aM
      go_wp2
      go_ret;exact⟨by rw[i.o (by simp[c])];rfl,y⟩
   ·have bb:decide ((attrs.length:Int)>5)=true:=aM
    go_wp2
    go_ret;exact⟨by rw[C.o,D.o (by unfold jT;simp[h])];rfl,N⟩
  ·have bd:decide ((k:Int)<l.length)=false:=aJ
   have h:=H.o;rw[bx ad]at h;have f:k6 (l.map am.t)=decide ((l.length:Int)<=8):=by unfold k6;rw[h,qI,cd];exact zM.2 ad
   have m:=ah f;clear f h
   go_wp2
   go_ret;exact⟨by rw[C.o,m.o];rfl,W⟩
open Go.RowKit Go.Shelf
attribute [local go_sem] sT
theorem Ka{l:List am}(i:k6 (l.map am.t)=true):ej l:=by
 unfold k6 at i;rw[dg,kM]at i;have o:∀x∈l,jT x.t=true:=fun x e=>i.1 _ (ki e);have j:=m7 i.2;rw[cd]at j;have h:∀x∈l,x.t.attrs.length<=5/\js x.t.nodes=true/\x.t.name.length<=80/\x.t.label.length<=80/\x.t.key.length<=80/\oX x.t=true:=fun x e=>by have:=o x e;unfold jT at this;simp only[dg,ct]at this;obtain⟨⟨⟨⟨⟨a,b⟩,c⟩,d⟩,m⟩,f⟩:=this;exact⟨a,b,c,d,m,f⟩
 refine⟨ad,fun x e=> ?_,fun x e=> ?_,fun x e=> ?_,fun x e=> ?_,fun x e a p=> ?_,fun x e n j=> ?_⟩
 ·have:=(h x e).2.2.1;omega
 ·have:=(h x e).2.2.2.1;omega
 ·have:=(h x e).2.2.2.2.1;omega
 ·have:=(h x e).1;omega
 ·have g:=(h x e).2.2.2.2.2
  unfold oX at g;have:=m7 (kM.1 g a p);omega
 ·have g:=(h x e).2.1
  unfold js at g;rw[dg]at g;have:=m7 (kM.1 g.1 n j);omega
end
end Go.Proofs.YtbacloblanpghaaGreatDoor
