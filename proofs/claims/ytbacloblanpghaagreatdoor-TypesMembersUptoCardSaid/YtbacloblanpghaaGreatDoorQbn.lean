import Derived.Test.YtbacloblanpghaaGreatDoorQbe
set_option linter.unusedVariables false
set_option linter.unusedSimpArgs false
set_option maxRecDepth 100000
set_option maxHeartbeats 0
namespace Go.Proofs.YtbacloblanpghaaGreatDoor
open Go.RowKit Tryz
def qv(c:List Bytes):Prop:=c.Pairwise (fun a b=>br a b=true/\a≠b)
theorem Oe{a:Bytes}{l:List Bytes}(m:(a::l).Pairwise (fun x y=>br x y=true)):(cZ (a::l)).Pairwise (fun x y=>br x y=true/\x≠y)/\∀x∈cZ (a::l),br a x=true:=by
 induction l generalizing a with
 |nil=>
  refine⟨by simp[cZ],fun x c=> ?_⟩;simp[cZ]at c;subst c;unfold br;simp
 |cons b t ih=>
  have h:=zS.1 m;obtain⟨i,g⟩:=ih h.2;have d:=h.1 b (f9 ..);unfold cZ;by_cases e:a=b
  ·subst e
   rw[au rfl];exact⟨i,g⟩
  ·rw[ap e]
   have tr:∀x∈cZ (b::t),br a x=true:=fun x c=>by have:=g x c;unfold br at*;rw[ct]at*;exact zT d this
   refine⟨zS.2 ⟨fun x c=>⟨tr x c,fun j=> ?_⟩,i⟩,fun x c=> ?_⟩
   ·subst j
    have f:=g a c;unfold br at f d;rw[ct]at f d;exact e (zR d f)
   ·rcases eH.1 c with rfl|c
    ·unfold br;simp
    ·exact tr x c
theorem sj{b:Bytes}:∀{l:List Bytes},b∈l->b∈cZ l
 |[],d=>d
 |[a],d=>d
 |a::c::t,d=>by
  simp only[cZ];by_cases e:a=c
  ·rw[au e]
   rcases eH.1 d with d|d
   ·subst d;exact sj (e▸f9 ..)
   ·exact sj d
  ·rw[ap e]
   rcases eH.1 d with d|d
   ·subst d;exact f9 ..
   ·exact f8 _ (sj d)
theorem Of{l:List Bytes}(b:l.Pairwise (fun x y=>br x y=true)):qv (cZ l):=by
 cases l with
 |nil=>exact List.Pairwise.nil
 |cons a t=>exact(Oe b).1
theorem Og(a b:Bytes):(br a b||br b a)=true:=by unfold br;rw[cM,ct,ct];exact List.le_total a b
theorem Oh(a b c:Bytes)(d:br a b=true)(e:br b c=true):br a c=true:=by unfold br at*;rw[ct]at*;exact zT d e
theorem Oi(l:List Bytes):(l.mergeSort br).Pairwise (fun x y=>br x y=true):=List.pairwise_mergeSort Oh Og l
theorem Oj(a:List Bytes):qv (dw a):=Of (Oi a)
theorem D2{c:List Bytes}{b:Bytes}:b∈dw c↔b∈c:=by unfold dw;exact⟨fun a=>vy.1 (pR a),fun a=>sj (vy.2 a)⟩
theorem yH{l:List ar}(e:cw l=0){b:Bytes}:b∈symsS l↔∃n∈l,n.op=2/\n.sym=b:=by
 unfold symsS;rw[au e];have f:b∈(fL l).mergeSort br↔b∈fL l:=vy;have g:b∈fL l↔∃n∈l,n.op=2/\n.sym=b:=by
  unfold fL;rw[zk];constructor
  ·rintro⟨n,d,a⟩
   by_cases c:n.op=2
   ·rw[au c]at a;injection a with a;exact⟨n,d,c,a⟩
   ·rw[ap c]at a;cases a
  ·rintro⟨n,d,c,a⟩
   exact⟨n,d,by rw[au c,a]⟩
 rw[<-g,<-f];exact⟨pR,sj⟩
theorem uW{c:List Bytes}(d:qv c){i j:Nat}{a b:Bytes}(l:i<j)(g:c[i]?=some a)(h:c[j]?=some b):br a b=true/\a≠b:=by obtain⟨e,rfl⟩:=aP.1 g;obtain⟨f,rfl⟩:=aP.1 h;exact List.pairwise_iff_getElem.1 d i j e f l
def search_ren:Go.Shelf.Ren:=⟨fun|26=>178|33=>226|34=>227|38=>232|n=>n,fun|0=>0|3=>3|4=>4|9=>9|24=>66|40=>208|n=>n,fun|n=>n⟩
theorem search:Go.Proofs.Lays2.n26 prog search_ren:={
 mixed:=ay
 f26:=func178.trans (iK some ay)
 f33:=func226.trans (iK some ay)
 f34:=func227.trans (iK some ay)
 f38:=func232.trans (iK some ay)
 t0:=underlying0
 a0:=isAgg0
 z0:=sizeOf0
 v0:=zeroValue0
 t3:=cX
 a3:=isAgg3
 z3:=sizeOf3
 v3:=zeroValue3
 t4:=underlying4
 a4:=isAgg4
 z4:=sizeOf4
 v4:=zeroValue4
 t9:=fZ
 a9:=isAgg9
 z9:=sizeOf9
 v9:=zeroValue9
 t24:=jE
 a24:=isAgg66
 z24:=sizeOf66
 v24:=zeroValue66
 t40:=underlying208
 a40:=isAgg208
 z40:=sizeOf208
 v40:=zeroValue208}
theorem Ol(a:List Bytes)(o:Option Addr)(c k:Nat)(x:Bytes)(w:World)(p:dk w o c a)(m:qv a)(b:a[k]?=some x)(D:a.length<=1048576):
 Calls prog 178 #[.slice o a.length c,.string ⟨x.toArray⟩] w fun d w'=>d=.returned (.tuple #[.int .i64 (k:Nat),.bool true])/\Below w.heap.size w w':=by
 obtain⟨g,A,rfl,C,_⟩:=p.at b;have z:=(aP.1 b).1;have key:=Any2.slices_BinarySearch_string search g A a.length c (fun t=>⟨((a[t]?).getD x).toArray⟩) ⟨x.toArray⟩ w ad (fun j l=>by
  obtain⟨B,E,d,_,v⟩:=p.at (aF l);injection d with d
  injection d with r s
  subst r;subst s;rw[v,aF l];rfl)
 have u:Lib.bsGo (fun t=>Op.bytesLess (ByteArray.toList ⟨((a[t]?).getD x).toArray⟩) (ByteArray.toList ⟨x.toArray⟩)) a.length 0 a.length=k:=by
  refine Lib.bsGo_spec _ k (fun t n=> ?_) (fun t n=> ?_) a.length 0 a.length ad ad ad
  ·simp only[Lib.toList_data]
   have e:=uW m n (aF ad) b;rw[aF ad];simp only[pL,ri];cases f:br x a[t]with
   |false=>rfl
   |true=>
    exfalso;apply e.2;have h:=e.1;unfold br at f h;rw[ct]at f h;exact zR h f
  ·simp only[Lib.toList_data]
   simp only[ri];rcases ow t a.length with i|y
   ·rw[aF i]
    simp only[pL];by_cases d:t=k
    ·subst d
     rw[aF i]at b;injection b with b
     rw[b];simp[br]
    ·have e:=uW m (show k<t by omega) b (aF i)
     rw[e.1];rfl
   ·rw[mV y]
    simp[br]
 refine key.mono ?_;rintro d w' ⟨rfl,q,rfl⟩;rw[u];refine⟨?_,dm (aA _ w) q⟩;have:decide (k<a.length/\(⟨((a[k]?).getD x).toArray⟩:ByteArray)=⟨x.toArray⟩)=true:=by rw[ct];exact⟨z,by rw[b];rfl⟩
 rw[this]
end Go.Proofs.YtbacloblanpghaaGreatDoor
