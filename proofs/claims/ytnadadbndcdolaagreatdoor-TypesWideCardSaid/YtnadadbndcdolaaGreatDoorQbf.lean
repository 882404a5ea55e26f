import Derived.Test.YtnadadbndcdolaaGreatDoorQay
set_option linter.unusedVariables false
set_option linter.unusedSimpArgs false
set_option maxRecDepth 100000
set_option maxHeartbeats 0
namespace Go.Proofs.YtnadadbndcdolaaGreatDoor
open Go.RowKit Tryz
def qX(c:List Bytes):Prop:=c.Pairwise (fun a b=>bP a b=true/\a≠b)
theorem Ph{a:Bytes}{l:List Bytes}(m:(a::l).Pairwise (fun x y=>bP x y=true)):(dd (a::l)).Pairwise (fun x y=>bP x y=true/\x≠y)/\∀x∈dd (a::l),bP a x=true:=by
 induction l generalizing a with
 |nil=>
  refine⟨by simp[dd],fun x c=> ?_⟩;simp[dd]at c;subst c;unfold bP;simp
 |cons b t ih=>
  have h:=BB.1 m;obtain⟨i,g⟩:=ih h.2;have d:=h.1 b (dM ..);unfold dd;by_cases e:a=b
  ·subst e
   rw[ay rfl];exact⟨i,g⟩
  ·rw[au e]
   have tr:∀x∈dd (b::t),bP a x=true:=fun x c=>by have:=g x c;unfold bP at*;rw[ft]at*;exact BC d this
   refine⟨BB.2 ⟨fun x c=>⟨tr x c,fun j=> ?_⟩,i⟩,fun x c=> ?_⟩
   ·subst j
    have f:=g a c;unfold bP at f d;rw[ft]at f d;exact e (IH d f)
   ·rcases du.1 c with rfl|c
    ·unfold bP;simp
    ·exact tr x c
theorem tw{b:Bytes}:∀{l:List Bytes},b∈l->b∈dd l
 |[],d=>d
 |[a],d=>d
 |a::c::t,d=>by
  simp only[dd];by_cases e:a=c
  ·rw[ay e]
   rcases du.1 d with d|d
   ·subst d;exact tw (e▸dM ..)
   ·exact tw d
  ·rw[au e]
   rcases du.1 d with d|d
   ·subst d;exact dM ..
   ·exact dt _ (tw d)
theorem Pi{l:List Bytes}(b:l.Pairwise (fun x y=>bP x y=true)):qX (dd l):=by
 cases l with
 |nil=>exact List.Pairwise.nil
 |cons a t=>exact(Ph b).1
theorem Pj(a b:Bytes):(bP a b||bP b a)=true:=by unfold bP;rw[di,ft,ft];exact List.le_total a b
theorem Pk(a b c:Bytes)(d:bP a b=true)(e:bP b c=true):bP a c=true:=by unfold bP at*;rw[ft]at*;exact BC d e
theorem Pm(l:List Bytes):(l.mergeSort bP).Pairwise (fun x y=>bP x y=true):=List.pairwise_mergeSort Pk Pj l
theorem Aa(a:List Bytes):qX (bm a):=Pi (Pm a)
theorem wT{c:List Bytes}{b:Bytes}:b∈bm c↔b∈c:=by unfold bm;exact⟨fun a=>xJ.1 (qz a),fun a=>tw (xJ.2 a)⟩
theorem wU{l:List aj}(e:bG l=0){b:Bytes}:b∈aI l↔∃n∈l,n.op=2/\n.sym=b:=by
 unfold aI;rw[ay e];have f:b∈(fB l).mergeSort bP↔b∈fB l:=xJ;have g:b∈fB l↔∃n∈l,n.op=2/\n.sym=b:=by
  unfold fB;rw[In];constructor
  ·rintro⟨n,d,a⟩
   by_cases c:n.op=2
   ·rw[ay c]at a;injection a with a;exact⟨n,d,c,a⟩
   ·rw[au c]at a;cases a
  ·rintro⟨n,d,c,a⟩
   exact⟨n,d,by rw[ay c,a]⟩
 rw[<-g,<-f];exact⟨qz,tw⟩
theorem wV{c:List Bytes}(d:qX c){i j:Nat}{a b:Bytes}(l:i<j)(g:c[i]?=some a)(h:c[j]?=some b):bP a b=true/\a≠b:=by obtain⟨e,rfl⟩:=aL.1 g;obtain⟨f,rfl⟩:=aL.1 h;exact List.pairwise_iff_getElem.1 d i j e f l
def search_ren:Go.Shelf.Ren:=⟨fun|26=>165|33=>211|34=>212|38=>272|n=>n,fun|0=>0|3=>3|4=>4|9=>9|24=>48|40=>265|n=>n,fun|n=>n⟩
theorem search:Go.Proofs.Lays2.n26 prog search_ren:={
 mixed:=aA
 f26:=func165.trans (jk some aA)
 f33:=func211.trans (jk some aA)
 f34:=func212.trans (jk some aA)
 f38:=func272.trans (jk some aA)
 t0:=underlying0
 a0:=isAgg0
 z0:=sizeOf0
 v0:=zeroValue0
 t3:=cU
 a3:=isAgg3
 z3:=sizeOf3
 v3:=zeroValue3
 t4:=underlying4
 a4:=isAgg4
 z4:=sizeOf4
 v4:=zeroValue4
 t9:=gq
 a9:=isAgg9
 z9:=sizeOf9
 v9:=zeroValue9
 t24:=mT
 a24:=isAgg48
 z24:=sizeOf48
 v24:=zeroValue48
 t40:=underlying265
 a40:=isAgg265
 z40:=sizeOf265
 v40:=zeroValue265}
theorem Fy(a:List Bytes)(o:Option Addr)(c k:Nat)(x:Bytes)(w:World)(p:dZ w o c a)(m:qX a)(b:a[k]?=some x)(D:a.length<=1048576):
 Calls prog 165 #[.slice o a.length c,.string ⟨x.toArray⟩] w fun d w'=>d=.returned (.tuple #[.int .i64 (k:Nat),.bool true])/\Below w.heap.size w w':=by
 obtain⟨g,A,rfl,C,_⟩:=p.at b;have z:=(aL.1 b).1;have key:=Any2.slices_BinarySearch_string search g A a.length c (fun t=>⟨((a[t]?).getD x).toArray⟩) ⟨x.toArray⟩ w ad (fun j l=>by
  obtain⟨B,E,d,_,v⟩:=p.at (aH l);injection d with d
  injection d with r s
  subst r;subst s;rw[v,aH l];rfl)
 have u:Lib.bsGo (fun t=>Op.bytesLess (ByteArray.toList ⟨((a[t]?).getD x).toArray⟩) (ByteArray.toList ⟨x.toArray⟩)) a.length 0 a.length=k:=by
  refine Lib.bsGo_spec _ k (fun t n=> ?_) (fun t n=> ?_) a.length 0 a.length ad ad ad
  ·simp only[Lib.toList_data]
   have e:=wV m n (aH ad) b;rw[aH ad];simp only[qj,ve];cases f:bP x a[t]with
   |false=>rfl
   |true=>
    exfalso;apply e.2;have h:=e.1;unfold bP at f h;rw[ft]at f h;exact IH h f
  ·simp only[Lib.toList_data]
   simp only[ve];rcases jg t a.length with i|y
   ·rw[aH i]
    simp only[qj];by_cases d:t=k
    ·subst d
     rw[aH i]at b;injection b with b
     rw[b];simp[bP]
    ·have e:=wV m (show k<t by omega) b (aH i)
     rw[e.1];rfl
   ·rw[oZ y]
    simp[bP]
 refine key.mono ?_;rintro d w' ⟨rfl,q,rfl⟩;rw[u];refine⟨?_,gh (aE _ w) q⟩;have:decide (k<a.length/\(⟨((a[k]?).getD x).toArray⟩:ByteArray)=⟨x.toArray⟩)=true:=by rw[ft];exact⟨z,by rw[b];rfl⟩
 rw[this]
end Go.Proofs.YtnadadbndcdolaaGreatDoor
