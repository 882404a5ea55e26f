import Derived.Test.YtfeidcmojcijpaaGreatDoorQay
set_option linter.all false
set_option maxRecDepth 100000
set_option maxHeartbeats 0
namespace Go.Proofs.YtfeidcmojcijpaaGreatDoor
open Go.RowKit Tryz
def jV(ws:List Bytes):Prop:=ws.Pairwise (fun a b=>bD a b=true/\a≠b)
def R2{a l}(m:(a::l).Pairwise (fun x y=>bD x y=true)):(dN (a::l)).Pairwise (fun x y=>bD x y=true/\x≠y)/\∀x∈dN (a::l),bD a x=true:=by
 induction l generalizing a with
 |nil=>
  refine⟨by simp[dN],fun x c=> ?_⟩;simp[dN]at c;subst c;unfold bD;simp
 |cons b t ih=>
  have h:=ue.1 m;have⟨i,g⟩:=ih h.2;have d:=h.1 b (eV ..);unfold dN;by_cases e:a=b;subst e;rw[au rfl];exact⟨i,g⟩;rw[ap e];have tr:∀x∈dN (b::t),bD a x=true:=fun x c=>by have:=g x c;unfold bD at*;rw[cf]at*;exact zS d this
  refine⟨ue.2 ⟨fun x c=>⟨tr x c,fun j=> ?_⟩,i⟩,fun x c=> ?_⟩;subst j;have f:=g a c;unfold bD at f d;rw[cf]at f d;exact e (si d f);rcases bX.1 c with rfl|c
  unfold bD;simp;exact tr x c
def vp{b}:∀{l},b∈l->b∈dN l
 |[],d=>d
 |[a],d=>d
 |a::c::t,d=>by
  simp only[dN];by_cases e:a=c;rw[au e];rcases bX.1 d with d|d
  subst d;exact vp (e▸eV ..);exact vp d;rw[ap e];rcases bX.1 d with d|d
  subst d;simp;exact dM _ (vp d)
def R3{l}(b:l.Pairwise (fun x y=>bD x y=true)):jV (dN l):=by
 cases l with
 |nil=>exact List.Pairwise.nil
 |cons a t=>exact(R2 b).1
def R4 a b:(bD a b||bD b a)=true:=by unfold bD;rw[dA,cf,cf];exact wQ a b
def R5 a b c(d:bD a b=true)(e:bD b c=true):bD a c=true:=by unfold bD at*;rw[cf]at*;exact zS d e
def R6(l:List Bytes):(l.mergeSort bD).Pairwise (fun x y=>bD x y=true):=List.pairwise_mergeSort R5 R4 l
def vr ws:jV (unionB ws):=R3 (R6 ws)
def tA{ws b}:b∈unionB ws↔b∈ws:=by unfold unionB;exact⟨fun a=>zF.1 (sC a),fun a=>vp (zF.2 a)⟩
def rL{l}(d:bK l=0){b}:b∈symsS l↔∃n∈l,n.op=2/\n.sym=b:=by
 unfold symsS;rw[au d];have f:b∈(gQ l).mergeSort bD↔b∈gQ l:=zF;have g:b∈gQ l↔∃n∈l,n.op=2/\n.sym=b:=by
  unfold gQ;rw[Ks];constructor;rintro⟨n,c,e⟩;by_cases a:n.op=2;rw[au a]at e;injection e with e;exact⟨n,c,a,e⟩
  rw[ap a]at e;cases e;rintro⟨n,c,a,e⟩;exact⟨n,c,by rw[au a,e]⟩
 rw[<-g,<-f];exact⟨sC,vp⟩
def vt{ws}(c:jV ws){i j:Nat}{a b}(h:i<j)(f:ws[i]?=some a)(g:ws[j]?=some b):bD a b=true/\a≠b:=by obtain⟨d,rfl⟩:=aF.1 f;obtain⟨e,rfl⟩:=aF.1 g;exact List.pairwise_iff_getElem.1 c i j d e h
def search_ren:Go.Shelf.Ren:=⟨fun|26=>150|33=>208|34=>209|38=>214|n=>n,fun|0=>0|3=>3|4=>4|9=>9|24=>53|40=>167|n=>n,fun|n=>n⟩
def search:Go.Proofs.Lays2.n26 prog search_ren:={
 mixed:=az
 f26:=func150.Z (gA some az)
 f33:=func208.Z (gA some az)
 f34:=func209.Z (gA some az)
 f38:=func214.Z (gA some az)
 t0:=underlying0
 a0:=isAgg0
 z0:=sizeOf0
 v0:=zeroValue0
 t3:=ei
 a3:=isAgg3
 z3:=sizeOf3
 v3:=zeroValue3
 t4:=underlying4
 a4:=isAgg4
 z4:=sizeOf4
 v4:=zeroValue4
 t9:=iI
 a9:=isAgg9
 z9:=sizeOf9
 v9:=zeroValue9
 t24:=jM
 a24:=isAgg53
 z24:=sizeOf53
 v24:=zeroValue53
 t40:=underlying167
 a40:=isAgg167
 z40:=sizeOf167
 v40:=zeroValue167}
def R9 ws o c k x w(n:cI w o c ws)(l:jV ws)(a:ws[k]?=some x)(C:ws.length<=1048576):
 cX 150 #[.slice o ws c,.string ⟨x.toArray⟩] w (.tuple #[.int .i64 (k:Nat),true]):=by
 obtain⟨g,z,rfl,B,_⟩:=n.at a;have y:=(aF.1 a).1;have key:=Any2.slices_BinarySearch_string search g z ws.length c (fun t=>⟨((ws[t]?).getD x).toArray⟩) ⟨x.toArray⟩ w ad (fun j i=>by
  obtain⟨A,D,e,_,u⟩:=n.at (cV i);injection e with e
  injection e with p r
  subst p;subst r;rw[u,cV i];rfl)
 have s:Lib.bsGo (fun t=>Op.bytesLess (ByteArray.toList ⟨((ws[t]?).getD x).toArray⟩) (ByteArray.toList ⟨x.toArray⟩)) ws.length 0 ws.length=k:=by
  refine Lib.bsGo_spec _ k (fun t m=> ?_) (fun t m=> ?_) _ 0 _ ad ad ad;simp only[Lib.toList_data];have b:=vt l m (cV ad) a;rw[cV ad];simp only[gM,qR];cases d:bD x ws[t]with
  |false=>rfl
  |true=>
   exfalso;apply b.2;have f:=b.1;unfold bD at d f;rw[cf]at d f;exact si f d
  simp only[Lib.toList_data];simp only[qR];rcases kF t ws with h|v
  rw[cV h];simp only[gM];by_cases e:t=k;subst e;rw[cV h]at a;injection a with a
  rw[a];simp[bD];have b:=vt l (show k<t by omega) a (cV h);rw[b.1];rfl;rw[jL v];simp[bD]
 refine ar key ?_;rintro w' ⟨q,rfl⟩;rw[s];refine⟨?_,ee (aA _ w) q⟩;have:decide (k<ws.length/\(⟨((ws[k]?).getD x).toArray⟩:ByteArray)=⟨x.toArray⟩)=true:=by rw[cf];exact⟨y,by rw[a];rfl⟩
 rw[this]
end Go.Proofs.YtfeidcmojcijpaaGreatDoor
