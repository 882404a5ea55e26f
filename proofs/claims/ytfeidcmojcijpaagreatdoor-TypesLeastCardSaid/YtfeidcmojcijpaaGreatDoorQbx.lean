import Derived.Test.YtfeidcmojcijpaaGreatDoorQao
set_option linter.all false
set_option maxRecDepth 100000
set_option maxHeartbeats 0
namespace Go.Proofs.YtfeidcmojcijpaaGreatDoor
open Go.RowKit Tryz
def rW(ts:List aB):Bool:=ts.all (fun t=>decide (t.E.length<=20))&&(decide (ts.length<=5)&&mf ts)
def VP l o cap w(f:cw w o cap l):
 cX 4 #[.agg #[.slice o l cap]] w (.bool (rW (l.map ai.t))):=by
 obtain⟨s,m⟩:=am (rW (l.map ai.t));rw[<-m];have i:=ah m;clear m;have P:=f.1.2.1;have F:=f.1.2.2.1;unfold maxLen at F;have⟨w1,q,j,C⟩:=dy w (.cells #[.slice o l cap] 24);have u:=f.O j;have J:=ak 0 C;have⟨r,h⟩:=aC u j;clear u j f C
 go_in
 go_wp2_with(first|(rw[<-q];clear q)|fail)
 try(rw[<-q])
 go_loopw [3] (fun v wr=>∃k:Nat,v=.int .i64 k/\k<=l/\wr=w1/\Hid (((l.take k).map ai.t).all (fun t=>decide (t.E.length<=20))=true)) (fun v _=>l-(intOf v).toNat)
 case atStart=>exact⟨0,rfl,aH _,aj,rfl⟩
 case round=>
  obtain⟨k,rfl,M,B,a⟩:=hrel;rw[B];clear B wr;by_cases g:k<l
  ·have G:=bC g
   have O:=bk g;have N:=aL k;have⟨x,e⟩:=aT g;obtain⟨b,Q,rfl,K,S,T,V,W,X,Y⟩:=r.o.at e;by_cases z:x.t.E.length<=20;have n:decide ((x.t.E:Int)>20)=false:=bU;have c:((l.take (k+1)).map ai.t).all (fun t=>decide (t.E.length<=20))=true:=by have:=xZ (l:=l.map ai.t) (k:=k) (x:=x.t) (p:=fun t=>decide (t.E.length<=20)) (by rw[bR,e];rfl) (by rw[<-zP];exact a.o) (by simpa using z);rw[zP];exact this
   have D:=ah c;clear c a e;refine qN ?_;
    exact⟨k+1,aD,ad,by first|trivial|rfl,D⟩
   ·have n:decide ((x.t.E:Int)>20)=true:=bT
    have I:s=false:=by rw[i.o];unfold rW;rw[x7 (k:=k) (x:=x.t) (by rw[bR,e];rfl) (by simpa using z),ud]
    clear e a;subst I
    go_wp2
    go_ret;exact⟨rfl,h.o⟩
  ·have G:=bG g
   have H:k=l:=ad;have c:(l.map ai.t).all (fun t=>decide (t.E.length<=20))=true:=by have:=a.o;rwa[H,ol]at this
   have d:s=(decide (l.length<=5)&&mf (l.map ai.t)):=by rw[i.o];unfold rW;rw[c,wJ,bn]
   clear i c a;by_cases y:l.length<=5
   ·have n:decide ((l:Int)<=5)=true:=bT
    rw[iS y,wJ]at d;have A:=Od l o cap w1 r.o;rw[<-d]at A;clear d;go_wp2_with fail
    refine ar A ?_;intro R E
    go_wp2
    go_ret;exact⟨rfl,aE h.o E⟩
   ·have n:decide ((l:Int)<=5)=false:=bU
    rw[qD y,ud]at d;subst d
    go_wp2
    go_ret;exact⟨rfl,h.o⟩
def VQ{ts}(a:rW ts=true):(∀t∈ts,t.E.length<=20)/\mf ts=true:=by unfold rW at a;rw[cM,cM,ke]at a;exact⟨fun t b=>kE (a.1 t b),a.2.2⟩
end Go.Proofs.YtfeidcmojcijpaaGreatDoor
