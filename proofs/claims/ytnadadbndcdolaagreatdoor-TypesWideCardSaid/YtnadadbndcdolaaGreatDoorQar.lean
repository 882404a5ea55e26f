import Derived.Test.YtnadadbndcdolaaGreatDoorQap
import Derived.Test.YtnadadbndcdolaaGreatDoorQaq
set_option linter.unusedVariables false
set_option linter.unusedSimpArgs false
set_option maxRecDepth 100000
set_option maxHeartbeats 0
namespace Go.Proofs.YtnadadbndcdolaaGreatDoor
open Go.RowKit Tryz
def DX(o:Option Bytes):Value:=.tuple #[.string ⟨(o.getD []).toArray⟩,.bool o.isSome]
theorem Mz{b:Type}{l:List b}{p:b->Bool}{k:Nat}{a:b}(d:(l.take k).find? p=none)(c:l[k]?=some a)(f:p a=true):l.find? p=some a:=by
 have e:=(aL.1 c).1;conv=>lhs;rw[<-mQ k l]
 rw[II,d,Option.none_or,rK e,List.find?_cons,(aL.1 c).2,f]
theorem MA{b:Type}{l:List b}{p:b->Bool}{k:Nat}{a:b}(c:(l.take k).find? p=none)(e:l[k]?=some a)(d:p a=false):(l.take (k+1)).find? p=none:=by rw[bV,e,II,c];simp[d]
theorem MB{w:World}{t:Tr}{a:KA}(b:eR w t a):ki w a.ao a.ac t.attrs:=b.attr
theorem MC(t:Tr)(r:KA)(n:Bytes)(w:World)(z:eR w t r):
 Calls prog 64 #[cP t r,.string ⟨n.toArray⟩] w fun H w'=>H=.returned (DX (kP t.attrs n))/\Below w.heap.size w w':=by
 have e:=MB z;obtain⟨v,d⟩:=ar (kP t.attrs n);rw[<-d];obtain⟨l,x,av,ks⟩:=t;obtain⟨G,ac,N,M⟩:=r;unfold cP;simp only[Tr.label,Tr.text,Tr.attrs,Tr.kids]at e d⊢;have s:=ah d;clear d z;have T:=e.2.1;have J:=e.2.2.1;unfold maxLen at J;have I:Below w.heap.size w (w.alloc (.cells #[.string ⟨l.toArray⟩,.string ⟨x.toArray⟩,.slice G av.length ac,.slice N ks.length M] 29)):=aG;go_enter func64,ntmps64
 go_wp2
 go_loopw [11] (fun i wr=>∃k:Nat,i=.int .i64 k/\k<=av.length/\Below w.heap.size w wr/\Hid ((av.take k).find? (fun a=>a.1==n)=none)) (fun i _=>av.length-(intOf i).toNat)
 case atStart=>exact⟨0,rfl,aZ _,I,rfl⟩
 case round=>
  obtain⟨k,rfl,R,f,j⟩:=hrel;by_cases L:k<av.length
  ·have K:decide ((k:Int)<av.length)=true:=bQ
   have S:(k:Int)<av.length:=ad;obtain⟨a,h⟩:∃n,av[k]?=some n:=⟨_,aH L⟩;obtain⟨b,W,rfl,Q,O,P⟩:=pw (e.below f) h;have B:=fun q=>Mz (p:=fun a:Bytes×Bytes=>a.1==n) j.o h q;have C:=fun q=>MA (p:=fun a:Bytes×Bytes=>a.1==n) j.o h q;obtain⟨E,F⟩:=aD B C;clear B C h;obtain⟨o,y⟩:=a;simp only at O P;have A:=f.alloc f.size (.cells #[.string ⟨o.toArray⟩,.string ⟨y.toArray⟩] 69);by_cases g:o=n
   ·subst g
    have c:v=some y:=by rw[s.o];unfold kP;rw[E.o ak];rfl
    have m:=ah c;clear c
    go_wp2
    go_ret2
    exact⟨by rw[m.o];rfl,A⟩
   ·have V:(o==n)=false:=by simpa using g
    have u:=F.o (by simpa using g);have D:=ah u;clear u g
    go_wp2
    go_roundw
    case rel=>exact⟨k+1,aV,ad,A,D.o⟩
    case measure=>exact bh
  ·have K:decide ((k:Int)<av.length)=false:=bK
   have c:v=none:=by have:=j.o;rw[dh ad]at this;rw[s.o];unfold kP;rw[this];rfl
   have m:=ah c;clear c
   go_wp2
   go_ret2
   exact⟨by rw[m.o];rfl,f⟩
theorem MD(a:Bytes×Bytes)(n:Bytes)(w:World):Calls prog 61 #[.agg #[.string ⟨a.1.toArray⟩,.string ⟨a.2.toArray⟩],.string ⟨n.toArray⟩] w fun c w'=>c=.returned (.bool (a.1==n))/\Below w.heap.size w w':=by
 have d:Below w.heap.size w (w.alloc (.cells #[.string ⟨a.1.toArray⟩,.string ⟨a.2.toArray⟩] 69)):=aG;obtain⟨q,b⟩:=ar ((a.1==n));rw[<-b];have e:(a.1==n)=q:=b.symm;clear b;go_enter func61,ntmps61
 go_wp2
 go_ret;exact⟨rfl,d⟩
theorem ME:∀args a,(callFunc 61 args).run prog a=.ok (.enter 61 args) a:=fun _ _=>rfl
theorem MF{av:List (Bytes×Bytes)}{c:List Bytes}{k:Nat}{a:Bytes×Bytes}{n:Bytes}(e:av[k]?=some a)(f:c[k]?=some n)(b:(a.1==n)=false):decide (av.map Prod.fst=c)=false:=by
 rw[rI];intro d;have:(av.map Prod.fst)[k]?=some a.1:=by rw[bW,e];rfl
 rw[d,f]at this;injection this with this
 rw[this]at b;simp at b
theorem MG(av:List (Bytes×Bytes))(A:Option Addr)(ac:Nat)(c:List Bytes)(G:Option Addr)(wc:Nat)(w:World)(u:ki w A ac av)(x:dZ w G wc c):
 Calls prog 62 #[.slice A av.length ac,.slice G c.length wc,.func (.func 61) #[] #[]] w fun d w'=>d=.returned (.bool (decide (av.map Prod.fst=c)))/\Below w.heap.size w w':=by
 have ab:=u.2.1;have L:=u.2.2.1;have ae:=x.2.1;have M:=x.2.2.1;unfold maxLen at L M;have X:=ME;obtain⟨z,t⟩:=ar (decide (av.map Prod.fst=c));rw[<-t];have o:=ah t;clear t;go_enter func62,ntmps62
 by_cases h:av.length=c.length
 ·have D:((av.length:Int) !=(c.length:Int))=false:=aR
  have q:=ah h;clear h;go_wp2_with fail
  clear D;go_loopw [17] (fun i wr=>∃k:Nat,i=.int .i64 k/\k<=av.length/\Below w.heap.size w wr/\Hid ((av.take k).map Prod.fst=c.take k)) (fun i _=>av.length-(intOf i).toNat)
  case atStart=>exact⟨0,rfl,aZ _,aE _ _,rfl⟩
  case round=>
   obtain⟨k,rfl,Y,f,y⟩:=hrel;by_cases P:k<av.length
   ·have N:decide ((k:Int)<av.length)=true:=bQ
    have Z:(k:Int)<av.length:=ad;have aa:(k:Int)<c.length:=by have:=q.o;omega
    obtain⟨a,l⟩:∃n,av[k]?=some n:=⟨_,aH P⟩;obtain⟨n,m⟩:∃n,c[k]?=some n:=⟨_,aH (by have:=q.o;omega)⟩;obtain⟨b,af,rfl,W,R,S⟩:=pw (u.below f) l;obtain⟨g,V,rfl,O,T⟩:=(x.below f).at m;have v:=fun Q=>MD a n Q;have E:=MF l m;have F:(a.1==n)=true->(av.take (k+1)).map Prod.fst=c.take (k+1):=fun d=>by rw[bV,bV,l,m,iH,y.o];simp at d;simp[d]
    obtain⟨H,I⟩:=aD E F;clear E F l m;obtain⟨s,B⟩:=a;simp only at R S v;have J:=f.alloc f.size (.cells #[.string ⟨s.toArray⟩,.string ⟨B.toArray⟩] 69);have al:=My wr (.cells #[.string ⟨s.toArray⟩,.string ⟨B.toArray⟩] 69) T O;go_wp2_with fail
    refine(v _).mono ?_;rintro d ag ⟨rfl,K⟩;have C:=aO J K;clear v;cases j:(s==n)with
    |true=>
     have r:=ah (I.o j);clear j
     go_wp2
     go_roundw
     case rel=>exact⟨k+1,aV,ad,C,r.o⟩
     case measure=>exact bh
    |false=>
     have r:=ah (H.o j);clear j
     go_wp2
     go_ret;exact⟨by rw[o.o,r.o];rfl,C⟩
   ·have N:decide ((k:Int)<av.length)=false:=bK
    have e:z=true:=by have:=y.o;rw[dh ad,dh (by have:=q.o;omega)]at this;rw[o.o,this];simp
    have p:=ah e;clear e
    go_wp2
    go_ret;exact⟨by rw[p.o];rfl,f⟩
 ·have D:((av.length:Int) !=(c.length:Int))=true:=aR
  have e:z=false:=by rw[o.o,rI];intro d;exact h (by rw[<-d,cf])
  have p:=ah e;clear e h
  go_wp2
  go_ret;exact⟨by rw[p.o];rfl,aE _ _⟩
end Go.Proofs.YtnadadbndcdolaaGreatDoor
