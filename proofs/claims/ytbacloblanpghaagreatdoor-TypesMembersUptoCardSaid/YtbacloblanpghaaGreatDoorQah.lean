import Derived.Test.YtbacloblanpghaaGreatDoorQag
set_option linter.unusedVariables false
set_option linter.unusedSimpArgs false
set_option maxRecDepth 100000
set_option maxHeartbeats 0
namespace Go.Proofs.YtbacloblanpghaaGreatDoor
open Go.RowKit Tryz
def jJ(w:World)(o:Option Addr)(cap:Nat)(l:List Nat):Prop:=cS w o l.length cap 1 (fj l)
theorem jJ.below{w w':World}{o:Option Addr}{cap:Nat}{l:List Nat}(a:jJ w o cap l)(b:Below w.heap.size w w'):jJ w' o cap l:=cS.below a b
theorem jJ.at{w:World}{o:Option Addr}{cap:Nat}{l:List Nat}(d:jJ w o cap l){k:Nat}{x:Nat}(b:l[k]?=some x):
 ∃g a,o=some ⟨g,a,none⟩/\g<w.heap.size/\w.cell? ⟨g,a+k,none⟩=some (.int .i64 (x:Nat)):=by
 have h:=(aP.1 b).1;obtain⟨g,a,c,f,e⟩:=d.2.2.2 ad;exact⟨g,a,c,f,e k _ (by unfold fj;rw[cb,b];rfl)⟩
theorem pS{w:World}{B:Nat}{v:Value}{l:List Nat}(a:cO w B v l):∃o c,v=.slice o l.length c/\jJ w o c l:=by
 obtain⟨o,c,rfl⟩:=ly a;refine⟨o,c,rfl,?_⟩;by_cases b:Value.slice o l.length c=.slice none 0 0
 ·injection b with f h i
  subst f;subst i;exact⟨by simp[fj],ad,aK _,fun e=>ad⟩
 ·rcases a.2 with⟨d,e⟩|⟨g,cap,x,t,A,q,f,h,i,z⟩
  ·exfalso
   rw[e]at d b;exact b d
  ·injection t with n y p
   subst n;subst p;have s:=aN q;refine⟨by simp[fj],ad,h,fun _=>⟨g,0,rfl,s,fun j u m=> ?_⟩⟩;have r:j<(fj l).length:=(aP.1 m).1;rw[cE];exact(vz a j (by simpa[fj]using r)).trans m
theorem GI{F:Nat}{caps:Array Value}{q:am->Bool}(l:List am)(o:Option Addr)(cap:Nat)(w:World)(j:cn w o cap l)(L:l.length<=1048576)
 (I:∀args y,(callFunc F args).run prog y=.ok (.enter F args) y)
 (u:∀x∈l,∀w1,Below w.heap.size w w1->Calls prog F (#[dj x]++caps) w1 fun e D=>e=.returned (.bool (q x))/\Below w1.heap.size w1 D):
 Calls prog 216 #[.slice o l.length cap,.func (.func F) #[] caps] w fun e w'=>(∃r:Int,e=.returned (.int .i64 r)/\Hid (decide (r>=0)=l.any q))/\Below w.heap.size w w':=by
 have M:=j.1.2.1;have A:=j.1.2.2.1;unfold maxLen at A;have s:=ah u;clear u;go_enter func216,ntmps216
 go_wp2
 go_loopw [8] (fun v wr=>∃k:Nat,v=.int .i64 k/\k<=l.length/\Below w.heap.size w wr/\Hid ((l.take k).any q=false)) (fun v _=>l.length-(intOf v).toNat)
 case atStart=>exact⟨0,rfl,aK _,aA _ _,rfl⟩
 case round=>
  obtain⟨k,rfl,J,a,t⟩:=hrel;by_cases C:k<l.length
  ·have B:decide ((k:Int)<l.length)=true:=aM
   have K:(k:Int)<l.length:=ad;obtain⟨x,d⟩:∃n,l[k]?=some n:=⟨_,aF C⟩;obtain⟨b,N,rfl,H,O,P,Q,R,S,T⟩:=(j.below a).at d;have c:=s.o x (aU d) wr a;have h:(l.take (k+1)).any q=q x:=by rw[bG,d,dR,iX,t.o];simp
   have G:=ah d;unfold dj typeRow at c;cases g:q x with
   |true=>
    rw[g]at c;have f:l.any q=true:=by rw[gt];exact⟨x,aU d,g⟩
    have i:=ah f;clear f h d g s;go_wp2_with fail
    refine c.mono ?_;rintro e E ⟨rfl,m⟩;clear c;have p:=a.trans (m.mono a.size)
    go_wp2
    go_ret;exact⟨⟨(k:Nat),rfl,by show _=_;rw[i.o,ct];omega⟩,p⟩
   |false=>
    rw[g]at c h;have z:=ah h;clear h d g;go_wp2_with fail
    refine c.mono ?_;rintro e E ⟨rfl,m⟩;clear c;have p:=a.trans (m.mono a.size)
    go_wp2
    go_roundw
    case rel=>exact⟨k+1,aG,ad,p,z.o⟩
    case measure=>exact aH
  ·have B:decide ((k:Int)<l.length)=false:=aJ
   have f:l.any q=false:=by have:=t.o;rwa[bx ad]at this
   have i:=ah f;clear f
   go_wp2
   go_ret;exact⟨⟨-1,rfl,by show _=_;rw[i.o,cF];omega⟩,a⟩
theorem GJ{F:Nat}{caps:Array Value}{q:am->Bool}(l:List am)(o:Option Addr)(cap:Nat)(w:World)(b:cn w o cap l)(f:l.length<=1048576)
 (c:∀args g,(callFunc F args).run prog g=.ok (.enter F args) g)
 (d:∀x∈l,∀w1,Below w.heap.size w w1->Calls prog F (#[dj x]++caps) w1 fun a j=>a=.returned (.bool (q x))/\Below w1.heap.size w1 j):
 Calls prog 146 #[.slice o l.length cap,.func (.func F) #[] caps] w fun a w'=>a=.returned (.bool (l.any q))/\Below w.heap.size w w':=by
 have e:=GI l o cap w b f c d;clear b f c d;go_enter func146,ntmps146
 go_wp2_with fail
 refine e.mono ?_;rintro a m ⟨⟨r,rfl,i⟩,h⟩;clear e
 go_wp2
 go_ret;exact⟨bC i.out,h⟩
theorem GK{F:Nat}{caps:Array Value}{q:Bytes->Bool}(l:List Bytes)(o:Option Addr)(cap:Nat)(w:World)(j:dk w o cap l)(L:l.length<=1048576)
 (I:∀args y,(callFunc F args).run prog y=.ok (.enter F args) y)
 (u:∀x∈l,∀w1,Below w.heap.size w w1->Calls prog F (#[.string ⟨x.toArray⟩]++caps) w1 fun e D=>e=.returned (.bool (q x))/\Below w1.heap.size w1 D):
 Calls prog 219 #[.slice o l.length cap,.func (.func F) #[] caps] w fun e w'=>(∃r:Int,e=.returned (.int .i64 r)/\Hid (decide (r>=0)=l.any q))/\Below w.heap.size w w':=by
 have M:=j.2.1;have A:=j.2.2.1;unfold maxLen at A;have s:=ah u;clear u;go_enter func219,ntmps219
 go_wp2
 go_loopw [8] (fun v wr=>∃k:Nat,v=.int .i64 k/\k<=l.length/\Below w.heap.size w wr/\Hid ((l.take k).any q=false)) (fun v _=>l.length-(intOf v).toNat)
 case atStart=>exact⟨0,rfl,aK _,aA _ _,rfl⟩
 case round=>
  obtain⟨k,rfl,J,a,t⟩:=hrel;by_cases C:k<l.length
  ·have B:decide ((k:Int)<l.length)=true:=aM
   have K:(k:Int)<l.length:=ad;obtain⟨x,c⟩:∃n,l[k]?=some n:=⟨_,aF C⟩;obtain⟨b,N,rfl,H,O⟩:=(j.below a).at c;have d:=s.o x (aU c) wr a;have h:(l.take (k+1)).any q=q x:=by rw[bG,c,dR,iX,t.o];simp
   have G:=ah c;skip;cases g:q x with
   |true=>
    rw[g]at d;have f:l.any q=true:=by rw[gt];exact⟨x,aU c,g⟩
    have i:=ah f;clear f h c g s;go_wp2_with fail
    refine d.mono ?_;rintro e E ⟨rfl,m⟩;clear d;have p:=a.trans (m.mono a.size)
    go_wp2
    go_ret;exact⟨⟨(k:Nat),rfl,by show _=_;rw[i.o,ct];omega⟩,p⟩
   |false=>
    rw[g]at d h;have z:=ah h;clear h c g;go_wp2_with fail
    refine d.mono ?_;rintro e E ⟨rfl,m⟩;clear d;have p:=a.trans (m.mono a.size)
    go_wp2
    go_roundw
    case rel=>exact⟨k+1,aG,ad,p,z.o⟩
    case measure=>exact aH
  ·have B:decide ((k:Int)<l.length)=false:=aJ
   have f:l.any q=false:=by have:=t.o;rwa[bx ad]at this
   have i:=ah f;clear f
   go_wp2
   go_ret;exact⟨⟨-1,rfl,by show _=_;rw[i.o,cF];omega⟩,a⟩
theorem AE{F:Nat}{caps:Array Value}{q:Bytes->Bool}(l:List Bytes)(o:Option Addr)(cap:Nat)(w:World)(b:dk w o cap l)(f:l.length<=1048576)
 (c:∀args g,(callFunc F args).run prog g=.ok (.enter F args) g)
 (d:∀x∈l,∀w1,Below w.heap.size w w1->Calls prog F (#[.string ⟨x.toArray⟩]++caps) w1 fun a j=>a=.returned (.bool (q x))/\Below w1.heap.size w1 j):
 Calls prog 156 #[.slice o l.length cap,.func (.func F) #[] caps] w fun a w'=>a=.returned (.bool (l.any q))/\Below w.heap.size w w':=by
 have e:=GK l o cap w b f c d;clear b f c d;go_enter func156,ntmps156
 go_wp2_with fail
 refine e.mono ?_;rintro a m ⟨⟨r,rfl,i⟩,h⟩;clear e
 go_wp2
 go_ret;exact⟨bC i.out,h⟩
theorem GL{F:Nat}{caps:Array Value}{q:Nat->Bool}(l:List Nat)(o:Option Addr)(cap:Nat)(w:World)(j:jJ w o cap l)(L:l.length<=1048576)
 (I:∀args y,(callFunc F args).run prog y=.ok (.enter F args) y)
 (u:∀x∈l,∀w1,Below w.heap.size w w1->Calls prog F (#[.int .i64 (x:Nat)]++caps) w1 fun e D=>e=.returned (.bool (q x))/\Below w1.heap.size w1 D):
 Calls prog 174 #[.slice o l.length cap,.func (.func F) #[] caps] w fun e w'=>(∃r:Int,e=.returned (.int .i64 r)/\Hid (decide (r>=0)=l.any q))/\Below w.heap.size w w':=by
 have M:=j.2.1;have A:=j.2.2.1;unfold maxLen at A;have s:=ah u;clear u;go_enter func174,ntmps174
 go_wp2
 go_loopw [8] (fun v wr=>∃k:Nat,v=.int .i64 k/\k<=l.length/\Below w.heap.size w wr/\Hid ((l.take k).any q=false)) (fun v _=>l.length-(intOf v).toNat)
 case atStart=>exact⟨0,rfl,aK _,aA _ _,rfl⟩
 case round=>
  obtain⟨k,rfl,J,a,t⟩:=hrel;by_cases C:k<l.length
  ·have B:decide ((k:Int)<l.length)=true:=aM
   have K:(k:Int)<l.length:=ad;obtain⟨x,c⟩:∃n,l[k]?=some n:=⟨_,aF C⟩;obtain⟨b,N,rfl,H,O⟩:=(j.below a).at c;have d:=s.o x (aU c) wr a;have h:(l.take (k+1)).any q=q x:=by rw[bG,c,dR,iX,t.o];simp
   have G:=ah c;skip;cases g:q x with
   |true=>
    rw[g]at d;have f:l.any q=true:=by rw[gt];exact⟨x,aU c,g⟩
    have i:=ah f;clear f h c g s;go_wp2_with fail
    refine d.mono ?_;rintro e E ⟨rfl,m⟩;clear d;have p:=a.trans (m.mono a.size)
    go_wp2
    go_ret;exact⟨⟨(k:Nat),rfl,by show _=_;rw[i.o,ct];omega⟩,p⟩
   |false=>
    rw[g]at d h;have z:=ah h;clear h c g;go_wp2_with fail
    refine d.mono ?_;rintro e E ⟨rfl,m⟩;clear d;have p:=a.trans (m.mono a.size)
    go_wp2
    go_roundw
    case rel=>exact⟨k+1,aG,ad,p,z.o⟩
    case measure=>exact aH
  ·have B:decide ((k:Int)<l.length)=false:=aJ
   have f:l.any q=false:=by have:=t.o;rwa[bx ad]at this
   have i:=ah f;clear f
   go_wp2
   go_ret;exact⟨⟨-1,rfl,by show _=_;rw[i.o,cF];omega⟩,a⟩
theorem AF{F:Nat}{caps:Array Value}{q:Nat->Bool}(l:List Nat)(o:Option Addr)(cap:Nat)(w:World)(b:jJ w o cap l)(f:l.length<=1048576)
 (c:∀args g,(callFunc F args).run prog g=.ok (.enter F args) g)
 (d:∀x∈l,∀w1,Below w.heap.size w w1->Calls prog F (#[.int .i64 (x:Nat)]++caps) w1 fun a j=>a=.returned (.bool (q x))/\Below w1.heap.size w1 j):
 Calls prog 116 #[.slice o l.length cap,.func (.func F) #[] caps] w fun a w'=>a=.returned (.bool (l.any q))/\Below w.heap.size w w':=by
 have e:=GL l o cap w b f c d;clear b f c d;go_enter func116,ntmps116
 go_wp2_with fail
 refine e.mono ?_;rintro a m ⟨⟨r,rfl,i⟩,h⟩;clear e
 go_wp2
 go_ret;exact⟨bC i.out,h⟩
theorem ei.below{w w':World}{M:Nat}{ts:List ax}(b:ei w M ts)(a:Below w.heap.size w w'):ei w' M ts:=
 b.kept (row:=none) ⟨a.os,a.tape,a.output,a.size,fun k c _=>a.block k c⟩ ak
structure ej(l:List am):Prop where
 len:l.length<=1048576
 name:∀x∈l,x.t.name.length<=1048576
 label:∀x∈l,x.t.label.length<=1048576
 key:∀x∈l,x.t.key.length<=1048576
 attrs:∀x∈l,x.t.attrs.length<=1048576
 attr:∀x∈l,∀a∈x.t.attrs,a.length<=1048576
 sym:∀x∈l,∀n∈x.t.nodes,n.sym.length<=1048576
structure kS(w:World)(S P T M:Nat)(o:Option Addr)(cap:Nat)(l:List am):Prop where
 s:w.heap[S]?=some (.cells #[.slice o l.length cap] 24 (0,0))
 p:w.heap[P]?=some (.cells #[.map (some M)] 77 (0,0))
 t:w.heap[T]?=some (.cells #[.func (.func 143) #[] #[]] 240 (0,0))
 types:cn w o cap l
 places:ei w M (l.map am.t)
 mlt:M<w.heap.size
theorem kS.below{w w':World}{S P T M:Nat}{o:Option Addr}{cap:Nat}{l:List am}(a:kS w S P T M o cap l)(b:Below w.heap.size w w'):kS w' S P T M o cap l:=
 ⟨(b.block S (aN a.s)).trans a.s,(b.block P (aN a.p)).trans a.p,(b.block T (aN a.t)).trans a.t,a.types.below b,a.places.below b,by have:=b.size;have:=a.mlt;omega⟩
theorem tA(a:Int)(w:World):Calls prog 143 #[.int .i64 a,.bool true] w fun b w'=>b=.returned (.int .i64 a)/\w=w':=by
 go_enter func143,ntmps143
 go_wp2
 go_ret;exact⟨rfl,rfl⟩
theorem tC(a:Int)(w:World):Calls prog 143 #[.int .i64 a,.bool false] w fun b w'=>b=.returned (.int .i64 0)/\w=w':=by
 go_enter func143,ntmps143
 go_wp2
 go_ret;exact⟨rfl,rfl⟩
theorem tD:∀args a,(callFunc 143 args).run prog a=.ok (.enter 143 args) a:=fun _ _=>rfl
theorem GM{w:World}{S P T M:Nat}{o:Option Addr}{cap:Nat}{l:List am}(b:kS w S P T M o cap l)(h:l.length<=1048576):
 Calls prog 147 #[.pointer (some ⟨T,0,none⟩),.pointer (some ⟨S,0,none⟩)] w fun a w'=>a=.returned (.int .i64 (if 64<l.length then 17 else 0))/\w=w':=by
 have e:=aZ w S 0 _ _ _ b.s;have f:=aZ w T 0 _ _ _ b.t;have g:=tD;clear b;by_cases c:64<l.length
 ·have d:decide ((l.length:Int)>64)=true:=aM
  rw[au c];go_enter func147,ntmps147
  go_wp2_with fail
  refine(tA _ _).mono ?_;rintro a w' ⟨rfl,rfl⟩
  go_wp2
  go_ret;exact⟨rfl,rfl⟩
 ·have d:decide ((l.length:Int)>64)=false:=aJ
  rw[ap c];go_enter func147,ntmps147
  go_wp2_with fail
  refine(tC _ _).mono ?_;rintro a w' ⟨rfl,rfl⟩
  go_wp2
  go_ret;exact⟨rfl,rfl⟩
theorem GN{w:World}{S P T M:Nat}{o:Option Addr}{cap:Nat}{l:List am}(c:kS w S P T M o cap l)(i:l.length<=1048576):
 Calls prog 148 #[.pointer (some ⟨T,0,none⟩),.pointer (some ⟨S,0,none⟩)] w fun b w'=>b=.returned (.int .i64 (if l.length=0 then 18 else 0))/\w=w':=by
 have f:=aZ w S 0 _ _ _ c.s;have g:=aZ w T 0 _ _ _ c.t;have h:=tD;clear c;by_cases a:l.length=0
 ·have d:((l.length:Int)==0)=true:=mq
  rw[au a];have e:=ah a;clear a;go_enter func148,ntmps148
  go_wp2_with fail
  refine(tA _ _).mono ?_;rintro b w' ⟨rfl,rfl⟩
  go_wp2
  go_ret;exact⟨rfl,rfl⟩
 ·have d:((l.length:Int)==0)=false:=dX
  rw[ap a];go_enter func148,ntmps148
  go_wp2_with fail
  refine(tC _ _).mono ?_;rintro b w' ⟨rfl,rfl⟩
  go_wp2
  go_ret;exact⟨rfl,rfl⟩
def eK(t:ax):Bool:=t.text&&(!t.nodes.isEmpty|| !t.key.isEmpty)
theorem GO{a:Type}(l:List a):l.isEmpty=decide (l.length=0):=by cases l<;>simp
theorem GP(x:am)(w:World):Calls prog 152 #[dj x] w fun f w'=>f=.returned (.bool (eK x.t))/\Below w.heap.size w w':=by
 obtain⟨r,a⟩:=aj (eK x.t);rw[<-a];unfold eK at a;obtain⟨⟨name,label,attrs,key,text,nodes⟩,g,ac,no,j⟩:=x;unfold dj typeRow;simp only at a⊢;cases text with
 |false=>
  rw[vA]at a;have b:=ah a;clear a;go_enter zl,zm
  go_wp2
  go_ret;exact⟨bC b.o.symm,az⟩
 |true=>
  rw[qI,GO]at a;by_cases d:nodes.length=0
  ·rw[ox d,zn,mW]at a
   obtain rfl:=pK d;cases e:key with
   |nil=>
    rw[e]at a;have b:=ah a;clear a d e;go_enter zl,zm
    go_wp2
    go_ret;exact⟨bC b.o.symm,az⟩
   |cons c t=>
    rw[e]at a;have b:=ah a;clear a d e;go_enter zl,zm
    go_wp2
    go_ret;exact⟨bC b.o.symm,az⟩
  ·rw[pI d,Bool.not_false,Bool.true_or]at a
   have b:=ah a;generalize nodes.length=m at d;have i:0<m:=ad;have h:decide ((m:Int)>0)=true:=aM;clear a d;go_enter zl,zm
   go_wp2
   go_ret;exact⟨bC b.o.symm,az⟩
theorem GQ(s:ByteArray)(w:World)(c:s.size<=9223372036854775807):Calls prog 217 #[.string s] w fun a w'=>a=.returned (.bool (!a8 s.data.toList))/\Below w.heap.size w w':=by
 go_enter func217,ntmps217
 go_wp2_with fail
 refine(mi s _ c).mono ?_;rintro a w' ⟨rfl,b⟩
 go_wp2
 go_ret;exact⟨rfl,b⟩
theorem AG:∀args a,(callFunc 217 args).run prog a=.ok (.enter 217 args) a:=fun _ _=>rfl
theorem tE(a:Bytes)(w:World)(c:a.length<=1048576):Calls prog 217 #[.string ⟨a.toArray⟩] w fun b w'=>b=.returned (.bool (!a8 a))/\Below w.heap.size w w':=
 GQ ⟨a.toArray⟩ w (by rw[dy];show a.length<=_;omega)
theorem GR(x:am)(w:World)(y:dk w x.ao x.ac x.t.attrs)(K:x.t.name.length<=1048576)(L:x.t.label.length<=1048576)(M:x.t.key.length<=1048576)(N:x.t.attrs.length<=1048576)(O:∀a∈x.t.attrs,a.length<=1048576):
 Calls prog 149 #[dj x] w fun g w'=>g=.returned (.bool (fS x.t))/\Below w.heap.size w w':=by
 obtain⟨r,i⟩:=aj (fS x.t);rw[<-i];unfold fS at i;obtain⟨⟨name,label,attrs,key,text,nodes⟩,m,ac,no,C⟩:=x;unfold dj typeRow;simp only at i y K L M N O⊢;have V:=fun w=>tE name w K;have W:=fun w=>tE label w L;have ao:=fun w=>tE key w M;have I:=fun w' (ag:Below w.heap.size w w')=>AE (F:=217) (caps:=#[]) (q:=fun a=> !a8 a) attrs m ac w' (y.below ag) N AG (fun a af w1 n=>tE a w1 (O a af));have av:=AG;have P:Below w.heap.size w (w.alloc (.cells #[.string ⟨name.toArray⟩,.string ⟨label.toArray⟩,.slice m attrs.length ac,.string ⟨key.toArray⟩,.bool text,.slice no nodes.length C] 68)):=az;have Q:=aC w (.cells #[.string ⟨name.toArray⟩,.string ⟨label.toArray⟩,.slice m attrs.length ac,.string ⟨key.toArray⟩,.bool text,.slice no nodes.length C] 68);have R:w.heap.size<(w.alloc (.cells #[.string ⟨name.toArray⟩,.string ⟨label.toArray⟩,.slice m attrs.length ac,.string ⟨key.toArray⟩,.bool text,.slice no nodes.length C] 68)).heap.size:=ak;have X:=ah (And.intro P (And.intro Q R));clear P Q R;have l:=ah i;clear i y;go_enter func149,ntmps149
 go_wp2_with fail
 refine(V _).mono ?_;rintro g w1 ⟨rfl,n⟩;have B:=X.out.1.trans (n.mono X.out.1.size);have e:=(n.block w.heap.size X.out.2.2).trans X.out.2.1;have S:=aN e;have Y:=aZ w1 w.heap.size 1 _ _ _ e;have Z:=aZ w1 w.heap.size 2 _ _ _ e;have aa:=aZ w1 w.heap.size 3 _ _ _ e;clear V X n;cases s:a8 name with
 |false=>
  have b:r=true:=by rw[l.o,s];rfl
  have d:=ah b;clear b s e
  go_wp2
  go_ret;exact⟨bC d.o.symm,B⟩
 |true=>
  obtain⟨v,G⟩:=aE s e;clear s e;go_wp2_with fail
  refine(W _).mono ?_;rintro g D ⟨rfl,z⟩;have o:=B.trans (z.mono B.size);have f:=(z.block w.heap.size S).trans G.o;have T:=aN f;have ab:=aZ D w.heap.size 2 _ _ _ f;have ae:=aZ D w.heap.size 3 _ _ _ f;clear W z Y Z aa G S;cases u:a8 label with
  |false=>
   have b:r=true:=by rw[l.o,u,v.o];rfl
   have d:=ah b;clear b u f
   go_wp2
   go_ret;exact⟨bC d.o.symm,o⟩
  |true=>
   obtain⟨E,H⟩:=aE u f;have J:=I D o;clear u f I;go_wp2_with fail
   refine J.mono ?_;rintro g aq ⟨rfl,A⟩;have p:=o.trans (A.mono o.size);have j:=(A.block w.heap.size T).trans H.o;have a0:=aN j;have f3:=aZ aq w.heap.size 3 _ _ _ j;clear J A ab ae H T;cases h:attrs.any (fun a=> !a8 a)with
   |true=>
    have b:r=true:=by rw[l.o,h,E.o,v.o];rfl
    have d:=ah b;clear b h j
    go_wp2
    go_ret;exact⟨bC d.o.symm,p⟩
   |false=>
    have b:r=(!key.isEmpty&& !a8 key):=by rw[l.o,h,E.o,v.o];rfl
    cases key with
    |nil=>
     have d:=ah b;clear b h j
     go_wp2
     go_ret;exact⟨bC d.o.symm,p⟩
    |cons c t=>
     have d:=ah b;clear b h j;go_wp2_with fail
     refine(ao _).mono ?_;rintro g a1 ⟨rfl,al⟩;have an:=p.trans (al.mono p.size)
     go_wp2
     go_ret;exact⟨bC d.o.symm,an⟩
theorem dm{B:Nat}{w w':World}(a:Below B w w')(n:Nat):Below B w (w'.drewN n):=⟨a.os,a.tape,a.output,a.size,a.block⟩
theorem AH(x y:Bytes):∀a:List Bytes,dh (a++[x,y])=(dh (a++[x])||br y x)
 |[]=>by simp[dh]
 |[c]=>by simp[dh]
 |c::d::t=>by have:=AH x y (d::t);simp only[fH,dh]at this⊢;rw[this,Bool.or_assoc]
theorem vZ(b:List Bytes):∀a:List Bytes,dh a=true->dh (a++b)=true
 |[],e=>by simp[dh]at e
 |[c],e=>by simp[dh]at e
 |c::d::t,e=>by
  have:=vZ b (d::t);simp only[fH,dh,cM]at this e⊢;rcases e with e|e
  ·exact .inl e
  ·exact .inr (this e)
theorem AI{l:List Bytes}{k:Nat}{x y:Bytes}(c:l[k]?=some x)(d:l[k+1]?=some y):dh (l.take (k+2))=(dh (l.take (k+1))||br y x):=by
 have a:l.take (k+1)=l.take k++[x]:=by rw[bG,c];rfl
 have b:l.take (k+2)=l.take k++[x,y]:=by rw[show k+2=(k+1)+1 from rfl,bG,d,a];simp
 rw[a,b,AH]
theorem ri(x y:Bytes):Op.bytesLess x y= !br y x:=by rw[Go.Proofs.bytesLess_eq];unfold br;rw[eS];simp
theorem GS(x:am)(w:World)(g:dk w x.ao x.ac x.t.attrs)(G:x.t.attrs.length<=1048576):
 Calls prog 151 #[dj x] w fun e w'=>e=.returned (.bool (dh x.t.attrs))/\Below w.heap.size w w':=by
 obtain⟨r,j⟩:=aj (dh x.t.attrs);rw[<-j];have I:=g.2.1;have B:=g.2.2.1;unfold maxLen at B;obtain⟨⟨name,label,attrs,key,text,nodes⟩,q,ac,no,s⟩:=x;unfold dj typeRow;simp only at j g G I B⊢;have A:Below w.heap.size w (w.alloc (.cells #[.string ⟨name.toArray⟩,.string ⟨label.toArray⟩,.slice q attrs.length ac,.string ⟨key.toArray⟩,.bool text,.slice no nodes.length s] 68)):=az;have d:=aC w (.cells #[.string ⟨name.toArray⟩,.string ⟨label.toArray⟩,.slice q attrs.length ac,.string ⟨key.toArray⟩,.bool text,.slice no nodes.length s] 68);obtain⟨X,z⟩:=aE (And.intro A d) j;clear A d j;go_enter func151,ntmps151
 go_wp2
 go_loopw [3] (fun i wr=>∃k:Nat,i=.int .i64 ((k:Int)+1)/\(k+1<=attrs.length∨k=0)/\wr.heap[w.heap.size]?=some (.cells #[.string ⟨name.toArray⟩,.string ⟨label.toArray⟩,.slice q attrs.length ac,.string ⟨key.toArray⟩,.bool text,.slice no nodes.length s] 68 (0,0))/\Below w.heap.size w wr/\Hid (dh (attrs.take (k+1))=false)) (fun i _=>attrs.length-(intOf i).toNat)
 case atStart=>
  refine⟨0,rfl,.inr rfl,X.out.2,X.out.1,?_⟩;show _=_
  cases attrs with
  |nil=>rfl
  |cons c t=>simp[dh]
 case round=>
  obtain⟨k,rfl,R,d,h,v⟩:=hrel;clear X;have O:=aZ wr w.heap.size 2 _ _ _ d;have D:=ah d;clear d;by_cases J:k+1<attrs.length
  ·have H:decide ((k:Int)+1<(attrs.length:Int))=true:=aM
   have K:(0:Int)<=k:=ad;have L:(k:Int)<attrs.length:=ad;have M:(0:Int)<=k+1:=ad;have N:(k:Int)+1<(attrs.length:Int):=ad;obtain⟨x,m⟩:∃n,attrs[k]?=some n:=⟨_,aF ad⟩;obtain⟨y,o⟩:∃n,attrs[k+1]?=some n:=⟨_,aF J⟩;have a:=AI m o;rw[v.o,mW]at a;obtain⟨b,S,rfl,P,W⟩:=(g.below h).at m;obtain⟨b',T,e,Q,Y⟩:=(g.below h).at o;injection e with e
   injection e with E F
   subst E;subst F;have V:(((k:Int)+1).toNat)=k+1:=ad;have C:Op.bytesLess x y= !br y x:=ri x y;cases l:br y x with
   |true=>
    rw[l]at a C;have f:r=true:=by rw[z.o,<-jC (k+2) attrs];exact vZ _ _ a
    obtain⟨p,u⟩:=aE f a;clear f a l m o
    go_wp2
    go_quiet(fail)
    go_wp2
    go_ret;exact⟨bC p.o.symm,dm h _⟩
   |false=>
    rw[l]at a C;have u:=ah a;clear a l m o
    go_wp2
    go_quiet(fail)
    go_wp2
    go_roundw
    case rel=>exact⟨k+1,aG,.inl ad,D.o,dm h _,u.o⟩
    case measure=>exact aH
  ·have H:decide ((k:Int)+1<(attrs.length:Int))=false:=aJ
   have f:r=false:=by have:=v.o;rwa[bx ad,<-z.o]at this
   have p:=ah f;clear f
   go_wp2
   go_ret;exact⟨bC p.o.symm,h⟩
theorem GT{l:List ax}{k:Nat}{t:ax}(b:l[k]?=some t):eh (l.drop k)=if t.text=false/\cw t.nodes≠0 then cw t.nodes else eh (l.drop (k+1)):=by obtain⟨c,a⟩:=aP.1 b;rw[mZ c,a];rfl
theorem GU{w:World}{S P T M:Nat}{o:Option Addr}{cap:Nat}{l:List am}(g:kS w S P T M o cap l)(A:ej l):
 Calls prog 153 #[.pointer (some ⟨S,0,none⟩)] w fun j w'=>j=.returned (.int .i64 (eh (l.map am.t)))/\Below w.heap.size w w':=by
 obtain⟨z,p⟩:=aj (eh (l.map am.t));rw[<-p];have ab:=A.len;have I:=g.types.1.2.2.1;unfold maxLen at I;have G:=aZ w S 0 _ _ _ g.s;have C:=ah p;clear p;go_enter func153,ntmps153
 go_wp2_with fail
 clear G;go_loopw [8] (fun v wr=>∃k:Nat,v=.int .i64 k/\k<=l.length/\Below w.heap.size w wr/\Hid (z=eh ((l.map am.t).drop k))) (fun v _=>l.length-(intOf v).toNat)
 case atStart=>exact⟨0,rfl,aK _,aA _ _,C.o⟩
 case round=>
  obtain⟨k,rfl,Z,h,y⟩:=hrel;by_cases K:k<l.length
  ·have J:decide ((k:Int)<l.length)=true:=aM
   have aa:(k:Int)<l.length:=ad;obtain⟨x,i⟩:∃n,l[k]?=some n:=⟨_,aF K⟩;have u:=aU i;obtain⟨b,ag,rfl,Y,O,Q,R,V,W,X⟩:=(g.types.below h).at i;have a:=GT (l:=l.map am.t) (k:=k) (t:=x.t) (by rw[cb,i];rfl);rw[<-y.o]at a;have s:=fun w' (H:Below w.heap.size w w')=>tm x.t.nodes x.no x.nc w' ((g.types.2 x u).2.below H) (A.sym x u);obtain⟨⟨name,label,attrs,key,text,nodes⟩,F,ac,no,L⟩:=x;simp only at O Q R V W X a s;have c:=h.alloc h.size (.cells #[.string ⟨name.toArray⟩,.string ⟨label.toArray⟩,.slice F attrs.length ac,.string ⟨key.toArray⟩,.bool text,.slice no nodes.length L] 68);have d:=s _ c;clear i u s;cases text with
   |true=>
    rw[ap ak]at a;have e:=ah a;clear a d
    go_wp2
    go_roundw
    case rel=>exact⟨k+1,aG,ad,c,e.o⟩
    case measure=>exact aH
   |false=>
    obtain⟨E,m⟩:=aj (cw nodes);rw[<-m]at a d;by_cases f:E=0
    ·subst f
     rw[ap ak]at a;have e:=ah a;clear a m;go_wp2_with fail
     refine d.mono ?_;rintro j N ⟨rfl,q⟩;clear d;have r:=c.trans (q.mono c.size)
     go_wp2
     go_roundw
     case rel=>exact⟨k+1,aG,ad,r,e.o⟩
     case measure=>exact aH
    ·rw[au ⟨rfl,f⟩]at a
     have ae:(E==0)=false:=by rw[cW];exact f
     have af:(E !=0)=true:=by rw[iJ];exact f
     have e:=ah a;clear a m f;go_wp2_with fail
     refine d.mono ?_;rintro j N ⟨rfl,q⟩;clear d;have r:=c.trans (q.mono c.size)
     go_wp2
     go_ret;exact⟨bT e.o.symm,r⟩
  ·have J:decide ((k:Int)<l.length)=false:=aJ
   have B:z=0:=by have:=y.o;rw[qJ (by rw[cd];omega)]at this;exact this
   have D:=ah B;clear B
   go_wp2
   go_ret;exact⟨bT D.o.symm,h⟩
theorem mr(b:Bytes)(a:b.length<=1048576):keyOf prog 9 (.string ⟨b.toArray⟩)=some (.string b):=by have:=Fk fZ (s:=⟨b.toArray⟩) (by rw[dy];show b.length<=maxLen;unfold maxLen;omega);simpa using this
theorem oH:∀a,(zeroValue 3).run prog a=.ok (.int .i64 0) a:=fun a=>ay
theorem GV{w:World}{P M:Nat}{ts:List ax}(e:w.heap[P]?=some (.cells #[.map (some M)] 77 (0,0)))(i:ei w M ts)(b:Bytes)(l:b.length<=1048576):
 Calls prog 157 #[.string ⟨b.toArray⟩,.pointer (some ⟨P,0,none⟩)] w fun g w'=>g=.returned (.bool (placeS ts b).isNone)/\Below w.heap.size w w':=by
 have r:=aZ w P 0 _ _ _ e;obtain⟨f,n,h,s,o⟩:=i;have m:=mr b l;have q:=oH;have a:=h.has b;have d:(placeS ts b).isNone= !(placeS ts b).isSome:=by cases placeS ts b<;>rfl
 rw[d,<-a];clear d a e;go_enter func157,ntmps157
 go_wp2_with(first
  |(at_lookup;go_must (refine Fl _ rfl _ _ 77 rfl 9 3 .i64 (kN fZ) iZ cX (q _) M _ f rfl o _ _ rfl m ?_);intro c j p;clear j p)
  |fail)
 go_ret;exact⟨rfl,aA _ _⟩
theorem GW{B:Nat}{w w':World}(a:Below B w w'){k:Nat}{o:Obj}(c:w.heap[k]?=some o)(b:k<B):w'.heap[k]?=some o:=(a.block k b).trans c
theorem pT(l:List ar):(symsS l).length<=1024:=by
 unfold symsS;split
 ·rename_i a
  have d:l.length<=1024:=by apply fq;intro c;unfold cw at a;rw[au ad]at a;cases a
  have b:∀l:List Bytes,(cZ l).length<=l.length:=by intro l;rw[<-tn];exact zh l
  have:=b ((fL l).mergeSort br);rw[qH]at this;have:=tt l;omega
 ·simp
theorem GX:∀args a,(callFunc 157 args).run prog a=.ok (.enter 157 args) a:=fun _ _=>rfl
theorem GY{w:World}{P M:Nat}{ts:List ax}(i:w.heap[P]?=some (.cells #[.map (some M)] 77 (0,0)))(m:ei w M ts)(x:am)(o:di w x.no x.nc x.t.nodes)(j:∀n∈x.t.nodes,n.sym.length<=1048576):
 Calls prog 155 #[dj x,.pointer (some ⟨P,0,none⟩)] w fun e w'=>e=.returned (.bool ((symsS x.t.nodes).any fun n=>(placeS ts n).isNone))/\Below w.heap.size w w':=by
 have t:∀b∈symsS x.t.nodes,b.length<=1048576:=fun b a=>by obtain⟨n,I,rfl⟩:=vY a;exact j n I
 have K:=pT x.t.nodes;have c:=fun B (a:Below w.heap.size w B)=>tu x.t.nodes x.no x.nc B (o.below a) j;unfold rh at c;obtain⟨A,s⟩:=aj (symsS x.t.nodes);rw[<-s]at c t K⊢;have d:=fun w' (a:Below w.heap.size w w') z y (D:dk w' z y A)=>AE (F:=157) (caps:=#[.pointer (some ⟨P,0,none⟩)]) (q:=fun n=>(placeS ts n).isNone) A z y w' D ad GX
  (fun b E w1 p=>GV (w:=w1) (GW (a.trans (p.mono a.size)) i (aN i)) (m.below (a.trans (p.mono a.size))) b (t b E))
 obtain⟨⟨name,label,attrs,key,text,nodes⟩,C,ac,no,L⟩:=x;unfold dj typeRow;simp only at c⊢;have f:Below w.heap.size w (w.alloc (.cells #[.string ⟨name.toArray⟩,.string ⟨label.toArray⟩,.slice C attrs.length ac,.string ⟨key.toArray⟩,.bool text,.slice no nodes.length L] 68)):=az;have u:=c _ f;have l:=ah d;clear c d o s m j i;go_enter func155,ntmps155
 go_wp2_with fail
 refine u.mono ?_;rintro e Q ⟨⟨v,rfl,h⟩,G⟩;have g:=f.trans (G.mono f.size);obtain⟨O,N,rfl⟩:=ly h;obtain⟨J,r⟩:=mp h;have d:=l.o Q g O N r;clear l u r h J;go_wp2_with fail
 refine d.mono ?_;rintro e R ⟨rfl,H⟩
 go_wp2
 go_ret;exact⟨rfl,g.trans (H.mono g.size)⟩
theorem GZ{w:World}{S P T M:Nat}{o:Option Addr}{cap:Nat}{l:List am}(b:kS w S P T M o cap l)(r:l.length<=1048576):
 Calls prog 150 #[.pointer (some ⟨T,0,none⟩),.pointer (some ⟨P,0,none⟩),.pointer (some ⟨S,0,none⟩)] w fun c w'=>c=.returned (.int .i64 (if bV ((l.map am.t).map ax.name)=true then 15 else 0))/\w=w':=by
 have j:=aZ w S 0 _ _ _ b.s;have m:=aZ w T 0 _ _ _ b.t;have p:=aZ w P 0 _ _ _ b.p;have q:=tD;obtain⟨a,n,f,h,d⟩:=b.places;have e:=Az ((l.map am.t).map ax.name);rw[cd,cd,<-f.size]at e;have s:Maps.size a<=l.length:=by have:=d.size_le;rw[cd]at h;omega
 rw[<-e];clear b e f h;by_cases g:Maps.size a<l.length
 ·have i:decide ((Maps.size a:Int)<(l.length:Int))=true:=aM
  rw[ox g,au rfl];go_enter func150,ntmps150
  go_wp2_with(first
   |(at_len;refine wpList_len_own _ rfl _ 77 rfl 9 3 iZ _ M _ a rfl d ?_)
   |fail)
  refine(tA _ _).mono ?_;rintro c w' ⟨rfl,rfl⟩
  go_wp2
  go_ret;exact⟨rfl,rfl⟩
 ·have i:decide ((Maps.size a:Int)<(l.length:Int))=false:=aJ
  rw[pI g,ap ak];go_enter func150,ntmps150
  go_wp2_with(first
   |(at_len;refine wpList_len_own _ rfl _ 77 rfl 9 3 iZ _ M _ a rfl d ?_)
   |fail)
  refine(tC _ _).mono ?_;rintro c w' ⟨rfl,rfl⟩
  go_wp2
  go_ret;exact⟨rfl,rfl⟩
theorem G0:∀(ts:List ax) (i:Nat) (n:Bytes) (r:Option Nat) (k:Nat),(∀j,r=some j->j<i+ts.length)->kq i ts n r=some k->k<i+ts.length:=by
 intro ts;induction ts with
 |nil=>intro i n r k c b;exact c k b
 |cons t ts ih=>
  intro i n r k c b;have:=ih (i+1) n (if t.name=n then some i else r) k (fun j a=>by
   split at a
   ·injection a with a;omega
   ·have:=c j a;simp at this;omega) b
  simp;omega
theorem tF{ts:List ax}{n:Bytes}{k:Nat}(a:placeS ts n=some k):k<ts.length:=by have:=G0 ts 0 n none k (fun j b=>by cases b) a;omega
theorem AJ{ts:List ax}{t:ax}(c:1<=ts.length){k:Nat}(a:k∈kidsS ts t):k<ts.length:=by
 unfold kidsS at a;obtain⟨n,_,rfl⟩:=kO.1 a;cases b:placeS ts n with
 |none=>simp;omega
 |some j=>have:=tF b;simpa using this
theorem tI{ts:List ax}{k:Nat}{t:ax}(a:ts[k]?=some t):labelAt ts k=t.label:=by unfold labelAt;rw[a]
theorem AK{ts:List ax}{k:Nat}{t:ax}(a:ts[k]?=some t):fU ts k=t.attrs:=by unfold fU;rw[a]
structure nw(D:DataW Unit)(ls:List Bytes):Prop where
 tidy:Maps.Tidy D
 has:∀n:Bytes,Maps.has D (.string n)=ls.contains n
 size:Maps.size D=ir ls
theorem nw.nil:nw (.map []) []:=⟨Maps.tidy_empty,fun n=>rfl,rfl⟩
theorem nw.snoc{f:DataW Unit}{g:List Bytes}(b:nw f g)(a:Bytes)(d:DataW Unit):nw (f.put (.string a) d) (g++[a]):=by
 refine⟨b.tidy.put cD _,fun n=> ?_,?_⟩
 ·by_cases c:a=n
  ·subst c
   rw[Fi b.tidy.isMap cD];simp
  ·rw[Fj (by simpa using fun e:n=a=>c e.symm),b.has n]
   rw[eS];simp;exact fun e=>absurd e.symm c
 ·rw[Maps.size_put b.tidy,b.has a,Ay,b.size]
theorem AL(x:am)(w:World):Below w.heap.size w (w.alloc (.cells (typeRow x).toArray 68)):=az
theorem G3{w w':World}{B:Nat}{v:Value}{l:List Nat}{row:Option Nat}(a:cO w B v l)(b:w.grownBy w' row)(c:v.ownBlock=none∨v.ownBlock≠row):cO w' B v l:=df a b c
theorem G4{w:World}{S P T M:Nat}{o:Option Addr}{cap:Nat}{l:List am}(c:kS w S P T M o cap l)(D:ej l)(x:am)(d:x∈l):
 Calls prog 158 #[dj x,.pointer (some ⟨S,0,none⟩),.pointer (some ⟨P,0,none⟩)] w fun f w'=>f=.returned (.bool (bV ((kidsS (l.map am.t) x.t).map (labelAt (l.map am.t)))))/\Below w.heap.size w w':=by
 have ba:1<=l.length:=by cases l with|nil=>simp at d|cons a t=>simp
 have bZ:=D.len;have a2:=c.types.1.2.2.1;unfold maxLen at a2;have s:∀k∈kidsS (l.map am.t) x.t,k<l.length:=fun k h=>by have:=AJ (by rw[cd];exact ba) h;rwa[cd]at this
 have a6:(kidsS (l.map am.t) x.t).length<=1024:=by unfold kidsS;rw[cd];exact pT _
 have r:=fun w' (E:Below w.heap.size w w')=>AC (l.map am.t) x (.agg #[.slice o l.length cap]) M w' ⟨_,_,_,rfl⟩ ((c.types.2 x d).2.below E) (c.places.below E) (by have:=E.size;have:=c.mlt;omega) (by have:=pT x.t.nodes;omega) (D.sym x d);obtain⟨ks,G⟩:=aj (kidsS (l.map am.t) x.t);rw[<-G]at s a6 r⊢;have Q:=AL x w;have bB:=aN c.s;have bA:=aN c.p;have b0:= @mY prog;have q:Below w.heap.size w ((w.alloc (.cells (typeRow x).toArray 68)).alloc (.map #[] 0)):=Q.alloc ak _;have Z:((w.alloc (.cells (typeRow x).toArray 68)).alloc (.map #[] 0)).ownsMap prog 9 (plainElem (H:=Unit) prog 3) (w.heap.size+1) 0 (.map []):=by have:=zi (H:=Unit) (w.alloc (.cells (typeRow x).toArray 68)) prog 9 (plainElem prog 3);rwa[bI]at this
 have C:=c.below q;have cs:=aZ _ S 0 _ _ _ C.s;have aq:=aZ _ P 0 _ _ _ C.p;have bc:((w.alloc (.cells (typeRow x).toArray 68)).alloc (.map #[] 0)).heap[w.heap.size]?=some (.cells (typeRow x).toArray 68 (0,0)):=
  (((aA (w.heap.size+1) _).alloc ak (.map #[] 0)).block w.heap.size ad).trans (aC w _)
 have V:=r _ q;have bd:((w.alloc (.cells (typeRow x).toArray 68)).alloc (.map #[] 0)).heap.size=w.heap.size+2:=ak;have W:∀k t,l[k]?=some t->labelAt (l.map am.t) k=t.t.label:=fun k t h=>tI (by rw[cb,h];rfl);have ab:∀t∈l,t.t.label.length<=1048576:=D.label;obtain⟨⟨name,label,attrs,key,text,nodes⟩,ao,ac,no,be⟩:=x;unfold dj typeRow at*;simp only at*;obtain⟨bt,af,an,al,bu⟩:=ku r W ab s G;clear r W ab s G bc bd;obtain⟨m,B⟩:=aj (ks.map (labelAt (l.map am.t)));rw[<-B];have ae:=Az m;have X:m.length=ks.length:=by rw[B,cd]
 rw[<-ae,X];have L:=ah B;clear ae X B;go_enter func158,ntmps158
 go_wp2_with fail
 refine V.mono ?_;rintro f b7 ⟨⟨v,rfl,I⟩,e⟩;have a1:=q.trans (e.mono q.size);obtain⟨bg,bf,rfl,z⟩:=pS I;have a9:=World.ownsMap.kept (row:=none) Z ⟨e.os,e.tape,e.output,e.size,fun k h _=>e.block k h⟩ ak;rw[show(((w.alloc (.cells #[.string ⟨name.toArray⟩,.string ⟨label.toArray⟩,.slice ao attrs.length ac,.string ⟨key.toArray⟩,.bool text,.slice no nodes.length be] 68)).alloc (.map #[] 0)).heap.size)=w.heap.size+2 from ak]at I;clear V e Z C cs aq Q q z
 go_wp2
 go_loopw [16] (fun i wr=>∃k n p,i=.int .i64 (k:Nat)/\k<=ks.length/\n<=k/\Hid (nw p (m.take k))/\wr.ownsMap prog 9 (plainElem (H:=Unit) prog 3) (w.heap.size+1) n p/\cO wr (w.heap.size+2) (.slice bg ks.length bf) ks/\Below w.heap.size w wr) (fun i _=>ks.length-(intOf i).toNat)
 case atStart=>exact⟨0,0,_,rfl,aK _,aB _,nw.nil,a9,I,a1⟩
 case round=>
  obtain⟨k,n,p,rfl,h,b1,K,aa,F,y⟩:=hrel;have O:=c.below y;have cs:=aZ _ S 0 _ _ _ O.s;by_cases s:k<ks.length
  ·have a3:decide ((k:Int)<ks.length)=true:=aM
   have r:(k:Int)<ks.length:=ad;obtain⟨j,A⟩:∃n,ks[k]?=some n:=⟨_,aF s⟩;have a4:=al.o j (aU A);have bw:(0:Int)<=j:=ad;have bz:(j:Int)<l.length:=ad;obtain⟨x,d⟩:∃n,l[j]?=some n:=⟨_,aF a4⟩;obtain⟨b6,b5,f,z⟩:=pS F;injection f with av u a0
   subst av;subst a0;obtain⟨g,b3,rfl,bF,cc⟩:=z.at A;obtain⟨b,b4,rfl,bE,bi,b9,bl,bm,bo,bq⟩:=O.types.at d;have a5:=mr x.t.label (an.o x (aU d));have Y:m.take (k+1)=m.take k++[x.t.label]:=by rw[bG,L.o,cb,A];simp[af.o j x d]
   have ag:=ah Y;have b2:=oH;clear Y d A bi bl bm bo bq z;go_wp2_with(first
    |(at_mapUpdate;go_must (refine zj _ rfl _ _ _ 77 rfl 9 3 (kN fZ) iZ _ (w.heap.size+1) _ p rfl aa bN _ _ _ rfl rfl a5 _ [] (plainElem_int cX (kt ad)) ?_);intro b8 bb R)
    |fail)
   go_roundw
   case rel=>exact⟨k+1,n+1,_,aG,ad,ad,by show nw _ _;rw[ag.o];exact K.o.snoc _ _,bb,G3 F R (.inr (by have:=bX F g rfl;intro u;injection u with u;simp only at u;omega)),y.grown R y.size (fun j f=>by cases f;omega)⟩
   case measure=>exact aH
  ·have a3:decide ((k:Int)<ks.length)=false:=aJ
   have a7:m.length=ks.length:=by rw[L.o,cd]
   have J:=K.o.size;rw[bx ad]at J;have N:=ah J;clear J a7;go_wp2_with(first
    |(at_len;refine wpList_len_own _ rfl _ 77 rfl 9 3 iZ _ (w.heap.size+1) _ p rfl aa ?_)
    |fail)
   go_ret;exact⟨bC (by first|rw[<-N.o]|(rw[<-N.o,eS];simp)),y⟩
theorem G5{a b:Bytes}(c:(⟨a.toArray⟩:ByteArray)=⟨b.toArray⟩):a=b:=by
 have d:a.toArray=b.toArray:=by injection c
 have:=iK Array.toList d;simpa using this
theorem G6(l:List Bytes)(o:Option Addr)(cap:Nat)(w:World)(i:dk w o cap l)(q:l.length<=1048576)(k:Bytes):
 Calls prog 162 #[.slice o l.length cap,.string ⟨k.toArray⟩] w fun c w'=>c=.returned (.bool (l.contains k))/\w'=w:=by
 by_cases n:l.length=0
 ·obtain rfl:=pK n
  exact(slices_Contains_string_empty o cap ⟨k.toArray⟩ w).mono fun c w' ⟨d,e⟩=>⟨by rw[d];rfl,e⟩
 ·obtain⟨b,p,rfl,r,m⟩:=i.2.2.2 ad
  refine(slices_Contains_string b p l.length cap (l.map fun b=>⟨b.toArray⟩) ⟨k.toArray⟩ w (by rw[cd];exact aB _) ad (fun j f=> ?_)).mono fun c w' ⟨d,e⟩=>⟨?_,e⟩
  ·rw[cd]at f
   refine m j _ ?_;rw[cb,aF f];simp[f,encStr]
  ·rw[d]
   refine bC ?_;rw[bx (by rw[cd];exact aB _),eS,Lib.containsS_iff];constructor
   ·intro g
    obtain⟨a,h,c⟩:=kO.1 g;rw[G5 c]at h;simpa using h
   ·intro g
    exact kO.2 ⟨k,by simpa using g,rfl⟩
theorem G7{w:World}{S X:Nat}{o:Option Addr}{cap:Nat}{l:List am}(h:w.heap[S]?=some (.cells #[.slice o l.length cap] 24 (0,0)))(c:cn w o cap l)(e:ej l)(x:am)
 (a:w.heap[X]?=some (.cells (typeRow x).toArray 68 (0,0))) (j:Nat) (q:j<l.length):
 Calls prog 161 #[.int .i64 (j:Nat),.pointer (some ⟨S,0,none⟩),.pointer (some ⟨X,0,none⟩)] w fun m w'=>m=.returned (.bool ((fU (l.map am.t) j).contains x.t.key))/\Below w.heap.size w w':=by
 obtain⟨y,d⟩:∃n,l[j]?=some n:=⟨_,aF q⟩;have g:=aU d;have f:fU (l.map am.t) j=y.t.attrs:=AK (by rw[cb,d];rfl);rw[f];have E:=e.len;have p:=c.1.2.2.1;unfold maxLen at p;obtain⟨b,G,rfl,D,r,s,H,t,u,v⟩:=c.at d;have i:=fun n=>G6 y.t.attrs y.ao y.ac (w.drewN n) ((c.2 y g).1.below (dm (aA _ w) n)) (e.attrs y g) x.t.key;have cs:=aZ w S 0 _ _ _ h;obtain⟨⟨name,label,attrs,key,text,nodes⟩,z,ac,no,F⟩:=x;unfold typeRow at a;simp only at a i⊢;have C:=aZ w X 3 _ _ _ a;have A:(0:Int)<=j:=ad;have B:(j:Int)<l.length:=ad;clear a h c f d r s t u v;go_enter func161,ntmps161
 go_wp2
 go_quiet((go_at_call 162;exact vB (i _)))
 go_wp2
 go_ret;exact⟨rfl,dm (aA _ w) _⟩
theorem G8:∀args a,(callFunc 161 args).run prog a=.ok (.enter 161 args) a:=fun _ _=>rfl
theorem G9{w:World}{S P T M:Nat}{o:Option Addr}{cap:Nat}{l:List am}(h:kS w S P T M o cap l)(E:ej l)(x:am)(i:x∈l):
 Calls prog 160 #[dj x,.pointer (some ⟨S,0,none⟩),.pointer (some ⟨P,0,none⟩)] w fun n w'=>n=.returned (.bool (!x.t.key.isEmpty&& !(kidsS (l.map am.t) x.t).any fun k=>(fU (l.map am.t) k).contains x.t.key))/\Below w.heap.size w w':=by
 have Z:1<=l.length:=by cases l with|nil=>simp at i|cons a t=>simp
 have z:∀k∈kidsS (l.map am.t) x.t,k<l.length:=fun k s=>by have:=AJ (by rw[cd];exact Z) s;rwa[cd]at this
 have Y:(kidsS (l.map am.t) x.t).length<=1024:=by unfold kidsS;rw[cd];exact pT _
 have y:=fun w' (b:Below w.heap.size w w')=>AC (l.map am.t) x (.agg #[.slice o l.length cap]) M w' ⟨_,_,_,rfl⟩ ((h.types.2 x i).2.below b) (h.places.below b) (by have:=b.size;have:=h.mlt;omega) (by have:=pT x.t.nodes;omega) (E.sym x i);obtain⟨ks,K⟩:=aj (kidsS (l.map am.t) x.t);rw[<-K]at z Y y⊢;have d:=AL x w;have e:=h.below d;have G:=aC w (.cells (typeRow x).toArray 68);have g:=fun w' (b:Below (w.alloc (.cells (typeRow x).toArray 68)).heap.size (w.alloc (.cells (typeRow x).toArray 68)) w') j W=>
  G7 (w:=w') (S:=S) (X:=w.heap.size) (e.below b).s (e.below b).types E x ((b.block w.heap.size ak).trans G) j W
 obtain⟨q,A⟩:∃q:Nat->Bool,∀k,q k=(fU (l.map am.t) k).contains x.t.key:=⟨_,fun _=>rfl⟩;rw[show(fun k=>(fU (l.map am.t) k).contains x.t.key)=q from funext fun k=>(A k).symm];have J:=fun w' (b:Below (w.alloc (.cells (typeRow x).toArray 68)).heap.size (w.alloc (.cells (typeRow x).toArray 68)) w') O N (Q:jJ w' O N ks)=>
  AF (F:=161) (caps:=#[.pointer (some ⟨S,0,none⟩),.pointer (some ⟨w.heap.size,0,none⟩)]) (q:=q) ks O N w' Q ad G8
   (fun k s w1 R=>by rw[A];exact g w1 (b.trans (R.mono b.size)) k (z k s))
 have u:=y _ d;have cs:=aZ _ S 0 _ _ _ e.s;have ag:=aZ _ P 0 _ _ _ e.p;have C:=ah J;obtain⟨⟨name,label,attrs,key,text,nodes⟩,af,ac,no,al⟩:=x;unfold dj typeRow at*;simp only at*;obtain⟨r,B⟩:=aj ((!key.isEmpty&& !ks.any q));rw[<-B];have D:=ah B;clear B J g y z K G e i A;cases key with
 |nil=>
  have f:r=false:=by rw[D.o];rfl
  have m:=ah f;clear f u;go_enter func160,ntmps160
  go_wp2
  go_ret;exact⟨bC m.o.symm,d⟩
 |cons c t=>
  have f:r= !ks.any q:=by rw[D.o];rfl
  have m:=ah f;clear f;go_enter func160,ntmps160
  go_wp2_with fail
  refine u.mono ?_;rintro n ae ⟨⟨v,rfl,L⟩,p⟩;have H:=d.trans (p.mono d.size);obtain⟨ab,aa,rfl,g⟩:=pS L;have I:=C.o ae p ab aa g;clear u g L p C d;go_wp2_with fail
  refine I.mono ?_;rintro n an ⟨rfl,V⟩;clear I
  go_wp2
  go_ret;exact⟨bC m.o.symm,H.trans (V.mono H.size)⟩
theorem aD{w0 w1 b:World}(a:Below w0.heap.size w0 w1)(k:Below w1.heap.size w1 b):Below w0.heap.size w0 b:=a.trans (k.mono a.size)
theorem He{w:World}{S P T M E W F:Nat}{caps:Array Value}{o:Option Addr}{cap:Nat}{l:List am}{q:am->Bool}(d:Int)(c:kS w S P T M o cap l)(B:ej l)
 (f:w.heap[E]?=some (.cells #[.int .i64 d] 36 (0,0))) (g:w.heap[W]?=some (.cells #[.func (.func F) #[] caps] 241 (0,0)))
 (n:∀args t,(callFunc F args).run prog t=.ok (.enter F args) t)
 (r:∀x∈l,∀w1,Below w.heap.size w w1->Calls prog F (#[dj x]++caps) w1 fun b G=>b=.returned (.bool (q x))/\Below w1.heap.size w1 G):
 Calls prog 145 #[.pointer (some ⟨T,0,none⟩),.pointer (some ⟨E,0,none⟩),.pointer (some ⟨S,0,none⟩),.pointer (some ⟨W,0,none⟩)] w fun b w'=>b=.returned (.int .i64 (if l.any q=true then d else 0))/\Below w.heap.size w w':=by
 have i:=fun w' (a:Below w.heap.size w w')=>GJ (F:=F) (caps:=caps) (q:=q) l o cap w' (c.types.below a) B.len n (fun x e w1 C=>r x e w1 (a.trans (C.mono a.size)));have u:=aZ _ T 0 _ _ _ c.t;have y:=aZ _ E 0 _ _ _ f;have z:=aZ _ S 0 _ _ _ c.s;have A:=aZ _ W 0 _ _ _ g;have I:=tD;have e:∀w',Below w.heap.size w w'->w'.cell? ⟨T,0,none⟩=some (.func (.func 143) #[] #[])/\w'.cell? ⟨E,0,none⟩=some (.int .i64 d)/\w'.cell? ⟨S,0,none⟩=some (.slice o l.length cap)/\w'.cell? ⟨W,0,none⟩=some (.func (.func F) #[] caps):=fun w' a=>
  ⟨(a.cell (p:=⟨T,0,none⟩) (aN c.t)).trans u,(a.cell (p:=⟨E,0,none⟩) (aN f)).trans y,(a.cell (p:=⟨S,0,none⟩) (aN c.s)).trans z,(a.cell (p:=⟨W,0,none⟩) (aN g)).trans A⟩
 have H:=(aA w.heap.size w).drew;have m:=e;clear e;clear c f g r n;obtain⟨v,s⟩:=aj (l.any q);rw[<-s]at i⊢;clear s;cases v with
 |true=>
  rw[au rfl];go_enter func145,ntmps145
  go_wp2_with fail
  go_region_held3(fun w'=>Below w.heap.size w w'/\w'.cell? ⟨T,0,none⟩=some (.func (.func 143) #[] #[])/\w'.cell? ⟨E,0,none⟩=some (.int .i64 d)/\w'.cell? ⟨S,0,none⟩=some (.slice o l.length cap)/\w'.cell? ⟨W,0,none⟩=some (.func (.func F) #[] caps)) (first|exact⟨dQ,m _ dQ⟩)
   (first
     |(go_at_call 146;refine(i _ dQ).mono ?_;rintro b j ⟨rfl,h⟩;have D:=aD (w0:=w) dQ h)
     |(go_at_call 143;refine(tA _ _).mono ?_;rintro b j ⟨rfl,rfl⟩))
  go_wp2
  go_ret;exact⟨rfl,dQ⟩
 |false=>
  rw[ap ak];go_enter func145,ntmps145
  go_wp2_with fail
  go_region_held3(fun w'=>Below w.heap.size w w'/\w'.cell? ⟨T,0,none⟩=some (.func (.func 143) #[] #[])/\w'.cell? ⟨E,0,none⟩=some (.int .i64 d)/\w'.cell? ⟨S,0,none⟩=some (.slice o l.length cap)/\w'.cell? ⟨W,0,none⟩=some (.func (.func F) #[] caps)) (first|exact⟨dQ,m _ dQ⟩)
   (first
     |(go_at_call 146;refine(i _ dQ).mono ?_;rintro b j ⟨rfl,h⟩;have D:=aD (w0:=w) dQ h)
     |(go_at_call 143;refine(tC _ _).mono ?_;rintro b j ⟨rfl,rfl⟩))
  go_wp2
  go_ret;exact⟨rfl,dQ⟩
end Go.Proofs.YtbacloblanpghaaGreatDoor
