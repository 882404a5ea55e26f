import Derived.Test.YtfeidcmojcijpaaGreatDoorQbg
import Derived.Test.YtfeidcmojcijpaaGreatDoorQbh
set_option linter.all false
set_option maxRecDepth 100000
set_option maxHeartbeats 0
namespace Go.Proofs.YtfeidcmojcijpaaGreatDoor
open Go.RowKit Tryz
section
open PRegex
def SR{K} [DecidableEq K]{l}{k:K}(a:k∈l):lM l k<l:=DD a
def dK(s:St):List Int:=if s.1 then [-1]else(aG s.2).map fun(p:Nat)=>p
def vI(l:List ax)(x:Bytes)(q:Nat):Bool:=match l[q]? with|some n=>decide (n.op=2)&&decide (n.sym=x)|none=>false
def nw(l:List ax)(set:List Int)(x:Bytes):List Nat:=(List.range l).filter fun q=>vI l x q&&set.any fun z=>if z<0 then(trN l (l-1)).zq q else(trN l (l-1)).zr z.toNat q
def tN(l:List ax)(set:List Int):Bool:=set.any fun z=>if z<0 then(trN l (l-1)).null else(trN l (l-1)).zp z.toNat
def jW(l:List ax)(s:St):Prop:=mx l s/\(s.1=true->s.2=0)
section
variable{l:List ax} {s t:St}
def SS:jW l (true,0):=⟨yK l,fun _=>rfl⟩
def ST(b:l.length<=60) x s:jW l (false,fK l x s):=⟨yW b x s,fun a=>by cases a⟩
def IG(i:jW l s)(n:jW l t)(c:dK s=dK t):s=t:=by
 obtain⟨a,m⟩:=s;obtain⟨b,k⟩:=t;have h:m<18446744073709551616:=i.1.1;have g:k<18446744073709551616:=n.1.1;unfold dK at c;cases a<;>cases b
 simp only[iW,iy]at c;have e:aG m=aG k:=by have:=gA (List.map Int.toNat) c;simpa[Function.comp_def]using this
 rw[Cf h g fun j o=>by rw[ft,<-pw h,<-pw g,e]];simp only[iW,iy,ix]at c;have: -1∈(aG m).map fun(p:Nat)=>(p:Int):=by rw[c];simp
 simp at this;simp only[iW,iy,ix]at c;have: -1∈(aG k).map fun(p:Nat)=>(p:Int):=by rw[<-c];simp
 simp at this;have d:=i.2 rfl;have f:=n.2 rfl;simp only at d f;rw[d,f]
def SU{x q}:vI l x q=true↔∃n,l[q]?=some n/\n.op=2/\n.sym=x:=by
 unfold vI;cases l[q]? with
 |none=>simp
 |some n=>simp
def SV{f g a b}(j:a<=b)(d:∀q,q<a->f q=g q)(h:∀q,a<=q->q<b->g q=false):(List.range a).filter f=(List.range b).filter g:=by
 have e:List.range b=List.range a++(List.range (b-a)).map (a+·):=by
  rw[<-List.range_add];congr 1
  omega
 rw[e,pk];have:((List.range (b-a)).map (a+·)).filter g=[]:=by rw[C0];intro q c;obtain⟨k,i,rfl⟩:=dL.1 c;have:=eT.1 i;rw[h _ ad ad];simp
 rw[this,wI];exact List.filter_congr fun q c=>d q (eT.1 c)
def SW(hF:eG l)(g:l.length<=60)(d:jW l s) x:nw l (dK s) x=aG (fK l x s):=by
 unfold nw aG;refine SV ad (fun q o=> ?_) (fun q a b=> ?_);rw[ft,cM,SU,vG hF g d.1 q,vE _ _ _ ad];have key:((dK s).any fun z=>if z<0 then(trN l (l.length-1)).zq q else(trN l (l.length-1)).zr z.toNat q)=true↔(s.1=true/\(dt (trN l (l.length-1))).testBit q=true)∨∃p∈aG s.2,(dO l p).testBit q=true:=by
  unfold dK;rw[lr];cases j:s.1 with
  |true=>
   have h:=d.2 j;rw[h,qL];simp
  |false=>
   simp only[iW,iy,false_and,false_or,List.any_map,jx];refine exists_congr fun p=>and_congr_right fun m=> ?_;obtain⟨nd,a,b⟩:=d.1.2 p (iQ m).2;rw[uH hF a b q];have:¬((p:Int)<0):=ad;simp[this]
 rw[key];constructor;rintro⟨⟨n,a,b,f⟩,c⟩;exact⟨c,by rw[sI a,f]⟩;rintro⟨c,i⟩;obtain⟨n,a,b⟩:=vF hF g d.1 ((vE _ _ _ ad).2 c);exact⟨⟨n,a,b,by rw[<-sI a];exact i⟩,c⟩;cases e:(fK l x s).testBit q with
 |false=>rfl
 |true=>
  obtain⟨n,f,_⟩:=(yW g x s).2 q e;have:=(aF.1 f).1;omega
def SX(hF:eG l)(c:jW l s):tN l (dK s)=finM l s:=by
 unfold tN finM dK;cases n:s.1 with
 |true=>
  have f:=c.2 n;rw[f];simp[factN,ni]
 |false=>
  simp only[iW,iy,List.any_map,ud,ou];rw[ft,jx,zR,dF];constructor;rintro⟨p,r,a⟩ b;have e:=iQ r;have⟨nd,d,g⟩:=c.1.2 p e.2;have:¬((p:Int)<0):=ad;simp[this]at a;have h:=(vH l p _).2 ⟨(aF.1 d).1,⟨nd,d,g⟩,by rw[lu];exact a⟩;have:=gA (fun m=>Nat.testBit m p) b;simp[e.2,h]at this;intro b;apply dU;intro q;apply b;apply K6;intro j;rw[oh,KU];cases i:s.2.testBit j with
  |false=>rfl
  |true=>
   cases o:(fj l l).testBit j with
   |false=>rfl
   |true=>
    refine absurd ⟨j,(pw c.1.1).2 i,?_⟩ q;have a:=((vH l j _).1 o).2.2;rw[lu]at a;have:¬((j:Int)<0):=ad;simp[a]
def SY{keys}(c:∀k∈keys,jW l k)(h:jW l s):(keys.map dK).idxOf (dK s)=lM keys s:=by
 unfold lM;induction keys with
 |nil=>rfl
 |cons k keys ih=>
  have f:=ih fun a g=>c a (by simp[g]);simp only[dZ,List.idxOf_cons];rw[f];by_cases e:k=s;subst e;have b: @BEq.beq St instBEqOfDecidableEq k k=true:=iS rfl;rw[b];simp;have:dK k≠dK s:=fun d=>e (IG (c k aj) h d);have b: @BEq.beq St instBEqOfDecidableEq k s=false:=qD e;rw[dF.2 this,b]
def IH{keys:List St}(d:∀k∈keys,jW l k)(e:jW l s):dK s∈keys.map dK↔s∈keys:=by constructor;intro a;obtain⟨k,b,c⟩:=dL.1 a;exact IG (d k b) e c▸b;exact fun a=>dL.2 ⟨s,a,rfl⟩
def oY(L:List (List Int))(x:List Int):Nat×List (List Int):=if x∈L then(L.idxOf x,L)else(L,L++[x])
def SZ{keys row v}(b:∀k∈keys,jW l k)(c:jW l s)(a:mr 256 (keys,row) s=some v):
 ∃n,oY (keys.map dK) (dK s)=(n,v.1.map dK)/\v.2=row++[n]/\(∀k∈v.1,jW l k)/\v.1<=keys.length+1/\n<v.1:=by
 unfold mr at a;unfold oY;by_cases e:s∈keys;rw[au e]at a;cases a
 rw[au ((IH b c).2 e),SY b c];exact⟨_,rfl,rfl,b,sk _,SR e⟩;rw[ap e]at a;split at a;cases a
 cases a
 rw[ap fun m=>e ((IH b c).1 m)];refine⟨_,by simp;rfl,aj,fun k d=> ?_,aj,aj⟩;rcases dk.1 d with m|m
 exact b k m;simp at m;subst m;exact c
end
end
def rowOf(v i n:Nat):Array Value:=(List.replicate i (Value.int .i64 v)++List.replicate (n-i) (Value.int .i64 0)).toArray
def S3 v{i n}(a:i<n):(rowOf v i n).setIfInBounds i (.int .i64 v)=rowOf v (i+1) n:=by obtain⟨k,rfl⟩:∃k,n=i+(k+1):=⟨n-i-1,ad⟩;apply lW;unfold rowOf;rw[wU];simp only;rw[show i+(k+1)-i=k+1 from ad,show i+(k+1)-(i+1)=k from ad,um,List.set_append,qB,ap (tY _),qy,cR,List.replicate_succ'];simp
def Cp v{n b t}:∀m i (w:World),kq w b (rowOf v i n) t->i+m<=n->(w.setCells b i (List.replicate m (v:Int))).heap[b]?=some (.cells (rowOf v (i+m) n) t)
 |0,i,w,a,_=>a
 |m+1,i,w,a,c=>by rw[um,World.setCells,Cp v m _ _ (by rw[<-S3 v (show i<n by omega)];exact a8 _ _ _ _ a) ad,show i+1+m=i+(m+1)from ad]
def S5 v{i n j}(a:j<i):(rowOf v i n)[j]?=some (.int .i64 v):=by unfold rowOf;rw[iU,eC (by simpa using a),nD,au a]
def S7 v{i n j}(a:j<n)(b:i<=n):((rowOf v i n)[j]?).isSome=true:=by unfold rowOf;rw[iU,cV aO];rfl
def S8 v n:madeCells #[.int .i64 0] n=rowOf v 0 n:=by apply lW;rw[DH];simp[rowOf]
def S9 v n:rowOf v n n=((List.replicate n v).map nV):=by unfold rowOf;rw[qy,List.map_replicate];simp[nV]
def IM w b i n m n1 c1 a n2 c2 v(g:m=min n2 n1)(e:kq w b (rowOf v i n) 3)(l:i+m<=n)(f:∀j,j<m->w.cell? (a.add j)=some (.int .i64 v)):
 (Builtin.copy_ #[41,41] 3 #[.slice (some ⟨b,i,none⟩) n1 c1,.slice (some a) n2 c2]).run prog w=.ok (.int .i64 m) (w.setCells b i (List.replicate m (v:Int))):=by
 rw[run_copy_cells w 41 41 3 3 b i n1 c1 a n2 c2 (List.replicate m (.int .i64 v)) j9 az (qB▸g)
  (fun j x c=>by have d:=(aF.1 c).1;rw[qB]at d;rw[nD,au d]at c;rw[f j d,<-c])
  (fun j c=>by rw[qB]at c;rw[ak _ e];exact S7 v ad ad)
  (fun j c=>aJ e _) (fun x h=>by rw[DI h];rfl),qB]
 rfl
def Cq{n b w}(d:n<=b):∀c i wr,Below n w wr->Below n w (wr.setCells b i c)
 |[],_,_,a=>a
 |x::c,i,wr,a=>by rw[World.setCells];exact Cq d c _ _ (a.setCell d _)
def Cr(v n:Nat)(w:World)(nv:Value)(wr:World):Prop:=∃i,nv=.int .i64 (i:Nat)/\1<=i/\i<=n/\kq wr w (rowOf v i n) 3/\aR w wr
def Ta g c v n w(C:w.cell? g=some (.int .i64 v))(S:1<=c)(T:c<=1048576)(J:g<w.heap.size)(N:1<=n)(Y:n<=1048576):
 de 49 #[.slice (some ⟨g,0,none⟩) 1 c,.int .i64 (n:Nat)] w (.slice w n n) fun w'=>kq w' w ((List.replicate n v).map nV) 3/\aR w w':=by
 have q:=fun a=>bits_Mul 1 n aq ad a;rw[show 1*n/18446744073709551616=0 from ad,show 1*n % 18446744073709551616=n from ad]at q;have u:=ah q;clear q;have⟨Q,p,D,E,F⟩:=cZ IL;have M:∀a,(Instr.makeSlice 41 (.int .i64 (n:Nat)) (.int .i64 (n:Nat))).run prog a=.ok (.slice (some ⟨a.heap.size,0,none⟩) n n) (a.alloc (.cells (rowOf v 0 n) 3)):=fun a=>by have:=sj (P:=prog) a 41 3 Q (.int .i64 0) j9 p D .i64 .i64 (n:Nat) (n:Nat) ad ad (by rw[F];omega) ad;rw[E,wj,nH]at this;rw[this,<-S8];rfl
 have⟨w1,B,l,o⟩:=dy w (.cells (rowOf v 0 n) 3);have G:=(l.cell J).Z C;have e:=IM w1 w.heap.size 0 n 1 n n ⟨g,0,none⟩ 1 c v ad o ad (fun j K=>by rw[show j=0 from ad];exact G);have⟨R,f⟩:=am (w1.setCells w 0 (List.replicate 1 (.int .i64 v)));rw[<-f]at e;have t:Hid (Cr v n w (.int .i64 1) R):=ah ⟨1,rfl,ay _,N,by rw[f];exact Cp v 1 0 w1 o ad,by rw[f];exact Cq (ay _) _ _ _ l⟩;have Z:=aL n;have aa:¬((n:Int)<0):=ad;have ab:¬((9223372036854775807:Int)<n):=ad;have ae:(n:Int)<=1048576:=ad;clear p D E F l o f C G
 go_in
 go_wp2_with fail
 refine ar (u.o _) ?_;intro r A;rw[A];clear A r u;go_wp2_with(first|(rw[<-B];clear B)|fail)
 go_loopw [8] (Cr v n w) (fun nv _=>n-(intOf nv).toNat)
 case atStart=>exact t.o
 case round=>
 clear t e M;obtain⟨i,rfl,p,x,b,d⟩:=hrel;by_cases z:i<n
 ·have O:=bk z
  have af:∀a,(Instr.slice 41 (.slice (some ⟨w.heap.size,0,none⟩) n n) (some (.int .i64 (i:Nat))) none none).run prog a=.ok (.slice (some ⟨w.heap.size,i,none⟩) (n-i) (n-i)) a:=fun a=>by have I:=aL i;simp[go_sem,x,show¬n=i from ad]
  have ag:∀a,(Instr.slice 41 (.slice (some ⟨w.heap.size,0,none⟩) n n) none (some (.int .i64 (i:Nat))) none).run prog a=.ok (.slice (some ⟨w.heap.size,0,none⟩) i n) a:=fun a=>by have I:=aL i;simp[go_sem,x]
  have⟨m,y⟩:=am (min i (n-i));have e:=IM wr.drew w.heap.size i n m (n-i) (n-i) ⟨w.heap.size,0,none⟩ i n v y b ad (fun j K=>by rw[show(_:Addr).add j=⟨w,j,none⟩from by simp[Addr.add];omega];apply(ak _ b).Z;exact S5 v ad)
  have⟨r,h⟩:=am (wr.drew.setCells w i (List.replicate m (.int .i64 v)));rw[<-h]at e;have H:Hid (Cr v n w (.int .i64 ((i:Int)+(m:Int))) r):=ah ⟨i+m,aD,ad,ad,by rw[h];exact Cp v m i _ b ad,by rw[h];exact Cq (ay _) _ _ _ d.drew⟩;have X:(m:Int)<=n:=ad;have V:=aL i;have W:=aL m;clear h d b;go_wp2_with fail
  go_region
  go_wp2_with fail
  rw[<-y];exact⟨H.o,by simp[intOf];omega⟩
 ·obtain rfl:i=n:=ad
  have O:¬((i:Int)<i):=ad;have s:Hid (kq wr w ((List.replicate i v).map nV) 3/\aR w wr):=ah ⟨by rw[<-S9];exact b,d⟩;clear b d z
  go_wp2
  go_ret;exact⟨rfl,by simpa using s.o.1,s.o.2⟩
def jY(ts:List aB)(nd:List Nat)(k:Nat):List Nat:=match ts[k]? with
 |none=>nd
 |some t=>if min (1+gH ts nd t) 4097<nd.getD k 0 then nd.set k (min (1+gH ts nd t) 4097)else nd
def gY(ts:List aB)(nd:List Nat)(k:Nat):List Nat:=(List.range k).foldl (jY ts) nd
def roundW(ts:List aB)(nd:List Nat):List Nat:=gY ts nd ts
def vJ ts nd k:gY ts nd (k+1)=jY ts (gY ts nd k) k:=by simp[gY,tW]
def Tf ts nd k:(jY ts nd k)=nd.length:=by unfold jY;split;rfl;split;simp;rfl
def IS{nd:List Nat}{k a}(c:a<nd.getD k 0):(nd.set k a).sum<nd.sum:=by
 induction nd generalizing k with
 |nil=>simp at c
 |cons b nd ih=>
  cases k with
  |zero=>simp at c⊢;omega
  |succ k=>
   have:=ih (k:=k) (by simpa using c);simp only[ct,fm];omega
def IT ts nd k:jY ts nd k=nd∨(jY ts nd k).sum<nd.sum:=by unfold jY;split;simp;split;rename_i a;exact .inr (IS a);simp
def za ts nd k:gY ts nd k=nd∨(gY ts nd k).sum<nd.sum:=by
 induction k with
 |zero=>exact .inl rfl
 |succ k ih=>
  rw[vJ];rcases IT ts (gY ts nd k) k with a|a
  rw[a];exact ih;rcases ih with e|e
  rw[e]at a⊢;exact .inr a;omega
def IU ts{nd}(b:∀a∈nd,a<=4097) k:∀a∈jY ts nd k,a<=4097:=by
 unfold jY;split;exact b;split;intro a d;rcases DK d with c|c
 exact b a c;omega;exact b
structure iD(w:World)(n H:Nat)(nd:List Nat)(wr:World):Prop where
 base:Below w.heap.size w wr
 low:w.heap.size<=H
 row:wr.heap[H]?=some (.cells (nd.map nV).toArray 3)
 len:nd.length=n
 le:∀a∈nd,a<=4097
section
variable{w wr wz:World} {n H k:Nat} {nd:List Nat}
def iD.O(a:iD w n H nd wr)(b:Below wr.heap.size wr wz):iD w n H nd wz:=⟨aE a.base b,a.low,(b.J _ (aI a.row)).Z a.row,a.len,a.le⟩
def iD.at(a:iD w n H nd wr)(b:k<n):wr.cell? ⟨H,k,none⟩=some (.int .i64 (nd.getD k 0:Nat)):=by have c:=a.len;rw[ak _ a.row,iU,bR,cB,cV ad];rfl
def iD.free(a:iD w n H nd wr)(k:Nat):wr.frozen? ⟨H,k,none⟩=false:=aJ a.row k
def iD.put(c:iD w n H nd wr)(k:Nat){a:Nat}(f:a<=4097):iD w n H (nd.set k a) (wr.setCell ⟨H,k,none⟩ (.int .i64 (a:Nat))):=by
 refine⟨c.base.setCell c.low _,c.low,(a8 _ _ _ _ c.row).Z ?_,l6.zy▸c.len,fun b e=> ?_⟩;congr 2
 apply lW;simp[nV];rcases DK e with d|d
 exact c.le b d;omega
def iD.nums(a:iD w n H nd wr)(c:n<=1048576):gX wr (some ⟨H,0,none⟩) n nd:=by refine⟨aj,Dw a.len,bO,fun _=>⟨_,_,rfl,aI a.row,fun j u b=> ?_⟩⟩;rw[cH,ak _ a.row,iU];exact b
end
def IV(ts:List aB)(w:World)(e:Ending)(w':World):Prop:=
 ∃i H nd,nd=cY (roundW ts) i (List.replicate ts 4097)/\roundW ts nd=nd/\e=.returned (.slice (some ⟨H,0,none⟩) ts ts)/\iD w ts H nd w'
def IW(ts:List aB)(w:World)(H n g:Nat)(wr:World):Prop:=∃i nd,nd=cY (roundW ts) i (List.replicate ts 4097)/\nd.sum=g/\iD w n H nd wr
def Cu(ts:List aB)(w:World)(H n:Nat)(nd:List Nat)(b a:Value)(wr:World):Prop:=∃k,a=.int .i64 (k:Nat)/\k<=n/\b=.bool (decide (gY ts nd k≠nd))/\iD w n H (gY ts nd k) wr
def Tg l o cap W0(v:cw W0 o cap l)(C:ep l)(M:bY (l.map ai.t)=0) A K M1 M2 M3(E:∀x∈l,x.t.text=false->bK x.t.E=0/\x.t.E.length<=60)(d:1<=l.length) w(f:eQ W0 A w K M1 M2 M3 o cap l):
 dB 25 #[K] w (IV (l.map ai.t) w):=by
 have h:=C.len;have⟨n,c⟩:=am l.length;have y:(l.map ai.t)=n:=by rw[bn,c]
 rw[<-c]at d h;have m:n<=1048576:=ad;have⟨w1,j,p,h⟩:=dy w (.cells #[.int .i64 4097] 3);have z:=Ta _ 1 4097 n w1 (ak 0 h) (ay _) ad (aI h) d m;have⟨t,r⟩:=aC z p;have d:=ak 0 f.blk;rw[<-c]at d;have B:=(p.cell (aI f.blk)).Z d;have⟨u,m,s⟩:=bm f c y;clear f c y z p h
 go_in
 go_wp2_with(first|(rw[<-j];clear j)|fail)
 go_step3
 go_wp2_with(first|(rw[<-j];clear j)|fail)
 refine ar t.o ?_;rintro y ⟨j,f⟩;have c:Hid (iD w n w1.heap.size (List.replicate n 4097) y):=ah ⟨aE r.o f,r.o.size,j,qB,fun a p=>by have:=DI p;omega⟩;clear t d B j f;go_wp2_with fail
 go_step3
 go_wp2_with fail
 generalize w1.heap.size=H at c⊢;obtain⟨ts,f⟩:=am (l.map ai.t);rw[<-f]at s⊢;have D:=ah f;clear f;go_loopg [] (n*4097) (fun g wr=>IW ts w H n g wr)
 case atStart=>exact⟨0,_,by rw[s.o];rfl,aj,c.o⟩
 case round=>
 clear c;obtain⟨i,hv,p,j,c⟩:=hrel;obtain⟨R,Y⟩:=aC p j;have f:=u.o.zw (bL c.base none) (fun q e=>by cases e);have d:=ak 0 f.blk;rw[<-m.o]at d;have⟨r,t⟩:=aC c c.len;clear p j c f;go_wp2_with fail
 obtain⟨j,rfl⟩:=am wr;go_loopw [4,22] (fun J j wr=>Cu ts w H n hv J j wr) (fun _ j _=>n-(intOf j).toNat)
 case atStart=>exact⟨0,rfl,aH _,by simp[gY],r.o⟩
 case round=>
 clear r d;obtain⟨k,rfl,d,rfl,c⟩:=hrel;have T:(k:Int)<n∨¬((k:Int)<n):=ad;by_cases j:k<n
 ·have d:=aL k
  have d:=bk j;clear T;have⟨x,t⟩:=df l k (m.o▸j);have f:=u.o.zw (bL c.base none) (fun q e=>by cases e);have⟨b,u,d,p,y,z,B,F,G,I⟩:=(v.O f.base).at t;subst d;have⟨J,G⟩:=am (decide (gY ts hv k≠hv));rw[<-G];have Z:=ah G;have⟨d,B⟩:∃q,q=gY ts hv k:=⟨_,rfl⟩;rw[<-B]at c;have W:d=l.length:=by rw[c.len];exact m.o
  have⟨wz,I,F,u⟩:=dy wr (.cells (typeRow x) 55);have y:=c.O F;have u0:=y.at j;have m:=tP c.le k;have⟨V,z⟩:∃q,q=d.getD k 0:=⟨_,rfl⟩;rw[<-z]at u0 m;have⟨m,p,O,P⟩:=dC u;have Q:=ak 4 u;have S:=ak 5 u;simp[typeRow]at m p O P Q S;have p:jY ts d k=if min (1+gH ts d x.t) 4097<d.getD k 0 then d.set k (min (1+gH ts d x.t) 4097)else d:=by unfold jY;rw[D.o,bR,t];rfl
  have O:gH ts d x.t<=4097:=by unfold gH;split;omega;exact tP (Ih ts c.le _) _
  have m:=S0 l _ cap W0 v C M A K M1 M2 M3 x (aK t) d (E x (aK t)) c.le (some ⟨H,0,none⟩) n W wz (f.zw (bL F none) (fun q e=>by cases e)) (y.nums ad);rw[<-D.o,c.len]at m;unfold dV at m;have⟨E,S⟩:∃q,q=gH ts d x.t:=⟨_,rfl⟩;rw[<-S]at m O p;rw[<-z]at p;have⟨Q,C,O,M,X⟩:=iz m p B z y;have P:Hid (gY ts hv (k+1)=jY ts d k):=ah (by rw[vJ,<-B]);have aa:min (1+(E:Int)) 4097=min (1+E) 4097:=ad;have⟨N,v⟩:=am (min (1+E) 4097);rw[<-v]at aa p;have E:N<=4097:=ad;have ab:=ah v;rw[<-v]at C;clear m p B z y c f t W F u G S v;unfold typeRow at I;go_wp2_with(first|(rw[<-I];clear I)|fail)
  refine ar Q.o ?_;intro y m;clear Q u0;have f:=X.o.O m;have p:=f.at j;rw[<-M.o]at p;have p:=f.free k;have t:=ah f;clear f m;by_cases m:N<V
  ·have B:=bk m
   have p:Hid (Cu ts w H n hv (.bool true) (.int .i64 ((k:Int)+1)) (y.setCell ⟨H,k,none⟩ (.int .i64 (N:Nat)))):=ah (by
    have h:gY ts hv (k+1)=d.set k N:=by rw[P.o,C.o,au m]
    refine⟨k+1,aD,j,?_,h▸t.o.put k E⟩;congr 1
    rw[h];have u:=za ts hv k;rw[<-O.o]at u;have v:=IS (by rw[<-M.o];exact m);have z:d.set k N≠hv:=fun e=>by
     rw[e]at v;rcases u with f|f
     rw[f]at v;omega;omega
    exact(iS z).zy)
   clear m
   go_wp2
   go_roundw
   case rel=>exact p.o
   case measure=>exact aM
  ·have B:¬((N:Int)<V):=ad
   have u:decide ((N:Int)<V)=false:=aO;have p:Hid (Cu ts w H n hv (.bool J) (.int .i64 ((k:Int)+1)) y):=ah (by
    have h:gY ts hv (k+1)=d:=by rw[P.o,C.o,ap m]
    exact⟨_,aD,j,by rw[h,O.o,Z.o],h▸t.o⟩)
   clear m
   go_wp2
   go_roundw
   case rel=>exact p.o
   case measure=>exact aM
 ·obtain rfl:n=k:=ad
  clear T;have⟨f,d⟩:∃q,q=gY ts hv n:=⟨_,rfl⟩;rw[<-d]at c⊢;have m:Hid (roundW ts hv=f):=ah (by unfold roundW;rw[s.o];exact d.zy);have r:=ah c;have h:=za ts hv n;rw[<-d]at h;have t:=ah h;clear d c h;by_cases c:f=hv;have d:decide (f≠hv)=false:=by simp[c]
  rw[d];have h:Hid (IV ts w (.returned (.slice (some ⟨H,0,none⟩) n n)) wr):=ah ⟨i,H,hv,R.o,by rw[m.o,c],by rw[s.o],by rw[s.o];have:=r.o;rwa[c]at this⟩;clear d c;go_wp2_with fail
  rw[sf];go_ret;rw[<-D.o];exact h.o
  ·have d:decide (f≠hv)=true:=by simp[c]
   rw[d];have h:Hid (f.sum<hv.sum):=ah (by rcases t.o with j|j;exact absurd j c;exact j);have p:Hid (IW ts w H n f.sum wr):=ah ⟨i+1,f,by rw[cY,<-R.o,m.o],rfl,r.o⟩;clear d c
   go_wp2
   go_roundg(f.sum)
   case rel=>exact p.o
   case measure=>have:=h.o;have:=Y.o;omega
section
open PRegex Wey
def nxA(l:List ax)(rows:List (List Nat))(s:Nat)(a:Bytes):Nat:=(rows.getD s []).getD ((unionB (symsS l)).idxOf a) 0
def finA(l:List ax)(keys:List St)(s:Nat):Prop:=finM l (keys.getD s (true,0))=true
section
variable{l:List ax} {keys:List St} {rows:List (List Nat)}
def Th{L:List Bytes}{a}(b:a∈L):L[L.idxOf a]?=a:=by have:=DD b;rw[cV this,List.getElem_idxOf]
def zb(e:ev l keys rows){s}(h:s<keys.length){a}(g:a∈unionB (symsS l)):∃row,rows[s]?=some row/\row[(unionB (symsS l)).idxOf a]?=(nxA l rows s a)/\nxA l rows s a<keys:=by
 obtain⟨row,b,i,f⟩:=e.row h;have j:=DD g;have c:row[(unionB (symsS l)).idxOf a]?=(row[(unionB (symsS l)).idxOf a]'ad):=cV _;have d:nxA l rows s a=row[(unionB (symsS l)).idxOf a]'ad:=by unfold nxA;simp only[cB,b,gM];rw[c];rfl
 exact⟨row,b,by rw[c,d],d▸f _ (wv _)⟩
def IX(c:ev l keys rows):∀n W,W.length=n->(∀a∈W,a∈unionB (symsS l))->rQ l keys (st (nxA l rows) W) W:=by
 intro n;induction n with
 |zero=>
  intro W b _;obtain rfl:W=[]:=by cases W;rfl;simp at b
  exact c.start
 |succ n ih=>
  intro W b f;obtain⟨U,a,rfl⟩:∃U a,W=U++[a]:=⟨W.dropLast,W.getLast (by intro e;subst e;simp at b),(Kd _).zy⟩;have d:=ih U (by simpa using b) fun x j=>f x (by simp[j]);have g:=f a aj;have⟨row,h,i,_⟩:=zb c d.lt g;rw[st_snoc];exact c.step d (Th g) h i
def tR(b:ev l keys rows)(d:bK l=0)(f:l.length<=60){W}(e:∀a∈W,a∈unionB (symsS l)):finA l keys (st (nxA l rows) W)↔MatchS l W:=by have c:=IX b _ W rfl e;unfold finA;rw[cB,c,gM];exact SP (qU (oX d)) f W
def Cv(b:ev l keys rows) s a(e:s<keys.length)(d:a∈unionB (symsS l)):nxA l rows s a<keys:=by obtain⟨_,_,_,c⟩:=zb b e d;exact c
end
def qs(ts:List aB)(N:List Nat)(t:aB)(out:Option (Nat×List Bytes)):Prop:=
 ∃keys rows,ev t.E keys rows/\TableOf bM (unionB (symsS t.E)) (fun a=>N.getD (kidOf ts a) 0) (nxA t.E rows) (finA t.E keys) keys out
def k6:Option (Nat×List Bytes)->Nat
 |none=>0
 |some (m,_)=>min 4097 (m+1)
def vK(ts:List aB)(N:List Nat)(t:aB)(n:Nat):Prop:=(t.text=true->n=1)/\(t.text=false->∃out,qs ts N t out/\n=k6 out)
def Cw(ts:List aB)(N N':List Nat):Prop:=∃i t n,ts[i]?=some t/\vK ts N t n/\0<n/\(N.getD i 0=0∨n<N.getD i 0)/\N'=N.set i n
inductive jZ(ts:List aB):List Nat->Prop
 |start:jZ ts (List.replicate ts.length 0)
 |step {N N':List Nat}:jZ ts N->Cw ts N N'->jZ ts N'
def oa(ts:List aB)(N:List Nat):Prop:=∀i t,ts[i]?=some t->∃n,vK ts N t n/\¬(0<n/\(N.getD i 0=0∨n<N.getD i 0))
def bigL(N:List Nat):List Nat:=N.map fun x=>if x=0 then 4097 else x
def oZ{N k}(a:k<N.length):(bigL N).getD k 0=if N.getD k 0=0 then 4097 else N.getD k 0:=by unfold bigL;simp only[cB,bR,cV a,qJ,gM]
structure iR(ts:List aB):Prop where
 right:∀t∈ts,t.text=false->bK t.E=0/\t.E.length<=60
 zs:∀t∈ts,∀a∈unionB (symsS t.E),kidOf ts a<ts.length
section
variable{ts:List aB} {N N':List Nat} {t:aB} {out:Option (Nat×List Bytes)}
def IZ(f:iR ts)(h:t∈ts)(p:t.text=false)(o:N=ts.length)(i:qs ts N t out):LeastIs (fun a=>(bigL N).getD (kidOf ts a) 0) (MatchS t.E) (outV out):=by obtain⟨keys,rows,d,l⟩:=i;obtain⟨e,g⟩:=f.right t h p;have j:=d.start.lt;refine(l.least dw j (Cv d)).congr (fun W=> ?_) (fun W m a n=> ?_);constructor;rintro⟨b,c⟩;exact(tR d e g b).1 c;intro c;have b:=tL e c;exact⟨b,(tR d e g b).2 c⟩;rw[oZ (o▸f.zs t h a (m.1 a n))];rfl
def I0(m:iR ts)(o:t∈ts)(p:t.text=false)(j:qs ts N t out):k6 out≠0↔∃W,MatchS t.E W/\∀a∈W,0<N.getD (kidOf ts a) 0:=by
 obtain⟨keys,rows,d,n⟩:=j;obtain⟨g,i⟩:=m.right t o p;have l:=d.start.lt;have e:k6 out≠0↔out≠none:=by
  cases out with
  |none=>simp[k6]
  |some x=>simp[k6]
 rw[e,n.there dw l (Cv d)];constructor;rintro⟨P,c,f⟩;exact⟨P,(tR d g i fun a b=>(c a b).1).1 f,fun a b=>(c a b).2⟩;rintro⟨W,c,f⟩;have h:=tL g c;exact⟨W,fun a b=>⟨h a b,f a b⟩,(tR d g i h).2 c⟩
structure Cx(ts:List aB)(N:List Nat):Prop where
 len:N.length=ts.length
 le:∀x∈N,x<=4097
 low:∀i t,ts[i]?=some t->1<=(bigL N).getD i 0/\(t.text=false->∀v,LeastIs (fun a=>(bigL N).getD (kidOf ts a) 0) (MatchS t.E) v->min (1+v) 4097<=(bigL N).getD i 0)
def Ti:k6 out<=4097:=by
 cases out with
 |none=>simp[k6]
 |some x=>simp[k6];omega
def I5(a:k6 out≠0):k6 out=min (1+outV out) 4097:=by
 cases out with
 |none=>simp[k6]at a
 |some x=>simp[k6,outV];omega
def Cw.low(l:iR ts)(d:Cx ts N)(C:Cw ts N N'):Cx ts N':=by
 obtain⟨i,t,n,h,hv,I,H,rfl⟩:=C;have F:=(aF.1 h).1;have z:=aK h;have B:n<=4097:=by
  cases c:t.text with
  |true=>have:=hv.1 c;omega
  |false=>obtain⟨out,_,e⟩:=hv.2 c;rw[e];exact Ti
 have p:∀k,k<N.length->(bigL (N.set i n)).getD k 0=if k=i then n else(bigL N).getD k 0:=fun k b=>by
  rw[oZ (l6.zy▸b),oZ b];by_cases e:k=i;subst e;have:(N.set k n).getD k 0=n:=by rw[cB,su b,gM]
  rw[this,ap ad,au rfl];have:(N.set i n).getD k 0=N.getD k 0:=by rw[cB,cB,un (mQ e)]
  rw[this,ap e]
 have o:∀k,(bigL (N.set i n)).getD k 0<=(bigL N).getD k 0:=fun k=>by
  by_cases b:k<N;rw[p k b];by_cases e:k=i;subst e;rw[au rfl,oZ b];split;exact B;omega;rw[ap e];simp;have D:(bigL (N.set i n)).getD k 0=0:=by rw[cB,jL (by unfold bigL;rw[bn,l6];omega)];rfl
  omega
 refine⟨l6.zy▸d.len,fun x j=> ?_,fun k u b=> ?_⟩;rcases DK j with e|e
 exact d.le x e;omega;have G:=(aF.1 b).1;have y:k<N:=aQ d.len;have⟨q,r⟩:=d.low k u b;rw[p k y];by_cases e:k=i;subst e;obtain rfl:u=t:=by rw[h]at b;injection b with b;exact b.zy
 rw[au rfl];refine⟨ad,fun c v g=> ?_⟩;obtain⟨out,w,rfl⟩:=hv.2 c;have f:=IZ l z c d.len w;have s:=g.zz f fun a=>o _;rw[I5 ad];omega;rw[ap e];refine⟨q,fun c v g=> ?_⟩;have A:=aK b;have f:=yU (ts:=ts) (nd:=bigL N) c (l.right u A c).1 (fun a m=>by unfold bigL at m;obtain⟨x,j,rfl⟩:=dL.1 m;have:=d.le x j;split<;>omega)
 have s:=r c _ f;have E:=g.zz f fun a=>o _;omega
def jZ.low(c:iR ts)(b:jZ ts N):Cx ts N:=by
 induction b with
 |start=>
  refine⟨aj,fun x g=>by rw[List.mem_replicate]at g;omega,fun i t d=> ?_⟩;have a:=(aF.1 d).1;have e:(bigL (List.replicate ts.length 0)).getD i 0=4097:=by rw[oZ (by simpa using a)];simp[a]
  rw[e];exact⟨ad,fun _ v _=>Nat.min_le_right _ _⟩
 |step _ f ih=>exact f.low c ih
def Cy(h:iR ts)(l:jZ ts N)(p:oa ts N):Fix (fun i=>i<ts.length) (kidOf ts) (fun i=>MatchS ((ts[i]?.map aB.E).getD [])) (fun i=>(ts[i]?.map aB.text).getD true) (fun i=>(bigL N).getD i 0):=by
 have b:=l.low h;intro i q;obtain⟨t,d⟩:=aT q;have s:=aK d;have⟨n,hv,v⟩:=p i t d;have f:=oZ (N:=N) (k:=i) (aQ b.len);have r:(bigL N).getD i 0<=4097:=by rw[f];split;omega;rw[cB,cV (aQ b.len)];exact b.le _ (wv _)
 have⟨j,u⟩:=b.low i t d;simp only[d,qJ,gM];refine⟨r,fun c=> ?_,fun c=> ?_⟩;have e:=hv.1 c;subst e;rw[f]at j⊢;split at j;rename_i a;omega;rename_i a;rw[ap a];omega;obtain⟨out,o,rfl⟩:=hv.2 c;have g:=IZ h s c b.len o;refine⟨_,g,?_⟩;have m:=u c _ g;refine Nat.le_antisymm ?_ m;by_cases a:k6 out=0;have:outV out=4097:=by
  cases out with
  |none=>rfl
  |some x=>simp[k6]at a
 omega;rw[<-I5 a,f];split;rename_i w;omega;omega
end
end
end Go.Proofs.YtfeidcmojcijpaaGreatDoor
