import Derived.Test.YtbacloblanpghaaGreatDoorQbs
set_option linter.unusedVariables false
set_option linter.unusedSimpArgs false
set_option maxRecDepth 100000
set_option maxHeartbeats 0
namespace Go.Proofs.YtbacloblanpghaaGreatDoor
open Go.RowKit Tryz
def l4(ts:List ax)(hv:List Bool)(k:Nat):List Bool:=match ts[k]? with
 |none=>hv
 |some t=>if hv.getD k false=true then hv else if(om ts hv t).1=true then hv.set k true else hv
def ie(ts:List ax)(hv:List Bool)(k:Nat):List Bool:=(List.range k).foldl (l4 ts) hv
def li(ts:List ax)(hv:List Bool):List Bool:=ie ts hv ts.length
def gF{a:Type}(f:a->a):Nat->a->a
 |0,x=>x
 |n+1,x=>f (gF f n x)
theorem yQ(ts:List ax)(hv:List Bool)(k:Nat):ie ts hv (k+1)=l4 ts (ie ts hv k) k:=by simp[ie,sI]
theorem OX(ts:List ax)(hv:List Bool)(k:Nat):(l4 ts hv k).length=hv.length:=by
 unfold l4;split
 ·rfl
 ·split
  ·rfl
  ·split
   ·rw[s8]
   ·rfl
theorem OY(ts:List ax)(hv:List Bool)(k:Nat):(ie ts hv k).length=hv.length:=by
 induction k with
 |zero=>rfl
 |succ k ih=>rw[yQ,OX,ih]
theorem OZ{hv:List Bool}{k:Nat}(b:hv[k]?=some false):(hv.set k true).count false+1=hv.count false:=by
 induction hv generalizing k with
 |nil=>simp at b
 |cons a hv ih=>
  cases k with
  |zero=>simp at b;subst b;simp
  |succ k=>
   have:=ih (k:=k) (by simpa using b);simp only[bj,List.count_cons];omega
theorem Eo(ts:List ax)(hv:List Bool)(k:Nat)(d:hv.length=ts.length):l4 ts hv k=hv∨(l4 ts hv k).count false+1=hv.count false:=by
 unfold l4;split
 ·exact .inl rfl
 ·rename_i t b
  have c:=(aP.1 b).1;split
  ·exact .inl rfl
  ·rename_i a
   split
   ·refine .inr (OZ ?_)
    rw[aF ad];congr 1
    rw[fJ,aF ad]at a;simpa using a
   ·exact .inl rfl
theorem Ep(ts:List ax)(hv:List Bool)(c:hv.length=ts.length)(k:Nat):ie ts hv k=hv∨(ie ts hv k).count false<hv.count false:=by
 induction k with
 |zero=>exact .inl rfl
 |succ k ih=>
  rw[yQ];rcases Eo ts (ie ts hv k) k (by rw[OY,c])with a|a
  ·rw[a];exact ih
  ·rcases ih with b|b
   ·rw[b]at a⊢;omega
   ·omega
structure iE(w:World)(n H:Nat)(hv:List Bool)(wr:World):Prop where
 base:Below w.heap.size w wr
 low:w.heap.size<=H
 row:wr.heap[H]?=some (.cells (hv.map Value.bool).toArray 4)
 len:hv.length=n
section
variable{w wr wz:World} {n H k:Nat} {hv:List Bool}
theorem iE.below(a:iE w n H hv wr)(b:Below wr.heap.size wr wz):iE w n H hv wz:=⟨aD a.base b,a.low,(b.block _ (aL a.row)).trans a.row,a.len⟩
theorem iE.at(a:iE w n H hv wr)(b:k<n):wr.cell? ⟨H,k,none⟩=some (.bool (hv.getD k false)):=by have c:=a.len;rw[ai _ a.row,ig,cb,fJ,aF ad];rfl
theorem iE.free(a:iE w n H hv wr)(k:Nat):wr.frozen? ⟨H,k,none⟩=false:=aQ a.row k
theorem iE.put(a:iE w n H hv wr)(k:Nat):iE w n H (hv.set k true) (wr.setCell ⟨H,k,none⟩ (.bool true)):=by
 refine⟨a.base.setCell a.low _,a.low,(bL _ _ _ _ a.row).trans ?_,by rw[s8];exact a.len⟩;congr 2
 apply l9;simp[zc]
theorem iE.bools(a:iE w n H hv wr)(c:n<=1048576):Ej wr (some ⟨H,0,none⟩) n hv:=by refine⟨ak,qS a.len,bN,fun _=>⟨_,_,rfl,aL a.row,fun j u b=> ?_⟩⟩;rw[cE,ai _ a.row,ig];exact b
end
def Er(ts:List ax)(w:World)(a:Ending)(w':World):Prop:=
 ∃i H hv,hv=gF (li ts) i (List.replicate ts.length false)/\li ts hv=hv/\a=.returned (.slice (some ⟨H,0,none⟩) ts.length ts.length)/\iE w ts.length H hv w'
def Es(ts:List ax)(w:World)(H n g:Nat)(wr:World):Prop:=∃i hv,hv=gF (li ts) i (List.replicate ts.length false)/\hv.count false=g/\iE w n H hv wr
def vj(ts:List ax)(w:World)(H n:Nat)(hv:List Bool)(b a:Value)(wr:World):Prop:=∃k:Nat,a=.int .i64 (k:Nat)/\k<=n/\b=.bool (decide (ie ts hv k≠hv))/\iE w n H (ie ts hv k) wr
theorem O0:(prog.info? 4).map (fun i=>(i.zero,i.size,i.bytes))=some (some (.bool false),1,1):=ay
theorem O1(l:List am)(o:Option Addr)(cap:Nat)(aa:World)(bd:cn aa o cap l)(be:ej l)(b4:bW (l.map am.t)=0)(a1:Nat->Prop)(Z ba bb bc:Nat)(b3:∀x∈l,x.t.text=false->cw x.t.nodes=0/\x.t.nodes.length<=60/\∀hv,yO (l.map am.t) hv x.t.nodes)(w:World)(af:eq aa a1 w Z ba bb bc o cap l):
 Calls prog 40 #[.pointer (some ⟨Z,0,none⟩)] w (Er (l.map am.t) w):=by
 have bo:=be.len;obtain⟨n,O⟩:=aj (l.length);have bq:(l.map am.t).length=n:=by rw[cd,O]
 obtain⟨cc,bi,bA,bB,bE⟩:=cL O0;obtain⟨M,ag⟩:=aj (madeCells #[.bool false] n);have b6:∀wz,(Instr.makeSlice 47 (.int .i64 (n:Int)) (.int .i64 (n:Int))).run prog wz=.ok (.slice (some ⟨wz.heap.size,0,none⟩) n n) (wz.alloc (.cells M 4)):=fun wz=>by have:=sX (P:=prog) wz 47 4 cc (.bool false) underlying47 bi bA .i64 .i64 n n ad ad (by rw[bE];omega) ad;simp only[iL,bB,yY]at this;rw[this,ag];rfl
 obtain⟨w1,v⟩:=aj (w.alloc (.cells M 4));have bu:iE w n w.heap.size (List.replicate n false) w1:=by
  refine⟨by rw[v];exact az,aB _,?_,ak⟩;rw[v,aC];congr 2
  rw[ag];apply l9;rw[toList_madeCells_one];simp
 have F:=ai 0 af.blk;rw[<-O]at F;obtain⟨a2,V,y,e⟩:=cI af bu O bq;clear af bu ag bi bA bB bE O bq;go_enter func40,ntmps40
 go_wp2_with(first|(rw[<-v];clear v)|fail)
 go_step3
 go_wp2_with(first|(rw[<-v];clear v)|fail)
 go_step3
 go_wp2_with fail
 clear b6 F;generalize w.heap.size=H at V⊢;have c4:n<=1048576:=by rw[y.o];exact bo
 obtain⟨ts,aq⟩:=aj (l.map am.t);rw[<-aq]at e⊢;have Y:=ah aq;clear aq;go_loopg [] n (fun g wr=>Es ts w H n g wr)
 case atStart=>exact⟨0,_,by rw[e.o];rfl,ak,V.o⟩
 case round=>
 clear V;obtain⟨i,hv,bz,bg,d⟩:=hrel;obtain⟨a9,bZ⟩:=aE bz bg;have t:=a2.o.kept (bP d.base none) (fun q f=>by cases f);have F:=ai 0 t.blk;rw[<-y.o]at F;obtain⟨z,a4⟩:=aE d d.len;clear bz bg d t;go_wp2_with fail
 obtain⟨c6,b9⟩:=aj (wr);subst b9;go_loopw [4,22] (fun R a0 wr=>vj ts w H n hv R a0 wr) (fun _ a0 _=>n-(intOf a0).toNat)
 case atStart=>exact⟨0,rfl,aK _,by simp[ie],z.o⟩
 case round=>
 clear z F;obtain⟨k,rfl,c1,rfl,d⟩:=hrel;have bl:(k:Int)<n∨¬((k:Int)<n):=ad;by_cases r:k<n
 ·have c2:(0:Int)<=k:=ad
  have c3:(k:Int)<n:=ad;clear bl;obtain⟨x,E⟩:∃x,l[k]?=some x:=⟨_,aF (by rw[<-y.o];exact r)⟩;have t:=a2.o.kept (bP d.base none) (fun q f=>by cases f);obtain⟨b,c5,b2,c0,c7,c8,c9,dr,ds,du⟩:=(bd.below t.base).at E;subst b2;obtain⟨R,av⟩:=aj (decide (ie ts hv k≠hv));rw[<-av];have a7:=ah av;obtain⟨a,N⟩:∃q,q=ie ts hv k:=⟨_,rfl⟩;rw[<-N]at d;have bm:a.length=l.length:=by rw[d.len];exact y.o
  obtain⟨wz,s⟩:=aj (wr.alloc (.cells (typeRow x).toArray 68));have ae:Below wr.heap.size wr wz:=by rw[s];exact az
  have m:wz.heap[wr.heap.size]?=some (.cells (typeRow x).toArray 68):=by rw[s];exact aC wr _
  have K:=d.below ae;have u0:=K.at r;obtain⟨b5,ao⟩:∃q,q=a.getD k false:=⟨_,rfl⟩;rw[<-ao]at u0;have cp:=ai 0 m;have cq:=ai 1 m;have cs:=ai 2 m;have cu:=ai 3 m;have cx:=ai 4 m;have cG:=ai 5 m;simp[typeRow]at cp cq cs cu cx cG;have bw:l4 ts a k=if a.getD k false=true then a else if(om ts a x.t).1=true then a.set k true else a:=by unfold l4;rw[Y.o,cb,E];rfl
  have Q:=OQ l _ cap aa bd be b4 a1 Z ba bb bc x (aU E) a (fun b8=>by obtain⟨ce,ch,ci⟩:=b3 x (aU E) b8;exact⟨ce,ch,ci _⟩) (some ⟨H,0,none⟩) n bm wz (t.kept (bP ae none) (fun q f=>by cases f)) (K.bools (by rw[y.o];exact bo))
  rw[<-Y.o,d.len]at Q;unfold dj at Q;obtain⟨a6,A,W,X,a3⟩:=ku Q bw N ao K;have I:Hid (ie ts hv (k+1)=l4 ts a k):=ah (by rw[yQ,<-N]);clear Q bw N ao K d t E bm ae m av;unfold typeRow at s;cases b5 with
  |true=>
   have j:Hid (vj ts w H n hv (.bool R) (.int .i64 ((k:Int)+1)) wz):=ah ⟨k+1,aG,r,by rw[I.o,A.o,au X.o.symm,W.o,a7.o],by rw[I.o,A.o,au X.o.symm];exact a3.o⟩;go_wp2_with(first|(rw[<-s];clear s)|fail)
   go_roundw
   case rel=>exact j.o
   case measure=>exact aH
  |false=>
   go_wp2_with(first|(rw[<-s];clear s)|fail)
   refine a6.o.mono ?_;rintro f bF ⟨rfl,ab⟩;clear a6;obtain⟨b1,J⟩:∃q,q=(om ts a x.t).1:=⟨_,rfl⟩;obtain⟨cN,al⟩:∃q,q=(om ts a x.t).2:=⟨_,rfl⟩;rw[<-J,<-al];have C:=a3.o.below ab;have cl:=C.at r;have co:=C.free k;obtain⟨G,T⟩:=aE C J;have u:¬(a.getD k false=true):=by rw[<-X.o];simp
   cases b1 with
   |true=>
    have j:Hid (vj ts w H n hv (.bool true) (.int .i64 ((k:Int)+1)) (bF.setCell ⟨H,k,none⟩ (.bool true))):=ah (by
     have B:ie ts hv (k+1)=a.set k true:=by rw[I.o,A.o,ap u,au T.o.symm]
     refine⟨k+1,aG,r,?_,by rw[B];exact G.o.put k⟩;congr 1
     rw[B];have bf:=Ep ts hv (by rw[a4.o,e.o]) k;have bt:=Eo ts a k (by rw[G.o.len,e.o]);rw[A.o,ap u,au T.o.symm]at bt;have b7:a.set k true≠hv:=fun f=>by
      rcases bt with h|h
      ·have c:(a.set k true).getD k false=true:=by
        rw[fJ,List.getElem?_set_self (by rw[G.o.len];exact r)];rfl
       rw[h]at c;exact u c
      ·rw[f]at h
       rw[<-W.o]at bf;rcases bf with c|c
       ·rw[c]at h;omega
       ·omega
     exact(ox b7).symm)
    clear J al C ab u
    go_wp2
    go_roundw
    case rel=>exact j.o
    case measure=>exact aH
   |false=>
    have j:Hid (vj ts w H n hv (.bool R) (.int .i64 ((k:Int)+1)) bF):=ah (by
     have B:ie ts hv (k+1)=a:=by rw[I.o,A.o,ap u,ap (by rw[<-T.o];simp)]
     exact⟨k+1,aG,r,by rw[B,W.o,a7.o],by rw[B];exact G.o⟩)
    clear J al C ab u cl co
    go_wp2
    go_roundw
    case rel=>exact j.o
    case measure=>exact aH
 ·obtain rfl:k=n:=ad
  clear bl;obtain⟨c,L⟩:∃q,q=ie ts hv k:=⟨_,rfl⟩;rw[<-L]at d⊢;have a5:Hid (li ts hv=c):=ah (by unfold li;rw[e.o];exact L.symm);have z:=ah d;have an:=Ep ts hv (by rw[a4.o,e.o]) k;rw[<-L]at an;have b0:=ah an;clear L d an;by_cases p:c=hv
  ·have D:decide (c≠hv)=false:=by simp[p]
   rw[D];have S:Hid (Er ts w (.returned (.slice (some ⟨H,0,none⟩) k k)) wr):=ah ⟨i,H,hv,a9.o,by rw[a5.o,p],by rw[e.o],by rw[e.o];have:=z.o;rwa[p]at this⟩;clear D p;go_wp2_with fail
   rw[l8];go_ret;rw[<-Y.o];exact S.o
  ·have D:decide (c≠hv)=true:=by simp[p]
   rw[D];have S:Hid (c.count false<hv.count false):=ah (by rcases b0.o with h|h;exact absurd h p;exact h);have j:Hid (Es ts w H k (c.count false) wr):=ah ⟨i+1,c,by rw[gF,<-a9.o,a5.o],rfl,z.o⟩;clear D p
   go_wp2
   go_roundg(c.count false)
   case rel=>exact j.o
   case measure=>have:=S.o;have:=bZ.o;omega
end Go.Proofs.YtbacloblanpghaaGreatDoor
