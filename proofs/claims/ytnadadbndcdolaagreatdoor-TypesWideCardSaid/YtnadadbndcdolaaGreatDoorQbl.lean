import Derived.Test.YtnadadbndcdolaaGreatDoorQbk
set_option linter.unusedVariables false
set_option linter.unusedSimpArgs false
set_option maxRecDepth 100000
set_option maxHeartbeats 0
namespace Go.Proofs.YtnadadbndcdolaaGreatDoor
open Go.RowKit Tryz
structure ij(W0:World)(l:List aj)(ws:List Bytes)(no:Option Addr)(nc SB:Nat)(so:Option Addr)(sc k q:Nat)(w:World):Prop where
 base:Below W0.heap.size W0 w
 size:SB+4<=w.heap.size
 lo:W0.heap.size+2<=SB
 rb:w.heap[W0.heap.size]?=some (.cells #[.slice no l.length nc] 51)
 res:w.heap[W0.heap.size+1]?=some (.cells #[.slice none 0 0,.slice none 0 0,.slice none 0 0] 174)
 sb:w.heap[SB]?=some (.cells #[.slice so ws.length sc] 48)
 ob:w.heap[SB+2]?=some (.cells #[.slice (some ⟨SB+1,0,none⟩) ws.length ws.length] 319)
 words:cn w W0.heap.size (.slice so ws.length sc) ws
 wlt:∀g,(Value.slice so ws.length sc).ownBlock=some g->g<SB
 of_:∀i x,ws[i]?=some x->w.rangeAt (SB+1) (i*16) (setRow (ofN l x k))/\w.there (SB+1) (i*16) 16
 last:w.rangeAt (SB+3) 0 (setRow q)/\w.there (SB+3) 0 16
theorem F9{w w':World}{b o n:Nat}(d:w.there b o n)(c:w'.heap[b]?=w.heap[b]?):w'.there b o n:=fun j g=>by obtain⟨e,f⟩:=d j g;exact⟨by rw[dD (a:=⟨b,o+j,none⟩) c];exact e,by rw[mW (a:=⟨b,o+j,none⟩) c];exact f⟩
section
variable{W0 w wq:World} {l:List aj} {ws:List Bytes} {no so:Option Addr} {nc SB sc k q:Nat}
theorem ij.below(a:ij W0 l ws no nc SB so sc k q w)(b:Below w.heap.size w wq):ij W0 l ws no nc SB so sc k q wq:=by
 have e:=a.size;exact⟨a.base.trans (b.mono a.base.size),aJ e b.size,a.lo,(b.block _ (ax a.rb)).trans a.rb,(b.block _ (ax a.res)).trans a.res,(b.block _ (ax a.sb)).trans a.sb,(b.block _ (ax a.ob)).trans a.ob,aP a.words (fun g d=>b.block g (aF a.words d).2),a.wlt,
  fun i x c=>⟨gN (a.of_ i x c).1 b,gD (a.of_ i x c).2 b⟩,⟨gN a.last.1 b,gD a.last.2 b⟩⟩
theorem ij.skip(a:ij W0 l ws no nc SB so sc k q w){n:aj}(d:l[k]?=some n)(e:n.op≠2):ij W0 l ws no nc SB so sc (k+1) q w:=
 ⟨a.base,a.size,a.lo,a.rb,a.res,a.sb,a.ob,a.words,a.wlt,fun i x f=>by
   have b:ofN l x (k+1)=ofN l x k:=by simp only[ofN,d];exact au (fun c=>e c.1)
   rw[b];exact a.of_ i x f,a.last⟩
theorem ij.setOf(a:ij W0 l ws no nc SB so sc k q w)(o:qX ws){i:Nat}{n:aj}(m:l[k]?=some n)(u:n.op=2)(h:ws[i]?=some n.sym)(b:dU w wq (SB+1) (i*16) (setRow (ofN l n.sym k|||dq [k]))):
 ij W0 l ws no nc SB so sc (k+1) q wq:=by
 have v:=a.size;have s:=a.lo;refine⟨b.below a.base ad,by rw[b.size];exact v,s,(b.block _ ad).trans a.rb,(b.block _ ad).trans a.res,(b.block _ ad).trans a.sb,(b.block _ ad).trans a.ob,
  aP a.words (fun g p=>b.block g (by have:=a.wlt g p;omega)),a.wlt,fun j x d=> ?_,oM a.last.1 (b.block _ ad),F9 a.last.2 (b.block _ ad)⟩
 refine⟨?_,b.there (a.of_ j x d).2⟩;by_cases r:j=i
 ·subst r
  rw[h]at d;injection d with d
  subst d;have f:ofN l n.sym (k+1)=ofN l n.sym k|||dq [k]:=by simp only[ofN,m];exact ay ⟨u,trivial⟩
  rw[f];exact b.here
 ·have t:n.sym≠x:=by
   rcases jg j i with e|e
   ·exact(wV o e d h).2.symm
   ·exact(wV o (show i<j by omega) h d).2
  have f:ofN l x (k+1)=ofN l x k:=by simp only[ofN,m];exact au (fun c=>t c.2)
  rw[f];refine b.range (a.of_ j x d).1 (.inr ?_);rw[jP,jP];rcases jg j i with e|e
  ·left;omega
  ·right;omega
theorem ij.setLast(a:ij W0 l ws no nc SB so sc k q w){d:Nat}(b:dU w wq (SB+3) 0 (setRow d)):ij W0 l ws no nc SB so sc k d wq:=by
 have h:=a.size;have f:=a.lo;exact⟨b.below a.base ad,by rw[b.size];exact h,f,(b.block _ ad).trans a.rb,(b.block _ ad).trans a.res,(b.block _ ad).trans a.sb,(b.block _ ad).trans a.ob,
  aP a.words (fun g e=>b.block g (by have:=a.wlt g e;omega)),a.wlt,fun j x c=>⟨oM (a.of_ j x c).1 (b.block _ ad),F9 (a.of_ j x c).2 (b.block _ ad)⟩,b.here,b.there a.last.2⟩
end
theorem xj{P:Program}{f:Array Oper}{o:Oper}{a:Act}{w:World}{d:Act->World->Prop}{Q:Exit->Act->World->Prop}{E:Prop}(i:o.guard=none)(ty:TypeId)(x y:Operand)(l:o.op=.store ty x y)
 (b c:Nat) (cs:List Value) (n:a.eval x=.pointer (some ⟨b,c,none⟩)) (p:a.eval y=.agg cs.toArray)
 (e:w.there b c cs.length) (j:(P.info? ty).map (·.size)=some cs.length) (h:∀v∈cs,v.oneCell'=true)
 (g:∀w',dU w w' b c cs->d (a.put o.dst undef) w'):if Region.wanted o (yielded f a.tmps)=true then Oper.wp P o a w d Q else E:=by
 have m:Region.wanted o (yielded f a.tmps)=true:=by simp[Region.wanted,i]
 rw[ay m];exact wp_store_mid ty x y l b c cs.toArray n p (by simpa using e) (by simpa using j) (all_oneCell_toArray h) (g _ (by simpa using vX e))
theorem Ga(w:World)(k:Nat):kh (w.alloc (.cells #[.int .i64 (k:Nat)] 3)) (some ⟨w.heap.size,0,none⟩) 1 [k]:=by
 refine⟨rfl,az _,by unfold maxLen;simp,fun _=>⟨_,_,rfl,ak,fun j u a=> ?_⟩⟩;obtain rfl:j=0:=by have:=(aL.1 a).1;simp[fi]at this;omega
 rw[ai _ (aB w _)];exact a
def Gb(l:List aj)(ws:List Bytes)(w:World)(c:Ending)(w':World):Prop:=
 Below w.heap.size w w'/\
 ((∃n keys a f nv d b,eL (true,0) 256 (cB l ws) n=some (keys,a)/\keys.length=n/\c=.returned (.tuple #[.agg #[f,nv,d],.int .i64 0])/\cn w' w.heap.size f ws/\w'.ownsRow w.heap.size 125 1 nv b.length b/\b.length=a.length/\
    (∀(j:Nat) (v:Value) (e:List Nat),b[j]?=some v->a[j]?=some e->cW w' w.heap.size v e)/\w'.ownsRow w.heap.size 4 1 d keys.length (keys.map fun s=>.bool (kX l s)))∨
  (∃n keys a k,eL (true,0) 256 (cB l ws) n=some (keys,a)/\keys[n]?=some k/\eK 256 keys (cB l ws k)=none/\c=.returned (.tuple #[.agg #[.slice none 0 0,.slice none 0 0,.slice none 0 0],.int .i64 17])))
theorem Qd:(prog.info? 320).map (fun i=>(i.zero,i.size,i.bytes))=some (some (.agg (setRow 0).toArray),16,128):=aA
theorem Gc(l:List Bytes):(dd l).length<=l.length:=by rw[<-uS];exact AY l
theorem rp(l:List aj):(aI l).length<=l.length:=by
 unfold aI;split
 ·refine aJ (Gc _) ?_
  rw[rG];exact uU l
 ·simp
theorem tM(ws:List Bytes):(bm ws).length<=ws.length:=by unfold bm;refine aJ (Gc _) ?_;rw[rG];exact az _
theorem Qe{w a:World}{l:List aj}{ws:List Bytes}{no so:Option Addr}{nc sc:Nat}{f:Array Value}(O:Below w.heap.size w a)(Q:w.heap.size+2<=a.heap.size)
 (G:a.heap[w.heap.size]?=some (.cells #[.slice no l.length nc] 51)) (H:a.heap[w.heap.size+1]?=some (.cells #[.slice none 0 0,.slice none 0 0,.slice none 0 0] 174))
 (s:cn a w.heap.size (.slice so ws.length sc) ws) (N:f=madeCells (setRow 0).toArray (ws.length*16)):
 ij w l ws no nc a.heap.size so sc 0 0 ((((a.alloc (.cells #[.slice so ws.length sc] 48)).alloc (.cells f 320)).alloc (.cells #[.slice (some ⟨a.heap.size+1,0,none⟩) ws.length ws.length] 319)).alloc (.cells #[.int .u64 0,.int .u64 0,.int .u64 0,.int .u64 0,.int .u64 0,.int .u64 0,.int .u64 0,.int .u64 0,.int .u64 0,.int .u64 0,.int .u64 0,.int .u64 0,.int .u64 0,.int .u64 0,.int .u64 0,.int .u64 0] 320)):=by
 obtain⟨d,m⟩:=ar (a.alloc (.cells #[.slice so ws.length sc] 48));obtain⟨e,p⟩:=ar (d.alloc (.cells f 320));obtain⟨wc,q⟩:=ar (e.alloc (.cells #[.slice (some ⟨a.heap.size+1,0,none⟩) ws.length ws.length] 319));obtain⟨c,r⟩:=ar (wc.alloc (.cells #[.int .u64 0,.int .u64 0,.int .u64 0,.int .u64 0,.int .u64 0,.int .u64 0,.int .u64 0,.int .u64 0,.int .u64 0,.int .u64 0,.int .u64 0,.int .u64 0,.int .u64 0,.int .u64 0,.int .u64 0,.int .u64 0] 320));rw[<-m,<-p,<-q,<-r];have D:d.heap.size=a.heap.size+1:=by rw[m];simp
 have E:e.heap.size=a.heap.size+2:=by rw[p,bj,D]
 have F:wc.heap.size=a.heap.size+3:=by rw[q,bj,E]
 have S:c.heap.size=a.heap.size+4:=by rw[r,bj,F]
 have I:Below a.heap.size a d:=by rw[m];exact aG
 have J:Below d.heap.size d e:=by rw[p];exact aG
 have K:Below e.heap.size e wc:=by rw[q];exact aG
 have z:Below wc.heap.size wc c:=by rw[r];exact aG
 have y:=aO K z;have u:=aO J y;have h:=aO I u;have L:c.heap[a.heap.size]?=some (.cells #[.slice so ws.length sc] 48):=(u.block _ ad).trans (by rw[m];exact aB a _);have A:c.heap[a.heap.size+1]?=some (.cells f 320):=(y.block _ ad).trans (by have:=aB d (.cells f 320);rw[D]at this;rw[p];exact this);have M:c.heap[a.heap.size+2]?=some (.cells #[.slice (some ⟨a.heap.size+1,0,none⟩) ws.length ws.length] 319):=(z.block _ ad).trans (by have:=aB e (.cells #[.slice (some ⟨a.heap.size+1,0,none⟩) ws.length ws.length] 319);rw[E]at this;rw[q];exact this);have B:c.heap[a.heap.size+3]?=some (.cells (setRow 0).toArray 320):=by have:=aB wc (.cells #[.int .u64 0,.int .u64 0,.int .u64 0,.int .u64 0,.int .u64 0,.int .u64 0,.int .u64 0,.int .u64 0,.int .u64 0,.int .u64 0,.int .u64 0,.int .u64 0,.int .u64 0,.int .u64 0,.int .u64 0,.int .u64 0] 320);rw[F]at this;rw[r];exact this
 refine⟨aO O h,ad,Q,(h.block _ (ax G)).trans G,(h.block _ (ax H)).trans H,L,M,aP s (fun g t=>h.block g (aF s t).2),fun g t=>(aF s t).2,fun i x R=> ?_,?_,?_⟩
 ·have P:=(aL.1 R).1
  have C:∀j,j<16->c.cell? ⟨a.heap.size+1,i*16+j,none⟩=(setRow 0)[j]?:=fun j b=>by rw[ai _ A,N];have:=sU (setRow 0) (n:=ws.length) (i:=i) (j:=j) P (by rw[jP];exact b);rw[jP]at this;exact this
  refine⟨fun j v o=> ?_,fun j b=>⟨?_,aT A _⟩⟩
  ·have b:=(aL.1 o).1
   rw[jP]at b;exact(C j b).trans o
  ·rw[C j b,aH (by rw[jP];exact b)]
   rfl
 ·intro j v o
  rw[cD,ai _ B];rw[gU];exact o
 ·exact jt B (by rw[jP];exact az _)
def Qf(w:World)(l:List aj)(ws:List Bytes)(no:Option Addr)(nc SB:Nat)(so:Option Addr)(sc:Nat)(a:Value)(wr:World):Prop:=∃k:Nat,a=.int .i64 (k:Nat)/\k<=l.length/\ij w l ws no nc SB so sc k (eM l k) wr
theorem Qg{w wr:World}{l:List aj}{ws:List Bytes}{no so:Option Addr}{nc SB sc q:Nat}(m:ij w l ws no nc SB so sc l.length q wr)(n:Gl w)(o:cO w no nc l):
 eX l ws no nc w.heap.size (wr.heap.size+1) SB (SB+2) (SB+1) wr.heap.size so sc ((wr.alloc (.map #[] 0)).alloc (.cells #[.map (some wr.heap.size)] 323)) ((wr.alloc (.map #[] 0)).alloc (.cells #[.map (some wr.heap.size)] 323))/\
 ij w l ws no nc SB so sc l.length q ((wr.alloc (.map #[] 0)).alloc (.cells #[.map (some wr.heap.size)] 323)):=by
 obtain⟨a,c⟩:=ar (wr.alloc (.map #[] 0));obtain⟨f,e⟩:=ar (a.alloc (.cells #[.map (some wr.heap.size)] 323));rw[<-c,<-e];have t:a.heap.size=wr.heap.size+1:=by rw[c];simp
 have h:Below wr.heap.size wr a:=by rw[c];exact aG
 have d:Below a.heap.size a f:=by rw[e];exact aG
 have j:f.heap[wr.heap.size]?=some (.map #[] 0):=(d.block _ ad).trans (by rw[c];exact aB wr _);have i:f.heap[wr.heap.size+1]?=some (.cells #[.map (some wr.heap.size)] 323):=by rw[<-t,e];exact aB a _
 have p:bp a prog 3 wr.heap.size 0 (fun _=>none):=by rw[c];exact bp.made wr _ _
 have b:=m.below (aO h d);have g:=b.base;refine⟨⟨⟨n.below g,o.below g,b.rb,i,b.sb,b.ob,fun k x s=>(b.of_ k x s).1,⟨_,_,j⟩⟩,⟨rfl,rfl,rfl,az _,fun _ _ _=>rfl⟩,⟨0,_,p.of_block (d.block _ ad),aZ _,fun q v r=>by cases r⟩⟩,b⟩
theorem Qh(l:List aj)(no:Option Addr)(nc:Nat)(w:World)(gu:Gl w)(dr:bG l=0)(bt:l.length<=60)(ec:cO w no nc l):
 Calls prog 187 #[.agg #[.slice no l.length nc],.slice none 0 0] w (Gb l (bm (aI l)) w):=by
 have ez:=qN dr;obtain⟨bE,a2⟩:=ar ((w.alloc (.cells #[.slice no l.length nc] 51)).alloc (.cells #[.slice none 0 0,.slice none 0 0,.slice none 0 0] 174));have c5:Below w.heap.size w bE:=by rw[a2];exact aG.alloc ak _
 have a4:bE.heap[w.heap.size]?=some (.cells #[.slice no l.length nc] 51):=by rw[a2];exact(bk _ _ _ ak).trans (aB w _)
 have cu:bE.heap[w.heap.size+1]?=some (.cells #[.slice none 0 0,.slice none 0 0,.slice none 0 0] 174):=by rw[a2];have:=aB (w.alloc (.cells #[.slice no l.length nc] 51)) (.cells #[.slice none 0 0,.slice none 0 0,.slice none 0 0] 174);rwa[bj]at this
 have hr:bE.heap.size=w.heap.size+2:=by rw[a2];simp
 have b7:=ai 0 a4;have en:=qu l no nc bE (ec.below c5) ez;rw[dr]at en;obtain⟨fo,hv,c1,c3,hV,b2,hA,hP,bN⟩:=qM en c5 a4 cu hr ec gu ez dr;clear en c5 a4 cu hr ec gu ez;go_enter func187,ntmps187
 go_wp2_with(first
  |(rw[<-a2];clear a2)
  |fail)
 refine fo.o.mono ?_;rintro f e0 ⟨rfl,X⟩;have a5:=(X.block _ (ax c1.out)).trans c1.out;have d0:=ai 0 a5;have aq:=aO hv.out X;obtain⟨cv,c2,c4⟩:=bH aq a5 ((X.block _ (ax c3.out)).trans c3.out);have hW:Hid (w.heap.size+2<=e0.heap.size):=ah (by have:=X.size;have:=hV.out;omega);clear X a5 b7 fo c1 c3 aq
 go_wp2
 go_loopw [29] (fun eU wr=>eU=.int .i64 0/\wr=e0) (fun _ _=>0)
 case atStart=>exact⟨rfl,rfl⟩
 case round=>
 obtain⟨rfl,hj⟩:=hrel;rw[hj];clear hj wr;have hf:=uV l no nc e0 (b2.o.below cv.out) hP.o;have fs:=ah hf;clear hf;go_wp2_with fail
 refine fs.o.mono ?_;rintro f i0 ⟨⟨v,rfl,O⟩,gb⟩;obtain⟨iv,ip,rfl⟩:=bL O;have hh:=Nw (aI l) iv ip i0 (mh O).2 (aJ (rp l) ad);obtain⟨fv,an⟩:=aD hh gb;clear hh gb O fs;go_wp2_with fail
 refine fv.o.mono ?_;rintro f cq ⟨⟨v,rfl,O⟩,bc⟩;clear fv;obtain⟨ws,ch⟩:=ar (bm (aI l));have ao:ws.length<=60:=by rw[ch];exact aJ (tM _) (aJ (rp l) bt)
 rw[<-ch]at O⊢;obtain⟨so,sc,rfl⟩:=bL O;have e1:=ah (aO (aO cv.out an.out) bc);have fy:Hid (w.heap.size+2<=cq.heap.size):=ah (by have:=bc.size;have:=an.out.size;have:=hW.out;omega);obtain⟨fd,b5,fz,fG⟩:=cr (dR O (aJ cv.out.size an.out.size)) ch (((aO an.out bc).block _ (ax c2.out)).trans c2.out) (((aO an.out bc).block _ (ax c4.out)).trans c4.out);clear bc O ch c2 c4 an d0;obtain⟨bw,es,cl⟩:∃i,prog.info? 320=some i/\i.zero=some (.agg (setRow 0).toArray)/\i.size=16/\i.bytes=128:=by obtain⟨i,a0,bu⟩:=mV.1 Qd;simp only[rE]at bu;exact⟨i,a0,bu.1,bu.2.1,bu.2.2⟩
 obtain⟨fx,ea⟩:=ar (madeCells (setRow 0).toArray (ws.length*16));have ia:∀al,(Instr.makeSlice 319 (.int .i64 (ws.length:Int)) (.int .i64 (ws.length:Int))).run prog al=.ok (.slice (some ⟨al.heap.size,0,none⟩) ws.length ws.length) (al.alloc (.cells fx 320)):=fun al=>by have:=uG (P:=prog) al 319 320 bw (.agg (setRow 0).toArray) underlying319 es cl.1 .i64 .i64 ws.length ws.length ad ad (by rw[cl.2.2];omega) ad;simp only[ph,cl.2.1]at this;rw[this,ea];rfl
 have e5:=ah ea;clear ea es cl;have z:=ah (Qe e1.out fy.out fz.out fG.out fd.o e5.o);obtain⟨i4,eg⟩:=ar (((((cq.alloc (.cells #[.slice so ws.length sc] 48)).alloc (.cells fx 320)).alloc (.cells #[.slice (some ⟨cq.heap.size+1,0,none⟩) ws.length ws.length] 319)).alloc (.cells #[.int .u64 0,.int .u64 0,.int .u64 0,.int .u64 0,.int .u64 0,.int .u64 0,.int .u64 0,.int .u64 0,.int .u64 0,.int .u64 0,.int .u64 0,.int .u64 0,.int .u64 0,.int .u64 0,.int .u64 0,.int .u64 0] 320)));rw[<-eg]at z;have c6:=ai 0 z.o.rb;go_wp2_with(first
  |(rw[<-eg];clear eg)
  |fail)
 generalize cq.heap.size=SB at z⊢;clear e5 ia fz fG fd fy e1 c6;go_loopw [48] (Qf w l ws no nc SB so sc) (fun eU _=>l.length-(intOf eU).toNat)
 case atStart=>exact⟨0,rfl,aZ _,z.o⟩
 case round=>
 clear z;obtain⟨k,rfl,F,d⟩:=hrel;have g9:(k:Int)<l.length∨¬((k:Int)<l.length):=ad;by_cases bq:k<l.length
 ·have je:(0:Int)<=k:=ad
  have h6:(k:Int)<l.length:=ad;clear g9;obtain⟨n,m⟩:∃n,l[k]?=some n:=⟨_,aH bq⟩;have hc:=aX m;obtain⟨b,eV,rfl,g4,ht,a4,a5,hu⟩:=(b2.o.below d.base).at m;obtain⟨eZ,sym,a,X⟩:=n;simp only at ht a4 a5 hu;obtain⟨al,ci,gg,c9⟩:=cm wr (.cells #[.int .i64 eZ,.string ⟨sym.toArray⟩,.int .i64 a,.int .i64 X] 102);have i1:=ai 0 c9;have cu:=ai 1 c9;have b1:=ah (d.below gg);have io:=ai 0 b1.o.sb;obtain⟨hK,bb⟩:=aD hc m;have b7:=ai 0 d.rb;clear hc m d gg c9;by_cases A:eZ=2
  ·subst A
   have he:sym∈ws:=by rw[b5.o];exact wT.2 ((wU bN.o).2 ⟨_,hK.o,rfl,rfl⟩)
   obtain⟨i,a0⟩:=xZ he;have h5:=(aL.1 a0).1;have jd:(0:Int)<=i:=ad;have es:(i:Int)<ws.length:=ad;have ew:qX ws:=by rw[b5.o];exact Aa _
   obtain⟨fl,hN,c0⟩:=bH (Fy ws so sc i sym al (mh b1.o.words).2 ew a0 ad) ew a0;clear he a0 ew h5;go_wp2_with(first
    |(rw[<-ci];clear ci)
    |fail)
   refine fl.o.mono ?_;rintro f p ⟨rfl,bd⟩;clear fl ht a4 a5 hu i1 cu io b7;have a6:=ah (b1.o.below bd);clear bd;go_wp2_with fail
   obtain⟨V,b8⟩:=ar (ofN l sym k);have Y:∀w',Below p.heap.size p w'->w'.cell? ⟨SB+2,0,none⟩=some (.slice (some ⟨SB+1,0,none⟩) ws.length ws.length)/\w'.rangeAt (SB+1) (i*16) (setRow V):=fun w' u=>⟨ai 0 ((u.block _ (ax a6.o.ob)).trans a6.o.ob),by rw[b8];exact gN (a6.o.of_ i _ c0.o).1 u⟩;have e7:Hid (V<18446744073709551616):=ah (by rw[b8];exact lN l sym k ad);obtain⟨e6,E⟩:=aD b8 Y;have r:=Y _ (aE _ p).drew;clear Y b8;refine oQ (S:=(fun w'=>w'.cell? ⟨SB+2,0,none⟩=some (.slice (some ⟨SB+1,0,none⟩) ws.length ws.length)/\w'.rangeAt (SB+1) (i*16) (setRow V))) (last:=11) aA ?_;refine br (i:=0) rfl r ?_;simp only[Act.put,aM,aN,aK];refine br (i:=1) rfl r ?_;simp only[Act.put,aM,aN,aK];refine br (i:=2) rfl r ?_;simp only[Act.put,aM,aN,aK];refine br (i:=3) rfl r ?_;simp only[Act.put,aM,aN,aK];refine br (i:=4) rfl r ?_;simp only[Act.put,aM,aN,aK];refine xi (i:=5) (v:=.agg (setRow V).toArray) rfl (pl (by rfl) _ _ rfl (SB+1) (i*16) rfl (setRow V) _ (fun _ q=>q.2) eY rfl cX) r ?_;simp only[Act.put,aM,aN,aK];refine br (i:=6) rfl r ?_;simp only[Act.put,aM,aN,aK];refine gn (i:=7) aA rfl (fun T d=> ?_);go_simp;have Z:Below p.heap.size p (p.drew.alloc (.cells #[.int .i64 (k:Nat)] 3)):=(aE _ p).drew.alloc (az _) _;have bo:=E.o _ Z;obtain⟨cN,ba⟩:=aD Z (td [k] (some ⟨p.drew.heap.size,0,none⟩) 1 _ (Ga p.drew k) ak (fun x m=>by simp at m;omega));clear Z;refine d.out _ _ (fun _=>bo) (fun _=> ?_);try simp only[Act.put,aM,aN,aK]
   refine gn (i:=8) aA rfl (fun T d=> ?_);go_simp;refine ba.o.mono ?_;rintro f bF ⟨rfl,be⟩;have el:=aO cN.o be;have g1:=E.o _ el;obtain⟨hy,a8⟩:=aD el (wJ V (dq [k]) bF e7.o (tA (fun x m=>by simp at m;omega)));clear be el ba;refine d.out _ _ (fun _=>g1) (fun _=> ?_);try simp only[Act.put,aM,aN,aK]
   refine gn (i:=9) aA rfl (fun T d=> ?_);go_simp;refine a8.o.mono ?_;rintro f af ⟨rfl,bf⟩;have av:=aO hy.out bf;have ed:=E.o _ av;have cG:=ah (a6.o.below av);clear bf av a8;refine d.out _ _ (fun _=>ed) (fun _=> ?_);try simp only[Act.put,aM,aN,aK]
   refine br (i:=10) rfl ed ?_;simp only[Act.put,aM,aN,aK];refine gn (i:=11) aA rfl (fun T d=> ?_);refine xj (by rfl) 320 _ _ rfl (SB+1) (i*16) (setRow (V|||dq [k])) (by rfl) (by rfl) (by rw[jP];exact(cG.o.of_ i _ c0.o).2) (by rw[jP];exact cX) (fa _) (fun ag a3=> ?_);refine d.out _ _ (fun q=>absurd rfl q) (fun _=> ?_);try simp only[Act.put,aM,aN,aK]
   refine oP aA ?_ _;have b0:Hid (ij w l ws (some ⟨b,eV,none⟩) nc SB so sc (k+1) (eM l k) ag):=ah (cG.o.setOf hN.o bb.o rfl c0.o (by rw[<-e6.o];exact a3));clear r bo g1 ed a3 E cG a6 e7 e6;have b4:=ah (Nj l (some ⟨b,eV,none⟩) nc k ag bq bN.o bt (b2.o.below b0.o.base));have hX:=ai 0 b0.o.rb;go_wp2_with fail
   refine b4.o.mono ?_;rintro f H ⟨rfl,fN⟩;clear b4 hX;have bZ:=ah (b0.o.below fN);clear fN b0;rcases g3:(dJ (aQ l (l.length-1))).testBit k with _|_
   ·go_wp2_with fail
    go_roundw
    case rel=>exact⟨k+1,aV,ad,by rw[show eM l (k+1)=eM l k by simp only[eM,bb.o];exact au (fun c=>by rw[g3]at c;cases c.2)];exact bZ.o⟩
    case measure=>exact bh
   ·go_wp2_with fail
    obtain⟨W,b9⟩:=ar (eM l k);have Y:∀w',Below H.heap.size H w'->w'.rangeAt (SB+3) 0 (setRow W):=fun w' u=>by rw[b9];exact gN bZ.o.last.1 u
    have e9:Hid (W<18446744073709551616):=ah (by rw[b9];exact tD l k ad);obtain⟨e8,E⟩:=aD b9 Y;have r:=Y _ (aE _ H).drew;clear Y b9;refine oQ (S:=(fun w'=>w'.rangeAt (SB+3) 0 (setRow W))) (last:=5) aA ?_;refine xi (i:=0) (v:=.agg (setRow W).toArray) rfl (pl (by rfl) _ _ rfl (SB+3) (0) rfl (setRow W) _ (fun _ q=>q) eY rfl cX) r ?_;simp only[Act.put,aM,aN,aK];refine br (i:=1) rfl r ?_;simp only[Act.put,aM,aN,aK];refine gn (i:=2) aA rfl (fun T d=> ?_);go_simp;have Z:Below H.heap.size H (H.drew.alloc (.cells #[.int .i64 (k:Nat)] 3)):=(aE _ H).drew.alloc (az _) _;have bo:=E.o _ Z;obtain⟨cN,ba⟩:=aD Z (td [k] (some ⟨H.drew.heap.size,0,none⟩) 1 _ (Ga H.drew k) ak (fun x m=>by simp at m;omega));clear Z;refine d.out _ _ (fun _=>bo) (fun _=> ?_);try simp only[Act.put,aM,aN,aK]
    refine gn (i:=3) aA rfl (fun T d=> ?_);go_simp;refine ba.o.mono ?_;rintro f iw ⟨rfl,fT⟩;have ek:=aO cN.o fT;have gG:=E.o _ ek;obtain⟨hw,a8⟩:=aD ek (wJ W (dq [k]) iw e9.o (tA (fun x m=>by simp at m;omega)));clear fT ek ba;refine d.out _ _ (fun _=>gG) (fun _=> ?_);try simp only[Act.put,aM,aN,aK]
    refine gn (i:=4) aA rfl (fun T d=> ?_);go_simp;refine a8.o.mono ?_;rintro f jp ⟨rfl,ga⟩;have aq:=aO hw.out ga;have g0:=E.o _ aq;have cF:=ah (bZ.o.below aq);clear ga aq a8;refine d.out _ _ (fun _=>g0) (fun _=> ?_);try simp only[Act.put,aM,aN,aK]
    refine gn (i:=5) aA rfl (fun T d=> ?_);refine xj (by rfl) 320 _ _ rfl (SB+3) 0 (setRow (W|||dq [k])) (by rfl) (by rfl) (by rw[jP];exact cF.o.last.2) (by rw[jP];exact cX) (fa _) (fun iT hk=> ?_);refine d.out _ _ (fun q=>absurd rfl q) (fun _=> ?_);try simp only[Act.put,aM,aN,aK]
    refine oP aA ?_ _;have hB:Hid (ij w l ws (some ⟨b,eV,none⟩) nc SB so sc (k+1) (eM l (k+1)) iT):=ah (by rw[show eM l (k+1)=eM l k|||dq [k] by simp only[eM,bb.o];exact ay ⟨trivial,g3⟩];rw[<-e8.o];exact cF.o.setLast hk);clear r bo gG g0 hk E cF bZ e9 e8
    go_wp2
    go_roundw
    case rel=>exact⟨k+1,aV,ad,hB.o⟩
    case measure=>exact bh
  ·have i5:(eZ==2)=false:=by rw[eu];exact A
   go_wp2_with(first
    |(rw[<-ci];clear ci)
    |fail)
   go_roundw
   case rel=>exact⟨k+1,aV,ad,by rw[show eM l (k+1)=eM l k by simp only[eM,bb.o];exact au (fun c=>A c.1)];exact b1.o.skip bb.o A⟩
   case measure=>exact bh
 ·obtain rfl:k=l.length:=ad
  clear g9;have b7:=ai 0 d.rb;have z:=ah d;clear d;obtain⟨J,ca⟩:=ar ((wr.alloc (.map #[] 0)).alloc (.cells #[.map (some wr.heap.size)] 323));have g7:=Qg z.o hA.o b2.o;rw[<-ca]at g7;obtain⟨eb,gv⟩:=g7;obtain⟨hC,o⟩:=aD eb gv;have ji:= @l8 prog;have h9:=oG;have hg:=Pg J wr.heap.size (eX l ws no nc w.heap.size (wr.heap.size+1) SB (SB+2) (SB+1) wr.heap.size so sc J) (lM l) (cB l ws) (true,0) (.pointer (some ⟨w.heap.size,0,none⟩)) (.pointer (some ⟨wr.heap.size+1,0,none⟩)) (.pointer (some ⟨SB,0,none⟩)) (.pointer (some ⟨SB+2,0,none⟩)) (by rw[ca];simp;omega) eb (fun _ _ q b=>q.below b) (fun _ q=>q.1)
   (fun s w' ex q _=>PY l ws no nc w.heap.size (wr.heap.size+1) SB (SB+2) (SB+1) wr.heap.size so sc bN.o bt ad s ex J w' q) (Ac l) (fun s _ t C=>Pn bt C) (fun s=>by unfold cB;rw[cf];omega)
  have fu:=ah hg;have gs:Hid (w.heap.size<=wr.heap.size):=ah z.o.base.size;have h0:Hid (SB+4<=wr.heap.size):=ah z.o.size;clear eb gv hg z;go_wp2_with(first
   |(rw[<-ca];clear ca)
   |fail)
  generalize wr.heap.size=i2 at*;refine fu.o.mono ?_;rintro f I ⟨⟨e,ds⟩,h1⟩;clear fu;have gf:Below w.heap.size w I:=o.o.base.grown e o.o.base.size (fun k F=>by injection F with F;rw[<-F];exact gs.out);have hq:I.heap[w.heap.size+1]?=some (.cells #[.slice none 0 0,.slice none 0 0,.slice none 0 0] 174):=ds.cells o.o.res;have ib:w.heap.size+2<=I.heap.size:=aJ (aJ o.o.lo (by have:=o.o.size;omega)) e.size;obtain⟨y,a7,a9⟩:=bH ds gf hq;clear e ds gf hq gs;rcases h1 with⟨n,keys,R,ic,nv,hZ,G,C,bq,hd,rfl,⟨gr,gl,rfl⟩,cc,ce,hi,eC⟩|⟨n,keys,R,k,C,F,a1,rfl⟩
  ·have eB:=qU ad _ _ C
   have h6:0<keys.length:=(aL.1 eB.first).1;have h7:keys.length<=256:=eB.most;obtain⟨cp,co,rfl⟩:∃cp co,ic=.slice (some ⟨cp,0,none⟩) keys.length co:=by
    rcases cc.2 with⟨ao,bl⟩|⟨g,cap,i7,a1,_⟩
    ·omega
    ·exact⟨g,cap,a1⟩
   obtain⟨ab,aa,rfl⟩:=bL ce;have jc:=o.o.size;have h8:=o.o.lo;have h4:J.heap.size<=I.heap.size:=aJ (az _) y.o.grown.size;have hb:I.rangeAt (SB+3) 0 (setRow (eM l l.length)):=oM o.o.last.1 (y.o.grown.block (SB+3) ad (by have:=h0.out;simp;omega));have eD:cn I w.heap.size (.slice so ws.length sc) ws:=aP o.o.words (fun g e=>by obtain⟨cs,g5⟩:=jV o.o.words e;exact(y.o.cells g5).trans g5.symm)
   have u:=y.o.nodes;obtain⟨D,Q,h,d5⟩:=cm I (.cells #[.slice (some ⟨cp,0,none⟩) keys.length co,.slice ab G.length aa,.slice gr keys.length gl] 330);have hp:=(h.block _ (ax (y.o.cells o.o.rb))).trans (y.o.cells o.o.rb);have c6:=ai 0 hp;obtain⟨c8,eo⟩:=ar ((factN l (l.length-1)).empty);have ev:=Nh l no nc D bN.o bt (u.below h);rw[<-eo]at ev;obtain⟨fr,hH,i3,e4⟩:=cr ev eo h d5;have fc:=ah ((h.block _ (ax (y.o.cells o.o.sb))).trans (y.o.cells o.o.sb));obtain⟨b4,fw,fq,hL⟩:=cr (gN hb h) (aP eD (fun g e=>h.block g (aF eD e).2)) (aP cc (fun g e=>h.block g (aF cc e).2)) (aP ce (fun g e=>h.block g (aF ce e).2));have hT:Hid (∀(j:Nat) (v:Value) (ae:List Nat),G[j]?=some v->R[j]?=some ae->cW D (J.heap.size+3) v ae):=ah (fun j v ae ao bl=>aP (eC j v ae ao bl) (fun g e=>h.block g (aF (eC j v ae ao bl) e).2));obtain⟨fb,e3⟩:=aD ((h.block _ (ax a9.o)).trans a9.o) (a7.o.trans (h.mono (by have:=ib;omega)));have b3:Hid (SB+4<=D.heap.size/\w.heap.size+2<=SB/\J.heap.size<=D.heap.size):=ah ⟨by have:=h.size;omega,h8,by have:=h.size;omega⟩;obtain⟨hM,hR,hS,hJ⟩:=cr hd C hi bq;clear ev eo h d5 hp hb eD u cc ce eC hd C hi bq o hC y a7 a9 h4 eB;go_wp2_with(first
    |(rw[<-Q];clear Q)
    |fail)
   refine fr.o.mono ?_;rintro f p ⟨rfl,bd⟩;clear fr c6;obtain⟨bF,hl,be,c7⟩:=cm p (.cells #[.bool c8] 4);have K:=aO bd be;have d7:=(K.block _ (ax e4.o)).trans e4.o;have hs:=(K.block _ (ax fc.o)).trans fc.o;have bz:=ai 0 d7;have bA:=ai 1 d7;have bB:=ai 2 d7;have ii:=ai 0 hs;have h9:=oG;have ha:=aP fq.o (fun g e=>K.block g (aF fq.o e).2);have hm:=aP fw.o (fun g e=>K.block g (aF fw.o e).2);have jb:=K.size;have g2:=Qc ws so sc keys cp co (J.heap.size+3) keys.length gl G.length gr ab aa (kX l) (.pointer (some ⟨p.heap.size,0,none⟩)) (.pointer (some ⟨SB+1+1+1,0,none⟩)) bF (mh hm).2 ad ha h7
    (fun w'=>w'.heap[p.heap.size]?=some (.cells #[.bool c8] 4)/\w'.rangeAt (SB+3) 0 (setRow (eM l l.length))/\SB+3<w'.heap.size/\bF.heap.size<=w'.heap.size)
    (fun u1 u2 ⟨bw,eE,eN,ho⟩ cb=>by have bu:Below u1.heap.size u1 u2->True:=fun _=>trivial;exact⟨(cb.block _ (by have:=ax c7;omega)).trans bw,oM eE (cb.block _ (by have:=b3.o;omega)),dn eN cb.size,aJ ho cb.size⟩)
    ⟨c7,gN b4.o K,by have:=b3.o;omega,az _⟩
    (fun s w' ex ⟨bw,eE,eN,ho⟩ _=>by have g8:=P0 s c8 (eM l l.length) p.heap.size (SB+3) w' (hM.o s ex).1 (tD l l.length ad) bw eE eN;rw[hH.o]at g8;exact g8)
   obtain⟨fg,cx⟩:=aD g2 K;clear g2 K bd be c7 d7 hs ha hm;go_wp2_with(first
    |(rw[<-hl];clear hl)
    |fail)
   refine fg.o.mono ?_;rintro f af ⟨⟨jj,hZ,rfl,eA,er⟩,bf⟩;obtain⟨bD,bC,rfl⟩:=bL eA;obtain⟨bi,bg,rfl⟩:=bL er;have b6:=cx.out.trans (bf.mono cx.out.size);have N:=(b6.block _ (ax fb.o)).trans fb.o;have av:Below w.heap.size w af:=e3.o.trans (b6.mono e3.o.size);have d0:=ai 0 N;have d1:=ai 1 N;have d2:=ai 2 N;have f0:=aT N 0;have f1:=aT N 1;have f2:=aT N 2;obtain⟨e2,hz,hx,hQ,hI⟩:=jJ N av b6 eA er;clear eA er bf b6 N av bz bA bB ii fg;go_wp2_with fail
   have L:(((af.setCell ⟨w.heap.size+1,0,none⟩ (.slice bD ws.length bC)).setCell ⟨w.heap.size+1,1,none⟩ (.slice ab G.length aa)).setCell ⟨w.heap.size+1,2,none⟩ (.slice bi keys.length bg)).heap[w.heap.size+1]?=some (.cells #[.slice bD ws.length bC,.slice ab G.length aa,.slice bi keys.length bg] 174):=
    bn _ _ 2 _ (bn _ _ 1 _ (bn _ _ 0 _ e2.out))
   obtain⟨ag,a3⟩:=ar ((((af.setCell ⟨w.heap.size+1,0,none⟩ (.slice bD ws.length bC)).setCell ⟨w.heap.size+1,1,none⟩ (.slice ab G.length aa)).setCell ⟨w.heap.size+1,2,none⟩ (.slice bi keys.length bg)));have em:Below w.heap.size w ag:=by rw[a3];exact((hz.o.setCell ak _).setCell ak _).setCell ak _
   have g4:∀b,b≠w.heap.size+1->ag.heap[b]?=af.heap[b]?:=fun b u=>by rw[a3,aS _ _ _ _ _ u,aS _ _ _ _ _ u,aS _ _ _ _ _ u]
   have m:∀{B f size n:Nat} {v:Value} {xs:List Value},f≠174->af.ownsRow B f size v n xs->ag.ownsRow B f size v n xs:=fun h2 A=>aP A (fun g e=>g4 g (fun hY=>gR A e2.out h2 (by rw[e,hY])));have hn:∀{B f size n:Nat} {v:Value} {xs:List Value},D.ownsRow B f size v n xs->af.ownsRow B f size v n xs:=fun A=>aP A (fun g e=>hx.out.block g (aF A e).2);have cd:w.heap.size<=J.heap.size+3/\w.heap.size<=bF.heap.size:=⟨by have:=b3.o;omega,by have:=b3.o;have:=cx.out.size;omega⟩;rw[<-a3]at L⊢;have bz:=ai 0 L;have bA:=ai 1 L;have bB:=ai 2 L;have h3:Gb l ws w (.returned (.tuple #[.agg #[.slice bD ws.length bC,.slice ab G.length aa,.slice bi keys.length bg],.int .i64 0])) ag:=
    ⟨em,.inl ⟨n,keys,R,_,_,_,G,hR.o,hJ.o,rfl,dR (m ap hQ.o) cd.2,dR (m ap (hn hL.o)) cd.1,hS.o,fun j v ae ao bl=>dR (m ap (hn (hT.o j v ae ao bl))) cd.1,dR (m ap hI.o) cd.2⟩⟩
   exact cg (v:=.tuple #[.agg #[.slice bD ws.length bC,.slice ab G.length aa,.slice bi keys.length bg],.int .i64 0]) (by simp[results,results187,go_sem,bz,bA,bB,rS]) rfl (by rw[<-b5.o];exact h3)
  ·have hD:Hid (∃n keys R k,eL (true,0) 256 (cB l ws) n=some (keys,R)/\keys[n]?=some k/\eK 256 keys (cB l ws k)=none):=ah ⟨n,keys,R,k,C,F,a1⟩
   clear C F a1 y o;obtain⟨D,Q⟩:=ar (I.alloc (.cells #[.slice none 0 0,.slice none 0 0,.slice none 0 0] 330));have M:D.heap[w.heap.size+1]?=some (.cells #[.slice none 0 0,.slice none 0 0,.slice none 0 0] 174):=by rw[Q];exact(bk _ _ _ ad).trans a9.o
   have h:Below w.heap.size w D:=by rw[Q];exact a7.o.alloc a7.o.size _
   have d0:=ai 0 M;have d1:=ai 1 M;have d2:=ai 2 M;have f0:=aT M 0;have f1:=aT M 1;have f2:=aT M 2;obtain⟨hG,hE⟩:=aD M h;rw[Q]at d0 d1 d2 f0 f1 f2;have hU:=ah Q;have i9:I.heap.size≠w.heap.size+1:=ad;clear M h a9 a7 Q;go_wp2_with fail
   rw[<-hU.o];have L:(((D.setCell ⟨w.heap.size+1,0,none⟩ (.slice none 0 0)).setCell ⟨w.heap.size+1,1,none⟩ (.slice none 0 0)).setCell ⟨w.heap.size+1,2,none⟩ (.slice none 0 0)).heap[w.heap.size+1]?=some (.cells #[.slice none 0 0,.slice none 0 0,.slice none 0 0] 174):=
    bn _ _ 2 _ (bn _ _ 1 _ (bn _ _ 0 _ hG.o))
   have em:Below w.heap.size w (((D.setCell ⟨w.heap.size+1,0,none⟩ (.slice none 0 0)).setCell ⟨w.heap.size+1,1,none⟩ (.slice none 0 0)).setCell ⟨w.heap.size+1,2,none⟩ (.slice none 0 0)):=((hE.o.setCell ak _).setCell ak _).setCell ak _;have bz:=ai 0 L;have bA:=ai 1 L;have bB:=ai 2 L;obtain⟨n,keys,R,k,C,F,a1⟩:=hD.o;exact cg (v:=.tuple #[.agg #[.slice none 0 0,.slice none 0 0,.slice none 0 0],.int .i64 17]) (by simp[results,results187,go_sem,bz,bA,bB,rS]) rfl (by rw[<-b5.o];exact⟨em,.inr ⟨n,keys,R,k,C,F,a1,rfl⟩⟩)
def ff:Bool×Bool:=(false,false)
def Av(ts:List aw)(b:List Bool)(a:List (Bool×Bool))(n:aj):Bool×Bool:=
 if n.op=1 then(true,false)
 else if n.op=2 then(b.getD (cI ts n.sym) false,b.getD (cI ts n.sym) false)
 else if n.op=3 then((a.getD n.a.toNat ff).1&&(a.getD n.b.toNat ff).1,(a.getD n.a.toNat ff).1&&(a.getD n.b.toNat ff).1&&((a.getD n.a.toNat ff).2||(a.getD n.b.toNat ff).2))
 else if n.op=4 then((a.getD n.a.toNat ff).1||(a.getD n.b.toNat ff).1,(a.getD n.a.toNat ff).2||(a.getD n.b.toNat ff).2)
 else if n.op=5 then(true,(a.getD n.a.toNat ff).2)
 else ff
def factsU(ts:List aw)(b:List Bool)(l:List aj):List (Bool×Bool):=l.foldl (fun a n=>a++[Av ts b a n]) []
def oV(ts:List aw)(a:List Bool)(t:aw):Bool×Bool:=if t.text then(true,false)else(factsU ts a t.nodes).getD (t.nodes.length-1) ff
theorem QT(ts:List aw)(a:List Bool){l:List aj}{k:Nat}{n:aj}(b:l[k]?=some n):factsU ts a (l.take (k+1))=factsU ts a (l.take k)++[Av ts a (factsU ts a (l.take k)) n]:=by rw[bV,b];simp[factsU]
theorem xq(ts:List aw)(b:List Bool)(l:List aj):(factsU ts b l).length=l.length:=by
 have:∀(l:List aj) (a:List (Bool×Bool)),(l.foldl (fun a n=>a++[Av ts b a n]) a).length=a.length+l.length:=by
  intro l;induction l with
  |nil=>intro a;rfl
  |cons n l ih=>intro a;rw[nT,ih];simp;omega
 rw[factsU,this];simp
def Gr(a:Bool×Bool):List Value:=[.bool a.1,.bool a.2]
def k9(L:List (Bool×Bool)):List Value:=L.flatMap Gr
theorem QU(L:List (Bool×Bool)):(k9 L).length=L.length*2:=by
 induction L with
 |nil=>rfl
 |cons a L ih=>simp[k9,Gr]at ih⊢;omega
theorem Aw{L:List (Bool×Bool)}{i:Nat}{a:Bool×Bool}(b:L[i]?=some a):(k9 L)[i*2]?=some (.bool a.1)/\(k9 L)[i*2+1]?=some (.bool a.2):=
 ⟨(lu 2 (fun _=>rfl) b 0 ad).trans rfl,(lu 2 (fun _=>rfl) b 1 ad).trans rfl⟩
theorem QV(L:List (Bool×Bool))(i:Nat)(a:Bool×Bool):k9 (L.set i a)=((k9 L).set (i*2) (.bool a.1)).set (i*2+1) (.bool a.2):=by
 induction L generalizing i with
 |nil=>simp[k9]
 |cons x L ih=>
  cases i with
  |zero=>rfl
  |succ i=>
   rw[aK,show k9 (x::L.set i a)=.bool x.1::.bool x.2::k9 (L.set i a)from rfl,show k9 (x::L)=.bool x.1::.bool x.2::k9 L from rfl,ih,show(i+1)*2=i*2+1+1 by omega];rfl
def iC(w:World)(F n:Nat)(a:List (Bool×Bool)):Prop:=a.length<=n/\w.heap[F]?=some (.cells (k9 (a++List.replicate (n-a.length) ff)).toArray 243)
theorem QW:(prog.info? 243).map (fun i=>(i.zero,i.size,i.bytes))=some (some (.agg #[.bool false,.bool false]),2,2):=aA
theorem QX{w:World}{F n:Nat}(g:w.heap[F]?=some (.cells (madeCells #[.bool false,.bool false] (n*2)) 243)):iC w F n []:=by
 refine⟨aZ _,g.trans ?_⟩;congr 2
 apply mU;apply IV;intro j;by_cases h:j<n*2
 ·have f:j=j/2*2+j % 2:=ad
  have d:j/2<n:=ad;have b:=sU [Value.bool false,Value.bool false] (n:=n) (i:=j/2) (j:=j % 2) d aR;have e:=Aw (L:=List.replicate n ff) (i:=j/2) (a:=ff) (by simp[d]);simp only[db,ge,cD]at b;simp only[mS,ge,Nat.sub_zero];rw[<-Array.getElem?_toList]at b;rw[f];rw[show(1+1:Nat)=2 from rfl]at b;refine b.trans ?_;rcases Nat.mod_two_eq_zero_or_one j with c|c
  ·rw[c];exact e.1.symm
  ·rw[c];exact e.2.symm
 ·rw[oZ,oZ]
  ·simp[QU];omega
  ·simp[size_madeCells];omega
theorem iC.at{w:World}{F n j:Nat}{b:List (Bool×Bool)}{a:Bool×Bool}(c:iC w F n b)(d:b[j]?=some a):w.cell? ⟨F,j*2,none⟩=some (.bool a.1)/\w.cell? ⟨F,j*2+1,none⟩=some (.bool a.2):=by have e:=(aL.1 d).1;have:=Aw (L:=b++List.replicate (n-b.length) ff) (i:=j) (a:=a) (by rw[eP e];exact d);exact⟨(ai _ c.2).trans (by simpa using this.1),(ai _ c.2).trans (by simpa using this.2)⟩
theorem iC.rest{w:World}{F n:Nat}{b:List (Bool×Bool)}(c:iC w F n b)(d:b.length<n):w.cell? ⟨F,b.length*2,none⟩=some (.bool false)/\w.cell? ⟨F,b.length*2+1,none⟩=some (.bool false):=by have:=Aw (L:=b++List.replicate (n-b.length) ff) (i:=b.length) (a:=ff) (by rw[fZ (az _),xF,Ig,ay ad]);exact⟨(ai _ c.2).trans (by rw[gU];exact this.1),(ai _ c.2).trans (by rw[gU];exact this.2)⟩
theorem iC.free{w:World}{F n:Nat}{a:List (Bool×Bool)}(b:iC w F n a)(j:Nat):w.frozen? ⟨F,j,none⟩=false:=aT b.2 j
theorem iC.skip{w:World}{F n:Nat}{a:List (Bool×Bool)}(b:iC w F n a)(c:a.length<n):iC w F n (a++[ff]):=by refine⟨aR,b.2.trans ?_⟩;rw[show n-a.length=(n-(a++[ff]).length)+1 by simp;omega,Ca];simp
theorem iC.put{w:World}{F n k:Nat}{c:List (Bool×Bool)}(e:iC w F n c)(g:c.length<n)(f:k=c.length)(a b:Bool):
 iC ((w.setCell ⟨F,k*2,none⟩ (.bool a)).setCell ⟨F,k*2+1,none⟩ (.bool b)) F n (c++[(a,b)]):=by
 subst f;refine⟨aR,(bn _ _ _ _ (bn _ _ _ _ e.2)).trans ?_⟩;congr 2
 apply mU;rw[BO,BO];have d:c++[(a,b)]++List.replicate (n-(c++[(a,b)]).length) ff=(c++List.replicate (n-c.length) ff).set c.length (a,b):=by rw[show n-c.length=(n-(c++[(a,b)]).length)+1 by simp;omega,Ca,List.set_append_right _ _ (az _)];simp
 rw[d,QV]
theorem iC.below{w w':World}{F n:Nat}{b:List (Bool×Bool)}(a:iC w F n b)(c:Below w.heap.size w w'):iC w' F n b:=⟨a.1,(c.block _ (ax a.2)).trans a.2⟩
theorem tS{w:World}{M:Nat}{ts:List aw}{b:Bytes}(a:eF w M ts)(f:b.length<=1048576):
 (Instr.lookup 74 (.map (some M)) (.string ⟨b.toArray⟩) false).run prog w=.ok (.int .i64 (cI ts b:Nat)) w:=by
 obtain⟨i,n,d,j,g⟩:=a;obtain⟨c,h,e,_⟩:=g.lookup_int (ll gq) jE cU (px _) (ni b f);have:=d.at0 b;rw[e]at this;injection this with this
 injection this with _ this
 rw[h,this];rfl
theorem Gs{ts:List aw}{x:aw}(d:bT ts=0)(f:x∈ts){b:Bytes}(e:b∈aI x.nodes):cI ts b<ts.length:=by
 have:=(qJ d).placed x f b e;unfold cI;cases a:placeS ts b with
 |none=>rw[a]at this;cases this
 |some c=>exact vf a
def Gt(w:World)(o:Option Addr)(cap:Nat)(l:List Bool):Prop:=dp w o l.length cap 1 (l.map Value.bool)
structure kF(ts:List aw)(hv:List Bool)(x:am)(F:Nat)(w:World)(k:Nat)(wr:World):Prop where
 base:Below w.heap.size w wr
 size:w.heap.size<=F
 box:wr.heap[w.heap.size]?=some (.cells (typeRow x).toArray 53)
 facts:iC wr F x.t.nodes.length (factsU ts hv (x.t.nodes.take k))
 ne:F≠w.heap.size
section
variable{ts:List aw} {hv:List Bool} {x:am} {F:Nat} {w:World} {k:Nat} {wr wz:World}
theorem kF.below(a:kF ts hv x F w k wr)(b:Below wr.heap.size wr wz):kF ts hv x F w k wz:=⟨aO a.base b,a.size,(b.block _ (ax a.box)).trans a.box,a.facts.below b,a.ne⟩
theorem kF.put(c:kF ts hv x F w k wr)(f:k<x.t.nodes.length)(a b:Bool)(d:factsU ts hv (x.t.nodes.take (k+1))=factsU ts hv (x.t.nodes.take k)++[(a,b)]):kF ts hv x F w (k+1) ((wr.setCell ⟨F,k*2,none⟩ (.bool a)).setCell ⟨F,k*2+1,none⟩ (.bool b)):=by
 have e:(factsU ts hv (x.t.nodes.take k)).length=k:=by rw[xq,fm];omega
 exact⟨(c.base.setCell c.size _).setCell c.size _,c.size,(aS _ _ _ _ _ c.ne.symm).trans ((aS _ _ _ _ _ c.ne.symm).trans c.box),by rw[d];exact c.facts.put ad e.symm a b,c.ne⟩
theorem kF.skip(a:kF ts hv x F w k wr)(c:k<x.t.nodes.length)(b:factsU ts hv (x.t.nodes.take (k+1))=factsU ts hv (x.t.nodes.take k)++[ff]):kF ts hv x F w (k+1) wr:=by
 have d:(factsU ts hv (x.t.nodes.take k)).length=k:=by rw[xq,fm];omega
 exact⟨a.base,a.size,a.box,by rw[b];exact a.facts.skip ad,a.ne⟩
theorem kF.at(a:kF ts hv x F w k wr){j:Nat}(b:j<k)(c:k<=x.t.nodes.length):wr.cell? ⟨F,j*2,none⟩=some (.bool ((factsU ts hv (x.t.nodes.take k)).getD j ff).1)/\wr.cell? ⟨F,j*2+1,none⟩=some (.bool ((factsU ts hv (x.t.nodes.take k)).getD j ff).2):=by
 have d:(factsU ts hv (x.t.nodes.take k)).length=k:=by rw[xq,fm];omega
 exact a.facts.at (by rw[fp,aH ad];rfl)
end
def qb(ts:List aw)(hv:List Bool)(x:am)(F:Nat)(w:World)(a:Value)(wr:World):Prop:=∃k:Nat,a=.int .i64 (k:Nat)/\k<=x.t.nodes.length/\kF ts hv x F w k wr
end Go.Proofs.YtnadadbndcdolaaGreatDoor
