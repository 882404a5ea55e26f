import Derived.Test.YtbacloblanpghaaGreatDoorQbr
set_option linter.unusedVariables false
set_option linter.unusedSimpArgs false
set_option maxRecDepth 100000
set_option maxHeartbeats 0
namespace Go.Proofs.YtbacloblanpghaaGreatDoor
open Go.RowKit Tryz
def ff:Bool×Bool:=(false,false)
def yM(ts:List ax)(b:List Bool)(a:List (Bool×Bool))(n:ar):Bool×Bool:=
 if n.op=1 then(true,false)
 else if n.op=2 then(b.getD (dl ts n.sym) false,b.getD (dl ts n.sym) false)
 else if n.op=3 then((a.getD n.a.toNat ff).1&&(a.getD n.b.toNat ff).1,(a.getD n.a.toNat ff).1&&(a.getD n.b.toNat ff).1&&((a.getD n.a.toNat ff).2||(a.getD n.b.toNat ff).2))
 else if n.op=4 then((a.getD n.a.toNat ff).1||(a.getD n.b.toNat ff).1,(a.getD n.a.toNat ff).2||(a.getD n.b.toNat ff).2)
 else if n.op=5 then(true,(a.getD n.a.toNat ff).2)
 else ff
def factsU(ts:List ax)(b:List Bool)(l:List ar):List (Bool×Bool):=l.foldl (fun a n=>a++[yM ts b a n]) []
def om(ts:List ax)(a:List Bool)(t:ax):Bool×Bool:=if t.text then(true,false)else(factsU ts a t.nodes).getD (t.nodes.length-1) ff
theorem OK(ts:List ax)(a:List Bool){l:List ar}{k:Nat}{n:ar}(b:l[k]?=some n):factsU ts a (l.take (k+1))=factsU ts a (l.take k)++[yM ts a (factsU ts a (l.take k)) n]:=by rw[bG,b];simp[factsU]
theorem vh(ts:List ax)(b:List Bool)(l:List ar):(factsU ts b l).length=l.length:=by
 have:∀(l:List ar) (a:List (Bool×Bool)),(l.foldl (fun a n=>a++[yM ts b a n]) a).length=a.length+l.length:=by
  intro l;induction l with
  |nil=>intro a;rfl
  |cons n l ih=>intro a;rw[qN,ih];simp;omega
 rw[factsU,this];simp
def Eh(a:Bool×Bool):List Value:=[.bool a.1,.bool a.2]
def kH(L:List (Bool×Bool)):List Value:=L.flatMap Eh
theorem OL(L:List (Bool×Bool)):(kH L).length=L.length*2:=by
 induction L with
 |nil=>rfl
 |cons a L ih=>simp[kH,Eh]at ih⊢;omega
theorem yN{L:List (Bool×Bool)}{i:Nat}{a:Bool×Bool}(b:L[i]?=some a):(kH L)[i*2]?=some (.bool a.1)/\(kH L)[i*2+1]?=some (.bool a.2):=
 ⟨(nh 2 (fun _=>rfl) b 0 ad).trans rfl,(nh 2 (fun _=>rfl) b 1 ad).trans rfl⟩
theorem OM(L:List (Bool×Bool))(i:Nat)(a:Bool×Bool):kH (L.set i a)=((kH L).set (i*2) (.bool a.1)).set (i*2+1) (.bool a.2):=by
 induction L generalizing i with
 |nil=>simp[kH]
 |cons x L ih=>
  cases i with
  |zero=>rfl
  |succ i=>
   rw[bj,show kH (x::L.set i a)=.bool x.1::.bool x.2::kH (L.set i a)from rfl,show kH (x::L)=.bool x.1::.bool x.2::kH L from rfl,ih,show(i+1)*2=i*2+1+1 by omega];rfl
def hO(w:World)(F n:Nat)(a:List (Bool×Bool)):Prop:=a.length<=n/\w.heap[F]?=some (.cells (kH (a++List.replicate (n-a.length) ff)).toArray 207)
theorem ON:(prog.info? 207).map (fun i=>(i.zero,i.size,i.bytes))=some (some (.agg #[.bool false,.bool false]),2,2):=ay
theorem OP{w:World}{F n:Nat}(g:w.heap[F]?=some (.cells (madeCells #[.bool false,.bool false] (n*2)) 207)):hO w F n []:=by
 refine⟨aK _,g.trans ?_⟩;congr 2
 apply l9;apply List.ext_getElem?;intro j;by_cases h:j<n*2
 ·have f:j=j/2*2+j % 2:=ad
  have d:j/2<n:=ad;have b:=rK [Value.bool false,Value.bool false] (n:=n) (i:=j/2) (j:=j % 2) d aO;have e:=yN (L:=List.replicate n ff) (i:=j/2) (a:=ff) (by simp[d]);simp only[de,ga,cE]at b;simp only[lm,ga,Nat.sub_zero];rw[<-Array.getElem?_toList]at b;rw[f];rw[show(1+1:Nat)=2 from rfl]at b;refine b.trans ?_;rcases Nat.mod_two_eq_zero_or_one j with c|c
  ·rw[c];exact e.1.symm
  ·rw[c];exact e.2.symm
 ·rw[mV,mV]
  ·simp[OL];omega
  ·simp[size_madeCells];omega
theorem hO.at{w:World}{F n j:Nat}{b:List (Bool×Bool)}{a:Bool×Bool}(c:hO w F n b)(d:b[j]?=some a):w.cell? ⟨F,j*2,none⟩=some (.bool a.1)/\w.cell? ⟨F,j*2+1,none⟩=some (.bool a.2):=by have e:=(aP.1 d).1;have:=yN (L:=b++List.replicate (n-b.length) ff) (i:=j) (a:=a) (by rw[eF e];exact d);exact⟨(ai _ c.2).trans (by simpa using this.1),(ai _ c.2).trans (by simpa using this.2)⟩
theorem hO.rest{w:World}{F n:Nat}{b:List (Bool×Bool)}(c:hO w F n b)(d:b.length<n):w.cell? ⟨F,b.length*2,none⟩=some (.bool false)/\w.cell? ⟨F,b.length*2+1,none⟩=some (.bool false):=by have:=yN (L:=b++List.replicate (n-b.length) ff) (i:=b.length) (a:=ff) (by rw[gH (aB _),qE,ze,au ad]);exact⟨(ai _ c.2).trans (by rw[ig];exact this.1),(ai _ c.2).trans (by rw[ig];exact this.2)⟩
theorem hO.free{w:World}{F n:Nat}{a:List (Bool×Bool)}(b:hO w F n a)(j:Nat):w.frozen? ⟨F,j,none⟩=false:=aQ b.2 j
theorem hO.skip{w:World}{F n:Nat}{a:List (Bool×Bool)}(b:hO w F n a)(c:a.length<n):hO w F n (a++[ff]):=by refine⟨aO,b.2.trans ?_⟩;rw[show n-a.length=(n-(a++[ff]).length)+1 by simp;omega,Aa];simp
theorem hO.put{w:World}{F n k:Nat}{c:List (Bool×Bool)}(e:hO w F n c)(g:c.length<n)(f:k=c.length)(a b:Bool):
 hO ((w.setCell ⟨F,k*2,none⟩ (.bool a)).setCell ⟨F,k*2+1,none⟩ (.bool b)) F n (c++[(a,b)]):=by
 subst f;refine⟨aO,(bL _ _ _ _ (bL _ _ _ _ e.2)).trans ?_⟩;congr 2
 apply l9;rw[zY,zY];have d:c++[(a,b)]++List.replicate (n-(c++[(a,b)]).length) ff=(c++List.replicate (n-c.length) ff).set c.length (a,b):=by rw[show n-c.length=(n-(c++[(a,b)]).length)+1 by simp;omega,Aa,List.set_append_right _ _ (aB _)];simp
 rw[d,OM]
theorem hO.below{w w':World}{F n:Nat}{b:List (Bool×Bool)}(a:hO w F n b)(c:Below w.heap.size w w'):hO w' F n b:=⟨a.1,(c.block _ (aL a.2)).trans a.2⟩
theorem vi{w:World}{M:Nat}{ts:List ax}{b:Bytes}(a:ei w M ts)(f:b.length<=1048576):
 (Instr.lookup 77 (.map (some M)) (.string ⟨b.toArray⟩) false).run prog w=.ok (.int .i64 (dl ts b:Nat)) w:=by
 obtain⟨i,n,d,j,g⟩:=a;obtain⟨c,h,e,_⟩:=g.lookup_int (kN fZ) iZ cX (oH _) (mr b f);have:=d.at0 b;rw[e]at this;injection this with this
 injection this with _ this
 rw[h,this];rfl
theorem Ei{ts:List ax}{x:ax}(d:bW ts=0)(f:x∈ts){b:Bytes}(e:b∈symsS x.nodes):dl ts b<ts.length:=by
 have:=(ui d).placed x f b e;unfold dl;cases a:placeS ts b with
 |none=>rw[a]at this;cases this
 |some c=>exact tF a
def Ej(w:World)(o:Option Addr)(cap:Nat)(l:List Bool):Prop:=cS w o l.length cap 1 (l.map Value.bool)
structure j9(ts:List ax)(hv:List Bool)(x:am)(F:Nat)(w:World)(k:Nat)(wr:World):Prop where
 base:Below w.heap.size w wr
 size:w.heap.size<=F
 box:wr.heap[w.heap.size]?=some (.cells (typeRow x).toArray 68)
 facts:hO wr F x.t.nodes.length (factsU ts hv (x.t.nodes.take k))
 ne:F≠w.heap.size
section
variable{ts:List ax} {hv:List Bool} {x:am} {F:Nat} {w:World} {k:Nat} {wr wz:World}
theorem j9.below(a:j9 ts hv x F w k wr)(b:Below wr.heap.size wr wz):j9 ts hv x F w k wz:=⟨aD a.base b,a.size,(b.block _ (aL a.box)).trans a.box,a.facts.below b,a.ne⟩
theorem j9.put(c:j9 ts hv x F w k wr)(f:k<x.t.nodes.length)(a b:Bool)(d:factsU ts hv (x.t.nodes.take (k+1))=factsU ts hv (x.t.nodes.take k)++[(a,b)]):j9 ts hv x F w (k+1) ((wr.setCell ⟨F,k*2,none⟩ (.bool a)).setCell ⟨F,k*2+1,none⟩ (.bool b)):=by
 have e:(factsU ts hv (x.t.nodes.take k)).length=k:=by rw[vh,dx];omega
 exact⟨(c.base.setCell c.size _).setCell c.size _,c.size,(aX _ _ _ _ _ c.ne.symm).trans ((aX _ _ _ _ _ c.ne.symm).trans c.box),by rw[d];exact c.facts.put ad e.symm a b,c.ne⟩
theorem j9.skip(a:j9 ts hv x F w k wr)(c:k<x.t.nodes.length)(b:factsU ts hv (x.t.nodes.take (k+1))=factsU ts hv (x.t.nodes.take k)++[ff]):j9 ts hv x F w (k+1) wr:=by
 have d:(factsU ts hv (x.t.nodes.take k)).length=k:=by rw[vh,dx];omega
 exact⟨a.base,a.size,a.box,by rw[b];exact a.facts.skip ad,a.ne⟩
theorem j9.at(a:j9 ts hv x F w k wr){j:Nat}(b:j<k)(c:k<=x.t.nodes.length):wr.cell? ⟨F,j*2,none⟩=some (.bool ((factsU ts hv (x.t.nodes.take k)).getD j ff).1)/\wr.cell? ⟨F,j*2+1,none⟩=some (.bool ((factsU ts hv (x.t.nodes.take k)).getD j ff).2):=by
 have d:(factsU ts hv (x.t.nodes.take k)).length=k:=by rw[vh,dx];omega
 exact a.facts.at (by rw[fJ,aF ad];rfl)
end
def yO(ts:List ax)(hv:List Bool)(l:List ar):Prop:=∀k n,l[k]?=some n->n.op≠4/\(n.op=3->((factsU ts hv (l.take k)).getD n.b.toNat ff).1=true)
def qA(ts:List ax)(hv:List Bool)(x:am)(F:Nat)(w:World)(a:Value)(wr:World):Prop:=∃k:Nat,a=.int .i64 (k:Nat)/\k<=x.t.nodes.length/\j9 ts hv x F w k wr
theorem OQ(l:List am)(o:Option Addr)(cap:Nat)(a1:World)(c4:cn a1 o cap l)(c7:ej l)(dr:bW (l.map am.t)=0)(er:Nat->Prop)(bo co eD eE:Nat)(x:am)(v:x∈l)(hv:List Bool)(af:x.t.text=false->cw x.t.nodes=0/\x.t.nodes.length<=60/\yO (l.map am.t) hv x.t.nodes)
 (eb:Option Addr) (ag:Nat) (d6:hv.length=l.length) (w:World) (X:eq a1 er w bo co eD eE o cap l) (K:Ej w eb ag hv):
 Calls prog 70 #[.pointer (some ⟨bo,0,none⟩),dj x,.slice eb hv.length ag] w fun B w'=>B=.returned (.tuple #[.bool (om (l.map am.t) hv x.t).1,.bool (om (l.map am.t) hv x.t).2])/\Below w.heap.size w w':=by
 obtain⟨w1,D⟩:=aj (w.alloc (.cells (typeRow x).toArray 68));have cx:Below w.heap.size w w1:=by rw[D];exact az
 have aa:w1.heap[w.heap.size]?=some (.cells (typeRow x).toArray 68):=by rw[D];exact aC w _
 have b3:w1.heap.size=w.heap.size+1:=by rw[D];simp
 have c1:=ai 4 aa;have bq:=ai 5 aa;have d8:∀n∈x.t.nodes,n.sym.length<=1048576:=fun n al=>c7.sym x v n al;have bz:=fun wz (ds:Below a1.heap.size a1 wz)=>((c4.below ds).2 x v).2;have C:∀n∈x.t.nodes,n.op=2->cw x.t.nodes=0->dl (l.map am.t) n.sym<hv.length:=fun n al bu e5=>by rw[d6,<-cd (f:=am.t)];exact Ei dr (ki v) ((yH e5).2 ⟨n,al,bu,rfl⟩)
 have b0:=bz _ X.base;obtain⟨ts,a5⟩:=aj (l.map am.t);rw[<-a5]at C⊢;have c8:ei w co ts:=by rw[a5];exact X.places
 have cl:=ah a5;clear a5;obtain⟨bg,b8,bl,bi,b9,cc,cu,s,eN,bf⟩:=kB X K d8 C bz c8 aa cx b3 af;have b2:=ai 1 X.blk;have e2:=aL X.blk;have ex:=ah b2;have ea:=b0.2.1;have fb:=b0.2.2.1;unfold maxLen at fb;clear X K d8 C bz c8 aa cx b3 af b2 b0 c7 dr v d6;obtain⟨⟨name,label,attrs,key,text,nodes⟩,V,T,no,E⟩:=x;simp only[typeRow]at D c1 bq bf bl bi ea;simp at c1 bq;unfold dj typeRow;simp only;cases text with
 |true=>
  go_enter func70,ntmps70
  go_wp2_with(first|(rw[<-D];clear D)|fail)
  go_ret2
  exact⟨rfl,s.out⟩
 |false=>
  obtain⟨af,al,N⟩:=bf.o rfl;rw[<-cl.o]at N;have ci:=ah N;clear N;obtain⟨n,an⟩:=aj (nodes.length);obtain⟨fo,d3,bb⟩:∃i,prog.info? 207=some i/\i.zero=some (.agg #[.bool false,.bool false])/\i.size=2/\i.bytes=2:=by obtain⟨i,e7,ba⟩:=mb.1 ON;simp only[pD]at ba;exact⟨i,e7,ba.1,ba.2.1,ba.2.2⟩
  obtain⟨M,bw⟩:=aj (madeCells #[.bool false,.bool false] (n*2));rw[<-an]at bq al ea;have gl:∀wz,(Instr.makeSlice 205 (.int .i64 (n:Int)) (.int .i64 (n:Int))).run prog wz=.ok (.slice (some ⟨wz.heap.size,0,none⟩) n n) (wz.alloc (.cells M 207)):=fun wz=>by have:=sX (P:=prog) wz 205 207 fo (.agg #[.bool false,.bool false]) underlying205 d3 bb.1 .i64 .i64 n n ad ad (by rw[bb.2.2];omega) ad;simp only[iL,bb.2.1]at this;rw[this,bw];rfl
  obtain⟨b6,a6⟩:=aj (w1.alloc (.cells M 207));have b1:j9 ts hv ⟨⟨name,label,attrs,key,false,nodes⟩,V,T,no,E⟩ w1.heap.size w 0 b6:=by
   have cG:Below w1.heap.size w1 b6:=by rw[a6];exact az
   have b3:=eN.out;refine⟨aD s.out cG,ad,(cG.block _ (aL cu.out)).trans cu.out,?_,ad⟩;refine OP ?_;simp only;rw[<-an,<-bw,a6];exact aC w1 _
  have ce:=ah b1;have eZ:b6.cell? ⟨w.heap.size,5,none⟩=some (.slice no n E):=by rw[an];exact ai 5 b1.box
  obtain⟨z,aq⟩:=aE an af;clear b1 an af bw d3 bb;go_enter func70,ntmps70
  go_wp2_with(first|(rw[<-D];clear D)|(rw[<-a6];clear a6)|fail)
  generalize w1.heap.size=F at*;go_loopw [29] (qA ts hv ⟨⟨name,label,attrs,key,false,nodes⟩,V,T,no,E⟩ F w) (fun fr _=>n-(intOf fr).toNat)
  case atStart=>exact⟨0,rfl,aK _,ce.o⟩
  case round=>
  clear ce eZ;obtain⟨k,rfl,d4,Y⟩:=hrel;simp only at d4;rw[<-z.o]at d4;have d5:(k:Int)<n∨¬((k:Int)<n):=ad;by_cases C:k<n
  ·have f7:(0:Int)<=k:=ad
   have gb:(k:Int)<n:=ad;clear d5;obtain⟨O,v⟩:∃O,nodes[k]?=some O:=⟨_,aF (by rw[<-z.o];exact C)⟩;have bZ:=aU v;have e3:=b9.o wr (bg.o.base.trans (Y.base.mono bg.o.base.size));obtain⟨b,ao,rfl,f1,fv,aa,fx,fy⟩:=di.at e3 v;have t:=iM nodes 0 k O (gB aq.o).1.ok v;rw[cE]at t;have d0:=OK ts hv v;have ec:=bl.o O bZ;have N:=ci.o k O v;have bE:=fun bu=>bi.o O bZ bu aq.o;obtain⟨ed,sym,Z,bc⟩:=O;simp only at fv aa fx fy ec bE;obtain⟨wz,h⟩:=aj (wr.alloc (.cells #[.int .i64 ed,.string ⟨sym.toArray⟩,.int .i64 Z,.int .i64 bc] 140));have c0:Below wr.heap.size wr wz:=by rw[h];exact az
   have W:wz.heap[wr.heap.size]?=some (.cells #[.int .i64 ed,.string ⟨sym.toArray⟩,.int .i64 Z,.int .i64 bc] 140):=by rw[h];exact aC wr _
   have em:=ai 0 W;have en:=ai 1 W;have fz:=ai 2 W;have fG:=ai 3 W;have L:=Y.below c0;have bF:(factsU ts hv (nodes.take k)).length=k:=by rw[vh,dx];have:=z.o;omega
   obtain⟨bd,be⟩:=L.facts.rest (by simp only;rw[bF,<-z.o];exact C);simp only at bd be;rw[bF]at bd be;have c2:=L.facts.free (k*2);have c3:=L.facts.free (k*2+1);have H:=ah L;have ch:Hid (wr.heap.size<wz.heap.size/\F<wz.heap.size):=ah ⟨aL W,aL L.facts.2⟩;obtain⟨I,a0,eB⟩:=bO d0 t bE;have ab:Hid (∀j:Nat,j<k->wz.cell? ⟨F,j*2,none⟩=some (.bool ((factsU ts hv (nodes.take k)).getD j ff).1)/\wz.cell? ⟨F,j*2+1,none⟩=some (.bool ((factsU ts hv (nodes.take k)).getD j ff).2)):=ah (fun j e8=>L.at e8 (by simp only;rw[<-z.o];exact Nat.le_of_lt C));have y:Hid (k<nodes.length):=ah (by rw[<-z.o];exact C);obtain⟨d,bB⟩:=aj (factsU ts hv (nodes.take k));rw[<-bB]at I ab N;have bm:=ah N;clear N;have ae:=ah bB;clear v bZ d0 t bE L Y W c0 bF bB;rcases rm a0.o with B|B|B|B|B|B
   all_goals
    simp only at B;subst B
   case inl=>
    have g:Hid (qA ts hv ⟨⟨name,label,attrs,key,false,nodes⟩,V,T,some ⟨b,ao,none⟩,E⟩ F w (.int .i64 ((k:Int)+1)) wz):=ah ⟨k+1,aG,y.o,H.o.skip y.o (by have:=I.o;rw[this,ae.o];rfl)⟩;go_wp2_with(first|(rw[<-h];clear h)|fail)
    go_roundw
    case rel=>exact g.o
    case measure=>exact aH
   case inr.inl=>
    have g:Hid (qA ts hv ⟨⟨name,label,attrs,key,false,nodes⟩,V,T,some ⟨b,ao,none⟩,E⟩ F w (.int .i64 ((k:Int)+1)) ((wz.setCell ⟨F,k*2,none⟩ (.bool true)).setCell ⟨F,k*2+1,none⟩ (.bool false))):=ah ⟨k+1,aG,y.o,H.o.put y.o _ _ (by have:=I.o;rw[this,ae.o];rfl)⟩;go_wp2_with(first|(rw[<-h];clear h)|fail)
    go_roundw
    case rel=>exact g.o
    case measure=>exact aH
   case inr.inr.inl=>
    have ag:=eB.o rfl;obtain⟨c,a3⟩:=aj (dl ts sym);rw[<-a3]at ag;have a9:Below w.heap.size w wz:=H.o.base;have c9:=cc.o.kept (bP a9 none) ak;have e9:=vi (c9.kept (bP (aA _ wz).drew none) ak) ec;rw[<-a3]at e9;have b2:=(a9.cell (p:=⟨bo,1,none⟩) e2).trans ex.o;have a2:=b8.o.below a9;obtain⟨ds,f2,rfl,f6,d1⟩:=a2.2.2.2 ad;have e6:=d1 c (.bool (hv.getD c false)) (by rw[cb,fJ,aF ag];rfl);have e4:=a2.2.1;have du:=a2.2.2.1;unfold maxLen at du;have f4:(0:Int)<=c:=ad;have f5:(c:Int)<hv.length:=ad;have g:Hid (qA ts hv ⟨⟨name,label,attrs,key,false,nodes⟩,V,T,some ⟨b,ao,none⟩,E⟩ F w (.int .i64 ((k:Int)+1)) ((wz.drew.setCell ⟨F,k*2,none⟩ (.bool (hv.getD c false))).setCell ⟨F,k*2+1,none⟩ (.bool (hv.getD c false)))):=ah ⟨k+1,aG,y.o,(H.o.below (aA _ wz).drew).put y.o _ _ (by have:=I.o;rw[this,ae.o,a3];rfl)⟩;obtain⟨gr,d2⟩:=aj (hv.getD c false);rw[<-d2]at g e6;clear d2 d1 a2 e4 du c9 a9 a3;go_wp2_with(first|(rw[<-h];clear h)|fail)
    go_region
    go_wp2
    go_roundw
    case rel=>exact g.o
    case measure=>exact aH
   case inr.inr.inr.inr.inr=>
    have t:=a0.o;simp only[dG,bM]at t;simp at t;obtain⟨⟨-,eg,el⟩,-⟩:=t;obtain⟨p,rfl⟩:∃p:Nat,Z=p:=⟨Z.toNat,ad⟩;have fg:(0:Int)<=p:=ad;have fl:(p:Int)<n:=ad;obtain⟨u0,u1⟩:=ab.o p ad;obtain⟨⟨e,r⟩,J⟩:∃a,a=d.getD p ff:=⟨_,rfl⟩;rw[<-J]at u0 u1;simp only at u0 u1;have g:Hid (qA ts hv ⟨⟨name,label,attrs,key,false,nodes⟩,V,T,some ⟨b,ao,none⟩,E⟩ F w (.int .i64 ((k:Int)+1)) ((wz.setCell ⟨F,k*2,none⟩ (.bool true)).setCell ⟨F,k*2+1,none⟩ (.bool r))):=ah ⟨k+1,aG,y.o,H.o.put y.o _ _ (by have:=I.o;rw[this,<-ae.o];show d++[(true,(d.getD p ff).2)]=_;rw[<-J])⟩;clear J;go_wp2_with(first|(rw[<-h];clear h)|fail)
    go_roundw
    case rel=>exact g.o
    case measure=>exact aH
   case inr.inr.inr.inl=>
    have t:=a0.o;simp only[dG,bM]at t;simp at t;obtain⟨⟨-,eg,el⟩,fs,fu⟩:=t;obtain⟨p,rfl⟩:∃p:Nat,Z=p:=⟨Z.toNat,ad⟩;obtain⟨q,rfl⟩:∃q:Nat,bc=q:=⟨bc.toNat,ad⟩;have fg:(0:Int)<=p:=ad;have fl:(p:Int)<n:=ad;have gs:(0:Int)<=q:=ad;have gv:(q:Int)<n:=ad;obtain⟨u0,u1⟩:=ab.o p ad;obtain⟨b4,b5⟩:=ab.o q ad;obtain⟨⟨e,r⟩,J⟩:∃a,a=d.getD p ff:=⟨_,rfl⟩;obtain⟨⟨es,s⟩,K⟩:∃a,a=d.getD q ff:=⟨_,rfl⟩;rw[<-J]at u0 u1;rw[<-K]at b4 b5;simp only at u0 u1 b4 b5;have e1:es=true:=by have c5:(d.getD q ff).1=true:=bm.o.2 rfl;rw[<-K]at c5;exact c5
    subst e1;have dz:factsU ts hv (nodes.take (k+1))=factsU ts hv (nodes.take k)++[(e&&true,e&&true&&(r||s))]:=by
     have:=I.o;rw[this,<-ae.o];show d++[((d.getD p ff).1&&(d.getD q ff).1,(d.getD p ff).1&&(d.getD q ff).1&&((d.getD p ff).2||(d.getD q ff).2))]=_
     rw[<-J,<-K]
    have av:=ah dz;have gd:wr.heap.size<wz.heap.size:=ch.o.1;have a4:F<wz.heap.size:=ch.o.2;have e0:wr.heap.size≠wz.heap.size:=ad;have fN:wr.heap.size≠wz.heap.size+1:=ad;have fT:F≠wz.heap.size:=ad;have f0:F≠wz.heap.size+1:=ad;clear J K dz eg el fs fu;go_wp2_with(first|(rw[<-h];clear h)|fail)
    go_region
    all_goals
     (first
       |(obtain⟨G,u⟩:=aj (((wz.alloc (.cells #[.bool e,.bool r] 207)).alloc (.cells #[.bool true,.bool s] 207)).drew)
         rw[<-u];have R:G.heap[wz.heap.size]?=some (.cells #[.bool e,.bool r] 207):=by rw[u];exact(bH _ _ _ ak).trans (aC wz _)
         have S:G.heap[wz.heap.size+1]?=some (.cells #[.bool true,.bool s] 207):=by have:=aC (wz.alloc (.cells #[.bool e,.bool r] 207)) (.cells #[.bool true,.bool s] 207);rw[bI]at this;rw[u];exact this
         have A:Below wz.heap.size wz G:=by rw[u];exact(az.alloc ak _).drew
         have Q:=ah (And.intro R (And.intro S A));clear u)
       |(obtain⟨G,u⟩:=aj (((wz.alloc (.cells #[.bool true,.bool s] 207)).alloc (.cells #[.bool e,.bool r] 207)).drew)
         rw[<-u];have R:G.heap[wz.heap.size]?=some (.cells #[.bool true,.bool s] 207):=by rw[u];exact(bH _ _ _ ak).trans (aC wz _)
         have S:G.heap[wz.heap.size+1]?=some (.cells #[.bool e,.bool r] 207):=by have:=aC (wz.alloc (.cells #[.bool true,.bool s] 207)) (.cells #[.bool e,.bool r] 207);rw[bI]at this;rw[u];exact this
         have A:Below wz.heap.size wz G:=by rw[u];exact(az.alloc ak _).drew
         have Q:=ah (And.intro R (And.intro S A));clear u))
    all_goals
     (obtain⟨R,S,A⟩:=Q.out
      have c6:=H.o.below A;have g:Hid (qA ts hv ⟨⟨name,label,attrs,key,false,nodes⟩,V,T,some ⟨b,ao,none⟩,E⟩ F w (.int .i64 ((k:Int)+1)) ((G.setCell ⟨F,k*2,none⟩ (.bool (e&&true))).setCell ⟨F,k*2+1,none⟩ (.bool (e&&true&&(r||s))))):=ah ⟨k+1,aG,y.o,c6.put y.o _ _ av.o⟩;have gG:=ai 0 R;have g0:=ai 1 R;have g1:=ai 0 S;have g2:=ai 1 S;have g3:=(A.cell (p:=⟨F,k*2,none⟩) a4).trans bd;have g4:=(A.cell (p:=⟨F,k*2+1,none⟩) a4).trans be;have g5:=(A.frozen (p:=⟨F,k*2,none⟩) a4).trans c2;have g7:=(A.frozen (p:=⟨F,k*2+1,none⟩) a4).trans c3;clear cc b8 bg b9 bl bi H I ab a0 aq ci bm bf cl c4;clear R S A c6 Q av u0 u1 b4 b5 bd be c2 c3 em en fz fG;cases e with
      |false=>
       go_wp2
       go_roundw
       case rel=>exact g.o
       case measure=>exact aH
      |true=>
       cases r with
       |false=>
        go_wp2
        go_roundw
        case rel=>exact g.o
        case measure=>exact aH
       |true=>
        go_wp2
        go_roundw
        case rel=>exact g.o
        case measure=>simp[intOf];omega)
   case inr.inr.inr.inr.inl=>exact absurd rfl bm.o.1
  ·obtain rfl:k=n:=ad
   have fc:=(gB aq.o).2;obtain⟨m,d7⟩:∃m,k=m+1:=⟨k-1,by have:=z.o;omega⟩;have e0:(k:Int)-1=(m:Nat):=ad;have gf:(0:Int)<=m:=ad;have gg:(m:Int)<k:=ad;obtain⟨u0,u1⟩:=Y.at (j:=m) ad (by simp only;rw[<-z.o];exact aB _);simp only at u0 u1;rw[bx (by rw[<-z.o];exact aB _)]at u0 u1;obtain⟨cp,bA⟩:=aj ((factsU ts hv nodes).getD m ff);rw[<-bA]at u0 u1;have ez:Hid (om ts hv ⟨name,label,attrs,key,false,nodes⟩=cp):=ah (by rw[bA];unfold om;simp only[kh,i6];rw[<-z.o,d7];rfl);obtain⟨cq,cs⟩:=cp;simp only at u0 u1;obtain⟨b7,a7⟩:=aj (wr.alloc (.cells #[.bool cq,.bool cs] 207));have cN:Below wr.heap.size wr b7:=by rw[a7];exact az
   have bt:b7.heap[wr.heap.size]?=some (.cells #[.bool cq,.bool cs] 207):=by rw[a7];exact aC wr _
   have em:=ai 0 bt;have en:=ai 1 bt;have av:Hid (Below w.heap.size w b7):=ah (aD Y.base cN);clear bA d7 Y cN bt d5 fc;go_wp2_with(first|(rw[<-a7];clear a7)|fail)
   go_region
   go_wp2
   go_ret2
   rw[ez.o];exact⟨rfl,av.o.drew⟩
end Go.Proofs.YtbacloblanpghaaGreatDoor
