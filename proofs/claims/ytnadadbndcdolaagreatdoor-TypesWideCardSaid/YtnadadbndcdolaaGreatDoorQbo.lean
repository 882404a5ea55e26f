import Derived.Test.YtnadadbndcdolaaGreatDoorQbn
set_option linter.unusedVariables false
set_option linter.unusedSimpArgs false
set_option maxRecDepth 100000
set_option maxHeartbeats 0
namespace Go.Proofs.YtnadadbndcdolaaGreatDoor
open Go.RowKit Tryz
structure iB(x:am):Prop where
 ok:bG x.t.nodes=0
 len:x.t.nodes.length<=60
 narrow:¬rq x.t.nodes
def k8(b:World)(c:Nat->Prop)(d e a f:Nat)(o:Option Addr)(cap:Nat)(l:List am)(w:World)(wr:World):Prop:=cT b c wr d e a f o cap l/\gp wr b.heap.size a l/\w.grownBy wr (some a)
theorem k8.below{i w wr j:World}{d:Nat->Prop}{e f g h:Nat}{o:Option Addr}{cap:Nat}{l:List am}(b:k8 i d e f g h o cap l w wr)(c:Below wr.heap.size wr j):k8 i d e f g h o cap l w j:=
 ⟨b.1.kept (bJ c none) (fun q a=>by cases a),b.2.1.grown (bJ c none) (fun q a=>by cases a),b.2.2.trans (bJ c _)⟩
def QH(f:World)(a:Nat->Prop)(b c d e:Nat)(o:Option Addr)(cap:Nat)(l:List am)(w:World)(g:Value)(wr:World):Prop:=∃k:Nat,g=.int .i64 (k:Nat)/\k<=l.length/\k8 f a b c d e o cap l w wr
theorem At(l:List am)(o:Option Addr)(cap:Nat)(a:World)(ae:Gl a)(H:bR a o cap l)(al:l.length<=64)(d:Nat->Prop)(e g c h:Nat)(ab:d c)(hF:∀x∈l,x.t.text=false->iB x)(w:World)
 (p:cT a d w e g c h o cap l) (J:gp w a.heap.size c l):
 Calls prog 54 #[.pointer (some ⟨e,0,none⟩)] w fun F w'=>F=.returned (.int .i64 0)/\k8 a d e g c h o cap l w w':=by
 have ao:=ai 0 p.blk;have O:k8 a d e g c h o cap l w w:=⟨p,J,bJ (aE _ w) _⟩;obtain⟨A,W,y⟩:=bH O hF H;clear p J O hF H;go_enter func54,ntmps54
 go_wp2
 go_loopw [13] (fun t wr=>QH a d e g c h o cap l w t wr) (fun t _=>l.length-(intOf t).toNat)
 case atStart=>exact⟨0,rfl,aZ _,A.o⟩
 case round=>
 clear A ao;obtain⟨k,rfl,a6,i⟩:=hrel;have N:(k:Int)<l.length∨¬((k:Int)<l.length):=ad;by_cases q:k<l.length
 ·have a7:(0:Int)<=k:=ad
  have a8:(k:Int)<l.length:=ad;clear N;obtain⟨x,s⟩:∃x,l[k]?=some x:=⟨_,aH q⟩;obtain⟨b,Q,Y,a4,bc,bd,be,bf,S,bg⟩:=(y.o.below i.1.base).at s;subst Y;have B:=ah s;obtain⟨a2,f,E,G⟩:=cm wr (.cells (typeRow x).toArray 53);have u:=ai 4 G;simp[typeRow]at u;have j:=ah (i.below E);clear s i E G;unfold typeRow at f;cases r:x.t.text with
  |true=>
   rw[r]at u f S;go_wp2_with(first|(rw[<-f];clear f)|fail)
   go_roundw
   case rel=>exact⟨k+1,aV,q,j.o⟩
   case measure=>exact bh
  |false=>
   have m:=W.o x (aX B.o) r;have L:=xm l (some ⟨b,Q,none⟩) cap a ae y.o al d e g c h ab k x B.o m.ok m.len a2 j.o.1 j.o.2.1;obtain⟨C,X⟩:=aD L m.narrow;rw[r]at u f S;clear L m;go_wp2_with(first|(rw[<-f];clear f)|fail)
   refine C.o.mono ?_;rintro F R ⟨⟨I,K,M⟩,af⟩;clear C;rcases af with⟨v,rfl,ag⟩|⟨an,rfl⟩
   ·obtain⟨n,keys,a9,ba,nv,a3,a1,d1,d2,rfl,d4,d5,d6,d7,d8⟩:=ag
    obtain⟨a0,av,rfl⟩:=bL d4;obtain⟨no,aq,rfl⟩:=bL d5;obtain⟨aa,Z,rfl⟩:=bL d8;have z:Hid (k8 a d e g c h (some ⟨b,Q,none⟩) cap l w R):=ah ⟨I,K,j.o.2.2.trans M⟩;obtain⟨bb,P,D⟩:=dF R (.cells #[.slice a0 (bm (aI x.t.nodes)).length av,.slice no a1.length aq,.slice aa keys.length Z] 174);have V:=ah (z.o.below D);clear I K M d1 d2 d4 d5 d6 d7 d8 D z;go_wp2_with(first|(rw[<-P];clear P)|fail)
    go_roundw
    case rel=>exact⟨k+1,aV,q,V.o⟩
    case measure=>exact bh
   ·exact absurd an X.o
 ·have T:=ah i
  clear i N;have a5:decide ((k:Int)<l.length)=false:=aR
  go_wp2
  go_ret;exact⟨rfl,T.o⟩
theorem QI{P:Program}{fn:Func}{p q:Tmp}{ty:TypeId}(g:fn.results=#[.cell p ty,.cell q ty])(tmps:Array Value)(w:World)(b a:Nat)(cs c:List Value)(d:TypeDesc)
 (m:tmps.getD p undef=.pointer (some ⟨b,0,none⟩)) (o:tmps.getD q undef=.pointer (some ⟨a,0,none⟩)) (h:w.rangeAt b 0 cs) (i:w.rangeAt a 0 c)
 (f:P.underlying ty=some d) (e:d.isRow=true) (j:(P.info? ty).map (·.size)=some cs.length) (l:(P.info? ty).map (·.size)=some c.length):
 (results fn tmps).run P w=.ok (.tuple #[.agg cs.toArray,.agg c.toArray]) w:=by
 have n:tmps[p]?.getD undef=.pointer (some ⟨b,0,none⟩):=by simpa using m
 have r:tmps[q]?.getD undef=.pointer (some ⟨a,0,none⟩):=by simpa using o
 simp[results,g,n,r,asAddr,xT w b 0 ty cs d h f e j,xT w a 0 ty c d i f e l]
theorem rv:(prog.info? 53).map (·.size)=some 6:=aA
theorem Gm(x:am):∀v∈typeRow x,v.oneCell'=true:=by intro v a;simp[typeRow]at a;rcases a with rfl|rfl|rfl|rfl|rfl|rfl<;>rfl
theorem bR.range{w:World}{o:Option Addr}{cap:Nat}{l:List am}(g:bR w o cap l){k:Nat}{x:am}(d:l[k]?=some x):∃b a,o=some ⟨b,a,none⟩/\b<w.heap.size/\w.rangeAt b (a+k*6) (typeRow x):=by have n:=(aL.1 d).1;obtain⟨b,a,e,m,h⟩:=g.1.2.2.2 ad;refine⟨b,a,e,m,fun j v c=> ?_⟩;have i:=(aL.1 c).1;have:=h (k*6+j) v ((lu (f:=typeRow) 6 (fun _=>rfl) d j i).trans c);rwa[<-iE]at this
theorem QJ(l:List Bytes)(j m:Option Addr)(d e:Nat)(u:l.length<=1048576)(w:World)(f:dZ w j d l)(g:dZ w m e l):
 Calls prog 164 #[.slice j l.length d,.slice m l.length e] w fun q w'=>q=.returned (.bool true)/\Below w.heap.size w w':=by
 obtain⟨n,o⟩:=aD f g;clear f g;go_enter func164,ntmps164
 go_wp2
 go_loopw [13] (fun c wr=>∃k:Nat,c=.int .i64 (k:Nat)/\k<=l.length/\Below w.heap.size w wr) (fun c _=>l.length-(intOf c).toNat)
 case atStart=>exact⟨0,rfl,aZ _,aE _ _⟩
 case round=>
 obtain⟨k,rfl,t,h⟩:=hrel;have a:=ah h;clear h;by_cases i:k<l.length
 ·obtain⟨x,b⟩:∃x,l[k]?=some x:=⟨_,aH i⟩
  obtain⟨r,f1,rfl,_,z⟩:=(n.o.below a.o).at b;obtain⟨s,f2,rfl,_,A⟩:=(o.o.below a.o).at b;have v:(0:Int)<=k:=ad;have y:(k:Int)<l.length:=ad;clear b
  go_wp2
  go_quiet(fail)
  have p:Hid (Below w.heap.size w (wr.drewN nq)):=ah (a.o.trans ((gh (aE _ wr) nq).mono a.o.size))
  go_wp2
  go_roundw
  case rel=>exact⟨k+1,aV,i,p.o⟩
  case measure=>exact bh
 ·obtain rfl:k=l.length:=ad
  go_wp2
  go_ret;exact⟨rfl,a.o⟩
def fY(a b:Nat):Value:=.agg #[.pointer (some ⟨a,0,none⟩),.pointer (some ⟨b,0,none⟩)]
theorem Au(d e i:Nat)(g h:List am)(V W:Option Addr)(q r:Nat)(x y:am)(E:g[i]?=some x)(F:h[i]?=some y)(bd:g.length<=64)(be:h.length<=64){a2 a3 a4 a5 a6 a7:Value}(w:World)
 (C:w.heap[d]?=some (.cells #[.slice V g.length q,a2,a3,a4] 78)) (D:w.heap[e]?=some (.cells #[.slice W h.length r,a5,a6,a7] 78)) (L:bR w V q g) (M:bR w W r h):
 Calls prog 99 #[fY d e,.agg #[.int .i64 (i:Nat),.int .i64 (i:Nat)]] w fun an w'=>an=.returned (.tuple #[dT x,dT y])/\Below w.heap.size w w':=by
 have bb:=(aL.1 E).1;have bc:=(aL.1 F).1;obtain⟨m,f1,rfl,ao,R⟩:=L.range E;obtain⟨n,f2,rfl,aq,T⟩:=M.range F;obtain⟨a,j⟩:=ar ((w.alloc (.cells #[.pointer (some ⟨d,0,none⟩),.pointer (some ⟨e,0,none⟩)] 104)).alloc (.cells #[.int .i64 (i:Nat),.int .i64 (i:Nat)] 106));have p:Below w.heap.size w a:=by rw[j];exact aG.alloc ak _
 have G:a.heap.size=w.heap.size+2:=by rw[j];simp
 have H:a.heap[w.heap.size]?=some (.cells #[.pointer (some ⟨d,0,none⟩),.pointer (some ⟨e,0,none⟩)] 104):=by rw[j];exact(bk _ _ _ ak).trans (aB w _)
 have I:a.heap[w.heap.size+1]?=some (.cells #[.int .i64 (i:Nat),.int .i64 (i:Nat)] 106):=by rw[j];have:=aB (w.alloc (.cells #[.pointer (some ⟨d,0,none⟩),.pointer (some ⟨e,0,none⟩)] 104)) (.cells #[.int .i64 (i:Nat),.int .i64 (i:Nat)] 106);rwa[bj]at this
 obtain⟨f,l⟩:=ar ((a.alloc (.cells #[.string ⟨#[]⟩,.string ⟨#[]⟩,.slice none 0 0,.string ⟨#[]⟩,.bool false,.slice none 0 0] 53)).alloc (.cells #[.string ⟨#[]⟩,.string ⟨#[]⟩,.slice none 0 0,.string ⟨#[]⟩,.bool false,.slice none 0 0] 53));have z:Below a.heap.size a f:=by rw[l];exact aG.alloc ak _
 have X:f.heap.size=w.heap.size+4:=by rw[l];simp[G]
 have ab:f.heap[a.heap.size]?=some (.cells #[.string ⟨#[]⟩,.string ⟨#[]⟩,.slice none 0 0,.string ⟨#[]⟩,.bool false,.slice none 0 0] 53):=by rw[l];exact(bk _ _ _ ak).trans (aB a _)
 have ae:f.heap[a.heap.size+1]?=some (.cells #[.string ⟨#[]⟩,.string ⟨#[]⟩,.slice none 0 0,.string ⟨#[]⟩,.bool false,.slice none 0 0] 53):=by rw[l];have:=aB (a.alloc (.cells #[.string ⟨#[]⟩,.string ⟨#[]⟩,.slice none 0 0,.string ⟨#[]⟩,.bool false,.slice none 0 0] 53)) (.cells #[.string ⟨#[]⟩,.string ⟨#[]⟩,.slice none 0 0,.string ⟨#[]⟩,.bool false,.slice none 0 0] 53);rw[bj]at this;exact this
 have t2:f.drew.there a.heap.size 0 6:=jt (w:=f.drew) (cs:=[.string ⟨#[]⟩,.string ⟨#[]⟩,.slice none 0 0,.string ⟨#[]⟩,.bool false,.slice none 0 0]) ab ap;have t3:f.drew.there (a.heap.size+1) 0 6:=jt (w:=f.drew) (cs:=[.string ⟨#[]⟩,.string ⟨#[]⟩,.slice none 0 0,.string ⟨#[]⟩,.bool false,.slice none 0 0]) ae ap;have K:Hid (∀c,Below a.heap.size a c->(c.cell? ⟨w.heap.size,0,none⟩=some (.pointer (some ⟨d,0,none⟩))/\c.cell? ⟨w.heap.size,1,none⟩=some (.pointer (some ⟨e,0,none⟩)))/\(c.cell? ⟨w.heap.size+1,0,none⟩=some (.int .i64 (i:Nat))/\c.cell? ⟨w.heap.size+1,1,none⟩=some (.int .i64 (i:Nat)))/\
  (c.cell? ⟨d,0,none⟩=some (.slice (some ⟨m,f1,none⟩) g.length q)/\c.cell? ⟨e,0,none⟩=some (.slice (some ⟨n,f2,none⟩) h.length r))/\c.rangeAt m (f1+i*6) (typeRow x)/\c.rangeAt n (f2+i*6) (typeRow y)):=ah fun c B=>by
  have s:=p.trans (B.mono p.size);have Z:=(B.block _ (ax H)).trans H;have aa:=(B.block _ (ax I)).trans I;have d1:=(s.block _ (ax C)).trans C;have d2:=(s.block _ (ax D)).trans D;exact⟨⟨ai 0 Z,ai 1 Z⟩,⟨ai 0 aa,ai 1 aa⟩,⟨ai 0 d1,ai 0 d2⟩,il R ao s,il T aq s⟩
 have b:=K.o f.drew z.drew;obtain⟨J,af,a9,ba⟩:=cr p z G X;have bf:(0:Int)<=i:=ad;have bg:(i:Int)<g.length:=ad;have bi:(i:Int)<h.length:=ad;clear E F R T L M C D p G H I z X ab ae;unfold fY;go_enter func99,ntmps99
 go_wp2_with(first|(rw[<-j];clear j)|(rw[<-l];clear l)|fail)
 refine oQ (S:=(fun c=>(c.cell? ⟨w.heap.size,0,none⟩=some (.pointer (some ⟨d,0,none⟩))/\c.cell? ⟨w.heap.size,1,none⟩=some (.pointer (some ⟨e,0,none⟩)))/\(c.cell? ⟨w.heap.size+1,0,none⟩=some (.int .i64 (i:Nat))/\c.cell? ⟨w.heap.size+1,1,none⟩=some (.int .i64 (i:Nat)))/\
  (c.cell? ⟨d,0,none⟩=some (.slice (some ⟨m,f1,none⟩) g.length q)/\c.cell? ⟨e,0,none⟩=some (.slice (some ⟨n,f2,none⟩) h.length r))/\c.rangeAt m (f1+i*6) (typeRow x)/\c.rangeAt n (f2+i*6) (typeRow y))) (last:=21) aA ?_
 (refine br (i:=0) rfl b ?_;simp only[Act.put,aM,aN,aK,cy,cz,cA];refine br (i:=1) rfl b ?_;simp only[Act.put,aM,aN,aK,cy,cz,cA];refine br (i:=2) rfl b ?_;simp only[Act.put,aM,aN,aK,cy,cz,cA];refine br (i:=3) rfl b ?_;simp only[Act.put,aM,aN,aK,cy,cz,cA];refine br (i:=4) rfl b ?_;simp only[Act.put,aM,aN,aK,cy,cz,cA];refine br (i:=5) rfl b ?_;simp only[Act.put,aM,aN,aK,cy,cz,cA];refine br (i:=6) rfl b ?_;simp only[Act.put,aM,aN,aK,cy,cz,cA];refine br (i:=7) rfl b ?_;simp only[Act.put,aM,aN,aK,cy,cz,cA];refine br (i:=8) rfl b ?_;simp only[Act.put,aM,aN,aK,cy,cz,cA])
 refine xi (i:=9) (v:=.agg (typeRow x).toArray) rfl (pl (by rfl) _ _ rfl m (f1+i*6) (by rfl) (typeRow x) _ (fun _ o=>o.2.2.2.1) I1 rfl rv) b ?_;simp only[Act.put,aM,aN,aK,cy,cz,cA];(refine br (i:=10) rfl b ?_;simp only[Act.put,aM,aN,aK,cy,cz,cA];refine br (i:=11) rfl b ?_;simp only[Act.put,aM,aN,aK,cy,cz,cA];refine br (i:=12) rfl b ?_;simp only[Act.put,aM,aN,aK,cy,cz,cA];refine br (i:=13) rfl b ?_;simp only[Act.put,aM,aN,aK,cy,cz,cA];refine br (i:=14) rfl b ?_;simp only[Act.put,aM,aN,aK,cy,cz,cA];refine br (i:=15) rfl b ?_;simp only[Act.put,aM,aN,aK,cy,cz,cA];refine br (i:=16) rfl b ?_;simp only[Act.put,aM,aN,aK,cy,cz,cA];refine br (i:=17) rfl b ?_;simp only[Act.put,aM,aN,aK,cy,cz,cA];refine br (i:=18) rfl b ?_;simp only[Act.put,aM,aN,aK,cy,cz,cA])
 refine xi (i:=19) (v:=.agg (typeRow y).toArray) rfl (pl (by rfl) _ _ rfl n (f2+i*6) (by rfl) (typeRow y) _ (fun _ o=>o.2.2.2.2) I1 rfl rv) b ?_;simp only[Act.put,aM,aN,aK,cy,cz,cA];refine gn (i:=20) aA rfl (fun ag O=> ?_);refine xj (by rfl) 53 _ _ rfl a.heap.size 0 (typeRow x) (by rfl) (by rfl) t2 rv (Gm x) (fun Y t=> ?_);have A:Below a.heap.size a Y:=t.below af.o.drew (az _);have Q:=K.o Y A;have t35:=t.there t3;refine O.out _ _ (fun _=>Q) (fun _=> ?_);try simp only[Act.put,aM,aN,aK]
 refine gn (i:=21) aA rfl (fun al P=> ?_);refine xj (by rfl) 53 _ _ rfl (a.heap.size+1) 0 (typeRow y) (by rfl) (by rfl) t35 rv (Gm y) (fun a8 u=> ?_);have a0:=u.range t.here (.inl ad);have a1:=u.here;have N:=u.below A ad;refine P.out _ _ (fun o=>absurd rfl o) (fun _=> ?_);try simp only[Act.put,aM,aN,aK]
 refine oP aA ?_ _;have av:Below w.heap.size w a8:=J.o.trans (N.mono J.o.size);clear O P ag al b Q t2 t3 t35 A N t u;go_wp2_with fail
 (try simp only[Exit.inBlock,Exit.then])
 refine cg (QI rfl _ _ a.heap.size (a.heap.size+1) _ _ _ (by rfl) (by rfl) a0 a1 I1 rfl rv rv) rfl ⟨rfl,av⟩
theorem QK(c d i:Nat)(j l:List am)(G H:Option Addr)(r s:Nat)(x y:am)(E:j[i]?=some x)(F:l[i]?=some y)(W:j.length<=64)(X:l.length<=64)(Y:y.t.label=x.t.label)(P:y.t.attrs=x.t.attrs)(V:x.t.attrs.length<=1048576){Z aa ab ae af ag:Value}(w:World)
 (A:w.heap[c]?=some (.cells #[.slice G j.length r,Z,aa,ab] 78)) (B:w.heap[d]?=some (.cells #[.slice H l.length s,ae,af,ag] 78)) (v:bR w G r j) (z:bR w H s l):
 Calls prog 100 #[fY c d,.agg #[.int .i64 (i:Nat),.int .i64 (i:Nat)]] w fun f w'=>f=.returned (.bool true)/\Below w.heap.size w w':=by
 obtain⟨m,g⟩:=ar ((w.alloc (.cells #[.pointer (some ⟨c,0,none⟩),.pointer (some ⟨d,0,none⟩)] 104)).alloc (.cells #[.int .i64 (i:Nat),.int .i64 (i:Nat)] 106));have b:Below w.heap.size w m:=by rw[g];exact aG.alloc ak _
 have I:m.heap[w.heap.size]?=some (.cells #[.pointer (some ⟨c,0,none⟩),.pointer (some ⟨d,0,none⟩)] 104):=by rw[g];exact(bk _ _ _ ak).trans (aB w _)
 have J:m.heap[w.heap.size+1]?=some (.cells #[.int .i64 (i:Nat),.int .i64 (i:Nat)] 106):=by rw[g];have:=aB (w.alloc (.cells #[.pointer (some ⟨c,0,none⟩),.pointer (some ⟨d,0,none⟩)] 104)) (.cells #[.int .i64 (i:Nat),.int .i64 (i:Nat)] 106);rwa[bj]at this
 have al:=ai 0 I;have an:=ai 1 I;have ao:=ai 0 J;have aq:=ai 1 J;have n:=Au c d i j l G H r s x y E F W X m ((b.block _ (ax A)).trans A) ((b.block _ (ax B)).trans B) (v.below b) (z.below b);have R:=(v.2 x (aX E)).1;have D:=(z.2 y (aX F)).1;rw[P]at D;have T:Hid (∀e,Below w.heap.size w e->Calls prog 164 #[.slice x.ao x.t.attrs.length x.ac,.slice y.ao x.t.attrs.length y.ac] e fun f w'=>f=.returned (.bool true)/\Below e.heap.size e w'):=ah fun e Q=>QJ x.t.attrs x.ao y.ao x.ac y.ac V e (R.below Q) (D.below Q);unfold dT typeRow fY at n;rw[Y,P]at n;obtain⟨M,p⟩:=aD n b;clear n b R D E F v z A B I J;unfold fY;go_enter func100,ntmps100
 go_wp2_with(first|(rw[<-g];clear g)|fail)
 refine M.o.mono ?_;rintro f a ⟨rfl,q⟩;obtain⟨o,h⟩:=ar ((a.alloc (.cells #[.string ⟨x.t.name.toArray⟩,.string ⟨x.t.label.toArray⟩,.slice x.ao x.t.attrs.length x.ac,.string ⟨x.t.key.toArray⟩,.bool x.t.text,.slice x.no x.t.nodes.length x.nc] 53)).alloc (.cells #[.string ⟨y.t.name.toArray⟩,.string ⟨x.t.label.toArray⟩,.slice y.ao x.t.attrs.length y.ac,.string ⟨y.t.key.toArray⟩,.bool y.t.text,.slice y.no y.t.nodes.length y.nc] 53));have N:Below a.heap.size a o:=by rw[h];exact aG.alloc ak _
 have t:o.heap[a.heap.size]?=some (.cells #[.string ⟨x.t.name.toArray⟩,.string ⟨x.t.label.toArray⟩,.slice x.ao x.t.attrs.length x.ac,.string ⟨x.t.key.toArray⟩,.bool x.t.text,.slice x.no x.t.nodes.length x.nc] 53):=by rw[h];exact(bk _ _ _ ak).trans (aB a _)
 have u:o.heap[a.heap.size+1]?=some (.cells #[.string ⟨y.t.name.toArray⟩,.string ⟨x.t.label.toArray⟩,.slice y.ao x.t.attrs.length y.ac,.string ⟨y.t.key.toArray⟩,.bool y.t.text,.slice y.no y.t.nodes.length y.nc] 53):=by rw[h];have:=aB (a.alloc (.cells #[.string ⟨x.t.name.toArray⟩,.string ⟨x.t.label.toArray⟩,.slice x.ao x.t.attrs.length x.ac,.string ⟨x.t.key.toArray⟩,.bool x.t.text,.slice x.no x.t.nodes.length x.nc] 53)) (.cells #[.string ⟨y.t.name.toArray⟩,.string ⟨x.t.label.toArray⟩,.slice y.ao x.t.attrs.length y.ac,.string ⟨y.t.key.toArray⟩,.bool y.t.text,.slice y.no y.t.nodes.length y.nc] 53);rwa[bj]at this
 have a0:=ai 1 t;have a1:=ai 2 t;have a2:=ai 1 u;have a3:=ai 2 u;have C:=(p.o.trans (q.mono p.o.size)).trans (N.mono (aJ p.o.size q.size));obtain⟨L,K⟩:=aD (T.o o C) C;clear q N t u C M al an ao aq;go_wp2_with(first|(rw[<-h];clear h)|fail)
 refine L.o.mono ?_;rintro f av ⟨rfl,O⟩;have S:Hid (Below w.heap.size w av):=ah (K.o.trans (O.mono K.o.size));clear L a0 a1 a2 a3 O
 go_wp2
 go_ret;exact⟨rfl,S.o⟩
structure KB where
 K:Nat
 M1:Nat
 M2:Nat
 M3:Nat
structure cC(x y z:Nat)(w w':World):Prop where
 os:w'.os=w.os
 tape:w'.tape=w.tape
 output:w'.output=w.output
 size:w.heap.size<=w'.heap.size
 block:∀q,q<w.heap.size->q≠x->q≠y->q≠z->w'.heap[q]?=w.heap[q]?
section
variable{x y z:Nat} {w w' w2:World}
theorem cC.trans(a:cC x y z w w')(k:cC x y z w' w2):cC x y z w w2:=⟨k.os.trans a.os,k.tape.trans a.tape,k.output.trans a.output,aJ a.size k.size,fun q b c d e=>(k.block q (dn b a.size) c d e).trans (a.block q b c d e)⟩
theorem cC.below(a:Below w.heap.size w w'):cC x y z w w':=⟨a.os,a.tape,a.output,a.size,fun q b _ _ _=>a.block q b⟩
theorem cC.grown{q:Nat}(a:w.grownBy w' (some q))(g:q=x∨q=y∨q=z):cC x y z w w':=⟨a.os,a.tape,a.output,a.size,fun k c d e f=>a.block k c (fun b=>by injection b with b;omega)⟩
end
structure dg(W0:World)(a b:KB)(o1:Option Addr)(c1:Nat)(l1:List am)(o2:Option Addr)(c2:Nat)(l2:List am)(w:World):Prop where
 fst:cT W0 (fun q=>q=a.M2∨q=b.M2∨q=b.M3) w a.K a.M1 a.M2 a.M3 o1 c1 l1
 made1:gp w W0.heap.size a.M2 l1
 snd:cT W0 (fun q=>q=b.M2∨q=a.M2∨q=a.M3) w b.K b.M1 b.M2 b.M3 o2 c2 l2
 made2:gp w W0.heap.size b.M2 l2
 far1:a.M2≠b.K/\a.M2≠b.M1/\a.M2≠b.M2/\a.M2≠b.M3
 far2:b.M2≠a.K/\b.M2≠a.M1/\b.M2≠a.M3
 far3:b.M3≠a.K/\b.M3≠a.M1/\b.M3≠a.M3
section
variable{W0 w w':World} {a b:KB} {o1 o2:Option Addr} {c1 c2:Nat} {l1 l2:List am}
theorem gp.block{B M:Nat}{l:List am}(b:gp w B M l):∃a c,w.heap[M]?=some (.map a c):=by obtain⟨n,f,d,_⟩:=b;exact d.block
theorem cT.block3{b:Nat->Prop}{d e g a cap:Nat}{o:Option Addr}{l:List am}(i:cT W0 b w d e g a o cap l):∃h c,w.heap[a]?=some (.map h c):=by obtain⟨n,f,j,_⟩:=i.inside;exact j.block
theorem dg.below(d:dg W0 a b o1 c1 l1 o2 c2 l2 w)(e:Below w.heap.size w w'):dg W0 a b o1 c1 l1 o2 c2 l2 w':=
 ⟨d.fst.kept (bJ e none) (fun q c=>by cases c),d.made1.grown (bJ e none) (fun q c=>by cases c),d.snd.kept (bJ e none) (fun q c=>by cases c),d.made2.grown (bJ e none) (fun q c=>by cases c),d.far1,d.far2,d.far3⟩
theorem dg.set1(c:dg W0 a b o1 c1 l1 o2 c2 l2 w)(g:cT W0 (fun q=>q=a.M2∨q=b.M2∨q=b.M3) w' a.K a.M1 a.M2 a.M3 o1 c1 l1)(h:gp w' W0.heap.size a.M2 l1)(f:w.grownBy w' (some a.M2)):dg W0 a b o1 c1 l1 o2 c2 l2 w':=by
 have e:=c.far1;refine⟨g,h,c.snd.kept f (fun q d=> ?_),c.made2.grown f (fun q d=> ?_),c.far1,c.far2,c.far3⟩
 ·injection d with d
  subst d;exact⟨c.fst.fresh.2.2.1,e.1,.inr ⟨e.2.1,e.2.2.1,e.2.2.2,.inr (.inl rfl)⟩⟩
 ·injection d with d
  subst d;exact⟨.inl c.made1.block,e.2.2.1⟩
theorem dg.set2(d:dg W0 a b o1 c1 l1 o2 c2 l2 w)(h:cT W0 (fun q=>q=b.M2∨q=a.M2∨q=a.M3) w' b.K b.M1 b.M2 b.M3 o2 c2 l2)(i:gp w' W0.heap.size b.M2 l2)(g:w.grownBy w' (some b.M2)):dg W0 a b o1 c1 l1 o2 c2 l2 w':=by
 have f:=d.far1;have e:=d.far2;refine⟨d.fst.kept g (fun q c=> ?_),d.made1.grown g (fun q c=> ?_),h,i,d.far1,d.far2,d.far3⟩
 ·injection c with c
  subst c;exact⟨d.snd.fresh.2.2.1,e.1,.inr ⟨e.2.1,fun c=>f.2.2.1 c.symm,e.2.2,.inr (.inl rfl)⟩⟩
 ·injection c with c
  subst c;exact⟨.inl d.made2.block,fun c=>f.2.2.1 c.symm⟩
theorem dg.set3(d:dg W0 a b o1 c1 l1 o2 c2 l2 w)(h:cT W0 (fun q=>q=b.M2∨q=a.M2∨q=a.M3) w' b.K b.M1 b.M2 b.M3 o2 c2 l2)(f:w.grownBy w' (some b.M3)):dg W0 a b o1 c1 l1 o2 c2 l2 w':=by
 have g:=d.far1;have e:=d.far3;refine⟨d.fst.kept f (fun q c=> ?_),d.made1.grown f (fun q c=> ?_),h,d.made2.grown f (fun q c=> ?_),d.far1,d.far2,d.far3⟩
 ·injection c with c
  subst c;exact⟨d.snd.fresh.2.2.2,e.1,.inr ⟨e.2.1,fun c=>g.2.2.2 c.symm,e.2.2,.inr (.inr rfl)⟩⟩
 ·injection c with c
  subst c;exact⟨.inl d.snd.block3,fun c=>g.2.2.2 c.symm⟩
 ·injection c with c
  subst c;exact⟨.inl d.snd.block3,fun c=>d.snd.apart.2.2.1 c.symm⟩
theorem iV.other{B q a:Nat}{v:Value}{l:List aj}{cs:Array Value}(m:iV w B v l)(D:w.grownBy w' (some q))(C:w.heap[q]?=some (.cells cs a (0,0)))(b:a≠9/\a≠125/\a≠3/\a≠4):iV w' B v l:=by obtain⟨n,keys,I,J,nv,i,K,o,p,r,s,x,y,z,A⟩:=m;have c:∀{t size n:Nat} {u:Value} {xs:List Value},a≠t->w.ownsRow B t size u n xs->w'.ownsRow B t size u n xs:=fun E d=>aP d (fun g e=>D.block g (aF d e).2 (fun f=>gR d C (fun h=>E h.symm) (by rw[e,f])));exact⟨n,keys,I,J,nv,i,K,o,p,r,c b.1 s,c b.2.1 x,y,fun j v H F G=>c b.2.2.1 (z j v H F G),c b.2.2.2 A⟩
theorem dg.other{q d:Nat}{cs:Array Value}(e:dg W0 a b o1 c1 l1 o2 c2 l2 w)(j:w.grownBy w' (some q))(t:W0.heap.size<=q)(h:w.heap[q]?=some (.cells cs d (0,0)))(s:d≠78)(B:d≠9/\d≠125/\d≠3/\d≠4):dg W0 a b o1 c1 l1 o2 c2 l2 w':=by
 have C:∀{M:Nat},(∃o c,w.heap[M]?=some (Obj.map o c))->some M≠some q:=fun⟨o,c,i⟩ d=>by injection d with d;subst d;rw[h]at i;cases i
 have u:∀{M:Nat} {l:List am},gp w W0.heap.size M l->gp w' W0.heap.size M l:=fun i=>by obtain⟨n,f,r,y,z⟩:=i;exact⟨n,f,r.kept j (C r.block),y,fun a v D=>by obtain⟨x,E,A⟩:=z a v D;exact⟨x,E,A.other j h B⟩⟩
 refine⟨e.fst.kept j (fun p g=> ?_),u e.made1,e.snd.kept j (fun p g=> ?_),u e.made2,e.far1,e.far2,e.far3⟩
 ·injection g with g
  subst g;refine⟨t,fun m=> ?_,.inl ⟨_,_,h⟩⟩;have:=e.fst.blk;rw[<-m,h]at this;injection this with this
  injection this with _ this
  exact s this
 ·injection g with g
  subst g;refine⟨t,fun m=> ?_,.inl ⟨_,_,h⟩⟩;have:=e.snd.blk;rw[<-m,h]at this;injection this with this
  injection this with _ this
  exact s this
theorem cT.low{g:World}{b:Nat->Prop}{c d e f cap:Nat}{o:Option Addr}{l:List am}(a:cT g b w c d e f o cap l)(h:Below W0.heap.size W0 g):cT W0 b w c d e f o cap l:=by have i:=h.size;obtain⟨f1,f2,f3,f4⟩:=a.fresh;exact⟨h.trans (a.base.mono i),⟨ad,ad,ad,ad⟩,a.blk,a.places,a.made,a.inside,a.apart⟩
end
def Gn(i:Nat)(o1:Option Addr)(c1:Nat)(l1:List am)(o2:Option Addr)(c2:Nat)(l2:List am)(w:World)(c:Ending)(w':World):Prop:=
 ∃a b:KB,c=.returned (.tuple #[fY a.K b.K,.agg #[.int .i64 (i:Nat),.int .i64 (i:Nat)],.int .i64 0])/\dg w a b o1 c1 l1 o2 c2 l2 w'/\w.heap.size<=a.M2/\w.heap.size<=b.M2/\w.heap.size<=b.M3
theorem QL(o1 o2:Option Addr)(c1 c2:Nat)(l1 l2:List am)(X:dI l1)(a8:dI l2)(bb:bT (l1.map am.t)=0)(bc:bT (l2.map am.t)=0)(n:Bytes)(bg:n.length<=1048576)(i:Nat)(bi:placeS (l1.map am.t) n=some i)(bl:placeS (l2.map am.t) n=some i)
 (w:World) (T:bR w o1 c1 l1) (a6:bR w o2 c2 l2):
 Calls prog 44 #[.agg #[.slice o1 l1.length c1],.string ⟨n.toArray⟩,.agg #[.slice o2 l2.length c2],.string ⟨n.toArray⟩] w (Gn i o1 c1 l1 o2 c2 l2 w):=by
 obtain⟨m,r⟩:=ar ((((w.alloc (.cells #[.slice o1 l1.length c1] 24)).alloc (.cells #[.slice o2 l2.length c2] 24)).alloc (.cells #[.pointer none,.pointer none] 104)).alloc (.cells #[.int .i64 0,.int .i64 0] 106));have M:Below w.heap.size w m:=by rw[r];exact((aG.alloc ak _).alloc (by simp<;>omega) _).alloc (by simp<;>omega) _
 have bt:m.heap[w.heap.size]?=some (.cells #[.slice o1 l1.length c1] 24):=by rw[r];exact(bk _ _ _ (by simp<;>omega)).trans ((bk _ _ _ (by simp<;>omega)).trans ((bk _ _ _ ak).trans (aB w _)))
 have af:m.heap[w.heap.size+1]?=some (.cells #[.slice o2 l2.length c2] 24):=by rw[r];have:=aB (w.alloc (.cells #[.slice o1 l1.length c1] 24)) (.cells #[.slice o2 l2.length c2] 24);rw[bj]at this;exact(bk _ _ _ (by simp<;>omega)).trans ((bk _ _ _ ak).trans this)
 have ag:m.heap[w.heap.size+1+1]?=some (.cells #[.pointer none,.pointer none] 104):=by rw[r];have:=aB ((w.alloc (.cells #[.slice o1 l1.length c1] 24)).alloc (.cells #[.slice o2 l2.length c2] 24)) (.cells #[.pointer none,.pointer none] 104);rw[bj,bj]at this;exact(bk _ _ _ ak).trans this
 have al:m.heap[w.heap.size+1+1+1]?=some (.cells #[.int .i64 0,.int .i64 0] 106):=by rw[r];have:=aB (((w.alloc (.cells #[.slice o1 l1.length c1] 24)).alloc (.cells #[.slice o2 l2.length c2] 24)).alloc (.cells #[.pointer none,.pointer none] 104)) (.cells #[.int .i64 0,.int .i64 0] 106);rw[bj,bj,bj]at this;exact this
 have B:=wj l1 o1 c1 m (T.below M) X;obtain⟨u,N⟩:=aD B M;have a1:Hid (∀C,Below m.heap.size m C->C.cell? ⟨w.heap.size+1,0,none⟩=some (.slice o2 l2.length c2)/\C.heap[w.heap.size+1+1]?=some (.cells #[.pointer none,.pointer none] 104)/\C.heap[w.heap.size+1+1+1]?=some (.cells #[.int .i64 0,.int .i64 0] 106)):=ah fun C A=>
  ⟨ai 0 ((A.block _ (ax af)).trans af),(A.block _ (ax ag)).trans ag,(A.block _ (ax al)).trans al⟩
 have d0:=ai 0 bt;obtain⟨aq,av,bC,bD,bu,an,bz,ao⟩:=s9 bb bc bi bl T a6 X a8;clear B M bt af ag al bb bc bi bl T a6 X a8;go_enter func44,ntmps44
 go_wp2_with(first|(rw[<-r];clear r)|fail)
 refine u.o.mono ?_;rintro y w2 ⟨D,⟨aa,_⟩|⟨_,b,rfl,p,d,l,a7,a9⟩⟩
 ·exact absurd aq.o aa
 clear u d0;have V:=N.o.trans (D.mono N.o.size);have B:=wj l2 o2 c2 w2 (an.o.below V) ao.o;have u:=ah B;obtain⟨d1,_,_⟩:=a1.o w2 D;obtain⟨O,P,bw,a2⟩:=cr a7 a9 V D;clear B a7 a9 V D;go_wp2_with fail
 refine u.o.mono ?_;rintro y J ⟨E,⟨aa,_⟩|⟨_,e,rfl,x,g,j,W,ba⟩⟩
 ·exact absurd av.o aa
 clear u d1;have Y:cT w (fun q=>q=d∨q=g∨q=j) J b p d l o1 c1 l1:=by have b2:=((O.o (fun q=>q=d∨q=g∨q=j)).low N.o);exact b2.kept (bJ E none) (fun q y=>by cases y)
 have bf:cT w (fun q=>q=g∨q=d∨q=l) J e x g j o2 c2 l2:=(W _).low bw.o;have z:=O.o (fun _=>False);have b1:=ax z.blk;have bN:p<w2.heap.size:=by obtain⟨cc,c,A⟩:=z.places.block;exact ax A
 have bZ:d<w2.heap.size:=by obtain⟨n,f,Z,_⟩:=z.made;exact Z.lt
 have b0:l<w2.heap.size:=by obtain⟨n,f,Z,_⟩:=z.inside;exact Z.lt
 have bF:=(W (fun _=>False)).fresh;have ab:dg w ⟨b,p,d,l⟩ ⟨e,x,g,j⟩ o1 c1 l1 o2 c2 l2 J:=
  ⟨Y,⟨0,_,P.o.of_block (E.block _ P.o.lt),aZ _,fun a v ae=>by cases ae⟩,bf,⟨0,_,ba,aZ _,fun a v ae=>by cases ae⟩,
    ⟨by show d≠e;omega,by show d≠x;omega,by show d≠g;omega,by show d≠j;omega⟩,⟨by show g≠b;omega,by show g≠p;omega,by show g≠l;omega⟩,⟨by show j≠b;omega,by show j≠p;omega,by show j≠l;omega⟩⟩
 have I:=ai 0 Y.blk;have h:=vt l1 o1 c1 J (bu.o.below ab.fst.base) bz.o n bg;unfold nW at h;rw[ay aq.o,bC.o]at h;simp only at h;obtain⟨t,a0,Q⟩:=bH h ab (a2.o.trans (E.mono a2.o.size));clear Y bf z b1 bN bZ b0 bF ab h W ba E O P;go_wp2_with fail
 refine t.o.mono ?_;rintro y b7 ⟨rfl,R⟩;clear t I;have F:=a0.o.below R;have I:=ai 0 F.snd.blk;simp only at I;have h:=vt l2 o2 c2 b7 (an.o.below F.snd.base) ao.o n bg;unfold nW at h;rw[ay av.o,bD.o]at h;simp only at h;obtain⟨t,bA,a3⟩:=bH h F (Q.o.trans (R.mono Q.o.size));clear F h R a0 Q;go_wp2_with fail
 refine t.o.mono ?_;rintro y K ⟨rfl,S⟩;clear t I;have bd:=bA.o.below S;have be:=a3.o.trans (S.mono a3.o.size);obtain⟨_,s,o⟩:=a1.o K be;have b8:=ai 0 s;have b9:=ai 1 s;have ca:=ai 0 o;have cb:=ai 1 o;have f20:=aT s 0;have f21:=aT s 1;have f30:=aT o 0;have f31:=aT o 1;obtain⟨a4,a5,bB⟩:=bH s o bd;clear bd be s o S;go_wp2_with fail
 obtain⟨L,H⟩:=ar (((((K.setCell ⟨w.heap.size+1+1,0,none⟩ (.pointer (some ⟨b,0,none⟩))).setCell ⟨w.heap.size+1+1,1,none⟩ (.pointer (some ⟨e,0,none⟩))).setCell ⟨w.heap.size+1+1+1,0,none⟩ (.int .i64 (i:Nat))).setCell ⟨w.heap.size+1+1+1,1,none⟩ (.int .i64 (i:Nat))));have bo:L.heap[w.heap.size+1+1]?=some (.cells #[.pointer (some ⟨b,0,none⟩),.pointer (some ⟨e,0,none⟩)] 104):=by rw[H];exact(aS _ _ _ _ _ ad).trans ((aS _ _ _ _ _ ad).trans (bn _ _ 1 _ (bn _ _ 0 _ a4.out)))
 have bq:L.heap[w.heap.size+1+1+1]?=some (.cells #[.int .i64 (i:Nat),.int .i64 (i:Nat)] 106):=by rw[H];exact bn _ _ 1 _ (bn _ _ 0 _ ((aS _ _ _ _ _ ad).trans ((aS _ _ _ _ _ ad).trans a5.out)))
 have G:dg w ⟨b,p,d,l⟩ ⟨e,x,g,j⟩ o1 c1 l1 o2 c2 l2 L:=by have t1:=bB.o.other ((iz K (w.heap.size+1+1) 0 (.pointer (some ⟨b,0,none⟩))).trans (iz _ (w.heap.size+1+1) 1 (.pointer (some ⟨e,0,none⟩)))) ad a4.out ap ⟨ap,ap,ap,ap⟩;have o:((K.setCell ⟨w.heap.size+1+1,0,none⟩ (.pointer (some ⟨b,0,none⟩))).setCell ⟨w.heap.size+1+1,1,none⟩ (.pointer (some ⟨e,0,none⟩))).heap[w.heap.size+1+1+1]?=some (.cells #[.int .i64 0,.int .i64 0] 106):=(aS _ _ _ _ _ ad).trans ((aS _ _ _ _ _ ad).trans a5.out);rw[H];exact t1.other ((iz _ (w.heap.size+1+1+1) 0 (.int .i64 (i:Nat))).trans (iz _ (w.heap.size+1+1+1) 1 (.int .i64 (i:Nat)))) ad o ap ⟨ap,ap,ap,ap⟩
 rw[<-H];have b3:=ai 0 bo;have b4:=ai 1 bo;have b5:=ai 0 bq;have b6:=ai 1 bq;have bE:Gn i o1 c1 l1 o2 c2 l2 w (.returned (.tuple #[.agg #[.pointer (some ⟨b,0,none⟩),.pointer (some ⟨e,0,none⟩)],.agg #[.int .i64 (i:Nat),.int .i64 (i:Nat)],.int .i64 0])) L:=⟨⟨b,p,d,l⟩,⟨e,x,g,j⟩,rfl,G,G.fst.fresh.2.2.1,G.snd.fresh.2.2.1,G.snd.fresh.2.2.2⟩;(try simp only[Exit.inBlock,Exit.then])
 exact cg (v:=.tuple #[.agg #[.pointer (some ⟨b,0,none⟩),.pointer (some ⟨e,0,none⟩)],.agg #[.int .i64 (i:Nat),.int .i64 (i:Nat)],.int .i64 0]) (by simp[results,results44,go_sem,b3,b4,b5,b6,underlying104,rU]) rfl bE
theorem QM(W0:World)(i:Gl W0)(a b:KB)(o1 o2:Option Addr)(c1 c2:Nat)(l1 l2:List am)(q:bR W0 o1 c1 l1)(r:bR W0 o2 c2 l2)(P:l1.length<=64)(Q:l2.length<=64)(s:∀x∈l1,x.t.text=false->iB x)(t:∀x∈l2,x.t.text=false->iB x)
 (w:World) (j:dg W0 a b o1 c1 l1 o2 c2 l2 w):Calls prog 45 #[fY a.K b.K] w fun d w'=>d=.returned (.int .i64 0)/\dg W0 a b o1 c1 l1 o2 c2 l2 w'/\cC a.M2 b.M2 b.M3 w w':=by
 obtain⟨M,u,h,m⟩:=cm w (.cells #[.pointer (some ⟨a.K,0,none⟩),.pointer (some ⟨b.K,0,none⟩)] 104);have e:=j.below h;have v:=At l1 o1 c1 W0 i q P _ a.K a.M1 a.M2 a.M3 (.inl rfl) s M e.fst e.made1;obtain⟨n,K,F,p⟩:=cr v e h m;have d0:=ai 0 m;obtain⟨I,E,H⟩:=bH i r t;have N:a.M2≠w.heap.size:=by obtain⟨R,c,O⟩:=j.made1.block;have:=ax O;omega
 clear e v h m j i q r s t;unfold fY;go_enter func45,ntmps45
 go_wp2_with(first|(rw[<-u];clear u)|fail)
 refine n.o.mono ?_;rintro d w2 ⟨rfl,z,B,g⟩;have f:=K.o.set1 z B g;have d1:=ai 1 ((g.block _ (ax p.out) (fun d=>by injection d with d;exact N d.symm)).trans p.out);have y:=At l2 o2 c2 W0 I.o E.o Q _ b.K b.M1 b.M2 b.M3 (.inl rfl) H.o w2 f.snd f.made2;obtain⟨o,L,J⟩:=bH y f g;clear z B g f y n d0;go_wp2_with fail
 refine o.o.mono ?_;rintro d D ⟨rfl,A,C,l⟩;have G:Hid (dg W0 a b o1 c1 l1 o2 c2 l2 D/\cC a.M2 b.M2 b.M3 w D):=ah ⟨L.o.set2 A C l,((cC.below F.o).trans (cC.grown J.o (.inl rfl))).trans (cC.grown l (.inr (.inl rfl)))⟩;clear o A C l d1
 go_wp2
 go_ret;exact⟨rfl,G.o⟩
section
variable{w w' W0:World} {M:Nat} {L:List Pr} {p:Pr}
theorem AA(s:fL w M L)(i:im p)(D:p∈L){k:TypeId}(c:prog.underlying k=some .string∨prog.underlying k=some (.int .i64)){H:Type}{o:Value->Option (DataW H×List MemPlace)}{n:Nat}{j:DataW H}(u:w.ownsMap prog k o M n j):False:=by
 obtain⟨R,P,b,m,_,_⟩:=u;obtain⟨f,⟨N,⟨r,O,B,F,_,A⟩,S,E⟩,C⟩:=s;rw[B]at b;injection b with b
 injection b with q Q
 subst q;obtain⟨v,G⟩:=(C p i).1 D;have e:=(E _ (tP i)).1;rw[G]at e;cases g:r.toList with
 |nil=>
  rw[A,g]at e;cases e
 |cons x t=>
  obtain⟨y,J⟩:=F.reads x (by rw[g];simp);obtain⟨z,K⟩:=m.reads x (by rw[g];simp);obtain⟨T,a⟩:∃l,keyOf prog 106 x.key=some l:=⟨_,Go.WideElems.rd_key J⟩;obtain⟨V,d⟩:∃l,keyOf prog k x.key=some l:=⟨_,Go.WideElems.rd_key K⟩;unfold keyOf at a;rw[rU]at a;simp only at a;split at a
  ·next hc=>
   rw[cS]at hc;have h:=hc.2;unfold keyOf mapKey at d;cases I:x.key<;>rcases c with c|c<;>rw[c]at d<;>rw[I]at d h<;>simp[Value.formed,rU]at d h
  ·cases a
theorem cT.seen{t:Nat->Prop}{m u y z:Nat}{o:Option Addr}{cap:Nat}{l:List am}(d:cT W0 t w m u y z o cap l)(s:fL w M L)(F:im p)(E:p∈L)(O:W0.heap.size<=M)(i:w.grownBy w' (some M)):cT W0 t w' m u y z o cap l:=by
 have G:∀{H:Type} {q:Value->Option (DataW H×List MemPlace)} {e n:Nat} {h:DataW H},w.ownsMap prog 9 q e n h->some e≠some M:=fun j b=>by injection b with b;subst b;exact AA s F E (.inl gq) j
 have X:∀{H:Type} {q:Value->Option (DataW H×List MemPlace)} {e n:Nat} {h:DataW H},w.ownsMap prog 3 q e n h->some e≠some M:=fun j b=>by injection b with b;subst b;exact AA s F E (.inr cU) j
 have I:∀{e n:Nat} {f:Lit->Option Value},bp w prog 3 e n f->some e≠some M:=fun⟨h,r,_⟩=>X r;obtain⟨V,f2,B,Q⟩:=d.made;obtain⟨W,f3,C,R,P⟩:=d.inside;refine⟨d.base.grown i d.base.size (fun k b=>by cases b;exact O),d.fresh,?_,d.places.kept i ?_,⟨V,f2,B.kept i (I B),Q⟩,⟨W,f3,C.kept i (I C),R,fun a v S=> ?_⟩,d.apart⟩
 ·refine(i.block m (ax d.blk) (fun b=> ?_)).trans d.blk
  obtain⟨Y,c,D⟩:=s.block;injection b with b
  rw[<-b,d.blk]at D;cases D
 ·obtain⟨h,n,_,_,j⟩:=d.places
  exact G j
 ·obtain⟨e,x,b,T,J,K,n,g,A,N⟩:=P a v S
  refine⟨e,x,b,T,J,K,n,g,A.kept i ?_,N⟩;obtain⟨h,r,_⟩:=A;exact G r
theorem dg.seen{a b:KB}{v x:Option Addr}{o r:Nat}{t u:List am}(d:dg W0 a b v o t x r u w)(h:fL w M L)(m:im p)(j:p∈L)(s:W0.heap.size<=M)(g:w.grownBy w' (some M)):dg W0 a b v o t x r u w':=by
 have ne:∀{i:Nat} {l:List am},gp w W0.heap.size i l->∀q,some M=some q->((∃y c,w.heap[q]?=some (.map y c))∨q<W0.heap.size)/\q≠i:=fun{i l} z q e=>by
  injection e with e
  subst e;obtain⟨n,f,⟨B,A,_⟩,_⟩:=z;exact⟨.inl h.block,fun e=>by subst e;exact AA h m j (.inr cU) A⟩
 exact⟨d.fst.seen h m j s g,d.made1.grown g (ne d.made1),d.snd.seen h m j s g,d.made2.grown g (ne d.made2),d.far1,d.far2,d.far3⟩
end
end Go.Proofs.YtnadadbndcdolaaGreatDoor
