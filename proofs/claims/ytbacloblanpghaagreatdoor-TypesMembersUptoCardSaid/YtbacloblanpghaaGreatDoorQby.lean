import Derived.Test.YtbacloblanpghaaGreatDoorQbw
import Derived.Test.YtbacloblanpghaaGreatDoorQbx
set_option linter.unusedVariables false
set_option linter.unusedSimpArgs false
set_option maxRecDepth 100000
set_option maxHeartbeats 0
namespace Go.Proofs.YtbacloblanpghaaGreatDoor
open Go.RowKit Tryz
structure lk(W0:World)(A:Nat->Prop)(K M1 M2 M3 RM:Nat)(o:Option Addr)(cap:Nat)(l:List am)(n:Nat)(f:Lit->Option Value)(wr:World):Prop where
 known:eq W0 A wr K M1 M2 M3 o cap l
 made:kJ wr W0.heap.size M2 l
 rows:bn wr prog 3 RM n f
section
variable{W0 w w':World} {A:Nat->Prop} {K M1 M2 M3 RM:Nat} {o:Option Addr} {cap:Nat} {l:List am} {n:Nat} {f:Lit->Option Value}
theorem lk.below(a:lk W0 A K M1 M2 M3 RM o cap l n f w)(c:Below w.heap.size w w'):lk W0 A K M1 M2 M3 RM o cap l n f w':=
 ⟨a.known.kept (bP c none) (fun q b=>by cases b),a.made.grown (bP c none) (fun q b=>by cases b),a.rows.of_block (c.block _ a.rows.lt)⟩
theorem lk.put(c:lk W0 A K M1 M2 M3 RM o cap l n f w)(e:w.grownBy w' (some RM)){n':Nat}{d:Lit->Option Value}(g:bn w' prog 3 RM n' d)(a:W0.heap.size<=RM/\RM≠K/\RM≠M1/\RM≠M2/\RM≠M3/\A RM):lk W0 A K M1 M2 M3 RM o cap l n' d w':=
 ⟨c.known.kept e (fun q b=>by cases b;exact⟨a.1,a.2.1,.inr a.2.2⟩),c.made.grown e (fun q b=>by cases b;exact⟨.inl c.rows.block,a.2.2.2.1⟩),g⟩
end
def EM(a d:World)(b:Value)(wr:World):Prop:=(b=.int .i64 0/\wr=d)∨(b=.int .i64 1/\∃g c,wr.heap[a.heap.size+1]?=some (.cells #[.string ⟨#[98]⟩,.string ⟨#[]⟩,.slice (some ⟨g,0,none⟩) 1 c,.slice none 0 0] 29)/\wr.ownsRow a.heap.size 72 2 (.slice (some ⟨g,0,none⟩) 1 c) 1 [.string ⟨#[107]⟩,.string ⟨#[]⟩]/\Below a.heap.size a wr)
theorem PE(H d:am)(c8:H.t=iH)(af:d.t=ka)(o:Option Addr)(cap:Nat)(W0:World)(Z:cn W0 o cap [H,d])(A:Nat->Prop)(K M1 M2 M3 RM:Nat)(a7:W0.heap.size<=RM/\RM≠K/\RM≠M1/\RM≠M2/\RM≠M3/\A RM)(nv:Value)(n:Nat)(f:Lit->Option Value)(c6:n<=64)(b1:f (.int .i64 1)=none)
 (w:World) (Y:lk W0 A K M1 M2 M3 RM o cap [H,d] n f w):
 Calls prog 42 #[.pointer (some ⟨K,0,none⟩),.int .i64 1,nv,.map (some RM),.int .i64 31] w fun p w'=>
  (∃g c,p=.returned (.tuple #[.agg #[.string ⟨#[98]⟩,.string ⟨#[]⟩,.slice (some ⟨g,0,none⟩) 1 c,.slice none 0 0],.int .i64 0])/\w'.ownsRow w.heap.size 72 2 (.slice (some ⟨g,0,none⟩) 1 c) 1 [.string ⟨#[107]⟩,.string ⟨#[]⟩])/\w.grownBy w' (some RM)/\∃bE,lk W0 A K M1 M2 M3 RM o cap [H,d] (n+1) bE w':=by
 have be:∀a:Nat,a<=64->keyOf prog 3 (.int .i64 (a:Nat))=some (.int .i64 (a:Nat)):=fun a c2=>oz cX (kt ad);obtain⟨w1,Q⟩:=aj (w.alloc (.cells #[.string ⟨#[]⟩,.string ⟨#[]⟩,.slice none 0 0,.slice none 0 0] 29));have W:Below w.heap.size w w1:=by rw[Q];exact az
 have a6:w1.heap[w.heap.size]?=some (.cells #[.string ⟨#[]⟩,.string ⟨#[]⟩,.slice none 0 0,.slice none 0 0] 29):=by rw[Q];exact aC w _
 have L:=Y.below W;have F:(zeroValue 66).run prog w1=.ok (.slice none 0 0) w1:=ay;have ab:=L.rows.look_ok (ge cX) Ac F (key:=.int .i64 1) (kl:=.int .i64 1) cD (be 1 ad);rw[b1]at ab;simp only[vK,vL]at ab;have bl:=Ps [H,d] o cap W0 Z ak A K M1 M2 M3 1 d rfl (by rw[af];rfl) nv w1 L.known;obtain⟨a5,a4,a1,C,m,a0⟩:=gR bl Y L a6 W Z;clear Y L bl a6 W F Z;go_enter func42,ntmps42
 go_wp2_with(first|(rw[<-Q];clear Q)|fail)
 refine a5.o.mono ?_;rintro p cu ⟨rfl,r⟩;rw[r];clear r a5 ab cu;have bf:=a1.o.rows;go_wp2_with(first
  |(at_mapUpdate;go_must (refine nW bf rfl _ _ _ 99 rfl 66 (ge cX) Ac rfl bN _ _ _ rfl rfl cD (be 1 ad) ?_);intro e bg aa;clear bf;have M:=a1.o.put aa bg a7;have T:=ah M;have i:=ah aa;have co:=ai 0 M.known.blk;obtain⟨b,c9,bB,O,ag,al,an,ao,aq,av⟩:=(a0.o.below M.known.base).at (k:=1) (x:=d) rfl;rw[af]at ag al an ao aq av;dsimp only[ka,de,ga]at ag al an ao aq av;subst bB;clear M aa bg)
  |fail)
 clear co ag al an ao aq av;obtain⟨h,N⟩:=aj ((e.alloc (.cells #[.string ⟨#[98]⟩,.string ⟨#[98]⟩,.slice d.ao 1 d.ac,.string ⟨#[]⟩,.bool true,.slice d.no 0 d.nc] 68)).alloc (.cells #[.string ⟨#[98]⟩,.string ⟨#[]⟩,.slice none 0 0,.slice none 0 0] 29));have X:Below e.heap.size e h:=by rw[N];exact az.alloc ak _
 have bt:h.heap[e.heap.size+1]?=some (.cells #[.string ⟨#[98]⟩,.string ⟨#[]⟩,.slice none 0 0,.slice none 0 0] 29):=by rw[N];have:=aC (e.alloc (.cells #[.string ⟨#[98]⟩,.string ⟨#[98]⟩,.slice d.ao 1 d.ac,.string ⟨#[]⟩,.bool true,.slice d.no 0 d.nc] 68)) (.cells #[.string ⟨#[98]⟩,.string ⟨#[]⟩,.slice none 0 0,.slice none 0 0] 29);rwa[bI]at this
 rw[<-N];have bm:dk h d.ao d.ac [[107]]:=by have:=((a0.o.below ((T.o.below X).known.base)).2 d ak).1;rw[af]at this;exact this
 obtain⟨c0,c1,b4,c4,ba⟩:=bm.2.2.2 aw;have bd:=ba 0 (.string ⟨#[107]⟩) rfl;rw[mT]at bd;obtain⟨I,V⟩:=aE X bt;rw[b4];clear bm ba X bt N;go_loopw [66] (fun G wr=>EM e h G wr) (fun G _=>1-(intOf G).toNat)
 case atStart=>exact .inl ⟨rfl,rfl⟩
 case round=>
 rcases hrel with⟨rfl,r⟩|⟨rfl,bF⟩
 ·rw[r]
  clear r wr;obtain⟨cl,b5,ce,ch,ci⟩:=cL Cm;have cs:=ai 2 V.o;have b7:=dt h [.string ⟨#[107]⟩,.string ⟨#[]⟩] 72 _ rfl;have bw:Hid (∀y gc s,s.ownsRow e.heap.size 72 2 (.slice (some ⟨y,0,none⟩) 1 gc) 1 [.string ⟨#[107]⟩,.string ⟨#[]⟩]->(h.alloc (.cells #[.string ⟨#[107]⟩,.string ⟨#[]⟩] 72)).grownBy s none->(s.cell? ⟨e.heap.size+1,2,none⟩=some (.slice none 0 0)/\s.frozen? ⟨e.heap.size+1,2,none⟩=false)/\EM e h (.int .i64 1) (s.setCell ⟨e.heap.size+1,2,none⟩ (.slice (some ⟨y,0,none⟩) 1 gc))):=ah (fun y gc s D P=>by
   have bA:Below h.heap.size h (h.alloc (.cells #[.string ⟨#[107]⟩,.string ⟨#[]⟩] 72)):=az;have bu:=(bA.block _ (aL V.o)).trans V.o;have R:=(P.block _ (aL bu) ak).trans bu;refine⟨⟨ai 2 R,aQ R 2⟩,.inr ⟨rfl,y,gc,bL _ _ 2 _ R,?_,?_⟩⟩
   ·exact aY D (fun g b3=>aX _ _ _ _ _ (fun p=>iD D R aw (by rw[b3,p])))
   ·exact(((I.o.alloc I.o.size _)).grown P (by simp;have:=I.o.size;omega) (fun q p=>by cases p)).setCell ak _)
  have bZ:e.heap.size<=(h.alloc (.cells #[.string ⟨#[107]⟩,.string ⟨#[]⟩] 72)).heap.size:=by simp;have:=I.o.size;omega
  go_wp2_with(first
   |(at_builtin;go_must (refine mc _ rfl _ _ 26 rfl e.heap.size 72 cl _ 2 32 underlying26 b5 ce ch ci rfl ad (.slice none 0 0) 0 [] rfl (cR _ _ _ _) ⟨h.heap.size,0,none⟩ 1 1 [.string ⟨#[107]⟩,.string ⟨#[]⟩] rfl rfl b7 (fun z F=>by simp at F;rcases F with rfl|rfl<;>rfl) ad bN ad bZ _ rfl ?_);intro y gc s bi bb b0 c5;obtain⟨⟨bo,bq⟩,a9⟩:=bw.o y gc s bi bb;have bz:=ah a9;clear a9 bi bb b0)
   |fail)
  exact⟨bz.o,by simp[intOf]⟩
 ·obtain⟨g,c,E,D,l⟩:=bF
  obtain⟨a3,u⟩:=aE D l;have c3:decide ((1:Int)<1)=false:=aw;have ae:w.heap.size≠RM:=by have:=a4.o.rows.lt;omega
  have j:=(l.block _ (aL ((i.o.block _ (aL C.out) aO).trans C.out))).trans ((i.o.block _ (aL C.out) aO).trans C.out);have d0:=ai 0 E;have d1:=ai 1 E;have cs:=ai 2 E;have d2:=ai 3 E;have dr:=ai 0 j;have ds:=ai 1 j;have du:=ai 2 j;have dz:=ai 3 j;have cx:=aQ j 0;have cG:=aQ j 1;have cN:=aQ j 2;have f3:=aQ j 3;have a2:=ah j;have c7:w.heap.size≠e.heap.size+1:=by have:=i.o.size;have:=aL C.out;omega
  clear D l j E bd;go_wp2_with fail
  obtain⟨S,cc⟩:=aj (wr);subst cc;go_loopw [80] (fun G wr=>G=.int .i64 0/\wr=S) (fun _ _=>0)
  case atStart=>exact⟨rfl,rfl⟩
  case round=>
  obtain⟨rfl,r⟩:=hrel;rw[r];clear r wr;go_wp2_with fail
  obtain⟨B,t⟩:=aj ((((S.setCell ⟨w.heap.size,0,none⟩ (.string ⟨#[98]⟩)).setCell ⟨w.heap.size,1,none⟩ (.string ⟨#[]⟩)).setCell ⟨w.heap.size,2,none⟩ (.slice (some ⟨g,0,none⟩) 1 c)).setCell ⟨w.heap.size,3,none⟩ (.slice none 0 0));have J:B.heap[w.heap.size]?=some (.cells #[.string ⟨#[98]⟩,.string ⟨#[]⟩,.slice (some ⟨g,0,none⟩) 1 c,.slice none 0 0] 29):=by rw[t];exact bL _ _ 3 _ (bL _ _ 2 _ (bL _ _ 1 _ (bL _ _ 0 _ a2.o)))
  have O:∀b,b≠w.heap.size->B.heap[b]?=S.heap[b]?:=fun b l=>by rw[t,aX _ _ _ _ _ l,aX _ _ _ _ _ l,aX _ _ _ _ _ l,aX _ _ _ _ _ l]
  have b9:B.heap.size=S.heap.size:=by rw[t];simp only[dK]
  have bc:w.grownBy B (some RM):=⟨by rw[t];exact u.o.os.trans (i.o.os.trans m.out.os),by rw[t];exact u.o.tape.trans (i.o.tape.trans m.out.tape),by rw[t];exact u.o.output.trans (i.o.output.trans m.out.output),by rw[b9];exact aR m.out.size (aR i.o.size u.o.size),
   fun b l ae=>(O b ad).trans ((u.o.block b (by have:=m.out.size;have:=i.o.size;omega)).trans ((i.o.block b (by have:=m.out.size;omega) ae).trans (m.out.block b l)))⟩
  have b6:bn B prog 3 RM (n+1) _:=(T.o.rows.of_block (u.o.block RM T.o.rows.lt)).of_block (O RM ae.symm);have b8:=aY a3.o (W':=B) (fun g P=>O g (fun p=>iD a3.o a2.o aw (by rw[P,p])));have b2:=a4.o.put bc b6 a7;rw[<-t];have bo:=ai 0 J;have bq:=ai 1 J;have cp:=ai 2 J;have cq:=ai 3 J;exact bS (v:=.tuple #[.agg #[.string ⟨#[98]⟩,.string ⟨#[]⟩,.slice (some ⟨g,0,none⟩) 1 c,.slice none 0 0],.int .i64 0]) (by simp[results,results42,go_sem,bo,bq,cp,cq,FQ]) rfl ⟨⟨g,c,rfl,fY b8 (aR m.out.size i.o.size)⟩,bc,_,b2⟩
theorem ll{w:World}{B b size n g c:Nat}{xs:List Value}(d:w.ownsRow B b size (.slice (some ⟨g,0,none⟩) n c) n xs)(i:0<n):B<=g/\g<w.heap.size/\∀j u,j<n*size->xs[j]?=some u->w.cell? ⟨g,j,none⟩=some u:=by
 obtain⟨m,l,a,e,f,h⟩:=sE d i;injection a with a _ _
 injection a with a
 injection a with a _ _
 subst a;exact⟨e,f,h⟩
theorem EN{W:World}{B e size n c g:Nat}{xs:List Value}(a:W.ownsRow B e size (.slice (some ⟨g,0,none⟩) n c) n xs):kR W (fun b=>B<=b) (some ⟨g,0,none⟩) n c size xs:=by have r:=pp a;refine⟨r.1,r.2.1,r.2.2.1,fun l=> ?_⟩;obtain⟨f,h,i⟩:=ll a l;refine⟨g,0,rfl,h,f,fun j u d=> ?_⟩;rw[cE];exact i j u (by have:=r.1;have:=(aP.1 d).1;omega) d
theorem EO{W:World}{B g c d ac:Nat}(j:W.ownsRow B 29 4 (.slice (some ⟨g,0,none⟩) 1 c) 1 [.string ⟨#[98]⟩,.string ⟨#[]⟩,.slice (some ⟨d,0,none⟩) 1 ac,.slice none 0 0])
 (h:W.ownsRow B 72 2 (.slice (some ⟨d,0,none⟩) 1 ac) 1 [.string ⟨#[107]⟩,.string ⟨#[]⟩]):cg W (fun b=>B<=b) fF ⟨none,0,some ⟨g,0,none⟩,c⟩:=by
 refine .mk ⟨rfl,aB _,aK _,fun e=>absurd e aw⟩ [⟨some ⟨d,0,none⟩,ac,none,0⟩] rfl (EN j) ?_;intro i k q a f;match i with
 |0=>
  simp at a f;subst a f;exact .mk (EN h) [] rfl ⟨rfl,aB _,aK _,fun e=>absurd e aw⟩ (fun i k q a=>by simp at a)
 |i+1=>simp at a
def EP(W0:World)(e:Nat)(a:World)(f:Nat)(d:Value)(wr:World):Prop:=(d=.int .i64 0/\wr=a)∨(d=.int .i64 1/\∃g c b ac,wr.heap[f]?=some (.cells #[.string ⟨#[97]⟩,.string ⟨#[]⟩,.slice none 0 0,.slice (some ⟨g,0,none⟩) 1 c] 29)/\
 wr.ownsRow a.heap.size 29 4 (.slice (some ⟨g,0,none⟩) 1 c) 1 [.string ⟨#[98]⟩,.string ⟨#[]⟩,.slice (some ⟨b,0,none⟩) 1 ac,.slice none 0 0]/\wr.ownsRow a.heap.size 72 2 (.slice (some ⟨b,0,none⟩) 1 ac) 1 [.string ⟨#[107]⟩,.string ⟨#[]⟩]/\Below W0.heap.size W0 wr/\
 wr.heap[e]?=some (.cells #[.string ⟨#[]⟩,.string ⟨#[]⟩,.slice none 0 0,.slice none 0 0] 29))
theorem PG(e C:am)(ao:e.t=iH)(bt:C.t=ka)(o:Option Addr)(cap:Nat)(W0:World)(eN:Gl W0)(bd:cn W0 o cap [e,C])(A:Nat->Prop)(K M1 M2 M3 RM:Nat)(eB:A M2)(aa:W0.heap.size<=RM/\RM≠K/\RM≠M1/\RM≠M2/\RM≠M3/\A RM)(no:Option Addr)(aq:Nat)
 (w:World) (bc:lk W0 A K M1 M2 M3 RM o cap [e,C] 0 (fun _=>none) w) (cq:qC w no aq [2,1]):
 Calls prog 42 #[.pointer (some ⟨K,0,none⟩),.int .i64 0,.slice no 2 aq,.map (some RM),.int .i64 32] w fun d w'=>
  ∃r:KA,d=.returned (.tuple #[bJ fF r,.int .i64 0])/\cg w' (fun b=>W0.heap.size<=b) fF r/\Below W0.heap.size W0 w':=by
 have c1:∀a:Nat,a<=64->keyOf prog 3 (.int .i64 (a:Nat))=some (.int .i64 (a:Nat)):=fun a bi=>oz cX (kt ad);obtain⟨w1,al⟩:=aj (w.alloc (.cells #[.string ⟨#[]⟩,.string ⟨#[]⟩,.slice none 0 0,.slice none 0 0] 29));have W:Below w.heap.size w w1:=by rw[al];exact az
 have cc:w1.heap[w.heap.size]?=some (.cells #[.string ⟨#[]⟩,.string ⟨#[]⟩,.slice none 0 0,.slice none 0 0] 29):=by rw[al];exact aC w _
 have H:=bc.below W;have Q:(zeroValue 66).run prog w1=.ok (.slice none 0 0) w1:=ay;have af:=H.rows.look_ok (ge cX) Ac Q (key:=.int .i64 0) (kl:=.int .i64 0) cD (c1 0 ad);simp only[vK,vL]at af;have c9:=PD e C ao bt o cap W0 eN bd A K M1 M2 M3 eB no aq w1 H.known H.made (cS.below cq W);obtain⟨b5,ba,bB,a5,f4,bA⟩:=gR c9 bc H cc W bd;clear bc H c9 cc W Q bd cq;go_enter func42,ntmps42
 go_wp2_with(first|(rw[<-al];clear al)|fail)
 refine b5.o.mono ?_;rintro d d2 ⟨⟨bz,wc,rfl,du⟩,co,cp,bo⟩;clear b5 af;have e1:some RM≠some M2:=fun d=>by injection d with d;exact aa.2.2.2.1 d
 have bf:lk W0 A K M1 M2 M3 RM o cap [e,C] 0 (fun _=>none) d2:=⟨co,cp,bB.o.rows.kept bo e1⟩;have c4:=bf.rows;obtain⟨b0,bb⟩:=aE bf du;have V:Hid (d2.heap[w.heap.size]?=some (.cells #[.string ⟨#[]⟩,.string ⟨#[]⟩,.slice none 0 0,.slice none 0 0] 29)):=ah ((bo.block _ (aL a5.out) (by obtain⟨gG,ce,e7,_⟩:=bB.o.made;intro d;injection d with d;obtain⟨ez,er,l⟩:=e7.block;rw[<-d,a5.out]at l;cases l)).trans a5.out);clear co cp bo du bf;go_wp2_with(first
  |(at_mapUpdate;go_must (refine nW c4 rfl _ _ _ 99 rfl 66 (ge cX) Ac rfl bN _ _ _ rfl rfl cD (c1 0 ad) ?_);intro i c5 bq;clear c4;have Z:=b0.o.put bq c5 aa;have d6:Hid (∃L,L (.int .i64 1)=none/\lk W0 A K M1 M2 M3 RM o cap [e,C] 1 L i):=ah ⟨_,jX _ _ (by intro d;injection d with _ d;revert d;decide),Z⟩;have J:=ah bq;have fy:=ai 0 Z.known.blk;obtain⟨b,fG,ex,bl,a0,a2,a3,B,G,a4⟩:=(bA.o.below Z.known.base).at (k:=0) (x:=e) rfl;rw[ao]at a0 a2 a3 B G a4;dsimp only[iH,de,ga]at a0 a2 a3 B G a4;rw[sK,mT]at a0 a2 a3 B G a4;subst ex;clear Z bq c5)
  |fail)
 clear fy a0 a2 a3 B G a4;obtain⟨h,N⟩:=aj ((i.alloc (.cells #[.string ⟨#[97]⟩,.string ⟨#[97]⟩,.slice e.ao 0 e.ac,.string ⟨#[]⟩,.bool false,.slice e.no eC.length e.nc] 68)).alloc (.cells #[.string ⟨#[97]⟩,.string ⟨#[]⟩,.slice none 0 0,.slice none 0 0] 29));have b7:Below i.heap.size i h:=by rw[N];exact az.alloc ak _
 have d1:h.heap[i.heap.size+1]?=some (.cells #[.string ⟨#[97]⟩,.string ⟨#[]⟩,.slice none 0 0,.slice none 0 0] 29):=by rw[N];have:=aC (i.alloc (.cells #[.string ⟨#[97]⟩,.string ⟨#[97]⟩,.slice e.ao 0 e.ac,.string ⟨#[]⟩,.bool false,.slice e.no eC.length e.nc] 68)) (.cells #[.string ⟨#[97]⟩,.string ⟨#[]⟩,.slice none 0 0,.slice none 0 0] 29);rwa[bI]at this
 have G:h.heap[i.heap.size]?=some (.cells #[.string ⟨#[97]⟩,.string ⟨#[97]⟩,.slice e.ao 0 e.ac,.string ⟨#[]⟩,.bool false,.slice e.no eC.length e.nc] 68):=by rw[N];exact(az.block _ ak).trans (aC i _)
 have dr:[e,C].map am.t=cv:=by simp[ao,bt,cv]
 rw[<-N];obtain⟨T,b1⟩:=aE b7 d1;have gf:decide ((0:Int)<0)=false:=aw;obtain⟨ed,ec⟩:=aE G dr;clear b7 d1 G dr N;go_loopw [66] (fun s wr=>s=.int .i64 0/\wr=h) (fun _ _=>0)
 case atStart=>exact⟨rfl,rfl⟩
 case round=>
 obtain⟨rfl,m⟩:=hrel;rw[m];clear m wr
 go_wp2
 go_loopw [80] (fun s wr=>EP W0 w.heap.size h (i.heap.size+1) s wr) (fun s _=>1-(intOf s).toNat)
 case atStart=>exact .inl ⟨rfl,rfl⟩
 case round=>
 rcases hrel with⟨rfl,m⟩|⟨rfl,eD⟩
 ·rw[m]
  clear m wr;obtain⟨L,cG,be⟩:=d6.o;have M:=be.below T.o;have d7:=ah M;have fz:=ai 1 M.known.blk;have af:(Instr.lookup 77 (.map (some M1)) (.string ⟨#[98]⟩) false).run prog h=.ok (.int .i64 1) h:=by have:=vi (b:=[98]) M.known.places aw;rw[ec.o,EC]at this;exact this
  have c2:=PE e C ao bt _ cap W0 bA.o A K M1 M2 M3 RM aa (.slice no 2 aq) 1 L ad cG h M;have b4:=ah c2;have cs:=be.rows.lt;have a9:=ah cs;have ds:h.ownsRow w1.heap.size 9 1 (.slice (some ⟨bz,0,none⟩) 1 wc) 1 ([([98]:Bytes)].map encStr):=aY bb.o (fun q f=>by
   have d:bz=q:=by injection f
   have:=(ll bb.o aw).2.1;have gv:=J.o.size;have e8:bz≠RM:=fun d=>by obtain⟨ez,er,l⟩:=b0.o.rows.block;exact mQ bb.o l (by rw[<-d];rfl)
   subst d;exact(T.o.block _ ad).trans (J.o.block _ ad aO))
  have en:=(ll ds aw).2.2 0 (.string ⟨#[98]⟩) aw rfl;clear ds be M c2 cs cG;go_wp2_with fail
  refine b4.o.mono ?_;rintro d F ⟨⟨g,c,rfl,c7⟩,cN,ce,cu⟩;clear af fz en b4;obtain⟨j,ae⟩:=aj (F.alloc (.cells #[.string ⟨#[98]⟩,.string ⟨#[]⟩,.slice (some ⟨g,0,none⟩) 1 c,.slice none 0 0] 29));have b8:Below F.heap.size F j:=by rw[ae];exact az
  have d3:j.heap[F.heap.size]?=some (.cells #[.string ⟨#[98]⟩,.string ⟨#[]⟩,.slice (some ⟨g,0,none⟩) 1 c,.slice none 0 0] 29):=by rw[ae];exact aC F _
  obtain⟨u,b6,b3,bZ,d8⟩:=ku b8 d3 cN c7 cu;clear b8 d3 cN c7 cu;have ag:=aY bZ.o (W':=j) (fun q f=>by
   have d:g=q:=by injection f
   subst d;exact u.out.block _ (ll bZ.o aw).2.1)
  have a7:=ah ag;have eg:=(ll ag aw).2.2 0 (.string ⟨#[107]⟩) aw rfl;have a1:=(ll ag aw).2.2 1 (.string ⟨#[]⟩) aw rfl;have I:∀q E,h.heap[q]?=some E->q≠RM->j.heap[q]?=some E:=fun q E f e8=>by have ch:=(b3.o.block q (aL f) aO).trans f;exact(u.out.block q (aL ch)).trans ch
  have B:=I _ _ ed.o (by have:=a9.o;omega);have es:=ai 3 ((((aA j.heap.size j).alloc (aB _) (.cells #[.string ⟨#[107]⟩,.string ⟨#[]⟩] 72)).block _ (aL B)).trans B);clear B;have b2:=ah I;clear ag I;go_wp2_with fail
  rw[<-ae];clear ae;go_loopw [107] (fun s wr=>(s=.int .i64 0/\wr=j)∨(s=.int .i64 1/\wr=j.alloc (.cells #[.string ⟨#[107]⟩,.string ⟨#[]⟩] 72))) (fun s _=>1-(intOf s).toNat)
  case atStart=>exact .inl ⟨rfl,rfl⟩
  case round=>
  rcases hrel with⟨rfl,m⟩|⟨rfl,m⟩
  ·rw[m]
   clear m wr;go_wp2_with fail
   refine⟨Or.inr ak,by simp[intOf]⟩
  ·obtain⟨t,bg⟩:=aj (j.alloc (.cells #[.string ⟨#[107]⟩,.string ⟨#[]⟩] 72))
   rw[m,<-bg];have X:Below j.heap.size j t:=by rw[bg];exact az
   clear m wr bg eg a1 es;have S:=(X.block _ (aL b6.out)).trans b6.out;have g8:=ai 0 S;have g9:=ai 1 S;have ha:=ai 2 S;have hb:=ai 3 S;have c6:i.heap.size+1≠RM:=by have:=a9.o;omega
   have av:=b2.o _ _ b1.o c6;have bw:=(X.block _ (aL av)).trans av;have f2:=ai 3 bw;obtain⟨f5,y⟩:=aE bw X;obtain⟨it,e5,fu,fv,fx⟩:=cL xD;have e9:=dt t [.string ⟨#[98]⟩,.string ⟨#[]⟩,.slice (some ⟨g,0,none⟩) 1 c,.slice none 0 0] 29 _ rfl;have fo:h.heap.size<=F.heap.size:=b3.o.size;have fr:F.heap.size<=j.heap.size:=u.out.size;have fs:j.heap.size<=t.heap.size:=y.out.size;have fl:i.heap.size+1<h.heap.size:=aL b1.o;have ea:Hid (∀D gc n,n.ownsRow h.heap.size 29 4 (.slice (some ⟨D,0,none⟩) 1 gc) 1 [.string ⟨#[98]⟩,.string ⟨#[]⟩,.slice (some ⟨g,0,none⟩) 1 c,.slice none 0 0]->(t.alloc (.cells #[.string ⟨#[98]⟩,.string ⟨#[]⟩,.slice (some ⟨g,0,none⟩) 1 c,.slice none 0 0] 29)).grownBy n none->(n.cell? ⟨i.heap.size+1,3,none⟩=some (.slice none 0 0)/\n.frozen? ⟨i.heap.size+1,3,none⟩=false)/\EP W0 w.heap.size h (i.heap.size+1) (.int .i64 1) (n.setCell ⟨i.heap.size+1,3,none⟩ (.slice (some ⟨D,0,none⟩) 1 gc))):=ah (fun D gc n O bm=>by
    have b9:Below t.heap.size t (t.alloc (.cells #[.string ⟨#[98]⟩,.string ⟨#[]⟩,.slice (some ⟨g,0,none⟩) 1 c,.slice none 0 0] 29)):=az;have I:∀q E,j.heap[q]?=some E->n.heap[q]?=some E:=fun q E f=>by have ci:=(y.out.block q (aL f)).trans f;have cl:=(b9.block q (aL ci)).trans ci;exact(bm.block q (aL cl) ak).trans cl
    have bu:=I _ _ av;have gr:=(ll O aw).1;have gl:=(ll a7.o aw).1;have fb:=aY a7.o (W':=n) (fun q f=>by
     have fg:q<j.heap.size:=by
      have d:g=q:=by injection f
      subst d;exact(ll a7.o aw).2.1
     exact(bm.block q aO ak).trans ((b9.block q ad).trans (y.out.block q fg)))
    have gd:=d7.o.known.base.size;have e0:w.heap.size<i.heap.size:=by have:=aL V.o;have:=J.o.size;omega
    have f1:h.heap[w.heap.size]?=some (.cells #[.string ⟨#[]⟩,.string ⟨#[]⟩,.slice none 0 0,.slice none 0 0] 29):=(T.o.block _ e0).trans ((J.o.block _ (aL V.o) (by have:=ba.o.rows.lt;simp;omega)).trans V.o);have f0:=I _ _ (b2.o _ _ f1 (by have:=ba.o.rows.lt;omega));have eZ:W0.heap.size<=i.heap.size+1:=by have:=aa.1;have:=a9.o;omega
    have em:Below W0.heap.size W0 n:=((((d8.o.known.base.trans ⟨u.out.os,u.out.tape,u.out.output,u.out.size,fun k e6=>u.out.block k ad⟩).trans ⟨y.out.os,y.out.tape,y.out.output,y.out.size,fun k e6=>y.out.block k ad⟩).alloc ad _).grown bm aO (fun k d=>by cases d));refine⟨⟨ai 3 bu,aQ bu 3⟩,.inr ⟨rfl,D,gc,g,c,bL _ _ 3 _ bu,?_,?_,em.setCell eZ _,?_⟩⟩
    ·exact aY O (fun q f=>aX _ _ _ _ _ (by have d:D=q:=(by injection f);omega))
    ·exact aY fb (fun q f=>aX _ _ _ _ _ (by have d:g=q:=(by injection f);omega))
    ·exact(aX _ _ _ _ _ ad).trans f0)
   have eE:h.heap.size<=(t.alloc (.cells #[.string ⟨#[98]⟩,.string ⟨#[]⟩,.slice (some ⟨g,0,none⟩) 1 c,.slice none 0 0] 29)).heap.size:=aO;clear S av bw X fo fr fs fl c6;go_wp2_with(first
    |(at_builtin;go_must (refine mc _ rfl _ _ 27 rfl h.heap.size 29 it _ 4 80 FD e5 fu fv fx rfl ad (.slice none 0 0) 0 [] rfl (cR _ _ _ _) ⟨t.heap.size,0,none⟩ 1 1 [.string ⟨#[98]⟩,.string ⟨#[]⟩,.slice (some ⟨g,0,none⟩) 1 c,.slice none 0 0] rfl rfl e9 (fun z Q=>by simp at Q;rcases Q with rfl|rfl|rfl|rfl<;>rfl) ad bN ad eE _ rfl ?_);intro D gc n c8 c0 e3 gs;obtain⟨⟨dz,d0⟩,cx⟩:=ea.o D gc n c8 c0;have eb:=ah cx;clear cx c8 c0 e3)
    |fail)
   exact⟨eb.o,by simp[intOf]⟩
 ·obtain⟨g,c,el,ac,P,O,bi,l,p⟩:=eD
  have g4:=ai 0 P;have g5:=ai 1 P;have g7:=ai 2 P;have f2:=ai 3 P;have g0:=ai 0 p;have g1:=ai 1 p;have g2:=ai 2 p;have g3:=ai 3 p;have f6:=aQ p 0;have L:=aQ p 1;have ce:=aQ p 2;have f3:=aQ p 3;obtain⟨d5,bF,bE,d4⟩:=cI p O bi l;have gg:decide ((1:Int)<1)=false:=aw;have c3:w.heap.size<h.heap.size:=by have H:=aL V.o;have f7:=J.o.size;have gb:=T.o.size;omega
  have a6:=ah c3;clear O bi l p P c3;go_wp2_with fail
  obtain⟨R,an⟩:=aj ((((wr.setCell ⟨w.heap.size,0,none⟩ (.string ⟨#[97]⟩)).setCell ⟨w.heap.size,1,none⟩ (.string ⟨#[]⟩)).setCell ⟨w.heap.size,2,none⟩ (.slice none 0 0)).setCell ⟨w.heap.size,3,none⟩ (.slice (some ⟨g,0,none⟩) 1 c));have Y:R.heap[w.heap.size]?=some (.cells #[.string ⟨#[97]⟩,.string ⟨#[]⟩,.slice none 0 0,.slice (some ⟨g,0,none⟩) 1 c] 29):=by rw[an];exact bL _ _ 3 _ (bL _ _ 2 _ (bL _ _ 1 _ (bL _ _ 0 _ d5.o)))
  have bl:∀b,b≠w.heap.size->R.heap[b]?=wr.heap[b]?:=fun b l=>by rw[an,aX _ _ _ _ _ l,aX _ _ _ _ _ l,aX _ _ _ _ _ l,aX _ _ _ _ _ l]
  have ab:W0.heap.size<=w.heap.size:=ba.o.known.base.size;have e4:Below W0.heap.size W0 R:=by rw[an];exact(((d4.o.setCell ab _).setCell ab _).setCell ab _).setCell ab _
  have fc:=aY bF.o (W':=R) (fun q f=>bl q (by
   have d:g=q:=by injection f
   have:=(ll bF.o aw).1;have:=a6.o;omega))
  have e2:=aY bE.o (W':=R) (fun q f=>bl q (by
   have d:el=q:=by injection f
   have:=(ll bE.o aw).1;have:=a6.o;omega))
  rw[<-an];have dz:=ai 0 Y;have d0:=ai 1 Y;have fN:=ai 2 Y;have fT:=ai 3 Y;exact bS (v:=.tuple #[.agg #[.string ⟨#[97]⟩,.string ⟨#[]⟩,.slice none 0 0,.slice (some ⟨g,0,none⟩) 1 c],.int .i64 0]) (by simp[results,results42,go_sem,dz,d0,fN,fT,FQ]) rfl ⟨⟨none,0,some ⟨g,0,none⟩,c⟩,rfl,(EO fc e2).kept (aB _) (fun b fG _ l=>⟨rfl,by have:=a6.o;omega⟩),e4⟩
def PH(w:World)(a:Ending)(w':World):Prop:=∃r:KA,a=.returned (.tuple #[bJ fF r,.int .i64 0])/\dN w' fF r/\Below w.heap.size w w'
theorem EQ{l:List am}(a:l.map am.t=cv):ej l:=by refine B8 (fun x b=>(O9 x.t (by rw[<-a];exact ki b)).mono ad) ?_;have:=iK List.length a;rw[cd]at this;rw[this];decide
theorem PJ(h j:am)(p:h.t=iH)(M:j.t=ka)(o:Option Addr)(cap:Nat)(w:World)(bg:Gl w)(J:cn w o cap [h,j]):
 Calls prog 17 #[.agg #[.slice o 2 cap],.string ⟨#[97]⟩] w (PH w):=by
 have W:[h,j].map am.t=cv:=by simp[p,M,cv]
 have ag:=EQ W;obtain⟨m,K⟩:=aj ((w.alloc (.cells #[.slice o 2 cap] 24)).alloc (.cells #[.string ⟨#[]⟩,.string ⟨#[]⟩,.slice none 0 0,.slice none 0 0] 29));have R:Below w.heap.size w m:=by rw[K];exact az.alloc ak _
 have be:m.heap[w.heap.size+1]?=some (.cells #[.string ⟨#[]⟩,.string ⟨#[]⟩,.slice none 0 0,.slice none 0 0] 29):=by rw[K];have:=aC (w.alloc (.cells #[.slice o 2 cap] 24)) (.cells #[.string ⟨#[]⟩,.string ⟨#[]⟩,.slice none 0 0,.slice none 0 0] 29);rwa[bI]at this
 have b6:m.heap[w.heap.size]?=some (.cells #[.slice o 2 cap] 24):=by rw[K];exact(az.block _ ak).trans (aC w _)
 have ae:=J.below R;have bi:=bg.below R;have bm:bW ([h,j].map am.t)=0:=by rw[W];exact yT
 have bE:=CS [h,j] o cap m ae ag;obtain⟨bc,G,a4,ab,P,Q,b9,aa⟩:=oZ bE ae bi ag bm W R be;have cp:=ai 0 b6;clear R be ae bi ag bm W bE b6 J bg;go_enter func17,ntmps17
 go_wp2_with(first|(rw[<-K];clear K)|fail)
 refine bc.o.mono ?_;rintro d w1 ⟨al,⟨c3,_⟩|⟨_,F,rfl,z,e,A,hF,bl⟩⟩
 ·exact absurd P.o c3
 clear bc cp;have V:=hF (fun q=>q=e);have b2:kJ w1 m.heap.size e [h,j]:=⟨0,_,bl,aK _,fun a v X=>by cases X⟩;have c6:=ai 0 V.blk;have an:=Ba [h,j] o cap w1 (G.o.below al) ab.o [97] aw;have bu:kQ ([h,j].map am.t) [97]=(0,0):=by unfold kQ;rw[au P.o,Q.o,yU];rfl
 rw[bu]at an;obtain⟨a9,a5,a6,du⟩:=cI an V b2 al;clear V b2 an bu al hF bl;go_wp2_with fail
 refine a9.o.mono ?_;rintro d b7 ⟨rfl,bq⟩;clear c6 a9;have a0:kK m (fun q=>q=e) F z e A o cap [h,j] w1 b7:=(show kK m (fun q=>q=e) F z e A o cap [h,j] w1 w1 from⟨a5.o,a6.o,bP (aA _ _) _⟩).below bq;have bt:=Pp [h,j] o cap m a4.o G.o ak (fun q=>q=e) F z e A rfl (fun x y u=>by
  simp at y;rcases y with rfl|rfl
  ·exact⟨by rw[p];exact qD,by rw[p];decide,by rw[p];show 0<(symsS eC).length;rw[sD];decide,by rw[p];exact EJ⟩
  ·rw[M]at u;cases u) b7 a0.1 a0.2.1
 have a7:=ah bt;clear bt a0 bq a5 a6;go_wp2_with fail
 refine a7.o.mono ?_;rintro d ds ⟨rfl,ao,bF,bz⟩;have b5:=O1 [h,j] o cap m G.o ab.o P.o (fun q=>q=e) F z e A (fun x y u=>by
  simp at y;rcases y with rfl|rfl
  ·exact⟨by rw[p];exact qD,by rw[p];decide,fun X=>by rw[Q.o,p];exact Pm X⟩
  ·rw[M]at u;cases u) ds ao
 obtain⟨bd,ce,ci,dz⟩:=cI b5 ao bF bz;clear b5 ao bF bz a7;go_wp2_with fail
 refine bd.o.mono ?_;rintro d b8 ⟨i,H,X,D,C,t,g⟩;rw[Q.o]at D C t g;rw[show cv.length=2 from rfl]at t g;have a1:=Pj D C;clear D C bd;subst t a1;have u0:b8.cell? ⟨H,0,none⟩=some (.bool true):=g.at (k:=0) aw;have aq:=ce.o.kept (bP g.base none) (fun q d=>by cases d);have bZ:=ci.o.grown (bP g.base none) (fun q d=>by cases d);have bw:=O3 [h,j] o cap m G.o ab.o P.o (fun q=>q=e) F z e A (fun x y u=>by
  simp at y;rcases y with rfl|rfl
  ·exact⟨by rw[p];exact qD,by rw[p];decide⟩
  ·rw[M]at u;cases u) rfl b8 aq
 obtain⟨ba,ch,cl⟩:=bO bw aq bZ;clear bw aq bZ g;go_wp2_with fail
 refine ba.o.mono ?_;rintro d l ⟨d6,a3,d7,D,C,t,g⟩;rw[Q.o]at D C t g;rw[show cv.length=2 from rfl]at t g;have a1:=Pk D C;clear D C ba u0;subst t a1;have u0:l.cell? ⟨a3,0,none⟩=some (.int .i64 2):=g.at (k:=0) aw;have E:=ch.o.kept (bP g.base none) (fun q d=>by cases d);have b0:=cl.o.grown (bP g.base none) (fun q d=>by cases d);have b3:=g.nums aw;obtain⟨a2,Y⟩:=aj (l.alloc (.map #[] 0));have S:Below l.heap.size l a2:=by rw[Y];exact az
 have bB:=(E.more (A':=fun q=>q=e∨q=l.heap.size) (fun q c4=>by rcases c4 with J|J;·exact .inl J
                                                               ·exact .inr ad)).kept (bP S none) (fun q d=>by cases d)
 have b1:=b0.grown (bP S none) (fun q d=>by cases d);have b4:bn a2 prog 3 l.heap.size 0 (fun _=>none):=by rw[Y];exact bn.made l _ _
 have cG:=aL E.blk;have cq:z<l.heap.size:=by obtain⟨d0,c,B⟩:=E.places.block;exact aL B
 have cs:e<l.heap.size:=by obtain⟨n,f,av,_⟩:=E.made;exact av.lt
 have cu:A<l.heap.size:=by obtain⟨n,f,av,_⟩:=E.inside;exact av.lt
 have bf:=E.base.size;have bA:=PG h j p M o cap m a4.o G.o (fun q=>q=e∨q=l.heap.size) F z e A l.heap.size (.inl rfl) ⟨bf,ad,ad,ad,ad,.inr rfl⟩ (some ⟨a3,0,none⟩) 2 a2 ⟨bB,b1,b4⟩ (cS.below b3 S);have bb:=ah bA;clear bA bB b1 b4 E b0 b3 cG cq cs cu bf S g;have d5:= @mY prog;go_wp2_with(first|(rw[<-Y];clear Y)|fail)
 refine bb.o.mono ?_;rintro d Z ⟨r,t,bo,af⟩;have c1:d=.returned (.tuple #[.agg #[.string ⟨#[97]⟩,.string ⟨#[]⟩,.slice r.ao 0 r.ac,.slice r.ko 1 r.kc],.int .i64 0]):=t;clear t u0 bb;subst c1;have s:=(af.block _ (aL aa.out)).trans aa.out;have d8:=ai 0 s;have ea:=ai 1 s;have eb:=ai 2 s;have ec:=ai 3 s;have d1:=aQ s 0;have d2:=aQ s 1;have d3:=aQ s 2;have f3:=aQ s 3;obtain⟨cc,co,I⟩:=bO s bo af;clear s bo af;go_wp2_with fail
 trace_state
 obtain⟨O,L⟩:=aj ((((Z.setCell ⟨w.heap.size+1,0,none⟩ (.string ⟨#[97]⟩)).setCell ⟨w.heap.size+1,1,none⟩ (.string ⟨#[]⟩)).setCell ⟨w.heap.size+1,2,none⟩ (.slice r.ao 0 r.ac)).setCell ⟨w.heap.size+1,3,none⟩ (.slice r.ko 1 r.kc));have T:O.heap[w.heap.size+1]?=some (.cells #[.string ⟨#[97]⟩,.string ⟨#[]⟩,.slice r.ao 0 r.ac,.slice r.ko 1 r.kc] 29):=by rw[L];exact bL _ _ 3 _ (bL _ _ 2 _ (bL _ _ 1 _ (bL _ _ 0 _ cc.o)))
 have d4:=aL aa.out;have cN:Below w.heap.size w O:=by have cx:Below w.heap.size w Z:=b9.out.trans ⟨I.o.os,I.o.tape,I.o.output,I.o.size,fun k V=>I.o.block k ad⟩;rw[L];exact(((cx.setCell ak _).setCell ak _).setCell ak _).setCell ak _
 have c0:∀b N,b≠w.heap.size+1->O.cell? ⟨b,N,none⟩=Z.cell? ⟨b,N,none⟩:=fun b N B=>by
  have c2:O.heap[b]?=Z.heap[b]?:=by rw[L,aX _ _ _ _ _ B,aX _ _ _ _ _ B,aX _ _ _ _ _ B,aX _ _ _ _ _ B]
  unfold World.cell?;simp only[c2]
 have c5:dN O fF r:=co.o.kept (by rw[L];simp) (fun b N _ B=>⟨c0 b N ad,trivial⟩);rw[<-L];have c7:=ai 0 T;have c8:=ai 1 T;have c9:=ai 2 T;have dr:=ai 3 T;exact bS (v:=.tuple #[.agg #[.string ⟨#[97]⟩,.string ⟨#[]⟩,.slice r.ao 0 r.ac,.slice r.ko 1 r.kc],.int .i64 0]) (by simp[results,results17,go_sem,c7,c8,c9,dr,FQ]) rfl ⟨r,rfl,c5,cN⟩
theorem ER{w:World}{g b size:Nat}{xs:List Value}(c:w.heap[g]?=some (.cells xs.toArray b (0,0)))(a:xs.length=size):w.ownsRow 0 b size (.slice (some ⟨g,0,none⟩) 1 1) 1 xs:=
 ⟨by simp[a],.inr ⟨g,1,xs.toArray,rfl,aK _,c,aB _,bN,by simp[a],by rw[Nat.one_mul,<-a];exact pH⟩⟩
theorem PO:∀m∈nodesT fF,kT m:=by
 have b:nodesT fF=[fF,.mk [98] [] [([107],[])] []]:=by rfl
 rw[b];intro m a;simp at a;rcases a with rfl|rfl
 ·exact⟨aw,aw,aw,aw,aw⟩
 ·exact⟨aw,aw,aw,aw,aw⟩
theorem PQ{q:Int}(b:uP cv [97] fF q):q=0:=by
 rcases b with⟨b,_⟩|⟨_,⟨b,_⟩|⟨a,c,⟨b,_⟩|⟨_,⟨_,b⟩|⟨b,_⟩⟩⟩⟩
 ·exact absurd yT b
 ·rw[yU]at b;cases b
 ·exact absurd Pg b
 ·exact b
 ·rw[yU]at c
  injection c with c
  subst c;exact absurd Pi b
theorem PS{xs:List am}(c:xs.map am.t=cv):∃d e,xs=[d,e]/\d.t=iH/\e.t=ka:=by
 match xs,c with
 |[],c=>simp[cv]at c
 |[_],c=>simp[cv]at c
 |[a,b],c=>simp[cv]at c;exact⟨a,b,rfl,c.1,c.2⟩
 |_::_::_::_,c=>simp[cv]at c
theorem PU(w:World)(S:Gl w):Calls prog 9 #[] w fun d w'=>d=.returned (.bool true)/\Below w.heap.size w w':=by
 have n:=J3 sC w aw (by intro c ba;exact O8 c ba);rw[O7]at n;unfold sC at n;have M:=ah S;clear S;go_enter func9,ntmps9
 go_wp2_with fail
 refine n.mono ?_;rintro d w1 ⟨xs,o,c,g,rfl,T,W⟩;obtain⟨v,y,rfl,t,u⟩:=PS g;clear g n;obtain⟨K,p⟩:=aj (w1.alloc (.cells #[.slice o 2 c] 24));have A:Below w1.heap.size w1 K:=by rw[p];exact az
 have J:K.heap[w1.heap.size]?=some (.cells #[.slice o 2 c] 24):=by rw[p];exact aC w1 _
 have a6:=ai 0 J;have D:=aD W A;have F:=T.below A;have aa:=PJ v y t u o c K (M.o.below D) F;obtain⟨a3,av,Q,N⟩:=cI F D J aa;clear aa F D J T W A;go_wp2_with(first|(rw[<-p];clear p)|fail)
 refine N.o.mono ?_;rintro d i ⟨r,Y,V,X⟩;have bb:d=.returned (.tuple #[.agg #[.string ⟨#[97]⟩,.string ⟨#[]⟩,.slice r.ao 0 r.ac,.slice r.ko 1 r.kc],.int .i64 0]):=Y;clear Y N a6;subst bb;obtain⟨a,s⟩:=aj (i.alloc (.cells #[.string ⟨#[97]⟩,.string ⟨#[]⟩,.slice r.ao 0 r.ac,.slice r.ko 1 r.kc] 29));have B:Below i.heap.size i a:=by rw[s];exact az
 have e:a.heap[i.heap.size]?=some (.cells #[.string ⟨#[97]⟩,.string ⟨#[]⟩,.slice r.ao 0 r.ac,.slice r.ko 1 r.kc] 29):=by rw[s];exact aC i _
 obtain⟨b,f⟩:=aj ((a.alloc (.cells #[.string ⟨#[107]⟩,.string ⟨#[]⟩] 72)).alloc (.cells #[.string ⟨#[98]⟩,.string ⟨#[]⟩,.slice (some ⟨a.heap.size,0,none⟩) 1 1,.slice none 0 0] 29));have C:Below a.heap.size a b:=by rw[f];exact az.alloc ak _
 have R:b.heap[a.heap.size]?=some (.cells #[.string ⟨#[107]⟩,.string ⟨#[]⟩] 72):=by rw[f];exact(az.block _ ak).trans (aC a _)
 have ag:b.heap[a.heap.size+1]?=some (.cells #[.string ⟨#[98]⟩,.string ⟨#[]⟩,.slice (some ⟨a.heap.size,0,none⟩) 1 1,.slice none 0 0] 29):=by rw[f];have:=aC (a.alloc (.cells #[.string ⟨#[107]⟩,.string ⟨#[]⟩] 72)) (.cells #[.string ⟨#[98]⟩,.string ⟨#[]⟩,.slice (some ⟨a.heap.size,0,none⟩) 1 1,.slice none 0 0] 29);rwa[bI]at this
 have I:dN b fF r:=(V.below B).below C;have Z:dN b fF ⟨none,0,some ⟨a.heap.size+1,0,none⟩,1⟩:=(EO (ER ag rfl) (ER R rfl)).at_;have ae:Calls prog 24 #[.agg #[.string ⟨#[97]⟩,.string ⟨#[]⟩,.slice r.ao 0 r.ac,.slice r.ko 1 r.kc],.agg #[.string ⟨#[97]⟩,.string ⟨#[]⟩,.slice none 0 0,.slice (some ⟨a.heap.size+1,0,none⟩) 1 1]] b (vl (fF=fF) b):=
  PN _ fF fF r ⟨none,0,some ⟨a.heap.size+1,0,none⟩,1⟩ b (aB _) I Z
 have al:=ai 0 e;have an:=ai 1 e;have ao:=ai 2 e;have aq:=ai 3 e;obtain⟨P,a0,a1,z,j,a4⟩:=gR ae X B C e I;clear ae X B C e I Z ag R V;go_wp2_with(first|(rw[<-s];clear s)|(rw[<-f];clear f)|fail)
 refine P.o.mono ?_;rintro d L ⟨⟨a5,rfl,G⟩,m⟩;have a9:a5=true:=by first|exact G.2 rfl|simpa using G
 subst a9;have h:=(m.block _ (aL ((z.o.block _ (aL j.o)).trans j.o))).trans ((z.o.block _ (aL j.o)).trans j.o);have l:=aD (aD (aD a0.o a1.o) z.o) m;have af:=(l.block _ (aL Q.out)).trans Q.out;have E:=aD av.o l;clear al an ao aq G P;have al:=ai 0 h;have an:=ai 1 h;have ao:=ai 2 h;have aq:=ai 3 h;have bd:=ai 0 af;have H:Calls prog 10 #[.agg #[.slice o 2 c],.string ⟨#[97]⟩,.agg #[.string ⟨#[97]⟩,.string ⟨#[]⟩,.slice r.ao 0 r.ac,.slice r.ko 1 r.kc]] L (yl ([v,y].map am.t) [97] fF L):=
  Dt C6 Dw [v,y] o c (EQ (by simp[t,u,cv])) (fun x g=>by
   simp at g;rcases g with rfl|rfl
   ·rw[t];decide
   ·rw[u];decide) [97] aw fF r L (M.o.below E) (a3.o.below l) (a4.o.below m) PO
 rw[show [v,y].map am.t=cv by simp[t,u,cv]]at H;obtain⟨O,a2⟩:=aE H E;clear H E l m h af;go_wp2_with fail
 refine O.o.mono ?_;rintro d be ⟨⟨q,rfl,ab⟩,a7⟩;have bc:=PQ ab;subst bc;clear O ab
 go_wp2
 go_ret;exact⟨rfl,aD a2.o a7⟩
def iI(ts:List ax)(n:Bytes):Int×Int:=if bW ts=0 then(if ee ts n<0 then(0,16)else(ee ts n,0))else(0,bW ts)
theorem PW(l:List am)(o:Option Addr)(cap:Nat)(w:World)(E:cn w o cap l)(p:ej l)(A:∀x∈l,x.t.nodes.length<=1048576)(n:Bytes):
 Calls prog 11 #[.agg #[.slice o l.length cap],.string ⟨n.toArray⟩] w (lC (iI (l.map am.t) n) w):=by
 obtain⟨X,r⟩:=aj (iI (l.map am.t) n);rw[<-r];have j:=ah r;clear r;obtain⟨w1,h⟩:=aj (w.alloc (.cells #[.slice o l.length cap] 24));have m:Below w.heap.size w w1:=by rw[h];exact az
 have L:w1.heap[w.heap.size]?=some (.cells #[.slice o l.length cap] 24):=by rw[h];exact aC w _
 have R:=ai 0 L;have I:=Ca l o cap w1 (E.below m) p A;obtain⟨D,M⟩:=aE I m;clear I L m E;go_enter func11,ntmps11
 go_wp2_with(first|(rw[<-h];clear h)|fail)
 refine D.o.mono ?_;rintro g V ⟨ys,K,J,rfl,d,s,G⟩;have q:=KY d p;have u:=KJ ys K J V s q (fun y T=>by obtain⟨x,S,g⟩:=xC d T;rw[<-g];exact A x S);rw[Cj,d]at u;obtain⟨B,P,Q,O,N⟩:=ku u s d q.len G;clear u s d q p A G D R;go_wp2_with fail
 refine B.o.mono ?_;rintro g W ⟨rfl,t⟩;have v:=KX ys K J W (P.o.below t) O.o n;rw[Q.o]at v;have F:=aD M.o (aD N.o t);obtain⟨C,i⟩:=aE v F;clear v F t B;by_cases b:bW (l.map am.t)=0
 ·have e:=ah b
  rw[b];clear b;go_wp2_with fail
  refine C.o.mono ?_;rintro g Y ⟨rfl,rfl⟩;clear C;obtain⟨c,a⟩:=aj (ee (l.map am.t) n);rw[<-a];have f:=ah a;clear a;by_cases z:c<0
  ·have H:decide (c<0)=true:=by rw[ct];exact z
   go_wp2
   go_ret2
   exact lC.of (by rw[j.o];unfold iI;rw[au e.o,<-f.o,au z]) rfl i.o
  ·have H:decide (c<0)=false:=by rw[cF];exact z
   go_wp2
   go_ret2
   exact lC.of (by rw[j.o];unfold iI;rw[au e.o,<-f.o,ap ad]) rfl i.o
 ·have e:=ah b
  obtain⟨c,a⟩:=aj (bW (l.map am.t));rw[<-a]at b⊢;have f:=ah a;clear a;have H:decide (c=0)=false:=by rw[cF];exact b
  go_wp2
  go_ret2
  exact lC.of (by rw[j.o];unfold iI;rw[ap e.o,<-f.o]) rfl i.o
def pB(ts:List ax):Bool:=ts.all (fun t=>decide (t.nodes.length<=20))&&(decide (ts.length<=5)&&k6 ts)
theorem PY(l:List am)(o:Option Addr)(cap:Nat)(w:World)(g:cn w o cap l):
 Calls prog 6 #[.agg #[.slice o l.length cap]] w fun u w'=>u=.returned (.bool (pB (l.map am.t)))/\Below w.heap.size w w':=by
 obtain⟨s,m⟩:=aj (pB (l.map am.t));rw[<-m];have i:=ah m;clear m;have Q:=g.1.2.1;have G:=g.1.2.2.1;unfold maxLen at G;obtain⟨w1,e⟩:=aj (w.alloc (.cells #[.slice o l.length cap] 24));have j:Below w.heap.size w w1:=by rw[e];exact az
 have D:w1.heap[w.heap.size]?=some (.cells #[.slice o l.length cap] 24):=by rw[e];exact aC w _
 have y:=g.below j;have L:=ai 0 D;obtain⟨r,h⟩:=aE y j;clear y j g D;go_enter func6,ntmps6
 go_wp2_with(first|(rw[<-e];clear e)|fail)
 try(rw[<-e])
 go_loopw [3] (fun v wr=>∃k:Nat,v=.int .i64 k/\k<=l.length/\wr=w1/\Hid (((l.take k).map am.t).all (fun t=>decide (t.nodes.length<=20))=true)) (fun v _=>l.length-(intOf v).toNat)
 case atStart=>exact⟨0,rfl,aK _,ak,rfl⟩
 case round=>
  obtain⟨k,rfl,N,C,a⟩:=hrel;rw[C];clear C wr;by_cases J:k<l.length
  ·have H:decide ((k:Int)<l.length)=true:=aM
   have P:(k:Int)<l.length:=ad;have O:(0:Int)<=k:=ad;obtain⟨x,f⟩:∃n,l[k]?=some n:=⟨_,aF J⟩;obtain⟨b,R,rfl,M,T,V,W,X,Y,Z⟩:=r.o.at f;by_cases A:x.t.nodes.length<=20
   ·have q:decide ((x.t.nodes.length:Int)>20)=false:=aJ
    have c:((l.take (k+1)).map am.t).all (fun t=>decide (t.nodes.length<=20))=true:=by have:=rD (l:=l.map am.t) (k:=k) (x:=x.t) (p:=fun t=>decide (t.nodes.length<=20)) (by rw[cb,f];rfl) (by rw[<-vI];exact a.o) (by simpa using A);rw[vI];exact this
    have E:=ah c;clear c a f
    go_wp2
    go_roundw
    case rel=>exact⟨k+1,aG,ad,by first|trivial|rfl,E⟩
    case measure=>exact aH
   ·have q:decide ((x.t.nodes.length:Int)>20)=true:=aM
    have K:s=false:=by rw[i.o];unfold pB;rw[rE (k:=k) (x:=x.t) (by rw[cb,f];rfl) (by simpa using A),vA]
    clear f a;subst K
    go_wp2
    go_ret;exact⟨rfl,h.o⟩
  ·have H:decide ((k:Int)<l.length)=false:=aJ
   have I:k=l.length:=ad;have c:(l.map am.t).all (fun t=>decide (t.nodes.length<=20))=true:=by have:=a.o;rw[I,pH]at this;exact this
   have d:s=(decide (l.length<=5)&&k6 (l.map am.t)):=by rw[i.o];unfold pB;rw[c,qI,cd]
   clear i c a;by_cases z:l.length<=5
   ·have q:decide ((l.length:Int)<=5)=true:=aM
    rw[ox z,qI]at d;have B:=J9 l o cap w1 r.o;rw[<-d]at B;clear d;go_wp2_with fail
    refine B.mono ?_;rintro u S ⟨rfl,F⟩
    go_wp2
    go_ret;exact⟨rfl,aD h.o F⟩
   ·have q:decide ((l.length:Int)<=5)=false:=aJ
    rw[pI z,vA]at d;subst d
    go_wp2
    go_ret;exact⟨rfl,h.o⟩
theorem Qb(t:Tr):0<(cy t).length:=by obtain⟨label,text,attrs,a⟩:=t;unfold cy;split<;>simp
theorem ET:∀ks:List Tr,ks.length<=(da ks).length
 |[]=>ak
 |k::ks=>by have a:=Qb k;have b:=ET ks;unfold da;rw[cm,de];omega
theorem Qc{m:Tr}(l:dC m)(d:∀s∈cy m,s.name.length<=100/\s.text.length<=100)(g:(cy m).length<=60):kT m:=by
 obtain⟨label,text,attrs,e⟩:=m;obtain⟨i,j,_⟩:=dC.text l;by_cases c:label=[]
 ·obtain⟨b,f⟩:=i c
  subst c b f;have:=d ⟨3,[],text⟩ (by unfold cy;simp);exact⟨by simp[Tr.label],by have:=this.2;simp only[Tr.text];simp only at this;omega,by simp[Tr.attrs],by simp[Tr.attrs],by simp[Tr.kids]⟩
 ·have o:=j c
  subst o;have n:cy (.mk label [] attrs e)=⟨1,label,[]⟩::(attrs.map dH++da e++[⟨4,[],[]⟩]):=by unfold cy;rw[ap c]
  rw[n]at d g;have f:=ET e;simp only[de,cm,cd,ga]at g;have h:=d ⟨1,label,[]⟩ ak;refine⟨by simp only[Tr.label];simp only at h;omega,by simp[Tr.text],by simp only[Tr.attrs];omega,fun a b=> ?_,by simp only[Tr.kids];omega⟩;have:=d (dH a) (by simp only[Tr.attrs]at b;exact f8 _ (sV _ (sV _ (ki b))));unfold dH at this;simp only at this;omega
theorem Qd:∀n:Nat,(∀t:Tr,SizeOf.sizeOf t<=n->dC t->∀m∈nodesT t,dC m/\(∀s∈cy m,s∈cy t)/\(cy m).length<=(cy t).length)/\
 (∀ks:List Tr,SizeOf.sizeOf ks<=n->gM ks->∀m∈cf ks,dC m/\(∀s∈cy m,s∈da ks)/\(cy m).length<=(da ks).length):=by
 intro n;induction n with
 |zero=>exact⟨fun t b=>by cases t;simp at b,fun ks b=>by cases ks<;>simp at b⟩
 |succ n ih=>
  refine⟨fun t b d m a=> ?_,fun ks b d m a=> ?_⟩
  ·obtain⟨label,text,attrs,g⟩:=t
   obtain⟨j,q,l⟩:=dC.text d;unfold nodesT at a;rcases eH.1 a with rfl|a
   ·exact⟨d,fun s c=>c,aB _⟩
   ·by_cases h:label=[]
    ·obtain⟨_,o⟩:=j h
     subst o;unfold cf at a;cases a
    ·have p:cy (.mk label text attrs g)=⟨1,label,[]⟩::(attrs.map dH++da g++[⟨4,[],[]⟩]):=by
      unfold cy;rw[ap h]
     obtain⟨e,f,i⟩:=ih.2 g (by simp at b;omega) l m a;rw[p];refine⟨e,fun s c=>f8 _ (sV _ (FM _ (f s c))),?_⟩;simp only[de,cm];omega
  ·cases ks with
   |nil=>unfold cf at a;cases a
   |cons k ks=>
    unfold gM at d;unfold cf at a;unfold da;rw[cm];rcases fe.1 a with a|a
    ·obtain⟨e,f,i⟩:=ih.1 k (by simp at b;omega) d.1 m a
     exact⟨e,fun s c=>sV _ (f s c),ad⟩
    ·obtain⟨e,f,i⟩:=ih.2 ks (by simp at b;omega) d.2 m a
     exact⟨e,fun s c=>FM _ (f s c),ad⟩
theorem Qe{t:Tr}{l:List bh}(e:dC t)(g:cy t=l)(a:lN l=true):∀m∈nodesT t,kT m:=by intro m f;obtain⟨c,b,d⟩:=(Qd (SizeOf.sizeOf t)).1 t (aB _) e m f;unfold lN at a;rw[dg,kM]at a;have i:=m7 a.2;rw[g]at b d;refine Qc c (fun s h=> ?_) ad;have:=a.1 s (b s h);rw[dg]at this;exact⟨m7 this.1,m7 this.2⟩
theorem Qf{ts:List ax}{n:Bytes}{t:Tr}{q:Int}(b:uP ts n t q):
 ((iI ts n).2≠0->q=(iI ts n).2)/\((iI ts n).2=0->∃a:Nat,iI ts n=((a:Int),0)/\a<ts.length/\bW ts=0/\(fW t≠0->q=fW t)/\(fW t=0->fw ts a t->q=0)/\(fW t=0->¬fw ts a t->q=22)):=by
 by_cases d:bW ts=0
 ·rcases KV d n with⟨l,c,_⟩|⟨k,x,r,l,c,_⟩
  ·have e:placeS ts n=none:=by
    unfold kQ at c;rw[au d]at c;cases e:placeS ts n with
    |none=>rfl
    |some k=>rw[e]at c;simp at c
   have i:iI ts n=(0,16):=by unfold iI;rw[au d,au l]
   rw[i];refine⟨fun _=> ?_,fun b=>by simp at b⟩;rcases b with⟨b,_⟩|⟨_,⟨_,b⟩|⟨a,g,_⟩⟩
   ·exact absurd d b
   ·exact b
   ·rw[e]at g;cases g
  ·have e:placeS ts n=some k:=by
    unfold kQ at c;rw[au d]at c;cases e:placeS ts n with
    |none=>rw[e]at c;simp at c
    |some j=>rw[e]at c;simp at c;congr 1;omega
   have i:iI ts n=((k:Int),0):=by unfold iI;rw[au d,l,ap ad]
   rw[i];refine⟨fun b=>absurd rfl b,fun _=>⟨k,rfl,(aP.1 r).1,d,?_⟩⟩;rcases b with⟨b,_⟩|⟨_,⟨b,_⟩|⟨a,g,b⟩⟩
   ·exact absurd d b
   ·rw[e]at b;cases b
   ·rw[e]at g
    injection g with g
    subst g;rcases b with⟨b,h⟩|⟨b,⟨m,h⟩|⟨m,h⟩⟩
    ·exact⟨fun _=>h,fun f=>absurd f b,fun f=>absurd f b⟩
    ·exact⟨fun f=>absurd b f,fun _ _=>h,fun _ p=>absurd m p⟩
    ·exact⟨fun f=>absurd b f,fun _ o=>absurd o m,fun _ _=>h⟩
 ·have i:iI ts n=(0,bW ts):=by unfold iI;rw[ap d]
  rw[i];refine⟨fun _=> ?_,fun b=>absurd b d⟩;rcases b with⟨_,b⟩|⟨b,_⟩
  ·exact b
  ·exact absurd b d
theorem Qg{ts:List ax}(a:pB ts=true):(∀t∈ts,t.nodes.length<=20)/\k6 ts=true:=by unfold pB at a;rw[dg,dg,kM]at a;exact⟨fun t b=>m7 (a.1 t b),a.2.2⟩
theorem Qh(l:List am)(o:Option Addr)(cap:Nat)(n:Bytes)(e0:n.length<=1048576)(f:List bh)(M:Option Addr)(L:Nat)(bo:f.length<=1048576)(w:World)(cq:Gl w)(g:cn w o cap l)(bl:iq w M L f):
 Calls prog 3 #[.agg #[.slice o l.length cap],.string ⟨n.toArray⟩,.slice M f.length L] w fun b w'=>b=.returned (.bool true)/\Below w.heap.size w w':=by
 obtain⟨w1,ae⟩:=aj (w.alloc (.cells #[.slice o l.length cap] 24));have C:Below w.heap.size w w1:=by rw[ae];exact az
 have d6:w1.heap[w.heap.size]?=some (.cells #[.slice o l.length cap] 24):=by rw[ae];exact aC w _
 have dz:=Qa f M L w1 (bl.below C) bo;obtain⟨ci,ec,cp,av,b4,b0⟩:=gR dz C d6 (g.below C) (bl.below C) (cq.below C);clear dz C d6 g bl cq;go_enter func3,ntmps3
 go_wp2_with(first|(rw[<-ae];clear ae)|fail)
 refine ci.o.mono ?_;rintro b c ⟨c3,e⟩;clear ci;obtain⟨t,r,ok,rfl,bf⟩:∃(t:Tr) (r:KA) (ok:Bool),b=.returned (.tuple #[.agg #[.string ⟨t.label.toArray⟩,.string ⟨t.text.toArray⟩,.slice r.ao t.attrs.length r.ac,.slice r.ko t.kids.length r.kc],.bool ok])/\(ok=true->dN c t r/\cy t=f/\dC t):=by
  rcases e with⟨t,r,e⟩|⟨t,r,e,V,W,eE⟩
  ·exact⟨t,r,false,e,fun g=>by cases g⟩
  ·exact⟨t,r,true,e,fun _=>⟨V.at_,W,eE⟩⟩
 clear e;obtain⟨j,af⟩:=aj (c.alloc (.cells #[.string ⟨t.label.toArray⟩,.string ⟨t.text.toArray⟩,.slice r.ao t.attrs.length r.ac,.slice r.ko t.kids.length r.kc] 29));have a3:Below c.heap.size c j:=by rw[af];exact az
 have bt:j.heap[c.heap.size]?=some (.cells #[.string ⟨t.label.toArray⟩,.string ⟨t.text.toArray⟩,.slice r.ao t.attrs.length r.ac,.slice r.ko t.kids.length r.kc] 29):=by rw[af];exact aC c _
 have d:=aD c3 a3;have a6:∀w',Below j.heap.size j w'->w'.cell? ⟨w.heap.size,0,none⟩=some (.slice o l.length cap)/\(w'.cell? ⟨c.heap.size,0,none⟩=some (.string ⟨t.label.toArray⟩)/\w'.cell? ⟨c.heap.size,1,none⟩=some (.string ⟨t.text.toArray⟩)/\w'.cell? ⟨c.heap.size,2,none⟩=some (.slice r.ao t.attrs.length r.ac)/\w'.cell? ⟨c.heap.size,3,none⟩=some (.slice r.ko t.kids.length r.kc)):=fun w' J=>by have d7:=(d.block _ (aL cp.out)).trans cp.out;have e7:=(J.block _ (aL d7)).trans d7;have ag:=(J.block _ (aL bt)).trans bt;exact⟨ai 0 e7,ai 0 ag,ai 1 ag,ai 2 ag,ai 3 ag⟩
 have c8:ok=true->dN j t r/\cy t=f/\dC t:=fun g=>⟨(bf g).1.below a3,(bf g).2⟩;obtain⟨B,b3,fc,a0,b5,b1,es,cl⟩:=oZ a6 c8 d (av.o.below d) (b4.o.below d) (b0.o.below d) (aD ec.o d) (PY l o cap j (av.o.below d));obtain⟨z,_⟩:=a6 j (aA _ _);clear a6 bf c8 d a3 bt c3 av b4 b0;go_wp2_with(first|(rw[<-af];clear af)|fail)
 refine cl.o.mono ?_;rintro b e9 ⟨rfl,c4⟩;have c0:∀w',Below j.heap.size j w'->Calls prog 9 #[] w' fun b d8=>b=.returned (.bool true)/\Below w.heap.size w d8:=fun w' J=>(PU w' (b1.o.below J)).mono fun b d8 ⟨V,W⟩=>⟨V,aD es.o (aD J W)⟩;obtain⟨p,R⟩:=aE c0 c4;clear c0 z cl c4;cases bm:pB (l.map am.t)with
 |false=>
  clear bm;go_wp2_with fail
  refine(p.o _ R.o).mono ?_;rintro b bz ⟨rfl,X⟩
  go_wp2
  go_ret;exact⟨rfl,X⟩
 |true=>
 have er:=ah bm;clear bm;have b8:=ah (KZ f M L e9 (b5.o.below R.o));go_wp2_with fail
 refine b8.o.mono ?_;rintro b bz ⟨rfl,X⟩;have A:=ah (aD R.o X);clear X R b8;cases ba:lN f with
 |false=>
  clear ba;go_wp2_with fail
  refine(p.o _ A.o).mono ?_;rintro b al ⟨rfl,F⟩
  go_wp2
  go_ret;exact⟨rfl,F⟩
 |true=>
 have bZ:=ah ba;clear ba;cases ok with
 |false=>
  go_wp2_with fail
  refine(p.o _ A.o).mono ?_;rintro b al ⟨rfl,F⟩
  go_wp2
  go_ret;exact⟨rfl,F⟩
 |true=>
 obtain⟨a5,d1,cs⟩:=b3.o rfl;obtain⟨b6,co,b2,cc⟩:=cI a5 d1 cs (K1 _ t r bz (aB _) (a5.below A.o));obtain⟨_,N,O,P,Q⟩:=B.o bz A.o;clear a5 d1 cs b3;go_wp2_with fail
 refine cc.o.mono ?_;rintro b al ⟨⟨q,rfl⟩,F⟩;have v:=ah (aD A.o F);clear F cc N O P Q A;cases q with
 |false=>
  go_wp2_with fail
  refine(p.o _ v.o).mono ?_;rintro b bA ⟨rfl,Y⟩
  go_wp2
  go_ret;exact⟨rfl,Y⟩
 |true=>
 have bg:=Qg er.o;have a4:=Ka bg.2;have be:∀x∈l,x.t.nodes.length<=20:=fun x h=>bg.1 x.t (ki h);obtain⟨ao,aq⟩:=aE a4 be;have bd:=Qe b2.o co.o bZ.o;have em:=ah bd;have bc:=Dt C6 Dw l o cap a4 (fun x h=>by have:=be x h;omega) n e0 t r al (b1.o.below v.o) (a0.o.below v.o) (b6.o.below v.o) bd;rw[vm]at bc;have b9:=ah bc;obtain⟨z,N,O,P,Q⟩:=B.o al v.o;clear bg a4 be bd bc;go_wp2_with fail
 refine b9.o.mono ?_;rintro b bA ⟨⟨q,rfl,du⟩,Y⟩;have a7:=aD v.o Y;obtain⟨an,a1⟩:=aE a7 (PW l o cap bA (a0.o.below a7) ao.o (fun x h=>by have:=aq.o x h;omega) n);have dr:=Qf du;have H:=ah dr;clear z N O P Q b9 v du Y a7 dr;obtain⟨z,_⟩:=B.o bA an.o;rcases ds:iI (l.map am.t) n with⟨e6,bq⟩
 rw[ds]at H a1;clear ds;go_wp2_with fail
 refine a1.o.mono ?_;rintro b fb ⟨rfl,c5⟩;have T:=ah (aD an.o c5);clear c5 an a1 z;by_cases e:bq=0;rotate_left
 ·have ab:q=bq:=H.o.1 e
  have eN:decide (bq=0)=false:=by rw[cF];exact e
  clear H;subst ab;go_wp2_with fail
  refine(p.o _ T.o).mono ?_;rintro b ea ⟨rfl,Z⟩
  go_wp2
  go_ret;exact⟨rfl,Z⟩
 obtain⟨a,c9,halt,cx,d3,d4,d5⟩:=H.o.2 e;have e1:e6=(a:Int):=by injection c9
 subst e e1;clear c9 H;obtain⟨eb,en,ed,eg,el,ce⟩:=gR halt cx d3 d4 d5 (Cl f M L fb (b5.o.below T.o) bo);clear halt cx d3 d4 d5;go_wp2_with fail
 refine ce.o.mono ?_;rintro b ea ⟨e4,eB,rfl,d0,Z⟩;have bE:=ah (aD T.o Z);have a9:=P8 f e4 eB ea d0 bo (fun s e2=>by have:=bZ.o;unfold lN at this;rw[dg,kM]at this;have:=this.1 s e2;rw[dg]at this;have V:=m7 this.1;have W:=m7 this.2;omega)
 have c7:pQ f=fW t:=by rw[<-co.o];exact GB t b2.o
 rw[c7]at a9;have b7:=ah a9;clear a9 c7 d0 Z ce T;go_wp2_with fail
 refine b7.o.mono ?_;rintro b bu ⟨rfl,c1⟩;have u:=ah (aD bE.o c1);clear c1 bE b7;by_cases G:fW t=0;rotate_left
 ·have ab:=ed.o G
  obtain⟨ex,cu⟩:=aj (fW t);rw[<-cu]at G ab⊢;have eN:decide (ex=0)=false:=by rw[cF];exact G
  clear cu;subst ab;go_wp2_with fail
  refine(p.o _ u.o).mono ?_;rintro b bw ⟨rfl,E⟩
  go_wp2
  go_ret;exact⟨rfl,E⟩
 have bF:=ah G;rw[G];clear G;obtain⟨z,N,O,P,Q⟩:=B.o bu u.o;have I:=B.o bu.drew u.o.drew;have ch:=ah (Ca l o cap bu.drew (a0.o.below u.o.drew) ao.o (fun x h=>by have:=aq.o x h;omega));go_wp2_with fail
 clear z N O P Q;refine sw (S:=(fun w'=>w'.cell? ⟨w.heap.size,0,none⟩=some (.slice o l.length cap)/\(w'.cell? ⟨c.heap.size,0,none⟩=some (.string ⟨t.label.toArray⟩)/\w'.cell? ⟨c.heap.size,1,none⟩=some (.string ⟨t.text.toArray⟩)/\w'.cell? ⟨c.heap.size,2,none⟩=some (.slice r.ao t.attrs.length r.ac)/\w'.cell? ⟨c.heap.size,3,none⟩=some (.slice r.ko t.kids.length r.kc)))) (last:=4) ay ?_;refine dF (i:=2) rfl I ?_;simp only[Act.put,bp,bs,bj];refine dF (i:=3) rfl I ?_;simp only[Act.put,bp,bs,bj];refine g6 (i:=0) ay rfl (fun a2 D=> ?_);have fg:=I.1;go_simp;refine D.out _ _ (fun _=>I) (fun _=> ?_);try simp only[Act.put,bp,bs,bj]
 refine g6 (i:=1) ay rfl (fun a2 D=> ?_);go_simp;refine ch.o.mono ?_;rintro b bw ⟨ys,e5,eD,rfl,K,cN,E⟩;have cG:=B.o bw (aD (u.o.drew) E);refine D.out _ _ (fun _=>cG) (fun _=> ?_);try simp only[Act.put,bp,bs,bj]
 refine g6 (i:=4) ay rfl (fun a2 D=> ?_);go_simp;have d2:ys.length=l.length:=by have:=iK List.length K;simpa using this
 have bb:=LM ys e5 eD (by rw[K];exact en.o) (by rw[d2];exact ao.o.len) (fun y e3=>by obtain⟨x,h,b⟩:=xC K e3;rw[<-b];have:=aq.o x h;omega) _ a t r bw (aB _) (by have:=eb.o;rw[cd]at this;omega) cN (b6.o.below (aD u.o.drew E)) (fun m eZ=>(em.o m eZ).kids);rw[K,vm]at bb;refine bb.mono ?_;rintro b fl ⟨⟨ez,rfl,c6⟩,c2⟩;refine D.out _ _ (fun g=>absurd rfl g) (fun _=> ?_);try simp only[Act.put,bp,bs,bj]
 refine su ay ?_ _;have bB:=ah (aD (aD u.o.drew E) c2);have aa:=c6;clear bb d2 c2 E cN K I cG D a2 ch c6;cases ez with
 |true=>
  have bi:q=0:=eg.o bF.o (by simpa using aa);clear aa;subst bi;go_wp2_with fail
  refine(p.o _ bB.o).mono ?_;rintro b e8 ⟨rfl,d⟩
  go_wp2
  go_ret;exact⟨rfl,d⟩
 |false=>
  have bi:q=22:=el.o bF.o (by simpa using aa);clear aa;subst bi;go_wp2_with fail
  refine(p.o _ bB.o).mono ?_;rintro b e8 ⟨rfl,d⟩
  go_wp2
  go_ret;exact⟨rfl,d⟩
end Go.Proofs.YtbacloblanpghaaGreatDoor
