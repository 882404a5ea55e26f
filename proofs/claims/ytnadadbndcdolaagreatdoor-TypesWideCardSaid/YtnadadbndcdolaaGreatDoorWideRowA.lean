/-
  TypesWide: the row: WHATEVER COMES IN, the statement's function returns true, and what came in reads behind the call as it read before.
-/
import Derived.Test.YtnadadbndcdolaaGreatDoorQby
import Derived.Test.YtnadadbndcdolaaGreatDoorRows
import Derived.Test.YtnadadbndcdolaaGreatDoorTie
import Derived.Test.YtnadadbndcdolaaGreatDoorCards
import Derived.Deep.Slices
import Derived.ChangeArms
import Derived.OpenShut
import Derived.Lib.LaidU8
import Derived.SevenTiedAt
import Derived.Lay
import Derived.LaidMore
import Derived.Deep.DeepHandedRow
import Derived.MakeChecks
import Derived.Shelf.Vars
import Derived.WalkKit
import Derived.ProofKit
import Derived.ShutString
import Derived.ChangeOld
import Derived.Below
set_option linter.unusedVariables false
set_option linter.unusedSimpArgs false
set_option maxRecDepth 100000
set_option maxHeartbeats 0
namespace Go.Proofs.YtnadadbndcdolaaGreatDoor
open Go.RowKit Go.Proofs.Tryz
open Go.RowKit Go.ChangeShapes Go.WideShapes Go.Deep
theorem SG{e:Type}{Q:Nat->e->Prop}:∀n,(∀i,i<n->∃a,Q i a)->∃xs:List e,xs.length=n/\∀i x,xs[i]?=some x->Q i x:=by
 intro n;induction n with
 |zero=>intro _;exact⟨[],rfl,fun i x c=>by simp at c⟩
 |succ n ih=>
  intro c;obtain⟨xs,d,g⟩:=ih (fun i b=>c i ad);obtain⟨a,f⟩:=c n ad;refine⟨xs++[a],by simp[d],fun i x b=> ?_⟩;by_cases h:i<n
  ·rw[eP ad]at b;exact g i x b
  ·have:i=n:=by have:=(aL.1 b).1;simp at this;omega
   subst this;rw[fZ ad]at b;simp[d]at b;subst b;exact f
theorem Ho(b c i:Nat):(⟨b,c,none⟩:Addr).add i=⟨b,c+i,none⟩:=by
 by_cases a:i=0
 ·subst a;simp[Addr.add]
 ·simp[Addr.add,a]
theorem HJ{b:Type}{f:b->List Value}{z:Nat}(c:∀x,(f x).length=z)(l:List b):(l.flatMap f).length=l.length*z:=by
 induction l with
 |nil=>simp
 |cons a t ih=>rw[uh,cR,c,ih,db,Nat.add_mul];omega
theorem AO{w:Type}{H:Type}{enc:TypeId×Value->H}{W:World}{t q:TypeId}{z M:Nat}{row:w->List Value}{Pr:w->Prop}{cs:List Value}{x:DataW H×List MemPlace}
 (V:prog.underlying t=some (.slice q)) (aa:prog.cellsOf q=z) (l:0<z) (h:∀a,(row a).length=z)
 (P:∀n p y,DataW.trod enc prog W 0 (fun _=>true) true n q p=some y->∃a,Pr a/\p=row a)
 (r:DataW.trod enc prog W 0 (fun _=>true) true M t cs=some x):
 ∃(xs:List w) (o:Option Addr) (cap:Nat),cs=[.slice o xs.length cap]/\dp W o xs.length cap z (xs.flatMap row)/\∀a∈xs,Pr a:=by
 rcases open_slice V r with⟨v,_⟩|⟨a,len,cap,m,n,ae,Pl,v,_,R,S,G,_,B⟩
 ·exact⟨[],none,0,v,⟨ak,az _,bI,fun r=>by simp at r⟩,fun a O=>by simp at O⟩
 ·rw[ay rfl]at G
  subst G;rw[aa]at B;obtain⟨xs,Y,K⟩:=SG (Q:=fun i x=>Pr x/\W.cells? 0 (a.add (i*z)) z=some (row x)) len (fun i f=>by obtain⟨p,d,e⟩:=B i ad;obtain⟨y,c,rfl⟩:=P _ _ _ e;exact⟨y,c,d⟩)
  subst Y;refine⟨xs,some a,m,v,⟨HJ h xs,R,S,fun N=> ?_⟩,fun y c=> ?_⟩
  ·have D:∀i y,xs[i]?=some y->∀j,j<z->W.cell? ((a.add (i*z)).add j)=(row y)[j]?:=fun i y f j g=>(World.cells?_some (K i y f).2).2.2 j g
   obtain⟨L,Z⟩:∃y,xs[0]?=some y:=⟨_,aH N⟩;have A:=D 0 L Z 0 l;obtain⟨u0,X⟩:∃u,(row L)[0]?=some u:=⟨_,aH (by rw[h];exact l)⟩;rw[X,ui]at A;have C:W.cell? a=some u0:=by simpa[Addr.add]using A
   have J:=World.cell?_spot C;obtain⟨b,ab,af⟩:=a;simp only at J;subst J;refine⟨b,ab,rfl,?_,fun j u g=> ?_⟩
   ·rcases jg b W.heap.size with s|s
    ·exact s
    ·simp[World.cell?,Array.getElem?_eq_none s]at C
   ·have F:=(aL.1 g).1
    rw[HJ h]at F;have T:j/z<xs.length:=(Nat.div_lt_iff_lt_mul l).2 F;have I:j % z<z:=Nat.mod_lt _ l;have E:j=j/z*z+j % z:=by have:=Nat.div_add_mod j z;rw[Nat.mul_comm]at this;omega
    obtain⟨y,c⟩:∃y,xs[j/z]?=some y:=⟨_,aH T⟩;have d:=lu z h c (j % z) I;rw[<-E,g]at d;have e:=D _ y c (j % z) I;rw[<-d,Ho,Ho,iE,<-E]at e;exact e
  ·obtain⟨i,f⟩:=pd.1 c
   exact(K i y f).1
section
variable{H:Type} {enc:TypeId×Value->H} {W:World}
theorem AP:prog.cellsOf 3=1:=aA
theorem tZ:prog.cellsOf 9=1:=aA
theorem SH:prog.cellsOf 4=1:=aA
theorem HZ:prog.cellsOf 102=4:=aA
theorem Ia:prog.cellsOf 53=6:=aA
theorem SI:prog.cellsOf 51=1:=aA
theorem SJ:prog.cellsOf 24=1:=aA
theorem SK:prog.cellsOf 48=1:=aA
theorem SL:prog.cellsOf 49=1:=aA
theorem SM:prog.cellsOf 22=1:=aA
theorem lf{d:Array Field}{i g m:Nat}{t:TypeId}{cs:List Value}{c:Value}{xs:List (DataW H×List MemPlace)}{y:DataW H×List MemPlace}
 (n:∀(i:Nat) (f:Field),d[i]?=some f->DataW.trod enc prog W 0 (fun _=>true) true m f.type ((cs.drop f.offset).take (prog.cellsOf f.type))=xs[i]?)
 (a:(d[i]?).map (fun f=>(f.type,f.offset))=some (t,g)) (p:prog.cellsOf t=1) (l:(cs.drop g).take 1=[c]) (o:xs[i]?=some y):DataW.trod enc prog W 0 (fun _=>true) true m t [c]=some y:=by
 cases b:d[i]? with
 |none=>rw[b]at a;cases a
 |some f=>
  rw[b]at a;simp only[Option.map_some,jY,rE]at a;obtain⟨h,j⟩:=a;have e:=n i f b;rw[h,j,p,l,o]at e;exact e
theorem lh{a:Type}{xs:List a}{n i:Nat}(b:xs.length=n)(c:i<n):∃y,xs[i]?=some y:=⟨_,aH ad⟩
theorem SN(n:Nat)(cs:List Value)(y:DataW H×List MemPlace)(q:DataW.trod enc prog W 0 (fun _=>true) true n 102 cs=some y):∃a:aj,True/\cs=nodeRow a:=by
 obtain⟨xs,m,_,_,h,c,b⟩:=DataW.trod_struct underlying102 q;rw[HZ]at h;match cs,h with
 |[v,w,x,z],_=>
  obtain⟨A,j⟩:=lh c (i:=0) ap;obtain⟨B,l⟩:=lh c (i:=1) ap;obtain⟨C,o⟩:=lh c (i:=2) ap;obtain⟨D,p⟩:=lh c (i:=3) ap;obtain⟨r,d,_,_⟩:=DataW.trod_int cU (lf b (i:=0) rfl AP rfl j);obtain⟨s,e,_,_⟩:=DataW.trod_string gq (lf b (i:=1) rfl tZ rfl l);obtain⟨t,f,_,_⟩:=DataW.trod_int cU (lf b (i:=2) rfl AP rfl o);obtain⟨u,g,_,_⟩:=DataW.trod_int cU (lf b (i:=3) rfl AP rfl p);refine⟨⟨r,s.data.toList,t,u⟩,trivial,?_⟩;simp only[xM,and_true]at d e f g;subst d;subst e;subst f;subst g;rfl
theorem SO(n:Nat)(cs:List Value)(y:DataW H×List MemPlace)(b:DataW.trod enc prog W 0 (fun _=>true) true n 9 cs=some y):∃a:Bytes,True/\cs=[encStr a]:=by obtain⟨s,rfl,_,_⟩:=DataW.trod_string gq b;exact⟨s.data.toList,trivial,rfl⟩
theorem SP{n:Nat}{cs:List Value}{y:DataW H×List MemPlace}(a:DataW.trod enc prog W 0 (fun _=>true) true n 48 cs=some y):∃(l:List Bytes) (o:Option Addr) (cap:Nat),cs=[.slice o l.length cap]/\dZ W o cap l:=by obtain⟨l,o,cap,c,d,_⟩:=AO mT tZ ap (row:=fun b=>[encStr b]) (fun _=>rfl) SO a;exact⟨l,o,cap,c,by unfold dZ;rw[List.map_eq_flatMap];exact d⟩
theorem SR{n:Nat}{cs:List Value}{y:DataW H×List MemPlace}(a:DataW.trod enc prog W 0 (fun _=>true) true n 49 cs=some y):∃(l:List aj) (o:Option Addr) (cap:Nat),cs=[.slice o l.length cap]/\cO W o cap l:=by obtain⟨l,o,cap,b,c,_⟩:=AO rN HZ ap (row:=nodeRow) (fun _=>rfl) SN a;exact⟨l,o,cap,b,c⟩
theorem SS(n:Nat)(cs:List Value)(y:DataW H×List MemPlace)(v:DataW.trod enc prog W 0 (fun _=>true) true n 53 cs=some y):∃a:am,(dZ W a.ao a.ac a.t.attrs/\cO W a.no a.nc a.t.nodes)/\cs=typeRow a:=by
 obtain⟨xs,m,_,_,l,c,b⟩:=DataW.trod_struct I1 v;rw[Ia]at l;match cs,l with
 |[M,N,O,P,Q,R],_=>
  obtain⟨T,o⟩:=lh c (i:=0) ap;obtain⟨V,p⟩:=lh c (i:=1) ap;obtain⟨X,q⟩:=lh c (i:=2) ap;obtain⟨Y,r⟩:=lh c (i:=3) ap;obtain⟨Z,s⟩:=lh c (i:=4) ap;obtain⟨aa,t⟩:=lh c (i:=5) ap;obtain⟨B,d,_,_⟩:=DataW.trod_string gq (lf b (i:=0) rfl tZ rfl o);obtain⟨C,e,_,_⟩:=DataW.trod_string gq (lf b (i:=1) rfl tZ rfl p);obtain⟨F,I,K,f,A⟩:=SP (lf b (i:=2) rfl SK rfl q);obtain⟨D,g,_,_⟩:=DataW.trod_string gq (lf b (i:=3) rfl tZ rfl r);obtain⟨E,h,_⟩:=DataW.trod_bool underlying4 (lf b (i:=4) rfl SH rfl s);obtain⟨zs,S,_,_,_,x,w⟩:=DataW.trod_struct ya (lf b (i:=5) rfl SI rfl t);obtain⟨ab,u⟩:=lh x (i:=0) ap;obtain⟨G,J,L,j,z⟩:=SR (lf w (i:=0) rfl SL rfl u);refine⟨⟨⟨B.data.toList,C.data.toList,F,D.data.toList,E,G⟩,I,K,J,L⟩,⟨A,z⟩,?_⟩;simp only[xM,and_true]at d e f g h j;subst d;subst e;subst f;subst g;subst h;subst j;rfl
theorem ST{n:Nat}{cs:List Value}{y:DataW H×List MemPlace}(d:DataW.trod enc prog W 0 (fun _=>true) true n 24 cs=some y):∃(l:List am) (o:Option Addr) (cap:Nat),cs=[.slice o l.length cap]/\bR W o cap l:=by
 obtain⟨zs,m,_,_,a,j,h⟩:=DataW.trod_struct underlying24 d;rw[SJ]at a;match cs,a with
 |[c],_=>
  obtain⟨p,b⟩:=lh j (i:=0) ap;obtain⟨l,o,cap,e,f,g⟩:=AO IE Ia ap (row:=typeRow) (fun _=>rfl) SS (lf h (i:=0) rfl SM rfl b);exact⟨l,o,cap,e,f,g⟩
end
theorem gSpans:prog.globalNamed "spyglass/utf.spans" =some 5:=aA
theorem tSpans:(prog.globals[5]?).map (·.type)=some 432:=aA
theorem cSpan:prog.cellsOf 430=2:=aA
theorem cI32:prog.cellsOf 21=1:=aA
theorem SU{w:World}(o:Lib.VarReads prog w "spyglass/utf.spans" Rows.laid_spyglass_utf_spans):U.Spans w:=by
 obtain⟨g,t,cs,A,p,m,v,x,r⟩:=o;obtain rfl:=Option.some.inj (gSpans.symm.trans m);obtain rfl:=Option.some.inj (tSpans.symm.trans v);have y:∀i:Nat,i<5->cs[i*2]?=some (.int .i32 (U.spanNums.getD (i*2) 0))/\cs[i*2+1]?=some (.int .i32 (U.spanNums.getD (i*2+1) 0)):=by
  intro i n;obtain⟨B,d,q,u,l⟩:=Lib.array_elem underlying432 r i n;have s:d=.agg ([U.spanNums.getD (i*2) 0,U.spanNums.getD (i*2+1) 0].map fun z=>DataW.lit (.int .i32 z)):=by have:i=0∨i=1∨i=2∨i=3∨i=4:=ad;rcases this with rfl|rfl|rfl|rfl|rfl<;>exact(Option.some.inj u).symm
  subst s;rw[cSpan]at l;have h:=Lib.ints_of_struct underlying430 (fun j f a=>by
   match j,a with
   |0,a=>simp at a;subst a;exact⟨underlying21,rfl,cI32⟩
   |1,a=>simp at a;subst a;exact⟨underlying21,rfl,cI32⟩
   |j+2,a=>simp at a) (by rw[cSpan];rfl) l
  have c:=jk (·[0]?) h;have e:=jk (·[1]?) h;simp[List.getElem?_drop]at c e;exact⟨by simpa using c,by simpa using e⟩
 intro i n;rw[World.var?_cell m x i];have b:i=(i/2)*2∨i=(i/2)*2+1:=ad;have:=y (i/2) ad;rcases b with b|b
 ·rw[b];exact this.1
 ·rw[b];exact this.2
theorem Ib{w:World}{n:String}{d:DataW Unit}{g:Nat}(e:prog.globalNamed n=some g)(c:Lib.VarReads prog w n d):g<w.heap.size:=by
 obtain⟨h,t,cs,f,p,j,l,b,i⟩:=c;unfold World.var? at b;rw[e]at b;rcases jg g w.heap.size with a|a
 ·exact a
 ·simp[Array.getElem?_eq_none a]at b
theorem SV{w:World}(b:Lib.VarReads prog w "math/bits.deBruijn64tab" Rows.laid_math_bits_deBruijn64tab):Go.Proofs.TabAt 0 Lib.deBruijn64tab w:=by
 obtain⟨g,t,cs,l,p,f,h,i,e⟩:=b;obtain rfl:=Option.some.inj ((show prog.globalNamed "math/bits.deBruijn64tab" =some 0 by kernel_rfl).symm.trans f);obtain rfl:=Option.some.inj ((show(prog.globals[0]?).map (·.type)=some 355 by kernel_rfl).symm.trans h);have d:Lib.TabIs prog w "math/bits.deBruijn64tab" .u8 (Lib.deBruijn64tab.map fun(n:Nat)=>(n:Int)):=by unfold Lib.TabIs;rw[i,<-Lib.cells_of_tab (zs:=Lib.deBruijn64tab.map fun(n:Nat)=>(n:Int)) underlying355 underlying5 aA aA e]
 intro j a;have c:=d.cell (g:=0) aA j (by simpa using a);rw[c];simp[List.getD,a]
theorem SW{l:List (String×DataW Unit)}{w:World}(a:laidMet prog l w)(b:("spyglass/utf.spans",Rows.laid_spyglass_utf_spans)∈l)(c:("math/bits.deBruijn64tab",Rows.laid_math_bits_deBruijn64tab)∈l):Gl w:=
 ⟨Ib aA (Lib.laidMet.reads a b),SU (Lib.laidMet.reads a b),Ib aA (Lib.laidMet.reads a c),SV (Lib.laidMet.reads a c)⟩
open Go.ChangeShapes Go.WideShapes Go.ChangeAt Go.RowKit
open Go.ChangeMaps (open_string shut_string)
theorem own:ownKnob prog.godebug=none:=aA
theorem SX:laidOutB prog=true:=aA
theorem SY(os:Os)(args:Array Value):laidMetH prog Rows.typesWideRow.laid ((World.laidAll prog os Rows.typesWideRow.laid).forCall (fun _ _=>0) ⟨#[],args,[]⟩).memory:=by rw[MakeChecks.laidMetH_plain _ _ _ aA];exact laidMet_laidAll _ aA aA
theorem SZ(os:Os)(ao:os.Started)(H:Type)(enc:TypeId×Value->H):
 ReturnsInHanded {} checked os 4 .any (fun w args=>(Rows.typesWideSpec.pre enc prog f4 Rows.typesWideRow.domain false w args/\laidMetH prog Rows.typesWideRow.laid w)/\sizedMet enc prog f4 (OpenSpec.ofChange Rows.typesWideSpec) false w args)
  (Rows.typesWideSpec.post enc prog f4 false true false false):=by
 refine returnsInHanded_of_calls own ao aA
  (ChangeSpec.witness_shaped (enc:=enc) (C:=checked) (os:=os) (X:=fun w _=>laidMetH prog Rows.typesWideRow.laid w) false (World.laidAll prog os Rows.typesWideRow.laid) #[.agg #[.slice none 0 0],.int .i64 0] 8 (World.laidAll_os _ _ _) (World.shaped_of_ZipB aA aA) aA aA aA (SY os _)) ?_
 intro w c i _ ab _ Y aa _;obtain⟨_,_,_,L,z,_,_,_,_,b⟩:=Y;have a:L=f4:=Option.some.inj (z.symm.trans func4);subst a;obtain⟨⟨⟨K,a4,av,A,Q⟩,B⟩,ae⟩:=aa;have e:=DataW.Whole.of_heap (w':=w.forCall c i) (by rfl) A;have d:laidMetH prog Rows.typesWideRow.laid (w.forCall c i):=laidMetH.of_heap (by rfl) B;suffices hmain:Calls prog 4 i.args (w.forCall c i) fun a W'=>∃v,a=.returned v/\Rows.typesWideSpec.post enc prog f4 false true false false (w.forCall c i) i.args v W' by refine hmain.mono fun a W' ⟨v,g,Z⟩=> ?_;subst g;exact ChangeSpec.post_blind Z
 generalize i.args=args at b e⊢;generalize w.heap.size=J at b;generalize w.forCall c i=W at b e d⊢;rw[MakeChecks.laidMetH_plain _ _ _ aA]at d;have T:Gl W:=SW d (by simp[Rows.typesWideRow]) (by simp[Rows.typesWideRow]);clear d B A Q ae ab z;have h:∀(j:Nat) t v,f4.params[j]?=some t->args[j]?=some v->Value.okWide prog W .any J t v:=b;have P:=e;obtain⟨p,q,y,O,rfl,a6,a7⟩:=e;have u:DataW.TrodAll enc prog W 0 (fun _=>true) true f4.params.toList args.toList K p:=y;rw[params4]at u h;obtain⟨G,bb,d0,a0,ag,a9,a5,rfl,rfl,s,al⟩:=trodAll_cons u;obtain⟨I,bc,d1,a2,a8,ba,rfl,rfl,rfl,N,an⟩:=trodAll_cons al;obtain⟨rfl,rfl,rfl⟩:=trodAll_nil an;obtain rfl:args=#[G,I]:=by cases args;simp_all
 obtain⟨rfl,rfl⟩:=trodVars_none O;obtain⟨f,rfl,_⟩:=okWide_struct underlying24 (h 0 24 G rfl rfl);have D:=s;have af:∀x∈ag,x.block<W.heap.size:=by obtain⟨m,V⟩:=D;exact DataW.trod_lt m _ _ _ V
 obtain⟨E,F,r,R,w0⟩:∃(l:List am) (o:Option Addr) (cap:Nat),f.toList=[.slice o l.length cap]/\bR W o cap l:=by obtain⟨a3,S⟩:=s;exact ST S
 obtain rfl:f=#[.slice F E.length r]:=by cases f;simpa using R
 obtain⟨a1,rfl,rfl,rfl,aq⟩:=open_int cU (h 1 3 I rfl rfl) N;clear y b;refine(SF E F r a1 W T w0).mono fun a W' ⟨g,n⟩=> ?_;subst g;exact⟨_,rfl,_,_,_,[],_,[],P,trodAll_mk1 (shut_bool underlying4 _),(trodAll_cons_mk (Below.trod SX aA (xS aA) D n af) (trodAll_cons_mk (shut_int cU aq) trodAll_mk0)),rfl,n.frame _,fun M=>by cases M⟩
theorem S0:(Rows.typesWideRow.inPlace==prog.inPlace 4)=true:=aA
theorem S3:(Rows.typesWideRow.unfollowed==prog.unfollowed 4)=true:=aA
theorem S5:(Rows.typesWideRow.recurses==prog.recurses 4)=true:=aA
theorem S6:(Rows.typesWideRow.named==prog.varsNamed 4)=true:=aA
theorem S7:joinedFacts prog 4 f4 Rows.typesWideSpec Rows.typesWideRow=true:=by unfold joinedFacts;rw[S0,S3,S5,S6];kernel_rfl
theorem S8:f4.isWrapper prog Rows.typesWideRow.wrapper Rows.typesWideRow.mainSum:=by unfold Func.isWrapper;first|(rw[ay (by decide+kernel)];kernel_rfl)|(rw[au (by decide+kernel)];exact⟨rfl,rfl⟩)
theorem S9:Rows.TypesWideSaid:=
 OpenClaim.holds_of_wide 4 f4 rfl rfl rfl rfl rfl rfl rfl ⟨rfl,rfl,rfl,rfl,rfl⟩ rfl rfl rfl rfl rfl aA func4 S7
  (xS aA) S8
  (fun os a H enc _=>SZ os a H enc)
end Go.Proofs.YtnadadbndcdolaaGreatDoor
