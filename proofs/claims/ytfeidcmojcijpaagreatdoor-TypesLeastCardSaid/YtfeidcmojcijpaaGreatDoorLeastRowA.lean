/-
  TypesLeast: the row: WHATEVER COMES IN, the statement's function returns true, and what came in reads behind the call as it read before.
-/
import Derived.Test.YtfeidcmojcijpaaGreatDoorQby
import Derived.Test.YtfeidcmojcijpaaGreatDoorRows
import Derived.Test.YtfeidcmojcijpaaGreatDoorTie
import Derived.Test.YtfeidcmojcijpaaGreatDoorCards
import Derived.Deep.Slices
import Derived.ChangeArms
import Derived.OpenShut
import Derived.Lib.LaidU8
import Derived.SevenTiedAt
import Derived.Lay
import Derived.LaidMore
import Derived.Deep.DeepHandedRow
import Derived.MakeChecks
import Derived.Shelf.Vars
import Derived.WalkKit
import Derived.ProofKit
import Derived.ShutString
import Derived.ChangeOld
import Derived.Below
set_option linter.all false
set_option maxRecDepth 100000
set_option maxHeartbeats 0
namespace Go.Proofs.YtfeidcmojcijpaaGreatDoor
open Go.RowKit Go.Proofs.Tryz
open Go.RowKit Go.ChangeShapes Go.WideShapes Go.Deep
def VW{e:Type}{Q:Nat->e->Prop}:∀n,(∀i,i<n->∃a,Q i a)->∃xs:List e,xs.length=n/\∀i x,xs[i]?=some x->Q i x:=by
 intro n;induction n with
 |zero=>intro _;exact⟨[],rfl,fun i x c=>by simp at c⟩
 |succ n ih=>
  intro c;obtain⟨xs,d,g⟩:=ih (fun i b=>c i ad);obtain⟨a,f⟩:=c n ad;refine⟨xs++[a],by simp[d],fun i x b=> ?_⟩;by_cases h:i<n;rw[eC ad]at b;exact g i x b;have:i=n:=by have:=(aF.1 b).1;simp at this;omega
  subst this;rw[gp ad]at b;simp[d]at b;subst b;exact f
def J8(b c i:Nat):(⟨b,c,none⟩:Addr).add i=⟨b,c+i,none⟩:=by by_cases a:i=0;subst a;simp[Addr.add];simp[Addr.add,a]
def J9{b:Type}{f:b->List Value}{z:Nat}(c:∀x,(f x).length=z)(l:List b):(l.flatMap f).length=l.length*z:=by
 induction l with
 |nil=>simp
 |cons a t ih=>rw[tZ,ck,c,ih,ef,Nat.add_mul];omega
def CV{f:Type}{H:Type}{enc:TypeId×Value->H}{W:World}{t e:TypeId}{z g:Nat}{row:f->List Value}{c:f->Prop}{cs:List Value}{x:DataW H×List MemPlace}
 (v:prog.underlying t=some (.slice e)) (w:prog.cellsOf e=z) (p:0<z) (l:∀a,(row a).length=z)
 (s:∀n h y,DataW.trod enc prog W 0 (fun _=>true) true n e h=some y->∃a,c a/\h=row a)
 (d:DataW.trod enc prog W 0 (fun _=>true) true g t cs=some x):
 ∃(xs:List f) (o:Option Addr) (cap:Nat),cs=[.slice o xs.length cap]/\cn W o xs.length cap z (xs.flatMap row)/\∀a∈xs,c a:=by
 rcases open_slice v d with⟨q,_⟩|⟨a,len,cap,m,n,D,Pl,q,_,A,B,f,_,r⟩
 exact⟨[],none,0,q,⟨aj,ay _,bO,fun d=>by simp at d⟩,fun a g=>by simp at g⟩;rw[au rfl]at f;subst f;rw[w]at r;obtain⟨xs,w,v⟩:=VW (Q:=fun i x=>c x/\W.cells? 0 (a.add (i*z)) z=some (row x)) len (fun i g=>by obtain⟨h,d,f⟩:=r i ad;obtain⟨y,c,rfl⟩:=s _ _ _ f;exact⟨y,c,d⟩)
 subst w;refine⟨xs,some a,m,q,⟨J9 l xs,A,B,fun w=> ?_⟩,fun y c=> ?_⟩;have s:∀i y,xs[i]?=some y->∀j,j<z->W.cell? ((a.add (i*z)).add j)=(row y)[j]?:=fun i y g j h=>(World.cells?_some (v i y g).2).2.2 j h;obtain⟨r,A⟩:=aT w;have q:=s 0 r A 0 p;obtain⟨u0,w⟩:=df (row r) 0 (by rw[l];exact p);rw[w,wu]at q;have r:W.cell? a=some u0:=by simpa[Addr.add]using q
 have q:=World.cell?_spot r;obtain⟨b,w,A⟩:=a;simp only at q;subst q;refine⟨b,w,rfl,?_,fun j u h=> ?_⟩;rcases kF b W.heap.size with q|q
 exact q;simp[World.cell?,Array.getElem?_eq_none q]at r;have q:=(aF.1 h).1;rw[J9 l]at q;have r:j/z<xs.length:=(Nat.div_lt_iff_lt_mul p).2 q;have q:j % z<z:=Nat.mod_lt _ p;have p:j=j/z*z+j % z:=by have:=Nat.div_add_mod j z;rw[Nat.mul_comm]at this;omega
 obtain⟨y,c⟩:=aT r;have d:=oC z l c (j % z) q;rw[<-p,h]at d;have f:=s _ y c (j % z) q;rw[<-d,J8,J8,lZ,<-p]at f;exact f;obtain⟨i,g⟩:=qG.1 c;exact(v i y g).1
section
variable{H:Type} {enc:TypeId×Value->H} {W:World}
def CW:prog.cellsOf 3=1:=az
def wg:prog.cellsOf 9=1:=az
def VX:prog.cellsOf 4=1:=az
def Ka:prog.cellsOf 104=4:=az
def Kb:prog.cellsOf 55=6:=az
def VY:prog.cellsOf 52=1:=az
def VZ:prog.cellsOf 24=1:=az
def V0:prog.cellsOf 53=1:=az
def V1:prog.cellsOf 50=1:=az
def V3:prog.cellsOf 22=1:=az
def mK{b:Array Field}{i g m:Nat}{t:TypeId}{cs:List Value}{c:Value}{xs:List (DataW H×List MemPlace)}{y:DataW H×List MemPlace}
 (n:∀(i:Nat) (f:Field),b[i]?=some f->DataW.trod enc prog W 0 (fun _=>true) true m f.type ((cs.drop f.offset).take (prog.cellsOf f.type))=xs[i]?)
 (a:(b[i]?).map (fun f=>(f.type,f.offset))=some (t,g)) (p:prog.cellsOf t=1) (l:(cs.drop g).take 1=[c]) (o:xs[i]?=some y):DataW.trod enc prog W 0 (fun _=>true) true m t [c]=some y:=by
 cases e:b[i]? with
 |none=>rw[e]at a;cases a
 |some f=>
  rw[e]at a;simp only[qJ,lX,ww]at a;obtain⟨h,j⟩:=a;have d:=n i f e;rw[h,j,p,l,o]at d;exact d
def mM{a:Type}{xs:List a}{n i:Nat}(b:xs.length=n)(c:i<n):∃y,xs[i]?=some y:=⟨_,cV ad⟩
def V4(n:Nat)(cs:List Value)(y:DataW H×List MemPlace)(q:DataW.trod enc prog W 0 (fun _=>true) true n 104 cs=some y):∃a:ax,True/\cs=nodeRow a:=by
 obtain⟨xs,m,_,_,h,c,b⟩:=DataW.trod_struct underlying104 q;rw[Ka]at h;match cs,h with
 |[v,w,x,z],_=>
  obtain⟨A,j⟩:=mM c (i:=0) aq;obtain⟨B,l⟩:=mM c (i:=1) aq;obtain⟨C,o⟩:=mM c (i:=2) aq;obtain⟨D,p⟩:=mM c (i:=3) aq;obtain⟨r,d,_,_⟩:=DataW.trod_int ei (mK b (i:=0) rfl CW rfl j);obtain⟨s,e,_,_⟩:=DataW.trod_string iI (mK b (i:=1) rfl wg rfl l);obtain⟨t,f,_,_⟩:=DataW.trod_int ei (mK b (i:=2) rfl CW rfl o);obtain⟨u,g,_,_⟩:=DataW.trod_int ei (mK b (i:=3) rfl CW rfl p);refine⟨⟨r,s.data.toList,t,u⟩,trivial,?_⟩;simp only[Kv,and_true]at d e f g;subst d;subst e;subst f;subst g;rfl
def V5(n:Nat)(cs:List Value)(y:DataW H×List MemPlace)(b:DataW.trod enc prog W 0 (fun _=>true) true n 9 cs=some y):∃a:Bytes,True/\cs=[encStr a]:=by obtain⟨s,rfl,_,_⟩:=DataW.trod_string iI b;exact⟨s.data.toList,trivial,rfl⟩
def V6{n:Nat}{cs:List Value}{y:DataW H×List MemPlace}(a:DataW.trod enc prog W 0 (fun _=>true) true n 53 cs=some y):∃(l:List Bytes) (o:Option Addr) (cap:Nat),cs=[.slice o l.length cap]/\cI W o cap l:=by obtain⟨l,o,cap,c,d,_⟩:=CV jM wg aq (row:=fun b=>[encStr b]) (fun _=>rfl) V5 a;exact⟨l,o,cap,c,by unfold cI;rw[List.map_eq_flatMap];exact d⟩
def V7{n:Nat}{cs:List Value}{y:DataW H×List MemPlace}(a:DataW.trod enc prog W 0 (fun _=>true) true n 50 cs=some y):∃(l:List ax) (o:Option Addr) (cap:Nat),cs=[.slice o l.length cap]/\dv W o cap l:=by obtain⟨l,o,cap,b,c,_⟩:=CV zL Ka aq (row:=nodeRow) (fun _=>rfl) V4 a;exact⟨l,o,cap,b,c⟩
def V8(n:Nat)(cs:List Value)(y:DataW H×List MemPlace)(v:DataW.trod enc prog W 0 (fun _=>true) true n 55 cs=some y):∃a:ai,(cI W a.ao a.ac a.t.zx/\dv W a.no a.nc a.t.E)/\cs=typeRow a:=by
 obtain⟨xs,m,_,_,l,c,b⟩:=DataW.trod_struct underlying55 v;rw[Kb]at l;match cs,l with
 |[N,O,P,Q,R,S],_=>
  obtain⟨V,o⟩:=mM c (i:=0) aq;obtain⟨X,p⟩:=mM c (i:=1) aq;obtain⟨Y,q⟩:=mM c (i:=2) aq;obtain⟨Z,r⟩:=mM c (i:=3) aq;obtain⟨aa,s⟩:=mM c (i:=4) aq;obtain⟨ab,t⟩:=mM c (i:=5) aq;obtain⟨B,d,_,_⟩:=DataW.trod_string iI (mK b (i:=0) rfl wg rfl o);obtain⟨C,e,_,_⟩:=DataW.trod_string iI (mK b (i:=1) rfl wg rfl p);obtain⟨F,I,K,f,A⟩:=V6 (mK b (i:=2) rfl V0 rfl q);obtain⟨D,g,_,_⟩:=DataW.trod_string iI (mK b (i:=3) rfl wg rfl r);obtain⟨E,h,_⟩:=DataW.trod_bool underlying4 (mK b (i:=4) rfl VX rfl s);obtain⟨zs,T,_,_,_,x,w⟩:=DataW.trod_struct underlying52 (mK b (i:=5) rfl VY rfl t);obtain⟨ae,u⟩:=mM x (i:=0) aq;obtain⟨G,J,M,j,z⟩:=V7 (mK w (i:=0) rfl V1 rfl u);refine⟨⟨⟨B.data.toList,C.data.toList,F,D.data.toList,E,G⟩,I,K,J,M⟩,⟨A,z⟩,?_⟩;simp only[Kv,and_true]at d e f g h j;subst d;subst e;subst f;subst g;subst h;subst j;rfl
def V9{n:Nat}{cs:List Value}{y:DataW H×List MemPlace}(d:DataW.trod enc prog W 0 (fun _=>true) true n 24 cs=some y):∃(l:List ai) (o:Option Addr) (cap:Nat),cs=[.slice o l.length cap]/\cw W o cap l:=by
 obtain⟨zs,m,_,_,a,j,h⟩:=DataW.trod_struct underlying24 d;rw[VZ]at a;match cs,a with
 |[c],_=>
  obtain⟨p,b⟩:=mM j (i:=0) aq;obtain⟨l,o,cap,e,f,g⟩:=CV underlying22 Kb aq (row:=typeRow) (fun _=>rfl) V8 (mK h (i:=0) rfl V3 rfl b);exact⟨l,o,cap,e,f,g⟩
end
def Wa{w:World}{n:String}{d:DataW Unit}{g:Nat}(e:prog.globalNamed n=some g)(c:Lib.VarReads prog w n d):g<w.heap.size:=by
 obtain⟨h,t,cs,f,p,j,l,b,i⟩:=c;unfold World.var? at b;rw[e]at b;rcases kF g w.heap.size with a|a
 exact a;simp[Array.getElem?_eq_none a]at b
def Wc{w:World}(b:Lib.VarReads prog w "math/bits.deBruijn64tab" Rows.laid_math_bits_deBruijn64tab):Go.Proofs.TabAt 3 Lib.deBruijn64tab w:=by
 obtain⟨g,t,cs,l,p,f,h,i,e⟩:=b;obtain rfl:=Option.some.inj ((show prog.globalNamed "math/bits.deBruijn64tab" =some 3 by kernel_rfl).zy.Z f);obtain rfl:=Option.some.inj ((show(prog.globals[3]?).map (·.type)=some 337 by kernel_rfl).zy.Z h);have d:Lib.TabIs prog w "math/bits.deBruijn64tab" .u8 (Lib.deBruijn64tab.map fun(n:Nat)=>(n:Int)):=by unfold Lib.TabIs;rw[i,<-Lib.cells_of_tab (zs:=Lib.deBruijn64tab.map fun(n:Nat)=>(n:Int)) underlying337 underlying5 az az e]
 intro j a;have c:=d.cell (g:=3) az j (by simpa using a);rw[c];simp[List.getD,a]
def Wd{l:List (String×DataW Unit)}{w:World}(a:laidMet prog l w)(b:("math/bits.deBruijn64tab",Rows.laid_math_bits_deBruijn64tab)∈l):Gl w:=
 ⟨Wa az (Lib.laidMet.reads a b),Wc (Lib.laidMet.reads a b)⟩
open Go.ChangeShapes Go.WideShapes Go.ChangeAt Go.RowKit
open Go.ChangeMaps (open_string shut_string)
def own:ownKnob prog.godebug=none:=az
def Kc:laidOutB prog=true:=az
def We(os:Os)(args:Array Value):laidMetH prog Rows.typesLeastRow.laid ((World.laidAll prog os Rows.typesLeastRow.laid).forCall (fun _ _=>0) ⟨#[],args,[]⟩).memory:=by rw[MakeChecks.laidMetH_plain _ _ _ az];exact laidMet_laidAll _ az az
def Wf(os:Os)(a6:os.Started)(H:Type)(enc:TypeId×Value->H):
 ReturnsInHanded {} checked os 3 .any (fun w args=>(Rows.typesLeastSpec.pre enc prog f3 Rows.typesLeastRow.domain false w args/\laidMetH prog Rows.typesLeastRow.laid w)/\sizedMet enc prog f3 (OpenSpec.ofChange Rows.typesLeastSpec) false w args)
  (Rows.typesLeastSpec.post enc prog f3 false true false false):=by
 refine returnsInHanded_of_calls own a6 az
  (ChangeSpec.witness_shaped (enc:=enc) (C:=checked) (os:=os) (X:=fun w _=>laidMetH prog Rows.typesLeastRow.laid w) false (World.laidAll prog os Rows.typesLeastRow.laid) #[.agg #[.slice none 0 0],.string ⟨#[]⟩] 8 (World.laidAll_os _ _ _) (World.shaped_of_ZipB az az) az az az (We os _)) ?_
 intro w b i _ ao _ ag an _;obtain⟨_,_,_,S,D,_,_,_,_,a⟩:=ag;have e:S=f3:=Option.some.inj (D.zy.Z func3);subst e;obtain⟨⟨⟨R,bd,a9,F,Z⟩,G⟩,av⟩:=an;have d:=DataW.Whole.of_heap (w':=w.forCall b i) (by rfl) F;have c:laidMetH prog Rows.typesLeastRow.laid (w.forCall b i):=laidMetH.of_heap (by rfl) G;suffices hmain:Calls prog 3 i.args (w.forCall b i) fun e W'=>∃v,e=.returned v/\Rows.typesLeastSpec.post enc prog f3 false true false false (w.forCall b i) i.args v W' by refine hmain.zz fun e W' ⟨v,h,al⟩=> ?_;subst h;exact ChangeSpec.post_blind al
 generalize i.args=args at a d⊢;generalize w.heap.size=Q at a;generalize w.forCall b i=W at a d c⊢;rw[MakeChecks.laidMetH_plain _ _ _ az]at c;have ae:Gl W:=Wd c (by simp[Rows.typesLeastRow]);clear c G F Z av ao D;have r:∀(j:Nat) t v,f3.params[j]?=some t->args[j]?=some v->Value.okWide prog W .any Q t v:=a;have Y:=d;obtain⟨p,q,B,V,rfl,bf,bg⟩:=d;have A:DataW.TrodAll enc prog W 0 (fun _=>true) true f3.params.toList args.toList R p:=B;rw[params3]at A r;obtain⟨O,bo,d0,ba,a2,bi,be,rfl,rfl,y,a4⟩:=trodAll_cons A;obtain⟨P,bq,d1,bb,a3,bl,rfl,rfl,rfl,z,a5⟩:=trodAll_cons a4;obtain⟨rfl,rfl,rfl⟩:=trodAll_nil a5;obtain rfl:args=#[O,P]:=by cases args;simp_all
 obtain⟨rfl,rfl⟩:=trodVars_none V;obtain⟨g,rfl,_⟩:=okWide_struct underlying24 (r 0 24 O rfl rfl);have I:=y;have a0:∀x∈a2,x.block<W.heap.size:=by obtain⟨m,n⟩:=I;exact DataW.trod_lt m _ _ _ n
 obtain⟨K,N,u,aa,a7⟩:∃(l:List ai) (o:Option Addr) (cap:Nat),g.toList=[.slice o l.length cap]/\cw W o cap l:=by obtain⟨bc,ab⟩:=y;exact V9 ab
 obtain rfl:g=#[.slice N K.length u]:=by cases g;simpa using aa
 have J:=z;have a1:∀x∈a3,x.block<W.heap.size:=by obtain⟨m,n⟩:=J;exact DataW.trod_lt m _ _ _ n
 obtain⟨s,rfl,_,_,E⟩:=open_string iI (r 1 9 P rfl rfl) z;obtain⟨M,rfl⟩:∃aw:Bytes,s=⟨aw.toArray⟩:=⟨s.data.toList,by cases s;simp⟩;have af:M.length<=maxLen:=by rw[eJ]at E;exact E
 clear B a;refine(VV K N u M af W ae a7).zz fun e W' ⟨h,f⟩=> ?_;subst h;exact⟨_,rfl,_,_,_,[],_,[],Y,trodAll_mk1 (shut_bool underlying4 _),(trodAll_cons_mk (Below.trod Kc az (kE az) I f a0) (trodAll_cons_mk (Below.trod Kc az (kE az) J f a1) trodAll_mk0)),rfl,f.frame _,fun T=>by cases T⟩
def Wg:(Rows.typesLeastRow.inPlace==prog.inPlace 3)=true:=az
def Wh:(Rows.typesLeastRow.unfollowed==prog.unfollowed 3)=true:=az
def Wi:(Rows.typesLeastRow.recurses==prog.recurses 3)=true:=az
def Wj:(Rows.typesLeastRow.named==prog.varsNamed 3)=true:=az
def Wl:joinedFacts prog 3 f3 Rows.typesLeastSpec Rows.typesLeastRow=true:=by unfold joinedFacts;rw[Wg,Wh,Wi,Wj];kernel_rfl
def Wm:f3.isWrapper prog Rows.typesLeastRow.wrapper Rows.typesLeastRow.mainSum:=by unfold Func.isWrapper;first|(rw[au (by decide+kernel)];kernel_rfl)|(rw[ap (by decide+kernel)];exact⟨rfl,rfl⟩)
def Wn:Rows.TypesLeastSaid:=
 OpenClaim.holds_of_wide 3 f3 rfl rfl rfl rfl rfl rfl rfl ⟨rfl,rfl,rfl,rfl,rfl⟩ rfl rfl rfl rfl rfl az func3 Wl
  (kE az) Wm
  (fun os a H enc _=>Wf os a H enc)
end Go.Proofs.YtfeidcmojcijpaaGreatDoor
