/-
  TypesMembers, in the given second form: WHATEVER COMES IN, of bulk at most 1048576, the statement's function returns true, and what came in reads behind the call as it read before. The listed package-level variables are tied to the program's text by the given ties. No further condition.
-/
import Derived.Test.YtbacloblanpghaaGreatDoorQby
import Derived.Test.YtbacloblanpghaaGreatDoorRows
import Derived.Test.YtbacloblanpghaaGreatDoorTie
import Derived.Test.YtbacloblanpghaaGreatDoorCards
import Derived.Deep.Slices
import Derived.ChangeArms
import Derived.OpenShut
import Derived.Lib.LaidU8
import Derived.SevenTiedAt
import Derived.Lay
import Derived.LaidMore
import Derived.Deep.DeepHandedRow
import Derived.MakeChecks
import Derived.Shelf.Vars
import Derived.WalkKit
import Derived.ProofKit
import Derived.ShutString
import Derived.ChangeOld
import Derived.Below
set_option linter.unusedVariables false
set_option linter.unusedSimpArgs false
set_option maxRecDepth 100000
set_option maxHeartbeats 0
namespace Go.Proofs.YtbacloblanpghaaGreatDoor
open Go.RowKit Go.Proofs.Tryz
open Go.RowKit Go.ChangeShapes Go.WideShapes Go.Deep
theorem Qi{e:Type}{Q:Nat->e->Prop}:∀n,(∀i,i<n->∃a,Q i a)->∃xs:List e,xs.length=n/\∀i x,xs[i]?=some x->Q i x:=by
 intro n;induction n with
 |zero=>intro _;exact⟨[],rfl,fun i x c=>by simp at c⟩
 |succ n ih=>
  intro c;obtain⟨xs,d,g⟩:=ih (fun i b=>c i ad);obtain⟨a,f⟩:=c n ad;refine⟨xs++[a],by simp[d],fun i x b=> ?_⟩;by_cases h:i<n
  ·rw[eF ad]at b;exact g i x b
  ·have:i=n:=by have:=(aP.1 b).1;simp at this;omega
   subst this;rw[gH ad]at b;simp[d]at b;subst b;exact f
theorem EU(b c i:Nat):(⟨b,c,none⟩:Addr).add i=⟨b,c+i,none⟩:=by
 by_cases a:i=0
 ·subst a;simp[Addr.add]
 ·simp[Addr.add,a]
theorem EV{b:Type}{f:b->List Value}{z:Nat}(c:∀x,(f x).length=z)(l:List b):(l.flatMap f).length=l.length*z:=by
 induction l with
 |nil=>simp
 |cons a t ih=>rw[Fa,cm,c,ih,de,Nat.add_mul];omega
theorem vn{A:Type}{H:Type}{enc:TypeId×Value->H}{W:World}{t r:TypeId}{z N:Nat}{row:A->List Value}{p:A->Prop}{cs:List Value}{x:DataW H×List MemPlace}
 (X:prog.underlying t=some (.slice r)) (ab:prog.cellsOf r=z) (l:0<z) (h:∀a,(row a).length=z)
 (R:∀n q y,DataW.trod enc prog W 0 (fun _=>true) true n r q=some y->∃a,p a/\q=row a)
 (s:DataW.trod enc prog W 0 (fun _=>true) true N t cs=some x):
 ∃(xs:List A) (o:Option Addr) (cap:Nat),cs=[.slice o xs.length cap]/\cS W o xs.length cap z (xs.flatMap row)/\∀a∈xs,p a:=by
 rcases open_slice X s with⟨w,_⟩|⟨a,len,cap,m,n,af,Pl,w,_,S,T,I,_,C⟩
 ·exact⟨[],none,0,w,⟨ak,aB _,bN,fun s=>by simp at s⟩,fun a P=>by simp at P⟩
 ·rw[au rfl]at I
  subst I;rw[ab]at C;obtain⟨xs,Z,L⟩:=Qi (Q:=fun i x=>p x/\W.cells? 0 (a.add (i*z)) z=some (row x)) len (fun i f=>by obtain⟨q,d,e⟩:=C i ad;obtain⟨y,c,rfl⟩:=R _ _ _ e;exact⟨y,c,d⟩)
  subst Z;refine⟨xs,some a,m,w,⟨EV h xs,S,T,fun O=> ?_⟩,fun y c=> ?_⟩
  ·have E:∀i y,xs[i]?=some y->∀j,j<z->W.cell? ((a.add (i*z)).add j)=(row y)[j]?:=fun i y f j g=>(World.cells?_some (L i y f).2).2.2 j g
   obtain⟨M,aa⟩:∃y,xs[0]?=some y:=⟨_,aF O⟩;have B:=E 0 M aa 0 l;obtain⟨u0,Y⟩:∃u,(row M)[0]?=some u:=⟨_,aF (by rw[h];exact l)⟩;rw[Y,sK]at B;have D:W.cell? a=some u0:=by simpa[Addr.add]using B
   have K:=World.cell?_spot D;obtain⟨b,ae,ag⟩:=a;simp only at K;subst K;refine⟨b,ae,rfl,?_,fun j u g=> ?_⟩
   ·rcases ow b W.heap.size with v|v
    ·exact v
    ·simp[World.cell?,Array.getElem?_eq_none v]at D
   ·have G:=(aP.1 g).1
    rw[EV h]at G;have V:j/z<xs.length:=(Nat.div_lt_iff_lt_mul l).2 G;have J:j % z<z:=Nat.mod_lt _ l;have F:j=j/z*z+j % z:=by have:=Nat.div_add_mod j z;rw[Nat.mul_comm]at this;omega
    obtain⟨y,c⟩:∃y,xs[j/z]?=some y:=⟨_,aF V⟩;have d:=nh z h c (j % z) J;rw[<-F,g]at d;have e:=E _ y c (j % z) J;rw[<-d,EU,EU,fI,<-F]at e;exact e
  ·obtain⟨i,f⟩:=m0.1 c
   exact(L i y f).1
section
variable{H:Type} {enc:TypeId×Value->H} {W:World}
theorem vp:prog.cellsOf 3=1:=ay
theorem pC:prog.cellsOf 9=1:=ay
theorem Qj:prog.cellsOf 4=1:=ay
theorem EW:prog.cellsOf 140=4:=ay
theorem EX:prog.cellsOf 68=6:=ay
theorem Qk:prog.cellsOf 65=1:=ay
theorem Ql:prog.cellsOf 24=1:=ay
theorem Qm:prog.cellsOf 66=1:=ay
theorem Qn:prog.cellsOf 63=1:=ay
theorem Qo:prog.cellsOf 22=1:=ay
theorem iV{d:Array Field}{i g m:Nat}{t:TypeId}{cs:List Value}{c:Value}{xs:List (DataW H×List MemPlace)}{y:DataW H×List MemPlace}
 (n:∀(i:Nat) (f:Field),d[i]?=some f->DataW.trod enc prog W 0 (fun _=>true) true m f.type ((cs.drop f.offset).take (prog.cellsOf f.type))=xs[i]?)
 (a:(d[i]?).map (fun f=>(f.type,f.offset))=some (t,g)) (p:prog.cellsOf t=1) (l:(cs.drop g).take 1=[c]) (o:xs[i]?=some y):DataW.trod enc prog W 0 (fun _=>true) true m t [c]=some y:=by
 cases b:d[i]? with
 |none=>rw[b]at a;cases a
 |some f=>
  rw[b]at a;simp only[Option.map_some,gV,pD]at a;obtain⟨h,j⟩:=a;have e:=n i f b;rw[h,j,p,l,o]at e;exact e
theorem iW{a:Type}{xs:List a}{n i:Nat}(b:xs.length=n)(c:i<n):∃y,xs[i]?=some y:=⟨_,aF ad⟩
theorem Qp(n:Nat)(cs:List Value)(y:DataW H×List MemPlace)(q:DataW.trod enc prog W 0 (fun _=>true) true n 140 cs=some y):∃a:ar,True/\cs=nodeRow a:=by
 obtain⟨xs,m,_,_,h,c,b⟩:=DataW.trod_struct underlying140 q;rw[EW]at h;match cs,h with
 |[v,w,x,z],_=>
  obtain⟨A,j⟩:=iW c (i:=0) aw;obtain⟨B,l⟩:=iW c (i:=1) aw;obtain⟨C,o⟩:=iW c (i:=2) aw;obtain⟨D,p⟩:=iW c (i:=3) aw;obtain⟨r,d,_,_⟩:=DataW.trod_int cX (iV b (i:=0) rfl vp rfl j);obtain⟨s,e,_,_⟩:=DataW.trod_string fZ (iV b (i:=1) rfl pC rfl l);obtain⟨t,f,_,_⟩:=DataW.trod_int cX (iV b (i:=2) rfl vp rfl o);obtain⟨u,g,_,_⟩:=DataW.trod_int cX (iV b (i:=3) rfl vp rfl p);refine⟨⟨r,s.data.toList,t,u⟩,trivial,?_⟩;simp only[zq,and_true]at d e f g;subst d;subst e;subst f;subst g;rfl
theorem Qq(n:Nat)(cs:List Value)(y:DataW H×List MemPlace)(b:DataW.trod enc prog W 0 (fun _=>true) true n 9 cs=some y):∃a:Bytes,True/\cs=[encStr a]:=by obtain⟨s,rfl,_,_⟩:=DataW.trod_string fZ b;exact⟨s.data.toList,trivial,rfl⟩
theorem Qr{n:Nat}{cs:List Value}{y:DataW H×List MemPlace}(a:DataW.trod enc prog W 0 (fun _=>true) true n 66 cs=some y):∃(l:List Bytes) (o:Option Addr) (cap:Nat),cs=[.slice o l.length cap]/\dk W o cap l:=by obtain⟨l,o,cap,c,d,_⟩:=vn jE pC aw (row:=fun b=>[encStr b]) (fun _=>rfl) Qq a;exact⟨l,o,cap,c,by unfold dk;rw[List.map_eq_flatMap];exact d⟩
theorem Qs{n:Nat}{cs:List Value}{y:DataW H×List MemPlace}(a:DataW.trod enc prog W 0 (fun _=>true) true n 63 cs=some y):∃(l:List ar) (o:Option Addr) (cap:Nat),cs=[.slice o l.length cap]/\di W o cap l:=by obtain⟨l,o,cap,b,c,_⟩:=vn vF EW aw (row:=nodeRow) (fun _=>rfl) Qp a;exact⟨l,o,cap,b,c⟩
theorem Qt(n:Nat)(cs:List Value)(y:DataW H×List MemPlace)(v:DataW.trod enc prog W 0 (fun _=>true) true n 68 cs=some y):∃a:am,(dk W a.ao a.ac a.t.attrs/\di W a.no a.nc a.t.nodes)/\cs=typeRow a:=by
 obtain⟨xs,m,_,_,l,c,b⟩:=DataW.trod_struct underlying68 v;rw[EX]at l;match cs,l with
 |[M,N,O,P,Q,R],_=>
  obtain⟨T,o⟩:=iW c (i:=0) aw;obtain⟨V,p⟩:=iW c (i:=1) aw;obtain⟨X,q⟩:=iW c (i:=2) aw;obtain⟨Y,r⟩:=iW c (i:=3) aw;obtain⟨Z,s⟩:=iW c (i:=4) aw;obtain⟨aa,t⟩:=iW c (i:=5) aw;obtain⟨B,d,_,_⟩:=DataW.trod_string fZ (iV b (i:=0) rfl pC rfl o);obtain⟨C,e,_,_⟩:=DataW.trod_string fZ (iV b (i:=1) rfl pC rfl p);obtain⟨F,I,K,f,A⟩:=Qr (iV b (i:=2) rfl Qm rfl q);obtain⟨D,g,_,_⟩:=DataW.trod_string fZ (iV b (i:=3) rfl pC rfl r);obtain⟨E,h,_⟩:=DataW.trod_bool underlying4 (iV b (i:=4) rfl Qj rfl s);obtain⟨zs,S,_,_,_,x,w⟩:=DataW.trod_struct underlying65 (iV b (i:=5) rfl Qk rfl t);obtain⟨ab,u⟩:=iW x (i:=0) aw;obtain⟨G,J,L,j,z⟩:=Qs (iV w (i:=0) rfl Qn rfl u);refine⟨⟨⟨B.data.toList,C.data.toList,F,D.data.toList,E,G⟩,I,K,J,L⟩,⟨A,z⟩,?_⟩;simp only[zq,and_true]at d e f g h j;subst d;subst e;subst f;subst g;subst h;subst j;rfl
theorem Qu{n:Nat}{cs:List Value}{y:DataW H×List MemPlace}(d:DataW.trod enc prog W 0 (fun _=>true) true n 24 cs=some y):∃(l:List am) (o:Option Addr) (cap:Nat),cs=[.slice o l.length cap]/\cn W o cap l:=by
 obtain⟨zs,m,_,_,a,j,h⟩:=DataW.trod_struct underlying24 d;rw[Ql]at a;match cs,a with
 |[c],_=>
  obtain⟨p,b⟩:=iW j (i:=0) aw;obtain⟨l,o,cap,e,f,g⟩:=vn underlying22 EX aw (row:=typeRow) (fun _=>rfl) Qt (iV h (i:=0) rfl Qo rfl b);exact⟨l,o,cap,e,f,g⟩
end
theorem gSpans:prog.globalNamed "spyglass/utf.spans" =some 5:=ay
theorem tSpans:(prog.globals[5]?).map (·.type)=some 388:=ay
theorem cSpan:prog.cellsOf 386=2:=ay
theorem cI32:prog.cellsOf 21=1:=ay
theorem Qv{w:World}(o:Lib.VarReads prog w "spyglass/utf.spans" Rows.laid_spyglass_utf_spans):U.Spans w:=by
 obtain⟨g,t,cs,A,p,m,v,x,r⟩:=o;obtain rfl:=Option.some.inj (gSpans.symm.trans m);obtain rfl:=Option.some.inj (tSpans.symm.trans v);have y:∀i:Nat,i<5->cs[i*2]?=some (.int .i32 (U.spanNums.getD (i*2) 0))/\cs[i*2+1]?=some (.int .i32 (U.spanNums.getD (i*2+1) 0)):=by
  intro i n;obtain⟨B,d,q,u,l⟩:=Lib.array_elem underlying388 r i n;have s:d=.agg ([U.spanNums.getD (i*2) 0,U.spanNums.getD (i*2+1) 0].map fun z=>DataW.lit (.int .i32 z)):=by have:i=0∨i=1∨i=2∨i=3∨i=4:=ad;rcases this with rfl|rfl|rfl|rfl|rfl<;>exact(Option.some.inj u).symm
  subst s;rw[cSpan]at l;have h:=Lib.ints_of_struct underlying386 (fun j f a=>by
   match j,a with
   |0,a=>simp at a;subst a;exact⟨underlying21,rfl,cI32⟩
   |1,a=>simp at a;subst a;exact⟨underlying21,rfl,cI32⟩
   |j+2,a=>simp at a) (by rw[cSpan];rfl) l
  have c:=iK (·[0]?) h;have e:=iK (·[1]?) h;simp[vG]at c e;exact⟨by simpa using c,by simpa using e⟩
 intro i n;rw[World.var?_cell m x i];have b:i=(i/2)*2∨i=(i/2)*2+1:=ad;have:=y (i/2) ad;rcases b with b|b
 ·rw[b];exact this.1
 ·rw[b];exact this.2
theorem EY{w:World}{n:String}{d:DataW Unit}{g:Nat}(e:prog.globalNamed n=some g)(c:Lib.VarReads prog w n d):g<w.heap.size:=by
 obtain⟨h,t,cs,f,p,j,l,b,i⟩:=c;unfold World.var? at b;rw[e]at b;rcases ow g w.heap.size with a|a
 ·exact a
 ·simp[Array.getElem?_eq_none a]at b
theorem Qw{w:World}(b:Lib.VarReads prog w "math/bits.deBruijn64tab" Rows.laid_math_bits_deBruijn64tab):Go.Proofs.TabAt 0 Lib.deBruijn64tab w:=by
 obtain⟨g,t,cs,l,p,f,h,i,e⟩:=b;obtain rfl:=Option.some.inj ((show prog.globalNamed "math/bits.deBruijn64tab" =some 0 by kernel_rfl).symm.trans f);obtain rfl:=Option.some.inj ((show(prog.globals[0]?).map (·.type)=some 312 by kernel_rfl).symm.trans h);have d:Lib.TabIs prog w "math/bits.deBruijn64tab" .u8 (Lib.deBruijn64tab.map fun(n:Nat)=>(n:Int)):=by unfold Lib.TabIs;rw[i,<-Lib.cells_of_tab (zs:=Lib.deBruijn64tab.map fun(n:Nat)=>(n:Int)) underlying312 underlying5 ay ay e]
 intro j a;have c:=d.cell (g:=0) ay j (by simpa using a);rw[c];simp[List.getD,a]
theorem Qx{l:List (String×DataW Unit)}{w:World}(a:laidMet prog l w)(b:("spyglass/utf.spans",Rows.laid_spyglass_utf_spans)∈l)(c:("math/bits.deBruijn64tab",Rows.laid_math_bits_deBruijn64tab)∈l):Gl w:=
 ⟨EY ay (Lib.laidMet.reads a b),Qv (Lib.laidMet.reads a b),EY ay (Lib.laidMet.reads a c),Qw (Lib.laidMet.reads a c)⟩
section
variable{H:Type} {enc:TypeId×Value->H} {W:World}
theorem E3:prog.cellsOf 61=3:=ay
theorem Qy(n:Nat)(cs:List Value)(y:DataW H×List MemPlace)(o:DataW.trod enc prog W 0 (fun _=>true) true n 61 cs=some y):∃a:bh,True/\cs=ml a:=by
 obtain⟨xs,m,_,_,g,c,b⟩:=DataW.trod_struct underlying61 o;rw[E3]at g;match cs,g with
 |[s,t,u],_=>
  obtain⟨v,h⟩:=iW c (i:=0) aw;obtain⟨w,j⟩:=iW c (i:=1) aw;obtain⟨x,l⟩:=iW c (i:=2) aw;obtain⟨p,d,_,_⟩:=DataW.trod_int cX (iV b (i:=0) rfl vp rfl h);obtain⟨q,e,_,_⟩:=DataW.trod_string fZ (iV b (i:=1) rfl pC rfl j);obtain⟨r,f,_,_⟩:=DataW.trod_string fZ (iV b (i:=2) rfl pC rfl l);refine⟨⟨p,q.data.toList,r.data.toList⟩,trivial,?_⟩;simp only[zq,and_true]at d e f;subst d;subst e;subst f;rfl
theorem Qz{n:Nat}{cs:List Value}{d:DataW H}{ps:List MemPlace}(f:DataW.trod enc prog W 0 (fun _=>true) true n 25 cs=some (d,ps)):∃(l:List bh) (o:Option Addr) (cap:Nat),cs=[.slice o l.length cap]/\iq W o cap l/\l.length<=Rows.uptoBulk d:=by
 obtain⟨l,o,cap,e,h,_⟩:=vn underlying25 E3 aw (row:=ml) (fun _=>rfl) Qy f;refine⟨l,o,cap,e,h,?_⟩;rcases open_slice underlying25 f with⟨b,_⟩|⟨a,len,c,m,k,g,Pl,b,_,_,_,_,p,_⟩
 ·rw[e]at b
  simp at b;rw[b.2.1];simp
 ·rw[e]at b
  simp at b;rw[(Prod.mk.inj p).1,b.2.1];have j:∀l:List (DataW H),l.length<=Rows.uptoBulkAll l:=by
   intro l;induction l with
   |nil=>simp
   |cons x r ih=>
    have:1<=Rows.uptoBulk x:=by cases x with
     |lit l=>cases l<;>simp[Rows.uptoBulk]
     |_=>simp[Rows.uptoBulk]
    simp only[Rows.uptoBulkAll,de];omega
  have i:=j ((List.range len).map g);simp at i;simp only[Rows.uptoBulk];omega
end
open Go.ChangeShapes Go.WideShapes Go.ChangeAt Go.RowKit
open Go.ChangeMaps (open_string shut_string)
theorem own:ownKnob prog.godebug=none:=ay
theorem yX:laidOutB prog=true:=ay
theorem QA(os:Os)(args:Array Value):laidMetH prog Rows.typesMembersUptoRow.laid ((World.laidAll prog os Rows.typesMembersUptoRow.laid).forCall (fun _ _=>0) ⟨#[],args,[]⟩).memory:=by rw[MakeChecks.laidMetH_plain _ _ _ ay];exact laidMet_laidAll _ ay ay
theorem QB(os:Os){H:Type}(enc:TypeId×Value->H):∃a,DataW.whole enc prog ((World.laidAll prog os Rows.typesMembersUptoRow.laid).forCall (fun _ _=>0) ⟨#[],#[.agg #[.slice none 0 0],.string ⟨#[]⟩,.slice none 0 0],[]⟩).memory f3.params.toList Rows.typesMembersSpec.vars false #[Value.agg #[.slice none 0 0],.string ⟨#[]⟩,.slice none 0 0].toList 8=some ([.agg [.nil],.lit (.string []),.nil],[],a):=
 ⟨[],ay⟩
theorem QC(os:Os)(bf:os.Started)(H:Type)(enc:TypeId×Value->H)(F:Stop.Interp):
 ReturnsInHanded {} checked os 3 .any ((Rows.OpenSpec.upto Rows.typesMembersSpec).preRow enc prog f3 Rows.typesMembersUptoRow.domain false Rows.typesMembersUptoRow.laid) (((Rows.OpenSpec.upto Rows.typesMembersSpec).at F).post enc prog f3 false true false false):=by
 obtain⟨bA,a2⟩:=QB os enc;refine returnsInHanded_of_row (C:=checked) (s:=Rows.OpenSpec.upto Rows.typesMembersSpec) own bf ay func3
  ⟨World.laidAll prog os Rows.typesMembersUptoRow.laid,fun _ _=>0,⟨#[],#[.agg #[.slice none 0 0],.string ⟨#[]⟩,.slice none 0 0],[]⟩,World.laidAll_os _ _ _,World.shaped_of_ZipB ay ay,rfl,
    (Input.okWide_of_okWideB ay).2,
    OpenSpec.preRow_of_cond 8 a2 ay (fun k i=>by cases i;kernel_rfl) ay (QA os _),⟨fun a=>absurd a aw,fun a=>absurd a aw,fun a=>absurd a aw,fun d a=>(by cases a),fun d a=>(by cases a),fun a=>absurd a aw⟩⟩ ?_
 intro W Z args B ae bi N K _ L _ g _ _;rw[MakeChecks.laidMetH_plain _ _ _ ay]at g;have av:Gl W:=Qx g (by simp[Rows.typesMembersUptoRow]) (by simp[Rows.typesMembersUptoRow]);have i:Rows.uptoSmall H (B++ae)=true:=L _ rfl;clear g L;have e:∀(j:Nat) t v,f3.params[j]?=some t->args[j]?=some v->Value.okWide prog W .any Z t v:=N;have ag:=K;obtain⟨p,q,J,af,rfl,bu,bw⟩:=K;have I:DataW.TrodAll enc prog W 0 (fun _=>true) true f3.params.toList args.toList B p:=J;rw[params3]at I e;obtain⟨V,b1,aa,bl,a9,bB,bt,rfl,rfl,D,bc⟩:=trodAll_cons I;obtain⟨X,b2,z,bm,ba,bE,rfl,rfl,rfl,E,bd⟩:=trodAll_cons bc;obtain⟨Y,b3,A,bo,bb,bF,rfl,rfl,rfl,G,be⟩:=trodAll_cons bd;obtain⟨rfl,rfl,rfl⟩:=trodAll_nil be;obtain rfl:args=#[V,X,Y]:=by cases args;simp_all
 obtain⟨rfl,rfl⟩:=trodVars_none af;have al:Rows.uptoBulkAll ([aa,z,A]++[])<=1048576:=m7 i;simp only[qF,Rows.uptoBulkAll]at al;obtain⟨f,rfl,_⟩:=okWide_struct underlying24 (e 0 24 V rfl rfl);have O:=D;have a5:∀x∈a9,x.block<W.heap.size:=by obtain⟨m,b⟩:=O;exact DataW.trod_lt m _ _ _ b
 obtain⟨R,S,w,an,w0⟩:∃(l:List am) (o:Option Addr) (cap:Nat),f.toList=[.slice o l.length cap]/\cn W o cap l:=by obtain⟨ab,h⟩:=D;exact Qu h
 obtain rfl:f=#[.slice S R.length w]:=by cases f;simpa using an
 have P:=E;have a6:∀x∈ba,x.block<W.heap.size:=by obtain⟨m,b⟩:=P;exact DataW.trod_lt m _ _ _ b
 obtain⟨r,rfl,ao,_,_⟩:=open_string fZ (e 1 9 X rfl rfl) E;obtain⟨n,rfl⟩:∃a3:Bytes,r=⟨a3.toArray⟩:=⟨r.data.toList,by cases r;simp⟩;have a0:n.length<=1048576:=by
  have:Rows.uptoBulk z=n.length+1:=by rw[ao];simp[Rows.uptoBulk]
  omega
 have Q:=G;have a7:∀x∈bb,x.block<W.heap.size:=by obtain⟨m,b⟩:=Q;exact DataW.trod_lt m _ _ _ b
 obtain⟨u,a4,y,rfl⟩:=okWide_slice underlying25 (e 2 25 Y rfl rfl);obtain⟨T,b0,bZ,M,bg,bz⟩:∃(l:List bh) (o:Option Addr) (cap:Nat),(Value.slice u a4 y).cells.toList=[.slice o l.length cap]/\iq W o cap l/\l.length<=Rows.uptoBulk A:=by obtain⟨ab,h⟩:=G;exact Qz h
 simp[Value.cells]at M;obtain⟨rfl,rfl,rfl⟩:=M;have a1:T.length<=1048576:=ad;clear J N;refine(Qh R S w n a0 T u y a1 W av w0 bg).mono fun bq W' ⟨aq,c⟩=> ?_;subst aq;exact⟨_,rfl,_,_,_,[],_,[],ag,trodAll_mk1 (shut_bool underlying4 _),(trodAll_cons_mk (Below.trod yX ay (m7 ay) O c a5) (trodAll_cons_mk (Below.trod yX ay (m7 ay) P c a6) (trodAll_cons_mk (Below.trod yX ay (m7 ay) Q c a7) trodAll_mk0))),rfl,c.frame _,fun a=>by cases a⟩
theorem QD:(Rows.typesMembersUptoRow.inPlace==prog.inPlace 3)=true:=ay
theorem QE:(Rows.typesMembersUptoRow.unfollowed==prog.unfollowed 3)=true:=ay
theorem QF:(Rows.typesMembersUptoRow.recurses==prog.recurses 3)=true:=ay
theorem QH:(Rows.typesMembersUptoRow.named==prog.varsNamed 3)=true:=ay
theorem QI:joinedFacts prog 3 f3 (Rows.OpenSpec.upto Rows.typesMembersSpec).bare Rows.typesMembersUptoRow=true:=by unfold joinedFacts;rw[QD,QE,QF,QH];kernel_rfl
theorem QJ:f3.isWrapper prog Rows.typesMembersUptoRow.wrapper Rows.typesMembersUptoRow.mainSum:=by unfold Func.isWrapper;first|(rw[au (by decide+kernel)];kernel_rfl)|(rw[ap (by decide+kernel)];exact⟨rfl,rfl⟩)
theorem QK:Rows.TypesMembersUptoSaid:=
 OpenClaim.holds_of_cond 3 f3 rfl rfl rfl rfl rfl rfl rfl ⟨rfl,rfl,rfl,rfl,rfl⟩ rfl rfl rfl rfl rfl ay func3 QI
  (m7 ay) QJ
  (fun os a H enc _ F=>by rw[OpenClaim.pre_eq_preRow];exact QC os a H enc F)
theorem members_card:Rows.TypesMembersUptoCardSaid:=
 Claim7.holds_tied_plain_at .later [] _ _ _ _ QK (fun _ b=>by cases b) ay (fun _ b=>by cases b) typesMembersUpto_row_tie rfl ⟨rfl,rfl⟩ ay rfl
  (fun f fn d e=>by
    obtain rfl:f=3:=Option.some.inj ((show prog.funcNamed "spyglass/spyglasslaw10.TypesMembers" =some 3 by kernel_rfl).symm.trans d)|>.symm
    obtain rfl:fn=f3:=(Option.some.inj (func3.symm.trans e)).symm;exact⟨ay,fun j t a=>by
     rw[params3]at a;have c:t=24∨t=9∨t=25:=by
      rcases j with _|_|_|j
      ·exact .inl (by simpa using a.symm)
      ·exact .inr (.inl (by simpa using a.symm))
      ·exact .inr (.inr (by simpa using a.symm))
      ·simp at a
     rcases c with rfl|rfl|rfl
     ·exact(show prog.wantsStandIn 24=false by kernel_rfl)
     ·exact(show prog.wantsStandIn 9=false by kernel_rfl)
     ·exact(show prog.wantsStandIn 25=false by kernel_rfl)⟩)
  ay
#print axioms members_card
end Go.Proofs.YtbacloblanpghaaGreatDoor
