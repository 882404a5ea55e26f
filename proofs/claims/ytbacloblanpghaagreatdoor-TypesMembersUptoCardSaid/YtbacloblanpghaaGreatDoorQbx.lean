import Derived.Test.YtbacloblanpghaaGreatDoorQas
import Derived.Test.YtbacloblanpghaaGreatDoorQat
set_option linter.unusedVariables false
set_option linter.unusedSimpArgs false
set_option maxRecDepth 100000
set_option maxHeartbeats 0
namespace Go.Proofs.YtbacloblanpghaaGreatDoor
open Go.RowKit Tryz
namespace U
theorem isCh_range{r:Int}(a:eT r=true):9<=r/\r<=1114111:=by unfold eT jh oA im at a;simp at a;omega
theorem contR_all{r s:Int}{l:Bytes}(a:eV r l=some s):∀x∈l,jG x=true:=by
 induction l generalizing r with
 |nil=>simp
 |cons c t ih=>
  simp only[eV]at a;split at a
  ·rename_i d
   intro x b;simp at b;rcases b with rfl|b
   ·exact d
   ·exact ih a x b
  ·cases a
theorem encodeRune_le(r:Int):(Lib.encodeRune r).length<=4:=by have:=Lib.encodeRuneZ_length r;unfold Lib.encodeRune;rw[cd];omega
theorem isCh_iff(n:Int):eT n=decide (n=9∨n=10∨n=13∨(32<=n/\n<=55295)∨(57344<=n/\n<=65533)∨(65536<=n/\n<=1114111)):=by rw[eS];simp[eT,jh,oA,im];omega
theorem rIs_any(n:Int)(w:World):Calls prog 175 #[.int .i64 n] w fun b w'=>b=.returned (.bool (eT n))/\w=w':=by
 have a:=isCh_iff n;generalize eT n=c at a;have H:=ah a;clear a;go_enter func175,ntmps175
 go_wp2_with fail
 all_goals
  go_ret;exact⟨bC (by rw[H.o,eS];simp;omega),rfl⟩
theorem rBytes_any(n:Int)(c:eT n=true)(w:World):Calls prog 176 #[.int .i64 n] w fun a w'=>a=.returned (.slice (some ⟨w.heap.size,0,none⟩) (Lib.runeCells n).length (Lib.runeCells n).length)/\w'=w.alloc (.cells (Lib.runeCells n).toArray 5):=by
 have g:=isCh_range c;rw[isCh_iff,ct]at c;by_cases d:n<128
 ·have a:=FR (r:=n) ad ad
  have b:Lib.runeCells n=[.int .u8 n]:=by unfold Lib.runeCells;rw[a];rfl
  rw[b];clear a b c;go_enter Ad,Ae
  go_wp2
  go_ret;exact⟨rfl,rfl⟩
 by_cases e:n<2048
 ·have a:=q2 (r:=n) ad ad
  have b:Lib.runeCells n=[.int .u8 (192+n/64),.int .u8 (128+n % 64)]:=by unfold Lib.runeCells;rw[a];rfl
  rw[b];clear a b c;go_enter Ad,Ae
  go_wp2
  go_ret;exact⟨rfl,rfl⟩
 by_cases f:n<65536
 ·have a:=FT (r:=n) ad
  have b:Lib.runeCells n=[.int .u8 (224+n/4096),.int .u8 (128+n/64 % 64),.int .u8 (128+n % 64)]:=by unfold Lib.runeCells;rw[a];rfl
  rw[b];clear a b c;go_enter Ad,Ae
  go_wp2
  go_ret;exact⟨rfl,rfl⟩
 ·have a:=FU (r:=n) ad ad
  have b:Lib.runeCells n=[.int .u8 (240+n/262144),.int .u8 (128+n/4096 % 64),.int .u8 (128+n/64 % 64),.int .u8 (128+n % 64)]:=by unfold Lib.runeCells;rw[a];rfl
  rw[b];clear a b c;go_enter Ad,Ae
  go_wp2
  go_ret;exact⟨rfl,rfl⟩
def offZ(s:Nat):Int:=if s=2 then 192 else if s=3 then 224 else if s=4 then 240 else 0
def numZ(l:Bytes)(s:Nat):Nat->Int
 |0=>((l.getD 0 0).toNat:Nat)-offZ s
 |k+1=>64*numZ l s k+((l.getD (k+1) 0).toNat:Nat)-128
theorem numZ_le(l:Bytes)(s:Nat):(-240<=numZ l s 0/\numZ l s 0<=255)/\(-15488<=numZ l s 1/\numZ l s 1<=16447)/\(-991360<=numZ l s 2/\numZ l s 2<=1052735)/\(-63447168<=numZ l s 3/\numZ l s 3<=67375167):=by
 have i:=(l.getD 0 0).toNat_lt;have j:=(l.getD (0+1) 0).toNat_lt;have m:=(l.getD (1+1) 0).toNat_lt;have n:=(l.getD (2+1) 0).toNat_lt;have e:numZ l s 0=((l.getD 0 0).toNat:Nat)-offZ s:=rfl;have f:numZ l s 1=64*numZ l s 0+((l.getD (0+1) 0).toNat:Nat)-128:=rfl;have g:numZ l s 2=64*numZ l s 1+((l.getD (1+1) 0).toNat:Nat)-128:=rfl;have h:numZ l s 3=64*numZ l s 2+((l.getD (2+1) 0).toNat:Nat)-128:=rfl;have o:0<=offZ s/\offZ s<=240:=by unfold offZ;split<;>(try split)<;>(try split)<;>omega
 generalize numZ l s 0=a at*;generalize numZ l s 1=b at*;generalize numZ l s 2=c at*;generalize numZ l s 3=d at*;omega
theorem toByte(x:Int)(a:0<=x)(b:x<256):((x.toNat.toUInt8).toNat:Int)=x:=by simp;omega
theorem enc_dec(r:Int)(h:eT r=true)(y:Bytes):cH (Lib.encodeRune r++y)=some (r,(Lib.encodeRune r).length):=by
 have w:=isCh_range h;have x:¬(55296<=r/\r<=57343):=by intro z;unfold eT jh oA im at h;simp at h;omega
 by_cases m:r<128
 ·have g:Lib.encodeRune r=[r.toNat.toUInt8]:=by unfold Lib.encodeRune;rw[FR ad ad];rfl
  have e:=toByte r ad ad;rw[g];generalize r.toNat.toUInt8=a at e;simp only[fH,lm,cH,e];have i:dP r=1:=by unfold dP;rw[au m]
  have j:eU r=r:=by unfold eU;rw[au m]
  have l:fh r=1:=by unfold fh;rw[au m]
  rw[i,ap ad,j];simp[eV,l,h]
 by_cases s:r<2048
 ·have g:Lib.encodeRune r=[(192+r/64).toNat.toUInt8,(128+r % 64).toNat.toUInt8]:=by unfold Lib.encodeRune;rw[q2 ad ad];rfl
  have e:=toByte (192+r/64) ad ad;have f:=toByte (128+r % 64) ad ad;rw[g];generalize(192+r/64).toNat.toUInt8=a at e;generalize(128+r % 64).toNat.toUInt8=b at f;have n:jG b=true:=(jk b).2 ad;have i:dP (192+r/64)=2:=by unfold dP;rw[ap ad,ap ad,au ad]
  have j:eU (192+r/64)=r/64:=by unfold eU;rw[ap ad,ap ad,au ad];omega
  have l:fh r=2:=by unfold fh;rw[ap m,au s]
  have o:r/64*64+(128+r % 64-128)=r:=ad;simp only[fH,lm,cH,e,i,j];rw[ap (by simp only[de];omega)];simp[eV,n,f,o,l,h]
 by_cases t:r<65536
 ·have g:Lib.encodeRune r=[(224+r/4096).toNat.toUInt8,(128+r/64 % 64).toNat.toUInt8,(128+r % 64).toNat.toUInt8]:=by unfold Lib.encodeRune;rw[FT ad];rfl
  have e:=toByte (224+r/4096) ad ad;have f:=toByte (128+r/64 % 64) ad ad;have p:=toByte (128+r % 64) ad ad;rw[g];generalize(224+r/4096).toNat.toUInt8=a at e;generalize(128+r/64 % 64).toNat.toUInt8=b at f;generalize(128+r % 64).toNat.toUInt8=c at p;have n:jG b=true:=(jk b).2 ad;have q:jG c=true:=(jk c).2 ad;have i:dP (224+r/4096)=3:=by unfold dP;rw[ap ad,ap ad,ap ad,au ad]
  have j:eU (224+r/4096)=r/4096:=by unfold eU;rw[ap ad,ap ad,ap ad,au ad];omega
  have l:fh r=3:=by unfold fh;rw[ap m,ap s,au t]
  have o:(r/4096*64+(128+r/64 % 64-128))*64+(128+r % 64-128)=r:=ad;simp only[fH,lm,cH,e,i,j];rw[ap (by simp only[de];omega)];simp[eV,n,q,f,p,o,l,h]
 ·have g:Lib.encodeRune r=[(240+r/262144).toNat.toUInt8,(128+r/4096 % 64).toNat.toUInt8,(128+r/64 % 64).toNat.toUInt8,(128+r % 64).toNat.toUInt8]:=by unfold Lib.encodeRune;rw[FU ad ad];rfl
  have e:=toByte (240+r/262144) ad ad;have f:=toByte (128+r/4096 % 64) ad ad;have p:=toByte (128+r/64 % 64) ad ad;have u:=toByte (128+r % 64) ad ad;rw[g];generalize(240+r/262144).toNat.toUInt8=a at e;generalize(128+r/4096 % 64).toNat.toUInt8=b at f;generalize(128+r/64 % 64).toNat.toUInt8=c at p;generalize(128+r % 64).toNat.toUInt8=d at u;have n:jG b=true:=(jk b).2 ad;have q:jG c=true:=(jk c).2 ad;have v:jG d=true:=(jk d).2 ad;have i:dP (240+r/262144)=4:=by unfold dP;rw[ap ad,ap ad,ap ad,ap ad,au ad]
  have j:eU (240+r/262144)=r/262144:=by unfold eU;rw[ap ad,ap ad,ap ad,ap ad,au ad];omega
  have l:fh r=4:=by unfold fh;rw[ap m,ap s,ap t]
  have o:((r/262144*64+(128+r/4096 % 64-128))*64+(128+r/64 % 64-128))*64+(128+r % 64-128)=r:=ad;simp only[fH,lm,cH,e,i,j];rw[ap (by simp only[de];omega)];simp[eV,n,q,v,f,p,u,o,l,h]
theorem byte_of(x:Int)(c:UInt8)(a:x=((c.toNat:Nat):Int)):x.toNat.toUInt8=c:=by subst a;simp
theorem long1{t:Bytes}(a:1<=t.length):∃x b,t=x::b:=by
 cases t with
 |nil=>simp at a
 |cons x t=>exact⟨x,t,rfl⟩
theorem long2{t:Bytes}(a:2<=t.length):∃x y b,t=x::y::b:=by obtain⟨x,t,rfl⟩:=long1 (t:=t) ad;obtain⟨y,t,rfl⟩:=long1 (t:=t) (by simp at a;omega);exact⟨x,y,t,rfl⟩
theorem long3{t:Bytes}(a:3<=t.length):∃x y z b,t=x::y::z::b:=by obtain⟨x,t,rfl⟩:=long1 (t:=t) ad;obtain⟨y,z,t,rfl⟩:=long2 (t:=t) (by simp at a;omega);exact⟨x,y,z,t,rfl⟩
theorem dec_enc{l:Bytes}{r:Int}{k:Nat}(f:cH l=some (r,k)):eT r=true/\Lib.encodeRune r=l.take k/\r=numZ l k (k-1):=by
 have v:=m9 f;cases l with
 |nil=>simp at v;omega
 |cons c t=>
  simp only[cH]at f;have u:=qX (c.toNat:Nat);split at f
  ·cases f
  rename_i w;split at f
  ·cases f
  rename_i s d;split at f
  ·rename_i j
   simp only[gV,pD]at f;obtain⟨rfl,rfl⟩:=f;refine⟨j.2,?_⟩;have b:=contR_all d;have D:=isCh_range j.2;have E:¬(55296<=s/\s<=57343):=by intro F;have:=j.2;unfold eT jh oA im at this;simp at this;omega
   have e:=j.1;have C:((c.toNat:Nat):Int)<256:=by have:=c.toNat_lt;omega
   obtain⟨n,a⟩:∃n:Nat,dP (c.toNat:Nat)=n:=⟨(dP (c.toNat:Nat)).toNat,ad⟩;rw[a]at e d b w u⊢;simp only[iL]at d b⊢;have A:n=1∨n=2∨n=3∨n=4:=ad;have m:n-1<=t.length:=ad;rcases A with rfl|rfl|rfl|rfl
   ·have i:((c.toNat:Nat):Int)<128:=by unfold dP at a;split at a<;>(try split at a)<;>(try split at a)<;>(try split at a)<;>(try split at a)<;>omega
    have g:eU (c.toNat:Nat)=(c.toNat:Nat):=by unfold eU;rw[au i]
    rw[g]at d;simp[eV]at d;refine⟨?_,?_⟩
    ·unfold Lib.encodeRune
     rw[FR ad ad];simp only[gX,mX,lr,mf];rw[byte_of s c ad]
    ·simp[numZ,offZ];omega
   ·have i:192<=((c.toNat:Nat):Int)/\((c.toNat:Nat):Int)<224:=by unfold dP at a;split at a<;>(try split at a)<;>(try split at a)<;>(try split at a)<;>(try split at a)<;>omega
    have g:eU (c.toNat:Nat)=(c.toNat:Nat)-192:=by unfold eU;rw[ap ad,ap ad,au ad]
    obtain⟨x,t,rfl⟩:∃x h,t=x::h:=by cases t with|nil=>simp at m|cons x h=>exact⟨x,h,rfl⟩
    rw[g]at d;simp only[lr,mf,Nat.add_one_sub_one,eV]at d b;have o:=(jk x).1 (b x ak);rw[au (b x ak)]at d;simp only[gV]at d;have p:128<=s/\s<2048:=by unfold fh at e;split at e<;>(try split at e)<;>(try split at e)<;>omega
    refine⟨?_,?_⟩
    ·unfold Lib.encodeRune
     rw[q2 ad ad];simp only[gX,mX,lr,mf];rw[byte_of _ c ad,byte_of _ x ad]
    ·simp[numZ,offZ];omega
   ·have i:224<=((c.toNat:Nat):Int)/\((c.toNat:Nat):Int)<240:=by unfold dP at a;split at a<;>(try split at a)<;>(try split at a)<;>(try split at a)<;>(try split at a)<;>omega
    have g:eU (c.toNat:Nat)=(c.toNat:Nat)-224:=by unfold eU;rw[ap ad,ap ad,ap ad,au ad]
    obtain⟨x,y,t,rfl⟩:∃x y h,t=x::y::h:=long2 m;rw[g]at d;simp only[lr,mf,Nat.reduceSub,eV]at d b;have o:=(jk x).1 (b x ak);have q:=(jk y).1 (b y ak);rw[au (b x ak),au (b y ak)]at d;simp only[gV]at d;have p:2048<=s/\s<65536:=by unfold fh at e;split at e<;>(try split at e)<;>(try split at e)<;>omega
    refine⟨?_,?_⟩
    ·unfold Lib.encodeRune
     rw[FT ad];simp only[gX,mX,lr,mf];rw[byte_of _ c ad,byte_of _ x ad,byte_of _ y ad]
    ·simp[numZ,offZ];omega
   ·have i:240<=((c.toNat:Nat):Int)/\((c.toNat:Nat):Int)<248:=by unfold dP at a;split at a<;>(try split at a)<;>(try split at a)<;>(try split at a)<;>(try split at a)<;>omega
    have g:eU (c.toNat:Nat)=(c.toNat:Nat)-240:=by unfold eU;rw[ap ad,ap ad,ap ad,ap ad,au ad]
    obtain⟨x,y,z,t,rfl⟩:∃x y z h,t=x::y::z::h:=long3 m;rw[g]at d;simp only[lr,mf,Nat.reduceSub,eV]at d b;have o:=(jk x).1 (b x ak);have q:=(jk y).1 (b y ak);have B:=(jk z).1 (b z ak);rw[au (b x ak),au (b y ak),au (b z ak)]at d;simp only[gV]at d;have p:65536<=s:=by unfold fh at e;split at e<;>(try split at e)<;>(try split at e)<;>omega
    refine⟨?_,?_⟩
    ·unfold Lib.encodeRune
     rw[FU ad ad];simp only[gX,mX,lr,mf];rw[byte_of _ c ad,byte_of _ x ad,byte_of _ y ad,byte_of _ z ad]
    ·simp[numZ,offZ];omega
  ·cases f
theorem dec_try{l:Bytes}{s:Nat}{r:Int}(c:eT r=true)(b:Lib.encodeRune r=l.take s)(d:s<=l.length):cH l=some (r,s):=by have a:=enc_dec r c (l.drop s);rw[b,jC,dx,vt d]at a;exact a
def rdV:Option (Int×Nat)->Value
 |none=>.tuple #[.int .i64 0,.int .i64 0]
 |some (r,k)=>.tuple #[.int .i64 r,.int .i64 k]
theorem numZ_bd(l:Bytes)(s k:Nat)(e:k<=3): -63447168<=numZ l s k/\numZ l s k<=67375167:=by obtain⟨a,b,c,d⟩:=numZ_le l s;have:k=0∨k=1∨k=2∨k=3:=ad;rcases this with rfl|rfl|rfl|rfl<;>omega
theorem step_eq{a l:Bytes}{j:Nat}(b:a.take j=l.take j)(c:j<a.length)(d:j<l.length):decide (a.take (j+1)=l.take (j+1))=(((a.getD j 0).toNat:Int)==((l.getD j 0).toNat:Int)):=by
 rw[bG,bG,b,aF c,aF d,eS];simp only[fJ,aF c,aF d,pL,dR,List.append_cancel_left_eq,zq,and_true,ct,ln];constructor
 ·intro b;rw[b]
 ·intro b;exact qM.1 ad
theorem rRead_any(b u cap:Nat)(l:Bytes)(w:World)(bE:l.length<=cap)(b4:cap<=9223372036854775807)(bc:BytesAt w b u l)(bb:b<w.heap.size):
 Calls prog 117 #[.slice (some ⟨b,u,none⟩) l.length cap] w fun q w'=>q=.returned (rdV (cH l))/\Below w.heap.size w w':=by
 go_enter func117,ntmps117
 go_wp2
 go_loopw [4] (fun v wr=>∃s:Nat,v=.int .i64 s/\1<=s/\s<=5/\Below w.heap.size w wr/\Hid (∀j,j<s->∀r,cH l≠some (r,j))) (fun v _=>5-(intOf v).toNat)
 case atStart=>exact⟨1,rfl,ad,ad,aA _ _,fun j t r a7=>by have:=m9 a7;omega⟩
 case round=>
  obtain⟨s,rfl,bu,bw,g,V⟩:=hrel;by_cases bi:s<=4/\s<=l.length
  ·obtain⟨a9,bg⟩:=bi
   have P:=bc.below bb g;have aa:wr.cell? ⟨b,u,none⟩=some (.int .u8 ((l.getD 0 0).toNat:Nat)):=by simpa using P 0 ad
   have bm:=(l.getD 0 0).toNat_lt;have aq:numZ l s 0=((l.getD 0 0).toNat:Nat)-offZ s:=rfl;have I:=ah aq;clear aq;generalize hx0:(l.getD 0 0).toNat=b7 at aa bm I;clear hx0;obtain⟨S,B⟩:∃S:Nat,S=s:=⟨_,rfl⟩;have R:Hid (∀i,i<l.length->wr.cell? ⟨b,u+i,none⟩=some (.int .u8 ((l.getD i 0).toNat:Nat))):=P;clear P;rw[<-B]at I;have ba:S<=l.length:=ad;have bl:s=1∨s=2∨s=3∨s=4:=ad;rcases bl with rfl|rfl|rfl|rfl
   all_goals
    have bA:=qS B;have bB:=qS B.symm;have o:=ah B;clear B
    go_wp2
    go_loop [5,6] (fun n i=>∃k:Nat,i=.int .i64 ((k+1:Nat):Int)/\k+1<=S/\n=.int .i64 (numZ l S k)) (fun _ i=>5-(intOf i).toNat)
    case atStart=>exact⟨0,rfl,ad,by rw[I.o,o.o];rfl⟩
    case round=>
     obtain⟨k,rfl,b2,rfl⟩:=hrel;by_cases b3:k+1<S
     ·have bd:=R.o (k+1) ad
      have M:=numZ_bd l S k ad;have G:Hid (numZ l S (k+1)=64*numZ l S k+((l.getD (k+1) 0).toNat:Nat)-128):=rfl;have bo:=(l.getD (k+1) 0).toNat_lt;generalize(l.getD (k+1) 0).toNat=b8 at bd G bo;generalize numZ l S k=a at M G⊢;go_wp2_with fail
      all_goals
       go_round
       case rel=>exact⟨k+1,aG,ad,by rw[G.out]⟩
       case measure=>exact aH
     ·obtain⟨n,J⟩:=aj (numZ l S k)
      have ag:n=numZ l S (S-1):=by rw[J,show S-1=k by omega]
      rw[<-J];have M:=numZ_bd l S k ad;rw[<-J]at M;have H:=ah ag;clear J ag I aa;have an:¬(eT n=true/\Lib.encodeRune n=l.take S)->∀j,j<S+1->∀r,cH l≠some (r,j):=by
       intro C j t r f;by_cases q:j=S
       ·subst q
        obtain⟨a3,a4,W⟩:=dec_enc f;rw[<-H.o]at W;subst W;exact C ⟨a3,a4⟩
       ·exact V.o j (by have:=o.o;omega) r f
      have K:=ah an;clear an;cases e:eT n with
      |false=>
       have h:=rIs_any n wr;rw[e]at h;have A:Hid (∀j,j<S+1->∀r,cH l≠some (r,j)):=K.o (by rw[e];simp);clear e;go_wp2_with fail
       refine h.mono ?_;rintro q w' ⟨rfl,rfl⟩;clear h
       go_wp2
       go_roundw
       case rel=>exact⟨S+1,by rw[o.o];rfl,ad,ad,g,A⟩
       case measure=>simp[intOf]
      |true=>
       have h:=rIs_any n wr;rw[e]at h;have O:=rBytes_any n e wr;have X:(Lib.runeCells n).length=(Lib.encodeRune n).length:=by rw[<-Lib.byteCells_encodeRune,Lib.byteCells_length]
       have Y:∀j,j<(Lib.encodeRune n).length->(wr.alloc (.cells (Lib.runeCells n).toArray 5)).cell? ⟨wr.heap.size,j,none⟩=some (.int .u8 (((Lib.encodeRune n).getD j 0).toNat:Nat)):=by intro j t;rw[aZ _ wr.heap.size j _ _ _ (aC wr _),<-Lib.byteCells_encodeRune];simp[Lib.byteCells,aF t]
       have bz:=encodeRune_le n;rw[X]at O;have a2:Hid (Lib.encodeRune n=l.take S->cH l=some (n,S)):=fun bf=>dec_try e bf ba;have bq:=ah e;clear e X;have Z:Below wr.heap.size wr (wr.alloc (.cells (Lib.runeCells n).toArray 5)):=az;have N:=g.trans (Z.mono g.size);have ab:∀j,j<l.length->(wr.alloc (.cells (Lib.runeCells n).toArray 5)).cell? ⟨b,u+j,none⟩=some (.int .u8 ((l.getD j 0).toNat:Nat)):=by intro j t;rw[Z.cell (p:=⟨b,u+j,none⟩) (by have:=g.size;show b<_;omega)];exact R.o j t
       obtain⟨av,a0⟩:=aE Y ab;clear Y ab;generalize hEn:Lib.encodeRune n=E at*;clear hEn;go_wp2_with fail
       refine h.mono ?_;rintro q w' ⟨rfl,rfl⟩;clear h;go_wp2_with fail
       refine O.mono ?_;rintro q w' ⟨rfl,rfl⟩;clear O;generalize wr.alloc (.cells (Lib.runeCells n).toArray 5)=w1 at*;by_cases F:E.length=S
       ·have D:∀z:Int,z=((S:Nat):Int)->((E.length:Int)==z)=true:=fun z G=>by rw[ln];omega
        have c:=ah D;clear D;first
         |have m:=c.o 1 ad
         |have m:=c.o 2 ad
         |have m:=c.o 3 ad
         |have m:=c.o 4 ad
        have b5:=qS F;have b6:=qS F.symm;have T:=ah F;clear F
        go_wp2
        go_loopw [8,9] (fun v i Q=>∃(j nq:Nat),i=.int .i64 j/\j<=E.length/\v=.bool (decide (E.take j=l.take j))/\Q=w1.drewN nq) (fun _ i _=>5-(intOf i).toNat)
        case atStart=>exact⟨0,0,rfl,ad,ak,rfl⟩
        case round=>
         obtain⟨j,nq,rfl,t,rfl,rfl⟩:=hrel;by_cases d:E.take j=l.take j
         ·rw[ox d]
          by_cases ae:j<E.length
          ·have a5:=av.o j ae
           have a6:=a0.o j ad;have ao:=step_eq d ae ad;have L:=ah ao;clear ao;have bt:=ah d;clear d;have b0:(j:Int)<E.length:=ad;have b1:(j:Int)<l.length:=ad;generalize(E.getD j 0).toNat=x at a5 L;generalize(l.getD j 0).toNat=y at a6 L
           go_wp2
           go_quiet(fail)
           go_wp2
           go_roundw
           case rel=>exact⟨j+1,_,aG,ad,by rw[L.o],rfl⟩
           case measure=>exact aH
          ·have bZ:decide ((j:Int)<E.length)=false:=aJ
           have af:E.take j=E:=bx ad;have f:=a2.o (by rw[<-af,d];congr 1;have:=T.o;omega);have a1:=ah f;clear f af d
           go_wp2
           go_ret2
           refine⟨?_,dm N _⟩;rw[a1.o,o.o];rfl
         ·rw[pI d]
          have A:Hid (∀j,j<S+1->∀r,cH l≠some (r,j)):=K.o (by intro C;apply d;rw[C.2,List.take_take];congr 1;have:=T.o;omega)
          clear d;go_wp2_with fail
          all_goals
           go_roundw
           case rel=>exact⟨S+1,by rw[o.o];rfl,ad,ad,dm N _,A⟩
           case measure=>simp[intOf]
       ·have D:∀z:Int,z=((S:Nat):Int)->((E.length:Int)==z)=false:=fun z G=>by rw[cW];omega
        have c:=ah D;clear D;first
         |have m:=c.o 1 ad
         |have m:=c.o 2 ad
         |have m:=c.o 3 ad
         |have m:=c.o 4 ad
        have A:Hid (∀j,j<S+1->∀r,cH l≠some (r,j)):=K.o (by intro C;apply F;rw[C.2,dx];omega)
        go_wp2
        go_loopw [8,9] (fun v i Q=>v=.bool false/\i=.int .i64 0/\Q=w1) (fun _ i _=>0)
        case atStart=>exact⟨rfl,rfl,rfl⟩
        case round=>
         obtain⟨rfl,rfl,rfl⟩:=hrel;go_wp2_with fail
         all_goals
          go_roundw
          case rel=>exact⟨S+1,by rw[o.o];rfl,ad,ad,N,A⟩
          case measure=>simp[intOf]
  ·have al:cH l=none:=by
    cases f:cH l with
    |none=>rfl
    |some z=>
     obtain⟨r,k⟩:=z;have:=m9 f;exact absurd f (V.o k ad r)
   have H:=ah al;clear al;by_cases a9:s<=4
   ·have bg:l.length<s:=ad
    have be:decide ((s:Int)<=4)=true:=aM;have bF:decide ((s:Int)<=l.length)=false:=aJ
    go_wp2
    go_ret2
    exact⟨by rw[H.o];rfl,g⟩
   ·have be:decide ((s:Int)<=4)=false:=aJ
    go_wp2
    go_ret2
    exact⟨by rw[H.o];rfl,g⟩
theorem BytesAt.drop{w:World}{b a k:Nat}{l:Bytes}(c:BytesAt w b a l):BytesAt w b (a+k) (l.drop k):=fun j d=>by
 rw[gI]at d;have:=c (k+j) ad;rw[<-fI]at this;rw[this];congr 3
 simp[fJ,vG]
theorem rAll_any(b cap:Nat)(l:Bytes)(w:World)(V:l.length<=cap)(ae:cap<=9223372036854775807)(aa:l.length<=1048576)(G:BytesAt w b 0 l)(E:b<w.heap.size):
 Calls prog 67 #[.slice (some ⟨b,0,none⟩) l.length cap] w fun d w'=>(∃v,d=.returned (.tuple #[v,.int .i64 (dZ l:Nat)]))/\Below w.heap.size w w':=by
 obtain⟨R,J,O,P,Q⟩:=cL lu;go_enter func67,ntmps67
 go_wp2
 go_loopw [4,5] (fun v i wr=>∃(k:Nat) (xs:List Value),i=.int .i64 k/\k<=l.length/\Hid (k+dZ (l.drop k)=dZ l)/\xs.length<=k/\wr.ownsRow w.heap.size 3 1 v xs.length xs/\Below w.heap.size w wr) (fun _ i _=>l.length-(intOf i).toNat)
 case atStart=>exact⟨0,[],rfl,aK _,by show 0+dZ (l.drop 0)=dZ l;simp,aB _,cR _ _ _ _,aA _ _⟩
 case round=>
  obtain⟨k,xs,rfl,s,j,an,p,f⟩:=hrel;obtain⟨A,y,rfl⟩:=cJ p;by_cases ab:k<l.length
  ·have H:decide ((k:Int)<l.length)=true:=aM
   have Z:(k:Int)<l.length:=ad;have F:b<wr.heap.size:=by have:=f.size;omega
   have q:=rRead_any b k (cap-k) (l.drop k) wr (by rw[gI];omega) ad (by have:=(G.below E f).drop (k:=k);rwa[cE]at this) F;rw[gI]at q;have W:(k:Int)<=cap:=ad;have X:(0:Int)<=k:=ad;have Y:k≠cap:=ad;have a:=j.o;go_wp2_with fail
   refine q.mono ?_;rintro d B ⟨rfl,c⟩;clear q;have m:=aD f c;have al:=c.size;have M:B.ownsRow w.heap.size 3 1 (.slice A xs.length y) xs.length xs:=df (row:=none) p ⟨c.os,c.tape,c.output,c.size,fun k s _=>c.block k s⟩ (by cases d:(Value.slice A xs.length y).ownBlock with|none=>exact .inl rfl|some g=>exact .inr (fun D=>by cases D));cases h:cH (l.drop k)with
   |none=>
    rw[vN h]at a;have o:=ah a;clear h a j;unfold rdV
    go_wp2
    go_ret2
    exact⟨⟨_,by rw[<-o.o];rfl⟩,m⟩
   |some x=>
    obtain⟨r,n⟩:=x;rw[vO h]at a;have t:=m9 h;rw[gI]at t;rw[sL]at a;have o:=ah a;clear h a j;unfold rdV;have af:((n:Int)==0)=false:=by have:=t.1;simp;omega
    have S:IntKind.i64.wrap ((k:Int)+(n:Int))=(k:Int)+(n:Int):=lp _ ad;have N:=dA M (.cells #[.int .i64 r] 3);have T:=f.size;go_wp2_with(first
     |(at_builtin;go_must (refine gY _ rfl _ _ 53 rfl w.heap.size 3 R (.int .i64 0) 1 8 ke J O P Q rfl aw _ _ _ rfl N ⟨B.heap.size,0,none⟩ 1 1 [.int .i64 r] rfl rfl (tq _ [.int .i64 r] _ _ rfl) (fun z u=>by simp at u;subst u;rfl) bN ad aO ?_);intro ao aq L I ag)
     |go_in)
    go_roundw
    case rel=>
     refine⟨k+n,xs++[.int .i64 r],aG,ad,by show _=_;rw[<-o.o];omega,by simp;omega,?_,?_⟩
     ·rw[cm];exact L
     ·exact(m.alloc m.size _).grown I (by have:=m.size;simp;omega) (fun k d=>(bX p k d).1)
    case measure=>exact aH
  ·have H:decide ((k:Int)<l.length)=false:=aJ
   have K:k=l.length:=ad;have e:=j.o;rw[qJ ad]at e;have e:k=dZ l:=by rw[<-e];rfl
   have C:=ah e;clear e K
   go_wp2
   go_ret2
   exact⟨⟨_,by rw[<-C.o];rfl⟩,f⟩
end U
theorem P0(s:Bytes)(w:World)(r:s.length<=1048576):
 Calls prog 34 #[.string ⟨s.toArray⟩] w fun e w'=>e=.returned (.bool (dZ s==s.length))/\Below w.heap.size w w':=by
 have a:=QN (P:=prog) w 9 137 5 ⟨s.toArray⟩ (u:=.string) fZ underlying137 underlying5;have b:U.BytesAt (Lib.bytesWorld w 5 ⟨s.toArray⟩) w.heap.size 0 s:=fun j q=>by have:=Lib.bytesWorld_cell w 5 ⟨s.toArray⟩ j (by rw[dy];exact q);rw[cE];exact this
 have d:=Lib.bytesWorld_below w 5 ⟨s.toArray⟩;have m:w.heap.size<(Lib.bytesWorld w 5 ⟨s.toArray⟩).heap.size:=by rw[Lib.bytesWorld_size];omega
 have t:(⟨s.toArray⟩:ByteArray).size=s.length:=by rw[dy]
 have h:=grownCap_ge w s.length 0 5;have i:=Fp w s.length 0 5 bN;rw[t]at a;generalize grownCap w s.length 0 5=cap at a h i;unfold maxLen at i;obtain⟨o,f⟩:=aj (Lib.bytesWorld w 5 ⟨s.toArray⟩);rw[<-f]at a b d m;clear f;have l:=U.rAll_any w.heap.size cap s o h ad r b m;clear b;obtain⟨x,c⟩:=aj ((dZ s==s.length));rw[<-c];have n:=ah c;clear c;go_enter func34,ntmps34
 go_wp2_with fail
 refine l.mono ?_;rintro e y ⟨⟨v,rfl⟩,g⟩;have p:=aD d g;clear l a g d
 go_wp2
 go_ret;refine⟨bC ?_,p⟩;rw[n.o,eS];simp;try omega
theorem sH(p:bh->bh->Bool):∀l:List bh,dM p l=true↔∃(j:Nat) (a b:bh),l[j]?=some a/\l[j+1]?=some b/\p a b=true
 |[]=>by simp[dM]
 |[a]=>by simp[dM]
 |a::b::t=>by
  rw[dM,cM,sH p (b::t)];constructor
  ·rintro(f|⟨j,x,y,c,d,e⟩)
   ·exact⟨0,a,b,rfl,rfl,f⟩
   ·exact⟨j+1,x,y,by simpa using c,by simpa using d,e⟩
  ·rintro⟨j,x,y,c,d,e⟩
   cases j with
   |zero=>simp at c d;subst c;subst d;exact .inl e
   |succ j=>exact .inr ⟨j,x,y,by simpa using c,by simpa using d,e⟩
theorem P5{l:List bh}{k:Nat}{s:bh}(a:l[k]?=some s):gw (l.take (k+1))=gw (l.take k)+(if oF s then 1 else 0):=by rw[bG,a,dR,rg];unfold gw;cases b:oF s<;>simp[b]
theorem P6{l:List bh}{k:Nat}{s:bh}{d m:Int}(a:l[k]?=some s)(b:d9 (l.take k) 0 0=(d,m)):d9 (l.take (k+1)) 0 0=d9 [s] d m:=by rw[bG,a,dR,nu,b]
theorem P7(l:List bh)(o:Option Addr)(cap:Nat)(w:World)(p:iq w o cap l)(P:l.length<=1048576):
 Calls prog 32 #[.slice o l.length cap] w fun y w'=>y=.returned (.tuple #[.int .i64 (gw l:Nat),.int .i64 (d9 l 0 0).2])/\w=w':=by
 have Q:=p.2.1;have z:=p.2.2.1;unfold maxLen at z;go_enter func32,ntmps32
 go_wp2
 go_loopw [4,5,6,7] (fun n d m i wr=>∃(k c:Nat) (a f:Int),n=.int .i64 c/\d=.int .i64 a/\m=.int .i64 f/\i=.int .i64 k/\k<=l.length/\w=wr/\Hid (gw (l.take k)=c/\d9 (l.take k) 0 0=(a,f))/\c<=k/\-(k:Int)<=a/\a<=k/\0<=f/\f<=k+1) (fun _ _ _ i _=>l.length-(intOf i).toNat)
 case atStart=>exact⟨0,0,0,0,rfl,rfl,rfl,rfl,aK _,rfl,⟨rfl,rfl⟩,ad,ad,ad,ad,ad⟩
 case round=>
  obtain⟨k,c,a,f,rfl,rfl,rfl,rfl,N,rfl,j,T,V,W,X,Y⟩:=hrel;by_cases C:k<l.length
  ·have A:decide ((k:Int)<l.length)=true:=aM
   have O:(k:Int)<l.length:=ad;obtain⟨s,h⟩:∃n,l[k]?=some n:=⟨_,aF C⟩;obtain⟨b,S,rfl,M,D,E,F⟩:=p.at h;have r:=P5 h;have x:=P6 h j.o.2;rw[j.o.1]at r;obtain⟨e,R,Z⟩:=s;simp only at D E F;have J:IntKind.i64.wrap ((c:Int)+1)=(c:Int)+1:=lp _ ad;have K:IntKind.i64.wrap (a+1)=a+1:=lp _ ad;have L:IntKind.i64.wrap (a-1)=a-1:=lp _ ad;have g:=ah (And.intro r x);clear r x h;have B:e=1∨e=3∨e=4∨(e≠1/\e≠3/\e≠4):=ad;rcases B with rfl|rfl|rfl|⟨a1,u,v⟩
   ·go_wp2_with fail
    go_roundw
    case rel=>
     refine⟨k+1,c+1,a+1,max f (a+1),aG,aG,?_,aG,ad,cD,?_,ad,ad,ad,ad,ad⟩
     ·first|rfl|(congr 1;simp[Int.max_def])
     ·show _/\_
      rw[g.o.1,g.o.2];exact⟨rfl,rfl⟩
    case measure=>exact aH
   ·go_wp2_with fail
    go_roundw
    case rel=>
     refine⟨k+1,c+1,a,max f (a+1),aG,rfl,?_,aG,ad,cD,?_,ad,ad,ad,ad,ad⟩
     ·first|rfl|(congr 1;simp[Int.max_def])
     ·show _/\_
      rw[g.o.1,g.o.2];exact⟨rfl,rfl⟩
    case measure=>exact aH
   ·go_wp2_with fail
    go_roundw
    case rel=>
     refine⟨k+1,c,a-1,f,rfl,aG,rfl,aG,ad,cD,?_,ad,ad,ad,ad,ad⟩
     ·show _/\_
      rw[g.o.1,g.o.2];exact⟨rfl,rfl⟩
    case measure=>exact aH
   ·have G:(e==1)=false:=by simpa using a1
    have H:(e==3)=false:=by simpa using u
    have I:(e==4)=false:=by simpa using v
    go_wp2
    go_roundw
    case rel=>
     refine⟨k+1,c,a,f,rfl,rfl,rfl,aG,ad,cD,?_,ad,ad,ad,ad,ad⟩
     ·show _/\_
      rw[g.o.1,g.o.2];simp[oF,d9,a1,u,v]
    case measure=>exact aH
  ·have A:decide ((k:Int)<l.length)=false:=aJ
   have q:=j.o;rw[bx ad]at q;have t:=ah q;clear q
   go_wp2
   go_ret2
   exact⟨by rw[t.o.1,t.o.2];rfl,rfl⟩
theorem P8(l:List bh)(o:Option Addr)(cap:Nat)(w:World)(H:iq w o cap l)(cc:l.length<=1048576)(bB:∀s∈l,s.name.length<=1048576/\s.text.length<=1048576):
 Calls prog 12 #[.slice o l.length cap] w fun G w'=>G=.returned (.int .i64 (pQ l))/\Below w.heap.size w w':=by
 have cp:=H.2.1;have b8:=H.2.2.1;unfold maxLen at b8;have bg:=P7 l o cap w H cc;obtain⟨T,W⟩:=aj (pQ l);rw[<-W];unfold pQ at W;obtain⟨al,a7⟩:=aj ((d9 l 0 0).2);obtain⟨C,a6⟩:=aj (gw l);rw[<-a7,<-a6]at W;rw[<-a7,<-a6]at bg;have an:=ah W;clear W a7 a6;go_enter func12,ntmps12
 go_wp2_with fail
 refine bg.mono ?_;rintro G w1 ⟨rfl,rfl⟩;clear bg;by_cases X:4096<(C:Int)∨32<al
 ·have A:T=17:=by rw[an.o,au X]
  have z:=ah A;clear A;by_cases co:4096<(C:Int)
  ·have bi:decide ((C:Int)>4096)=true:=aM
   clear X
   go_wp2
   go_ret;exact⟨bT z.o.symm,aA _ _⟩
  ·have bi:decide ((C:Int)>4096)=false:=aJ
   have R:decide (al>32)=true:=aM;clear X
   go_wp2
   go_ret;exact⟨bT z.o.symm,aA _ _⟩
 have a9:=an.o;rw[ap X]at a9;have ao:=ah a9;clear a9 an;have bi:decide ((C:Int)>4096)=false:=aJ;have R:decide (al>32)=false:=aJ;clear X;go_wp2_with fail
 clear bi R;go_loopw [5] (fun i wr=>∃k:Nat,i=.int .i64 k/\k<=l.length/\Below w.heap.size w wr/\Hid ((l.take k).any (fun s=>decide (s.kind<=2)&& !a8 s.name)=false)) (fun i _=>l.length-(intOf i).toNat)
 case atStart=>exact⟨0,rfl,aK _,aA _ _,rfl⟩
 case round=>
  obtain⟨k,rfl,N,d,m⟩:=hrel;by_cases x:k<l.length
  ·have v:decide ((k:Int)<l.length)=true:=aM
   have bz:(k:Int)<l.length:=ad;obtain⟨s,e⟩:∃n,l[k]?=some n:=⟨_,aF x⟩;obtain⟨b,ag,rfl,ae,K,L,M⟩:=(H.below d).at e;have O:=lL (p:=fun s:bh=>decide (s.kind<=2)&& !a8 s.name) e m.o;have u:=fun Y=>lM (p:=fun s:bh=>decide (s.kind<=2)&& !a8 s.name) e Y;have h:=fun cl=>qf s.name cl (bB s (aU e)).1;obtain⟨P,I⟩:=aE O u;clear O u e;obtain⟨y,V,F⟩:=s;simp only at K L M h;by_cases f:y<=2
   ·have R:decide (y<=2)=true:=ox f
    clear f;cases g:a8 V with
    |true=>
     rw[g]at h;have r:Hid ((l.take (k+1)).any (fun s=>decide (s.kind<=2)&& !a8 s.name)=false):=ah (by rw[P.o];simp[g]);clear g;go_wp2_with fail
     refine(h _).mono ?_;rintro G bq ⟨rfl,rfl⟩;clear h
     go_wp2
     go_roundw
     case rel=>exact⟨k+1,aG,ad,d,r⟩
     case measure=>exact aH
    |false=>
     rw[g]at h;have A:T=11:=by rw[ao.o,au (I.o (by simp[g,R]))]
     have z:=ah A;clear A g;go_wp2_with fail
     refine(h _).mono ?_;rintro G bq ⟨rfl,rfl⟩;clear h
     go_wp2
     go_ret;exact⟨bT z.o.symm,d⟩
   ·have R:decide (y<=2)=false:=pI f
    have r:Hid ((l.take (k+1)).any (fun s=>decide (s.kind<=2)&& !a8 s.name)=false):=ah (by rw[P.o];simp[R]);clear f h
    go_wp2
    go_roundw
    case rel=>exact⟨k+1,aG,ad,d,r⟩
    case measure=>exact aH
  have v:decide ((k:Int)<l.length)=false:=aJ;have ba:=ao.o;rw[ap (by have:=m.o;rw[bx ad]at this;rw[this];decide)]at ba;have aq:=ah ba;clear ba ao m;obtain⟨cq,bE⟩:=aj (wr);rw[<-bE]at d⊢;clear bE;go_wp2_with fail
  clear v x N;try(rename¬k<l.length=>hbad;clear hbad)
  go_loopw [6] (fun i wr=>∃k:Nat,i=.int .i64 k/\k<=l.length/\Below w.heap.size w wr/\Hid ((l.take k).any (fun s=> !fV s.text)=false)) (fun i _=>l.length-(intOf i).toNat)
  case atStart=>exact⟨0,rfl,aK _,d,rfl⟩
  case round=>
   obtain⟨k,rfl,N,d,m⟩:=hrel;by_cases x:k<l.length
   ·have v:decide ((k:Int)<l.length)=true:=aM
    have bz:(k:Int)<l.length:=ad;obtain⟨s,e⟩:∃n,l[k]?=some n:=⟨_,aF x⟩;obtain⟨b,ag,rfl,ae,K,L,M⟩:=(H.below d).at e;have O:=lL (p:=fun s:bh=> !fV s.text) e m.o;have u:=fun Y=>lM (p:=fun s:bh=> !fV s.text) e Y;have h:=P0 s.text wr (bB s (aU e)).2;obtain⟨P,I⟩:=aE O u;clear O u e;obtain⟨y,V,F⟩:=s;simp only at K L M h;have bA:(dZ F==F.length)=fV F:=rfl;rw[bA]at h;clear bA;cases g:fV F with
    |true=>
     rw[g]at h;have r:Hid ((l.take (k+1)).any (fun s=> !fV s.text)=false):=ah (by rw[P.o];simp[g]);clear g;go_wp2_with fail
     refine h.mono ?_;rintro G bq ⟨rfl,bf⟩;clear h
     go_wp2
     go_roundw
     case rel=>exact⟨k+1,aG,ad,aD d bf,r⟩
     case measure=>exact aH
    |false=>
     rw[g]at h;have A:T=10:=by rw[aq.o,au (I.o (by simp[g]))]
     have z:=ah A;clear A g;go_wp2_with fail
     refine h.mono ?_;rintro G bq ⟨rfl,bf⟩;clear h
     go_wp2
     go_ret;exact⟨bT z.o.symm,aD d bf⟩
   have v:decide ((k:Int)<l.length)=false:=aJ;have bb:=aq.o;rw[ap (by have:=m.o;rw[bx ad]at this;rw[this];decide)]at bb;have av:=ah bb;clear bb aq m;obtain⟨cs,bF⟩:=aj (wr);rw[<-bF]at d⊢;clear bF;go_wp2_with fail
   clear v x N;try(rename¬k<l.length=>hbad;clear hbad)
   go_loopw [7] (fun i wr=>∃k:Nat,i=.int .i64 k/\k<=l.length/\Below w.heap.size w wr/\Hid ((l.take k).any (fun s=>decide (s.kind=3)&&decide (s.text=[]))=false)) (fun i _=>l.length-(intOf i).toNat)
   case atStart=>exact⟨0,rfl,aK _,d,rfl⟩
   case round=>
    obtain⟨k,rfl,N,d,m⟩:=hrel;by_cases x:k<l.length
    ·have v:decide ((k:Int)<l.length)=true:=aM
     have bz:(k:Int)<l.length:=ad;obtain⟨s,e⟩:∃n,l[k]?=some n:=⟨_,aF x⟩;obtain⟨b,ag,rfl,ae,K,L,M⟩:=(H.below d).at e;have O:=lL (p:=fun s:bh=>decide (s.kind=3)&&decide (s.text=[])) e m.o;have u:=fun Y=>lM (p:=fun s:bh=>decide (s.kind=3)&&decide (s.text=[])) e Y;obtain⟨P,I⟩:=aE O u;clear O u e;obtain⟨y,V,F⟩:=s;simp only at K L M;by_cases f:y=3
     ·subst f
      cases F with
      |nil=>
       have A:T=18:=by rw[av.o,au (I.o rfl)]
       have z:=ah A;clear A
       go_wp2
       go_ret;exact⟨bT z.o.symm,d⟩
      |cons c F=>
       have r:Hid ((l.take (k+1)).any (fun s=>decide (s.kind=3)&&decide (s.text=[]))=false):=ah (by rw[P.o];simp);have g:((⟨(c::F).toArray⟩:ByteArray)==(⟨#[]⟩:ByteArray))=false:=rfl
       go_wp2
       go_roundw
       case rel=>exact⟨k+1,aG,ad,d,r⟩
       case measure=>exact aH
     ·have R:(y==3)=false:=by simpa using f
      have r:Hid ((l.take (k+1)).any (fun s=>decide (s.kind=3)&&decide (s.text=[]))=false):=ah (by rw[P.o];simp[f]);clear f
      go_wp2
      go_roundw
      case rel=>exact⟨k+1,aG,ad,d,r⟩
      case measure=>exact aH
    have v:decide ((k:Int)<l.length)=false:=aJ;have bc:=av.o;rw[ap (by have:=m.o;rw[bx ad]at this;rw[this];decide),vV,vW]at bc;have a0:=ah bc;clear bc av m;obtain⟨wc,bZ⟩:=aj (wr);rw[<-bZ]at d⊢;clear bZ;go_wp2_with fail
    clear v x N;try(rename¬k<l.length=>hbad;clear hbad)
    go_loopw [8] (fun i wr=>∃k:Nat,i=.int .i64 ((k:Int)+1)/\(k+1<=l.length∨k=0)/\Below w.heap.size w wr/\Hid (∀(j:Nat) (a b:bh),j<k->l[j]?=some a->l[j+1]?=some b->(decide (b.kind=2)&&decide (a.kind=2)&&br b.name a.name)=false)) (fun i _=>l.length-(intOf i).toNat)
    case atStart=>exact⟨0,rfl,.inr rfl,d,fun j a b bo=>ad⟩
    case round=>
     obtain⟨k,rfl,N,d,m⟩:=hrel;by_cases x:k+1<l.length
     ·have v:decide ((k:Int)+1<(l.length:Int))=true:=aM
      have b3:(0:Int)<=k:=ad;have b4:(k:Int)<l.length:=ad;have b5:(0:Int)<=k+1:=ad;have b6:(k:Int)+1<(l.length:Int):=ad;have ch:(((k:Int)+1).toNat)=k+1:=ad;obtain⟨s,e⟩:∃n,l[k]?=some n:=⟨_,aF ad⟩;obtain⟨E,J⟩:∃n,l[k+1]?=some n:=⟨_,aF x⟩;obtain⟨b,ag,rfl,ae,K,L,M⟩:=(H.below d).at e;obtain⟨b',ce,Q,b7,bt,bu,bw⟩:=(H.below d).at J;injection Q with Q
      injection Q with a2 a3 a4;clear a4
      subst a2;subst a3;have Z:∀q,(decide (E.kind=2)&&decide (s.kind=2)&&br E.name s.name)=q->q=false->Hid (∀(j:Nat) (a b:bh),j<k+1->l[j]?=some a->l[j+1]?=some b->(decide (b.kind=2)&&decide (a.kind=2)&&br b.name a.name)=false):=fun q g bm=>by
       intro j a b bo B D;by_cases G:j=k
       ·subst G
        rw[e]at B;rw[J]at D;injection B with B;injection D with D
        subst B;subst D;rw[g,bm]
       ·exact m.o j a b ad B D
      have u:(decide (E.kind=2)&&decide (s.kind=2)&&br E.name s.name)=true->T=14:=fun g=>by rw[a0.o,au];exact(sH _ l).2 ⟨k,s,E,e,J,g⟩
      obtain⟨S,I⟩:=aE Z u;clear Z u e J;obtain⟨y,V,F⟩:=s;obtain⟨ab,b1,ci⟩:=E;simp only at K L M bt bu bw;by_cases f:ab=2
      ·subst f
       by_cases t:y=2
       ·subst t
        rcases Cf V b1 with⟨aa,af⟩|⟨aa,af,b9⟩
        ·have z:=ah (I.o (by simp[aa]))
         clear aa;rcases af with af|⟨af,b9⟩
         all_goals
          go_wp2
          go_quiet(fail)
          go_wp2
          go_ret;exact⟨bT z.o.symm,dm d _⟩
        ·have r:=S.o _ rfl (by simp[aa])
         clear aa
         go_wp2
         go_quiet(fail)
         go_wp2
         go_roundw
         case rel=>exact⟨k+1,aG,.inl ad,dm d _,r⟩
         case measure=>exact aH
       ·have bl:(y==2)=false:=by simpa using t
        have r:=S.o _ rfl (by simp[t]);clear t
        go_wp2
        go_quiet(fail)
        go_wp2
        go_roundw
        case rel=>exact⟨k+1,aG,.inl ad,dm d _,r⟩
        case measure=>exact aH
      ·have bl:(ab==2)=false:=by simpa using f
       have r:=S.o _ rfl (by simp[f]);clear f
       go_wp2
       go_quiet(fail)
       go_wp2
       go_roundw
       case rel=>exact⟨k+1,aG,.inl ad,dm d _,r⟩
       case measure=>exact aH
     have v:decide ((k:Int)+1<(l.length:Int))=false:=aJ;have bd:=a0.o;rw[ap (by intro h;obtain⟨j,a,b,a5,f,t⟩:=(sH _ l).1 h;have:=(aP.1 f).1;rw[m.o j a b ad a5 f]at t;cases t)]at bd
     have a1:=ah bd;clear bd a0 m;obtain⟨cu,b0⟩:=aj (wr);rw[<-b0]at d⊢;clear b0;go_wp2_with fail
     clear v x N;try(rename¬k+1<l.length=>hbad;clear hbad)
     go_loopw [9] (fun i wr=>∃k:Nat,i=.int .i64 ((k:Int)+1)/\(k+1<=l.length∨k=0)/\Below w.heap.size w wr/\Hid (∀(j:Nat) (a b:bh),j<k->l[j]?=some a->l[j+1]?=some b->(decide (b.kind=3)&&decide (a.kind=3))=false)) (fun i _=>l.length-(intOf i).toNat)
     case atStart=>exact⟨0,rfl,.inr rfl,d,fun j a b bo=>ad⟩
     case round=>
      obtain⟨k,rfl,N,d,m⟩:=hrel;by_cases x:k+1<l.length
      ·have v:decide ((k:Int)+1<(l.length:Int))=true:=aM
       have b3:(0:Int)<=k:=ad;have b4:(k:Int)<l.length:=ad;have b5:(0:Int)<=k+1:=ad;have b6:(k:Int)+1<(l.length:Int):=ad;have ch:(((k:Int)+1).toNat)=k+1:=ad;obtain⟨s,e⟩:∃n,l[k]?=some n:=⟨_,aF ad⟩;obtain⟨E,J⟩:∃n,l[k+1]?=some n:=⟨_,aF x⟩;obtain⟨b,ag,rfl,ae,K,L,M⟩:=(H.below d).at e;obtain⟨b',ce,Q,b7,bt,bu,bw⟩:=(H.below d).at J;injection Q with Q
       injection Q with a2 a3 a4;clear a4
       subst a2;subst a3;have Z:∀q,(decide (E.kind=3)&&decide (s.kind=3))=q->q=false->Hid (∀(j:Nat) (a b:bh),j<k+1->l[j]?=some a->l[j+1]?=some b->(decide (b.kind=3)&&decide (a.kind=3))=false):=fun q g bm=>by
        intro j a b bo B D;by_cases G:j=k
        ·subst G
         rw[e]at B;rw[J]at D;injection B with B;injection D with D
         subst B;subst D;rw[g,bm]
        ·exact m.o j a b ad B D
       have u:(decide (E.kind=3)&&decide (s.kind=3))=true->T=15:=fun g=>by rw[a1.o,au];exact(sH _ l).2 ⟨k,s,E,e,J,g⟩
       obtain⟨S,I⟩:=aE Z u;clear Z u e J;obtain⟨y,V,F⟩:=s;obtain⟨ab,b1,ci⟩:=E;simp only at K L M bt bu bw;by_cases f:ab=3
       ·subst f
        by_cases t:y=3
        ·subst t
         have z:=ah (I.o rfl)
         go_wp2
         go_ret;exact⟨bT z.o.symm,d⟩
        ·have bl:(y==3)=false:=by simpa using t
         have r:=S.o _ rfl (by simp[t]);clear t
         go_wp2
         go_roundw
         case rel=>exact⟨k+1,aG,.inl ad,d,r⟩
         case measure=>exact aH
       ·have bl:(ab==3)=false:=by simpa using f
        have r:=S.o _ rfl (by simp[f]);clear f
        go_wp2
        go_roundw
        case rel=>exact⟨k+1,aG,.inl ad,d,r⟩
        case measure=>exact aH
      have v:decide ((k:Int)+1<(l.length:Int))=false:=aJ;have be:=a1.o;rw[ap (by intro h;obtain⟨j,a,b,a5,f,t⟩:=(sH _ l).1 h;have:=(aP.1 f).1;rw[m.o j a b ad a5 f]at t;cases t)]at be
      have b2:=ah be;clear be a1 m
      go_wp2
      go_ret;exact⟨bT b2.o.symm,d⟩
def ES(l:List bh)(w:World)(a:Ending)(w':World):Prop:=
 Below w.heap.size w w'/\((∃(t:Tr) (r:KA),a=.returned (.tuple #[bJ t r,.bool false]))∨
  ∃(t:Tr) (r:KA),a=.returned (.tuple #[bJ t r,.bool true])/\cg w' (fun b=>w.heap.size<=b) t r/\cy t=l/\dC t)
theorem vm(t:Tr)(r:KA):bJ t r=.agg #[.string ⟨t.label.toArray⟩,.string ⟨t.text.toArray⟩,.slice r.ao t.attrs.length r.ac,.slice r.ko t.kids.length r.kc]:=rfl
theorem cg.sets{w:World}{P:Nat->Prop}{t:Tr}{r:KA}{B:Nat}(f:cg w P t r)(e:∀b,P b->b≠B)(a b c d:Value):cg ((((w.setCell ⟨B,0,none⟩ a).setCell ⟨B,1,none⟩ b).setCell ⟨B,2,none⟩ c).setCell ⟨B,3,none⟩ d) P t r:=
 (((f.set (j:=0) (u:=a) e).set (j:=1) (u:=b) e).set (j:=2) (u:=c) e).set (j:=3) (u:=d) e
theorem P9(l:List bh)(o:Option Addr)(cap:Nat)(w:World)(L:iq w o cap l)(O:l.length<=1048576)(C:∀s∈l,s.kind=1->s.name≠[]):
 Calls prog 25 #[.slice o l.length cap] w (ES l w):=by
 have H:=aC w (.cells #[.string ⟨#[]⟩,.string ⟨#[]⟩,.slice none 0 0,.slice none 0 0] 29);have r:Below w.heap.size w (w.alloc (.cells #[.string ⟨#[]⟩,.string ⟨#[]⟩,.slice none 0 0,.slice none 0 0] 29)):=az;have F:w.heap.size<(w.alloc (.cells #[.string ⟨#[]⟩,.string ⟨#[]⟩,.slice none 0 0,.slice none 0 0] 29)).heap.size:=ak;obtain⟨w0,x⟩:=aj (w.alloc (.cells #[.string ⟨#[]⟩,.string ⟨#[]⟩,.slice none 0 0,.slice none 0 0] 29));have c:=fun(A:Below w.heap.size w w0)=>K9 l o cap O C l.length 0 w0 ad ad (L.below A);rw[<-x]at H r F;have c:=c r;have y:=ah c;clear c C;go_enter func25,ntmps25
 have c:=y.o;go_wp2_with fail
 rw[<-x];refine c.mono ?_;rintro Q w1 ⟨u,N⟩;clear c y x;have E:=(u.block _ F).trans H;have p:=aD r u;have X:=u.size;rcases N with rfl|⟨t,q,n,rfl,T,V,z,G,D⟩
 ·have a:=(bH w1 (.cells #[.string ⟨#[]⟩,.string ⟨#[]⟩,.slice none 0 0,.slice none 0 0] 29) w.heap.size ad).trans E
  obtain⟨d,e,f,g⟩:_/\_/\_/\_:=⟨ai 0 a,ai 1 a,ai 2 a,ai 3 a⟩;have h:=aQ a 0;have i:=aQ a 1;have j:=aQ a 2;have f3:=aQ a 3;have M:((-1:Int)==(l.length:Int))=false:=dX;have m:=p.alloc p.size (.cells #[.string ⟨#[]⟩,.string ⟨#[]⟩,.slice none 0 0,.slice none 0 0] 29);go_wp2_with fail
  exact bS (v:=.tuple #[bJ (.mk [] [] [] []) ⟨none,0,none,0⟩,.bool false]) (by simp[results,results25,go_sem,d,e,f,g,h,i,j,f3,bJ,Tr.label,Tr.text,Tr.attrs,Tr.kids]) rfl ⟨jV _ (aB _) m _ _ _ _,.inl ⟨_,_,rfl⟩⟩
 ·have a:=(bH w1 (.cells #[.string ⟨t.label.toArray⟩,.string ⟨t.text.toArray⟩,.slice q.ao t.attrs.length q.ac,.slice q.ko t.kids.length q.kc] 29) w.heap.size ad).trans E
  obtain⟨d,e,f,g⟩:_/\_/\_/\_:=⟨ai 0 a,ai 1 a,ai 2 a,ai 3 a⟩;have h:=aQ a 0;have i:=aQ a 1;have j:=aQ a 2;have f3:=aQ a 3;have m:=p.alloc p.size (.cells #[.string ⟨t.label.toArray⟩,.string ⟨t.text.toArray⟩,.slice q.ao t.attrs.length q.ac,.slice q.ko t.kids.length q.kc] 29);have R:decide ((l.length:Int)>0)=true:=aM;obtain⟨I,K,J⟩:=bO (z.grow ((aA _ w1).alloc (aB _) (.cells #[.string ⟨t.label.toArray⟩,.string ⟨t.text.toArray⟩,.slice q.ao t.attrs.length q.ac,.slice q.ko t.kids.length q.kc] 29))) G D;clear z G D;by_cases P:n=l.length
  ·subst P
   go_wp2_with fail
   refine bS (v:=.tuple #[bJ t q,.bool true]) (by simp[results,results25,go_sem,d,e,f,g,h,i,j,f3,bJ]) rfl ⟨jV _ (aB _) m _ _ _ _,.inr ⟨t,q,rfl,?_,by rw[K.o];simp,J.o⟩⟩;refine(I.o.sets (B:=w.heap.size) (fun b A=>ad) _ _ _ _).kept (aB _) fun b Y S W=>⟨rfl,ad⟩
  ·have M:((n:Int)==(l.length:Int))=false:=dX
   go_wp2_with fail
   exact bS (v:=.tuple #[bJ t q,.bool false]) (by simp[results,results25,go_sem,d,e,f,g,h,i,j,f3,bJ]) rfl ⟨jV _ (aB _) m _ _ _ _,.inl ⟨_,_,rfl⟩⟩
theorem Qa(l:List bh)(o:Option Addr)(cap:Nat)(w:World)(E:iq w o cap l)(P:l.length<=1048576):
 Calls prog 5 #[.slice o l.length cap] w (ES l w):=by
 have a7:=E.2.1;have ag:=E.2.2.1;unfold maxLen at ag;have a:=aC w (.cells #[.string ⟨#[]⟩,.string ⟨#[]⟩,.slice none 0 0,.slice none 0 0] 29);have A:Below w.heap.size w (w.alloc (.cells #[.string ⟨#[]⟩,.string ⟨#[]⟩,.slice none 0 0,.slice none 0 0] 29)):=az;have V:w.heap.size<(w.alloc (.cells #[.string ⟨#[]⟩,.string ⟨#[]⟩,.slice none 0 0,.slice none 0 0] 29)).heap.size:=ak;obtain⟨w0,W⟩:=aj (w.alloc (.cells #[.string ⟨#[]⟩,.string ⟨#[]⟩,.slice none 0 0,.slice none 0 0] 29));go_enter func5,ntmps5
 go_wp2_with fail
 rw[<-W]at a A V⊢;clear W;have J:=E.below A;obtain⟨f,g,h,j⟩:_/\_/\_/\_:=⟨ai 0 a,ai 1 a,ai 2 a,ai 3 a⟩;have p:=aQ a 0;have q:=aQ a 1;have u:=aQ a 2;have f3:=aQ a 3;go_loopw [4] (fun i wr=>∃k:Nat,i=.int .i64 k/\k<=l.length/\w0=wr/\Hid (∀s∈l.take k,s.kind=1->s.name≠[])) (fun i _=>l.length-(intOf i).toNat)
 case atStart=>exact⟨0,rfl,aK _,rfl,fun s F=>by simp at F⟩
 case round=>
  obtain⟨k,rfl,a5,rfl,I⟩:=hrel;by_cases Q:k<l.length
  ·have al:decide ((k:Int)<l.length)=true:=aM
   have a6:(k:Int)<l.length:=ad;obtain⟨s,G⟩:∃n,l[k]?=some n:=⟨_,aF Q⟩;obtain⟨b,aq,rfl,a3,av,a0,a1⟩:=J.at G;have x:(s.kind=1->s.name≠[])->∀s∈l.take (k+1),s.kind=1->s.name≠[]:=fun F m e=>by
    rw[bG,G]at e;rcases fe.1 e with e|e
    ·exact I.o m e
    ·simp at e;subst e;exact F
   have y:=ah x;clear x G;obtain⟨X,H,bc⟩:=s;simp only at av a0 a1;by_cases z:X=1
   ·subst z
    cases H with
    |nil=>
     go_wp2_with fail
     exact bS (v:=.tuple #[bJ (.mk [] [] [] []) ⟨none,0,none,0⟩,.bool false]) (by simp[results,results5,go_sem,f,g,h,j,p,q,u,f3,bJ,Tr.label,Tr.text,Tr.attrs,Tr.kids]) rfl ⟨jV _ (aB _) A _ _ _ _,.inl ⟨_,_,rfl⟩⟩
    |cons c H=>
     have C:=ah (y.o (fun _=>ak));have ba:((⟨(c::H).toArray⟩:ByteArray)==(⟨#[]⟩:ByteArray))=false:=rfl
     go_wp2
     go_roundw
     case rel=>exact⟨k+1,aG,ad,cD,C.o⟩
     case measure=>exact aH
   ·have a4:(X==1)=false:=by simpa using z
    have C:=ah (y.o (fun D=>absurd D z));clear z
    go_wp2
    go_roundw
    case rel=>exact⟨k+1,aG,ad,cD,C.o⟩
    case measure=>exact aH
  ·have al:decide ((k:Int)<l.length)=false:=aJ
   have L:∀s∈l,s.kind=1->s.name≠[]:=by have:=I.o;rwa[bx ad]at this
   have S:=Cl l o cap w0 J P;have Z:=ah L;clear L;go_wp2_with fail
   refine S.mono ?_;rintro D w1 ⟨ao,ab,rfl,ae,M⟩;clear S;have T:=P9 l ao ab w1 ae P Z.o;go_wp2_with fail
   refine T.mono ?_;rintro D bd ⟨af,an⟩;clear T;have N:=aD M af;have d:=(N.block _ V).trans a;have O:=aD A N;clear f g h j p q u f3;obtain⟨f,g,h,j⟩:_/\_/\_/\_:=⟨ai 0 d,ai 1 d,ai 2 d,ai 3 d⟩;have p:=aQ d 0;have q:=aQ d 1;have u:=aQ d 2;have f3:=aQ d 3;have bb:=M.size;rcases an with⟨t,r,rfl⟩|⟨t,r,rfl,K,x,R⟩
   ·rw[vm]
    go_wp2_with fail
    exact bS (v:=.tuple #[bJ t r,.bool false]) (by simp[results,results5,go_sem,f,g,h,j,p,q,u,f3,bJ]) rfl ⟨jV _ (aB _) O _ _ _ _,.inl ⟨_,_,rfl⟩⟩
   ·have Y:=ah K
    obtain⟨y,aa⟩:=aE x R;clear K x R;rw[vm];go_wp2_with fail
    refine bS (v:=.tuple #[bJ t r,.bool true]) (by simp[results,results5,go_sem,f,g,h,j,p,q,u,f3,bJ]) rfl ⟨jV _ (aB _) O _ _ _ _,.inr ⟨t,r,rfl,?_,y.o,aa.o⟩⟩;exact(Y.o.sets (B:=w.heap.size) (fun b a2=>ad) _ _ _ _).kept (aB _) fun b aq Q a9=>⟨rfl,ad⟩
end Go.Proofs.YtbacloblanpghaaGreatDoor
