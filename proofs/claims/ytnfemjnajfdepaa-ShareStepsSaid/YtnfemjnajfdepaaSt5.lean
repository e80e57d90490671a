/- The row ShareSteps: the Go law answers true at every input that its guards let in; no condition of its own. -/
import Derived.Laws.Bits64
import Derived.Laws.Bits64b
import GoSem.Claim
import Derived.Lib.TrailingZeros
import Derived.OpenShut
import Derived.WideShapes
import Derived.Deep.Slices
import Derived.Test.YtnfemjnajfdepaaRows
import Derived.ProofKit
import Derived.ShutString
import Derived.ChangeOld
import Derived.Test.YtnfemjnajfdepaaSt4
set_option maxHeartbeats 16000000
set_option maxRecDepth 100000
set_option linter.unusedVariables false
set_option linter.unusedSimpArgs false
namespace Go.Proofs.Ytnfemjnajfdepaa.M
open RowKit YtnfemjnajfdepaaW.PrintWords YtnfemjnajfdepaaW.PrintMore
def Ends{α:Type}(g:Nat->Option α)(r:α):Prop:= ∃K,∀k,K<=k->g k=some r
theorem Ends.const{α:Type}{x:Option α}{r:α}(h:x=some r):Ends (fun _=>x) r:=⟨0,fun _ _=>h⟩
theorem Ends.exists{α:Type}{g:Nat->Option α}{r:α}(h:Ends g r): ∃k,g k=some r:=by
 obtain⟨K,h⟩:=h;exact⟨K,h K (Nat.le_refl _)⟩
theorem Ends.bind{α β:Type}{f:Nat->Option α}{h:Nat->α->Option β}{x:α}{r:β}(hf:Ends f x)(hh:Ends (fun k=>h k x) r):Ends (fun k=>(f k).bind (h k)) r:=by
 obtain⟨K,hf⟩:=hf;obtain⟨L,hh⟩:=hh;refine⟨max K L,fun k hk=>?_⟩;show(f k).bind (h k)=some r;rw[hf k zaa];exact hh k zaa
theorem Ends.bind1{α β:Type}{x:Option α}{h:Nat->α->Option β}{a:α}{r:β}(hx:x=some a)(hh:Ends (fun k=>h k a) r):Ends (fun k=>x.bind (h k)) r:=by
 subst hx;exact hh
theorem Ends.pos{α:Type}{f g:Nat->Option α}{c:Prop} [Decidable c]{r:α}(hc:c)(hf:Ends f r):Ends (fun k=>if c then f k else g k) r:=by
 simp only[if_pos hc];exact hf
theorem Ends.neg{α:Type}{f g:Nat->Option α}{c:Prop} [Decidable c]{r:α}(hc: ¬c)(hg:Ends g r):Ends (fun k=>if c then f k else g k) r:=by
 simp only[if_neg hc];exact hg
theorem Ends.succ{α:Type}{l body:Nat->Option α}{r:α}(hs: ∀k,l (k+1)=body k)(hb:Ends body r):Ends l r:=by
 obtain⟨K,hb⟩:=hb;refine⟨K+1,fun k hk=>?_⟩;obtain⟨j,rfl⟩: ∃j,k=j+1:=⟨k-1,by omega⟩
 rw[hs];exact hb j zaa
theorem Ends.congr{α:Type}{f g:Nat->Option α}{r:α}(h: ∀k,f k=g k)(hg:Ends g r):Ends f r:=by
 obtain⟨K,hg⟩:=hg;exact⟨K,fun k hk=>by rw[h,hg k hk]⟩
theorem Ends.eq{α:Type}{g:Nat->Option α}{r r':α}(h:Ends g r)(e:r=r'):Ends g r':=e▸h
theorem w64{x:Int}(h0: -9223372036854775808<=x)(h1:x<=9223372036854775807):wrap64 x=x:=by unfold wrap64;omega
theorem wu64{x:Int}(h0:0<=x)(h1:x<18446744073709551616):IntKind.u64.wrap x=x:=by rw[IntKind.wrap_u64];omega
theorem rd_nat(l:List Int)(i:Nat):rd l (i:Int)=l.getD i 0:=by simp[rd]
end Go.Proofs.Ytnfemjnajfdepaa.M
namespace Go.Proofs.Ytnfemjnajfdepaa.M
structure El where
 v:BitVec 8
deriving DecidableEq
theorem El.eq{a b:El}(h:a.v=b.v):a=b:=by cases a;cases b;cases h;rfl
instance:Add El:=⟨fun a b=>⟨a.v ^^^ b.v⟩⟩
instance:Zero El:=⟨⟨0⟩⟩
instance:OfNat El 0:=⟨⟨0⟩⟩
instance:OfNat El 1:=⟨⟨1⟩⟩
theorem add_comm(a b:El):a+b=b+a:=El.eq (BitVec.xor_comm _ _)
theorem add_assoc(a b c:El):a+b+c=a+(b+c):=El.eq (BitVec.xor_assoc _ _ _)
theorem add_zero(a:El):a+0=a:=El.eq BitVec.xor_zero
theorem zero_add(a:El):0+a=a:=El.eq BitVec.zero_xor
instance:Std.Commutative (α:=El) (· + ·):=⟨add_comm⟩
instance:Std.Associative (α:=El) (· + ·):=⟨add_assoc⟩
def xt(a:BitVec 8):BitVec 8:=(a <<< 1) ^^^ (if a.getLsbD 7 then 0x1d#8 else 0#8)
theorem xt_xor(a b:BitVec 8):xt (a ^^^ b)=xt a ^^^ xt b:=by
 unfold xt;rw[BitVec.shiftLeft_xor_distrib,BitVec.getLsbD_xor]
 cases a.getLsbD 7<;>cases b.getLsbD 7<;>simp<;>first|ac_rfl|skip
 ·rw[show a <<< 1 ^^^ 29#8 ^^^ (b <<< 1 ^^^ 29#8)=(a <<< 1 ^^^ b <<< 1) ^^^ (29#8 ^^^ 29#8)from by ac_rfl];simp
def xtn:Nat->BitVec 8->BitVec 8
 |0,a=>a
 |n+1,a=>xt (xtn n a)
theorem xtn_xor: ∀n a b,xtn n (a ^^^ b)=xtn n a ^^^ xtn n b
 |0,_,_=>rfl
 |n+1,a,b=>by
  show xt (xtn n (a ^^^ b))=_;rw[xtn_xor n,xt_xor];rfl
theorem xtn_xt: ∀n a,xtn n (xt a)=xt (xtn n a)
 |0,_=>rfl
 |n+1,a=>by
  show xt (xtn n (xt a))=_;rw[xtn_xt n];rfl
theorem xtn_add: ∀m n a,xtn (m+n) a=xtn m (xtn n a)
 |0,n,a=>by rw[Nat.zero_add];rfl
 |m+1,n,a=>by
  rw[show m+1+n=(m+n)+1 from by omega];show xt (xtn (m+n) a)=xt (xtn m (xtn n a));rw[xtn_add m]
def gmN(a b:BitVec 8):Nat->BitVec 8
 |0=>0
 |n+1=>gmN a b n ^^^ (if b.getLsbD n then xtn n a else 0)
def gm(a b:BitVec 8):BitVec 8:=gmN a b 8
theorem gmN_xor_right(a b c:BitVec 8): ∀n,gmN a (b ^^^ c) n=gmN a b n ^^^ gmN a c n
 |0=>by simp[gmN]
 |n+1=>by
  show gmN a (b ^^^ c) n ^^^ _=(gmN a b n ^^^ _) ^^^ (gmN a c n ^^^ _);rw[gmN_xor_right a b c n,BitVec.getLsbD_xor,show(gmN a b n ^^^ if b.getLsbD n=true then xtn n a else 0) ^^^ (gmN a c n ^^^ if c.getLsbD n=true then xtn n a else 0)=(gmN a b n ^^^ gmN a c n) ^^^ ((if b.getLsbD n=true then xtn n a else 0) ^^^ (if c.getLsbD n=true then xtn n a else 0))from by ac_rfl]
  cases b.getLsbD n<;>cases c.getLsbD n<;>simp
theorem gmN_xor_left(a b c:BitVec 8): ∀n,gmN (a ^^^ b) c n=gmN a c n ^^^ gmN b c n
 |0=>by simp[gmN]
 |n+1=>by
  show gmN (a ^^^ b) c n ^^^ _=(gmN a c n ^^^ _) ^^^ (gmN b c n ^^^ _);rw[gmN_xor_left a b c n,show(gmN a c n ^^^ if c.getLsbD n=true then xtn n a else 0) ^^^ (gmN b c n ^^^ if c.getLsbD n=true then xtn n b else 0)=(gmN a c n ^^^ gmN b c n) ^^^ ((if c.getLsbD n=true then xtn n a else 0) ^^^ (if c.getLsbD n=true then xtn n b else 0))from by ac_rfl,xtn_xor]
  cases c.getLsbD n<;>simp
theorem gmN_xt(a b:BitVec 8): ∀n,gmN (xt a) b n=xt (gmN a b n)
 |0=>show(0:BitVec 8)=xt 0 by decide
 |n+1=>by
  show gmN (xt a) b n ^^^ _=xt (gmN a b n ^^^ _);rw[gmN_xt a b n,xt_xor,xtn_xt]
  cases b.getLsbD n
  ·have:xt (0:BitVec 8)=0:=by decide
   simp only[Bool.false_eq_true,if_false];rw[this]
  ·simp
theorem gm_one_left: ∀b:BitVec 8,gm 1 b=b:=by decide+kernel
theorem gm_one_right: ∀a:BitVec 8,gm a 1=a:=by decide+kernel
def pw(n:Nat):BitVec 8:=xtn n 1
theorem gm_pw: ∀i b,gm (pw i) b=xtn i b
 |0,b=>gm_one_left b
 |i+1,b=>by
  show gmN (xt (pw i)) b 8=_;rw[gmN_xt];show xt (gm (pw i) b)=_;rw[gm_pw i b];rfl
theorem gm_pw_pw(i j:Nat):gm (pw i) (pw j)=pw (i+j):=by
 rw[gm_pw];unfold pw;rw[xtn_add]
theorem pw_255:pw 255=1:=by decide+kernel
theorem pw_add_255(n:Nat):pw (n+255)=pw n:=by
 unfold pw;rw[xtn_add];exact congrArg _ pw_255
def lgFrom(a:BitVec 8):Nat->Nat->BitVec 8->Nat
 |0,i,_=>i
 |f+1,i,p=>if p=a then i else lgFrom a f (i+1) (xt p)
def lg(a:BitVec 8):Nat:=lgFrom a 254 0 1
theorem lgFrom_le(a:BitVec 8): ∀f i p,lgFrom a f i p<=i+f
 |0,i,p=>Nat.le_refl _
 |f+1,i,p=>by
  unfold lgFrom
  split
  ·omega
  ·have:=lgFrom_le a f (i+1) (xt p);omega
theorem lg_le(a:BitVec 8):lg a<=254:=by have:=lgFrom_le a 254 0 1;unfold lg;omega
theorem pw_lg: ∀a:BitVec 8,a≠0->pw (lg a)=a:=by decide+kernel
theorem gm_zero_right(a:BitVec 8):gm a 0=0:=by
 have:=gmN_xor_right a 0 0 8;simpa[gm]using this
theorem gm_zero_left(b:BitVec 8):gm 0 b=0:=by
 have:=gmN_xor_left 0 0 b 8;simpa[gm]using this
theorem gm_comm(a b:BitVec 8):gm a b=gm b a:=by
 by_cases ha:a=0
 ·subst ha;rw[gm_zero_left,gm_zero_right]
 ·by_cases hb:b=0
  ·subst hb;rw[gm_zero_left,gm_zero_right]
  ·rw[<-pw_lg a ha,<-pw_lg b hb,gm_pw_pw,gm_pw_pw,Nat.add_comm]
theorem gm_assoc(a b c:BitVec 8):gm (gm a b) c=gm a (gm b c):=by
 by_cases ha:a=0
 ·subst ha;rw[gm_zero_left,gm_zero_left,gm_zero_left]
 ·by_cases hb:b=0
  ·subst hb;rw[gm_zero_right,gm_zero_left,gm_zero_right]
  ·by_cases hc:c=0
   ·subst hc;rw[gm_zero_right,gm_zero_right,gm_zero_right]
   ·rw[<-pw_lg a ha,<-pw_lg b hb,<-pw_lg c hc,gm_pw_pw,gm_pw_pw,gm_pw_pw,gm_pw_pw,Nat.add_assoc]
def ginv(a:BitVec 8):BitVec 8:=if a=0 then 0 else pw (255-lg a)
theorem gm_inv(a:BitVec 8)(h:a≠0):gm a (ginv a)=1:=by
 unfold ginv;have hl:=lg_le a;rw[if_neg h]
 conv=>lhs;arg 1;rw[<-pw_lg a h]
 rw[gm_pw_pw,show lg a+(255-lg a)=255 from by omega,pw_255]
instance:Mul El:=⟨fun a b=>⟨gm a.v b.v⟩⟩
def El.inv(a:El):El:=⟨ginv a.v⟩
theorem mul_comm(a b:El):a*b=b*a:=El.eq (gm_comm _ _)
theorem mul_assoc(a b c:El):a*b*c=a*(b*c):=El.eq (gm_assoc _ _ _)
instance:Std.Commutative (α:=El) (· * ·):=⟨mul_comm⟩
instance:Std.Associative (α:=El) (· * ·):=⟨mul_assoc⟩
theorem mul_left_comm(a b c:El):a*(b*c)=b*(a*c):=by ac_rfl
theorem mul_one(a:El):a*1=a:=El.eq (gm_one_right _)
theorem one_mul(a:El):1*a=a:=El.eq (gm_one_left _)
theorem mul_zero(a:El):a*0=0:=El.eq (gm_zero_right _)
theorem zero_mul(a:El):0*a=0:=El.eq (gm_zero_left _)
theorem mul_add(a b c:El):a*(b+c)=a*b+a*c:=El.eq (gmN_xor_right _ _ _ 8)
theorem add_mul(a b c:El):(a+b)*c=a*c+b*c:=El.eq (gmN_xor_left _ _ _ 8)
theorem one_ne_zero:(1:El)≠0:=by decide
theorem v_ne{a:El}(h:a≠0):a.v≠0:=fun e=>h (El.eq e)
theorem mul_inv{a:El}(h:a≠0):a*a.inv=1:=El.eq (gm_inv _ (v_ne h))
theorem inv_mul{a:El}(h:a≠0):a.inv*a=1:=by rw[mul_comm,mul_inv h]
theorem inv_ne{a:El}(h:a≠0):a.inv≠0:=fun e=>by
 have:=mul_inv h;rw[e,mul_zero]at this
 exact one_ne_zero this.symm
theorem inv_unique{a b:El}(h:a*b=1):b=a.inv:=by
 have ha:a≠0:=fun e=>by rw[e,zero_mul]at h;exact one_ne_zero h.symm
 rw[<-one_mul b,<-inv_mul ha,mul_assoc,h,mul_one]
end Go.Proofs.Ytnfemjnajfdepaa.M
namespace Go.Proofs.Ytnfemjnajfdepaa.M
open RowKit YtnfemjnajfdepaaW.PrintWords YtnfemjnajfdepaaW.PrintLast YtnfemjnajfdepaaW.PrintMore Q
theorem wi64{x:Nat}(h:x<2^63):IntKind.i64.wrap (x:Int)=(x:Int):=by
 rw[show IntKind.i64.wrap (x:Int)=wrap64 (x:Int)from i64_w _];exact w64 zaa zaa
theorem toNat64{a:Nat}(h:a<2^63):(BitVec.ofInt 64 (a:Int)).toNat=a:=by
 rw[BitVec.ofInt_natCast,BitVec.toNat_ofNat];exact Nat.mod_eq_of_lt zaa
theorem band64{a b:Nat}(ha:a<2^63)(hb:b<2^63):Go.bits .and .i64 (a:Int) (b:Int)=((a &&& b:Nat):Int):=by
 show IntKind.i64.wrap ((BitVec.ofInt 64 (a:Int) &&& BitVec.ofInt 64 (b:Int)).toNat:Int)=_;rw[BitVec.toNat_and,toNat64 ha,toNat64 hb];exact wi64 (Nat.lt_of_le_of_lt Nat.and_le_left ha)
theorem bxor64{a b:Nat}(ha:a<2^63)(hb:b<2^63):Go.bits .xor .i64 (a:Int) (b:Int)=((a ^^^ b:Nat):Int):=by
 show IntKind.i64.wrap ((BitVec.ofInt 64 (a:Int) ^^^ BitVec.ofInt 64 (b:Int)).toNat:Int)=_;rw[BitVec.toNat_xor,toNat64 ha,toNat64 hb];exact wi64 (Nat.xor_lt_two_pow ha hb)
theorem shr64{n i:Nat}(hi:i<=64):shr .i64 (n:Int) (i:Int)=((n >>> i:Nat):Int):=by
 unfold shr;have e:min (i:Int).toNat IntKind.i64.bits=i:=by simp[IntKind.bits];omega
 rw[e,Nat.shiftRight_eq_div_pow];simp
theorem shr8{n i:Nat}(hi:i<=8):shr .u8 (n:Int) (i:Int)=((n >>> i:Nat):Int):=by
 unfold shr;have e:min (i:Int).toNat IntKind.u8.bits=i:=by simp[IntKind.bits];omega
 rw[e,Nat.shiftRight_eq_div_pow];simp
theorem shl64{n i:Nat}(hn:n<2^16)(hi:i<=16):shl .i64 (n:Int) (i:Int)=((n <<< i:Nat):Int):=by
 unfold shl;have e:min (i:Int).toNat IntKind.i64.bits=i:=by simp[IntKind.bits];omega
 rw[e,Nat.shiftLeft_eq];have h:n*2^i<2^63:=Nat.lt_of_lt_of_le (Nat.mul_lt_mul_of_lt_of_le hn (Nat.pow_le_pow_right zab hi) zab) zab;rw[show((n:Int)*2^i)=((n*2^i:Nat):Int)from by simp];exact wi64 h
theorem and_one(n i:Nat):(((n >>> i) &&& 1:Nat):Int)=1↔n.testBit i=true:=by
 unfold Nat.testBit;rw[Nat.and_comm 1 (n >>> i),bne_iff_ne,Nat.and_one_is_mod];omega
theorem bit64{n i:Nat}(hn:n<2^63)(hi:i<=64):(Go.bits .and .i64 (shr .i64 (n:Int) (i:Int)) 1=1)↔n.testBit i=true:=by
 rw[shr64 hi,show(1:Int)=((1:Nat):Int)from rfl,band64 (Nat.lt_of_le_of_lt (Nat.shiftRight_le _ _) hn) zab];exact and_one n i
theorem bit8{n i:Nat}(hn:n<256)(hi:i<=8):(Go.bits .and .u8 (shr .u8 (n:Int) (i:Int)) 1=1)↔n.testBit i=true:=by
 rw[shr8 hi];have h1:n >>> i<256:=Nat.lt_of_le_of_lt (Nat.shiftRight_le _ _) hn;have e:Go.bits .and .u8 ((n >>> i:Nat):Int) 1=(((n >>> i) &&& 1:Nat):Int):=by
  show IntKind.u8.wrap ((BitVec.ofInt 8 ((n >>> i:Nat):Int) &&& BitVec.ofInt 8 ((1:Nat):Int)).toNat:Int)=_;rw[BitVec.toNat_and,BitVec.ofInt_natCast,BitVec.ofInt_natCast,BitVec.toNat_ofNat,BitVec.toNat_ofNat,Nat.mod_eq_of_lt (by omega:n >>> i<2^8),show 1 % 2^8=1 from rfl];have:(n >>> i) &&& 1<=1:=Nat.and_le_right;rw[IntKind.wrap_u8];omega
 rw[e];exact and_one n i
def acc(a b:Nat):Nat->Nat
 |0=>0
 |i+1=>if b.testBit i then acc a b i ^^^ (a <<< i)else acc a b i
def rst(i p:Nat):Nat:=if p.testBit (i+8)then p ^^^ (285 <<< i)else p
def red:Nat->Nat->Nat
 |0,p=>p
 |i+1,p=>red i (rst i p)
theorem rst_xor(i x y:Nat):rst i (x ^^^ y)=rst i x ^^^ rst i y:=by
 unfold rst;rw[Nat.testBit_xor]
 cases x.testBit (i+8)<;>cases y.testBit (i+8)<;>simp
 ·rw[Nat.xor_assoc]
 ·rw[Nat.xor_assoc,Nat.xor_comm y,Nat.xor_assoc]
 ·rw[Nat.xor_assoc,Nat.xor_comm (285 <<< i),Nat.xor_assoc,Nat.xor_self,Nat.xor_zero]
theorem red_xor: ∀i x y,red i (x ^^^ y)=red i x ^^^ red i y
 |0,_,_=>rfl
 |i+1,x,y=>by unfold red;rw[rst_xor,red_xor i]
theorem red_zero: ∀i,red i 0=0
 |0=>rfl
 |i+1=>by unfold red rst;simp[red_zero i]
theorem red_shl: ∀a:BitVec 8,∀i:Fin 8,red 7 (a.toNat <<< i.val)=(xtn i.val a).toNat:=by decide+kernel
theorem acc_lt{a b:Nat}(ha:a<256): ∀i,i<=8->acc a b i<2^16
 |0,_=>by unfold acc;decide
 |i+1,h=>by
  unfold acc
  split
  ·refine Nat.xor_lt_two_pow (acc_lt ha i zaa) ?_;rw[Nat.shiftLeft_eq];exact Nat.lt_of_lt_of_le (Nat.mul_lt_mul_of_lt_of_le ha (Nat.pow_le_pow_right zab (by omega:i<=8)) zab) zab
  ·exact acc_lt ha i zaa
theorem red_acc(a b:BitVec 8): ∀i,i<=8->red 7 (acc a.toNat b.toNat i)=(gmN a b i).toNat
 |0,_=>by unfold acc gmN;rw[red_zero];rfl
 |i+1,h=>by
  unfold acc gmN;have e:b.getLsbD i=b.toNat.testBit i:=rfl;rw[e]
  split
  ·rw[red_xor,red_acc a b i zaa,red_shl a ⟨i,by omega⟩];simp
  ·rw[red_acc a b i zaa];simp
theorem rst_lt{i p:Nat}(hp:p<2^16)(hi:i<=7):rst i p<2^16:=by
 unfold rst
 split
 ·refine Nat.xor_lt_two_pow hp ?_;rw[Nat.shiftLeft_eq];exact Nat.lt_of_lt_of_le (Nat.mul_lt_mul_of_lt_of_le (by decide:285<512) (Nat.pow_le_pow_right zab hi) zab) zab
 ·exact hp
theorem Mul_l1: ∀i p:Nat,i<=7->p<2^16->Ends (fun k=>recoupref01_Mul.l1 k (p:Int) ((i:Int)+7)) (((red i p) % 256:Nat):Int)
 |0,p,_,_=>Ends.succ (fun k=>by rw[recoupref01_Mul.l1]) (Ends.neg zaa (Ends.const (by unfold red;simp)))
 |i+1,p,hi,hp=>by
  refine Ends.succ (fun k=>by rw[recoupref01_Mul.l1]) (Ends.pos zaa ?_);have e0:((i+1:Nat):Int)+7=((i+8:Nat):Int):=by omega
  have e1:IntKind.u64.wrap (((i+1:Nat):Int)+7)=((i+8:Nat):Int):=by rw[e0];exact wu64 zaa zaa
  have e2:wrap64 (((i+1:Nat):Int)+7-1)=(i:Int)+7:=by rw[w64 zaa zaa];omega
  have e3:IntKind.u64.wrap (wrap64 (((i+1:Nat):Int)+7-8))=(i:Int):=by rw[w64 zaa zaa,wu64 zaa zaa];omega
  rw[e1,e2,e3];refine Ends.pos (Int.natCast_nonneg _) ?_;have hb:=bit64 (n:=p) (i:=i+8) zaa zaa;by_cases h:p.testBit (i+8)=true
  case neg=>
   refine Ends.neg (fun e=>h (hb.1 e)) ?_;have e4:rst i p=p:=by unfold rst;rw[if_neg h]
   have:=Mul_l1 i p zaa hp;unfold red;rw[e4];exact this
  refine Ends.pos (hb.2 h) (Ends.pos (Int.natCast_nonneg _) ?_);have e4:Go.bits .xor .i64 (p:Int) (shl .i64 285 (i:Int))=((rst i p:Nat):Int):=by
   rw[show(285:Int)=((285:Nat):Int)from rfl,shl64 zab zaa,bxor64 zaa (by
    rw[Nat.shiftLeft_eq];exact Nat.lt_of_lt_of_le (Nat.mul_lt_mul_of_lt_of_le (by decide:285<512) (Nat.pow_le_pow_right zab (by omega:i<=7)) zab) zab)]
   unfold rst;rw[if_pos h]
  rw[e4];exact Mul_l1 i (rst i p) zaa (rst_lt hp zaa)
theorem Mul_l0{a b:Nat}(ha:a<256)(hb:b<256): ∀n i:Nat,i+n=8->Ends (fun k=>recoupref01_Mul.l0 k (a:Int) (b:Int) ((acc a b i:Nat):Int) (i:Int)) (((red 7 (acc a b 8)) % 256:Nat):Int)
 |0,i,h=>by
  obtain rfl:i=8:=by omega
  refine Ends.succ (fun k=>by rw[recoupref01_Mul.l0]) (Ends.neg zab ?_);exact Mul_l1 7 _ zaa (acc_lt ha 8 (Nat.le_refl _))
 |n+1,i,h=>by
  refine Ends.succ (fun k=>by rw[recoupref01_Mul.l0]) (Ends.pos zaa ?_);have e1:IntKind.u64.wrap (i:Int)=(i:Int):=wu64 zaa zaa;have e2:wrap64 ((i:Int)+1)=((i+1:Nat):Int):=by rw[w64 zaa zaa];omega
  rw[e1,e2];refine Ends.pos (Int.natCast_nonneg _) ?_;have hbt:=bit8 (n:=b) (i:=i) hb zaa;have ih:=Mul_l0 ha hb n (i+1) zaa;by_cases h1:b.testBit i=true
  case neg=>
   refine Ends.neg (fun e=>h1 (hbt.1 e)) ?_
   have e4:acc a b (i+1)=acc a b i:=by conv=>lhs;rw[acc]
                                       rw[if_neg h1]
   rw[e4]at ih
   exact ih
  refine Ends.pos (hbt.2 h1) ?_;have e4:Go.bits .xor .i64 ((acc a b i:Nat):Int) (shl .i64 (wrap64 (a:Int)) (i:Int))=((acc a b (i+1):Nat):Int):=by
   rw[w64 zaa zaa,shl64 zaa zaa,bxor64 (by have:=acc_lt (b:=b) ha i zaa;omega) (by
    rw[Nat.shiftLeft_eq];exact Nat.lt_of_lt_of_le (Nat.mul_lt_mul_of_lt_of_le ha (Nat.pow_le_pow_right zab (by omega:i<=8)) zab) zab)]
   conv=>rhs;rw[acc]
   rw[if_pos h1]
  rw[e4];exact ih
def toE(x:Int):El:=⟨BitVec.ofInt 8 x⟩
def ofE(e:El):Int:=((e.v.toNat:Nat):Int)
theorem ofE_toE{x:Int}(h:0<=x/\x<256):ofE (toE x)=x:=by
 obtain⟨n,rfl⟩:=Int.eq_ofNat_of_zero_le h.1;unfold ofE toE;rw[BitVec.ofInt_natCast,BitVec.toNat_ofNat,Nat.mod_eq_of_lt zaa]
theorem toE_inj{x y:Int}(hx:0<=x/\x<256)(hy:0<=y/\y<256)(h:toE x=toE y):x=y:=by rw[<-ofE_toE hx,<-ofE_toE hy,h]
theorem Mul_ends{a b:Int}(ha:0<=a/\a<256)(hb:0<=b/\b<256):Ends (fun k=>recoupref01_Mul.f k a b) (ofE (toE a*toE b)):=by
 obtain⟨x,rfl⟩:=Int.eq_ofNat_of_zero_le ha.1;obtain⟨y,rfl⟩:=Int.eq_ofNat_of_zero_le hb.1;have hx:x<256:=by omega
 have hy:y<256:=by omega
 have h:=Mul_l0 hx hy 8 0 rfl;have e:=red_acc (BitVec.ofNat 8 x) (BitVec.ofNat 8 y) 8 (Nat.le_refl _);rw[BitVec.toNat_ofNat,BitVec.toNat_ofNat,Nat.mod_eq_of_lt (by omega:x<2^8),Nat.mod_eq_of_lt (by omega:y<2^8)]at e
 refine Ends.eq h ?_;rw[e,Nat.mod_eq_of_lt (gmN _ _ 8).isLt];unfold ofE toE;rw[BitVec.ofInt_natCast,BitVec.ofInt_natCast];rfl
theorem xor_el{a b:Int} :toE (Go.bits .xor .u8 a b)=toE a+toE b:=by
 refine El.eq ?_;show BitVec.ofInt 8 (IntKind.u8.wrap ((BitVec.ofInt 8 a ^^^ BitVec.ofInt 8 b).toNat:Int))=BitVec.ofInt 8 a ^^^ BitVec.ofInt 8 b;have h:=(BitVec.ofInt 8 a ^^^ BitVec.ofInt 8 b).isLt;rw[IntKind.wrap_u8,Int.emod_eq_of_lt zaa zaa,BitVec.ofInt_natCast,BitVec.ofNat_toNat,BitVec.setWidth_eq]
def el2:El:=⟨2#8⟩
theorem dbl_all: ∀a:Fin 256,toE (field_build.dbl (a.val:Int))=el2*toE (a.val:Int)/\0<=field_build.dbl (a.val:Int)/\field_build.dbl (a.val:Int)<256:=by decide+kernel
theorem half_all: ∀b:Fin 256,toE (b.val:Int)=el2*toE ((b.val:Int) / 2)+(if Go.bits .and .u8 (b.val:Int) 1=0 then 0 else 1):=by decide+kernel
theorem dbl_el{a:Int}(h:0<=a/\a<256):toE (field_build.dbl a)=el2*toE a/\0<=field_build.dbl a/\field_build.dbl a<256:=by
 obtain⟨n,rfl⟩:=Int.eq_ofNat_of_zero_le h.1;exact dbl_all ⟨n,by omega⟩
theorem half_el{b:Int}(h:0<=b/\b<256):toE b=el2*toE (b / 2)+(if Go.bits .and .u8 b 1=0 then 0 else 1):=by
 obtain⟨n,rfl⟩:=Int.eq_ofNat_of_zero_le h.1;exact half_all ⟨n,by omega⟩
theorem toE_zero:toE 0=0:=rfl
theorem toE_ne{a:Int}(h:0<=a/\a<256)(h0:a≠0):toE a≠0:=fun e=>h0 (toE_inj h zaa (e.trans toE_zero.symm))
theorem Mul_l0_el: ∀(k:Nat) (a b p r:Int),0<=a/\a<256->0<=b/\b<256->field_Mul.l0 k a b p=some r->toE r=toE p+toE a*toE b
 |0,a,b,p,r,_,_,h=>by unfold field_Mul.l0 at h;cases h
 |k+1,a,b,p,r,ha,hb,h=>by
  unfold field_Mul.l0 at h;by_cases e:b=0
  ·rw[if_pos e]at h
   obtain rfl:p=r:=by simpa using h
   rw[e,toE_zero,mul_zero,add_zero]
  rw[if_neg e,field_build.dbl_call,Option.bind_some,Option.bind_some]at h
  obtain⟨hd,G,I⟩:=dbl_el ha;have hh:=half_el hb;have D:0<=b / 2/\b / 2<256:=by omega
  by_cases e2:Go.bits .and .u8 b 1=0
  case neg=>rw[if_neg e2]at h hh;have ih:=Mul_l0_el k _ _ _ _ ⟨G,I⟩ D h;rw[ih,hd,hh,xor_el,mul_add,mul_one,mul_comm el2 (toE a),mul_assoc,add_assoc,add_comm (toE a) (toE a*_)]
  rw[if_pos e2]at h hh
  have ih:=Mul_l0_el k _ _ _ _ ⟨G,I⟩ D h;rw[ih,hd,hh,add_zero,mul_comm el2 (toE a),mul_assoc]
theorem mulB_el{a b:Int}(ha:0<=a/\a<256)(hb:0<=b/\b<256):toE (mulB a b)=toE a*toE b:=by
 have:=Mul_l0_el 9 a b 0 (mulB a b) ha hb (mulB_some hb).1;rw[this,toE_zero,zero_add]
theorem mulB_ends{a b:Int}(ha:0<=a/\a<256)(hb:0<=b/\b<256):Ends (fun k=>recoupref01_Mul.f k a b) (mulB a b):=by
 refine Ends.eq (Mul_ends ha hb) ?_;rw[<-mulB_el ha hb,ofE_toE (mulB_some hb).2]
theorem exps_ok:(field_build.st 255).1=(List.range 510).map fun i=>((pw i).toNat:Int):=by decide+kernel
theorem logs_ok:((List.zip (field_build.st 255).2.1 (List.range 256)).all fun x=>x.2==0||(pw x.1.toNat).toNat==x.2)=true:=by decide+kernel
theorem exp_el{n:Nat}(h:n<510):toE (field_build.exp n)=⟨pw n⟩:=by
 unfold field_build.exp;rw[exps_ok,List.getD_eq_getElem?_getD,List.getElem?_map,List.getElem?_range h];refine El.eq ?_;unfold toE;simp[BitVec.ofInt_natCast]
theorem log_el{a:Int}(h:0<=a/\a<256)(h0:a≠0):(⟨pw (field_build.log a.toNat).toNat⟩:El)=toE a:=by
 obtain⟨n,rfl⟩:=Int.eq_ofNat_of_zero_le h.1;have hn:n<256:=by omega
 have hl:n<(field_build.st 255).2.1.length:=by rw[(field_build.st_length 255).2];exact hn
 have hz:n<(List.zip (field_build.st 255).2.1 (List.range 256)).length:=by rw[List.length_zip,List.length_range];omega
 have:=List.all_eq_true.1 logs_ok _ (List.getElem_mem hz);rw[List.getElem_zip,List.getElem_range]at this
 simp only[Bool.or_eq_true,beq_iff_eq]at this;rcases this with e|e
 ·exact absurd (by rw[e];rfl) h0
 ·refine El.eq ?_;unfold field_build.log toE;rw[Int.toNat_natCast,List.getD_eq_getElem?_getD,List.getElem?_eq_getElem hl,Option.getD_some,BitVec.ofInt_natCast];refine BitVec.eq_of_toNat_eq ?_;rw[e,BitVec.toNat_ofNat,Nat.mod_eq_of_lt zaa]
theorem pw_255k: ∀k,pw (255*k)=1
 |0=>rfl
 |k+1=>by rw[Nat.mul_succ,pw_add_255,pw_255k k]
theorem invT_el{a:Int}(ha:0<=a/\a<256)(h0:a≠0):toE (invT a)=(toE a).inv:=by
 have e:field_bounded.f (-1)=some 254:=by kernel_rfl
 have e2:field_Inv.f a=some (field_build.exp ((field_build.log a.toNat*254) % 255).toNat,0):=by
  unfold field_Inv.f field_Pow.f;rw[if_neg zaa,if_neg h0,if_pos ha,e];simp
 have e3:invT a=field_build.exp ((field_build.log a.toNat*254) % 255).toNat:=by unfold invT;rw[e2,Option.getD_some]
 rw[e3];obtain⟨x0,x1⟩:=field_build.log_range (i:=a.toNat) zaa;rw[exp_el zaa,<-log_el ha h0];obtain⟨n,hn⟩:=Int.eq_ofNat_of_zero_le x0;rw[hn,Int.toNat_natCast];refine inv_unique (El.eq ?_);show gm (pw n) (pw _)=1;rw[gm_pw_pw];have:n+(((n:Int)*254) % 255).toNat=255*((n+(((n:Int)*254) % 255).toNat) / 255):=by omega
 rw[this];exact pw_255k _
theorem invT_range{a:Int}(ha:0<=a/\a<256)(h0:a≠0):0<=invT a/\invT a<256:=(inv_some ha h0).2
theorem invAt_eq{a:Int}(ha:0<=a/\a<256)(h0:a≠0):invAt a=invT a:=by
 obtain⟨n,rfl⟩:=Int.eq_ofNat_of_zero_le ha.1;have hn:n<256:=by omega
 unfold invAt;rw[Int.toNat_natCast,List.getD_eq_getElem?_getD,List.getElem?_eq_getElem (by rw[invTo_length];exact hn),Option.getD_some];rw[invTo_get hn,if_pos zaa]
theorem Inv_from{a:Int}(ha:0<=a/\a<256)(h0:a≠0): ∀n x:Nat,x+n=(invT a).toNat->1<=x->Ends (fun k=>recoupref01_Inv.l0 k a (x:Int)) (invT a,0)
 |n,x,h,hx=>by
  obtain⟨r0,r1⟩:=invT_range ha h0;have hlt:x<256:=by omega
  refine Ends.succ (fun k=>by rw[recoupref01_Inv.l0]) (Ends.pos zaa ?_);have e1:(x:Int) % 256=(x:Int):=by omega
  rw[e1];refine Ends.bind (mulB_ends ha (b:=(x:Int)) zaa) ?_
  cases n with
  |zero=>
   have hxi:(x:Int)=invT a:=by omega
   refine Ends.pos ?_ (Ends.const (by rw[hxi]));rw[hxi];refine toE_inj (mulB_some ⟨r0,r1⟩).2 zaa ?_;rw[mulB_el ha ⟨r0,r1⟩,invT_el ha h0,mul_inv (toE_ne ha h0)];rfl
  |succ n=>
   refine Ends.neg ?_ ?_
   ·intro e;have hb:0<=(x:Int)/\(x:Int)<256:=by omega
    have:=mulB_el ha hb;rw[e]at this
    have h2:=inv_unique this.symm;rw[<-invT_el ha h0]at h2
    have:=toE_inj hb ⟨r0,r1⟩ h2;omega
   ·have e2:wrap64 ((x:Int)+1)=((x+1:Nat):Int):=by rw[w64 zaa zaa];omega
    rw[e2];exact Inv_from ha h0 n (x+1) zaa zaa
theorem Inv_ends{a:Int}(ha:0<=a/\a<256)(h0:a≠0):Ends (fun k=>recoupref01_Inv.f k a) (invT a,0):=by
 have hr:=invT_range ha h0;have hn:invT a≠0:=by
  intro e;have:=invT_el ha h0;rw[e,toE_zero]at this
  exact inv_ne (toE_ne ha h0) this.symm
 have:=Inv_from ha h0 ((invT a).toNat-1) 1 zaa (Nat.le_refl _);exact this
theorem ratio_iff{a b r:Int}(ha:0<=a/\a<256)(h0:a≠0)(hb:0<=b/\b<256)(hr:0<=r/\r<256):mulB b (invAt a)=r↔mulB a r=b:=by
 have hi:=invT_range ha h0;rw[invAt_eq ha h0];constructor
 ·rintro rfl;refine toE_inj (mulB_some hr).2 hb ?_;rw[mulB_el ha hr,mulB_el hb hi,invT_el ha h0,mul_left_comm,mul_inv (toE_ne ha h0),mul_one]
 ·rintro rfl;refine toE_inj (mulB_some hi).2 hr ?_;rw[mulB_el (mulB_some hr).2 hi,mulB_el ha hr,invT_el ha h0,mul_comm (toE a) (toE r),mul_assoc,mul_inv (toE_ne ha h0),mul_one]
def insOk:Int->List Int->Bool
 |_,[]=>true
 |last,b::r=>(decide (last<b)&&decide (b<64))&&insOk b r
def termsOk(own:Int):Int->List S61->Bool
 |_,[]=>true
 |last,t::r=>((decide (last<t.f0)&&decide (t.f0<own))&&decide (t.f1≠0))&&termsOk own t.f0 r
def nodesOk:Int->List (List S61)->Bool
 |_,[]=>true
 |n,l::r=>termsOk n (-1) l&&nodesOk (n+1) r
def outsOk(m:Int)(l:List Int):Bool:=l.all fun v=>decide (0<=v)&&decide (v<m)
def sizeOk(L:List (List S61))(outs:List Int):Bool:=decide (L.length<=4096)&&decide (outs.length<=64)
def mayB(ins:List Int)(L:List (List S61))(outs:List Int):Bool:=insOk (-1) ins&&(sizeOk L outs&&(nodesOk ins.length L&&outsOk (ins.length+L.length) outs))
theorem rd_at{l:List Int}{i:Nat}(h:i<l.length):rd l (i:Int)=l[i]:=by rw[rd_nat];simp[List.getD_eq_getElem?_getD,h]
theorem rdL_at{L:List (List S61)}{i:Nat}(h:i<L.length):rd_L5 L (i:Int)=L[i]:=by simp[rd_L5,List.getD_eq_getElem?_getD,h]
theorem step64{i:Nat}(h:i<4611686018427387904):wrap64 ((i:Int)+1)=((i+1:Nat):Int):=by rw[w64 zaa zaa];omega
theorem terms_l0{l:List S61}{own:Int}(hl:l.length<=140737488355328): ∀n i:Nat,i+n=l.length-> ∀last:Int,Ends (fun k=>flow_terms.l0 k own last l (l.length:Int) (i:Int)) (termsOk own last (l.drop i))
 |0,i,h,last=>by
  refine Ends.succ (fun k=>by rw[flow_terms.l0]) (Ends.neg zaa (Ends.const ?_));rw[List.drop_eq_nil_of_le zaa];rfl
 |n+1,i,h,last=>by
  have hi:i<l.length:=by omega
  refine Ends.succ (fun k=>by rw[flow_terms.l0]) (Ends.pos zaa (Ends.pos zaa (Ends.pos zaa ?_)));rw[rd_T61_eq hi,step64 zaa,List.drop_eq_getElem_cons hi];unfold termsOk;by_cases h1:l[i].f0<=last
  ·exact Ends.pos h1 (Ends.const (by rw[decide_eq_false (by omega: ¬last<l[i].f0)];rfl))
  ·refine Ends.neg h1 ?_;by_cases h2:l[i].f0>=own
   ·exact Ends.pos h2 (Ends.const (by rw[decide_eq_false (by omega: ¬l[i].f0<own),Bool.and_false];rfl))
   ·refine Ends.neg h2 ?_;by_cases h3:l[i].f1=0
    ·exact Ends.pos h3 (Ends.const (by rw[decide_eq_false (fun e=>e h3: ¬l[i].f1≠0),Bool.and_false];rfl))
    ·refine Ends.neg h3 (Ends.eq (terms_l0 hl n (i+1) zaa _) ?_);rw[decide_eq_true (by omega:last<l[i].f0),decide_eq_true (by omega:l[i].f0<own),decide_eq_true h3];rfl
theorem any_all{p q:Int->Bool}(h: ∀v,(!p v)=q v): ∀l:List Int,(!l.any p)=l.all q
 | []=>rfl
 |x::l=>by rw[List.any_cons,List.all_cons,Bool.not_or,h,any_all h l]
theorem flow_l1{ins outs:List Int}{L:List (List S61)}(hi:ins.length<=140737488355328)(ho:outs.length<=140737488355328)(hL:L.length<=4096)(hl: ∀l∈L,l.length<=140737488355328): ∀n i:Nat,i+n=L.length->Ends (fun k=>flow_May.l1 k (ins.length:Int) L (L.length:Int) (i:Int) ins L outs) (nodesOk ((ins.length:Int)+(i:Int)) (L.drop i)&&outsOk (ins.length+L.length) outs)
 |0,i,h=>by
  refine Ends.succ (fun k=>by rw[flow_May.l1]) (Ends.neg zaa (Ends.const ?_));rw[List.drop_eq_nil_of_le zaa];unfold slices_ContainsFunc_int_int.f;rw[if_pos ho,Option.bind_some,w64 zaa zaa];unfold nodesOk outsOk;rw[Bool.true_and];refine congrArg some (any_all (fun v=>?_) outs);by_cases h1:v<0
  ·rw[decide_eq_true h1,decide_eq_false (by omega: ¬0<=v)];rfl
  ·rw[decide_eq_false h1,decide_eq_true (by omega:0<=v)];by_cases h2:(ins.length:Int)+(L.length:Int)<=v
   ·rw[decide_eq_true h2,decide_eq_false (by omega: ¬v<(ins.length:Int)+(L.length:Int))];rfl
   ·rw[decide_eq_false h2,decide_eq_true (by omega:v<(ins.length:Int)+(L.length:Int))];rfl
 |n+1,i,h=>by
  have D:i<L.length:=by omega
  refine Ends.succ (fun k=>by rw[flow_May.l1]) (Ends.pos zaa (Ends.pos zaa (Ends.pos zaa ?_)));rw[rdL_at D,step64 zaa,List.drop_eq_getElem_cons D,w64 zaa zaa];unfold nodesOk;have ht:=terms_l0 (own:=(ins.length:Int)+(i:Int)) (hl L[i] (List.getElem_mem D)) _ 0 (Nat.zero_add _) (-1);rw[List.drop_zero]at ht
  refine Ends.bind ht ?_
  cases e:termsOk ((ins.length:Int)+(i:Int)) (-1) L[i]
  ·exact Ends.neg zab (Ends.const rfl)
  ·refine Ends.pos rfl (Ends.eq (flow_l1 hi ho hL hl n (i+1) zaa) ?_);rw[Bool.true_and,show(ins.length:Int)+((i+1:Nat):Int)=(ins.length:Int)+(i:Int)+1 from by omega]
theorem flow_j1{ins outs:List Int}{L:List (List S61)}(hi:ins.length<=140737488355328)(ho:outs.length<=140737488355328)(hl: ∀l∈L,l.length<=140737488355328):
 Ends (fun k=>if(L.length:Int)>4096 then flow_May.j1 k (ins.length:Int) true ins L outs else flow_May.j1 k (ins.length:Int) (decide ((outs.length:Int)>64)) ins L outs) (sizeOk L outs&&(nodesOk ins.length L&&outsOk (ins.length+L.length) outs)):=by
 unfold sizeOk;by_cases h:L.length<=4096
 ·refine Ends.neg zaa (Ends.succ (fun k=>by rw[flow_May.j1]) ?_);rw[decide_eq_true h];by_cases h2:outs.length<=64
  ·rw[decide_eq_true h2,decide_eq_false (by omega: ¬(outs.length:Int)>64)];refine Ends.neg zab (Ends.eq (flow_l1 hi ho h hl _ 0 (Nat.zero_add _)) ?_);rw[List.drop_zero,Int.natCast_zero,Int.add_zero];rfl
  ·rw[decide_eq_false h2,decide_eq_true (by omega:(outs.length:Int)>64)];exact Ends.pos rfl (Ends.const rfl)
 ·refine Ends.pos zaa (Ends.succ (fun k=>by rw[flow_May.j1]) ?_);rw[decide_eq_false h];exact Ends.pos rfl (Ends.const rfl)
theorem flow_l0{ins outs:List Int}{L:List (List S61)}(hi:ins.length<=140737488355328)(ho:outs.length<=140737488355328)(hl: ∀l∈L,l.length<=140737488355328): ∀n i:Nat,i+n=ins.length-> ∀last:Int,Ends (fun k=>flow_May.l0 k last ins (ins.length:Int) (i:Int) ins L outs) (insOk last (ins.drop i)&&(sizeOk L outs&&(nodesOk ins.length L&&outsOk (ins.length+L.length) outs)))
 |0,i,h,last=>by
  refine Ends.succ (fun k=>by rw[flow_May.l0]) (Ends.neg zaa (Ends.eq (flow_j1 hi ho hl) ?_));rw[List.drop_eq_nil_of_le zaa];rfl
 |n+1,i,h,last=>by
  have D:i<ins.length:=by omega
  refine Ends.succ (fun k=>by rw[flow_May.l0]) (Ends.pos zaa (Ends.pos zaa (Ends.pos zaa ?_)));rw[rd_at D,step64 zaa,List.drop_eq_getElem_cons D];unfold insOk;by_cases h1:ins[i]<=last
  ·exact Ends.pos h1 (Ends.const (by rw[decide_eq_false (by omega: ¬last<ins[i])];rfl))
  ·refine Ends.neg h1 ?_;by_cases h2:ins[i]>=64
   ·exact Ends.pos h2 (Ends.const zcd)
   ·refine Ends.neg h2 (Ends.eq (flow_l0 hi ho hl n (i+1) zaa _) ?_);rw[decide_eq_true (by omega:last<ins[i]),decide_eq_true (by omega:ins[i]<64)];rfl
theorem flow_May_ends{ins outs:List Int}{L:List (List S61)}(hi:ins.length<=140737488355328)(ho:outs.length<=140737488355328)(hl: ∀l∈L,l.length<=140737488355328):Ends (fun k=>flow_May.f k ins L outs) (mayB ins L outs):=
 flow_l0 hi ho hl _ 0 (Nat.zero_add _) (-1)
theorem ref_l3{ins outs:List Int}{L:List (List S61)}(hi:ins.length<=140737488355328)(ho:outs.length<=140737488355328)(hL:L.length<=4096): ∀n i:Nat,i+n=outs.length->Ends (fun k=>recoupref21_May.l3 k (i:Int) ins L outs) (outsOk (ins.length+L.length) (outs.drop i))
 |0,i,h=>by
  refine Ends.succ (fun k=>by rw[recoupref21_May.l3]) (Ends.neg zaa (Ends.const ?_));rw[List.drop_eq_nil_of_le zaa];rfl
 |n+1,i,h=>by
  have D:i<outs.length:=by omega
  refine Ends.succ (fun k=>by rw[recoupref21_May.l3]) (Ends.pos zaa (Ends.pos zaa ?_));rw[rd_at D,step64 zaa,List.drop_eq_getElem_cons D,w64 zaa zaa];unfold outsOk;rw[List.all_cons];by_cases h1:outs[i]<0
  ·exact Ends.pos h1 (Ends.const (by rw[decide_eq_false (by omega: ¬0<=outs[i])];rfl))
  ·refine Ends.neg h1 ?_;by_cases h2:outs[i]>=(ins.length:Int)+(L.length:Int)
   ·exact Ends.pos h2 (Ends.const (by rw[decide_eq_false (by omega: ¬outs[i]<(ins.length:Int)+(L.length:Int)),Bool.and_false];rfl))
   ·refine Ends.neg h2 (Ends.eq (ref_l3 hi ho hL n (i+1) zaa) ?_);rw[decide_eq_true (by omega:0<=outs[i]),decide_eq_true (by omega:outs[i]<(ins.length:Int)+(L.length:Int))];rfl
theorem ref_l2{ins outs:List Int}{L:List (List S61)}(hi:ins.length<=140737488355328)(hL:L.length<=4096)(hl: ∀l∈L,l.length<=140737488355328){m:Nat}(hm:m<L.length){X:Bool}(hX:Ends (fun k=>recoupref21_May.l1 k ((m+1:Nat):Int) ins L outs) X): ∀n i:Nat,i+n=L[m].length-> ∀last:Int,((i=0/\last= -1)∨ ∃h:i-1<L[m].length,0<i/\last=L[m][i-1].f0/\0<=last)->Ends (fun k=>recoupref21_May.l2 k (m:Int) (i:Int) ins L outs) (termsOk ((ins.length:Int)+(m:Int)) last (L[m].drop i)&&X)
 |0,i,h,last,hlast=>by
  refine Ends.succ (fun k=>by rw[recoupref21_May.l2]) (Ends.pos zaa (Ends.pos zaa ?_));rw[rdL_at hm];refine Ends.neg zaa ?_;rw[List.drop_eq_nil_of_le zaa,step64 zaa];exact hX
 |n+1,i,h,last,hlast=>by
  have D:i<L[m].length:=by omega
  have hlm:=hl L[m] (List.getElem_mem hm);refine Ends.succ (fun k=>by rw[recoupref21_May.l2]) (Ends.pos zaa (Ends.pos zaa ?_));rw[rdL_at hm];refine Ends.pos zaa (Ends.pos zaa ?_);rw[rd_T61_eq D,step64 zaa,List.drop_eq_getElem_cons D,w64 (x:=(ins.length:Int)+(m:Int)) zaa zaa];unfold termsOk;by_cases h3:L[m][i].f1=0
  ·exact Ends.pos h3 (Ends.const (by rw[decide_eq_false (fun e=>e h3: ¬L[m][i].f1≠0),Bool.and_false];rfl))
  ·refine Ends.neg h3 ?_;by_cases h4:L[m][i].f0<0
   ·refine Ends.pos h4 (Ends.const ?_);have hge: -1<=last:=by rcases hlast with⟨_,h⟩|⟨_,_,_,h⟩<;>omega
    clear hlast;rw[decide_eq_false (by omega: ¬last<L[m][i].f0)];rfl
   ·refine Ends.neg h4 ?_;by_cases h2:L[m][i].f0>=(ins.length:Int)+(m:Int)
    ·exact Ends.pos h2 (Ends.const (by rw[decide_eq_false (by omega: ¬L[m][i].f0<(ins.length:Int)+(m:Int)),Bool.and_false];rfl))
    ·refine Ends.neg h2 ?_;rw[decide_eq_true (by omega:L[m][i].f0<(ins.length:Int)+(m:Int)),decide_eq_true h3];have ih:=ref_l2 hi hL hl hm hX n (i+1) zaa L[m][i].f0 (.inr ⟨D,by omega,rfl,by omega⟩);rcases hlast with⟨rfl,rfl⟩|⟨hp,h0,rfl,hge⟩
     ·refine Ends.neg zaa (Ends.eq ih ?_);rw[decide_eq_true (by omega:(-1:Int)<L[m][0].f0)];rfl
     ·refine Ends.pos zaa ?_;have e:wrap64 ((i:Int)-1)=((i-1:Nat):Int):=by rw[w64 zaa zaa];omega
      rw[e];refine Ends.pos zaa (Ends.pos zaa ?_);rw[rd_T61_eq hp];by_cases h1:L[m][i].f0<=L[m][i-1].f0
      ·exact Ends.pos h1 (Ends.const (by rw[decide_eq_false (by omega: ¬L[m][i-1].f0<L[m][i].f0)];rfl))
      ·refine Ends.neg h1 (Ends.eq ih ?_);rw[decide_eq_true (by omega:L[m][i-1].f0<L[m][i].f0)];rfl
theorem ref_l1{ins outs:List Int}{L:List (List S61)}(hi:ins.length<=140737488355328)(ho:outs.length<=140737488355328)(hL:L.length<=4096)(hl: ∀l∈L,l.length<=140737488355328): ∀n i:Nat,i+n=L.length->Ends (fun k=>recoupref21_May.l1 k (i:Int) ins L outs) (nodesOk ((ins.length:Int)+(i:Int)) (L.drop i)&&outsOk (ins.length+L.length) outs)
 |0,i,h=>by
  refine Ends.succ (fun k=>by rw[recoupref21_May.l1]) ?_;refine Ends.neg zaa ?_;refine Ends.eq (ref_l3 hi ho hL _ 0 (Nat.zero_add _)) ?_;rw[List.drop_zero,List.drop_eq_nil_of_le (by omega:L.length<=i)];rfl
 |n+1,i,h=>by
  have D:i<L.length:=by omega
  have ih:=ref_l1 hi ho hL hl n (i+1) zaa;refine Ends.succ (fun k=>by rw[recoupref21_May.l1]) ?_;refine Ends.pos zaa ?_;refine Ends.eq (ref_l2 hi hL hl D ih _ 0 (Nat.zero_add _) (-1) (.inl ⟨rfl,rfl⟩)) ?_;rw[List.drop_eq_getElem_cons D,List.drop_zero]
  conv=>rhs;unfold nodesOk
  rw[Bool.and_assoc,show(ins.length:Int)+((i+1:Nat):Int)=(ins.length:Int)+(i:Int)+1 from by omega]
theorem ref_l0{ins outs:List Int}{L:List (List S61)}(hi:ins.length<=140737488355328)(ho:outs.length<=140737488355328)(hL:L.length<=4096)(hl: ∀l∈L,l.length<=140737488355328): ∀n i:Nat,i+n=ins.length-> ∀last:Int,((i=0/\last= -1)∨ ∃h:i-1<ins.length,0<i/\last=ins[i-1]/\0<=last)->Ends (fun k=>recoupref21_May.l0 k (i:Int) ins L outs) (insOk last (ins.drop i)&&(nodesOk ins.length L&&outsOk (ins.length+L.length) outs))
 |0,i,h,last,hlast=>by
  refine Ends.succ (fun k=>by rw[recoupref21_May.l0]) ?_;refine Ends.neg zaa ?_;refine Ends.eq (ref_l1 hi ho hL hl _ 0 (Nat.zero_add _)) ?_;rw[List.drop_zero,List.drop_eq_nil_of_le (by omega:ins.length<=i),Int.natCast_zero,Int.add_zero];rfl
 |n+1,i,h,last,hlast=>by
  have D:i<ins.length:=by omega
  refine Ends.succ (fun k=>by rw[recoupref21_May.l0]) (Ends.pos zaa (Ends.pos zaa ?_));rw[rd_at D,step64 zaa,List.drop_eq_getElem_cons D];unfold insOk;by_cases h4:ins[i]<0
  ·refine Ends.pos h4 (Ends.const ?_);have hge: -1<=last:=by rcases hlast with⟨_,h⟩|⟨_,_,_,h⟩<;>omega
   clear hlast;rw[decide_eq_false (by omega: ¬last<ins[i])];rfl
  ·refine Ends.neg h4 ?_;by_cases h2:ins[i]>=64
   ·exact Ends.pos h2 (Ends.const zcd)
   ·refine Ends.neg h2 ?_;rw[decide_eq_true (by omega:ins[i]<64)];have ih:=ref_l0 hi ho hL hl n (i+1) zaa ins[i] (.inr ⟨D,by omega,rfl,by omega⟩);rcases hlast with⟨rfl,rfl⟩|⟨hp,h0,rfl,hge⟩
    ·refine Ends.neg zaa (Ends.eq ih ?_);rw[decide_eq_true (by omega:(-1:Int)<ins[0])];rfl
    ·refine Ends.pos zaa ?_;have e:wrap64 ((i:Int)-1)=((i-1:Nat):Int):=by rw[w64 zaa zaa];omega
     rw[e];refine Ends.pos zaa (Ends.pos zaa ?_);rw[rd_at hp];by_cases h1:ins[i]<=ins[i-1]
     ·exact Ends.pos h1 (Ends.const (by rw[decide_eq_false (by omega: ¬ins[i-1]<ins[i])];rfl))
     ·refine Ends.neg h1 (Ends.eq ih ?_);rw[decide_eq_true (by omega:ins[i-1]<ins[i])];rfl
theorem ref_May_ends{ins outs:List Int}{L:List (List S61)}(hi:ins.length<=140737488355328)(ho:outs.length<=140737488355328)(hl: ∀l∈L,l.length<=140737488355328):Ends (fun k=>recoupref21_May.f k ins L outs) (mayB ins L outs):=by
 unfold mayB sizeOk;by_cases h:L.length<=4096
 ·refine Ends.congr (fun k=>by unfold recoupref21_May.f;rw[if_neg zaa]) (Ends.succ (fun k=>by rw[recoupref21_May.j0]) ?_);rw[decide_eq_true h];by_cases h2:outs.length<=64
  ·rw[decide_eq_true h2,decide_eq_false (by omega: ¬(outs.length:Int)>64)];refine Ends.neg zab (Ends.eq (ref_l0 hi ho h hl _ 0 (Nat.zero_add _) (-1) (.inl ⟨rfl,rfl⟩)) ?_);rw[List.drop_zero];rfl
  ·rw[decide_eq_false h2,decide_eq_true (by omega:(outs.length:Int)>64)];refine Ends.pos rfl (Ends.const ?_);rw[Bool.and_false,Bool.false_and,Bool.and_false]
 ·refine Ends.congr (fun k=>by unfold recoupref21_May.f;rw[if_pos zaa]) (Ends.succ (fun k=>by rw[recoupref21_May.j0]) ?_);rw[decide_eq_false h];refine Ends.pos rfl (Ends.const ?_);rw[Bool.false_and,Bool.false_and,Bool.and_false]
def byF:List S61->Int->Int
 | [],_=>0
 |t::r,v=>if t.f0=v then t.f1 else byF r v
theorem byF_cons(t:S61)(r:List S61)(v:Int):byF (t::r) v=if t.f0=v then t.f1 else byF r v:=by rw[byF]
def inB(q:Key)(l:List S61):Bool:=(decide (byF l q.1≠0)&&decide (byF l q.2.1≠0))&&(mulB (byF l q.1) q.2.2==byF l q.2.1)
def okS(t:S61):Prop:=0<t.f1/\t.f1<256
structure okN (l:List S61):Prop where
 up:l.Pairwise fun a b=>a.f0<b.f0
 ok: ∀t∈l,okS t
 len:l.length<=140737488355328
theorem okN.tail{t:S61}{l:List S61}(h:okN (t::l)):okN l:=⟨(List.pairwise_cons.1 h.up).2,fun x hx=>h.ok x (List.mem_cons_of_mem _ hx),by have:=h.len;rw[List.length_cons]at this;omega⟩
theorem byF_range: ∀ {l:List S61},(∀t∈l,okS t)-> ∀v,0<=byF l v/\byF l v<256
 | [],_,v=>by unfold byF;decide
 |t::r,h,v=>by
  unfold byF
  split
  ·have:=h t List.mem_cons_self;exact⟨Int.le_of_lt this.1,this.2⟩
  ·exact byF_range (fun x hx=>h x (List.mem_cons_of_mem _ hx)) v
theorem byF_zero: ∀ {l:List S61} {v:Int},(∀t∈l,v<t.f0)->byF l v=0
 | [],_,_=>rfl
 |t::r,v,h=>by
  unfold byF;rw[if_neg (by have:=h t List.mem_cons_self;omega)];exact byF_zero fun x hx=>h x (List.mem_cons_of_mem _ hx)
theorem by_l0{l:List S61}(hl:l.length<=140737488355328)(v:Int): ∀n i:Nat,i+n=l.length->Ends (fun k=>recoupref22_by.l0 k l v (i:Int)) (byF (l.drop i) v)
 |0,i,h=>by
  refine Ends.succ (fun k=>by rw[recoupref22_by.l0]) (Ends.neg zaa (Ends.const ?_));rw[List.drop_eq_nil_of_le zaa];rfl
 |n+1,i,h=>by
  have hi:i<l.length:=by omega
  refine Ends.succ (fun k=>by rw[recoupref22_by.l0]) (Ends.pos zaa (Ends.pos zaa ?_));rw[rd_T61_eq hi,step64 zaa,List.drop_eq_getElem_cons hi];unfold byF;by_cases e:l[i].f0=v
  ·refine Ends.pos e (Ends.const ?_);rw[if_pos e]
  ·refine Ends.neg e (Ends.eq (by_l0 hl v n (i+1) zaa) ?_);rw[if_neg e]
theorem by_ends{l:List S61}(hl:l.length<=140737488355328)(v:Int):Ends (fun k=>recoupref22_by.f k l v) (byF l v):=by
 have:=by_l0 hl v _ 0 (Nat.zero_add _)
 rwa [List.drop_zero]at this
theorem in_ends{l:List S61}(h:okN l)(q:Key)(hr:0<=q.2.2/\q.2.2<256):Ends (fun k=>recoupref22_in.f k l q.1 q.2.1 q.2.2) (inB q l):=by
 unfold recoupref22_in.f inB;refine Ends.bind (by_ends h.len q.1) (Ends.bind (by_ends h.len q.2.1) ?_);by_cases h1:byF l q.1=0
 ·refine Ends.pos h1 (Ends.const ?_);rw[decide_eq_false (fun e=>e h1: ¬byF l q.1≠0)];rfl
 ·refine Ends.neg h1 ?_;rw[decide_eq_true h1];by_cases h2:byF l q.2.1=0
  ·refine Ends.pos h2 (Ends.const ?_);rw[decide_eq_false (fun e=>e h2: ¬byF l q.2.1≠0)];rfl
  ·refine Ends.neg h2 ?_;rw[decide_eq_true h2];exact Ends.bind (mulB_ends (byF_range h.ok _) hr) (Ends.const rfl)
theorem pairs_count{t:S61}(ht:okS t)(q:Key)(hr:0<=q.2.2/\q.2.2<256): ∀ {l:List S61},l.Pairwise (fun a b=>a.f0<b.f0)->(∀x∈l,okS x)->(pairsF t l).count q=if t.f0=q.1/\byF l q.2.1≠0/\mulB t.f1 q.2.2=byF l q.2.1 then 1 else 0
 | [],_,_=>by
  rw[if_neg (fun h=>h.2.1 rfl)];rfl
 |s::r,hp,ho=>by
  have hs:=ho s List.mem_cons_self;have ih:=pairs_count ht q hr (List.pairwise_cons.1 hp).2 (fun x hx=>ho x (List.mem_cons_of_mem _ hx));have e:pairsF t (s::r)=keyQ t s::pairsF t r:=rfl;rw[e,List.count_cons,ih];have O:0<=t.f1/\t.f1<256:=⟨Int.le_of_lt ht.1,ht.2⟩
  have G:0<=s.f1/\s.f1<256:=⟨Int.le_of_lt hs.1,hs.2⟩
  have I:t.f1≠0:=by have:=ht.1;omega
  have D:s.f1≠0:=by have:=hs.1;omega
  have hri:=ratio_iff O I G hr;have hk:(keyQ t s==q)=true↔t.f0=q.1/\s.f0=q.2.1/\mulB t.f1 q.2.2=s.f1:=by
   rw[beq_iff_eq,<-hri];obtain⟨q1,q2,q3⟩:=q;unfold keyQ;simp
  rw[byF_cons];by_cases hv:s.f0=q.2.1
  ·rw[if_pos hv];have hz:byF r q.2.1=0:=byF_zero fun x hx=>by have:=(List.pairwise_cons.1 hp).1 x hx;omega
   rw[hz,if_neg (fun h=>h.2.1 rfl),Nat.zero_add];by_cases hq:(keyQ t s==q)=true
   ·rw[if_pos hq,if_pos ⟨(hk.1 hq).1,D,(hk.1 hq).2.2⟩]
   ·rw[if_neg hq,if_neg (fun h=>hq (hk.2 ⟨h.1,hv,h.2.2⟩))]
  ·rw[if_neg hv,if_neg (fun h=>hv (hk.1 h).2.1),Nat.add_zero]
theorem keysN_count(q:Key)(hq:q.1<q.2.1)(hr:0<=q.2.2/\q.2.2<256): ∀ {l:List S61},okN l->(keysN l).count q=if inB q l=true then 1 else 0
 | [],_=>rfl
 |t::r,h=>by
  have hp:=List.pairwise_cons.1 h.up;have ih:=keysN_count q hq hr h.tail;have ht:=h.ok t List.mem_cons_self;have D:t.f1≠0:=by have:=ht.1;omega
  unfold keysN;rw[List.count_append,pairs_count ht q hr hp.2 h.tail.ok,ih];unfold inB;rw[byF_cons,byF_cons];by_cases hu:t.f0=q.1
  ·have hz:byF r q.1=0:=byF_zero fun x hx=>by have:=hp.1 x hx;omega
   rw[if_pos hu,if_neg (show¬t.f0=q.2.1 by omega),hz];have hf:((decide ((0:Int)≠0)&&decide (byF r q.2.1≠0))&&(mulB 0 q.2.2==byF r q.2.1))=false:=rfl;rw[hf,if_neg (by decide: ¬false=true),Nat.add_zero,decide_eq_true D];by_cases hv:byF r q.2.1=0
   ·rw[if_neg (fun h=>h.2.1 hv),decide_eq_false (fun e=>e hv: ¬byF r q.2.1≠0)];rfl
   ·rw[decide_eq_true hv];by_cases hm:mulB t.f1 q.2.2=byF r q.2.1
    ·rw[if_pos ⟨hu,hv,hm⟩,beq_iff_eq.2 hm];rfl
    ·rw[if_neg (fun h=>hm h.2.2),beq_eq_false_iff_ne.2 hm];rfl
  ·rw[if_neg hu,if_neg (fun h=>hu h.1),Nat.zero_add];by_cases hv:t.f0=q.2.1
   ·have hz:byF r q.1=0:=byF_zero fun x hx=>by have:=hp.1 x hx;omega
    rw[hz];rfl
   ·rw[if_neg hv]
theorem keysL_count(q:Key)(hq:q.1<q.2.1)(hr:0<=q.2.2/\q.2.2<256): ∀ {L:List (List S61)},(∀l∈L,okN l)->(keysL L).count q=L.countP (inB q)
 | [],_=>rfl
 |l::L,h=>by
  have e:keysL (l::L)=keysN l++keysL L:=rfl;rw[e,List.count_append,List.countP_cons,keysN_count q hq hr (h l List.mem_cons_self),keysL_count q hq hr (fun x hx=>h x (List.mem_cons_of_mem _ hx)),Nat.add_comm]
theorem terms_ok{own:Int} : ∀ {l:List S61} {last:Int},termsOk own last l=true->(∀t∈l,0<=t.f1/\t.f1<256)->(l.Pairwise fun a b=>a.f0<b.f0)/\(∀t∈l,last<t.f0)/\ ∀t∈l,okS t
 | [],last,_,_=>⟨List.Pairwise.nil,fun t h=>absurd h zac,fun t h=>absurd h zac⟩
 |t::r,last,h,hb=>by
  unfold termsOk at h;simp only[Bool.and_eq_true,decide_eq_true_eq]at h;obtain⟨⟨⟨h1,h2⟩,h3⟩,h4⟩:=h;obtain⟨i1,i2,i3⟩:=terms_ok h4 fun x hx=>hb x (List.mem_cons_of_mem _ hx);have D:=hb t List.mem_cons_self;refine⟨List.pairwise_cons.2 ⟨i2,i1⟩,fun x hx=>?_,fun x hx=>?_⟩
  ·rcases List.mem_cons.1 hx with rfl|hx
   ·exact h1
   ·have:=i2 x hx;omega
  ·rcases List.mem_cons.1 hx with rfl|hx
   ·exact⟨by omega,D.2⟩
   ·exact i3 x hx
theorem nodes_ok: ∀ {L:List (List S61)} {n:Int},nodesOk n L=true->(∀l∈L,l.length<=140737488355328)->(∀l∈L,∀t∈l,0<=t.f1/\t.f1<256)-> ∀l∈L,okN l
 | [],_,_,_,_,l,hl=>absurd hl zac
 |l::L,n,h,hn,hb,x,hx=>by
  unfold nodesOk at h;rw[Bool.and_eq_true]at h
  rcases List.mem_cons.1 hx with rfl|hx
  ·obtain⟨i1,_,i3⟩:=terms_ok h.1 (hb x List.mem_cons_self);exact⟨i1,i3,hn x List.mem_cons_self⟩
  ·exact nodes_ok h.2 (fun y hy=>hn y (List.mem_cons_of_mem _ hy)) (fun y hy=>hb y (List.mem_cons_of_mem _ hy)) x hx
def emb(P:Key×Int):Key×Int:=if P.2=0 then((0,0,0),1)else P
def goodP(P:Key×Int):Prop:=P=((0,0,0),0)∨P.2>1
theorem good_step{ks:List Key}{P:Key×Int}{q:Key}(h:goodP P):goodP (stepQ ks P q):=by
 unfold stepQ
 split
 ·rename_i hc
  exact .inr hc.1
 ·exact h
def ansB(P:Key×Int):Int×Int×Int×Int×Bool×Int:=if P.2>1 then(P.1.1,P.1.2.1,P.1.2.2,P.2,true,0)else(0,0,0,0,false,0)
theorem less_f(q p:Key)(c d:Int):recoupref22_less.f q.1 q.2.1 q.2.2 c p.1 p.2.1 p.2.2 d=some (aheadQ (q,c) (p,c)):=by
 unfold recoupref22_less.f aheadQ;simp only[ne_eq,not_true_eq_false,if_false];by_cases h1:q.1=p.1
 ·by_cases h2:q.2.1=p.2.1
  ·simp[h1,h2]
  ·simp[h1,h2]
 ·simp[h1]
section
variable {ins outs:List Int} {L:List (List S61)} (hL:L.length<4096) (hN: ∀l∈L,okN l)
abbrev runL3(ins outs:List Int)(L:List (List S61))(n i j:Nat)(P:Key×Int)(k:Nat):=recoupref22_Best.l3 k (n:Int) (i:Int) (j:Int) ins L outs (emb P).1.1 (emb P).1.2.1 (emb P).1.2.2 (emb P).2
abbrev runL2(ins outs:List Int)(L:List (List S61))(n i:Nat)(P:Key×Int)(k:Nat):=recoupref22_Best.l2 k (n:Int) (i:Int) ins L outs (emb P).1.1 (emb P).1.2.1 (emb P).1.2.2 (emb P).2
abbrev runL1(ins outs:List Int)(L:List (List S61))(n:Nat)(P:Key×Int)(k:Nat):=recoupref22_Best.l1 k (n:Int) ins L outs (emb P).1.1 (emb P).1.2.1 (emb P).1.2.2 (emb P).2
include hL hN in
theorem best_l4{n i j:Nat}{P:Key×Int}(hP:goodP P)(hj:j<4611686018427387904)(q:Key)(hr:0<=q.2.2/\q.2.2<256)(hc:cntQ (keysL L) q=(L.countP (inB q):Int)){X:Int×Int×Int×Int×Bool×Int}(hX:Ends (runL3 ins outs L n i (j+1) (stepQ (keysL L) P q)) X):
 ∀d m:Nat,m+d=L.length->Ends (fun k=>recoupref22_Best.l4 k (n:Int) (i:Int) (j:Int) (m:Int) ins L outs (emb P).1.1 (emb P).1.2.1 (emb P).1.2.2 (emb P).2 q.1 q.2.1 q.2.2 ((L.take m).countP (inB q):Int)) X
 |0,m,h=>by
  refine Ends.succ (fun k=>by rw[recoupref22_Best.l4]) (Ends.neg zaa ?_);rw[List.take_of_length_le zaa,step64 hj,<-hc];unfold stepQ at hX;rcases hP with rfl|hP
  ·have e:emb ((0,0,0),0)=((0,0,0),1):=rfl;unfold runL3 at hX;rw[e];by_cases h1:cntQ (keysL L) q>1
   ·have ha:aheadQ (q,cntQ (keysL L) q) ((0,0,0),0)=true:=(aheadQ_iff _ _).2 (.inl (show cntQ (keysL L) q>0 by omega));rw[if_pos ⟨h1,ha⟩]at hX
    have e2:emb (q,cntQ (keysL L) q)=(q,cntQ (keysL L) q):=by unfold emb;rw[if_neg (show¬cntQ (keysL L) q=0 by omega)]
    rw[e2]at hX
    exact Ends.pos h1 hX
   ·rw[if_neg (fun e=>h1 e.1),e]at hX
    refine Ends.neg h1 ?_;by_cases h2:cntQ (keysL L) q=1
    ·exact Ends.pos h2 (Ends.neg h1 hX)
    ·exact Ends.neg h2 hX
  ·have e:emb P=P:=by unfold emb;rw[if_neg (show¬P.2=0 by omega)]
   unfold runL3 at hX;rw[e];by_cases h1:cntQ (keysL L) q>P.2
   ·have ha:aheadQ (q,cntQ (keysL L) q) P=true:=(aheadQ_iff _ _).2 (.inl h1);rw[if_pos ⟨by omega,ha⟩]at hX
    have e2:emb (q,cntQ (keysL L) q)=(q,cntQ (keysL L) q):=by unfold emb;rw[if_neg (show¬cntQ (keysL L) q=0 by omega)]
    rw[e2]at hX
    exact Ends.pos h1 hX
   ·refine Ends.neg h1 ?_;by_cases h2:cntQ (keysL L) q=P.2
    ·refine Ends.pos h2 (Ends.pos zaa ?_);rw[less_f q P.1 (cntQ (keysL L) q) P.2];refine Ends.bind1 rfl ?_;have ep:((P.1,cntQ (keysL L) q):Key×Int)=P:=by rw[h2]
     rw[ep];by_cases ha:aheadQ (q,cntQ (keysL L) q) P=true
     ·rw[if_pos ⟨by omega,ha⟩]at hX
      have e2:emb (q,cntQ (keysL L) q)=(q,cntQ (keysL L) q):=by unfold emb;rw[if_neg (show¬cntQ (keysL L) q=0 by omega)]
      rw[e2]at hX
      exact Ends.pos ha hX
     ·rw[if_neg (fun e=>ha e.2),e]at hX
      exact Ends.neg ha hX
    ·have ha: ¬aheadQ (q,cntQ (keysL L) q) P=true:=fun ha=>by
      rcases(aheadQ_iff _ _).1 ha with h3|h3
      ·exact h1 h3
      ·exact h2 h3.1
     rw[if_neg (fun e=>ha e.2),e]at hX
     exact Ends.neg h2 hX
 |d+1,m,h=>by
  have hm:m<L.length:=by omega
  refine Ends.succ (fun k=>by rw[recoupref22_Best.l4]) (Ends.pos zaa (Ends.pos zaa ?_));rw[rdL_at hm,step64 (i:=m) zaa];have ih:=best_l4 hP hj q hr hc hX d (m+1) zaa;rw[List.take_succ_eq_append_getElem hm,List.countP_append,List.countP_singleton]at ih
  have hle:(L.take m).countP (inB q)<=m:=Nat.le_trans List.countP_le_length (by rw[List.length_take];omega);refine Ends.bind (in_ends (hN _ (List.getElem_mem hm)) q hr) ?_
  cases e:inB q L[m]
  ·refine Ends.neg zab ?_;rw[e,if_neg (by decide: ¬false=true),Nat.add_zero]at ih
   exact ih
  ·refine Ends.pos rfl ?_;rw[e,if_pos rfl]at ih
   rw[step64 zaa];exact ih
include hL hN in
theorem best_l3{n i:Nat}(hn:n<L.length)(hi:i<L[n].length){f:Key×Int->Int×Int×Int×Int×Bool×Int}(hX: ∀P,goodP P->Ends (runL2 ins outs L n (i+1) P) (f P)):
 ∀d j:Nat,j+d=L[n].length->i<j-> ∀P,goodP P->Ends (runL3 ins outs L n i j P) (f ((pairsF L[n][i] (L[n].drop j)).foldl (stepQ (keysL L)) P))
 |0,j,h,hij,P,hP=>by
  have hlen:=(hN _ (List.getElem_mem hn)).len;refine Ends.succ (fun k=>by unfold runL3;rw[recoupref22_Best.l3]) (Ends.pos zaa (Ends.pos zaa ?_));rw[rdL_at hn];refine Ends.neg zaa ?_;rw[step64 zaa,List.drop_eq_nil_of_le zaa];exact hX P hP
 |d+1,j,h,hij,P,hP=>by
  have hj:j<L[n].length:=by omega
  have hok:=hN _ (List.getElem_mem hn);have hlen:=hok.len;refine Ends.succ (fun k=>by unfold runL3;rw[recoupref22_Best.l3]) (Ends.pos zaa (Ends.pos zaa ?_));rw[rdL_at hn];refine Ends.pos zaa (Ends.pos zaa (Ends.pos zaa (Ends.pos zaa ?_)));rw[rd_T61_eq hi,rd_T61_eq hj];have hti:=hok.ok _ (List.getElem_mem hi);have htj:=hok.ok _ (List.getElem_mem hj);have G:0<=L[n][i].f1/\L[n][i].f1<256:=⟨Int.le_of_lt hti.1,hti.2⟩
  have I:0<=L[n][j].f1/\L[n][j].f1<256:=⟨Int.le_of_lt htj.1,htj.2⟩
  have D:L[n][i].f1≠0:=by have:=hti.1;omega
  refine Ends.bind (Inv_ends G D) ?_;refine Ends.bind (mulB_ends I (invT_range G D)) ?_;rw[List.drop_eq_getElem_cons hj];have ec:pairsF L[n][i] (L[n][j]::L[n].drop (j+1))=keyQ L[n][i] L[n][j]::pairsF L[n][i] (L[n].drop (j+1)):=rfl;rw[ec,List.foldl_cons];have eq:keyQ L[n][i] L[n][j] =(L[n][i].f0,L[n][j].f0,mulB L[n][j].f1 (invT L[n][i].f1)):=by unfold keyQ;rw[invAt_eq G D]
  have hr:0<=(keyQ L[n][i] L[n][j]).2.2/\(keyQ L[n][i] L[n][j]).2.2<256:=by rw[eq];exact(mulB_some (invT_range G D)).2
  have hlt:(keyQ L[n][i] L[n][j]).1<(keyQ L[n][i] L[n][j]).2.1:=by rw[eq];exact List.pairwise_iff_getElem.1 hok.up i j hi hj hij
  have ih:=best_l3 hn hi hX d (j+1) zaa zaa (stepQ (keysL L) P (keyQ L[n][i] L[n][j])) (good_step hP);have h4:=best_l4 hL hN hP (i:=i) (n:=n) zaa (keyQ L[n][i] L[n][j]) hr (by unfold cntQ;rw[keysL_count _ hlt hr hN]) ih _ 0 (Nat.zero_add _);rw[eq]at h4⊢
  rw[List.take_zero]at h4
  exact h4
include hL hN in
theorem best_l2{n:Nat}(hn:n<L.length){f:Key×Int->Int×Int×Int×Int×Bool×Int}(hX: ∀P,goodP P->Ends (runL1 ins outs L (n+1) P) (f P)):
 ∀d i:Nat,i+d=L[n].length-> ∀P,goodP P->Ends (runL2 ins outs L n i P) (f ((keysN (L[n].drop i)).foldl (stepQ (keysL L)) P))
 |0,i,h,P,hP=>by
  have hlen:=(hN _ (List.getElem_mem hn)).len;refine Ends.succ (fun k=>by unfold runL2;rw[recoupref22_Best.l2]) (Ends.pos zaa (Ends.pos zaa ?_));rw[rdL_at hn];refine Ends.neg zaa ?_;rw[step64 zaa,List.drop_eq_nil_of_le zaa];exact hX P hP
 |d+1,i,h,P,hP=>by
  have hi:i<L[n].length:=by omega
  have hlen:=(hN _ (List.getElem_mem hn)).len;refine Ends.succ (fun k=>by unfold runL2;rw[recoupref22_Best.l2]) (Ends.pos zaa (Ends.pos zaa ?_));rw[rdL_at hn];refine Ends.pos zaa ?_;rw[step64 zaa,List.drop_eq_getElem_cons hi];have ec:keysN (L[n][i]::L[n].drop (i+1))=pairsF L[n][i] (L[n].drop (i+1))++keysN (L[n].drop (i+1)):=rfl;rw[ec,List.foldl_append];exact best_l3 hL hN hn hi (f:=fun P=>f ((keysN (L[n].drop (i+1))).foldl (stepQ (keysL L)) P)) (fun P hP=>best_l2 hn hX d (i+1) zaa P hP) _ (i+1) (Nat.add_sub_cancel' zaa) zaa P hP
include hL hN in
theorem best_l1: ∀d n:Nat,n+d=L.length-> ∀P,goodP P->Ends (runL1 ins outs L n P) (ansB ((keysL (L.drop n)).foldl (stepQ (keysL L)) P))
 |0,n,h,P,hP=>by
  refine Ends.succ (fun k=>by unfold runL1;rw[recoupref22_Best.l1]) (Ends.neg zaa ?_);rw[List.drop_eq_nil_of_le zaa];show Ends _ (ansB P);unfold ansB emb;rcases hP with rfl|hP
  ·exact Ends.pos zab (Ends.const rfl)
  ·rw[if_neg (show¬P.2=0 by omega),if_pos hP];exact Ends.neg zaa (Ends.const rfl)
 |d+1,n,h,P,hP=>by
  have hn:n<L.length:=by omega
  refine Ends.succ (fun k=>by unfold runL1;rw[recoupref22_Best.l1]) ?_;refine Ends.pos zaa ?_;have h2:=best_l2 hL hN hn (f:=fun P=>ansB ((keysL (L.drop (n+1))).foldl (stepQ (keysL L)) P)) (fun P hP=>best_l1 d (n+1) zaa P hP) _ 0 (Nat.zero_add _) P hP;rw[List.drop_eq_getElem_cons hn];have ec:keysL (L[n]::L.drop (n+1))=keysN L[n]++keysL (L.drop (n+1)):=rfl;rw[ec,List.foldl_append];rw[List.drop_zero]at h2
  exact h2
end
def sumL:List (List S61)->Nat
 | []=>0
 |l::L=>l.length+sumL L
theorem sumL_le{m:Nat} : ∀ {L:List (List S61)},(∀l∈L,l.length<=m)->sumL L<=L.length*m
 | [],_=>Nat.zero_le _
 |l::L,h=>by
  have h1:=h l List.mem_cons_self;have h2:=sumL_le (fun x hx=>h x (List.mem_cons_of_mem _ hx));unfold sumL;rw[List.length_cons,Nat.succ_mul];omega
theorem sumL_snoc: ∀(L:List (List S61)) (l:List S61),sumL (L++ [l])=sumL L+l.length
 | [],l=>by simp[sumL]
 |x::L,l=>by
  show x.length+sumL (L++ [l])=x.length+sumL L+l.length;rw[sumL_snoc L l,Nat.add_assoc]
theorem pairsF_length(t:S61)(l:List S61):(pairsF t l).length=l.length:=List.length_map _
theorem keysN_length: ∀l:List S61,(keysN l).length<=l.length*l.length
 | []=>Nat.zero_le _
 |t::r=>by
  unfold keysN;have:=keysN_length r;rw[List.length_append,pairsF_length,List.length_cons,Nat.succ_mul,Nat.mul_succ];omega
theorem keysL_length: ∀L:List (List S61),(keysL L).length<=sumL L*sumL L
 | []=>Nat.zero_le _
 |l::L=>by
  have e:keysL (l::L)=keysN l++keysL L:=rfl;have h1:=keysN_length l;have h2:=keysL_length L;unfold sumL;rw[e,List.length_append,Nat.add_mul,Nat.mul_add,Nat.mul_add];omega
theorem totT_eq{L:List (List S61)}(hL:L.length<4096)(hl: ∀l∈L,l.length<=140737488355328): ∀i,i<=L.length->totT L i=((sumL (L.take i):Nat):Int)
 |0,_=>rfl
 |i+1,h=>by
  have hi:i<L.length:=by omega
  have hle:=sumL_le (L:=L.take (i+1)) fun l hx=>hl l (List.mem_of_mem_take hx);have h2:(L.take (i+1)).length<=4096:=by rw[List.length_take];omega
  have h3:sumL (L.take (i+1))<=4096*140737488355328:=Nat.le_trans hle (Nat.mul_le_mul_right _ h2);rw[List.take_succ_eq_append_getElem hi,sumL_snoc]at h3⊢
  unfold totT;rw[totT_eq hL hl i zaa,rdL_at hi,w64 zaa zaa];omega
theorem best_j1{ins outs:List Int}{L:List (List S61)}(hN: ∀l∈L,okN l){b:Bool}(hb:b=false->L.length<4096):
 Ends (fun k=>recoupref22_Best.j1 k b ins L outs) (if b=true then(0,0,0,0,false,0)else ansB (bestQ (keysL L))):=by
 refine Ends.succ (fun k=>by rw[recoupref22_Best.j1]) ?_
 cases b
 ·refine Ends.neg zab ?_;rw[if_neg zab];have h:=best_l1 (ins:=ins) (outs:=outs) (hb rfl) hN _ 0 (Nat.zero_add _) ((0,0,0),0) (.inl rfl);rw[List.drop_zero]at h
  exact h
 ·exact Ends.pos rfl (Ends.const rfl)
theorem best_l0{ins outs:List Int}{L:List (List S61)}(hN: ∀l∈L,okN l)(hL:L.length<=4096): ∀n i:Nat,i+n=L.length->Ends (fun k=>recoupref22_Best.l0 k (totT L i) (i:Int) ins L outs) (if totT L L.length>512∨4096<=L.length then(0,0,0,0,false,0)else ansB (bestQ (keysL L)))
 |0,i,h=>by
  obtain rfl:i=L.length:=by omega
  refine Ends.succ (fun k=>by rw[recoupref22_Best.l0]) ?_;refine Ends.neg zaa ?_;by_cases h1:totT L L.length>512
  ·rw[if_pos (.inl h1)];refine Ends.pos h1 ?_;exact best_j1 hN (b:=true) (fun e=>nomatch e)
  ·refine Ends.neg h1 ?_;by_cases h2:4096<=L.length
   ·rw[if_pos (.inr h2),decide_eq_true (by omega:(L.length:Int)>=4096)];exact best_j1 hN (b:=true) (fun e=>nomatch e)
   ·rw[if_neg (fun h=>h.elim h1 h2),decide_eq_false (by omega: ¬(L.length:Int)>=4096)];exact best_j1 hN (b:=false) (fun _=>by omega)
 |n+1,i,h=>by
  have hi:i<L.length:=by omega
  refine Ends.succ (fun k=>by rw[recoupref22_Best.l0]) ?_;refine Ends.pos zaa (Ends.pos zaa ?_);rw[step64 zaa];have ih:=best_l0 (ins:=ins) (outs:=outs) hN hL n (i+1) zaa
  conv at ih=>lhs;intro k;unfold totT
  exact ih
def bestV(ins:List Int)(L:List (List S61))(outs:List Int):Int×Int×Int×Int×Bool×Int:=
 if mayB ins L outs=true then(if totT L L.length>512∨4096<=L.length then(0,0,0,0,false,0)else ansB (bestQ (keysL L)))else(0,0,0,0,false,2)
theorem best_both{ins outs:List Int}{L:List (List S61)}(hi:ins.length<=140737488355328)(ho:outs.length<=140737488355328)(hL:L.length<=140737488355328)(hl: ∀l∈L,l.length<=140737488355328)(hw: ∀l∈L,∀t∈l,okT t=true):Ends (fun k=>share_Best.f k ins L outs) (bestV ins L outs)/\Ends (fun k=>recoupref22_Best.f k ins L outs) (bestV ins L outs):=by
 cases e:mayB ins L outs
 ·have ev:bestV ins L outs=(0,0,0,0,false,2):=by unfold bestV;rw[e];rfl
  rw[ev];refine⟨?_,?_⟩
  ·refine Ends.bind (flow_May_ends hi ho hl) ?_;rw[e];exact Ends.neg zab (Ends.const rfl)
  ·refine Ends.bind (ref_May_ends hi ho hl) ?_;rw[e];exact Ends.neg zab (Ends.const rfl)
 ·have h:=e;unfold mayB sizeOk at h;simp only[Bool.and_eq_true,decide_eq_true_eq]at h;obtain⟨_,⟨hsz,_⟩,hnd,_⟩:=h;have hN:=nodes_ok hnd hl fun l hx t ht=>(okT_wf (hw l hx t ht)).2;have ev:bestV ins L outs=if totT L L.length>512∨4096<=L.length then(0,0,0,0,false,0)else ansB (bestQ (keysL L)):=by unfold bestV;rw[e,if_pos rfl]
  rw[ev];refine⟨?_,?_⟩
  ·refine Ends.bind (flow_May_ends hi ho hl) ?_;rw[e];refine Ends.pos rfl (Ends.pos hL ?_);unfold share_best.f;by_cases h1:totT L L.length>512∨4096<=L.length
   ·rw[if_pos h1,if_pos h1];exact Ends.const rfl
   ·have hlt:L.length<4096:=by omega
    have hs:=totT_eq hlt hl L.length (Nat.le_refl _);rw[List.take_length]at hs
    have D:sumL L<=512:=by omega
    have hk:=keysL_length L;have G:sumL L*sumL L<=512*512:=Nat.mul_le_mul D D;have hok:okB L=true:=by
     unfold okB;rw[Bool.and_eq_true];exact⟨List.all_eq_true.2 fun l hx=>List.all_eq_true.2 fun t ht=>hw l hx t ht,decide_eq_true zaa⟩
    rw[if_neg h1,if_neg h1,if_pos hok];refine Ends.const (congrArg some ?_);unfold ansB;rcases bestQ_is (keysL L)with⟨h2,_⟩|⟨_,h2,h3,_⟩
    ·rw[h2];rfl
    ·rw[<-h2]at h3
     rw[if_pos h3,decide_eq_true h3]
  ·refine Ends.bind (ref_May_ends hi ho hl) ?_;rw[e];exact Ends.pos rfl (best_l0 hN hsz _ 0 (Nat.zero_add _))
theorem Ends.of_mono{α:Type}{f:Nat->Option α}{r:α}(hm: ∀k,LeO (f k) (f (k+1))){K:Nat}(h:f K=some r):Ends f r:=by
 refine⟨K,fun k hk=>?_⟩;obtain⟨d,rfl⟩:=Nat.exists_eq_add_of_le hk
 induction d with
 |zero=>exact h
 |succ d ih=>exact hm (K+d) r (ih zaa)
theorem Best_run(k:Nat){ins outs:List Int}{L:List (List S61)}{r:Int×Int×Int×Int×Bool×Int}(h:share_Best.f k ins L outs=some r):Ends (fun k=>share_Best.f k ins L outs) r:=
 Ends.of_mono (K:=k) (fun k=>share_Best.mono ins L outs k) h
theorem anch22:Ends (fun k=>recouplaw22_anchored.f k) true:=by
 have h:share_Best.f 40 [0,1] [[⟨0,1⟩,⟨1,2⟩],[⟨0,3⟩,⟨1,6⟩]] [2,3] =some (0,1,2,2,true,0):=by kernel_rfl
 exact Ends.bind (Best_run 40 h) (Ends.const rfl)
def sh1(own v:Int):Int:=if v>=own then v+1 else v
def shT(own:Int)(t:S61):S61:=⟨sh1 own t.f0,t.f1⟩
def dropP(q:Key)(l:List S61):List S61:=l.filter fun t=>decide (t.f0≠q.1)&&decide (t.f0≠q.2.1)
def insT(own b:Int):List S61->List S61
 | []=> [⟨own,b⟩]
 |t::r=>if own<t.f0 then⟨own,b⟩::t::r else t::insT own b r
def nodeT(own:Int)(q:Key)(l:List S61):List S61:=if inB q l=true then insT own (byF l q.1) ((dropP q l).map (shT own))else l.map (shT own)
def pairT(q:Key):List S61:= [⟨q.1,1⟩,⟨q.2.1,q.2.2⟩]
theorem clone_ends{l:List S61}(hl:l.length<=8796093021952):api_Term_42.f l=some l:=by
 unfold api_Term_42.f;rw[Option.bind_some,if_pos zaf];rfl
theorem cloneI_ends{l:List Int}(hl:l.length<=17592186043904):slices_Clone_int_int.f l=some l:=by
 unfold slices_Clone_int_int.f;rw[Option.bind_some,if_pos zaf];rfl
theorem mid_get{α:Type}(A B:List α)(x:α)(d:α):(A++x::B).getD A.length d=x:=by simp[List.getD_eq_getElem?_getD]
theorem shifted_l0{own:Int} : ∀(B A:List S61),(A++B).length<=140737488355328->(∀t∈B,t.f0<4611686018427387904/\ -4611686018427387904<t.f0)->Ends (fun k=>share_shifted.l0 k own (A++B) ((A++B).length:Int) (A.length:Int)) (A++B.map (shT own))
 | [],A,_,_=>by
  refine Ends.succ (fun k=>by rw[share_shifted.l0]) (Ends.neg zac (Ends.const ?_));simp
 |t::B,A,hl,hb=>by
  have hA:A.length<(A++t::B).length:=by simp
  have ht:=hb t List.mem_cons_self;have hr:rd_T61 (A++t::B) (A.length:Int)=t:=by
   unfold rd_T61;rw[Int.toNat_natCast];exact mid_get A B t _
  have D:A.length<4611686018427387904:=by omega
  refine Ends.succ (fun k=>by rw[share_shifted.l0]) (Ends.pos zaa (Ends.pos zaa (Ends.pos zaa ?_)));rw[hr,step64 D,Int.toNat_natCast];by_cases h:t.f0>=own
  ·refine Ends.pos h ?_;have e:(A++t::B).set A.length (⟨wrap64 (t.f0+1),t.f1⟩:S61)=(A++ [shT own t])++B:=by
    rw[List.set_append_right _ _ (Nat.le_refl _),Nat.sub_self,List.set_cons_zero,w64 zaa zaa];unfold shT sh1;rw[if_pos h];simp
   have ih:=shifted_l0 (own:=own) B (A++ [shT own t]) zay (fun x hx=>hb x (List.mem_cons_of_mem _ hx));have el:(A++t::B).length=((A++ [shT own t])++B).length:=by simp
   have ea:A.length+1=(A++ [shT own t]).length:=by simp
   rw[e,el,ea];refine Ends.eq ih ?_;simp
  ·refine Ends.neg h ?_;have e:A++t::B=(A++ [shT own t])++B:=by
    unfold shT sh1;rw[if_neg h];simp
   have ih:=shifted_l0 (own:=own) B (A++ [shT own t]) (by rw[<-e];exact hl) (fun x hx=>hb x (List.mem_cons_of_mem _ hx));have ea:A.length+1=(A++ [shT own t]).length:=by simp
   rw[e,ea];refine Ends.eq ih ?_;simp
theorem shifted_ends{l:List S61}{own:Int}(hl:l.length<=8796093021952)(hb: ∀t∈l,t.f0<4611686018427387904/\ -4611686018427387904<t.f0):Ends (fun k=>share_shifted.f k l own) (l.map (shT own)):=by
 unfold share_shifted.f;refine Ends.bind1 (clone_ends hl) ?_;have:=shifted_l0 (own:=own) l [] zaf hb;simpa using this
theorem copied_l0{ins outs:List Int} : ∀(B A:List (List S61)),(A++B).length<=5864062014634->(∀l∈B,l.length<=8796093021952)->Ends (fun k=>share_copied.l0 k (A++B) ((A++B).length:Int) (A.length:Int) ins A outs) (ins,A++B,outs)
 | [],A,_,_=>by
  refine Ends.succ (fun k=>by rw[share_copied.l0]) (Ends.neg zac (Ends.const ?_));simp
 |l::B,A,hl,hb=>by
  have hA:A.length<(A++l::B).length:=by simp
  have hr:rd_L5 (A++l::B) (A.length:Int)=l:=by
   unfold rd_L5;rw[Int.toNat_natCast];exact mid_get A B l _
  refine Ends.succ (fun k=>by rw[share_copied.l0]) (Ends.pos zaa (Ends.pos zaa (Ends.pos zaa ?_)));rw[hr,step64 zaa];refine Ends.bind1 (clone_ends (hb l List.mem_cons_self)) (Ends.pos zaa ?_);have ih:=copied_l0 (ins:=ins) (outs:=outs) B (A++ [l]) zay (fun x hx=>hb x (List.mem_cons_of_mem _ hx));have e:A++l::B=(A++ [l])++B:=by simp
  have ea:A.length+1=(A++ [l]).length:=by simp
  rw[e,ea];exact ih
theorem copied_ends{ins outs:List Int}{L:List (List S61)}(hi:ins.length<=17592186043904)(ho:outs.length<=17592186043904)(hL:L.length<=5864062014634)(hl: ∀l∈L,l.length<=8796093021952):Ends (fun k=>share_copied.f k ins L outs) (ins,L,outs):=by
 unfold share_copied.f;refine Ends.bind1 (cloneI_ends hi) (Ends.bind1 (cloneI_ends ho) ?_);have:=copied_l0 (ins:=ins) (outs:=outs) L [] (by simpa using hL) hl;simpa using this
theorem copy_l0{ins outs:List Int}(hi:ins.length<=17592186043904)(ho:outs.length<=17592186043904): ∀(B A:List (List S61)),(A++B).length<=5864062014634->(∀l∈B,l.length<=8796093021952)->Ends (fun k=>recoupref21_Copy.l0 k A (A.length:Int) ins (A++B) outs) (ins,A++B,outs)
 | [],A,_,_=>by
  refine Ends.succ (fun k=>by rw[recoupref21_Copy.l0]) (Ends.neg zac ?_);refine Ends.bind1 rfl (Ends.pos zaf (Ends.bind1 rfl (Ends.pos zaf (Ends.const ?_))));simp
 |l::B,A,hl,hb=>by
  have hA:A.length<(A++l::B).length:=by simp
  have hr:rd_L5 (A++l::B) (A.length:Int)=l:=by
   unfold rd_L5;rw[Int.toNat_natCast];exact mid_get A B l _
  have D:=hb l List.mem_cons_self;refine Ends.succ (fun k=>by rw[recoupref21_Copy.l0]) ?_;refine Ends.pos zaa ?_;refine Ends.bind1 rfl ?_;refine Ends.pos zaa ?_;rw[hr,step64 zaa];refine Ends.pos zaf ?_;refine Ends.pos zaa ?_;have ih:=copy_l0 hi ho B (A++ [l]) zay (fun x hx=>hb x (List.mem_cons_of_mem _ hx));have e:A++l::B=(A++ [l])++B:=by simp
  have ea:A.length+1=(A++ [l]).length:=by simp
  rw[e,ea,List.nil_append];exact ih
theorem copy_ends{ins outs:List Int}{L:List (List S61)}(hi:ins.length<=17592186043904)(ho:outs.length<=17592186043904)(hL:L.length<=5864062014634)(hl: ∀l∈L,l.length<=8796093021952):Ends (fun k=>recoupref21_Copy.f k ins L outs) (ins,L,outs):=by
 unfold recoupref21_Copy.f;have:=copy_l0 (ins:=ins) (outs:=outs) hi ho L [] (by simpa using hL) hl;simpa using this
theorem ints_l0{l:List Int}(hl:l.length<=140737488355328): ∀n i:Nat,i+n=l.length->Ends (fun k=>recoupref11_Ints.l0 k l l (i:Int)) true
 |0,i,h=>Ends.succ (fun k=>by rw[recoupref11_Ints.l0]) (Ends.neg zaa (Ends.const rfl))
 |n+1,i,h=>by
  refine Ends.succ (fun k=>by rw[recoupref11_Ints.l0]) (Ends.pos zaa (Ends.pos zaa (Ends.pos zaa (Ends.pos rfl ?_))));rw[step64 zaa];exact ints_l0 hl n (i+1) zaa
theorem ints_ends{l:List Int}(hl:l.length<=140737488355328):Ends (fun k=>recoupref11_Ints.f k l l) true:=by
 unfold recoupref11_Ints.f;exact Ends.pos rfl (ints_l0 hl _ 0 (Nat.zero_add _))
theorem same_l1{ins outs ins' outs':List Int}{L:List (List S61)}{i:Nat}(hi:i<L.length)(hl:L[i].length<=140737488355328)(D:i<4611686018427387904)(hX:Ends (fun k=>recoupref21_Same.l0 k ((i+1:Nat):Int) ins L outs ins' L outs') true): ∀n j:Nat,j+n=L[i].length->Ends (fun k=>recoupref21_Same.l1 k (i:Int) (j:Int) ins L outs ins' L outs') true
 |0,j,h=>by
  refine Ends.succ (fun k=>by rw[recoupref21_Same.l1]) (Ends.pos zaa (Ends.pos zaa ?_));rw[rdL_at hi,step64 D];exact Ends.neg zaa hX
 |n+1,j,h=>by
  refine Ends.succ (fun k=>by rw[recoupref21_Same.l1]) (Ends.pos zaa (Ends.pos zaa ?_));rw[rdL_at hi,step64 (by omega:j<4611686018427387904)];refine Ends.pos zaa (Ends.pos zaa (Ends.pos zaa (Ends.pos zaa (Ends.neg zac ?_))));exact same_l1 hi hl D hX n (j+1) zaa
theorem same_l0{ins outs ins' outs':List Int}{L:List (List S61)}(hL:L.length<=140737488355328)(hl: ∀l∈L,l.length<=140737488355328): ∀n i:Nat,i+n=L.length->Ends (fun k=>recoupref21_Same.l0 k (i:Int) ins L outs ins' L outs') true
 |0,i,h=>Ends.succ (fun k=>by rw[recoupref21_Same.l0]) (Ends.neg zaa (Ends.const rfl))
 |n+1,i,h=>by
  have hi:i<L.length:=by omega
  refine Ends.succ (fun k=>by rw[recoupref21_Same.l0]) (Ends.pos zaa (Ends.pos zaa (Ends.pos zaa (Ends.pos rfl ?_))));exact same_l1 hi (hl _ (List.getElem_mem hi)) zaa (same_l0 hL hl n (i+1) zaa) _ 0 (Nat.zero_add _)
theorem same_ends{ins outs:List Int}{L:List (List S61)}(hi:ins.length<=140737488355328)(ho:outs.length<=140737488355328)(hL:L.length<=140737488355328)(hl: ∀l∈L,l.length<=140737488355328):Ends (fun k=>recoupref21_Same.f k ins L outs ins L outs) true:=by
 unfold recoupref21_Same.f;refine Ends.bind (ints_ends hi) (Ends.pos rfl (Ends.bind (ints_ends ho) (Ends.pos rfl ?_)));refine Ends.succ (fun k=>by rw[recoupref21_Same.j0]) (Ends.neg zac ?_);exact same_l0 hL hl _ 0 (Nat.zero_add _)
theorem idx_split(v:Int): ∀(l:List S61) (i:Int),(idxT (fun t=>t.f0==v) l i= -1/\ ∀t∈l,t.f0≠v)∨ ∃A t B,l=A++t::B/\t.f0=v/\(∀x∈A,x.f0≠v)/\idxT (fun t=>t.f0==v) l i=i+(A.length:Int)
 | [],i=> .inl ⟨rfl,fun t h=>absurd h zac⟩
 |x::r,i=>by
  by_cases h:x.f0=v
  ·refine .inr ⟨[],x,r,rfl,h,fun y hy=>absurd hy zac,?_⟩;unfold idxT;rw[if_pos zaz];simp
  ·have hs:idxT (fun t=>t.f0==v) (x::r) i=idxT (fun t=>t.f0==v) r (i+1):=by
    conv=>lhs;unfold idxT
    rw[if_neg zaz]
   rw[hs];rcases idx_split v r (i+1)with⟨h1,h2⟩|⟨A,t,B,rfl,h2,h3,h4⟩
   ·refine .inl ⟨h1,fun t ht=>?_⟩;rcases List.mem_cons.1 ht with rfl|ht
    ·exact h
    ·exact h2 t ht
   ·refine .inr ⟨x::A,t,B,rfl,h2,fun y hy=>?_,by rw[h4,List.length_cons];omega⟩;rcases List.mem_cons.1 hy with rfl|hy
    ·exact h
    ·exact h3 y hy
theorem byF_none{v:Int} : ∀ {l:List S61},(∀t∈l,t.f0≠v)->byF l v=0
 | [],_=>rfl
 |t::r,h=>by
  rw[byF_cons,if_neg (h t List.mem_cons_self)];exact byF_none fun x hx=>h x (List.mem_cons_of_mem _ hx)
theorem byF_at{v:Int} : ∀ {A:List S61} {t:S61} {B:List S61},(∀x∈A,x.f0≠v)->t.f0=v->byF (A++t::B) v=t.f1
 | [],t,B,_,h=>by rw[List.nil_append,byF_cons,if_pos h]
 |x::A,t,B,hA,h=>by
  rw[List.cons_append,byF_cons,if_neg (hA x List.mem_cons_self)];exact byF_at (fun y hy=>hA y (List.mem_cons_of_mem _ hy)) h
theorem at_mid(A B:List S61)(t:S61):rd_T61 (A++t::B) (A.length:Int)=t:=by
 unfold rd_T61;rw[Int.toNat_natCast];exact mid_get A B t _
theorem filter_all{p:S61->Bool}{l:List S61}(h: ∀t∈l,p t=true):l.filter p=l:=List.filter_eq_self.2 h
theorem without_eq{l:List S61}(h:okN l)(hlen:l.length<=1000000)(hall:l.all okT=true)(q:Key)(hq:q.1<q.2.1)(hr:0<=q.2.2/\q.2.2<256)(c:Int):
 share_without.f l q.1 q.2.1 q.2.2 c 0=some (if inB q l=true then(dropP q l,byF l q.1,true)else(l,0,false)):=by
 unfold share_without.f;rw[if_pos ⟨hlen,hall⟩];rcases idx_split q.1 l 0 with⟨e1,n1⟩|⟨A,t,B,el,ht,hA,e1⟩
 ·have hin:inB q l=false:=by
   unfold inB;rw[byF_none n1];rfl
  rw[e1,if_pos (.inl zab),hin];rfl
 ·rcases idx_split q.2.1 l 0 with⟨e2,n2⟩|⟨A',s,B',el',hs,hA',e2⟩
  ·have hin:inB q l=false:=by
    unfold inB;rw[byF_none n2];simp
   rw[e2,if_pos (.inr (.inl zab)),hin];rfl
  ·rw[Int.zero_add]at e1 e2
   have O:byF l q.1=t.f1:=by rw[el];exact byF_at hA ht
   have aa:byF l q.2.1=s.f1:=by rw[el'];exact byF_at hA' hs
   have G:rd_T61 l (A.length:Int)=t:=by rw[el];exact at_mid A B t
   have I:rd_T61 l (A'.length:Int)=s:=by rw[el'];exact at_mid A' B' s
   have okt:okS t:=h.ok t (by rw[el];simp);have oks:okS s:=h.ok s (by rw[el'];simp);have hrat:=ratio_iff (a:=t.f1) (b:=s.f1) (r:=q.2.2) ⟨by have:=okt.1;omega,okt.2⟩ (by have:=okt.1;omega) ⟨by have:=oks.1;omega,oks.2⟩ hr;have hin:inB q l=true↔mulB s.f1 (invAt t.f1)=q.2.2:=by
    unfold inB;rw[O,aa,decide_eq_true (show t.f1≠0 from by have:=okt.1;omega),decide_eq_true (show s.f1≠0 from by have:=oks.1;omega),Bool.true_and,Bool.true_and,beq_iff_eq];exact hrat.symm
   rw[e1,e2,G,I];by_cases hm:mulB s.f1 (invAt t.f1)=q.2.2
   ·rw[if_neg zaa,if_pos (hin.2 hm),O];have up:=h.up;have hlt:A.length<A'.length:=by
     rcases Nat.lt_trichotomy A.length A'.length with h1|h1|h1
     ·exact h1
     ·exfalso;have:t=s:=by rw[<-G,<-I,h1]
      rw[this,hs]at ht
      omega
     ·exfalso;have g1:A.length<l.length:=by rw[el];simp
      have g2:A'.length<l.length:=by omega
      have:=(List.pairwise_iff_getElem.1 up) A'.length A.length g2 g1 h1;have x1:l[A.length] =t:=by rw[<-G,rd_T61_eq g1]
      have x2:l[A'.length] =s:=by rw[<-I,rd_T61_eq g2]
      rw[x1,x2]at this
      omega
    rw[if_pos zaa];simp only[Int.toNat_natCast]
    congr 2
    obtain⟨M,hM⟩: ∃M,A'=A++t::M:=by
     have e3:A'=l.take A'.length:=by rw[el',List.take_left]
     have e4:l.take A'.length=A++t::(B.take (A'.length-(A.length+1))):=by
      rw[el,List.take_append,List.take_of_length_le zaa];obtain⟨d,hd⟩: ∃d,A'.length-A.length=d+1:=⟨A'.length-A.length-1,by omega⟩
      rw[hd,List.take_succ_cons,show A'.length-(A.length+1)=d from by omega]
     exact⟨_,e3.trans e4⟩
    have D:l=A++t::(M++s::B'):=by rw[el',hM];simp
    have U:=up;rw[D]at U
    obtain⟨_,af,hx⟩:=List.pairwise_append.1 U;obtain⟨ac,ag⟩:=List.pairwise_cons.1 af;obtain⟨_,ah,ae⟩:=List.pairwise_append.1 ag;obtain⟨ab,_⟩:=List.pairwise_cons.1 ah;have X: ∀x∈A,x.f0<q.1:=fun x hxA=>by rw[<-ht];exact hx x hxA t List.mem_cons_self
    have Z: ∀x∈M,q.1<x.f0/\x.f0<q.2.1:=fun x hxM=>⟨by rw[<-ht];exact ac x (by simp[hxM]),by rw[<-hs];exact ae x hxM s List.mem_cons_self⟩
    have Y: ∀x∈B',q.2.1<x.f0:=fun x hxB=>by rw[<-hs];exact ab x hxB
    have hd:dropP q l=A++(M++B'):=by
     rw[D];unfold dropP
     rw[List.filter_append,List.filter_cons_of_neg (by simp[ht]),List.filter_append,List.filter_cons_of_neg (by simp[hs]),
      filter_all (fun x hxA=>by have:=X x hxA;simp;omega),filter_all (fun x hxM=>by have:=Z x hxM;simp;omega),filter_all (fun x hxB=>by have:=Y x hxB;simp;omega)]
    rw[hd];have t1:l.take A.length=A:=by rw[D,List.take_left]
    have t2:(l.take A'.length).drop (A.length+1)=M:=by
     have:l.take A'.length=A++t::M:=by rw[<-hM,el',List.take_left]
     rw[this,<-List.drop_drop,List.drop_left];rfl
    have t3:l.drop (A'.length+1)=B':=by rw[el',<-List.drop_drop,List.drop_left];rfl
    rw[t1,t2,t3]
   ·rw[if_pos (.inr (.inr hm)),if_neg (fun h=>hm (hin.1 h))]
theorem ins_idx(own b:Int): ∀(l:List S61) (i:Nat),(idxT (fun t=>decide (own<t.f0)) l (i:Int)= -1/\insT own b l=l++ [⟨own,b⟩])∨ ∃j:Nat,j<=l.length/\idxT (fun t=>decide (own<t.f0)) l (i:Int)=((i+j:Nat):Int)/\insT own b l=insN j ⟨own,b⟩ l
 | [],i=> .inl ⟨rfl,rfl⟩
 |x::r,i=>by
  by_cases h:own<x.f0
  ·refine .inr ⟨0,Nat.zero_le _,?_,?_⟩
   ·unfold idxT;rw[if_pos zaz];simp
   ·unfold insT;rw[if_pos h];rfl
  ·have hs:idxT (fun t=>decide (own<t.f0)) (x::r) (i:Int)=idxT (fun t=>decide (own<t.f0)) r ((i+1:Nat):Int):=by
    conv=>lhs;unfold idxT
    rw[if_neg zaz];rfl
   have ht:insT own b (x::r)=x::insT own b r:=by
    conv=>lhs;unfold insT
    rw[if_neg h]
   rw[hs,ht];rcases ins_idx own b r (i+1)with⟨h1,h2⟩|⟨j,h1,h2,h3⟩
   ·exact .inl ⟨h1,by rw[h2];rfl⟩
   ·refine .inr ⟨j+1,by rw[List.length_cons];omega,by rw[h2];congr 1;omega,?_⟩;rw[h3];rfl
structure nodeOk (l:List S61):Prop where
 ok:okN l
 len:l.length<=1000
 wf:l.all okT=true
 lo: ∀t∈l,0<=t.f0
 hi: ∀t∈l,t.f0<4611686018427387904
theorem drop_len(q:Key)(l:List S61):(dropP q l).length<=l.length:=List.length_filter_le _ _
theorem drop_mem{q:Key}{l:List S61}{t:S61}(h:t∈dropP q l):t∈l:=(List.mem_filter.1 h).1
theorem insT_len(own b:Int): ∀l:List S61,(insT own b l).length=l.length+1
 | []=>rfl
 |x::r=>by
  unfold insT
  split
  ·rfl
  ·rw[List.length_cons,insT_len own b r,List.length_cons]
section
variable {ins outs:List Int} {L:List (List S61)} {q:Key} {c:Int}
theorem tk_j3{l:List S61}{b own:Int}{is:Bool}{i:Nat}{Acc:List (List S61)}{X:List Int×List (List S61)×List Int}(hl:l.length<=1000000)(hA:Acc.length<5864062014805)(hi:i<4611686018427387904)
 (hX:Ends (fun k=>share_taken.l0 k 0 L (L.length:Int) ((i+1:Nat):Int) ins L outs q.1 q.2.1 q.2.2 c ins (Acc++ [if is=true then insT own b l else l]) own 0) X):
 Ends (fun k=>share_taken.j3 k 0 l b is L (L.length:Int) (i:Int) ins L outs q.1 q.2.1 q.2.2 c ins Acc own 0) X:=by
 refine Ends.succ (fun k=>by rw[share_taken.j3]) ?_
 cases is
 ·refine Ends.neg zab ?_;refine Ends.pos hA ?_;rw[step64 hi];exact hX
 ·refine Ends.pos rfl ?_;rw[if_pos rfl]at hX
  have hidx:api_Term_45.f l own=some (idxT (fun t=>decide (own<t.f0)) l 0):=by unfold api_Term_45.f;rw[if_pos zaa]
  refine Ends.bind1 hidx ?_;rcases ins_idx own b l 0 with⟨h1,h2⟩|⟨j,h1,h2,h3⟩
  ·have h1':idxT (fun t=>decide (own<t.f0)) l 0= -1:=h1;rw[h1'];refine Ends.pos zab ?_;refine Ends.pos zaa ?_;refine Ends.pos hA ?_;rw[step64 hi];rw[h2]at hX
   have e:insN l.length (⟨own,b⟩:S61) l=l++ [⟨own,b⟩]:=by simp[insN]
   rw[e];exact hX
  ·have h2':idxT (fun t=>decide (own<t.f0)) l 0=((j:Nat):Int):=by
    rw[<-Int.natCast_zero,h2,Nat.zero_add]
   rw[h2'];refine Ends.neg zaa ?_;refine Ends.pos ⟨by omega,by omega⟩ ?_;refine Ends.pos hA ?_;rw[step64 hi,Int.toNat_natCast];rw[h3]at hX
   exact hX
theorem tk_j2{l:List S61}{b own:Int}{is:Bool}{i:Nat}{Acc:List (List S61)}{X:List Int×List (List S61)×List Int}(hl:l.length<=1000000)(hb: ∀t∈l,t.f0<4611686018427387904/\ -4611686018427387904<t.f0)(hA:Acc.length<5864062014805)(hi:i<4611686018427387904)
 (hX:Ends (fun k=>share_taken.l0 k 0 L (L.length:Int) ((i+1:Nat):Int) ins L outs q.1 q.2.1 q.2.2 c ins (Acc++ [if is=true then insT own b (if own>=0 then l.map (shT own)else l)else(if own>=0 then l.map (shT own)else l)]) own 0) X):
 Ends (fun k=>share_taken.j2 k 0 l b is L (L.length:Int) (i:Int) ins L outs q.1 q.2.1 q.2.2 c ins Acc own 0) X:=by
 refine Ends.succ (fun k=>by rw[share_taken.j2]) ?_;by_cases h:own>=0
 ·refine Ends.pos h ?_;rw[if_pos h]at hX
  exact Ends.bind (shifted_ends zaa hb) (tk_j3 zay hA hi hX)
 ·refine Ends.neg h ?_;rw[if_neg h]at hX
  exact Ends.bind1 (clone_ends zaa) (tk_j3 hl hA hi hX)
theorem tk_step{A B:List (List S61)}{l:List S61}{own:Int}{Acc:List (List S61)}{X:List Int×List (List S61)×List Int}(hLe:L=A++l::B)(hn:nodeOk l)(hq:q.1<q.2.1)(hr:0<=q.2.2/\q.2.2<256)(hLl:L.length<=10000)(hA:Acc.length<=20000)(ho:0<=own∨inB q l=false)
 (hX:Ends (fun k=>share_taken.l0 k 0 L (L.length:Int) ((A.length+1:Nat):Int) ins L outs q.1 q.2.1 q.2.2 c ins (Acc++ [if own>=0 then nodeT own q l else l]) own 0) X):
 Ends (fun k=>share_taken.l0 k 0 L (L.length:Int) (A.length:Int) ins L outs q.1 q.2.1 q.2.2 c ins Acc own 0) X:=by
 have hAl:A.length<L.length:=by rw[hLe];simp
 have hrd:rd_L5 L (A.length:Int)=l:=by
  rw[hLe];unfold rd_L5;rw[Int.toNat_natCast];exact mid_get A B l _
 refine Ends.succ (fun k=>by rw[share_taken.l0]) ?_;refine Ends.pos zaa ?_;refine Ends.pos zaa ?_;refine Ends.pos zaa ?_;rw[hrd];have hw:=without_eq hn.ok (by have:=hn.len;omega) hn.wf q hq hr c;refine Ends.bind1 hw ?_;have hdl:=drop_len q l;have hlen:=hn.len
 cases hin:inB q l
 ·rw[if_neg zab]
  dsimp only
  refine Ends.neg zab ?_;refine Ends.succ (fun k=>by rw[share_taken.j1]) ?_;refine Ends.neg zab ?_;refine tk_j2 zaa (fun t ht=>⟨hn.hi t ht,by have:=hn.lo t ht;omega⟩) zaa zaa ?_;rw[if_neg zab];have e:(if own>=0 then nodeT own q l else l)=if own>=0 then l.map (shT own)else l:=by
   unfold nodeT;rw[hin];rfl
  rw[<-e];exact hX
 ·have ho':0<=own:=ho.resolve_right (by rw[hin];decide);rw[if_pos rfl]
  dsimp only
  refine Ends.pos rfl ?_;refine Ends.succ (fun k=>by rw[share_taken.j1]) ?_;refine Ends.neg (by simpa using ho') ?_;refine tk_j2 zaa (fun t ht=>⟨hn.hi t (drop_mem ht),by have:=hn.lo t (drop_mem ht);omega⟩) zaa zaa ?_;rw[if_pos rfl,if_pos ho'];rw[if_pos ho']at hX
  have e:nodeT own q l=insT own (byF l q.1) ((dropP q l).map (shT own)):=by unfold nodeT;rw[if_pos hin]
  rw[<-e];exact hX
theorem tk_l1{own:Int}{N:List (List S61)} : ∀(B A:List Int),(A++B).length<=17592186043904->(∀v∈B,v<4611686018427387904/\ -4611686018427387904<v)-> ∀A':List Int,A'.length=A.length->Ends (fun k=>share_taken.l1 k (A++B) ((A++B).length:Int) (A.length:Int) ins N A' own 0) (ins,N,A'++B.map (sh1 own))
 | [],A,_,_,A',_=>by
  refine Ends.succ (fun k=>by rw[share_taken.l1]) (Ends.neg zac (Ends.const ?_));simp
 |v::B,A,hl,hb,A',hA'=>by
  have hA:A.length<(A++v::B).length:=by simp
  have hv:=hb v List.mem_cons_self;have hr:rd (A++v::B) (A.length:Int)=v:=by rw[rd_nat];exact mid_get A B v _
  have e:A++v::B=(A++ [v])++B:=by simp
  have ea:A.length+1=(A++ [v]).length:=by simp
  refine Ends.succ (fun k=>by rw[share_taken.l1]) ?_;refine Ends.pos zaa ?_;refine Ends.pos zaa ?_;refine Ends.pos zaa ?_;rw[hr,step64 zaa,w64 zaa zaa];have ih:=fun A'' (h:A''.length=(A++ [v]).length)=>tk_l1 (own:=own) (N:=N) B (A++ [v]) (by rw[<-e];exact hl) (fun x hx=>hb x (List.mem_cons_of_mem _ hx)) A'' h;by_cases h:v>=own
  ·refine Ends.pos h ?_;refine Ends.pos zaa ?_;rw[e,ea];refine Ends.eq (ih (A'++ [v+1]) (by simp[hA'])) ?_;simp[sh1,h]
  ·refine Ends.neg h ?_;refine Ends.pos zaa ?_;rw[e,ea];refine Ends.eq (ih (A'++ [v]) (by simp[hA'])) ?_;simp[sh1,h]
theorem tk_post{own:Int}(ho:0<=own)(hq:q.1<q.2.1)(hr:0<=q.2.2/\q.2.2<256)(hLl:L.length<=10000)(hout:outs.length<=17592186043904)(hov: ∀v∈outs,v<4611686018427387904/\ -4611686018427387904<v): ∀(B A Acc:List (List S61)),L=A++B->(∀l∈B,nodeOk l)->Acc.length+B.length<=20000->
 Ends (fun k=>share_taken.l0 k 0 L (L.length:Int) (A.length:Int) ins L outs q.1 q.2.1 q.2.2 c ins Acc own 0) (ins,Acc++B.map (nodeT own q),outs.map (sh1 own))
 | [],A,Acc,hLe,_,_=>by
  have hAl:A.length=L.length:=by rw[hLe];simp
  refine Ends.succ (fun k=>by rw[share_taken.l0]) ?_;refine Ends.neg zaa ?_;have:=tk_l1 (ins:=ins) (own:=own) (N:=Acc) outs [] (by simpa using hout) hov [] rfl;simpa using this
 |l::B,A,Acc,hLe,hB,hlen=>by
  refine tk_step (own:=own) hLe (hB l List.mem_cons_self) hq hr hLl zaa (.inl ho) ?_;rw[if_pos ho];have ea:A.length+1=(A++ [l]).length:=by simp
  rw[ea];have ih:=tk_post ho hq hr hLl hout hov B (A++ [l]) (Acc++ [nodeT own q l]) zbh (fun x hx=>hB x (List.mem_cons_of_mem _ hx)) (by simp at hlen⊢;omega);refine Ends.eq ih ?_;simp
theorem tk_pre(hq:q.1<q.2.1)(hr:0<=q.2.2/\q.2.2<256)(hLl:L.length<=10000){X:List Int×List (List S61)×List Int}{A0 R0:List (List S61)}(hLe:L=A0++R0)(hok: ∀l∈A0,nodeOk l/\inB q l=false)
 (hX:Ends (fun k=>share_taken.l0 k 0 L (L.length:Int) (A0.length:Int) ins L outs q.1 q.2.1 q.2.2 c ins A0 (-1) 0) X): ∀(B A:List (List S61)),A0=A++B->Ends (fun k=>share_taken.l0 k 0 L (L.length:Int) (A.length:Int) ins L outs q.1 q.2.1 q.2.2 c ins A (-1) 0) X
 | [],A,e=>by
  rw[List.append_nil]at e
  rw[<-e];exact hX
 |l::B,A,e=>by
  have hm:l∈A0:=by rw[e];simp
  have hAl:A.length<L.length:=by rw[hLe,e];simp
  refine tk_step (A:=A) (B:=B++R0) (own:= -1) (by rw[hLe,e];simp) (hok l hm).1 hq hr hLl zaa (.inr (hok l hm).2) ?_;rw[if_neg zab];have ea:A.length+1=(A++ [l]).length:=by simp
  rw[ea];exact tk_pre hq hr hLl hLe hok hX B (A++ [l]) (by rw[e];simp)
theorem taken_ends(hq:q.1<q.2.1)(hr:0<=q.2.2/\q.2.2<256)(hLl:L.length<=10000)(hi:ins.length<=17592186043904)(hout:outs.length<=17592186043904)(hov: ∀v∈outs,v<4611686018427387904/\ -4611686018427387904<v){A B:List (List S61)}{l:List S61}(hLe:L=A++l::B)(hok: ∀x∈L,nodeOk x)(hA: ∀x∈A,inB q x=false)(hin:inB q l=true):
 Ends (fun k=>share_taken.f k ins L outs q.1 q.2.1 q.2.2 c 0) (ins,A++pairT q::(l::B).map (nodeT ((ins.length:Int)+(A.length:Int)) q),outs.map (sh1 ((ins.length:Int)+(A.length:Int)))):=by
 obtain⟨own,hown⟩: ∃x,x=(ins.length:Int)+(A.length:Int):=⟨_,rfl⟩
 rw[<-hown];have ho:0<=own:=by omega
 have hAl:A.length<L.length:=by rw[hLe];simp
 have hn:=hok l zbh;unfold share_taken.f;refine Ends.bind1 (cloneI_ends zaa) ?_;have hpost:=tk_post (ins:=ins) (outs:=outs) (q:=q) (c:=c) (L:=L) ho hq hr hLl hout hov B (A++ [l]) (A++ [pairT q]++ [nodeT own q l]) zbh (fun x hx=>hok x (by rw[hLe];simp[hx])) (by rw[hLe]at hLl;simp at hLl⊢;omega);have hmid:Ends (fun k=>share_taken.l0 k 0 L (L.length:Int) (A.length:Int) ins L outs q.1 q.2.1 q.2.2 c ins A (-1) 0) (ins,A++pairT q::(l::B).map (nodeT own q),outs.map (sh1 own)):=by
  have hrd:rd_L5 L (A.length:Int)=l:=by
   rw[hLe];unfold rd_L5;rw[Int.toNat_natCast];exact mid_get A B l _
  refine Ends.succ (fun k=>by rw[share_taken.l0]) ?_;refine Ends.pos zaa ?_;refine Ends.pos zaa ?_;refine Ends.pos zaa ?_;rw[hrd];have hw:=without_eq hn.ok (by have:=hn.len;omega) hn.wf q hq hr c;rw[if_pos hin]at hw
  refine Ends.bind1 hw ?_;have hdl:=drop_len q l;have hlen:=hn.len
  dsimp only
  refine Ends.pos rfl ?_;refine Ends.succ (fun k=>by rw[share_taken.j1]) ?_;refine Ends.pos zab ?_;refine Ends.pos ⟨by omega,rfl⟩ ?_;rw[w64 zaa zaa,<-hown];refine tk_j2 zaa (fun t ht=>⟨hn.hi t (drop_mem ht),by have:=hn.lo t (drop_mem ht);omega⟩) zaf zaa ?_;rw[if_pos rfl,if_pos ho];have e:nodeT own q l=insT own (byF l q.1) ((dropP q l).map (shT own)):=by unfold nodeT;rw[if_pos hin]
  rw[<-e];have ea:A.length+1=(A++ [l]).length:=by simp
  rw[ea];refine Ends.eq hpost ?_;simp
 have hpre:=tk_pre (ins:=ins) (outs:=outs) (q:=q) (c:=c) (L:=L) hq hr hLl (A0:=A) (R0:=l::B) hLe (fun x hx=>⟨hok x (by rw[hLe];simp[hx]),hA x hx⟩) hmid A [] rfl;simpa using hpre
end
def filB(is:Bool)(q:Key)(S:List S61):List S61:=if is=true then dropP q S else S
def tailB(is put:Bool)(q:Key)(own b:Int)(S:List S61):List S61:=if put=true then(filB is q S).map (shT own)else insT own b ((filB is q S).map (shT own))
theorem tailB_nil(is:Bool)(q:Key)(own b:Int)(put:Bool):tailB is put q own b [] =if put=true then []else [⟨own,b⟩]:=by
 cases is<;>cases put<;>rfl
theorem filB_skip{is:Bool}{q:Key}{t:S61}{S:List S61}(h:is=true/\(t.f0=q.1∨t.f0=q.2.1)):filB is q (t::S)=filB is q S:=by
 unfold filB;rw[if_pos h.1,if_pos h.1];unfold dropP;rw[List.filter_cons_of_neg];rcases h.2 with e|e<;>simp[e]
theorem filB_keep{is:Bool}{q:Key}{t:S61}{S:List S61}(h: ¬(is=true/\(t.f0=q.1∨t.f0=q.2.1))):filB is q (t::S)=t::filB is q S:=by
 unfold filB
 cases is
 ·rfl
 ·rw[if_pos rfl,if_pos rfl];unfold dropP;rw[List.filter_cons_of_pos];have h2: ¬(t.f0=q.1∨t.f0=q.2.1):=fun e=>h ⟨rfl,e⟩;simp only[Bool.and_eq_true,decide_eq_true_eq];exact⟨fun e=>h2 (.inl e),fun e=>h2 (.inr e)⟩
section
variable {ins outs J:List Int} {L:List (List S61)} {q:Key} {c:Int} {a own:Int}
abbrev runR2(ins outs J:List Int)(L:List (List S61))(q:Key)(c a own:Int)(n:Nat)(is:Bool)(acc:List S61)(put:Bool)(i:Nat)(Acc:List (List S61))(k:Nat):=recoupref22_Once.l2 k a own (n:Int) is acc put (i:Int) ins L outs q.1 q.2.1 q.2.2 c J Acc
abbrev runR1(ins outs J:List Int)(L:List (List S61))(q:Key)(c a own:Int)(n:Nat)(Acc:List (List S61))(k:Nat):=recoupref22_Once.l1 k a own (n:Int) ins L outs q.1 q.2.1 q.2.2 c J Acc
theorem rf_l2{n:Nat}(hn:n<L.length)(hLl:L.length<=10000){l:List S61}(hl:rd_L5 L (n:Int)=l)(hno:nodeOk l){is:Bool}{Acc:List (List S61)}(hA:Acc.length<=20000){X:List Int×List (List S61)×List Int×Bool×Int} : ∀(S P:List S61) (acc:List S61) (put:Bool),l=P++S->acc.length+2*S.length<=5000->(is=false->put=true)->
 Ends (runR1 ins outs J L q c a own (n+1) (Acc++ [acc++tailB is put q own (byF l q.1) S])) X->Ends (runR2 ins outs J L q c a own n is acc put P.length Acc) X
 | [],P,acc,put,e,hacc,hput,hX=>by
  have hPl:P.length=l.length:=by rw[e];simp
  have hll:=hno.len;rw[tailB_nil]at hX
  refine Ends.succ (fun k=>by unfold runR2;rw[recoupref22_Once.l2]) ?_;refine Ends.pos zaa ?_;refine Ends.pos zaa ?_;rw[hl];refine Ends.neg zaa ?_
  cases put
  ·refine Ends.neg zab ?_;refine Ends.bind (by_ends zaa q.1) ?_;refine Ends.pos (by simp at hacc;omega) ?_;refine Ends.pos zaa ?_;rw[step64 zaa];exact hX
  ·refine Ends.pos rfl ?_;refine Ends.pos zaa ?_;rw[step64 zaa];rw[if_pos rfl,List.append_nil]at hX
   exact hX
 |t::S,P,acc,put,e,hacc,hput,hX=>by
  have hPl:P.length<l.length:=by rw[e];simp
  have hll:=hno.len;have ht:rd_T61 l (P.length:Int)=t:=by rw[e];exact at_mid P S t
  have hm:t∈l:=by rw[e];simp
  have hlo:=hno.lo t hm;have hhi:=hno.hi t hm;have e2:l=(P++ [t])++S:=by rw[e];simp
  have ep:P.length+1=(P++ [t]).length:=by simp
  have hacc':acc.length+2*(S.length+1)<=5000:=by simpa using hacc
  have D: ∀skip:Bool,(skip=true↔(is=true/\(t.f0=q.1∨t.f0=q.2.1)))->Ends (fun k=>recoupref22_Once.j4 k a own (n:Int) is acc put (P.length:Int) skip ins L outs q.1 q.2.1 q.2.2 c J Acc t.f0 t.f1) X:=by
   intro skip hskip;refine Ends.succ (fun k=>by rw[recoupref22_Once.j4]) ?_;rw[step64 (by omega:P.length<4611686018427387904),hl,ep]
   cases skip
   ·refine Ends.neg zab ?_;have hk:=filB_keep (S:=S) (fun h=>absurd (hskip.2 h) zab: ¬(is=true/\(t.f0=q.1∨t.f0=q.2.1)));by_cases hg:t.f0>=own
    ·have hs:shT own t=⟨t.f0+1,t.f1⟩:=by unfold shT sh1;rw[if_pos hg]
     refine Ends.pos hg ?_;rw[w64 zaa zaa]
     cases put
     ·refine Ends.neg zab ?_;refine Ends.pos zaa ?_;refine Ends.pos zaa ?_;refine Ends.pos zaa ?_;refine Ends.bind (by_ends zaa q.1) ?_;refine Ends.pos zaa ?_;refine Ends.bind1 rfl ?_;refine Ends.pos zaf ?_;refine rf_l2 hn hLl hl hno hA S (P++ [t]) _ true e2 zaf (fun _=>rfl) ?_;have et:tailB is false q own (byF l q.1) (t::S)=⟨own,byF l q.1⟩::⟨t.f0+1,t.f1⟩::tailB is true q own (byF l q.1) S:=by
       unfold tailB;rw[hk,if_neg zab,if_pos rfl,List.map_cons,hs]
       conv=>lhs;unfold insT
       rw[if_pos (show own<t.f0+1 by omega)]
      rw[et]at hX
      simpa using hX
     ·refine Ends.pos rfl ?_;refine Ends.pos zaa ?_;refine rf_l2 hn hLl hl hno hA S (P++ [t]) _ true e2 zaf (fun _=>rfl) ?_;have et:tailB is true q own (byF l q.1) (t::S)=⟨t.f0+1,t.f1⟩::tailB is true q own (byF l q.1) S:=by
       unfold tailB;rw[hk,if_pos rfl,if_pos rfl,List.map_cons,hs]
      rw[et]at hX
      simpa using hX
    ·have hs:shT own t=t:=by unfold shT sh1;rw[if_neg hg]
     refine Ends.neg hg ?_
     cases put
     ·refine Ends.neg zab ?_;refine Ends.neg zaa ?_;refine Ends.pos zaa ?_;refine rf_l2 hn hLl hl hno hA S (P++ [t]) _ false e2 zaf hput ?_;have et:tailB is false q own (byF l q.1) (t::S)=t::tailB is false q own (byF l q.1) S:=by
       unfold tailB;rw[hk,if_neg zab,if_neg zab,List.map_cons,hs]
       conv=>lhs;unfold insT
       rw[if_neg (show¬own<t.f0 by omega)]
      rw[et]at hX
      simpa using hX
     ·refine Ends.pos rfl ?_;refine Ends.pos zaa ?_;refine rf_l2 hn hLl hl hno hA S (P++ [t]) _ true e2 zaf (fun _=>rfl) ?_;have et:tailB is true q own (byF l q.1) (t::S)=t::tailB is true q own (byF l q.1) S:=by
       unfold tailB;rw[hk,if_pos rfl,if_pos rfl,List.map_cons,hs]
      rw[et]at hX
      simpa using hX
   ·refine Ends.pos rfl ?_;refine rf_l2 hn hLl hl hno hA S (P++ [t]) acc put e2 zaa hput ?_;have et:tailB is put q own (byF l q.1) (t::S)=tailB is put q own (byF l q.1) S:=by
     unfold tailB;rw[filB_skip (hskip.1 rfl)]
    rw[et]at hX
    exact hX
  refine Ends.succ (fun k=>by unfold runR2;rw[recoupref22_Once.l2]) ?_;refine Ends.pos zaa ?_;refine Ends.pos zaa ?_;rw[hl,ht];refine Ends.pos zaa ?_;refine Ends.pos zaa ?_
  cases is
  ·refine Ends.neg zab ?_;exact D false zac
  ·refine Ends.pos rfl ?_;by_cases h1:t.f0=q.1
   ·refine Ends.pos h1 ?_;exact D true (by simp[h1])
   ·refine Ends.neg h1 ?_;exact D _ (by simp[h1])
theorem rf_node{n:Nat}(hn:n<L.length)(hLl:L.length<=10000){l:List S61}(hl:rd_L5 L (n:Int)=l)(hno:nodeOk l)(hr:0<=q.2.2/\q.2.2<256){Acc:List (List S61)}(hA:Acc.length<=20000){X:List Int×List (List S61)×List Int×Bool×Int}
 (hX:Ends (runR1 ins outs J L q c a own (n+1) (Acc++ [nodeT own q l])) X):Ends (fun k=>recoupref22_Once.j2 k a own (n:Int) ins L outs q.1 q.2.1 q.2.2 c J Acc) X:=by
 refine Ends.succ (fun k=>by rw[recoupref22_Once.j2]) ?_;refine Ends.pos zaa ?_;refine Ends.pos zaa ?_;rw[hl];refine Ends.bind (in_ends hno.ok q hr) ?_;have hll:=hno.len;refine rf_l2 (ins:=ins) (outs:=outs) (J:=J) (c:=c) (a:=a) (own:=own) hn hLl hl hno hA l [] [] (!inB q l) rfl zaf (fun h=>by rw[h];rfl) ?_;have e:tailB (inB q l) (!inB q l) q own (byF l q.1) l=nodeT own q l:=by
  unfold tailB nodeT filB
  cases inB q l<;>rfl
 rw[e];exact hX
theorem rf_l3{N:List (List S61)} : ∀(B A:List Int),(A++B).length<=17592186043904->(∀v∈B,v<4611686018427387904/\ -4611686018427387904<v)-> ∀A':List Int,A'.length=A.length->Ends (fun k=>recoupref22_Once.l3 k own (A.length:Int) ins L (A++B) J N A') (J,N,A'++B.map (sh1 own),true,0)
 | [],A,_,_,A',_=>by
  refine Ends.succ (fun k=>by rw[recoupref22_Once.l3]) (Ends.neg zac (Ends.const ?_));simp
 |v::B,A,hl,hb,A',hA'=>by
  have hA:A.length<(A++v::B).length:=by simp
  have hv:=hb v List.mem_cons_self;have hr:rd (A++v::B) (A.length:Int)=v:=by rw[rd_nat];exact mid_get A B v _
  have e:A++v::B=(A++ [v])++B:=by simp
  have ea:A.length+1=(A++ [v]).length:=by simp
  refine Ends.succ (fun k=>by rw[recoupref22_Once.l3]) ?_;refine Ends.pos zaa ?_;refine Ends.pos zaa ?_;rw[hr,step64 zaa,w64 zaa zaa];have ih:=fun A'' (h:A''.length=(A++ [v]).length)=>rf_l3 (N:=N) B (A++ [v]) (by rw[<-e];exact hl) (fun x hx=>hb x (List.mem_cons_of_mem _ hx)) A'' h;by_cases h:v>=own
  ·refine Ends.pos h ?_;refine Ends.pos zaa ?_;rw[e,ea];refine Ends.eq (ih (A'++ [v+1]) (by simp[hA'])) ?_;simp[sh1,h]
  ·refine Ends.neg h ?_;refine Ends.pos zaa ?_;rw[e,ea];refine Ends.eq (ih (A'++ [v]) (by simp[hA'])) ?_;simp[sh1,h]
def nodesR(own:Int)(q:Key)(a:Nat):Nat->List (List S61)->List (List S61)
 |_,[]=> []
 |n,l::B=>(if n=a then [pairT q]else [])++nodeT own q l::nodesR own q a (n+1) B
theorem rf_l1{a:Nat}(hLl:L.length<=10000)(hr:0<=q.2.2/\q.2.2<256)(hout:outs.length<=17592186043904)(hov: ∀v∈outs,v<4611686018427387904/\ -4611686018427387904<v): ∀(B A Acc:List (List S61)),L=A++B->(∀l∈B,nodeOk l)->Acc.length+2*B.length<=20000->
 Ends (runR1 ins outs J L q c (a:Int) own A.length Acc) (J,Acc++nodesR own q a A.length B,outs.map (sh1 own),true,0)
 | [],A,Acc,e,_,_=>by
  have hAl:A.length=L.length:=by rw[e];simp
  refine Ends.succ (fun k=>by unfold runR1;rw[recoupref22_Once.l1]) ?_;refine Ends.neg zaa ?_;have:=rf_l3 (ins:=ins) (L:=L) (J:=J) (own:=own) (N:=Acc) outs [] (by simpa using hout) hov [] rfl;simpa[nodesR]using this
 |l::B,A,Acc,e,hB,hlen=>by
  have hAl:A.length<L.length:=by rw[e];simp
  have hrd:rd_L5 L (A.length:Int)=l:=by
   rw[e];unfold rd_L5;rw[Int.toNat_natCast];exact mid_get A B l _
  have ea:A.length+1=(A++ [l]).length:=by simp
  have hlen':Acc.length+2*(B.length+1)<=20000:=by simpa using hlen
  have e2:L=(A++ [l])++B:=by rw[e];simp
  refine Ends.succ (fun k=>by unfold runR1;rw[recoupref22_Once.l1]) ?_;refine Ends.pos zaa ?_;by_cases h:A.length=a
  ·refine Ends.pos zaa ?_;refine Ends.pos zaa ?_;refine rf_node hAl hLl hrd (hB l List.mem_cons_self) hr zaf ?_;have ih:=rf_l1 (a:=a) hLl hr hout hov B (A++ [l]) (Acc++ [pairT q]++ [nodeT own q l]) e2 (fun x hx=>hB x (List.mem_cons_of_mem _ hx)) zaf;rw[ea];refine Ends.eq ih ?_;rw[<-ea]
   conv=>rhs;unfold nodesR
   rw[if_pos h];simp
  ·refine Ends.neg zaa ?_;refine rf_node hAl hLl hrd (hB l List.mem_cons_self) hr zaa ?_;have ih:=rf_l1 (a:=a) hLl hr hout hov B (A++ [l]) (Acc++ [nodeT own q l]) e2 (fun x hx=>hB x (List.mem_cons_of_mem _ hx)) zaf;rw[ea];refine Ends.eq ih ?_;rw[<-ea]
   conv=>rhs;unfold nodesR
   rw[if_neg h];simp
theorem rf_l0(hLl:L.length<=10000)(hi:ins.length<=17592186043904)(hr:0<=q.2.2/\q.2.2<256)(hok: ∀l∈L,nodeOk l){X:List Int×List (List S61)×List Int×Bool×Int}{A0:List (List S61)}{l:List S61}{R0:List (List S61)}(hLe:L=A0++l::R0)(hA: ∀x∈A0,inB q x=false)(hin:inB q l=true)
 (hX:Ends (runR1 ins outs ins L q c (A0.length:Int) ((ins.length:Int)+(A0.length:Int)) 0 []) X): ∀(B A:List (List S61)),A0=A++B->Ends (fun k=>recoupref22_Once.l0 k (A.length:Int) ins L outs q.1 q.2.1 q.2.2 c) X
 | [],A,e=>by
  rw[List.append_nil]at e
  subst e;have hAl:A0.length<L.length:=by rw[hLe];simp
  have hrd:rd_L5 L (A0.length:Int)=l:=by
   rw[hLe];unfold rd_L5;rw[Int.toNat_natCast];exact mid_get A0 R0 l _
  refine Ends.succ (fun k=>by rw[recoupref22_Once.l0]) ?_;refine Ends.pos zaa ?_;refine Ends.pos zaa ?_;rw[hrd];refine Ends.bind (in_ends (hok l zbh).ok q hr) ?_;rw[hin];refine Ends.pos rfl ?_;refine Ends.bind1 rfl ?_;refine Ends.pos zaf ?_;rw[w64 zaa zaa,List.nil_append];exact hX
 |b::B,A,e=>by
  have hAl:A.length<L.length:=by rw[hLe,e];simp
  have hrd:rd_L5 L (A.length:Int)=b:=by
   rw[hLe,e];unfold rd_L5;rw[Int.toNat_natCast,List.append_assoc,List.cons_append];exact mid_get A _ b _
  have hm:b∈A0:=by rw[e];simp
  have ea:A.length+1=(A++ [b]).length:=by simp
  refine Ends.succ (fun k=>by rw[recoupref22_Once.l0]) ?_;refine Ends.pos zaa ?_;refine Ends.pos zaa ?_;rw[hrd];refine Ends.bind (in_ends (hok b (by rw[hLe];simp[hm])).ok q hr) ?_;rw[hA b hm];refine Ends.neg zab ?_;rw[step64 zaa,ea];exact rf_l0 hLl hi hr hok hLe hA hin hX B (A++ [b]) (by rw[e];simp)
end
theorem nodeT_id{own:Int}{q:Key}{l:List S61}(h:inB q l=false)(hb: ∀t∈l,t.f0<own):nodeT own q l=l:=by
 unfold nodeT;rw[h,if_neg zab];have: ∀t∈l,shT own t=t:=fun t ht=>by
  have:=hb t ht;unfold shT sh1;rw[if_neg zaa]
 rw[List.map_congr_left this];simp
theorem nodesR_behind(own:Int)(q:Key)(a:Nat): ∀(B:List (List S61)) (n:Nat),a<n->nodesR own q a n B=B.map (nodeT own q)
 | [],_,_=>rfl
 |l::B,n,h=>by
  unfold nodesR;rw[if_neg zaa,nodesR_behind own q a B (n+1) zaa];rfl
theorem nodesR_eq{own:Int}{q:Key}{l:List S61}{R0:List (List S61)} : ∀(A:List (List S61)) (n a:Nat),a=n+A.length->(∀x∈A,nodeT own q x=x)->nodesR own q a n (A++l::R0)=A++pairT q::(l::R0).map (nodeT own q)
 | [],n,a,h,_=>by
  simp only[List.length_nil,Nat.add_zero]at h;subst h;rw[List.nil_append];unfold nodesR;rw[if_pos rfl,nodesR_behind own q a R0 (a+1) zaa];rfl
 |x::A,n,a,h,hx=>by
  rw[List.cons_append];unfold nodesR;rw[List.length_cons]at h
  rw[if_neg zaa,hx x List.mem_cons_self,nodesR_eq A (n+1) a zaa (fun y hy=>hx y (List.mem_cons_of_mem _ hy))];rfl
def aheadL(q:Key)(L:List (List S61)):List (List S61):=L.takeWhile fun l=> !inB q l
def behindL(q:Key)(L:List (List S61)):List (List S61):=L.dropWhile fun l=> !inB q l
def ownV(ins:List Int)(q:Key)(L:List (List S61)):Int:=(ins.length:Int)+((aheadL q L).length:Int)
def takL(ins:List Int)(q:Key)(L:List (List S61)):List (List S61):=aheadL q L++pairT q::(behindL q L).map (nodeT (ownV ins q L) q)
def takO(ins:List Int)(q:Key)(L:List (List S61))(outs:List Int):List Int:=outs.map (sh1 (ownV ins q L))
theorem ahead_behind(q:Key)(L:List (List S61)):L=aheadL q L++behindL q L:=List.takeWhile_append_dropWhile.symm
theorem ahead_not{q:Key} : ∀ {L:List (List S61)},∀x∈aheadL q L,inB q x=false
 | [],x,h=>absurd h (by simp[aheadL])
 |l::L,x,h=>by
  unfold aheadL at h;rw[List.takeWhile_cons]at h
  cases e:inB q l
  ·rw[e]at h
   simp only[Bool.not_false,if_true]at h;rcases List.mem_cons.1 h with rfl|h
   ·exact e
   ·exact ahead_not x h
  ·rw[e]at h
   simp at h
theorem behind_cons{q:Key} : ∀ {L:List (List S61)},(∃x∈L,inB q x=true)-> ∃l B,behindL q L=l::B/\inB q l=true
 | [],h=>by obtain⟨x,hx,_⟩:=h;exact absurd hx zac
 |l::L,h=>by
  unfold behindL;rw[List.dropWhile_cons]
  cases e:inB q l
  ·obtain⟨x,hx,hin⟩:=h;have hx':x∈L:=by
    rcases List.mem_cons.1 hx with rfl|hx
    ·rw[e]at hin;cases hin
    ·exact hx
   obtain⟨l',B,h1,h2⟩:=behind_cons ⟨x,hx',hin⟩;exact⟨l',B,by simpa[behindL]using h1,h2⟩
  ·exact⟨l,L,by simp,e⟩
theorem keysN_mem{q:Key} : ∀ {l:List S61},(l.Pairwise fun a b=>a.f0<b.f0)->q∈keysN l->q.1<q.2.1/\0<=q.2.2/\q.2.2<256
 | [],_,h=>absurd h (by simp[keysN])
 |t::r,hp,h=>by
  unfold keysN at h;obtain⟨h1,h2⟩:=List.pairwise_cons.1 hp;rcases List.mem_append.1 h with h|h
  ·unfold pairsF at h;obtain⟨s,hs,rfl⟩:=List.mem_map.1 h;exact⟨h1 s hs,(mulB_some (a:=s.f1) (invAt_range t.f1)).2⟩
  ·exact keysN_mem h2 h
theorem keysL_mem{q:Key}{L:List (List S61)}(hN: ∀l∈L,okN l)(h:q∈keysL L):q.1<q.2.1/\0<=q.2.2/\q.2.2<256:=by
 unfold keysL at h;obtain⟨l,hl,hq⟩:=List.mem_flatMap.1 h;exact keysN_mem (hN l hl).up hq
theorem terms_hi{own:Int} : ∀ {l:List S61} {last:Int},termsOk own last l=true-> ∀t∈l,last<t.f0/\t.f0<own
 | [],_,_,t,h=>absurd h zac
 |t::r,last,h,x,hx=>by
  unfold termsOk at h;simp only[Bool.and_eq_true,decide_eq_true_eq]at h;obtain⟨⟨⟨h1,h2⟩,_⟩,h4⟩:=h;rcases List.mem_cons.1 hx with rfl|hx
  ·exact⟨h1,h2⟩
  ·have:=terms_hi h4 x hx;exact⟨by omega,this.2⟩
theorem nodes_hi: ∀ {L:List (List S61)} {n:Int},nodesOk n L=true-> ∀l∈L,∀t∈l, -1<t.f0/\t.f0<n+(L.length:Int)
 | [],_,_,l,h,_,_=>absurd h zac
 |l::L,n,h,x,hx,t,ht=>by
  unfold nodesOk at h;rw[Bool.and_eq_true]at h
  rw[List.length_cons];rcases List.mem_cons.1 hx with rfl|hx
  ·have:=terms_hi h.1 t ht;omega
  ·have:=nodes_hi h.2 x hx t ht;omega
theorem nodes_split: ∀ {A B:List (List S61)} {n:Int},nodesOk n (A++B)=true->nodesOk n A=true/\nodesOk (n+(A.length:Int)) B=true
 | [],B,n,h=>⟨rfl,by simpa using h⟩
 |l::A,B,n,h=>by
  rw[List.cons_append]at h
  unfold nodesOk at h;rw[Bool.and_eq_true]at h
  obtain⟨h1,h2⟩:=nodes_split h.2;refine⟨by unfold nodesOk;rw[h.1,h1];rfl,?_⟩;rw[List.length_cons];rw[show n+((A.length+1:Nat):Int)=n+1+(A.length:Int)from by omega];exact h2
theorem len_sum{L:List (List S61)} : ∀ {l:List S61},l∈L->l.length<=sumL L:=by
 induction L with
 |nil=>intro l h;exact absurd h zac
 |cons x L ih=>
  intro l h;unfold sumL;rcases List.mem_cons.1 h with rfl|h
  ·omega
  ·have:=ih h;omega
structure Small (ins:List Int) (L:List (List S61)) (outs:List Int):Prop where
 may:mayB ins L outs=true
 ins:ins.length<=17592186043904
 len:L.length<4096
 sum:sumL L<=512
 wf: ∀l∈L,∀t∈l,okT t=true
theorem Small.parts{ins outs:List Int}{L:List (List S61)}(h:Small ins L outs):nodesOk ins.length L=true/\outs.length<=64/\(∀v∈outs,0<=v/\v<(ins.length:Int)+(L.length:Int))/\insOk (-1) ins=true:=by
 have h1:=h.may;unfold mayB sizeOk outsOk at h1;simp only[Bool.and_eq_true,decide_eq_true_eq,List.all_eq_true]at h1;exact⟨h1.2.2.1,h1.2.1.2,h1.2.2.2,h1.1⟩
theorem Small.nodes{ins outs:List Int}{L:List (List S61)}(h:Small ins L outs): ∀l∈L,nodeOk l:=by
 have hp:=h.parts.1;have hlen: ∀l∈L,l.length<=512:=fun l hl=>Nat.le_trans (len_sum hl) h.sum;have hN:=nodes_ok hp (fun l hl=>by have:=hlen l hl;omega) (fun l hl t ht=>(okT_wf (h.wf l hl t ht)).2);intro l hl;have hh:=nodes_hi hp l hl;have h1:=h.ins;have h2:=h.len;exact⟨hN l hl,by have:=hlen l hl;omega,List.all_eq_true.2 (h.wf l hl),fun t ht=>by have:=(hh t ht).1;omega,fun t ht=>by have:=(hh t ht).2;omega⟩
theorem take_both{ins outs:List Int}{L:List (List S61)}(h:Small ins L outs){q:Key}(hq:q.1<q.2.1)(hr:0<=q.2.2/\q.2.2<256)(hin: ∃x∈L,inB q x=true)(c:Int):
 Ends (fun k=>share_taken.f k ins L outs q.1 q.2.1 q.2.2 c 0) (ins,takL ins q L,takO ins q L outs)/\Ends (fun k=>recoupref22_Once.l0 k 0 ins L outs q.1 q.2.1 q.2.2 c) (ins,takL ins q L,takO ins q L outs,true,0):=by
 obtain⟨l,B,hb,hl⟩:=behind_cons hin;have hLe:=ahead_behind q L;rw[hb]at hLe
 obtain⟨hnd,hol,hov,_⟩:=h.parts;have hok:=h.nodes;have hLl:L.length<=10000:=by have:=h.len;omega
 have hil:=h.ins;have D: ∀v∈outs,v<4611686018427387904/\ -4611686018427387904<v:=fun v hv=>by
  have:=hov v hv;have:=h.len;omega
 have hA:=ahead_not (q:=q) (L:=L);have htl:takL ins q L=aheadL q L++pairT q::(l::B).map (nodeT (ownV ins q L) q):=by unfold takL;rw[hb]
 constructor
 ·have:=taken_ends (ins:=ins) (outs:=outs) (L:=L) (q:=q) (c:=c) hq hr hLl hil zaa D hLe hok hA hl;rw[htl];exact this
 ·refine rf_l0 (ins:=ins) (outs:=outs) (L:=L) (q:=q) (c:=c) hLl hil hr hok hLe hA hl ?_ (aheadL q L) [] rfl;have hnid: ∀x∈aheadL q L,nodeT (ownV ins q L) q x=x:=fun x hx=>by
   refine nodeT_id (hA x hx) fun t ht=>?_;rw[hLe]at hnd
   exact(nodes_hi (nodes_split hnd).1 x hx t ht).2
  have:=rf_l1 (ins:=ins) (outs:=outs) (J:=ins) (L:=L) (q:=q) (c:=c) (own:=ownV ins q L) (a:=(aheadL q L).length) hLl hr zaa D L [] [] rfl hok (by have:=h.len;simp;omega);refine Ends.eq this ?_;have e:=nodesR_eq (own:=ownV ins q L) (q:=q) (l:=l) (R0:=B) (aheadL q L) 0 (aheadL q L).length zaa hnid;rw[<-hLe]at e
  rw[htl];show(ins,[]++nodesR (ownV ins q L) q (aheadL q L).length 0 L,_,true,0)=_;rw[List.nil_append,e];rfl
def okV(ins:List Int)(L:List (List S61))(outs:List Int):Bool:=(bestV ins L outs).2.2.2.2.1
def keyV(L:List (List S61)):Key:=(bestQ (keysL L)).1
theorem okV_small{ins outs:List Int}{L:List (List S61)}(hi:ins.length<=17592186043904)(hl: ∀l∈L,l.length<=140737488355328)(hw: ∀l∈L,∀t∈l,okT t=true)(h:okV ins L outs=true):
 Small ins L outs/\bestV ins L outs=((keyV L).1,(keyV L).2.1,(keyV L).2.2,(bestQ (keysL L)).2,true,0)/\(keyV L).1<(keyV L).2.1/\(0<=(keyV L).2.2/\(keyV L).2.2<256)/\(bestQ (keysL L)).2=(L.countP (inB (keyV L)):Int)/\(bestQ (keysL L)).2>1:=by
 unfold okV at h
 cases e:mayB ins L outs
 ·unfold bestV at h;rw[e]at h
  cases h
 ·have hv:bestV ins L outs=if totT L L.length>512∨4096<=L.length then(0,0,0,0,false,0)else ansB (bestQ (keysL L)):=by unfold bestV;rw[e,if_pos rfl]
  rw[hv]at h⊢
  by_cases h1:totT L L.length>512∨4096<=L.length
  ·rw[if_pos h1]at h
   cases h
  ·rw[if_neg h1]at h⊢
   have hlt:L.length<4096:=by omega
   have hs:=totT_eq hlt hl L.length (Nat.le_refl _);rw[List.take_length]at hs
   have hsm:Small ins L outs:=⟨e,hi,hlt,by omega,hw⟩
   have hN: ∀l∈L,okN l:=fun l hx=>(hsm.nodes l hx).ok;unfold ansB at h⊢;by_cases h2:(bestQ (keysL L)).2>1
   ·rw[if_pos h2];rcases bestQ_is (keysL L)with⟨h3,_⟩|⟨h3,h4,_,_⟩
    ·rw[h3]at h2
     exact absurd h2 zab
    ·obtain⟨g1,g2⟩:=keysL_mem hN h3;refine⟨hsm,rfl,g1,g2,?_,h2⟩;rw[h4];unfold cntQ;rw[keysL_count _ g1 g2 hN];rfl
   ·rw[if_neg h2]at h
    cases h
def onceV(ins:List Int)(L:List (List S61))(outs:List Int):List Int×List (List S61)×List Int×Bool×Int:=
 if mayB ins L outs=true then(if okV ins L outs=true then(ins,takL ins (keyV L) L,takO ins (keyV L) L outs,true,0)else(ins,L,outs,false,0))else([],[],[],false,2)
theorem once_both{ins outs:List Int}{L:List (List S61)}(hi:ins.length<=17592186043904)(ho:outs.length<=17592186043904)(hL:L.length<=5864062014634)(hl: ∀l∈L,l.length<=8796093021952)(hw: ∀l∈L,∀t∈l,okT t=true):
 Ends (fun k=>share_Once.f k ins L outs) (onceV ins L outs)/\Ends (fun k=>recoupref22_Once.f k ins L outs) (onceV ins L outs):=by
 obtain⟨b1,b2⟩:=best_both (ins:=ins) (outs:=outs) (L:=L) zaa zaa zaa (fun l hx=>by have:=hl l hx;omega) hw;unfold onceV
 cases e:mayB ins L outs
 ·have ev:bestV ins L outs=(0,0,0,0,false,2):=by unfold bestV;rw[e];rfl
  rw[ev]at b1 b2
  rw[if_neg zab];exact⟨Ends.bind b1 (Ends.neg zab (Ends.const rfl)),Ends.bind b2 (Ends.neg zab (Ends.const rfl))⟩
 ·rw[if_pos rfl]
  cases ek:okV ins L outs
  ·rw[if_neg zab];have ev:(bestV ins L outs).2.2.2.2.1=false/\(bestV ins L outs).2.2.2.2.2=0:=by
    refine⟨ek,?_⟩;unfold bestV;rw[e,if_pos rfl]
    split
    ·rfl
    ·unfold ansB
     split<;>rfl
   refine⟨Ends.bind b1 ?_,Ends.bind b2 ?_⟩
   ·refine Ends.pos ev.2 ?_;rw[ev.1];refine Ends.neg zab ?_;exact Ends.bind (copied_ends hi ho hL hl) (Ends.const rfl)
   ·refine Ends.pos ev.2 ?_;rw[ev.1];refine Ends.neg zab ?_;exact Ends.bind (copy_ends hi ho hL hl) (Ends.const rfl)
  ·rw[if_pos rfl];obtain⟨hsm,hb,hq,hr,hc,hg⟩:=okV_small hi (fun l hx=>by have:=hl l hx;omega) hw ek;have hin: ∃x∈L,inB (keyV L) x=true:=List.countP_pos_iff.1 zaa;obtain⟨t1,t2⟩:=take_both hsm hq hr hin (bestQ (keysL L)).2;rw[hb]at b1 b2
   refine⟨Ends.bind b1 ?_,Ends.bind b2 ?_⟩
   ·refine Ends.pos rfl ?_;refine Ends.pos rfl ?_;exact Ends.bind t1 (Ends.const rfl)
   ·refine Ends.pos rfl ?_;refine Ends.pos rfl ?_;exact t2
theorem terms_iff{own:Int} : ∀ {l:List S61} {last:Int},termsOk own last l=true↔(l.Pairwise fun a b=>a.f0<b.f0)/\ ∀t∈l,last<t.f0/\t.f0<own/\t.f1≠0
 | [],last=>⟨fun _=>⟨List.Pairwise.nil,fun t h=>absurd h zac⟩,fun _=>rfl⟩
 |t::r,last=>by
  unfold termsOk;simp only[Bool.and_eq_true,decide_eq_true_eq];rw[terms_iff (l:=r) (last:=t.f0)];constructor
  ·rintro⟨⟨⟨h1,h2⟩,h3⟩,h4,h5⟩;refine⟨List.pairwise_cons.2 ⟨fun x hx=>(h5 x hx).1,h4⟩,fun x hx=>?_⟩;rcases List.mem_cons.1 hx with rfl|hx
   ·exact⟨h1,h2,h3⟩
   ·have:=h5 x hx;exact⟨by omega,this.2⟩
  ·rintro⟨h1,h2⟩;obtain⟨h3,h4⟩:=List.pairwise_cons.1 h1;have ht:=h2 t List.mem_cons_self;exact⟨⟨⟨ht.1,ht.2.1⟩,ht.2.2⟩,h4,fun x hx=>⟨h3 x hx,(h2 x (List.mem_cons_of_mem _ hx)).2⟩⟩
theorem nodes_join: ∀ {A B:List (List S61)} {n:Int},nodesOk n A=true->nodesOk (n+(A.length:Int)) B=true->nodesOk n (A++B)=true
 | [],B,n,_,h=>by simpa using h
 |l::A,B,n,h1,h2=>by
  unfold nodesOk at h1;rw[Bool.and_eq_true]at h1
  rw[List.cons_append];unfold nodesOk;rw[h1.1,Bool.true_and];refine nodes_join h1.2 ?_;rw[List.length_cons]at h2
  rw[show n+1+(A.length:Int)=n+((A.length+1:Nat):Int)from by omega];exact h2
theorem sh1_lt{own a b:Int}(h:a<b):sh1 own a<sh1 own b:=by
 unfold sh1
 split<;>split<;>omega
theorem sh1_ne(own v:Int):sh1 own v≠own:=by
 unfold sh1
 split<;>omega
theorem sh1_bound{own v:Int} :v<=sh1 own v/\sh1 own v<=v+1:=by
 unfold sh1
 split<;>omega
theorem insT_mem{own b:Int} : ∀ {l:List S61} {x:S61},x∈insT own b l↔x=⟨own,b⟩∨x∈l
 | [],x=>by simp[insT]
 |t::r,x=>by
  unfold insT
  split
  ·rw[List.mem_cons]
  ·rw[List.mem_cons,insT_mem,List.mem_cons];constructor
   ·rintro(h|h|h)
    ·exact .inr (.inl h)
    ·exact .inl h
    ·exact .inr (.inr h)
   ·rintro(h|h|h)
    ·exact .inr (.inl h)
    ·exact .inl h
    ·exact .inr (.inr h)
theorem insT_up{own b:Int} : ∀ {l:List S61},(l.Pairwise fun a b=>a.f0<b.f0)->(∀t∈l,t.f0≠own)->(insT own b l).Pairwise fun a b=>a.f0<b.f0
 | [],_,_=>by simp[insT]
 |t::r,h,hne=>by
  obtain⟨h1,h2⟩:=List.pairwise_cons.1 h;have ht:=hne t List.mem_cons_self;unfold insT
  split
  ·rename_i hlt
   refine List.pairwise_cons.2 ⟨fun x hx=>?_,h⟩;show own<x.f0;rcases List.mem_cons.1 hx with rfl|hx
   ·exact hlt
   ·have:=h1 x hx;omega
  ·rename_i hlt
   refine List.pairwise_cons.2 ⟨fun x hx=>?_,insT_up h2 (fun y hy=>hne y (List.mem_cons_of_mem _ hy))⟩;rcases insT_mem.1 hx with rfl|hx
   ·show t.f0<own;omega
   ·exact h1 x hx
theorem byF_mem{v:Int} : ∀ {l:List S61},byF l v≠0-> ∃t∈l,t.f0=v/\t.f1=byF l v
 | [],h=>absurd rfl h
 |t::r,h=>by
  rw[byF_cons]at h⊢
  by_cases e:t.f0=v
  ·rw[if_pos e];exact⟨t,List.mem_cons_self,e,rfl⟩
  rw[if_neg e]at h⊢
  obtain⟨x,hx,h1,h2⟩:=byF_mem h;exact⟨x,List.mem_cons_of_mem _ hx,h1,h2⟩
theorem inB_parts{q:Key}{l:List S61}(h:inB q l=true):byF l q.1≠0/\byF l q.2.1≠0/\mulB (byF l q.1) q.2.2=byF l q.2.1:=by
 unfold inB at h;simp only[Bool.and_eq_true,decide_eq_true_eq,beq_iff_eq]at h;exact⟨h.1.1,h.1.2,h.2⟩
theorem nodeT_ok{own k:Int}{q:Key}{l:List S61}(h:termsOk k (-1) l=true)(ho:own<=k)(D:0<=own):termsOk (k+1) (-1) (nodeT own q l)=true:=by
 obtain⟨hp,hm⟩:=terms_iff.1 h;have hup: ∀S:List S61,(S.Pairwise fun a b=>a.f0<b.f0)->(S.map (shT own)).Pairwise fun a b=>a.f0<b.f0:=fun S hS=>List.pairwise_map.2 (hS.imp fun hab=>sh1_lt hab);have hmm: ∀S:List S61,(∀t∈S,t∈l)-> ∀t∈S.map (shT own), -1<t.f0/\t.f0<k+1/\t.f1≠0:=fun S hS t ht=>by
  obtain⟨x,hx,rfl⟩:=List.mem_map.1 ht;have h1:=hm x (hS x hx);have h2:=sh1_bound (own:=own) (v:=x.f0);exact⟨by show-1<sh1 own x.f0;omega,by show sh1 own x.f0<k+1;omega,h1.2.2⟩
 rw[terms_iff];unfold nodeT
 split
 ·rename_i hin
  have hdp:(dropP q l).Pairwise fun a b=>a.f0<b.f0:=hp.sublist List.filter_sublist;refine⟨insT_up (hup _ hdp) (fun t ht=>?_),fun t ht=>?_⟩
  ·obtain⟨x,_,rfl⟩:=List.mem_map.1 ht;exact sh1_ne own x.f0
  ·rcases insT_mem.1 ht with rfl|ht
   ·exact⟨by show-1<own;omega,by show own<k+1;omega,(inB_parts hin).1⟩
   ·exact hmm _ (fun t ht=>drop_mem ht) t ht
 ·exact⟨hup l hp,hmm l (fun _ h=>h)⟩
theorem nodesT_ok{own:Int}{q:Key}(D:0<=own): ∀ {B:List (List S61)} {n:Int},own<=n->nodesOk n B=true->nodesOk (n+1) (B.map (nodeT own q))=true
 | [],_,_,_=>rfl
 |l::B,n,hn,h=>by
  unfold nodesOk at h;rw[Bool.and_eq_true]at h
  rw[List.map_cons];unfold nodesOk;rw[nodeT_ok h.1 hn D,nodesT_ok D zaa h.2];rfl
theorem mulB_zero{a:Int}(ha:0<=a/\a<256):mulB a 0=0:=by
 have h:=mulB_some (a:=a) (b:=0) zab;refine toE_inj ⟨h.2.1,h.2.2⟩ zab ?_;rw[mulB_el ha zab,toE_zero]
 first|exact mul_zero _|simp[mul_zero]
def sumsL:List (List S61)->Nat
 | []=>0
 |l::L=>(l.length-1)+sumsL L
theorem sumsL_app: ∀A B:List (List S61),sumsL (A++B)=sumsL A+sumsL B
 | [],B=>by simp[sumsL]
 |l::A,B=>by
  show(l.length-1)+sumsL (A++B)=(l.length-1)+sumsL A+sumsL B;rw[sumsL_app A B];omega
theorem drop_count{q:Key}(hq:q.1<q.2.1){l:List S61}(hp:l.Pairwise fun a b=>a.f0<b.f0)(h1: ∃t∈l,t.f0=q.1)(h2: ∃t∈l,t.f0=q.2.1):(dropP q l).length+2=l.length:=by
 have one: ∀(v:Int) (S:List S61),(S.Pairwise fun a b=>a.f0<b.f0)->(∃t∈S,t.f0=v)->(S.filter fun t=>decide (t.f0≠v)).length+1=S.length:=by
  intro v S
  induction S with
  |nil=>rintro _ ⟨t,ht,_⟩;exact absurd ht zac
  |cons x r ih=>
   rintro hS ⟨t,ht,hv⟩;obtain⟨g1,g2⟩:=List.pairwise_cons.1 hS;by_cases e:x.f0=v
   ·rw[List.filter_cons_of_neg (by simp[e]),List.filter_eq_self.2 (fun y hy=>by have:=g1 y hy;simp;omega)];simp
   rw[List.filter_cons_of_pos (by simp[e])];have: ∃t∈r,t.f0=v:=by
    rcases List.mem_cons.1 ht with rfl|ht
    ·exact absurd hv e
    ·exact⟨t,ht,hv⟩
   have:=ih g2 this;simp only[List.length_cons];omega
 have e:dropP q l=(l.filter fun t=>decide (t.f0≠q.1)).filter fun t=>decide (t.f0≠q.2.1):=by
  unfold dropP;rw[List.filter_filter]
  congr 1
  funext t
  exact Bool.and_comm _ _
 have c1:=one q.1 l hp h1;have D:(l.filter fun t=>decide (t.f0≠q.1)).Pairwise fun a b=>a.f0<b.f0:=hp.sublist List.filter_sublist;have c2:=one q.2.1 _ D (by
  obtain⟨t,ht,hv⟩:=h2;exact⟨t,List.mem_filter.2 ⟨ht,by simp;omega⟩,hv⟩)
 rw[e];omega
theorem nodeT_sums{own:Int}{q:Key}(hq:q.1<q.2.1){l:List S61}(hp:l.Pairwise fun a b=>a.f0<b.f0):((nodeT own q l).length-1)+(if inB q l=true then 1 else 0)=l.length-1:=by
 unfold nodeT
 cases hin:inB q l
 ·rw[if_neg zab,if_neg zab,List.length_map,Nat.add_zero]
 ·rw[if_pos rfl,if_pos rfl,insT_len,List.length_map];obtain⟨i1,i2,_⟩:=inB_parts hin;obtain⟨t,ht,e1,_⟩:=byF_mem i1;obtain⟨s,hs,e2,_⟩:=byF_mem i2;have:=drop_count hq hp ⟨t,ht,e1⟩ ⟨s,hs,e2⟩;omega
theorem nodesT_sums{own:Int}{q:Key}(hq:q.1<q.2.1): ∀ {B:List (List S61)},(∀l∈B,l.Pairwise fun a b=>a.f0<b.f0)->sumsL (B.map (nodeT own q))+B.countP (inB q)=sumsL B
 | [],_=>rfl
 |l::B,h=>by
  have h1:=nodeT_sums (own:=own) hq (h l List.mem_cons_self);have h2:=nodesT_sums (own:=own) hq (B:=B) (fun x hx=>h x (List.mem_cons_of_mem _ hx));rw[List.map_cons,List.countP_cons];unfold sumsL;omega
theorem takL_sums{ins:List Int}{q:Key}(hq:q.1<q.2.1){L:List (List S61)}(h: ∀l∈L,l.Pairwise fun a b=>a.f0<b.f0):sumsL (takL ins q L)+L.countP (inB q)=sumsL L+1:=by
 have he:=ahead_behind q L;have hb:=nodesT_sums (own:=ownV ins q L) hq (B:=behindL q L) (fun l hl=>h l (by rw[he];simp[hl]));have hz:(aheadL q L).countP (inB q)=0:=List.countP_eq_zero.2 fun x hx=>by rw[ahead_not x hx];decide
 have hc:L.countP (inB q)=(behindL q L).countP (inB q):=by
  conv=>lhs;rw[he]
  rw[List.countP_append,hz,Nat.zero_add]
 have hs:sumsL L=sumsL (aheadL q L)+sumsL (behindL q L):=by
  conv=>lhs;rw[he]
  rw[sumsL_app]
 unfold takL;rw[sumsL_app,hc,hs];have hp:sumsL (pairT q::(behindL q L).map (nodeT (ownV ins q L) q))=1+sumsL ((behindL q L).map (nodeT (ownV ins q L) q)):=by
  conv=>lhs;unfold sumsL
  rfl
 rw[hp];omega
theorem takL_may{ins outs:List Int}{L:List (List S61)}(h:Small ins L outs){q:Key}(hq:q.1<q.2.1)(hr:0<=q.2.2/\q.2.2<256)(hin: ∃x∈L,inB q x=true):mayB ins (takL ins q L) (takO ins q L outs)=true/\ ∀l∈takL ins q L,∀t∈l,okT t=true:=by
 obtain⟨hnd,hol,hov,hii⟩:=h.parts;obtain⟨l,B,hb,hl⟩:=behind_cons hin;have he:=ahead_behind q L;have hll:(aheadL q L).length+(behindL q L).length=L.length:=by rw[<-List.length_append,<-he]
 have hsp:=nodes_split (A:=aheadL q L) (B:=behindL q L) (n:=(ins.length:Int)) (by rw[<-he];exact hnd);have G:0<=ownV ins q L:=by unfold ownV;omega
 have hown:(ins.length:Int)+((aheadL q L).length:Int)=ownV ins q L:=rfl;have hbl:0<(behindL q L).length:=by rw[hb];simp
 have hlm:l∈L:=by rw[he,hb];simp
 obtain⟨i1,i2,i3⟩:=inB_parts hl;obtain⟨tu,htu,eu,bu⟩:=byF_mem i1;obtain⟨tv,htv,ev,_⟩:=byF_mem i2;have hno:=h.nodes l hlm;have hterm:termsOk (ownV ins q L) (-1) l=true:=by
  have:=hsp.2;rw[hown,hb]at this
  unfold nodesOk at this;rw[Bool.and_eq_true]at this
  exact this.1
 have hu:=(terms_iff.1 hterm).2 tu htu;have hv:=(terms_iff.1 hterm).2 tv htv;have I:q.2.2≠0:=fun e=>by
  rw[e,mulB_zero (byF_range hno.ok.ok _)]at i3
  exact i2 i3.symm
 have hpair:termsOk (ownV ins q L) (-1) (pairT q)=true:=by
  rw[terms_iff];refine⟨by simp[pairT,hq],fun t ht=>?_⟩;unfold pairT at ht;rcases List.mem_cons.1 ht with rfl|ht
  ·exact⟨by show-1<q.1;omega,by show q.1<_;omega,by show(1:Int)≠0;decide⟩
  ·obtain rfl:=List.mem_singleton.1 ht;exact⟨by show-1<q.2.1;omega,by show q.2.1<_;omega,I⟩
 have hN:nodesOk ins.length (takL ins q L)=true:=by
  unfold takL;refine nodes_join hsp.1 ?_;rw[hown];unfold nodesOk;rw[hpair,Bool.true_and];exact nodesT_ok G (Int.le_refl _) (by rw[<-hown];exact hsp.2)
 have hlen:(takL ins q L).length=L.length+1:=by
  unfold takL;rw[List.length_append,List.length_cons,List.length_map];omega
 constructor
 ·unfold mayB sizeOk outsOk;rw[hii,hN];simp only[Bool.true_and,Bool.and_eq_true,decide_eq_true_eq,List.all_eq_true];refine⟨⟨by have:=h.len;omega,by unfold takO;rw[List.length_map];exact hol⟩,fun v D=>?_⟩;unfold takO at D;obtain⟨x,hx,rfl⟩:=List.mem_map.1 D;have h1:=hov x hx;have h2:=sh1_bound (own:=ownV ins q L) (v:=x);omega
 ·have wfm: ∀v b:Int, -1<v->v<4611686018427387904->0<=b->b<256->okT (⟨v,b⟩:S61)=true:=fun v b h1 h2 h3 h4=>by
   unfold okT;have e0:IntKind.u8.min=0:=rfl;have e1:IntKind.u8.max=255:=rfl;have e2:IntKind.i64.min= -9223372036854775808:=rfl;have e3:IntKind.i64.max=9223372036854775807:=rfl;simp only[Lit.wf,Bool.and_eq_true,decide_eq_true_eq];omega
  have hil:=h.ins;have hLl:=h.len;have hob:ownV ins q L<4611686018427387904:=by unfold ownV;omega
  intro x hx t ht;unfold takL at hx;rcases List.mem_append.1 hx with hx|hx
  ·exact h.wf x (by rw[he];simp[hx]) t ht
  ·rcases List.mem_cons.1 hx with rfl|hx
   ·unfold pairT at ht;rcases List.mem_cons.1 ht with rfl|ht
    ·exact wfm _ _ zaa zaa zab zab
    ·obtain rfl:=List.mem_singleton.1 ht;exact wfm _ _ zaa zaa hr.1 hr.2
   ·obtain⟨y,hy,rfl⟩:=List.mem_map.1 hx;have hyL:y∈L:=by rw[he];simp[hy]
    have hyn:=h.nodes y hyL;have hyh:=nodes_hi hnd y hyL;have hsh: ∀z∈y,okT (shT (ownV ins q L) z)=true:=fun z hz=>by
     have h1:=hyh z hz;have h2:=sh1_bound (own:=ownV ins q L) (v:=z.f0);have h3:=(okT_wf (h.wf y hyL z hz)).2;exact wfm _ _ zaa zaa h3.1 h3.2
    unfold nodeT at ht
    split at ht
    ·rcases insT_mem.1 ht with rfl|ht
     ·have:=byF_range hyn.ok.ok q.1;exact wfm _ _ zaa hob this.1 this.2
     ·obtain⟨z,hz,rfl⟩:=List.mem_map.1 ht;exact hsh z (drop_mem hz)
    ·obtain⟨z,hz,rfl⟩:=List.mem_map.1 ht;exact hsh z hz
theorem nodeT_len(own:Int)(q:Key)(l:List S61):(nodeT own q l).length<=l.length+1:=by
 unfold nodeT
 split
 ·rw[insT_len,List.length_map];have:=drop_len q l;omega
 ·rw[List.length_map];omega
theorem takL_len(ins:List Int)(q:Key)(L:List (List S61)):(takL ins q L).length=L.length+1:=by
 have:=congrArg List.length (ahead_behind q L);rw[List.length_append]at this
 unfold takL;rw[List.length_append,List.length_cons,List.length_map];omega
theorem takL_each{ins:List Int}{q:Key}{L:List (List S61)}{m:Nat}(hm:2<=m)(h: ∀l∈L,l.length<=m): ∀l∈takL ins q L,l.length<=m+1:=by
 intro x hx;have he:=ahead_behind q L;unfold takL at hx;rcases List.mem_append.1 hx with hx|hx
 ·have:=h x (by rw[he];simp[hx]);omega
 ·rcases List.mem_cons.1 hx with rfl|hx
  ·show 2<=_;omega
  ·obtain⟨y,hy,rfl⟩:=List.mem_map.1 hx;have h1:=nodeT_len (ownV ins q L) q y;have h2:=h y (by rw[he];simp[hy]);omega
structure Fit (ins:List Int) (L:List (List S61)) (outs:List Int):Prop where
 ins:ins.length<=17592186043904
 outs:outs.length<=17592186043904
 len:L.length<=5864062014634
 each: ∀l∈L,l.length<=8796093021952
 wf: ∀l∈L,∀t∈l,okT t=true
theorem best_f{ins outs:List Int}{L:List (List S61)}(h:Fit ins L outs)(hm:mayB ins L outs=true):share_best.f L=some ((bestV ins L outs).1,(bestV ins L outs).2.1,(bestV ins L outs).2.2.1,(bestV ins L outs).2.2.2.1,(bestV ins L outs).2.2.2.2.1):=by
 have hl: ∀l∈L,l.length<=140737488355328:=fun l hx=>by have:=h.each l hx;omega
 have h1:=h.ins;have h2:=h.outs;have h3:=h.len;obtain⟨b1,_⟩:=best_both (ins:=ins) (outs:=outs) (L:=L) zaa zaa zaa hl h.wf;have b2:=flow_May_ends (ins:=ins) (outs:=outs) (L:=L) zaa zaa hl;rw[hm]at b2
 obtain⟨K,hK⟩:=b1;obtain⟨K',hK'⟩:=b2;have g1:=hK (max K K') (Nat.le_max_left _ _);have g2:=hK' (max K K') (Nat.le_max_right _ _);unfold share_Best.f at g1
 dsimp only at g1 g2
 rw[g2,Option.bind_some,if_pos rfl,if_pos zaa]at g1
 cases e:share_best.f L with
 |none=>rw[e]at g1;cases g1
 |some p=>
  rw[e,Option.bind_some]at g1
  have g3:=Option.some.inj g1;rw[<-g3]
theorem next_fit{ins outs:List Int}{L:List (List S61)}(h:Fit ins L outs)(hk:okV ins L outs=true):
 Fit ins (takL ins (keyV L) L) (takO ins (keyV L) L outs)/\mayB ins (takL ins (keyV L) L) (takO ins (keyV L) L outs)=true/\sumsL (takL ins (keyV L) L)<sumsL L/\Small ins L outs:=by
 obtain⟨hsm,hb,hq,hr,hc,hg⟩:=okV_small h.ins (fun l hx=>by have:=h.each l hx;omega) h.wf hk;have hin: ∃x∈L,inB (keyV L) x=true:=List.countP_pos_iff.1 zaa;obtain⟨m1,m2⟩:=takL_may hsm hq hr hin;have hs:=takL_sums (ins:=ins) hq (L:=L) (fun l hl=>(hsm.nodes l hl).ok.up);have D: ∀l∈L,l.length<=512:=fun l hl=>Nat.le_trans (len_sum hl) hsm.sum;have hlen:=hsm.len;have ho:=h.outs;refine⟨⟨h.ins,?_,by rw[takL_len];omega,fun l hl=>?_,m2⟩,m1,by omega,hsm⟩
 ·unfold takO;rw[List.length_map];exact ho
 ·have:=takL_each (ins:=ins) (q:=keyV L) (m:=512) zaa D l hl;omega
theorem sumsL_le: ∀L:List (List S61),sumsL L<=sumL L
 | []=>Nat.le_refl _
 |l::L=>by
  have:=sumsL_le L;show(l.length-1)+sumsL L<=sumL (l::L);have e:sumL (l::L)=l.length+sumL L:=rfl;omega
theorem steps_both: ∀(m i:Nat) (ins:List Int) (L:List (List S61)) (outs:List Int),Fit ins L outs->mayB ins L outs=true->sumsL L<=m->(i=0∨i+sumsL L<=512)->
 ∃(L':List (List S61)) (O':List Int),Ends (fun k=>share_Share.l0 k ins L outs) (ins,L',O',0)/\Ends (fun k=>recouplaw22_ShareSteps.l0 k (i:Int) ins L' O' ins L outs) true
 |m,i,ins,L,outs,hf,hm,hs,hi=>by
  have hbf:=best_f hf hm;have hll:L.length<=140737488355328:=by have:=hf.len;omega
  have h1:=hf.ins;have h2:=hf.outs;have h3:=hf.len;have hon:=(once_both hf.ins hf.outs hf.len hf.each hf.wf).1
  cases hk:okV ins L outs
  ·have hv:onceV ins L outs=(ins,L,outs,false,0):=by unfold onceV;rw[hm,if_pos rfl,hk,if_neg zab]
   refine⟨L,outs,?_,?_⟩
   ·refine Ends.succ (fun k=>by rw[share_Share.l0]) ?_;rw[if_pos hll];refine Ends.bind1 hbf ?_;have hk':(bestV ins L outs).2.2.2.2.1=false:=hk;rw[hk'];exact Ends.neg zac (Ends.const rfl)
   ·rw[hv]at hon
    have hrm:=ref_May_ends (ins:=ins) (outs:=outs) (L:=L) zaa zaa (fun l hx=>by have:=hf.each l hx;omega);rw[hm]at hrm
    have hsame:=same_ends (ins:=ins) (outs:=outs) (L:=L) zaa zaa zaa (fun l hx=>by have:=hf.each l hx;omega);refine Ends.succ (fun k=>by rw[recouplaw22_ShareSteps.l0]) ?_;refine Ends.pos zaa ?_;refine Ends.bind hon ?_;refine Ends.pos rfl ?_;refine Ends.bind hrm ?_;refine Ends.succ (fun k=>by rw[recouplaw22_ShareSteps.j1]) ?_;refine Ends.neg zab ?_;refine Ends.neg zac ?_;refine Ends.bind anch22 ?_;refine Ends.pos rfl ?_;exact Ends.bind hsame (Ends.const rfl)
  ·have hv:onceV ins L outs=(ins,takL ins (keyV L) L,takO ins (keyV L) L outs,true,0):=by unfold onceV;rw[hm,if_pos rfl,hk,if_pos rfl]
   obtain⟨f1,f2,f3,hsm⟩:=next_fit hf hk;obtain⟨_,hb,hq,hr,hc,hg⟩:=okV_small hf.ins (fun l hx=>by have:=hf.each l hx;omega) hf.wf hk;have hin: ∃x∈L,inB (keyV L) x=true:=List.countP_pos_iff.1 zaa;obtain⟨t1,_⟩:=take_both hsm hq hr hin (bestQ (keysL L)).2;have D:i+sumsL L<=512:=by
    rcases hi with rfl|hi
    ·have:=sumsL_le L;have:=hsm.sum;omega
    ·exact hi
   match m,hs with
   |0,hs=>exact absurd hs zaa
   |m+1,hs=>
    obtain⟨L',O',g1,g2⟩:=steps_both m (i+1) ins (takL ins (keyV L) L) (takO ins (keyV L) L outs) f1 f2 zaa (.inr zaa);refine⟨L',O',?_,?_⟩
    ·refine Ends.succ (fun k=>by rw[share_Share.l0]) ?_;rw[if_pos hll];rw[hb]at hbf
     refine Ends.bind1 hbf ?_;refine Ends.pos rfl ?_;exact Ends.bind t1 g1
    ·rw[hv]at hon
     have j1:=f1.ins;have j2:=f1.outs;have hrm:=ref_May_ends (ins:=ins) (outs:=takO ins (keyV L) L outs) (L:=takL ins (keyV L) L) zaa zaa (fun l hx=>by have:=f1.each l hx;omega);rw[f2]at hrm
     refine Ends.succ (fun k=>by rw[recouplaw22_ShareSteps.l0]) ?_;refine Ends.pos zaa ?_;refine Ends.bind hon ?_;refine Ends.pos rfl ?_;refine Ends.bind hrm ?_;refine Ends.succ (fun k=>by rw[recouplaw22_ShareSteps.j1]) ?_;refine Ends.neg zab ?_;refine Ends.pos rfl ?_;rw[step64 zaa];exact g2
end Go.Proofs.Ytnfemjnajfdepaa.M
namespace Go.Proofs.Ytnfemjnajfdepaa.Pure
open RowKit YtnfemjnajfdepaaW.PrintWords YtnfemjnajfdepaaW.PrintLast YtnfemjnajfdepaaW.PrintMore Q
theorem ShareSteps: ∀x0:Q.S25,((x0.f0.length<=maxLen/\x0.f0.length*8<=140737488351232/\ ∀x5∈x0.f0,(Lit.int .i64 x5).wf=true)/\((x0.f1.length<=maxLen/\x0.f1.length*24<=140737488351232/\ ∀x5∈x0.f1,(x5.length<=maxLen/\x5.length*16<=140737488351232/\ ∀x2∈x5,((Lit.int .i64 x2.f0).wf=true/\(Lit.int .u8 x2.f1).wf=true)))/\(x0.f2.length<=maxLen/\x0.f2.length*8<=140737488351232/\ ∀x5∈x0.f2,(Lit.int .i64 x5).wf=true)))-> ∃k,Q.recouplaw22_ShareSteps.f k x0.f0 x0.f1 x0.f2=some true:=by
 rintro⟨ins,L,outs⟩ ⟨⟨_,h1,_⟩,⟨_,h2,h3⟩,⟨_,h4,_⟩⟩
 dsimp only at h1 h2 h3 h4⊢
 have hi:ins.length<=17592186043904:=by omega
 have ho:outs.length<=17592186043904:=by omega
 have hL:L.length<=5864062014634:=by omega
 have hl: ∀l∈L,l.length<=8796093021952:=fun l hx=>by have:=(h3 l hx).2.1;omega
 have hw: ∀l∈L,∀t∈l,okT t=true:=fun l hx t ht=>by
  obtain⟨w1,w2⟩:=(h3 l hx).2.2 t ht;unfold okT;rw[w1,w2];rfl
 have hf:M.Fit ins L outs:=⟨hi,ho,hL,hl,hw⟩
 have hmay:=M.flow_May_ends (ins:=ins) (outs:=outs) (L:=L) zaa zaa (fun l hx=>by have:=hl l hx;omega);have hrm:=M.ref_May_ends (ins:=ins) (outs:=outs) (L:=L) zaa zaa (fun l hx=>by have:=hl l hx;omega);refine M.Ends.exists (g:=fun k=>recouplaw22_ShareSteps.f k ins L outs) ?_;unfold recouplaw22_ShareSteps.f
 cases e:M.mayB ins L outs
 ·rw[e]at hmay hrm
  have ha:M.Ends (fun k=>share_Share.f k ins L outs) ([],[],[],2):=by
   unfold share_Share.f;exact M.Ends.bind hmay (M.Ends.neg zab (M.Ends.const rfl))
  refine M.Ends.bind ha ?_;refine M.Ends.neg zab ?_;refine M.Ends.bind M.anch22 ?_;refine M.Ends.pos rfl ?_;exact M.Ends.bind hrm (M.Ends.const rfl)
 ·rw[e]at hmay
  obtain⟨L',O',g1,g2⟩:=M.steps_both (M.sumsL L) 0 ins L outs hf e (Nat.le_refl _) (.inl rfl);have ha:M.Ends (fun k=>share_Share.f k ins L outs) (ins,L',O',0):=by
   unfold share_Share.f;refine M.Ends.bind hmay ?_;refine M.Ends.pos rfl ?_;exact M.Ends.bind (M.copied_ends hi ho hL hl) g1
  refine M.Ends.bind ha ?_;refine M.Ends.pos rfl ?_;exact M.Ends.bind (M.copy_ends hi ho hL hl) g2
end Go.Proofs.Ytnfemjnajfdepaa.Pure
namespace Go.Proofs.Ytnfemjnajfdepaa.Open
open RowKit Go.Deep YtnfemjnajfdepaaW.PrintWords
def Sz{H:Type}(P:Program)(t:TypeId)(d:DataW H):Prop:= ∀n∈d.weights P t,n<=reachBytes
structure Opens {α:Type} (P:Program) (t:TypeId) (d:Kd α) (well:α->Prop):Prop where
 cells:P.cellsOf t=d.sz
 run: ∀ {H:Type} (enc:TypeId×Value->H) (W:World) (n:Nat) (cs:List Value) (y:DataW H×List MemPlace),
  DataW.trod enc P W 0 (fun _=>true) true n t cs=some y->Sz P t y.1-> ∃x,d.K W x cs/\well x
theorem opens_int{P:Program}{t:TypeId}{k:IntKind}(ht:P.underlying t=some (.int k))(hc:P.cellsOf t=1):Opens P t (Kd.int k) (fun x=>(Lit.int k x).wf=true):=by
 refine⟨hc,fun enc W n cs y h _=>?_⟩;obtain⟨a,rfl,rfl,hw⟩:=DataW.trod_int ht h;exact⟨a,rfl,hw⟩
theorem opens_bool{P:Program}{t:TypeId}(ht:P.underlying t=some .bool)(hc:P.cellsOf t=1):Opens P t Kd.bool (fun _=>True):=by
 refine⟨hc,fun enc W n cs y h _=>?_⟩;obtain⟨a,rfl,rfl⟩:=DataW.trod_bool ht h;exact⟨a,rfl,trivial⟩
theorem opens_str{P:Program}{t:TypeId}(ht:P.underlying t=some .string)(hc:P.cellsOf t=1):Opens P t Kd.string (fun x=>x.size<=reachBytes):=by
 refine⟨hc,fun enc W n cs y h hz=>?_⟩;obtain⟨a,rfl,rfl,hw⟩:=DataW.trod_string ht h;have:=hz a.data.toList.length (by simp[DataW.weights]);exact⟨a,rfl,by simpa using this⟩
theorem weightsAll_mem{H:Type}{P:Program}{e:TypeId} : ∀ {l:List (DataW H)} {d:DataW H},d∈l-> ∀n∈d.weights P e,n∈DataW.weightsAll P e l
 |a::l,d,hd,n,hn=>by
  rw[DataW.weightsAll];rcases List.mem_cons.1 hd with rfl|hd
  ·exact List.mem_append_left _ hn
  ·exact List.mem_append_right _ (weightsAll_mem hd n hn)
theorem opens_slice{α:Type}{P:Program}{t e:TypeId}{d:Kd α}{well:α->Prop}{B:Nat}(ht:P.underlying t=some (.slice e))(hc:P.cellsOf t=1)(hB:P.bytesOf e=B)(z:α)(h:Opens P e d well):
 Opens P t (Kd.slice e d) (fun l=>l.length<=maxLen/\l.length*B<=140737488351232/\ ∀x∈l,well x):=by
 refine⟨hc,fun enc W n cs y hy hz=>?_⟩;rcases open_slice ht hy with⟨rfl,rfl⟩|⟨a,len,cap,m,n',D,Pl,rfl,_,hl,hm,hmm,rfl,hx⟩
 ·exact⟨[],⟨none,0,rfl,Nat.le_refl _,rfl,by simp,fun hn=>absurd hn zac⟩,by simp,by simp,by simp⟩
 have hm':len<=m:=by rw[hmm];split<;>omega
 have:Inhabited α:=⟨z⟩
 have hw: ∀i,i<len-> ∃x,(∃cs',W.cells? 0 (a.add (i*P.cellsOf e)) (P.cellsOf e)=some cs'/\d.K W x cs')/\well x:=by
  intro i hi;obtain⟨cs',h1,h2⟩:=hx i zaa;obtain⟨x,k,w⟩:=h.run enc W n' cs' _ h2 (fun q hq=>by
   refine hz q ?_;simp only[DataW.weights,ht];refine List.mem_cons_of_mem _ (List.mem_append_left _ (weightsAll_mem (d:=D i) ?_ q hq));exact List.mem_map.2 ⟨i,by simpa using hi,rfl⟩)
  exact⟨x,⟨cs',h1,k⟩,w⟩
 obtain⟨V,hV⟩:=choose_lt hw;have hlen:((List.range len).map V).length=len:=by simp
 have hb:len*B<=140737488351232:=by
  have:=hz ((((List.range len).map D).length+((List.range (m-len)).map fun j=>D (len+j)).length)*P.bytesOf e) (by simp only[DataW.weights,ht];exact List.mem_cons_self);rw[hB]at this
  simp only[List.length_map,List.length_range]at this;exact Nat.le_trans (Nat.mul_le_mul_right _ zaa) this
 have hmx:maxLen=9223372036854775807:=by decide
 refine⟨(List.range len).map V,⟨some a,cap,by rw[hlen],by rw[hlen];exact hl,rfl,by rw[hlen];omega,fun _=>⟨a,rfl,fun j p hj=>?_⟩⟩,by rw[hlen];omega,by rw[hlen];exact hb,?_⟩
 ·obtain⟨G,I⟩:=List.getElem?_eq_some_iff.1 hj;have hjl:j<len:=by simpa using G
  have hp:p=V j:=by simpa using I.symm
  subst hp;obtain⟨⟨cs',h1,k⟩,_⟩:=hV j hjl;obtain⟨_,hcl,hcell⟩:=World.cells?_some h1;refine⟨cs',d.K_len k,k,fun i u hu=>?_⟩;have hi:i<P.cellsOf e:=by rw[<-hcl];exact(List.getElem?_eq_some_iff.1 hu).1
  rw[<-h.cells,<-Addr.add_add,hcell i hi];exact hu
 ·intro x hx;obtain⟨i,hi,rfl⟩:=List.mem_map.1 hx;exact(hV i (by simpa using hi)).2
structure OpensF {α:Type} (P:Program) (fs:List Field) (off:Nat) (d:Kd α) (well:α->Prop):Prop where
 run: ∀ {H:Type} (enc:TypeId×Value->H) (W:World) (n:Nat) (cs:List Value) (xs:List (DataW H×List MemPlace)),cs.length=off+d.sz->
  (∀(i:Nat) (f:Field),fs[i]? =some f->DataW.trod enc P W 0 (fun _=>true) true n f.type ((cs.drop f.offset).take (P.cellsOf f.type))=xs[i]?)->xs.length=fs.length->
  (∀q∈DataW.weightsEach P (fs.map (·.type)) (xs.map (·.1)),q<=reachBytes)-> ∃x,d.K W x (cs.drop off)/\well x
theorem OpensF.one{α:Type}{P:Program}{f:Field}{off:Nat}{d:Kd α}{well:α->Prop}(ho:f.offset=off)(h:Opens P f.type d well):OpensF P [f] off d well:=by
 refine⟨?_⟩;intro H enc W n cs xs hl hf hx hz;obtain⟨y,rfl⟩: ∃y,xs= [y]:=List.length_eq_one_iff.1 hx;have h0:=hf 0 f rfl;rw[ho,List.take_of_length_le (by rw[List.length_drop,h.cells];omega)]at h0
 exact h.run enc W n _ y h0 (fun q hq=>hz q (by simpa[DataW.weightsEach]using hq))
theorem OpensF.cons{α β:Type}{P:Program}{f:Field}{fs:List Field}{off:Nat}{d:Kd α}{d':Kd β}{well:α->Prop}{well':β->Prop}(ho:f.offset=off)(h:Opens P f.type d well)(h':OpensF P fs (off+d.sz) d' well'):
 OpensF P (f::fs) off (Kd.pair d d') (fun x=>well x.1/\well' x.2):=by
 refine⟨?_⟩;intro H enc W n cs xs hl hf hx hz
 match xs,hx with
 |y::ys,hx=>
  have hl':cs.length=off+(d.sz+d'.sz):=hl;have h0:=hf 0 f rfl;rw[ho]at h0
  obtain⟨x,k,w⟩:=h.run enc W n _ y h0 (fun q hq=>hz q (by simp[DataW.weightsEach,hq]));obtain⟨x',k',w'⟩:=h'.run enc W n cs ys zaa (fun i g hg=>hf (i+1) g hg) (by simpa using hx) (fun q hq=>hz q (by simp only[List.map_cons,DataW.weightsEach];exact List.mem_append_right _ hq));rw[h.cells]at k
  refine⟨(x,x'),⟨_,_,?_,k,k'⟩,w,w'⟩;rw[<-List.drop_drop,List.take_append_drop]
theorem Opens.struct{α β:Type}{P:Program}{t:TypeId}{fs:Array Field}{d:Kd α}{well:α->Prop}{f:β->α}(ht:P.underlying t=some (.struct fs))(hc:P.cellsOf t=d.sz)(hs: ∀a,∃b,f b=a)(h:OpensF P fs.toList 0 d well):
 Opens P t (Kd.iso d f) (fun x=>well (f x)):=by
 refine⟨hc,fun enc W n cs y hy hz=>?_⟩;obtain⟨xs,m,_,rfl,hl,hx,hf⟩:=DataW.trod_struct ht hy;obtain⟨x,k,w⟩:=h.run enc W m cs xs (by rw[hl,hc,Nat.zero_add]) (fun i g hg=>hf i g (by simpa using hg)) (by simpa using hx) (fun q hq=>hz q (by simp only[DataW.weights,ht];exact hq));obtain⟨b,rfl⟩:=hs x;rw[List.drop_zero]at k
 exact⟨b,k,w⟩
theorem Opens.arr2{β:Type}{P:Program}{t e:TypeId}{k:IntKind}{f:β->Int×Int}(ht:P.underlying t=some (.array 2 e))(he:P.underlying e=some (.int k))(hce:P.cellsOf e=1)(hc:P.cellsOf t=2)(hs: ∀a,∃b,f b=a):
 Opens P t (Kd.iso (Kd.pair (Kd.int k) (Kd.int k)) f) (fun x=>(Lit.int k (f x).1).wf=true/\(Lit.int k (f x).2).wf=true):=by
 refine⟨hc,fun enc W n cs y hy hz=>?_⟩;obtain⟨xs,m,_,rfl,hl,hx,hf⟩:=DataW.trod_array ht hy
 match cs,hl.trans hc with
 | [c0,c1],_=>
   match xs,hx with
   | [y0,y1],_=>
     have h0:=hf 0 zab;have h1:=hf 1 zab;rw[hce]at h0 h1
     obtain⟨a,ea,_,wa⟩:=DataW.trod_int he (show DataW.trod enc P W 0 (fun _=>true) true m e [c0] =some y0 from h0);obtain⟨b,eb,_,wb⟩:=DataW.trod_int he (show DataW.trod enc P W 0 (fun _=>true) true m e [c1] =some y1 from h1);obtain⟨x,ex⟩:=hs (a,b);refine⟨x,?_,by rw[ex];exact wa,by rw[ex];exact wb⟩;show(Kd.pair (Kd.int k) (Kd.int k)).K W (f x) [c0,c1];rw[ex];refine⟨[c0],[c1],rfl,?_,?_⟩
     ·rw[ea];rfl
     ·rw[eb];rfl
theorem okWide_arr{P:Program}{w:World}{r:Reach}{base:Nat}{t:TypeId}{v:Value}{n:Nat}{e:TypeId}(ht:P.underlying t=some (.array n e))(h:Value.okWide P w r base t v): ∃cs,v= .agg cs/\cs.size=P.cellsOf t:=by
 simp only[Value.okWide,ht]at h;obtain⟨cs,h1,h2,_⟩:=h;exact⟨cs,h1,h2⟩
theorem sz_of{H:Type}{P:Program}{ts:List TypeId}{ds:List (DataW H)}{j:Nat}{t:TypeId}{d:DataW H}(hsz:(DataW.weightsEach P ts ds).all (· <=reachBytes)=true)(ht:ts[j]? =some t)(hd:ds[j]? =some d):Sz P t d:=
 fun n hn=>by simpa using List.all_eq_true.1 hsz n (DataW.weights_mem_each ht hd n hn)
theorem Opens.arg{α:Type}{P:Program}{t:TypeId}{d:Kd α}{well:α->Prop}(h:Opens P t d well){H:Type}{enc:TypeId×Value->H}{W:World}{v:Value}{y:DataW H}{ps:List MemPlace}{ts:List TypeId}{ds:List (DataW H)}{j:Nat}
 (hsz:(DataW.weightsEach P ts ds).all (· <=reachBytes)=true) (ht:ts[j]? =some t) (hd:ds[j]? =some y) (hv:DataW.Trod enc P W 0 (fun _=>true) true t v y ps): ∃x,d.K W x v.cells.toList/\well x:=by
 obtain⟨n,hn⟩:=hv;exact h.run enc W n _ _ hn (sz_of hsz ht hd)
theorem trod_lt_of{H:Type}{enc:TypeId×Value->H}{P:Program}{W:World}{t:TypeId}{v:Value}{y:DataW H}{ps:List MemPlace}(hv:DataW.Trod enc P W 0 (fun _=>true) true t v y ps): ∀x∈ps,x.block<W.heap.size:=by
 obtain⟨m,hm⟩:=hv;exact DataW.trod_lt m _ _ _ hm
end Go.Proofs.Ytnfemjnajfdepaa.Open
namespace Go.Proofs.Ytnfemjnajfdepaa.shareSteps
open Go.ChangeShapes Go.WideShapes Go.ChangeAt RowKit YtnfemjnajfdepaaW.PrintWords
theorem own:ownKnob Try.prog.godebug=none:=by kernel_rfl
theorem laidOut:laidOutB Try.prog=true:=by kernel_rfl
theorem opens0:Open.Opens Try.prog 25 Q.k25 (fun x=>((x.f0.length<=maxLen/\x.f0.length*8<=140737488351232/\ ∀x4∈x.f0,(Lit.int .i64 x4).wf=true)/\((x.f1.length<=maxLen/\x.f1.length*24<=140737488351232/\ ∀x4∈x.f1,(x4.length<=maxLen/\x4.length*16<=140737488351232/\ ∀x2∈x4,((Lit.int .i64 x2.f0).wf=true/\(Lit.int .u8 x2.f1).wf=true)))/\(x.f2.length<=maxLen/\x.f2.length*8<=140737488351232/\ ∀x4∈x.f2,(Lit.int .i64 x4).wf=true)))):=(Open.Opens.struct (d:=(Kd.pair (Kd.slice 3 (Kd.int .i64)) (Kd.pair (Kd.slice 59 (Kd.slice 61 Q.k61)) (Kd.slice 3 (Kd.int .i64))))) (f:=fun x:Q.S25=>(x.f0,x.f1,x.f2)) Try.underlying25 zad (fun a=>⟨⟨a.1,a.2.1,a.2.2⟩,rfl⟩) (Open.OpensF.cons rfl (Open.opens_slice Try.underlying22 zad zad (0:Int) (Open.opens_int Try.underlying3 zad)) (Open.OpensF.cons rfl (Open.opens_slice Try.underlying23 zad zad [] (Open.opens_slice Try.underlying59 zad zad Q.z61 (Open.Opens.struct (d:=(Kd.pair (Kd.int .i64) (Kd.int .u8))) (f:=fun x:Q.S61=>(x.f0,x.f1)) Try.underlying61 zad (fun a=>⟨⟨a.1,a.2⟩,rfl⟩) (Open.OpensF.cons rfl (Open.opens_int Try.underlying3 zad) (Open.OpensF.one rfl (Open.opens_int Try.underlying5 zad)))))) (Open.OpensF.one rfl (Open.opens_slice Try.underlying22 zad zad (0:Int) (Open.opens_int Try.underlying3 zad))))))
theorem lifted(os:Os)(started:os.Started)(H:Type)(enc:TypeId×Value->H):
 ReturnsInHanded {} Try.checked os 8 .any (Rows.shareStepsSpec.pre6 enc Try.prog Try.f8 Rows.shareStepsRow.domain false) (Rows.shareStepsSpec.post enc Try.prog Try.f8 false true false false):=by
 refine returnsInHanded_of_change_sized (C:=Try.checked) own started zad Try.func8
  (ChangeSpec.witness6 (enc:=enc) (C:=Try.checked) false ⟨#[],#[.agg #[(.slice none 0 0),(.slice none 0 0),(.slice none 0 0)]],[]⟩ 8 zad zad zad zad) ?_
 intro W base args ds gs before D hW hcnd X _;have hsz:(DataW.weightsEach Try.prog (Try.f8.params.toList++Rows.shareStepsSpec.plain.varTypes Try.prog) (ds++gs)).all (· <=reachBytes)=true:=X;have hval: ∀(j:Nat) t v,Try.f8.params[j]? =some t->args[j]? =some v->Value.okWide Try.prog W .any base t v:=D;have hW':=hW;obtain⟨p,q,ac,hV,rfl,hfz,hnd⟩:=hW;have hA:DataW.TrodAll enc Try.prog W 0 (fun _=>true) true Try.f8.params.toList args.toList ds p:=ac;rw[Try.params8]at hA hval hsz
 obtain⟨v0,al,d0,ak,p0,q0,hargs,rfl,rfl,h0,r0⟩:=trodAll_cons hA;obtain⟨rfl,rfl,rfl⟩:=trodAll_nil r0;obtain rfl:args= #[v0]:=by cases args;simp_all
 obtain⟨rfl,rfl⟩:=trodVars_none hV;obtain⟨x0,ai,aj⟩:=opens0.arg hsz (j:=0) rfl rfl h0;obtain⟨ah,rfl,_⟩:=okWide_struct Try.underlying25 (hval 0 25 v0 rfl rfl);obtain⟨G,L,I,O,J,U,e0,ae,Z,af,aa,ag,ab⟩:=Q.k25_open ai;obtain rfl:ah= #[.slice G x0.f0.length L,.slice I x0.f1.length O,.slice J x0.f2.length U]:=Array.toList_inj.1 e0;clear ac D X hsz;obtain⟨k,hp⟩:=Pure.ShareSteps x0 aj;refine(Q.recouplaw22_ShareSteps.calls k G L x0.f0 I O x0.f1 J U x0.f2 true W Z ae aa af ab ag hp).mono fun e W' ⟨he,Y⟩=>?_;have bel:=Y;subst he;exact⟨_,rfl,_,_,_,[],_,[],hW',trodAll_mk1 (shut_bool Try.underlying4 _),(trodAll_cons_mk (Below.trod laidOut zad (of_decide_eq_true zad) h0 bel (Open.trod_lt_of h0)) trodAll_mk0),rfl,bel.frame _,fun h=>by cases h⟩
theorem over:Rows.shareStepsRow.holds Try.pinned (OpenSpec.ofChange Rows.shareStepsSpec):=
 OpenClaim.holds_of_wide 8 Try.f8 rfl rfl rfl rfl rfl rfl rfl ⟨rfl,rfl,rfl,rfl,rfl⟩ rfl rfl rfl rfl rfl zad Try.func8 zad
  (of_decide_eq_true zad) (by unfold Func.isWrapper;first|(rw[if_pos (by decide+kernel)];kernel_rfl)|(rw[if_neg (by decide+kernel)];exact⟨rfl,rfl⟩))
  (fun os started H enc _=>lifted os started H enc)
theorem proved:Rows.ShareStepsSaid:=over
end Go.Proofs.Ytnfemjnajfdepaa.shareSteps
namespace Go.Proofs.Ytnfemjnajfdepaa
theorem shareSteps_holds:Rows.ShareStepsSaid:=shareSteps.proved
end Go.Proofs.Ytnfemjnajfdepaa
