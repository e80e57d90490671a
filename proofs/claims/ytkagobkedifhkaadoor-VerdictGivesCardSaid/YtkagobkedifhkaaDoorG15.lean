/- The row VerdictGives: the Go law answers true at every input that its guards let in; no condition of its own. -/
import Derived.Laws.Bits64
import Derived.Laws.Bits64b
import GoSem.Claim
import Derived.Lib.TrailingZeros
import Derived.OpenShut
import Derived.WideShapes
import Derived.Deep.Slices
import Derived.Test.YtkagobkedifhkaaDoorRows
import Derived.LaidMore
import Derived.Lib.LaidTab
import Derived.SevenTiedAt
import Derived.Test.YtkagobkedifhkaaDoorCards
import Derived.Test.YtkagobkedifhkaaDoorTie
import Derived.ProofKit
import Derived.ShutString
import Derived.ChangeOld
import Derived.Test.YtkagobkedifhkaaDoorG14
namespace Go.Proofs.YtkagobkedifhkaaDoor.M
set_option linter.unusedVariables false
set_option linter.unusedSimpArgs false
open Go.RowKit Go.Proofs.YtkagobkedifhkaaDoorW.PrintWords Go.Proofs.YtkagobkedifhkaaDoorW.PrintMore
def Ends{α:Type}(g:Nat→Option α)(r:α):Prop:= ∃K,∀k,K≤k→g k=some r
theorem Ends.const{α:Type}{x:Option α}{r:α}(h:x=some r):Ends (fun _=>x) r:=⟨0,fun _ _=>h⟩
theorem Ends.exists{α:Type}{g:Nat→Option α}{r:α}(h:Ends g r): ∃k,g k=some r:=by
 obtain⟨K,h⟩:=h;exact⟨K,h K (Nat.le_refl _)⟩
theorem Ends.bind{α β:Type}{f:Nat→Option α}{h:Nat→α→Option β}{x:α}{r:β}(hf:Ends f x)(hh:Ends (fun k=>h k x) r):Ends (fun k=>(f k).bind (h k)) r:=by
 obtain⟨K,hf⟩:=hf;obtain⟨L,hh⟩:=hh;refine⟨max K L,fun k hk=>?_⟩;show(f k).bind (h k)=some r;rw[hf k za];exact hh k za
theorem Ends.bind1{α β:Type}{x:Option α}{h:Nat→α→Option β}{a:α}{r:β}(hx:x=some a)(hh:Ends (fun k=>h k a) r):Ends (fun k=>x.bind (h k)) r:=by
 subst hx;exact hh
theorem Ends.pos{α:Type}{f g:Nat→Option α}{c:Prop} [Decidable c]{r:α}(hc:c)(hf:Ends f r):Ends (fun k=>if c then f k else g k) r:=by
 simp only[if_pos hc];exact hf
theorem Ends.neg{α:Type}{f g:Nat→Option α}{c:Prop} [Decidable c]{r:α}(hc: ¬c)(hg:Ends g r):Ends (fun k=>if c then f k else g k) r:=by
 simp only[if_neg hc];exact hg
theorem Ends.succ{α:Type}{l body:Nat→Option α}{r:α}(hs: ∀k,l (k+1)=body k)(hb:Ends body r):Ends l r:=by
 obtain⟨K,hb⟩:=hb;refine⟨K+1,fun k hk=>?_⟩;obtain⟨j,rfl⟩: ∃j,k=j+1:=⟨k-1,by omega⟩
 rw[hs];exact hb j za
theorem Ends.eq{α:Type}{g:Nat→Option α}{r r':α}(h:Ends g r)(e:r=r'):Ends g r':=e▸h
theorem w64{x:Int}(h0: -9223372036854775808≤x)(h1:x≤9223372036854775807):wrap64 x=x:=by unfold wrap64;omega
theorem wu64{x:Int}(h0:0≤x)(h1:x<18446744073709551616):IntKind.u64.wrap x=x:=by rw[IntKind.wrap_u64];omega
theorem wuN{y:Nat}(h:y<2^64):IntKind.u64.wrap (y:Int)=(y:Int):=by
 have h1:(y:Int)<18446744073709551616:=by omega
 exact wu64 za h1
theorem rd_nat(l:List Int)(i:Nat):rd l (i:Int)=l.getD i 0:=by simp[rd]
theorem rd_map(l:List Nat)(i:Nat)(h:i<l.length):rd (l.map fun(x:Nat)=>(x:Int)) (i:Int)=((l[i]:Nat):Int):=by
 rw[rd_nat,List.getD_eq_getElem?_getD,List.getElem?_map,List.getElem?_eq_getElem h];rfl
theorem wf_u64{n:Int}(h:(Lit.int .u64 n).wf=true):0≤n∧n≤18446744073709551615:=by
 simp[Lit.wf,IntKind.min,IntKind.max,IntKind.signed,IntKind.bits]at h
 omega
theorem wf_i64{n:Int}(h:(Lit.int .i64 n).wf=true): -9223372036854775808≤n∧n≤9223372036854775807:=by
 simp[Lit.wf,IntKind.min,IntKind.max,IntKind.signed,IntKind.bits]at h
 omega
theorem wf_u8{n:Int}(h:(Lit.int .u8 n).wf=true):0≤n∧n≤255:=by
 simp[Lit.wf,IntKind.min,IntKind.max,IntKind.signed,IntKind.bits]at h
 omega
theorem u64_nat{s:Int}(h:(Lit.int .u64 s).wf=true): ∃m:Nat,s=(m:Int)∧m<2^64:=by
 have h2:=wf_u64 h;obtain⟨m,rfl⟩:=Int.eq_ofNat_of_zero_le h2.1;exact⟨m,rfl,by omega⟩
theorem lt_or{a b:Nat}(ha:a<2^64)(hb:b<2^64):a|||b<2^64:=Nat.or_lt_two_pow ha hb
theorem lt_and{a b:Nat}(ha:a<2^64):a &&& b<2^64:=Nat.lt_of_le_of_lt Nat.and_le_left ha
theorem band{a b:Nat}(ha:a<2^64)(hb:b<2^64):Go.bits .and .u64 (a:Int) (b:Int)=((a &&& b:Nat):Int):=bits_and_u64_nat a b za za
theorem bor{a b:Nat}(ha:a<2^64)(hb:b<2^64):Go.bits .or .u64 (a:Int) (b:Int)=((a|||b:Nat):Int):=bits_or_u64_nat a b za za
theorem bandNot{a b:Nat}(ha:a<2^64)(hb:b<2^64):Go.bits .andNot .u64 (a:Int) (b:Int)=((a &&& (2^64-1-b):Nat):Int):=by
 have h1:(BitVec.ofInt 64 (a:Int)).toNat=a:=by
  rw[BitVec.ofInt_natCast,BitVec.toNat_ofNat];exact Nat.mod_eq_of_lt ha
 have h2:(BitVec.ofInt 64 (b:Int)).toNat=b:=by
  rw[BitVec.ofInt_natCast,BitVec.toNat_ofNat];exact Nat.mod_eq_of_lt hb
 show IntKind.u64.wrap ((BitVec.ofInt 64 (a:Int) &&& ~~~ BitVec.ofInt 64 (b:Int)).toNat:Int)=_;rw[BitVec.toNat_and,BitVec.toNat_not,h1,h2];exact wu64 za (by have:=lt_and (b:=2^64-1-b) ha;omega)
theorem testBit_compl{b:Nat}(hb:b<2^64)(i:Nat):(2^64-1-b).testBit i=(decide (i<64)&& !b.testBit i):=by
 rw[show 2^64-1-b=2^64-(b+1)from by omega,Nat.testBit_two_pow_sub_succ hb]
theorem testBit_andNot{a b:Nat}(ha:a<2^64)(hb:b<2^64)(i:Nat):(a &&& (2^64-1-b)).testBit i=(a.testBit i&& !b.testBit i):=by
 rw[Nat.testBit_and,testBit_compl hb];by_cases h:i<64
 ·simp[h]
 ·have:a.testBit i=false:=Nat.testBit_lt_two_pow (Nat.lt_of_lt_of_le ha (Nat.pow_le_pow_right zc za));simp[this]
theorem testBit_big{a:Nat}(ha:a<2^64){i:Nat}(hi:64≤i):a.testBit i=false:=
 Nat.testBit_lt_two_pow (Nat.lt_of_lt_of_le ha (Nat.pow_le_pow_right zc hi))
theorem shl_one{i:Nat}(hi:i<64):shl .u64 1 (i:Int)=((2^i:Nat):Int):=by
 unfold shl;have e:min (i:Int).toNat IntKind.u64.bits=i:=by simp[IntKind.bits];omega
 rw[e,Int.one_mul];have h:(2:Nat)^i<2^64:=Nat.pow_lt_pow_right zc hi;rw[show((2:Int)^i)=((2^i:Nat):Int)from by simp];exact wu64 (Int.natCast_nonneg _) (Int.ofNat_lt.mpr h)
theorem shl_one_64{i:Int}(hi:64≤i):shl .u64 1 i=0:=by
 unfold shl;have e:min i.toNat IntKind.u64.bits=64:=by simp[IntKind.bits];omega
 rw[e];decide
theorem pow_lt{i:Nat}(hi:i<64):2^i<2^64:=Nat.pow_lt_pow_right zc hi
theorem shr_nat{n i:Nat}(hi:i≤64):shr .u64 (n:Int) (i:Int)=((n >>> i:Nat):Int):=by
 unfold shr;have e:min (i:Int).toNat IntKind.u64.bits=i:=by simp[IntKind.bits];omega
 rw[e,Nat.shiftRight_eq_div_pow];simp
theorem bit_asked{n i:Nat}(hn:n<2^64)(hi:i≤64):(Go.bits .and .u64 (shr .u64 (n:Int) (i:Int)) 1==1)=n.testBit i:=by
 rw[shr_nat hi];have h1:n >>> i<2^64:=by
  rw[Nat.shiftRight_eq_div_pow];exact Nat.lt_of_le_of_lt (Nat.div_le_self _ _) hn
 have e:=band h1 (show 1<2^64 by decide);simp only[Int.natCast_one]at e;rw[e,Nat.and_one_is_mod,Bool.eq_iff_iff,beq_iff_eq,Nat.testBit_eq_decide_div_mod_eq,Nat.shiftRight_eq_div_pow,decide_eq_true_eq];omega
theorem sorted_ext: ∀ {l m:List Nat},l.Pairwise (· < ·)→m.Pairwise (· < ·)→(∀x,x∈l↔x∈m)→l=m
 | [],[],_,_,_=>rfl
 | [],b::m,_,_,h=>absurd ((h b).2 List.mem_cons_self) zd
 |a::l,[],_,_,h=>absurd ((h a).1 List.mem_cons_self) zd
 |a::l,b::m,hl,hm,h=>by
  rw[List.pairwise_cons]at hl hm
  have hab:a=b:=by
   have h1:=(h a).1 List.mem_cons_self;have h2:=(h b).2 List.mem_cons_self;rw[List.mem_cons]at h1 h2
   rcases h1 with h1|h1
   ·exact h1
   ·rcases h2 with h2|h2
    ·exact h2.symm
    ·have:=hm.1 a h1;have:=hl.1 b h2;omega
  subst hab
  congr 1
  refine sorted_ext hl.2 hm.2 fun x=>?_;have hx:=h x;rw[List.mem_cons,List.mem_cons]at hx
  constructor
  ·intro hxl;rcases hx.1 (Or.inr hxl)with rfl|h1
   ·have:=hl.1 _ hxl;omega
   ·exact h1
  ·intro hxm;rcases hx.2 (Or.inr hxm)with rfl|h1
   ·have:=hm.1 _ hxm;omega
   ·exact h1
def setL(n:Nat):List Nat:=(List.range 64).filter fun i=>n.testBit i
theorem setL_sorted(n:Nat):(setL n).Pairwise (· < ·):=List.Pairwise.filter _ List.pairwise_lt_range
theorem mem_setL{n i:Nat} :i∈setL n↔i<64∧n.testBit i=true:=by simp[setL]
theorem mem_setL'{n i:Nat}(hn:n<2^64):i∈setL n↔n.testBit i=true:=by
 rw[mem_setL];constructor
 ·exact fun h=>h.2
 ·intro h;refine⟨?_,h⟩;rcases Nat.lt_or_ge i 64 with h1|h1
  ·exact h1
  ·rw[testBit_big hn h1]at h
   cases h
theorem setL_length(n:Nat):(setL n).length≤64:=by
 have:=List.length_filter_le (fun i=>n.testBit i) (List.range 64);simpa[setL]using this
theorem setL_zero:setL 0= []:=by simp[setL]
theorem lowest{n:Nat}(h0:n≠0)(hn:n<2^64):Lib.ctz 64 n<64∧n.testBit (Lib.ctz 64 n)=true∧(∀i,i<Lib.ctz 64 n→n.testBit i=false)∧ ∀i,(n &&& (n-1)).testBit i=(n.testBit i&&decide (i≠Lib.ctz 64 n)):=by
 have hc:Lib.ctz 64 n=Lib.ctzFrom 64 n:=by unfold Lib.ctz;rw[if_neg h0]
 obtain⟨m,hm,hlt⟩:=Lib.ctzFrom_spec 64 n za hn;rw[hc];generalize Lib.ctzFrom 64 n=c at hm hlt;have hp:0<2^c:=Nat.pow_pos zc;have e1:n-1=2^c*(2*m)+(2^c-1):=by rw[hm,Nat.mul_add];omega
 have b1: ∀i,n.testBit i=if i<c then false else(2*m+1).testBit (i-c):=by
  intro i;rw[hm,Nat.testBit_two_pow_mul];by_cases h:i<c
  ·rw[if_pos h];simp;omega
  ·rw[if_neg h];simp;omega
 have b2: ∀i,(n-1).testBit i=if i<c then true else(2*m).testBit (i-c):=by
  intro i;rw[e1,Nat.testBit_two_pow_mul_add _ za];by_cases h:i<c
  ·rw[if_pos h,if_pos h,Nat.testBit_two_pow_sub_one];simp[h]
  ·rw[if_neg h,if_neg h]
 refine⟨hlt,?_,?_,?_⟩
 ·rw[b1,if_neg za,Nat.sub_self,Nat.testBit_zero];simp
 ·intro i hi;rw[b1,if_pos hi]
 ·intro i;rw[Nat.testBit_and,b1,b2];by_cases h:i<c
  ·rw[if_pos h];simp
  ·rw[if_neg h,if_neg h];by_cases h2:i=c
   ·subst h2;rw[Nat.sub_self,Nat.testBit_zero,Nat.testBit_zero];simp
   ·obtain⟨j,hj⟩: ∃j,i-c=j+1:=⟨i-c-1,by omega⟩
    rw[hj,Nat.testBit_succ,Nat.testBit_succ,show(2*m+1) / 2=m from by omega,show 2*m / 2=m from by omega];simp[h2]
theorem setL_step{n:Nat}(h0:n≠0)(hn:n<2^64):setL n=Lib.ctz 64 n::setL (n &&& (n-1)):=by
 obtain⟨h1,h2,h3,h4⟩:=lowest h0 hn;have hn':n &&& (n-1)<2^64:=lt_and hn;refine sorted_ext (setL_sorted _) ?_ fun x=>?_
 ·rw[List.pairwise_cons];refine⟨fun x hx=>?_,setL_sorted _⟩;rw[mem_setL' hn',h4]at hx
  simp only[Bool.and_eq_true,decide_eq_true_eq]at hx;rcases Nat.lt_or_ge x (Lib.ctz 64 n)with h|h
  ·rw[h3 x h]at hx
   exact absurd hx.1 zd
  ·omega
 ·rw[List.mem_cons,mem_setL' hn,mem_setL' hn',h4];simp only[Bool.and_eq_true,decide_eq_true_eq];by_cases hx:x=Lib.ctz 64 n
  ·subst hx;simp[h2]
  ·simp[hx]
def ints(l:List Nat):List Int:=l.map fun(x:Nat)=>(x:Int)
theorem ints_length(l:List Nat):(ints l).length=l.length:=List.length_map _
theorem ints_append(a b:List Nat):ints (a++b)=ints a++ints b:=List.map_append
theorem rd_ints(l:List Nat)(i:Nat)(h:i<l.length):rd (ints l) (i:Int)=((l[i]:Nat):Int):=rd_map l i h
def ofL(l:List Nat):Nat:=l.foldl (fun s i=>s|||2^i) 0
theorem foldl_or(l:List Nat): ∀s:Nat,l.foldl (fun s i=>s|||2^i) s=s|||ofL l:=by
 induction l with
 |nil=>intro s;simp[ofL]
 |cons a l ih=>
  intro s;have h1:=ih (s|||2^a);have h2:=ih (0|||2^a);unfold ofL;rw[List.foldl_cons,h1,List.foldl_cons,h2,Nat.zero_or,Nat.or_assoc]
theorem ofL_nil:ofL [] =0:=rfl
theorem ofL_snoc(l:List Nat)(a:Nat):ofL (l++ [a])=ofL l|||2^a:=by simp[ofL,List.foldl_append]
theorem ofL_cons(a:Nat)(l:List Nat):ofL (a::l)=2^a|||ofL l:=by
 have:=foldl_or l (0|||2^a);rw[Nat.zero_or]at this
 unfold ofL at this⊢;rw[List.foldl_cons,Nat.zero_or];exact this
theorem testBit_ofL(l:List Nat)(i:Nat):(ofL l).testBit i=decide (i∈l):=by
 induction l with
 |nil=>simp[ofL]
 |cons a l ih=>
  rw[ofL_cons,Nat.testBit_or,ih,Nat.testBit_two_pow,Bool.eq_iff_iff,Bool.or_eq_true,decide_eq_true_eq,decide_eq_true_eq,decide_eq_true_eq,List.mem_cons];constructor
  ·rintro(h|h)
   ·exact Or.inl h.symm
   ·exact Or.inr h
  ·rintro(h|h)
   ·exact Or.inl h.symm
   ·exact Or.inr h
theorem ofL_lt(l:List Nat)(h: ∀i∈l,i<64):ofL l<2^64:=by
 apply Nat.lt_pow_two_of_testBit;intro i hi;rw[testBit_ofL];simp;intro hm;have:=h i hm;omega
theorem setL_ofL{l:List Nat}(h:l.Pairwise (· < ·))(h2: ∀i∈l,i<64):setL (ofL l)=l:=by
 refine sorted_ext (setL_sorted _) h fun x=>?_;rw[mem_setL,testBit_ofL];simp;exact h2 x
end Go.Proofs.YtkagobkedifhkaaDoor.M
namespace Go.Proofs.YtkagobkedifhkaaDoor.M
set_option linter.unusedVariables false
open Go.RowKit Go.Proofs.YtkagobkedifhkaaDoorW.PrintWords Go.Proofs.YtkagobkedifhkaaDoorW.PrintMore
def ofD(B:Nat):List Nat→Nat
 | []=>0
 |c::r=>c+B*ofD B r
def evens:List Nat→List Nat
 |a::_::r=>a::evens r
 |_=> []
def pairs:List Nat→List Nat
 |a::b::r=>(a+b)::pairs r
 |_=> []
def maskD(B:Nat)(n:Nat):Nat:=ofD (B*B) (List.replicate n (B-1))
theorem ofD_lt{B:Nat}(hB:0<B): ∀ {l:List Nat},(∀c∈l,c<B)→ofD B l<B^l.length
 | [],_=>by simp[ofD]
 |c::r,h=>by
  have h1:=ofD_lt hB (l:=r) fun x hx=>h x (List.mem_cons_of_mem _ hx);have h2:=h c List.mem_cons_self;have h3:B*(ofD B r+1)≤B*B^r.length:=Nat.mul_le_mul_left _ h1;rw[List.length_cons,Nat.pow_succ,Nat.mul_comm (B^r.length)];simp only[ofD];rw[Nat.mul_add]at h3
  omega
theorem and_split{k a x c y:Nat}(ha:a<2^k)(hc:c<2^k):(a+2^k*x) &&& (c+2^k*y)=(a &&& c)+2^k*(x &&& y):=by
 apply Nat.eq_of_testBit_eq;intro i;rw[Nat.add_comm a,Nat.add_comm c,Nat.add_comm (a &&& c),Nat.testBit_and,Nat.testBit_two_pow_mul_add _ ha,Nat.testBit_two_pow_mul_add _ hc,Nat.testBit_two_pow_mul_add _ (Nat.lt_of_le_of_lt Nat.and_le_left ha)];by_cases h:i<k
 ·simp[h]
 ·simp[h]
theorem mask_evens{w:Nat} : ∀(n:Nat) (l:List Nat),l.length=2*n→(∀c∈l,c<2^w)→ofD (2^w) l &&& maskD (2^w) n=ofD (2^w*2^w) (evens l)
 |0,[],_,_=>by simp[ofD,maskD,evens]
 |0,_::_,h,_=>by simp at h
 |n+1,[],h,_=>by simp at h
 |n+1,[_],h,_=>by simp at h;omega
 |n+1,a::b::r,h,hl=>by
  have ih:=mask_evens n r (by simp at h;omega) fun x hx=>hl x (List.mem_cons_of_mem _ (List.mem_cons_of_mem _ hx));have ha:=hl a List.mem_cons_self;have hb:=hl b (List.mem_cons_of_mem _ List.mem_cons_self);have hp:0<2^w:=Nat.pow_pos zc;have e1:ofD (2^w) (a::b::r)=(a+2^w*b)+2^(w+w)*ofD (2^w) r:=by
   simp only[ofD];rw[Nat.mul_add,Nat.pow_add,Nat.mul_assoc];omega
  have e2:maskD (2^w) (n+1)=(2^w-1)+2^(w+w)*maskD (2^w) n:=by
   unfold maskD;rw[List.replicate_succ,ofD,Nat.pow_add]
  have hab:a+2^w*b<2^(w+w):=by
   have:2^w*(b+1)≤2^w*2^w:=Nat.mul_le_mul_left _ hb;rw[Nat.mul_add]at this
   rw[Nat.pow_add];omega
  have hm:2^w-1<2^(w+w):=by
   have:2^w*1≤2^w*2^w:=Nat.mul_le_mul_left _ hp;rw[Nat.pow_add];omega
  rw[e1,e2,and_split hab hm,ih,Nat.and_two_pow_sub_one_eq_mod,Nat.add_mul_mod_self_left,Nat.mod_eq_of_lt ha,evens,ofD,Nat.pow_add]
theorem ofD_shift{w:Nat}{c:Nat}{r:List Nat}(hc:c<2^w):ofD (2^w) (c::r) / 2^w=ofD (2^w) r:=by
 simp only[ofD];rw[Nat.add_mul_div_left _ _ (Nat.pow_pos zc),Nat.div_eq_of_lt hc,Nat.zero_add]
theorem ofD_snoc_zero(B:Nat): ∀l:List Nat,ofD B (l++ [0])=ofD B l
 | []=>by simp[ofD]
 |c::r=>by simp only[List.cons_append,ofD,ofD_snoc_zero B r]
theorem pairs_sum: ∀(n:Nat) (l:List Nat),l.length=2*n→(pairs l).sum=l.sum∧(pairs l).length=n
 |0,[],_=>by simp[pairs]
 |0,_::_,h=>by simp at h
 |n+1,[],h=>by simp at h
 |n+1,[_],h=>by simp at h;omega
 |n+1,a::b::r,h=>by
  have ih:=pairs_sum n r (by simp at h;omega);exact⟨by simp only[pairs,List.sum_cons,ih.1,Nat.add_assoc],by simp only[pairs,List.length_cons,ih.2]⟩
theorem pairs_le{B:Nat} : ∀(l:List Nat),(∀c∈l,c≤B)→ ∀c∈pairs l,c≤2*B
 | [],_,c,hc=>by simp[pairs]at hc
 | [_],_,c,hc=>by simp[pairs]at hc
 |a::b::r,h,c,hc=>by
  simp only[pairs,List.mem_cons]at hc;have ha:=h a List.mem_cons_self;have hb:=h b (List.mem_cons_of_mem _ List.mem_cons_self);rcases hc with rfl|hc
  ·omega
  ·exact pairs_le r (fun x hx=>h x (List.mem_cons_of_mem _ (List.mem_cons_of_mem _ hx))) c hc
theorem evens_odds(B:Nat): ∀(n:Nat) (l:List Nat),l.length=2*n→ofD B (evens (l.tail++ [0]))+ofD B (evens l)=ofD B (pairs l)
 |0,[],_=>by simp[evens,pairs,ofD]
 |0,_::_,h=>by simp at h
 |n+1,[],h=>by simp at h
 |n+1,[_],h=>by simp at h;omega
 |n+1,[a,b],_=>by simp[evens,pairs,ofD];omega
 |n+1,a::b::c::r,h=>by
  have ih:=evens_odds B n (c::r) (by simp at h⊢;omega);simp only[List.tail_cons,List.cons_append,evens,pairs,ofD]at ih⊢;rw[←ih,Nat.mul_add];omega
theorem fields_add{w n:Nat}{l:List Nat}(hl:l.length=2*n)(h: ∀c∈l,c<2^w):
 ((ofD (2^w) l / 2^w) &&& maskD (2^w) n)+(ofD (2^w) l &&& maskD (2^w) n)=ofD (2^w*2^w) (pairs l):=by
 cases l with
 |nil=>
  obtain rfl:n=0:=by simp at hl;omega
  simp[ofD,maskD,pairs]
 |cons c r=>
  rw[ofD_shift (h c List.mem_cons_self),←ofD_snoc_zero,mask_evens n (r++ [0]) (by simp at hl⊢;omega),mask_evens n (c::r) hl h,←evens_odds _ n _ hl,List.tail_cons];intro x hx;rw[List.mem_append]at hx
  rcases hx with hx|hx
  ·exact h x (List.mem_cons_of_mem _ hx)
  ·simp at hx;subst hx;exact Nat.pow_pos zc
def bitsD(n:Nat)(i:Nat):Nat→List Nat
 |0=> []
 |c+1=>(if n.testBit i then 1 else 0)::bitsD n (i+1) c
theorem ofD_bitsD(n:Nat): ∀(c i:Nat),ofD 2 (bitsD n i c)=n / 2^i % 2^c
 |0,i=>by simp[bitsD,ofD,Nat.mod_one]
 |c+1,i=>by
  simp only[bitsD,ofD];rw[ofD_bitsD n c (i+1),Nat.testBit_eq_decide_div_mod_eq,Nat.pow_succ 2 i,←Nat.div_div_eq_div_mul];have h:=Nat.mod_mul (a:=2) (b:=2^c) (x:=n / 2^i);rw[Nat.pow_succ,Nat.mul_comm (2^c) 2,h];have:n / 2^i % 2<2:=Nat.mod_lt _ zc;by_cases h1:n / 2^i % 2=1
  ·simp[h1]
  ·have:n / 2^i % 2=0:=by omega
   simp[this]
theorem bitsD_length(n:Nat): ∀c i,(bitsD n i c).length=c
 |0,_=>rfl
 |c+1,i=>by simp[bitsD,bitsD_length n c (i+1)]
theorem bitsD_le(n:Nat): ∀c i,∀x∈bitsD n i c,x≤1
 |0,_,x,hx=>by simp[bitsD]at hx
 |c+1,i,x,hx=>by
  simp only[bitsD,List.mem_cons]at hx;rcases hx with rfl|hx
  ·split<;>omega
  ·exact bitsD_le n c (i+1) x hx
theorem bitsD_sum(n:Nat): ∀c i,(bitsD n i c).sum=((List.range' i c).filter fun j=>n.testBit j).length
 |0,i=>by simp[bitsD]
 |c+1,i=>by
  simp only[bitsD,List.sum_cons,bitsD_sum n c (i+1),List.range'_succ,List.filter_cons]
  split<;>simp<;>omega
theorem mask1:maskD (2^1) 32=6148914691236517205:=by decide
theorem mask2:maskD (2^2) 16=3689348814741910323:=by decide
theorem mask4:maskD (2^4) 8=1085102592571150095:=by decide
theorem ofD_zip{B:Nat} : ∀(a b:List Nat),a.length=b.length→ofD B (List.zipWith (· + ·) a b)=ofD B a+ofD B b
 | [],[],_=>rfl
 | [],_::_,h=>by simp at h
 |_::_,[],h=>by simp at h
 |x::a,y::b,h=>by
  have ih:=ofD_zip (B:=B) a b (by simpa using h);simp only[List.zipWith_cons_cons,ofD,ih,Nat.mul_add];omega
theorem zip_le{A B:Nat} : ∀(a b:List Nat),(∀c∈a,c≤A)→(∀c∈b,c≤B)→ ∀c∈List.zipWith (· + ·) a b,c≤A+B
 | [],_,_,_,c,hc=>by simp at hc
 |_::_,[],_,_,c,hc=>by simp at hc
 |x::a,y::b,ha,hb,c,hc=>by
  simp only[List.zipWith_cons_cons,List.mem_cons]at hc;have h1:=ha x List.mem_cons_self;have h2:=hb y List.mem_cons_self;rcases hc with rfl|hc
  ·omega
  ·exact zip_le a b (fun z hz=>ha z (List.mem_cons_of_mem _ hz)) (fun z hz=>hb z (List.mem_cons_of_mem _ hz)) c hc
theorem evens_zip: ∀(n:Nat) (m:List Nat),m.length=2*n→evens (List.zipWith (· + ·) (m.tail++ [0]) m)=pairs m
 |0,[],_=>rfl
 |0,_::_,h=>by simp at h
 |n+1,[],h=>by simp at h
 |n+1,[_],h=>by simp at h;omega
 |n+1,[a,b],_=>by simp[evens,pairs,Nat.add_comm]
 |n+1,a::b::c::r,h=>by
  have ih:=evens_zip n (c::r) (by simp at h⊢;omega);simp only[List.tail_cons,List.cons_append,List.zipWith_cons_cons,evens,pairs]at ih⊢;rw[ih,Nat.add_comm a b]
theorem steps(x:Nat)(hx:x<2^64): ∃l1 l2 l3:List Nat,l1.length=32∧(∀c∈l1,c≤2)∧l2.length=16∧(∀c∈l2,c≤4)∧l3.length=8∧(∀c∈l3,c≤8)∧l3.sum=(setL x).length∧
 (x / 2 &&& 6148914691236517205)+(x &&& 6148914691236517205)=ofD 4 l1∧(ofD 4 l1 / 4 &&& 3689348814741910323)+(ofD 4 l1 &&& 3689348814741910323)=ofD 16 l2∧
 (ofD 16 l2 / 16+ofD 16 l2) &&& 1085102592571150095=ofD 256 l3:=by
 have hb:=ofD_bitsD x 64 0;rw[Nat.pow_zero,Nat.div_one,Nat.mod_eq_of_lt hx]at hb
 have hl:=bitsD_length x 64 0;have hs:=bitsD_sum x 64 0;have hle:=bitsD_le x 64 0;generalize bitsD x 0 64=l at hb hl hs hle;have p1:=pairs_sum 32 l hl;have q1:=pairs_le (B:=1) l hle;have p2:=pairs_sum 16 (pairs l) p1.2;have q2:=pairs_le (B:=2) (pairs l) q1;have p3:=pairs_sum 8 (pairs (pairs l)) p2.2;have q3:=pairs_le (B:=4) (pairs (pairs l)) q2;refine⟨pairs l,pairs (pairs l),pairs (pairs (pairs l)),p1.2,q1,p2.2,q2,p3.2,q3,?_,?_,?_,?_⟩
 ·rw[p3.1,p2.1,p1.1,hs,setL,List.range_eq_range']
 ·have:=fields_add (w:=1) (n:=32) hl (fun c hc=>by have:=hle c hc;omega);rw[mask1,show(2:Nat)^1=2 from rfl,hb]at this
  exact this
 ·have:=fields_add (w:=2) (n:=16) p1.2 (fun c hc=>by have:=q1 c hc;omega);rw[mask2]at this
  exact this
 ·
  have hm:=fields_add (w:=4) (n:=8) p2.2 (fun c hc=>by have:=q2 c hc;omega);have hlen:(pairs (pairs l)).length=16:=p2.2;generalize pairs (pairs l)=m at hm hlen q2;have hz:ofD 16 m / 16+ofD 16 m=ofD 16 (List.zipWith (· + ·) (m.tail++ [0]) m)∧(∀c∈List.zipWith (· + ·) (m.tail++ [0]) m,c<16)∧evens (List.zipWith (· + ·) (m.tail++ [0]) m)=pairs m:=by
   refine⟨?_,?_,evens_zip 8 m hlen⟩
   ·cases m with
    |nil=>simp at hlen
    |cons c r=>
     have h:=ofD_shift (w:=4) (c:=c) (r:=r) (by have:=q2 c List.mem_cons_self;omega);rw[show(2:Nat)^4=16 from rfl]at h
     rw[h,ofD_zip _ _ zd,List.tail_cons,ofD_snoc_zero]
   ·intro c hc;have:=zip_le (A:=4) (B:=4) (m.tail++ [0]) m (fun x hx=>by
     rw[List.mem_append]at hx
     rcases hx with hx|hx
     ·exact q2 x (List.mem_of_mem_tail hx)
     ·simp at hx;omega) q2 c hc
    omega
  rw[hz.1];have:=mask_evens (w:=4) 8 (List.zipWith (· + ·) (m.tail++ [0]) m) (by simp[hlen]) hz.2.1;rw[mask4]at this
  rw[show(16:Nat)=2^4 from rfl,this,hz.2.2]
theorem t1(c0 c1 c2 c3 c4 c5 c6 c7 X Y:Nat)(hY:Y=c1+256*c2+65536*c3+16777216*c4+4294967296*c5+1099511627776*c6+281474976710656*c7)(hX:X=c0+256*c1+65536*c2+16777216*c3+4294967296*c4+1099511627776*c5+281474976710656*c6+72057594037927936*c7):X=c0+256*Y:=by omega
theorem t2(c0 c1 c2 c3 c4 c5 c6 c7 X Y Z:Nat)(hY:Y=c1+256*c2+65536*c3+16777216*c4+4294967296*c5+1099511627776*c6+281474976710656*c7)(hX:X=c0+256*c1+65536*c2+16777216*c3+4294967296*c4+1099511627776*c5+281474976710656*c6+72057594037927936*c7)(hZ:Z=(c2+c3)+256*(c3+c4)+65536*(c4+c5)+16777216*(c5+c6)+4294967296*(c6+c7)+1099511627776*c7):X+Y=((c0+c1)+256*(c1+c2))+65536*Z:=by omega
theorem t3(c0 c1 c2 c3 c4 c5 c6 c7 X Y Z V:Nat)(hY:Y=c1+256*c2+65536*c3+16777216*c4+4294967296*c5+1099511627776*c6+281474976710656*c7)(hX:X=c0+256*c1+65536*c2+16777216*c3+4294967296*c4+1099511627776*c5+281474976710656*c6+72057594037927936*c7)(hZ:Z=(c2+c3)+256*(c3+c4)+65536*(c4+c5)+16777216*(c5+c6)+4294967296*(c6+c7)+1099511627776*c7)
 (hV:V=(c4+c5+c6+c7)+256*(c5+c6+c7)+65536*(c6+c7)+16777216*c7):X+Y+Z=((c0+c1+c2+c3)+256*(c1+c2+c3+c4)+65536*(c2+c3+c4+c5)+16777216*(c3+c4+c5+c6))+4294967296*V:=by omega
theorem t4(c0 c1 c2 c3 c4 c5 c6 c7 X Y Z V:Nat)(hV:V=(c4+c5+c6+c7)+256*(c5+c6+c7)+65536*(c6+c7)+16777216*c7)(h:X+Y+Z=((c0+c1+c2+c3)+256*(c1+c2+c3+c4)+65536*(c2+c3+c4+c5)+16777216*(c3+c4+c5+c6))+4294967296*V):X+Y+Z+V=(c0+c1+c2+c3+c4+c5+c6+c7)+128*(2*((c1+c2+c3+c4)+256*(c2+c3+c4+c5)+65536*(c3+c4+c5+c6)+16777216*V+((c5+c6+c7)+256*(c6+c7)+65536*c7))):=by omega
theorem t5(c0 c1 c2 c3 c4 c5 c6 c7 X:Nat)(h0:c0≤8)(h1:c1≤8)(h2:c2≤8)(h3:c3≤8)(h4:c4≤8)(h5:c5≤8)(h6:c6≤8)(h7:c7≤8)(hX:X=c0+256*c1+65536*c2+16777216*c3+4294967296*c4+1099511627776*c5+281474976710656*c6+72057594037927936*c7):X<578721382704613385:=by omega
theorem t6(c2 c3 c4 c5 c6 c7 Z:Nat)(h2:c2≤8)(h3:c3≤8)(h4:c4≤8)(h5:c5≤8)(h6:c6≤8)(h7:c7≤8)(hZ:Z=(c2+c3)+256*(c3+c4)+65536*(c4+c5)+16777216*(c5+c6)+4294967296*(c6+c7)+1099511627776*c7):Z≤9000000000000:=by omega
theorem t0(c0 c1 c2 c3 c4 c5 c6 c7:Nat):ofD 256 [c0,c1,c2,c3,c4,c5,c6,c7] =c0+256*c1+65536*c2+16777216*c3+4294967296*c4+1099511627776*c5+281474976710656*c6+72057594037927936*c7:=by
 simp only[ofD,Nat.mul_zero,Nat.add_zero];omega
theorem t7(c1 c2 c3 c4 c5 c6 c7 Y:Nat)(h1:c1≤8)(h2:c2≤8)(h3:c3≤8)(h4:c4≤8)(h5:c5≤8)(h6:c6≤8)(h7:c7≤8)(hY:Y=c1+256*c2+65536*c3+16777216*c4+4294967296*c5+1099511627776*c6+281474976710656*c7):Y≤3000000000000000:=by omega
theorem last(l:List Nat)(hl:l.length=8)(h: ∀c∈l,c≤8):ofD 256 l<578721382704613385∧(ofD 256 l+ofD 256 l / 256)+(ofD 256 l+ofD 256 l / 256) / 65536<2^63∧
 ((ofD 256 l+ofD 256 l / 256)+(ofD 256 l+ofD 256 l / 256) / 65536+((ofD 256 l+ofD 256 l / 256)+(ofD 256 l+ofD 256 l / 256) / 65536) / 4294967296) % 128=l.sum:=by
 match l,hl with
 | [c0,c1,c2,c3,c4,c5,c6,c7],_=>
   simp only[List.mem_cons,List.not_mem_nil,or_false,forall_eq_or_imp,forall_eq]at h;obtain⟨h0,h1,h2,h3,h4,h5,h6,h7⟩:=h;have hs: [c0,c1,c2,c3,c4,c5,c6,c7].sum=c0+c1+c2+c3+c4+c5+c6+c7:=by
    simp only[List.sum_cons,List.sum_nil];omega
   rw[hs,t0];generalize hX:c0+256*c1+65536*c2+16777216*c3+4294967296*c4+1099511627776*c5+281474976710656*c6+72057594037927936*c7=X;obtain⟨Y,hY⟩: ∃Y,Y=c1+256*c2+65536*c3+16777216*c4+4294967296*c5+1099511627776*c6+281474976710656*c7:=⟨_,rfl⟩
   obtain⟨Z,hZ⟩: ∃Z,Z=(c2+c3)+256*(c3+c4)+65536*(c4+c5)+16777216*(c5+c6)+4294967296*(c6+c7)+1099511627776*c7:=⟨_,rfl⟩
   obtain⟨V,hV⟩: ∃V,V=(c4+c5+c6+c7)+256*(c5+c6+c7)+65536*(c6+c7)+16777216*c7:=⟨_,rfl⟩
   have b1:=t5 c0 c1 c2 c3 c4 c5 c6 c7 X h0 h1 h2 h3 h4 h5 h6 h7 hX.symm;have b2:=t7 c1 c2 c3 c4 c5 c6 c7 Y h1 h2 h3 h4 h5 h6 h7 hY;have b3:=t6 c2 c3 c4 c5 c6 c7 Z h2 h3 h4 h5 h6 h7 hZ;have e1:=t1 c0 c1 c2 c3 c4 c5 c6 c7 X Y hY hX.symm;have e2:=t2 c0 c1 c2 c3 c4 c5 c6 c7 X Y Z hY hX.symm hZ;have e3:=t3 c0 c1 c2 c3 c4 c5 c6 c7 X Y Z V hY hX.symm hZ hV;have e4:=t4 c0 c1 c2 c3 c4 c5 c6 c7 X Y Z V hV e3;clear hX hY hZ hV;have d1:X / 256=Y:=by
    rw[e1,Nat.add_mul_div_left _ _ zc,Nat.div_eq_of_lt za,Nat.zero_add]
   have d2:(X+Y) / 65536=Z:=by
    rw[e2,Nat.add_mul_div_left _ _ zc,Nat.div_eq_of_lt za,Nat.zero_add]
   have d3:(X+Y+Z) / 4294967296=V:=by
    rw[e3,Nat.add_mul_div_left _ _ zc,Nat.div_eq_of_lt za,Nat.zero_add]
   clear e1 e2 e3;rw[d1,d2,d3,e4,Nat.add_mul_mod_self_left,Nat.mod_eq_of_lt za];exact⟨b1,by omega,rfl⟩
theorem last16(l:List Nat)(hl:l.length=16)(h: ∀c∈l,c≤4):ofD 16 l≤4919131752989213764:=by
 match l,hl with
 | [c0,c1,c2,c3,c4,c5,c6,c7,c8,c9,D,G,I,J,O,U],_=>
   simp only[List.mem_cons,List.not_mem_nil,or_false,forall_eq_or_imp,forall_eq]at h;simp only[ofD,Nat.mul_zero,Nat.add_zero];omega
end Go.Proofs.YtkagobkedifhkaaDoor.M
namespace Go.Proofs.YtkagobkedifhkaaDoor.M
set_option linter.unusedVariables false
set_option linter.unusedSimpArgs false
open Go.RowKit Go.Proofs.YtkagobkedifhkaaDoor.Q Go.Proofs.YtkagobkedifhkaaDoorW.PrintWords Go.Proofs.YtkagobkedifhkaaDoorW.PrintMore
theorem low_lt{n:Nat}(hn:n≤64):2^n-1<2^64:=by
 have:2^n≤2^64:=Nat.pow_le_pow_right zc hn;have:0<2^n:=Nat.pow_pos zc;omega
theorem testBit_low(n i:Nat):(2^n-1).testBit i=decide (i<n):=Nat.testBit_two_pow_sub_one n i
theorem refFull_l0{n:Nat}(hn:n≤64)(d:Nat): ∀i,i+d=n→Ends (fun k=>recoupref06_Full.l0 k (n:Int) ((2^i-1:Nat):Int) (i:Int)) (((2^n-1:Nat):Int),0):=by
 induction d with
 |zero=>
  intro i hi;obtain rfl:i=n:=by omega
  refine Ends.succ (fun k=>by rw[recoupref06_Full.l0]) ?_;exact Ends.neg za (Ends.const rfl)
 |succ d ih=>
  intro i hi;refine Ends.succ (fun k=>by rw[recoupref06_Full.l0]) ?_;rw[show IntKind.u64.wrap (i:Int)=(i:Int)from wu64 za za,show wrap64 ((i:Int)+1)=((i+1:Nat):Int)from by rw[w64 za za];omega];refine Ends.pos za (Ends.pos za ?_);have e:Go.bits .or .u64 ((2^i-1:Nat):Int) (shl .u64 1 (i:Int))=((2^(i+1)-1:Nat):Int):=by
   rw[shl_one za,bor (low_lt za) (pow_lt za)]
   congr 1
   apply Nat.eq_of_testBit_eq;intro j;rw[Nat.testBit_or,testBit_low,testBit_low,Nat.testBit_two_pow,Bool.eq_iff_iff,Bool.or_eq_true,decide_eq_true_eq,decide_eq_true_eq,decide_eq_true_eq];omega
  rw[e];exact ih (i+1) za
def fullV(n:Int):Int×Int:=if 0≤n∧n≤64 then(((2^n.toNat-1:Nat):Int),0)else(0,2)
theorem refFull_eq(n:Int):Ends (fun k=>recoupref06_Full.f k n) (fullV n):=by
 unfold recoupref06_Full.f fullV;by_cases h0:n<0
 ·refine Ends.pos h0 (Ends.succ (fun j=>by rw[recoupref06_Full.j0]) (Ends.pos rfl (Ends.const ?_)));rw[if_neg za]
 ·refine Ends.neg h0 ?_;by_cases h1:n>64
  ·refine Ends.succ (fun j=>by rw[recoupref06_Full.j0]) (Ends.pos (by simpa using h1) (Ends.const ?_));rw[if_neg za]
  ·rw[if_pos za];refine Ends.succ (fun j=>by rw[recoupref06_Full.j0]) (Ends.neg (by simpa using h1) ?_);obtain⟨m,rfl⟩:=Int.eq_ofNat_of_zero_le (show 0≤n by omega);exact refFull_l0 za _ 0 (Nat.zero_add _)
theorem has_eq{s:Nat}(hs:s<2^64)(i:Int):recoupref06_Has.f (s:Int) i=some (decide (0≤i)&&s.testBit i.toNat):=by
 unfold recoupref06_Has.f;by_cases h0:i≥0
 ·rw[if_pos h0];obtain⟨j,rfl⟩:=Int.eq_ofNat_of_zero_le h0;by_cases h1:(j:Int)<64
  ·rw[if_pos h1,show IntKind.u64.wrap (j:Int)=(j:Int)from wu64 za za,if_pos za,bit_asked hs za];simp
  ·rw[if_neg h1,Int.toNat_natCast,testBit_big hs za];simp
 ·rw[if_neg h0,show decide (0≤i)=false from by simpa using h0];rfl
theorem refList_l0{s:Nat}(hs:s<2^64)(d:Nat): ∀i,i+d=64→Ends (fun k=>recoupref06_List.l0 k (s:Int) (ints ((List.range i).filter fun j=>s.testBit j)) (i:Int)) (ints (setL s)):=by
 induction d with
 |zero=>
  intro i hi;obtain rfl:i=64:=by omega
  refine Ends.succ (fun k=>by rw[recoupref06_List.l0]) ?_;exact Ends.neg za (Ends.const rfl)
 |succ d ih=>
  intro i hi;have ihn:=ih (i+1) za;refine Ends.succ (fun k=>by rw[recoupref06_List.l0]) ?_;rw[show wrap64 ((i:Int)+1)=((i+1:Nat):Int)from by rw[w64 za za];omega];refine Ends.pos za (Ends.bind1 (has_eq hs _) ?_);have hl:(ints ((List.range i).filter fun j=>s.testBit j)).length<17592186044416:=by
   rw[ints_length];have:=List.length_filter_le (fun j=>s.testBit j) (List.range i);rw[List.length_range]at this
   omega
  rw[List.range_succ,List.filter_append]at ihn
  by_cases hb:s.testBit i=true
  ·refine Ends.pos (by simp[hb]) (Ends.pos hl ?_);rw[show List.filter (fun j=>s.testBit j) [i] = [i]from by simp[hb],ints_append]at ihn
   exact ihn
  ·refine Ends.neg (by simp[hb]) ?_;rw[show List.filter (fun j=>s.testBit j) [i] = []from by simp[hb],List.append_nil]at ihn
   exact ihn
theorem refList_eq{s:Nat}(hs:s<2^64):Ends (fun k=>recoupref06_List.f k (s:Int)) (ints (setL s)):=by
 unfold recoupref06_List.f;exact refList_l0 hs 64 0 za
theorem List_l0(d:Nat): ∀(s:Nat) (acc:List Nat),s<2^64→(setL s).length≤d→acc.length+(setL s).length≤64→Ends (fun k=>subset_List.l0 k (s:Int) (ints acc)) (ints (acc++setL s)):=by
 induction d with
 |zero=>
  intro s acc hs hd hl;have h0:s=0:=by
   apply Classical.byContradiction;intro h;rw[setL_step h hs]at hd
   simp at hd
  subst h0;refine Ends.succ (fun k=>by rw[subset_List.l0]) ?_;refine Ends.pos ze (Ends.const ?_);rw[setL_zero,List.append_nil]
 |succ d ih=>
  intro s acc hs hd hl;by_cases h0:s=0
  ·subst h0;refine Ends.succ (fun k=>by rw[subset_List.l0]) ?_;refine Ends.pos ze (Ends.const ?_);rw[setL_zero,List.append_nil]
  ·have hst:=setL_step h0 hs;rw[hst,List.length_cons]at hd hl
   refine Ends.succ (fun k=>by rw[subset_List.l0]) (Ends.neg za ?_);have ht:bits_TrailingZeros64.f (s:Int)=some ((Lib.ctz 64 s:Nat):Int):=by
    unfold bits_TrailingZeros64.f;rw[if_pos (by unfold u64B;simp;omega),Int.toNat_natCast]
   refine Ends.bind1 ht (Ends.pos zaj ?_);have e:Go.bits .and .u64 (s:Int) (IntKind.u64.wrap ((s:Int)-1))=((s &&& (s-1):Nat):Int):=by
    rw[wu64 za za,show((s:Int)-1)=((s-1:Nat):Int)from by omega,band hs za]
   rw[e,show ints acc++ [((Lib.ctz 64 s:Nat):Int)] =ints (acc++ [Lib.ctz 64 s])from by rw[ints_append];rfl];refine(ih (s &&& (s-1)) (acc++ [Lib.ctz 64 s]) (lt_and hs) za zl).eq ?_;rw[hst,List.append_assoc];rfl
theorem List_eq{s:Nat}(hs:s<2^64):Ends (fun k=>subset_List.f k (s:Int)) (ints (setL s)):=by
 unfold subset_List.f;exact List_l0 64 s [] hs (setL_length s) (by have:=setL_length s;simpa using this)
def setOk(n:Int)(s:Nat):Prop:=0≤n∧n≤64∧ ∀i∈setL s,(i:Int)<n
instance (n:Int) (s:Nat):Decidable (setOk n s):=by unfold setOk;infer_instance
theorem within{n s:Nat}(hn:n≤64)(hs:s<2^64):(s &&& (2^64-1-(2^n-1))=0)↔ ∀i∈setL s,i<n:=by
 constructor
 ·intro h i hi;have h1:=congrArg (fun x=>x.testBit i) h;simp only[Nat.zero_testBit]at h1;rw[testBit_andNot hs (low_lt hn),(mem_setL.1 hi).2,testBit_low]at h1
  simpa using h1
 ·intro h;apply Nat.eq_of_testBit_eq;intro i;rw[testBit_andNot hs (low_lt hn),testBit_low,Nat.zero_testBit];by_cases hb:s.testBit i=true
  ·have:=h i ((mem_setL' hs).2 hb);simp[this]
  ·simp[hb]
theorem asked{n s:Nat}(hn:n≤64)(hs:s<2^64):(Go.bits .andNot .u64 (s:Int) ((2^n-1:Nat):Int)=0)↔setOk (n:Int) s:=by
 rw[bandNot hs (low_lt hn)];have h:=within hn hs;unfold setOk;constructor
 ·intro h1;have h2:=h.1 za;exact⟨by omega,by omega,fun i hi=>by have:=h2 i hi;omega⟩
 ·rintro⟨_,_,h1⟩;have:=h.2 fun i hi=>by have:=h1 i hi;omega
  omega
theorem Has_eq{s:Nat}(hs:s<2^64)(i:Int):subset_Has.f (s:Int) i=some (decide (0≤i)&&s.testBit i.toNat):=by
 unfold subset_Has.f;by_cases h0:i≥0
 ·rw[if_pos h0];obtain⟨j,rfl⟩:=Int.eq_ofNat_of_zero_le h0;by_cases h1:(j:Int)<64
  ·rw[if_pos h1,if_pos za,bit_asked hs za];simp
  ·rw[if_neg h1,Int.toNat_natCast,testBit_big hs za];simp
 ·rw[if_neg h0,show decide (0≤i)=false from by simpa using h0];rfl
theorem div_nat(a b:Nat):((a:Nat):Int) / (b:Int)=((a / b:Nat):Int):=by simp
theorem band127{x:Nat}(hx:x<2^63):Go.bits .and .i64 (x:Int) 127=((x % 128:Nat):Int):=by
 have h1:(BitVec.ofInt 64 (x:Int)).toNat=x:=by
  rw[BitVec.ofInt_natCast,BitVec.toNat_ofNat];exact Nat.mod_eq_of_lt za
 have h2:(BitVec.ofInt 64 (127:Int)).toNat=127:=by decide
 show IntKind.i64.wrap ((BitVec.ofInt 64 (x:Int) &&& BitVec.ofInt 64 127).toNat:Int)=_;rw[BitVec.toNat_and,h1,h2,show(127:Nat)=2^7-1 from rfl,Nat.and_two_pow_sub_one_eq_mod];have:x % 2^7<128:=Nat.mod_lt _ zc;have e:IntKind.i64.wrap ((x % 2^7:Nat):Int)=wrap64 ((x % 2^7:Nat):Int):=Go.Proofs.YtkagobkedifhkaaDoorW.PrintLast.i64_w _;rw[e,w64 za za]
theorem ones_eq{s:Nat}(hs:s<2^64):bits_OnesCount64.f (s:Int)=some (((setL s).length:Nat):Int):=by
 obtain⟨l1,l2,l3,p1,q1,p2,q2,p3,q3,hsum,e1,e2,e3⟩:=steps s hs;have b1:ofD 4 l1<2^64:=by
  have:=ofD_lt (B:=4) zc (l:=l1) fun c hc=>by have:=q1 c hc;omega
  rw[p1]at this
  exact this
 have b2:ofD 16 l2<2^64:=by
  have:=ofD_lt (B:=16) zc (l:=l2) fun c hc=>by have:=q2 c hc;omega
  rw[p2]at this
  exact this
 obtain⟨c1,c2,c3⟩:=last l3 p3 q3;have X1:IntKind.u64.wrap ((Go.bits .and .u64 ((s:Int) / 2) 6148914691236517205)+(Go.bits .and .u64 (s:Int) 6148914691236517205))=((ofD 4 l1:Nat):Int):=by
  rw[show((s:Int) / 2)=((s / 2:Nat):Int)from div_nat s 2,show(6148914691236517205:Int)=((6148914691236517205:Nat):Int)from rfl,band za zc,band hs zc,←Int.natCast_add,e1];exact wuN b1
 have X2:IntKind.u64.wrap ((Go.bits .and .u64 (((ofD 4 l1:Nat):Int) / 4) 3689348814741910323)+(Go.bits .and .u64 ((ofD 4 l1:Nat):Int) 3689348814741910323))=((ofD 16 l2:Nat):Int):=by
  rw[show(((ofD 4 l1:Nat):Int) / 4)=((ofD 4 l1 / 4:Nat):Int)from div_nat _ 4,show(3689348814741910323:Int)=((3689348814741910323:Nat):Int)from rfl,band za zc,band b1 zc,←Int.natCast_add,e2];exact wuN b2
 have b3:ofD 16 l2 / 16+ofD 16 l2<2^64:=by
  have h:=last16 l2 p2 q2;omega
 have X3:Go.bits .and .u64 (IntKind.u64.wrap (((ofD 16 l2:Nat):Int) / 16+((ofD 16 l2:Nat):Int))) 1085102592571150095=((ofD 256 l3:Nat):Int):=by
  rw[show(((ofD 16 l2:Nat):Int) / 16)=((ofD 16 l2 / 16:Nat):Int)from div_nat _ 16,←Int.natCast_add,wuN b3,show(1085102592571150095:Int)=((1085102592571150095:Nat):Int)from rfl,band b3 zc,e3]
 have X4:IntKind.u64.wrap (((ofD 256 l3:Nat):Int)+((ofD 256 l3:Nat):Int) / 256)=((ofD 256 l3+ofD 256 l3 / 256:Nat):Int):=by
  rw[show(((ofD 256 l3:Nat):Int) / 256)=((ofD 256 l3 / 256:Nat):Int)from div_nat _ 256,←Int.natCast_add];exact wuN za
 have X5: ∀y:Nat,y+y / 65536<2^63→IntKind.u64.wrap ((y:Int)+(y:Int) / 65536)=((y+y / 65536:Nat):Int):=by
  intro y hy;rw[show((y:Int) / 65536)=((y / 65536:Nat):Int)from div_nat _ 65536,←Int.natCast_add];exact wuN za
 have X6: ∀y:Nat,y<2^63→y+y / 4294967296<2^63→wrap64 (IntKind.u64.wrap ((y:Int)+(y:Int) / 4294967296))=((y+y / 4294967296:Nat):Int):=by
  intro y _ hy;rw[show((y:Int) / 4294967296)=((y / 4294967296:Nat):Int)from div_nat _ 4294967296,←Int.natCast_add,wuN za];exact w64 za za
 unfold bits_OnesCount64.f;rw[X1,X2,X3,X4,X5 _ c2];have b7:(ofD 256 l3+ofD 256 l3 / 256+(ofD 256 l3+ofD 256 l3 / 256) / 65536)<2^60:=by omega
 rw[X6 _ za za,band127 za,c3,hsum]
theorem Count_eq{s:Nat}(hs:s<2^64):subset_Count.f (s:Int)=some (((setL s).length:Nat):Int):=by
 unfold subset_Count.f;rw[ones_eq hs];rfl
end Go.Proofs.YtkagobkedifhkaaDoor.M
namespace Go.Proofs.YtkagobkedifhkaaDoor.M
structure El where
 v:BitVec 8
deriving DecidableEq
theorem El.eq{a b:El}(h:a.v=b.v):a=b:=by cases a;cases b;cases h;rfl
instance:Add El:=⟨fun a b=>⟨a.v ^^^ b.v⟩⟩
instance:Zero El:=⟨⟨0⟩⟩
instance:OfNat El 0:=⟨⟨0⟩⟩
instance:OfNat El 1:=⟨⟨1⟩⟩
theorem add_comm(a b:El):a+b=b+a:=El.eq (BitVec.xor_comm _ _)
theorem add_assoc(a b c:El):a+b+c=a+(b+c):=El.eq (BitVec.xor_assoc _ _ _)
theorem add_self(a:El):a+a=0:=El.eq BitVec.xor_self
theorem add_zero(a:El):a+0=a:=El.eq BitVec.xor_zero
theorem zero_add(a:El):0+a=a:=El.eq BitVec.zero_xor
instance:Std.Commutative (α:=El) (· + ·):=⟨add_comm⟩
instance:Std.Associative (α:=El) (· + ·):=⟨add_assoc⟩
theorem add_cancel{a b:El}(h:a+b=0):a=b:=by
 have:a+b+b=0+b:=by rw[h]
 rw[add_assoc,add_self,add_zero,zero_add]at this
 exact this
def xt(a:BitVec 8):BitVec 8:=(a <<< 1) ^^^ (if a.getLsbD 7 then 0x1d#8 else 0#8)
theorem xt_xor(a b:BitVec 8):xt (a ^^^ b)=xt a ^^^ xt b:=by
 unfold xt;rw[BitVec.shiftLeft_xor_distrib,BitVec.getLsbD_xor]
 cases a.getLsbD 7<;>cases b.getLsbD 7<;>simp<;>first|ac_rfl|skip
 ·rw[show a <<< 1 ^^^ 29#8 ^^^ (b <<< 1 ^^^ 29#8)=(a <<< 1 ^^^ b <<< 1) ^^^ (29#8 ^^^ 29#8)from by ac_rfl];simp
def xtn:Nat→BitVec 8→BitVec 8
 |0,a=>a
 |n+1,a=>xt (xtn n a)
theorem xtn_xor: ∀n a b,xtn n (a ^^^ b)=xtn n a ^^^ xtn n b
 |0,_,_=>rfl
 |n+1,a,b=>by
  show xt (xtn n (a ^^^ b))=_;rw[xtn_xor n,xt_xor];rfl
theorem xtn_xt: ∀n a,xtn n (xt a)=xt (xtn n a)
 |0,_=>rfl
 |n+1,a=>by
  show xt (xtn n (xt a))=_;rw[xtn_xt n];rfl
theorem xtn_add: ∀m n a,xtn (m+n) a=xtn m (xtn n a)
 |0,n,a=>by rw[Nat.zero_add];rfl
 |m+1,n,a=>by
  rw[show m+1+n=(m+n)+1 from by omega];show xt (xtn (m+n) a)=xt (xtn m (xtn n a));rw[xtn_add m]
def gmN(a b:BitVec 8):Nat→BitVec 8
 |0=>0
 |n+1=>gmN a b n ^^^ (if b.getLsbD n then xtn n a else 0)
def gm(a b:BitVec 8):BitVec 8:=gmN a b 8
theorem gmN_xor_right(a b c:BitVec 8): ∀n,gmN a (b ^^^ c) n=gmN a b n ^^^ gmN a c n
 |0=>by simp[gmN]
 |n+1=>by
  show gmN a (b ^^^ c) n ^^^ _=(gmN a b n ^^^ _) ^^^ (gmN a c n ^^^ _);rw[gmN_xor_right a b c n,BitVec.getLsbD_xor,show(gmN a b n ^^^ if b.getLsbD n=true then xtn n a else 0) ^^^ (gmN a c n ^^^ if c.getLsbD n=true then xtn n a else 0)=(gmN a b n ^^^ gmN a c n) ^^^ ((if b.getLsbD n=true then xtn n a else 0) ^^^ (if c.getLsbD n=true then xtn n a else 0))from by ac_rfl]
  cases b.getLsbD n<;>cases c.getLsbD n<;>simp
theorem gmN_xor_left(a b c:BitVec 8): ∀n,gmN (a ^^^ b) c n=gmN a c n ^^^ gmN b c n
 |0=>by simp[gmN]
 |n+1=>by
  show gmN (a ^^^ b) c n ^^^ _=(gmN a c n ^^^ _) ^^^ (gmN b c n ^^^ _);rw[gmN_xor_left a b c n,show(gmN a c n ^^^ if c.getLsbD n=true then xtn n a else 0) ^^^ (gmN b c n ^^^ if c.getLsbD n=true then xtn n b else 0)=(gmN a c n ^^^ gmN b c n) ^^^ ((if c.getLsbD n=true then xtn n a else 0) ^^^ (if c.getLsbD n=true then xtn n b else 0))from by ac_rfl,xtn_xor]
  cases c.getLsbD n<;>simp
theorem gmN_xt(a b:BitVec 8): ∀n,gmN (xt a) b n=xt (gmN a b n)
 |0=>show(0:BitVec 8)=xt 0 by decide
 |n+1=>by
  show gmN (xt a) b n ^^^ _=xt (gmN a b n ^^^ _);rw[gmN_xt a b n,xt_xor,xtn_xt]
  cases b.getLsbD n
  ·have:xt (0:BitVec 8)=0:=by decide
   simp only[Bool.false_eq_true,if_false];rw[this]
  ·simp
theorem gm_one_left: ∀b:BitVec 8,gm 1 b=b:=by decide+kernel
theorem gm_one_right: ∀a:BitVec 8,gm a 1=a:=by decide+kernel
def pw(n:Nat):BitVec 8:=xtn n 1
theorem gm_pw: ∀i b,gm (pw i) b=xtn i b
 |0,b=>gm_one_left b
 |i+1,b=>by
  show gmN (xt (pw i)) b 8=_;rw[gmN_xt];show xt (gm (pw i) b)=_;rw[gm_pw i b];rfl
theorem gm_pw_pw(i j:Nat):gm (pw i) (pw j)=pw (i+j):=by
 rw[gm_pw];unfold pw;rw[xtn_add]
theorem pw_255:pw 255=1:=by decide+kernel
theorem pw_add_255(n:Nat):pw (n+255)=pw n:=by
 unfold pw;rw[xtn_add];exact congrArg _ pw_255
def lgFrom(a:BitVec 8):Nat→Nat→BitVec 8→Nat
 |0,i,_=>i
 |f+1,i,p=>if p=a then i else lgFrom a f (i+1) (xt p)
def lg(a:BitVec 8):Nat:=lgFrom a 254 0 1
theorem lgFrom_le(a:BitVec 8): ∀f i p,lgFrom a f i p≤i+f
 |0,i,p=>Nat.le_refl _
 |f+1,i,p=>by
  unfold lgFrom
  split
  ·omega
  ·have:=lgFrom_le a f (i+1) (xt p);omega
theorem lg_le(a:BitVec 8):lg a≤254:=by have:=lgFrom_le a 254 0 1;unfold lg;omega
theorem pw_lg: ∀a:BitVec 8,a≠0→pw (lg a)=a:=by decide+kernel
theorem gm_zero_right(a:BitVec 8):gm a 0=0:=by
 have:=gmN_xor_right a 0 0 8;simpa[gm]using this
theorem gm_zero_left(b:BitVec 8):gm 0 b=0:=by
 have:=gmN_xor_left 0 0 b 8;simpa[gm]using this
theorem gm_comm(a b:BitVec 8):gm a b=gm b a:=by
 by_cases ha:a=0
 ·subst ha;rw[gm_zero_left,gm_zero_right]
 ·by_cases hb:b=0
  ·subst hb;rw[gm_zero_left,gm_zero_right]
  ·rw[←pw_lg a ha,←pw_lg b hb,gm_pw_pw,gm_pw_pw,Nat.add_comm]
theorem gm_assoc(a b c:BitVec 8):gm (gm a b) c=gm a (gm b c):=by
 by_cases ha:a=0
 ·subst ha;rw[gm_zero_left,gm_zero_left,gm_zero_left]
 ·by_cases hb:b=0
  ·subst hb;rw[gm_zero_right,gm_zero_left,gm_zero_right]
  ·by_cases hc:c=0
   ·subst hc;rw[gm_zero_right,gm_zero_right,gm_zero_right]
   ·rw[←pw_lg a ha,←pw_lg b hb,←pw_lg c hc,gm_pw_pw,gm_pw_pw,gm_pw_pw,gm_pw_pw,Nat.add_assoc]
def ginv(a:BitVec 8):BitVec 8:=if a=0 then 0 else pw (255-lg a)
theorem gm_inv(a:BitVec 8)(h:a≠0):gm a (ginv a)=1:=by
 unfold ginv;have hl:=lg_le a;rw[if_neg h]
 conv=>lhs;arg 1;rw[←pw_lg a h]
 rw[gm_pw_pw,show lg a+(255-lg a)=255 from by omega,pw_255]
instance:Mul El:=⟨fun a b=>⟨gm a.v b.v⟩⟩
def El.inv(a:El):El:=⟨ginv a.v⟩
theorem mul_comm(a b:El):a*b=b*a:=El.eq (gm_comm _ _)
theorem mul_assoc(a b c:El):a*b*c=a*(b*c):=El.eq (gm_assoc _ _ _)
instance:Std.Commutative (α:=El) (· * ·):=⟨mul_comm⟩
instance:Std.Associative (α:=El) (· * ·):=⟨mul_assoc⟩
theorem mul_one(a:El):a*1=a:=El.eq (gm_one_right _)
theorem one_mul(a:El):1*a=a:=El.eq (gm_one_left _)
theorem mul_zero(a:El):a*0=0:=El.eq (gm_zero_right _)
theorem zero_mul(a:El):0*a=0:=El.eq (gm_zero_left _)
theorem mul_add(a b c:El):a*(b+c)=a*b+a*c:=El.eq (gmN_xor_right _ _ _ 8)
theorem add_mul(a b c:El):(a+b)*c=a*c+b*c:=El.eq (gmN_xor_left _ _ _ 8)
theorem one_ne_zero:(1:El)≠0:=by decide
theorem v_ne{a:El}(h:a≠0):a.v≠0:=fun e=>h (El.eq e)
theorem mul_inv{a:El}(h:a≠0):a*a.inv=1:=El.eq (gm_inv _ (v_ne h))
theorem inv_mul{a:El}(h:a≠0):a.inv*a=1:=by rw[mul_comm,mul_inv h]
theorem inv_ne{a:El}(h:a≠0):a.inv≠0:=fun e=>by
 have:=mul_inv h;rw[e,mul_zero]at this
 exact one_ne_zero this.symm
theorem inv_unique{a b:El}(h:a*b=1):b=a.inv:=by
 have ha:a≠0:=fun e=>by rw[e,zero_mul]at h;exact one_ne_zero h.symm
 rw[←one_mul b,←inv_mul ha,mul_assoc,h,mul_one]
def sm:Nat→(Nat→El)→El
 |0,_=>0
 |n+1,f=>sm n f+f n
theorem sm_congr{f g:Nat→El} : ∀ {n},(∀i,i<n→f i=g i)→sm n f=sm n g
 |0,_=>rfl
 |n+1,h=>by
  show sm n f+f n=sm n g+g n;rw[sm_congr (fun i hi=>h i za),h n za]
theorem sm_zero{f:Nat→El}{n:Nat}(h: ∀i,i<n→f i=0):sm n f=0:=by
 induction n with
 |zero=>rfl
 |succ n ih=>
  show sm n f+f n=0;rw[ih (fun i hi=>h i za),h n za,add_zero]
theorem sm_add(f g:Nat→El): ∀n,sm n (fun i=>f i+g i)=sm n f+sm n g
 |0=>(add_zero 0).symm
 |n+1=>by
  show sm n (fun i=>f i+g i)+(f n+g n)=(sm n f+f n)+(sm n g+g n);rw[sm_add f g n]
  ac_rfl
theorem sm_mul(a:El)(f:Nat→El): ∀n,sm n (fun i=>a*f i)=a*sm n f
 |0=>(mul_zero a).symm
 |n+1=>by
  show sm n (fun i=>a*f i)+a*f n=a*(sm n f+f n);rw[sm_mul a f n,mul_add]
theorem sm_mul_right(a:El)(f:Nat→El)(n:Nat):sm n (fun i=>f i*a)=sm n f*a:=by
 rw[mul_comm,←sm_mul];exact sm_congr fun i _=>mul_comm _ _
theorem sm_swap(f:Nat→Nat→El): ∀m n,sm m (fun i=>sm n (fun j=>f i j))=sm n (fun j=>sm m (fun i=>f i j))
 |0,n=>(sm_zero fun _ _=>rfl).symm
 |m+1,n=>by
  show sm m (fun i=>sm n (fun j=>f i j))+sm n (fun j=>f m j)=sm n (fun j=>sm m (fun i=>f i j)+f m j);rw[sm_swap f m n,sm_add]
theorem sm_one{f:Nat→El}{n k:Nat}(hk:k<n)(h: ∀i,i<n→i≠k→f i=0):sm n f=f k:=by
 induction n with
 |zero=>omega
 |succ n ih=>
  show sm n f+f n=f k;by_cases e:k=n
  ·subst e;rw[sm_zero fun i hi=>h i za za,zero_add]
  ·rw[ih za (fun i hi hne=>h i za hne),h n za (fun x=>e x.symm),add_zero]
theorem sm_split(f:Nat→El)(m:Nat): ∀n,sm (m+n) f=sm m f+sm n (fun i=>f (m+i))
 |0=>(add_zero _).symm
 |n+1=>by
  show sm (m+n) f+f (m+n)=sm m f+(sm n (fun i=>f (m+i))+f (m+n));rw[sm_split f m n,add_assoc]
theorem sm_take{f:Nat→El}{m n:Nat}(h:m≤n)(hz: ∀i,m≤i→i<n→f i=0):sm n f=sm m f:=by
 obtain⟨d,rfl⟩: ∃d,n=m+d:=⟨n-m,by omega⟩
 rw[sm_split,sm_zero (n:=d) fun i hi=>hz _ za za,add_zero]
theorem sm_pick{f:Nat→El}{n k:Nat}(hk:k<n):sm n f=f k+sm n (fun i=>if i=k then 0 else f i):=by
 have h1:sm n f=sm n (fun i=>(if i=k then f i else 0)+(if i=k then 0 else f i)):=sm_congr fun i _=>by
  by_cases e:i=k
  ·rw[if_pos e,if_pos e,add_zero]
  ·rw[if_neg e,if_neg e,zero_add]
 rw[h1,sm_add,sm_one hk (fun i _ hne=>if_neg hne),if_pos rfl]
end Go.Proofs.YtkagobkedifhkaaDoor.M
namespace Go.Proofs.YtkagobkedifhkaaDoor.M
open Go.RowKit Go.Proofs.YtkagobkedifhkaaDoorW.PrintWords Go.Proofs.YtkagobkedifhkaaDoorW.PrintLast Go.Proofs.YtkagobkedifhkaaDoorW.PrintMore Go.Proofs.YtkagobkedifhkaaDoor.Q
theorem wi64{x:Nat}(h:x<2^63):IntKind.i64.wrap (x:Int)=(x:Int):=by
 rw[show IntKind.i64.wrap (x:Int)=wrap64 (x:Int)from i64_w _];exact w64 za za
theorem toNat64{a:Nat}(h:a<2^63):(BitVec.ofInt 64 (a:Int)).toNat=a:=by
 rw[BitVec.ofInt_natCast,BitVec.toNat_ofNat];exact Nat.mod_eq_of_lt za
theorem band64{a b:Nat}(ha:a<2^63)(hb:b<2^63):Go.bits .and .i64 (a:Int) (b:Int)=((a &&& b:Nat):Int):=by
 show IntKind.i64.wrap ((BitVec.ofInt 64 (a:Int) &&& BitVec.ofInt 64 (b:Int)).toNat:Int)=_;rw[BitVec.toNat_and,toNat64 ha,toNat64 hb];exact wi64 (Nat.lt_of_le_of_lt Nat.and_le_left ha)
theorem bxor64{a b:Nat}(ha:a<2^63)(hb:b<2^63):Go.bits .xor .i64 (a:Int) (b:Int)=((a ^^^ b:Nat):Int):=by
 show IntKind.i64.wrap ((BitVec.ofInt 64 (a:Int) ^^^ BitVec.ofInt 64 (b:Int)).toNat:Int)=_;rw[BitVec.toNat_xor,toNat64 ha,toNat64 hb];exact wi64 (Nat.xor_lt_two_pow ha hb)
theorem shr64{n i:Nat}(hi:i≤64):shr .i64 (n:Int) (i:Int)=((n >>> i:Nat):Int):=by
 unfold shr;have e:min (i:Int).toNat IntKind.i64.bits=i:=by simp[IntKind.bits];omega
 rw[e,Nat.shiftRight_eq_div_pow];simp
theorem shr8{n i:Nat}(hi:i≤8):shr .u8 (n:Int) (i:Int)=((n >>> i:Nat):Int):=by
 unfold shr;have e:min (i:Int).toNat IntKind.u8.bits=i:=by simp[IntKind.bits];omega
 rw[e,Nat.shiftRight_eq_div_pow];simp
theorem shl64{n i:Nat}(hn:n<2^16)(hi:i≤16):shl .i64 (n:Int) (i:Int)=((n <<< i:Nat):Int):=by
 unfold shl;have e:min (i:Int).toNat IntKind.i64.bits=i:=by simp[IntKind.bits];omega
 rw[e,Nat.shiftLeft_eq];have h:n*2^i<2^63:=Nat.lt_of_lt_of_le (Nat.mul_lt_mul_of_lt_of_le hn (Nat.pow_le_pow_right zc hi) zc) zc;rw[show((n:Int)*2^i)=((n*2^i:Nat):Int)from by simp];exact wi64 h
theorem and_one(n i:Nat):(((n >>> i) &&& 1:Nat):Int)=1↔n.testBit i=true:=by
 unfold Nat.testBit;rw[Nat.and_comm 1 (n >>> i),bne_iff_ne,Nat.and_one_is_mod];omega
theorem bit64{n i:Nat}(hn:n<2^63)(hi:i≤64):(Go.bits .and .i64 (shr .i64 (n:Int) (i:Int)) 1=1)↔n.testBit i=true:=by
 rw[shr64 hi,show(1:Int)=((1:Nat):Int)from rfl,band64 (Nat.lt_of_le_of_lt (Nat.shiftRight_le _ _) hn) zc];exact and_one n i
theorem bit8{n i:Nat}(hn:n<256)(hi:i≤8):(Go.bits .and .u8 (shr .u8 (n:Int) (i:Int)) 1=1)↔n.testBit i=true:=by
 rw[shr8 hi];have h1:n >>> i<256:=Nat.lt_of_le_of_lt (Nat.shiftRight_le _ _) hn;have e:Go.bits .and .u8 ((n >>> i:Nat):Int) 1=(((n >>> i) &&& 1:Nat):Int):=by
  show IntKind.u8.wrap ((BitVec.ofInt 8 ((n >>> i:Nat):Int) &&& BitVec.ofInt 8 ((1:Nat):Int)).toNat:Int)=_;rw[BitVec.toNat_and,BitVec.ofInt_natCast,BitVec.ofInt_natCast,BitVec.toNat_ofNat,BitVec.toNat_ofNat,Nat.mod_eq_of_lt (by omega:n >>> i<2^8),show 1 % 2^8=1 from rfl];have:(n >>> i) &&& 1≤1:=Nat.and_le_right;rw[IntKind.wrap_u8];omega
 rw[e];exact and_one n i
def acc(a b:Nat):Nat→Nat
 |0=>0
 |i+1=>if b.testBit i then acc a b i ^^^ (a <<< i)else acc a b i
def rst(i p:Nat):Nat:=if p.testBit (i+8)then p ^^^ (285 <<< i)else p
def red:Nat→Nat→Nat
 |0,p=>p
 |i+1,p=>red i (rst i p)
theorem rst_xor(i x y:Nat):rst i (x ^^^ y)=rst i x ^^^ rst i y:=by
 unfold rst;rw[Nat.testBit_xor]
 cases x.testBit (i+8)<;>cases y.testBit (i+8)<;>simp
 ·rw[Nat.xor_assoc]
 ·rw[Nat.xor_assoc,Nat.xor_comm y,Nat.xor_assoc]
 ·rw[Nat.xor_assoc,Nat.xor_comm (285 <<< i),Nat.xor_assoc,Nat.xor_self,Nat.xor_zero]
theorem red_xor: ∀i x y,red i (x ^^^ y)=red i x ^^^ red i y
 |0,_,_=>rfl
 |i+1,x,y=>by unfold red;rw[rst_xor,red_xor i]
theorem red_zero: ∀i,red i 0=0
 |0=>rfl
 |i+1=>by unfold red rst;simp[red_zero i]
theorem red_shl: ∀a:BitVec 8,∀i:Fin 8,red 7 (a.toNat <<< i.val)=(xtn i.val a).toNat:=by decide+kernel
theorem acc_lt{a b:Nat}(ha:a<256): ∀i,i≤8→acc a b i<2^16
 |0,_=>by unfold acc;decide
 |i+1,h=>by
  unfold acc
  split
  ·refine Nat.xor_lt_two_pow (acc_lt ha i za) ?_;rw[Nat.shiftLeft_eq];exact Nat.lt_of_lt_of_le (Nat.mul_lt_mul_of_lt_of_le ha (Nat.pow_le_pow_right zc (by omega:i≤8)) zc) zc
  ·exact acc_lt ha i za
theorem red_acc(a b:BitVec 8): ∀i,i≤8→red 7 (acc a.toNat b.toNat i)=(gmN a b i).toNat
 |0,_=>by unfold acc gmN;rw[red_zero];rfl
 |i+1,h=>by
  unfold acc gmN;have e:b.getLsbD i=b.toNat.testBit i:=rfl;rw[e]
  split
  ·rw[red_xor,red_acc a b i za,red_shl a ⟨i,by omega⟩];simp
  ·rw[red_acc a b i za];simp
theorem rst_lt{i p:Nat}(hp:p<2^16)(hi:i≤7):rst i p<2^16:=by
 unfold rst
 split
 ·refine Nat.xor_lt_two_pow hp ?_;rw[Nat.shiftLeft_eq];exact Nat.lt_of_lt_of_le (Nat.mul_lt_mul_of_lt_of_le (by decide:285<512) (Nat.pow_le_pow_right zc hi) zc) zc
 ·exact hp
theorem Mul_l1: ∀i p:Nat,i≤7→p<2^16→Ends (fun k=>recoupref01_Mul.l1 k (p:Int) ((i:Int)+7)) (((red i p) % 256:Nat):Int)
 |0,p,_,_=>Ends.succ (fun k=>by rw[recoupref01_Mul.l1]) (Ends.neg za (Ends.const (by unfold red;simp)))
 |i+1,p,hi,hp=>by
  refine Ends.succ (fun k=>by rw[recoupref01_Mul.l1]) (Ends.pos za ?_);have e0:((i+1:Nat):Int)+7=((i+8:Nat):Int):=by omega
  have e1:IntKind.u64.wrap (((i+1:Nat):Int)+7)=((i+8:Nat):Int):=by rw[e0];exact wu64 za za
  have e2:wrap64 (((i+1:Nat):Int)+7-1)=(i:Int)+7:=by rw[w64 za za];omega
  have e3:IntKind.u64.wrap (wrap64 (((i+1:Nat):Int)+7-8))=(i:Int):=by rw[w64 za za,wu64 za za];omega
  rw[e1,e2,e3];refine Ends.pos (Int.natCast_nonneg _) ?_;have hb:=bit64 (n:=p) (i:=i+8) za za;by_cases h:p.testBit (i+8)=true
  ·refine Ends.pos (hb.2 h) (Ends.pos (Int.natCast_nonneg _) ?_);have e4:Go.bits .xor .i64 (p:Int) (shl .i64 285 (i:Int))=((rst i p:Nat):Int):=by
    rw[show(285:Int)=((285:Nat):Int)from rfl,shl64 zc za,bxor64 za (by
     rw[Nat.shiftLeft_eq];exact Nat.lt_of_lt_of_le (Nat.mul_lt_mul_of_lt_of_le (by decide:285<512) (Nat.pow_le_pow_right zc (by omega:i≤7)) zc) zc)]
    unfold rst;rw[if_pos h]
   rw[e4];exact Mul_l1 i (rst i p) za (rst_lt hp za)
  ·refine Ends.neg (fun e=>h (hb.1 e)) ?_;have e4:rst i p=p:=by unfold rst;rw[if_neg h]
   have:=Mul_l1 i p za hp;unfold red;rw[e4];exact this
theorem Mul_l0{a b:Nat}(ha:a<256)(hb:b<256): ∀n i:Nat,i+n=8→Ends (fun k=>recoupref01_Mul.l0 k (a:Int) (b:Int) ((acc a b i:Nat):Int) (i:Int)) (((red 7 (acc a b 8)) % 256:Nat):Int)
 |0,i,h=>by
  obtain rfl:i=8:=by omega
  refine Ends.succ (fun k=>by rw[recoupref01_Mul.l0]) (Ends.neg zc ?_);exact Mul_l1 7 _ za (acc_lt ha 8 (Nat.le_refl _))
 |n+1,i,h=>by
  refine Ends.succ (fun k=>by rw[recoupref01_Mul.l0]) (Ends.pos za ?_);have e1:IntKind.u64.wrap (i:Int)=(i:Int):=wu64 za za;have e2:wrap64 ((i:Int)+1)=((i+1:Nat):Int):=by rw[w64 za za];omega
  rw[e1,e2];refine Ends.pos (Int.natCast_nonneg _) ?_;have hbt:=bit8 (n:=b) (i:=i) hb za;have ih:=Mul_l0 ha hb n (i+1) za;by_cases h1:b.testBit i=true
  ·refine Ends.pos (hbt.2 h1) ?_;have e4:Go.bits .xor .i64 ((acc a b i:Nat):Int) (shl .i64 (wrap64 (a:Int)) (i:Int))=((acc a b (i+1):Nat):Int):=by
    rw[w64 za za,shl64 za za,bxor64 (by have:=acc_lt (b:=b) ha i za;omega) (by
     rw[Nat.shiftLeft_eq];exact Nat.lt_of_lt_of_le (Nat.mul_lt_mul_of_lt_of_le ha (Nat.pow_le_pow_right zc (by omega:i≤8)) zc) zc)]
    conv=>rhs;rw[acc]
    rw[if_pos h1]
   rw[e4];exact ih
  ·refine Ends.neg (fun e=>h1 (hbt.1 e)) ?_
   have e4:acc a b (i+1)=acc a b i:=by conv=>lhs;rw[acc]
                                       rw[if_neg h1]
   rw[e4]at ih
   exact ih
def toE(x:Int):El:=⟨BitVec.ofInt 8 x⟩
def ofE(e:El):Int:=((e.v.toNat:Nat):Int)
theorem toE_ofE(e:El):toE (ofE e)=e:=El.eq (by unfold toE ofE;simp[BitVec.ofInt_natCast])
theorem ofE_toE{x:Int}(h:0≤x∧x<256):ofE (toE x)=x:=by
 obtain⟨n,rfl⟩:=Int.eq_ofNat_of_zero_le h.1;unfold ofE toE;rw[BitVec.ofInt_natCast,BitVec.toNat_ofNat,Nat.mod_eq_of_lt za]
theorem ofE_range(e:El):0≤ofE e∧ofE e<256:=by unfold ofE;have:=e.v.isLt;omega
theorem toE_inj{x y:Int}(hx:0≤x∧x<256)(hy:0≤y∧y<256)(h:toE x=toE y):x=y:=by rw[←ofE_toE hx,←ofE_toE hy,h]
theorem Mul_ends{a b:Int}(ha:0≤a∧a<256)(hb:0≤b∧b<256):Ends (fun k=>recoupref01_Mul.f k a b) (ofE (toE a*toE b)):=by
 obtain⟨x,rfl⟩:=Int.eq_ofNat_of_zero_le ha.1;obtain⟨y,rfl⟩:=Int.eq_ofNat_of_zero_le hb.1;have hx:x<256:=by omega
 have hy:y<256:=by omega
 have h:=Mul_l0 hx hy 8 0 rfl;have e:=red_acc (BitVec.ofNat 8 x) (BitVec.ofNat 8 y) 8 (Nat.le_refl _);rw[BitVec.toNat_ofNat,BitVec.toNat_ofNat,Nat.mod_eq_of_lt (by omega:x<2^8),Nat.mod_eq_of_lt (by omega:y<2^8)]at e
 refine Ends.eq h ?_;rw[e,Nat.mod_eq_of_lt (gmN _ _ 8).isLt];unfold ofE toE;rw[BitVec.ofInt_natCast,BitVec.ofInt_natCast];rfl
theorem xor_el{a b:Int} :toE (Go.bits .xor .u8 a b)=toE a+toE b:=by
 refine El.eq ?_;show BitVec.ofInt 8 (IntKind.u8.wrap ((BitVec.ofInt 8 a ^^^ BitVec.ofInt 8 b).toNat:Int))=BitVec.ofInt 8 a ^^^ BitVec.ofInt 8 b;have h:=(BitVec.ofInt 8 a ^^^ BitVec.ofInt 8 b).isLt;rw[IntKind.wrap_u8,Int.emod_eq_of_lt za za,BitVec.ofInt_natCast,BitVec.ofNat_toNat,BitVec.setWidth_eq]
theorem xor_range(a b:Int):0≤Go.bits .xor .u8 a b∧Go.bits .xor .u8 a b<256:=by
 show 0≤IntKind.u8.wrap _∧IntKind.u8.wrap _<256;rw[IntKind.wrap_u8];omega
theorem exps_ok:(field_build.st 255).1=(List.range 510).map fun i=>((pw i).toNat:Int):=by decide+kernel
theorem logs_ok:((List.zip (field_build.st 255).2.1 (List.range 256)).all fun x=>x.2==0||(pw x.1.toNat).toNat==x.2)=true:=by decide+kernel
theorem exp_el{n:Nat}(h:n<510):toE (field_build.exp n)=⟨pw n⟩:=by
 unfold field_build.exp;rw[exps_ok,List.getD_eq_getElem?_getD,List.getElem?_map,List.getElem?_range h];refine El.eq ?_;unfold toE;simp[BitVec.ofInt_natCast]
theorem log_el{a:Int}(h:0≤a∧a<256)(h0:a≠0):(⟨pw (field_build.log a.toNat).toNat⟩:El)=toE a:=by
 obtain⟨n,rfl⟩:=Int.eq_ofNat_of_zero_le h.1;have hn:n<256:=by omega
 have hl:n<(field_build.st 255).2.1.length:=by rw[(field_build.st_length 255).2];exact hn
 have hz:n<(List.zip (field_build.st 255).2.1 (List.range 256)).length:=by rw[List.length_zip,List.length_range];omega
 have:=List.all_eq_true.1 logs_ok _ (List.getElem_mem hz);rw[List.getElem_zip,List.getElem_range]at this
 simp only[Bool.or_eq_true,beq_iff_eq]at this;rcases this with e|e
 ·exact absurd (by rw[e];rfl) h0
 ·refine El.eq ?_;unfold field_build.log toE;rw[Int.toNat_natCast,List.getD_eq_getElem?_getD,List.getElem?_eq_getElem hl,Option.getD_some,BitVec.ofInt_natCast];refine BitVec.eq_of_toNat_eq ?_;rw[e,BitVec.toNat_ofNat,Nat.mod_eq_of_lt za]
theorem toE_zero:toE 0=0:=rfl
theorem toE_ne{a:Int}(h:0≤a∧a<256)(h0:a≠0):toE a≠0:=fun e=>h0 (toE_inj h za (e.trans toE_zero.symm))
theorem mulT_el{a b:Int}(ha:0≤a∧a<256)(hb:0≤b∧b<256):toE (mulT a b)=toE a*toE b:=by
 unfold mulT;by_cases h1:a=0
 ·rw[if_pos h1,h1,toE_zero,zero_mul]
 ·rw[if_neg h1];by_cases h2:b=0
  ·rw[if_pos h2,h2,toE_zero,mul_zero]
  ·rw[if_neg h2];obtain⟨x0,x1⟩:=field_build.log_range (i:=a.toNat) za;obtain⟨y0,y1⟩:=field_build.log_range (i:=b.toNat) za;rw[exp_el za,←log_el ha h1,←log_el hb h2,show(field_build.log a.toNat+field_build.log b.toNat).toNat=(field_build.log a.toNat).toNat+(field_build.log b.toNat).toNat from by omega];generalize(field_build.log a.toNat).toNat=i;generalize(field_build.log b.toNat).toNat=j;exact El.eq (gm_pw_pw i j).symm
theorem exp_range{n:Nat}(h:n<510):0≤field_build.exp n∧field_build.exp n<256:=by
 unfold field_build.exp;rw[exps_ok,List.getD_eq_getElem?_getD,List.getElem?_map,List.getElem?_range h];have:=(pw n).isLt;simp;omega
theorem mulT_range{a b:Int}(ha:0≤a∧a<256)(hb:0≤b∧b<256):0≤mulT a b∧mulT a b<256:=by
 unfold mulT
 split
 ·omega
 ·split
  ·omega
  ·obtain⟨x0,x1⟩:=field_build.log_range (i:=a.toNat) za;obtain⟨y0,y1⟩:=field_build.log_range (i:=b.toNat) za;exact exp_range za
theorem mulT_ends{a b:Int}(ha:0≤a∧a<256)(hb:0≤b∧b<256):Ends (fun k=>recoupref01_Mul.f k a b) (mulT a b):=by
 refine Ends.eq (Mul_ends ha hb) ?_;rw[←mulT_el ha hb,ofE_toE (mulT_range ha hb)]
theorem pw_255k: ∀k,pw (255*k)=1
 |0=>rfl
 |k+1=>by rw[Nat.mul_succ,pw_add_255,pw_255k k]
theorem invT_el{a:Int}(ha:0≤a∧a<256)(h0:a≠0):toE (invT a)=(toE a).inv:=by
 have e:field_bounded.f (-1)=some 254:=by kernel_rfl
 have e2:field_Inv.f a=some (field_build.exp ((field_build.log a.toNat*254) % 255).toNat,0):=by
  unfold field_Inv.f field_Pow.f;rw[if_neg za,if_neg h0,if_pos ha,e];simp
 have e3:invT a=field_build.exp ((field_build.log a.toNat*254) % 255).toNat:=by unfold invT;rw[e2,Option.getD_some]
 rw[e3];obtain⟨x0,x1⟩:=field_build.log_range (i:=a.toNat) za;rw[exp_el za,←log_el ha h0];obtain⟨n,hn⟩:=Int.eq_ofNat_of_zero_le x0;rw[hn,Int.toNat_natCast];refine inv_unique (El.eq ?_);show gm (pw n) (pw _)=1;rw[gm_pw_pw];have:n+(((n:Int)*254) % 255).toNat=255*((n+(((n:Int)*254) % 255).toNat) / 255):=by omega
 rw[this];exact pw_255k _
theorem invT_range{a:Int}(ha:0≤a∧a<256)(h0:a≠0):0≤invT a∧invT a<256:=(inv_some ha h0).2
theorem Inv_from{a:Int}(ha:0≤a∧a<256)(h0:a≠0): ∀n x:Nat,x+n=(invT a).toNat→1≤x→Ends (fun k=>recoupref01_Inv.l0 k a (x:Int)) (invT a,0)
 |n,x,h,hx=>by
  obtain⟨r0,r1⟩:=invT_range ha h0;have hlt:x<256:=by omega
  refine Ends.succ (fun k=>by rw[recoupref01_Inv.l0]) (Ends.pos za ?_);have e1:(x:Int) % 256=(x:Int):=by omega
  rw[e1];refine Ends.bind (mulT_ends ha (b:=(x:Int)) za) ?_
  cases n with
  |zero=>
   have hxi:(x:Int)=invT a:=by omega
   refine Ends.pos ?_ (Ends.const (by rw[hxi]));rw[hxi];refine toE_inj (mulT_range ha ⟨r0,r1⟩) za ?_;rw[mulT_el ha ⟨r0,r1⟩,invT_el ha h0,mul_inv (toE_ne ha h0)];rfl
  |succ n=>
   refine Ends.neg ?_ ?_
   ·intro e;have hb:0≤(x:Int)∧(x:Int)<256:=by omega
    have:=mulT_el ha hb;rw[e]at this
    have h2:=inv_unique this.symm;rw[←invT_el ha h0]at h2
    have:=toE_inj hb ⟨r0,r1⟩ h2;omega
   ·have e2:wrap64 ((x:Int)+1)=((x+1:Nat):Int):=by rw[w64 za za];omega
    rw[e2];exact Inv_from ha h0 n (x+1) za za
theorem Inv_ends{a:Int}(ha:0≤a∧a<256)(h0:a≠0):Ends (fun k=>recoupref01_Inv.f k a) (invT a,0):=by
 have hr:=invT_range ha h0;have hn:invT a≠0:=by
  intro e;have:=invT_el ha h0;rw[e,toE_zero]at this
  exact inv_ne (toE_ne ha h0) this.symm
 have:=Inv_from ha h0 ((invT a).toNat-1) 1 za (Nat.le_refl _);exact this
theorem Scale_l0{c:Int}(hc:0≤c∧c<256){l:List Int}(hl:bytesB l=true)(hm:l.length≤4096): ∀n i:Nat,i+n=l.length→Ends (fun k=>recoupref01_Scale.l0 k c l ((l.take i).map (mulT c)) (i:Int)) (l.map (mulT c))
 |0,i,h=>by
  obtain rfl:i=l.length:=by omega
  exact Ends.succ (fun k=>by rw[recoupref01_Scale.l0]) (Ends.neg za (Ends.const zd))
 |n+1,i,h=>by
  have hi:i<l.length:=by omega
  refine Ends.succ (fun k=>by rw[recoupref01_Scale.l0]) (Ends.pos za (Ends.pos (Int.natCast_nonneg _) ?_));have hb:=bytesB_at hl hi;rw[rd_nat];refine Ends.bind (mulT_ends hc hb) (Ends.pos zl ?_);have e2:wrap64 ((i:Int)+1)=((i+1:Nat):Int):=by rw[w64 za za];omega
  have e3:(l.take i).map (mulT c)++ [mulT c (l.getD i 0)] =(l.take (i+1)).map (mulT c):=by
   rw[List.take_succ_eq_append_getElem hi,List.map_append,List.getD_eq_getElem?_getD,List.getElem?_eq_getElem hi];rfl
  rw[e2,e3];exact Scale_l0 hc hl hm n (i+1) za
theorem Scale_ends{c:Int}(hc:0≤c∧c<256){l:List Int}(hl:bytesB l=true)(hm:l.length≤4096):Ends (fun k=>recoupref01_Scale.f k c l) (l.map (mulT c)):=by
 have:=Scale_l0 hc hl hm l.length 0 za;unfold recoupref01_Scale.f;simpa using this
def U(M:List (List Int))(c:Nat):Prop:= ∀r∈M,r.length=c
theorem U.cons{r:List Int}{M:List (List Int)}{c:Nat}(h:U (r::M) c):r.length=c∧U M c:=⟨h r (List.mem_cons_self ..),fun x hx=>h x (List.mem_cons_of_mem _ hx)⟩
theorem U.set{M:List (List Int)}{c k:Nat}{r:List Int}(h:U M c)(hr:r.length=c):U (M.set k r) c:=fun x hx=>by
 rcases List.mem_or_eq_of_mem_set hx with hx|rfl
 ·exact h x hx
 ·exact hr
theorem U.at{M:List (List Int)}{c i:Nat}(h:U M c)(hi:i<M.length):(M.getD i []).length=c:=by
 rw[List.getD_eq_getElem?_getD,List.getElem?_eq_getElem hi];exact h _ (List.getElem_mem hi)
theorem flat_len{c:Nat} : ∀ {M:List (List Int)},U M c→M.flatten.length=M.length*c
 | [],_=>by simp
 |r::M,h=>by
  rw[List.flatten_cons,List.length_append,flat_len h.cons.2,h.cons.1,List.length_cons,Nat.succ_mul,Nat.add_comm]
theorem flat_drop{c:Nat} : ∀ {M:List (List Int)} (i:Nat),U M c→M.flatten.drop (i*c)=(M.drop i).flatten
 | [],i,_=>by simp
 |r::M,0,h=>by simp
 |r::M,i+1,h=>by
  rw[List.flatten_cons,Nat.succ_mul,Nat.add_comm,List.drop_succ_cons,←flat_drop i h.cons.2];have:=h.cons.1;rw[List.drop_append,List.drop_eq_nil_of_le za,List.nil_append,this,Nat.add_sub_cancel_left]
theorem flat_take{c:Nat} : ∀ {M:List (List Int)} (i:Nat),U M c→M.flatten.take (i*c)=(M.take i).flatten
 | [],i,_=>by simp
 |r::M,0,h=>by simp
 |r::M,i+1,h=>by
  rw[List.flatten_cons,Nat.succ_mul,Nat.add_comm,List.take_succ_cons,List.flatten_cons,←flat_take i h.cons.2];have:=h.cons.1;rw[List.take_append,List.take_of_length_le za,this,Nat.add_sub_cancel_left]
theorem flat_get{c i j:Nat}{M:List (List Int)}(h:U M c)(hi:i<M.length)(hj:j<c):M.flatten.getD (i*c+j) 0=entry M i j:=by
 have e:M.flatten.getD (i*c+j) 0=(M.flatten.drop (i*c)).getD j 0:=by
  rw[List.getD_eq_getElem?_getD,List.getD_eq_getElem?_getD,List.getElem?_drop]
 have hl:=h.at hi;rw[e,flat_drop i h,List.drop_eq_getElem_cons hi,List.flatten_cons];unfold entry;rw[List.getD_eq_getElem?_getD,List.getD_eq_getElem?_getD,List.getD_eq_getElem?_getD,List.getElem?_eq_getElem hi,Option.getD_some];rw[List.getD_eq_getElem?_getD,List.getElem?_eq_getElem hi,Option.getD_some]at hl
 rw[List.getElem?_append_left za]
theorem flat_row{c i:Nat}{M:List (List Int)}(h:U M c)(hi:i<M.length):(M.flatten.drop (i*c)).take c=M.getD i []:=by
 have hl:=h.at hi;rw[flat_drop i h,List.drop_eq_getElem_cons hi,List.flatten_cons];rw[List.getD_eq_getElem?_getD,List.getElem?_eq_getElem hi,Option.getD_some]at hl⊢
 rw[List.take_append,List.take_of_length_le za,hl,Nat.sub_self,List.take_zero,List.append_nil]
theorem flat_splice{c k:Nat}{M:List (List Int)}{r:List Int}(h:U M c)(hk:k<M.length)(hr:r.length=c):splice M.flatten (k*c) r=(M.set k r).flatten:=by
 unfold splice;rw[flat_take k h,hr,show k*c+c=(k+1)*c from(Nat.succ_mul k c).symm,flat_drop (k+1) h,List.set_eq_take_append_cons_drop,if_pos hk,List.flatten_append,List.flatten_cons]
theorem flat_set{c k j:Nat}{M:List (List Int)}(v:Int)(h:U M c)(hk:k<M.length)(hj:j<c):M.flatten.set (k*c+j) v=(M.set k ((M.getD k []).set j v)).flatten:=by
 have hl:=h.at hk;rw[←flat_splice h hk (by rw[List.length_set];exact hl)];unfold splice;rw[List.length_set,hl,List.set_eq_take_append_cons_drop];have hlen:k*c+j<M.flatten.length:=by
  rw[flat_len h];have:(k+1)*c≤M.length*c:=Nat.mul_le_mul_right _ hk;rw[Nat.succ_mul]at this
  omega
 rw[if_pos hlen,List.set_eq_take_append_cons_drop,if_pos za,←flat_row h hk,List.take_take,Nat.min_eq_left za,List.append_assoc,List.cons_append];have e1:M.flatten.take (k*c+j)=M.flatten.take (k*c)++(M.flatten.drop (k*c)).take j:=by
  rw[List.take_add]
 have e2:((M.flatten.drop (k*c)).take c).drop (j+1)++M.flatten.drop (k*c+c)=M.flatten.drop (k*c+j+1):=by
  rw[List.drop_take,List.drop_drop,←List.drop_drop (i:=c),←List.drop_drop (i:=j+1)];rw[show M.flatten.drop (k*c+j+1)=((M.flatten.drop (k*c)).drop (j+1))from by rw[List.drop_drop];congr 1,show(M.flatten.drop (k*c)).drop c=((M.flatten.drop (k*c)).drop (j+1)).drop (c-(j+1))from by simp only[List.drop_drop];congr 1;omega];rw[List.take_append_drop]
 rw[e1,←e2];simp[List.append_assoc]
theorem flat_rowsOf{c:Nat} : ∀(r:Nat) (l:List Int),l.length=r*c→(rowsOf c r l).flatten=l∧U (rowsOf c r l) c:=by
 intro r;have key: ∀r (l:List Int),l.length=r*c→((List.range r).map fun i=>(l.drop (i*c)).take c).flatten=l:=by
  intro r
  induction r with
  |zero=>intro l hl;rw[Nat.zero_mul]at hl;simp[List.length_eq_zero_iff.1 hl]
  |succ r ih=>
   intro l hl;rw[Nat.succ_mul]at hl
   rw[List.range_succ,List.map_append,List.flatten_append];have:=ih (l.take (r*c)) zaa;have e:((List.range r).map fun i=>(l.drop (i*c)).take c)=((List.range r).map fun i=>((l.take (r*c)).drop (i*c)).take c):=by
    refine List.map_congr_left fun i hi=>?_;have hir:i<r:=by simpa using hi
    have:(i+1)*c≤r*c:=Nat.mul_le_mul_right _ hir;rw[Nat.succ_mul]at this
    rw[List.drop_take,List.take_take,Nat.min_eq_left za]
   rw[e,this];simp only[List.map_cons,List.map_nil,List.flatten_cons,List.flatten_nil,List.append_nil];rw[List.take_of_length_le (l:=l.drop (r*c)) (by rw[List.length_drop];omega),List.take_append_drop]
 intro l hl;refine⟨key r l hl,fun x hx=>?_⟩;obtain⟨i,hi,rfl⟩:=List.mem_map.1 hx;have hir:i<r:=by simpa using hi
 have:(i+1)*c≤r*c:=Nat.mul_le_mul_right _ hir;rw[Nat.succ_mul]at this
 rw[List.length_take,List.length_drop];omega
theorem idx_small{i c j:Nat}(hi:i≤64)(hc:c≤64)(hj:j≤64):wrap64 ((i:Int)*(c:Int))=((i*c:Nat):Int)∧wrap64 (wrap64 ((i:Int)*(c:Int))+(j:Int))=((i*c+j:Nat):Int):=by
 have hm:i*c≤64*64:=Nat.mul_le_mul hi hc;rw[←Int.natCast_mul];generalize i*c=p at*;rw[w64 za za,w64 za za];exact⟨rfl,by omega⟩
theorem idx_lt{i c j n:Nat}(hi:i<n)(hj:j<c):i*c+j<n*c:=by
 have:(i+1)*c≤n*c:=Nat.mul_le_mul_right _ hi;rw[Nat.succ_mul]at this
 omega
theorem At_eq{c i j:Nat}{M:List (List Int)}(h:U M c)(hm:M.length≤64)(hc:c≤64)(hi:i<M.length)(hj:j<c)(a:Int):recoupref03_At.f a (c:Int) M.flatten (i:Int) (j:Int)=some (entry M i j):=by
 obtain⟨_,e⟩:=idx_small (i:=i) (c:=c) (j:=j) za hc za;have hl:=idx_lt hi hj;unfold recoupref03_At.f;rw[e,flat_len h,if_pos (Int.natCast_nonneg _),if_pos (Int.ofNat_lt.2 hl),rd_nat,flat_get h hi hj]
theorem Right_true{c:Nat}{M:List (List Int)}(h:U M c)(hm:M.length≤64)(hc:c≤64):recoupref03_Right.f (M.length:Int) (c:Int) M.flatten=some true:=by
 obtain⟨e,_⟩:=idx_small (i:=M.length) (c:=c) (j:=0) hm hc za;unfold recoupref03_Right.f;rw[if_pos za,if_pos za,if_pos za,if_pos za,e,flat_len h];simp
theorem Row_l0{c i:Nat}{M:List (List Int)}(h:U M c)(hm:M.length≤64)(hc:c≤64)(hi:i<M.length): ∀n j:Nat,j+n=c→Ends (fun k=>recoupref03_Row.l0 k (i:Int) ((M.getD i []).take j) (j:Int) (M.length:Int) (c:Int) M.flatten) (M.getD i [],0)
 |0,j,hj=>by
  obtain rfl:j=c:=by omega
  refine Ends.succ (fun k=>by rw[recoupref03_Row.l0]) (Ends.neg za (Ends.const ?_));rw[List.take_of_length_le (by rw[h.at hi];exact Nat.le_refl _)]
 |n+1,j,hj=>by
  refine Ends.succ (fun k=>by rw[recoupref03_Row.l0]) (Ends.pos za ?_);refine Ends.bind1 (At_eq h hm hc hi (by omega:j<c) _) ?_;refine Ends.pos zaa ?_;have e2:wrap64 ((j:Int)+1)=((j+1:Nat):Int):=by rw[w64 za za];omega
  have e3:(M.getD i []).take j++ [entry M i j] =(M.getD i []).take (j+1):=by
   have hl:=h.at hi;rw[List.take_succ_eq_append_getElem za];unfold entry;rw[List.getD_eq_getElem?_getD (l:=M.getD i []),List.getElem?_eq_getElem (by omega:j<(M.getD i []).length),Option.getD_some]
  rw[e2,e3];exact Row_l0 h hm hc hi n (j+1) za
theorem Row_ends{c i:Nat}{M:List (List Int)}(h:U M c)(hm:M.length≤64)(hc:c≤64)(hi:i<M.length):Ends (fun k=>recoupref03_Row.f k (M.length:Int) (c:Int) M.flatten (i:Int)) (M.getD i [],0):=by
 unfold recoupref03_Row.f;refine Ends.bind1 (Right_true h hm hc) (Ends.pos rfl (Ends.neg za ?_));refine Ends.succ (fun k=>by rw[recoupref03_Row.j0]) (Ends.neg zah ?_);simpa using Row_l0 h hm hc hi c 0 za
end Go.Proofs.YtkagobkedifhkaaDoor.M
namespace Go.Proofs.YtkagobkedifhkaaDoor.M
open Go.RowKit Go.Proofs.YtkagobkedifhkaaDoorW.PrintWords Go.Proofs.YtkagobkedifhkaaDoorW.PrintLast Go.Proofs.YtkagobkedifhkaaDoorW.PrintMore Go.Proofs.YtkagobkedifhkaaDoor.Q
set_option linter.unusedVariables false
theorem U.of{M D:List (List Int)}{cols wd:Nat}(h:Shp M D cols wd):U M cols:=fun r hr=>by
 obtain⟨i,hi,rfl⟩:=List.getElem_of_mem hr;have:=h.eM i hi
 rwa [List.getD_eq_getElem?_getD,List.getElem?_eq_getElem hi,Option.getD_some]at this
theorem Pick_l1{c:Nat}{M:List (List Int)}(h:U M c)(hm:M.length≤64)(hc:c≤64){L:List Int}(hL: ∀x∈L,0≤x∧x<(M.length:Int))(hl:L.length≤64)(a b:Int): ∀n i:Nat,i+n=L.length→
 Ends (fun k=>recoupref03_Pick.l1 k L (i:Int) (M.length:Int) (c:Int) M.flatten a b ((L.take i).map fun x=>M.getD x.toNat []).flatten) (a,b,(L.map fun x=>M.getD x.toNat []).flatten,0)
 |0,i,hi=>by
  refine Ends.succ (fun k=>by rw[recoupref03_Pick.l1]) (Ends.neg za (Ends.const ?_));rw[List.take_of_length_le za]
 |n+1,i,hi=>by
  have hiL:i<L.length:=by omega
  refine Ends.succ (fun k=>by rw[recoupref03_Pick.l1]) (Ends.pos za ?_);refine Ends.pos (Int.natCast_nonneg _) ?_;have hx:=hL _ (List.getElem_mem hiL);obtain⟨x,hx'⟩:=Int.eq_ofNat_of_zero_le hx.1;rw[rd_nat,List.getD_eq_getElem?_getD,List.getElem?_eq_getElem hiL,Option.getD_some,hx'];have hxm:x<M.length:=by omega
  refine Ends.bind (Row_ends h hm hc hxm) ?_;have hfl:((L.take i).map fun x=>M.getD x.toNat []).flatten.length=i*c:=by
   have hu:U ((L.take i).map fun x=>M.getD x.toNat []) c:=fun r hr=>by
    obtain⟨y,hy,rfl⟩:=List.mem_map.1 hr;have:=hL y (List.mem_of_mem_take hy);exact h.at za
   rw[flat_len hu,List.length_map,List.length_take,Nat.min_eq_left za]
  have hic:i*c≤64*64:=Nat.mul_le_mul za hc;have hrl:=h.at hxm;refine Ends.pos (by rw[hfl,hrl];omega) ?_;have e2:wrap64 ((i:Int)+1)=((i+1:Nat):Int):=by rw[w64 za za];omega
  have e3:((L.take i).map fun x=>M.getD x.toNat []).flatten++M.getD x [] =((L.take (i+1)).map fun x=>M.getD x.toNat []).flatten:=by
   rw[List.take_succ_eq_append_getElem hiL,List.map_append,List.flatten_append,hx'];simp
  rw[e2,e3];exact Pick_l1 h hm hc hL hl a b n (i+1) za
theorem Pick_l0{c:Nat}{M:List (List Int)}(h:U M c)(hm:M.length≤64)(hc:c≤64){L:List Int}(hL: ∀x∈L,0≤x∧x<(M.length:Int))(hl:L.length≤64): ∀n i:Nat,i+n=L.length→
 Ends (fun k=>recoupref03_Pick.l0 k L (i:Int) (M.length:Int) (c:Int) M.flatten) ((L.length:Int),(c:Int),(L.map fun x=>M.getD x.toNat []).flatten,0)
 |0,i,hi=>by
  refine Ends.succ (fun k=>by rw[recoupref03_Pick.l0]) (Ends.neg za (Ends.neg za ?_));exact Pick_l1 h hm hc hL hl _ _ L.length 0 za
 |n+1,i,hi=>by
  have hiL:i<L.length:=by omega
  have hx:=hL _ (List.getElem_mem hiL);refine Ends.succ (fun k=>by rw[recoupref03_Pick.l0]) (Ends.pos za ?_);refine Ends.pos (Int.natCast_nonneg _) ?_;have e:rd L (i:Int)=L[i]:=by rw[rd_nat,List.getD_eq_getElem?_getD,List.getElem?_eq_getElem hiL,Option.getD_some]
  rw[e];refine Ends.neg za (Ends.neg za ?_);have e2:wrap64 ((i:Int)+1)=((i+1:Nat):Int):=by rw[w64 za za];omega
  rw[e2];exact Pick_l0 h hm hc hL hl n (i+1) za
theorem Pick_ends{c:Nat}{M:List (List Int)}(h:U M c)(hm:M.length≤64)(hc:c≤64){L:List Int}(hL: ∀x∈L,0≤x∧x<(M.length:Int))(hl:L.length≤64):
 Ends (fun k=>recoupref03_Pick.f k (M.length:Int) (c:Int) M.flatten L) ((L.length:Int),(c:Int),(L.map fun x=>M.getD x.toNat []).flatten,0):=by
 unfold recoupref03_Pick.f;exact Ends.bind1 (Right_true h hm hc) (Ends.pos rfl (Pick_l0 h hm hc hL hl L.length 0 za))
def sw(M:List (List Int))(top i:Nat):List (List Int):=(M.set i (M.getD top [])).set top (M.getD i [])
def ordL(n top i:Nat):List Int:=(((List.range n).map fun(x:Nat)=>(x:Int)).set top (i:Int)).set i (top:Int)
theorem ordL_map{M:List (List Int)}{top i:Nat}(ht:top<M.length)(hi:i<M.length):((ordL M.length top i).map fun x=>M.getD x.toNat [])=sw M top i:=by
 unfold ordL sw;refine List.ext_getElem zd fun p h1 h2=>?_;have hp:p<M.length:=by simpa using h2
 rw[List.getElem_map,List.getElem_set,List.getElem_set,List.getElem_set,List.getElem_set,List.getElem_map,List.getElem_range];by_cases e1:i=p
 ·subst e1;by_cases e2:top=i
  ·subst e2;simp
  ·rw[if_pos rfl,if_neg e2,if_pos rfl];simp
 ·by_cases e2:top=p
  ·subst e2;rw[if_neg e1,if_pos rfl,if_pos rfl];simp
  ·rw[if_neg e1,if_neg e2,if_neg e2,if_neg e1];simp[List.getElem?_eq_getElem hp]
theorem ordL_range{n top i:Nat}(ht:top<n)(hi:i<n): ∀x∈ordL n top i,0≤x∧x<(n:Int):=fun x hx=>by
 unfold ordL at hx;rcases List.mem_or_eq_of_mem_set hx with hx|rfl
 ·rcases List.mem_or_eq_of_mem_set hx with hx|rfl
  ·obtain⟨y,hy,rfl⟩:=List.mem_map.1 hx;have:y<n:=by simpa using hy
   omega
  ·omega
 ·omega
theorem mid_set{g r:List Int}{l:Nat}(hg:l<g.length)(hr:g.length=r.length):(g.take l++r.drop l).set l (g.getD l 0)=g.take (l+1)++r.drop (l+1):=by
 rw[List.set_append_right _ _ zaa,List.length_take,Nat.min_eq_left za,Nat.sub_self,List.drop_eq_getElem_cons (by omega:l<r.length),List.set_cons_zero,List.take_succ_eq_append_getElem hg,List.append_assoc,List.getD_eq_getElem?_getD,List.getElem?_eq_getElem hg];rfl
theorem mid_get{g r:List Int}{l:Nat}(hg:l<g.length)(hr:g.length=r.length):(g.take l++r.drop l).getD l 0=r.getD l 0:=by
 rw[List.getD_eq_getElem?_getD,List.getD_eq_getElem?_getD,List.getElem?_append_right zaa,List.length_take,Nat.min_eq_left za,Nat.sub_self,List.getElem?_drop,Nat.add_zero]
def xrow(c:Int)(r s:List Int):List Int:=List.zipWith (fun x y=>Go.bits .xor .u8 x (mulT c y)) r s
theorem xrow_mac(c:Int)(r s:List Int):xrow c r s=xorL (s.map (mulT c)) r:=by
 unfold xrow xorL;rw[List.zipWith_map_left,List.zipWith_comm]
 congr 1
 funext a b
 show IntKind.u8.wrap ((BitVec.ofInt 8 _ ^^^ BitVec.ofInt 8 _).toNat:Int)=IntKind.u8.wrap ((BitVec.ofInt 8 _ ^^^ BitVec.ofInt 8 _).toNat:Int);rw[BitVec.xor_comm]
theorem xrow_zero{r s:List Int}(hr:bytesB r=true)(hl:r.length=s.length):xrow 0 r s=r:=by
 unfold xrow;refine List.ext_getElem (by simp[hl]) fun p h1 h2=>?_;rw[List.getElem_zipWith];have hb:=bytesB_at hr h2;rw[List.getD_eq_getElem?_getD,List.getElem?_eq_getElem h2,Option.getD_some]at hb
 refine toE_inj (xor_range _ _) hb ?_;rw[xor_el];show toE r[p]+toE (mulT 0 _)=_;rw[show mulT 0 (s[p]' za)=0 from by unfold mulT;rw[if_pos rfl],toE_zero,add_zero]
theorem i64_succ{i:Nat}(h:i≤4096):wrap64 ((i:Int)+1)=((i+1:Nat):Int):=by rw[w64 za za];omega
theorem getD_set_self{α:Type}{l:List α}{i:Nat}{v d:α}(h:i<l.length):(l.set i v).getD i d=v:=by
 rw[List.getD_eq_getElem?_getD,List.getElem?_set_self h,Option.getD_some]
theorem getD_set_ne{α:Type}{l:List α}{i j:Nat}{v d:α}(h:i≠j):(l.set i v).getD j d=l.getD j d:=by
 rw[List.getD_eq_getElem?_getD,List.getD_eq_getElem?_getD,List.getElem?_set_ne h]
theorem set_getD_self{α:Type}{l:List α}{i:Nat}{d:α}(h:i<l.length):l.set i (l.getD i d)=l:=by
 rw[List.getD_eq_getElem?_getD,List.getElem?_eq_getElem h,Option.getD_some,List.set_getElem_self]
theorem xrow_length{c:Int}{r s:List Int}(h:r.length=s.length):(xrow c r s).length=r.length:=by unfold xrow;rw[List.length_zipWith];omega
theorem xrow_get{c:Int}{r s:List Int}{l:Nat}(h1:l<r.length)(h2:l<s.length):(xrow c r s).getD l 0=Go.bits .xor .u8 (r.getD l 0) (mulT c (s.getD l 0)):=by
 unfold xrow;rw[List.getD_eq_getElem?_getD,List.getD_eq_getElem?_getD,List.getD_eq_getElem?_getD,List.getElem?_zipWith,List.getElem?_eq_getElem h1,List.getElem?_eq_getElem h2];rfl
theorem Red_l4{C:Nat}{M:List (List Int)}(h:U M C)(hm:M.length≤64)(hc:C≤64){kk:Nat}(hk:kk<M.length){s:List Int}(hs:s.length=C)(hsb:bytesB s=true){c:Int}(hcb:0≤c∧c<256)(x6:List Int)(x7 x8:Int){R:Int×Int×List Int×List Int×Int}
 (hR:Ends (fun q=>recoupref04_Reduce.l3 q x6 x7 x8 s ((kk+1:Nat):Int) (M.length:Int) (C:Int) (M.set kk (xrow c (M.getD kk []) s)).flatten) R):
 ∀n l:Nat,l+n=C→Ends (fun q=>recoupref04_Reduce.l4 q x6 x7 x8 s (kk:Int) c (l:Int) (M.length:Int) (C:Int) (M.set kk ((xrow c (M.getD kk []) s).take l++(M.getD kk []).drop l)).flatten) R
 |0,l,hl=>by
  obtain rfl:l=C:=by omega
  have hr:=h.at hk;have hg:=xrow_length (c:=c) (hr.trans hs.symm);refine Ends.succ (fun k=>by rw[recoupref04_Reduce.l4]) (Ends.neg za ?_);have e1:(xrow c (M.getD kk []) s).take l=xrow c (M.getD kk []) s:=List.take_of_length_le (by rw[hg,hr];exact Nat.le_refl _);have e2:(M.getD kk []).drop l= []:=List.drop_of_length_le (by rw[hr];exact Nat.le_refl _);have e3:=i64_succ (i:=kk) (by clear hR e1 e2 hg hr hcb;omega);rw[e1,e2,List.append_nil,e3];exact hR
 |n+1,l,hl=>by
  have hr:=h.at hk;have hg:=xrow_length (c:=c) (hr.trans hs.symm);have hlC:l<C:=by omega
  have D:kk≤64:=by omega
  have G:l≤64:=by omega
  have hmid:((xrow c (M.getD kk []) s).take l++(M.getD kk []).drop l).length=C:=by rw[List.length_append,List.length_take,List.length_drop];omega
  have hU:=h.set (k:=kk) hmid;have hlen:(M.set kk ((xrow c (M.getD kk []) s).take l++(M.getD kk []).drop l)).length=M.length:=List.length_set;refine Ends.succ (fun k=>by rw[recoupref04_Reduce.l4]) (Ends.pos za ?_);rw[(idx_small (i:=kk) (c:=C) (j:=l) D hc G).2];refine Ends.pos (Int.natCast_nonneg _) ?_;have hix:=idx_lt (c:=C) hk hlC;refine Ends.pos zaw ?_;refine Ends.pos (Int.natCast_nonneg _) ?_;have hls:l<s.length:=by rw[hs];exact hlC
  refine Ends.pos (Int.ofNat_lt.2 hls) ?_;rw[rd_nat];refine Ends.bind (mulT_ends hcb (bytesB_at hsb hls)) ?_;have e2:(M.set kk ((xrow c (M.getD kk []) s).take l++(M.getD kk []).drop l)).flatten.set (((kk*C+l:Nat):Int)).toNat (Go.bits .xor .u8 (rd (M.set kk ((xrow c (M.getD kk []) s).take l++(M.getD kk []).drop l)).flatten ((kk*C+l:Nat):Int)) (mulT c (s.getD l 0)))=(M.set kk ((xrow c (M.getD kk []) s).take (l+1)++(M.getD kk []).drop (l+1))).flatten:=by
   rw[rd_nat,Int.toNat_natCast,flat_get hU za hlC,flat_set _ hU za hlC,getD_set_self hk,List.set_set];have e3:entry (M.set kk ((xrow c (M.getD kk []) s).take l++(M.getD kk []).drop l)) kk l=(M.getD kk []).getD l 0:=by
    unfold entry;rw[getD_set_self hk,mid_get za za]
   rw[e3,←xrow_get za za,mid_set za za]
  rw[e2,i64_succ za];exact Red_l4 h hm hc hk hs hsb hcb x6 x7 x8 hR n (l+1) za
theorem elim_top{col top:Nat}{s:List (List Int)×List (List Int)} : ∀k,(elimTo col top k s).1.getD top [] =s.1.getD top []
 |0=>rfl
 |k+1=>by
  unfold elimTo;simp only[]
  split
  ·rename_i hh
   unfold macS;rw[getD_set_ne hh.1];exact elim_top k
  ·exact elim_top k
theorem rows_bytes{M:List (List Int)}(h:rowsB M=true)(i:Nat):bytesB (M.getD i [])=true:=rowsB_at h i
theorem Red_l3{C wd:Nat}{S D:List (List Int)}(h:Shp S D C wd){top j:Nat}(ht:top<S.length)(hj:j<C)(x6:List Int)(h6:x6.length≤64){R:Int×Int×List Int×List Int×Int}
 (hR:Ends (fun q=>recoupref04_Reduce.l0 q (x6++ [(j:Int)]) ((j+1:Nat):Int) (S.length:Int) (C:Int) (elimTo j top S.length (S,D)).1.flatten) R):
 ∀n k:Nat,k+n=S.length→Ends (fun q=>recoupref04_Reduce.l3 q x6 (j:Int) (top:Int) (S.getD top []) (k:Int) (S.length:Int) (C:Int) (elimTo j top k (S,D)).1.flatten) R
 |0,k,hk=>by
  obtain rfl:k=S.length:=by omega
  refine Ends.succ (fun k=>by rw[recoupref04_Reduce.l3]) (Ends.neg za (Ends.pos za ?_));have:=h.small.2.1;rw[i64_succ za];exact hR
 |n+1,k,hk=>by
  have hkS:k<S.length:=by omega
  obtain⟨hT,hTl⟩:=elim_shp (col:=j) h ht k za;have hm:=h.small.1;have hc:=h.small.2.1;have ih:=Red_l3 h ht hj x6 h6 hR n (k+1) za;refine Ends.succ (fun k=>by rw[recoupref04_Reduce.l3]) (Ends.pos za ?_);by_cases e:k=top
  ·refine Ends.pos za ?_;rw[i64_succ za];have e1:elimTo j top (k+1) (S,D)=elimTo j top k (S,D):=by
    conv=>lhs;unfold elimTo
    simp only[];rw[if_neg (fun hh=>hh.1 e)]
   rw[e1]at ih
   exact ih
  ·refine Ends.neg za ?_;have hst:=elim_top (col:=j) (top:=top) (s:=(S,D)) k;have hEx:elimTo j top (k+1) (S,D)=(if k≠top∧entry (elimTo j top k (S,D)).1 k j≠0 then(macS (elimTo j top k (S,D)).1 k top (entry (elimTo j top k (S,D)).1 k j),macS (elimTo j top k (S,D)).2 k top (entry (elimTo j top k (S,D)).1 k j))else elimTo j top k (S,D)):=by
    conv=>lhs;unfold elimTo
   rw[hEx]at ih
   generalize elimTo j top k (S,D)=T at*;have hUT:=U.of hT;rw[←hTl];refine Ends.bind1 (At_eq hUT za hc za hj _) ?_;have hcb:=entry_byte hT (i:=k) (j:=j) za hj;have hst':T.1.getD top [] =S.getD top []:=hst;have hs:(S.getD top []).length=C:=h.eM top ht;have h0:=Red_l4 hUT za hc (kk:=k) za hs (rows_bytes h.bM top) hcb x6 (j:Int) (top:Int) (R:=R) ?_ C 0 za
   ·rw[List.take_zero,List.nil_append,List.drop_zero,set_getD_self za]at h0
    exact h0
   ·rw[hTl];by_cases e0:entry T.1 k j=0
    ·rw[if_neg (fun hh=>hh.2 e0)]at ih
     rw[e0,xrow_zero (rows_bytes hT.bM k) (by rw[hT.eM k za,hs]),set_getD_self za];exact ih
    ·rw[if_pos ⟨e,e0⟩]at ih
     unfold macS at ih;rw[hst']at ih
     rw[xrow_mac];exact ih
theorem Red_l2{C wd:Nat}{M D:List (List Int)}(h:Shp M D C wd){top i j:Nat}(ht:top<M.length)(hi:i<M.length)(hj:j<C)(h0:entry M i j≠0)(x6:List Int)(h6:x6.length≤64){R:Int×Int×List Int×List Int×Int}
 (hR:Ends (fun q=>recoupref04_Reduce.l0 q (x6++ [(j:Int)]) ((j+1:Nat):Int) (M.length:Int) (C:Int) (stepAt M D top i j).1.flatten) R):
 ∀n k:Nat,k+n=M.length→Ends (fun q=>recoupref04_Reduce.l2 q x6 (j:Int) (top:Int) (i:Int) (((List.range M.length).map fun(x:Nat)=>(x:Int)).take k++(List.replicate M.length (0:Int)).drop k) (k:Int) (M.length:Int) (C:Int) M.flatten) R
 |0,k,hk=>by
  obtain rfl:k=M.length:=by omega
  have hm:=h.small.1;have hc:=h.small.2.1;have hU:=U.of h;have hlen:(((List.range M.length).map fun(x:Nat)=>(x:Int)).take M.length++(List.replicate M.length (0:Int)).drop M.length)=((List.range M.length).map fun(x:Nat)=>(x:Int)):=by
   rw[List.take_of_length_le zd,List.drop_of_length_le zd,List.append_nil]
  refine Ends.succ (fun k=>by rw[recoupref04_Reduce.l2]) (Ends.neg za ?_);rw[hlen];have I:(((List.range M.length).map fun(x:Nat)=>(x:Int)).length:Int)=(M.length:Int):=by simp
  rw[I];refine Ends.pos (Int.natCast_nonneg _) (Ends.pos za (Ends.pos (Int.natCast_nonneg _) (Ends.pos za ?_)));have ho:((((List.range M.length).map fun(x:Nat)=>(x:Int)).set ((top:Int)).toNat (i:Int)).set ((i:Int)).toNat (top:Int))=ordL M.length top i:=rfl;rw[ho];have hol:(ordL M.length top i).length=M.length:=by simp[ordL]
  refine Ends.bind (Pick_ends hU hm hc (ordL_range ht hi) za) ?_;rw[ordL_map ht hi,hol];have hsl:(sw M top i).length=M.length:=by simp[sw]
  have hUs:U (sw M top i) C:=(hU.set (k:=i) (hU.at ht)).set (hU.at hi);have hst:(sw M top i).getD top [] =M.getD i []:=by unfold sw;rw[getD_set_self zu]
  have hA:=At_eq hUs za hc (i:=top) za hj (M.length:Int);have he:entry (sw M top i) top j=entry M i j:=by unfold entry;rw[hst]
  rw[he]at hA
  refine Ends.bind1 hA ?_;have hb:=entry_byte h hi hj;refine Ends.bind (Inv_ends hb h0) ?_;have hRw:=Row_ends hUs za hc (i:=top) za;rw[hsl,hst]at hRw
  refine Ends.bind hRw ?_;refine Ends.bind (Scale_ends (invT_range hb h0) (rows_bytes h.bM i) (by rw[h.eM i hi];omega)) ?_;have G:top≤64:=by omega
  have hix:=idx_lt (c:=C) ht (by omega:0<C);have hfl:(sw M top i).flatten.length=M.length*C:=by rw[flat_len hUs,hsl]
  show Ends (fun k=>if 0≤wrap64 ((top:Int)*(C:Int))then if wrap64 ((top:Int)*(C:Int))<((sw M top i).flatten.length:Int)then recoupref04_Reduce.l3 k x6 (j:Int) (top:Int) ((M.getD i []).map (mulT (invT (entry M i j)))) 0 (M.length:Int) (C:Int) (copyL (sw M top i).flatten (wrap64 ((top:Int)*(C:Int))) ((M.getD i []).map (mulT (invT (entry M i j)))))else none else none) R;rw[(idx_small (i:=top) (c:=C) (j:=0) G hc zc).1,hfl];refine Ends.pos (Int.natCast_nonneg _) (Ends.pos (Int.ofNat_lt.2 za) ?_);have hrl:((M.getD i []).map (mulT (invT (entry M i j)))).length=C:=by rw[List.length_map];exact h.eM i hi
  have hcp:copyL (sw M top i).flatten ((top*C:Nat):Int) ((M.getD i []).map (mulT (invT (entry M i j))))=(swapS (invT (entry M i j)) M top i).flatten:=by
   unfold copyL;have:(top+1)*C≤M.length*C:=Nat.mul_le_mul_right _ ht;rw[Nat.succ_mul]at this
   rw[Int.toNat_natCast,hfl,List.take_of_length_le za,flat_splice hUs za hrl];rfl
  rw[hcp];have hS:=h.swap (o:=invT (entry M i j)) ht hi;have hSl:(swapS (invT (entry M i j)) M top i).length=M.length:=by simp[swapS]
  have hSt:(swapS (invT (entry M i j)) M top i).getD top [] =(M.getD i []).map (mulT (invT (entry M i j))):=by
   unfold swapS;rw[getD_set_self zu]
  have:=Red_l3 hS (by omega:top<_) hj x6 h6 (R:=R) (by rw[hSl];exact hR) M.length 0 za;rw[hSl,hSt]at this
  exact this
 |n+1,k,hk=>by
  have hm:=h.small.1;refine Ends.succ (fun k=>by rw[recoupref04_Reduce.l2]) (Ends.pos za (Ends.pos (Int.natCast_nonneg _) ?_));refine Ends.pos zl ?_;have e:=mid_set (g:=(List.range M.length).map fun(x:Nat)=>(x:Int)) (r:=List.replicate M.length (0:Int)) (l:=k) zl zd;have e1:((List.range M.length).map fun(x:Nat)=>(x:Int)).getD k 0=(k:Int):=by
   rw[List.getD_eq_getElem?_getD,List.getElem?_map,List.getElem?_range za];rfl
  rw[e1]at e
  rw[Int.toNat_natCast,e,i64_succ za];exact Red_l2 h ht hi hj h0 x6 h6 hR n (k+1) za
theorem Red_l1{C:Nat}{S:List (List Int)}(h:U S C)(hm:S.length≤64)(hc:C≤64){j:Nat}(hj:j<C)(x6:List Int)(top:Int){R:Int×Int×List Int×List Int×Int} :
 ∀n i:Nat,i+n=S.length→Ends (fun q=>recoupref04_Reduce.j3 q x6 (j:Int) top (((seekCol S j n i).getD S.length:Nat):Int) (S.length:Int) (C:Int) S.flatten) R→
  Ends (fun q=>recoupref04_Reduce.l1 q x6 (j:Int) top (i:Int) (S.length:Int) (C:Int) S.flatten) R
 |0,i,hi,hJ=>by
  obtain rfl:i=S.length:=by omega
  refine Ends.succ (fun k=>by rw[recoupref04_Reduce.l1]) ?_;exact Ends.neg za hJ
 |n+1,i,hi,hJ=>by
  refine Ends.succ (fun k=>by rw[recoupref04_Reduce.l1]) (Ends.pos za ?_);refine Ends.bind1 (At_eq h hm hc za hj _) ?_;unfold seekCol at hJ;by_cases e:entry S i j=0
  ·rw[if_neg (fun x=>x e)]at hJ
   refine Ends.pos e ?_;rw[i64_succ za];exact Red_l1 h hm hc hj x6 top n (i+1) za hJ
  ·rw[if_pos e]at hJ
   exact Ends.neg e hJ
theorem red_done{M D:List (List Int)}{C wd:Nat}(h:Shp M D C wd){j:Nat}(hf:M.length≤(redTo M D j).2.length)(n:Nat):redTo M D (j+n)=redTo M D j:=
 red_skip n fun j' _ _ i' a b=>by rw[(red_shp h j).2.1]at b;omega
theorem Red_l0{C wd:Nat}{M D:List (List Int)}(h:Shp M D C wd): ∀n j:Nat,j+n=C→
 Ends (fun q=>recoupref04_Reduce.l0 q (redTo M D j).2 (j:Int) (M.length:Int) (C:Int) (redTo M D j).1.1.flatten) ((M.length:Int),(C:Int),(redTo M D C).1.1.flatten,(redTo M D C).2,0)
 |0,j,hj=>by
  obtain rfl:j=C:=by omega
  refine Ends.succ (fun k=>by rw[recoupref04_Reduce.l0]) (Ends.neg za ?_);exact Ends.succ (fun k=>by rw[recoupref04_Reduce.j1]) (Ends.neg zc (Ends.const rfl))
 |n+1,j,hj=>by
  have hs:=red_shp h j;have hm:=h.small.1;have hc:=h.small.2.1;have ih:=Red_l0 h n (j+1) za;refine Ends.succ (fun k=>by rw[recoupref04_Reduce.l0]) (Ends.pos za ?_);by_cases hf:M.length≤(redTo M D j).2.length
  ·refine Ends.succ (fun k=>by rw[recoupref04_Reduce.j1]) (Ends.neg zah (Ends.const ?_));have:=red_done h hf (n+1);rw[hj]at this
   rw[this]
  ·refine Ends.succ (fun k=>by rw[recoupref04_Reduce.j1]) (Ends.pos zah ?_);have hE:redTo M D (j+1)=redStep j (redTo M D j):=rfl;rw[hE]at ih
   obtain⟨hS,hSl,_,hpj⟩:=hs;generalize hT:redTo M D j=T at*;have hU:=U.of hS;have G:T.2.length≤64:=by omega
   have h1:=Red_l1 hU za hc (j:=j) za T.2 (T.2.length:Int) (R:=((M.length:Int),(C:Int),(redTo M D C).1.1.flatten,(redTo M D C).2,0)) (T.1.1.length-T.2.length) T.2.length za ?_
   ·rw[hSl]at h1
    exact h1
   ·show Ends (fun q=>recoupref04_Reduce.j3 q T.2 (j:Int) (T.2.length:Int) (((firstIn T.1.1 T.2.length j).getD T.1.1.length:Nat):Int) (T.1.1.length:Int) (C:Int) T.1.1.flatten) _
    cases hfi:firstIn T.1.1 T.2.length j with
    |none=>
     rw[redStep_none hfi]at ih
     refine Ends.succ (fun k=>by rw[recoupref04_Reduce.j3]) ?_;refine Ends.pos (by rw[Option.getD_none]) ?_;rw[i64_succ za,hSl];exact ih
    |some i=>
     rw[redStep_some hfi]at ih
     obtain⟨q1,q2,q3,_⟩:=seekCol_spec _ _ hfi;refine Ends.succ (fun k=>by rw[recoupref04_Reduce.j3]) (Ends.neg (by rw[Option.getD_some];omega) ?_);refine Ends.pos (Int.natCast_nonneg _) (Ends.pos (by rw[Int.toNat_natCast];omega) ?_);rw[Int.toNat_natCast,Option.getD_some];have h2:=Red_l2 hS (top:=T.2.length) (i:=i) (j:=j) za za za q3 T.2 G (R:=((M.length:Int),(C:Int),(redTo M D C).1.1.flatten,(redTo M D C).2,0)) (by rw[hSl];exact ih) T.1.1.length 0 za;rw[List.take_zero,List.nil_append,List.drop_zero]at h2
     exact h2
theorem Right_eq{a b:Int}{l:List Int}(ha: -9223372036854775808≤a∧a≤9223372036854775807):recoupref03_Right.f a b l=matrix_Right.f a b l:=by
 unfold recoupref03_Right.f matrix_Right.f matrix_side.f;by_cases h1:a≥0<;>by_cases h2:a≤64<;>by_cases h3:b≥0<;>by_cases h4:b≤64<;>simp only[h1,h2,h3,h4,if_true,if_false,Option.bind_some,decide_true,decide_false,Bool.false_eq_true]
theorem Right_cases(a b:Int)(l:List Int):recoupref03_Right.f a b l=some true∨recoupref03_Right.f a b l=some false:=by
 unfold recoupref03_Right.f
 split
 ·split
  ·split
   ·split
    ·by_cases h:((l.length:Int)==wrap64 (a*b))=true
     ·left;rw[h]
     ·right;rw[Bool.not_eq_true]at h;rw[h]
    ·exact .inr rfl
   ·exact .inr rfl
  ·exact .inr rfl
 ·exact .inr rfl
theorem bytesB_wf{l:List Int}(h: ∀x∈l,(Lit.int .u8 x).wf=true):bytesB l=true:=by
 unfold bytesB;rw[List.all_eq_true];intro x hx;have:=wf_u8 (h x hx);simp;omega
theorem Copy_eq{a b:Int}{l:List Int}(h:l.length≤4096):recoupref03_Copy.f a b l=some (a,b,l):=by
 unfold recoupref03_Copy.f recoupref01_Copy.f;rw[Option.bind_some,if_pos (by rw[List.length_nil];omega)];rfl
theorem right_nat{a b:Int}{l:List Int}(h:matrix_Right.f a b l=some true): ∃r c:Nat,a=(r:Int)∧b=(c:Int)∧r≤64∧c≤64∧l.length=r*c∧l.length≤4096:=by
 obtain⟨h1,h2,h3,h4,h5⟩:=right_true h;obtain⟨r,rfl⟩:=Int.eq_ofNat_of_zero_le h1;obtain⟨c,rfl⟩:=Int.eq_ofNat_of_zero_le h3;rw[Int.toNat_natCast,Int.toNat_natCast]at h5
 have:r*c≤64*64:=Nat.mul_le_mul za za;exact⟨r,c,rfl,rfl,by omega,by omega,h5,by omega⟩
def redL(r c:Nat)(l:List Int):(List (List Int)×List (List Int))×List Int:=redTo (rowsOf c r l) (List.replicate r []) c
theorem Reduce_ends{r c:Nat}{l:List Int}(hr:r≤64)(hc:c≤64)(hl:l.length=r*c)(hb:bytesB l=true):Ends (fun k=>recoupref04_Reduce.f k (r:Int) (c:Int) l) ((r:Int),(c:Int),(redL r c l).1.1.flatten,(redL r c l).2,0):=by
 have hf:=flat_rowsOf r l hl;have hlen:=rowsOf_length c r l;have hm:r*c≤64*64:=Nat.mul_le_mul hr hc;unfold recoupref04_Reduce.f;have h1:=Right_true hf.2 za hc;rw[hf.1,hlen]at h1
 refine Ends.bind1 h1 (Ends.pos rfl ?_);refine Ends.bind1 (Copy_eq za) ?_;have:=Red_l0 (shp_nil hb hl ⟨hr,hc⟩) c 0 za;rw[hlen]at this
 show Ends (fun k=>recoupref04_Reduce.l0 k [] 0 (r:Int) (c:Int) l) _;have e:(redTo (rowsOf c r l) (List.replicate r []) 0).1.1.flatten=l:=hf.1;rw[e]at this
 exact this
theorem gReduce_eq{r c:Nat}{l:List Int}(hR:matrix_Right.f (r:Int) (c:Int) l=some true)(hb:bytesB l=true):gauss_Reduce.f (r:Int) (c:Int) l=some ((r:Int),(c:Int),(redL r c l).1.1.flatten,(redL r c l).2,0):=by
 unfold gauss_Reduce.f;rw[hR,Option.bind_some,if_pos rfl,if_pos hb];rfl
theorem Same_self(l:List Int):recoupref01_Same.f l l=some true:=by
 unfold recoupref01_Same.f;rw[beq_self_eq_true]
end Go.Proofs.YtkagobkedifhkaaDoor.M
namespace Go.Proofs.YtkagobkedifhkaaDoor.M
open Go.RowKit Go.Proofs.YtkagobkedifhkaaDoorW.PrintWords Go.Proofs.YtkagobkedifhkaaDoorW.PrintLast Go.Proofs.YtkagobkedifhkaaDoorW.PrintMore Go.Proofs.YtkagobkedifhkaaDoor.Q
theorem Rank_ends{r c:Nat}{l:List Int}(hr:r≤64)(hc:c≤64)(hl:l.length=r*c)(hb:bytesB l=true):Ends (fun k=>recoupref04_Rank.f k (r:Int) (c:Int) l) (((redL r c l).2.length:Int),0):=by
 unfold recoupref04_Rank.f;exact Ends.bind (Reduce_ends hr hc hl hb) (Ends.const rfl)
end Go.Proofs.YtkagobkedifhkaaDoor.M
namespace Go.Proofs.YtkagobkedifhkaaDoor.M
open Go.RowKit Go.Proofs.YtkagobkedifhkaaDoorW.PrintWords Go.Proofs.YtkagobkedifhkaaDoorW.PrintLast Go.Proofs.YtkagobkedifhkaaDoorW.PrintMore Go.Proofs.YtkagobkedifhkaaDoor.Q
set_option linter.unusedVariables false
def aug(M D:List (List Int)):List (List Int):=List.zipWith (· ++ ·) M D
theorem aug_length{M D:List (List Int)}(h:D.length=M.length):(aug M D).length=M.length:=by unfold aug;rw[List.length_zipWith];omega
theorem aug_get{M D:List (List Int)}(h:D.length=M.length)(i:Nat):(aug M D).getD i [] =M.getD i []++D.getD i []:=by
 unfold aug;rw[List.getD_eq_getElem?_getD,List.getD_eq_getElem?_getD,List.getD_eq_getElem?_getD,List.getElem?_zipWith];by_cases hi:i<M.length
 ·rw[List.getElem?_eq_getElem hi,List.getElem?_eq_getElem za];rfl
 ·rw[List.getElem?_eq_none za,List.getElem?_eq_none za];rfl
theorem aug_set{M D:List (List Int)}(h:D.length=M.length)(i:Nat)(r s:List Int):aug (M.set i r) (D.set i s)=(aug M D).set i (r++s):=by
 unfold aug;refine List.ext_getElem zd fun p h1 h2=>?_;rw[List.getElem_zipWith,List.getElem_set,List.getElem_set,List.getElem_set,List.getElem_zipWith]
 split<;>rfl
theorem aug_entry{M D:List (List Int)}{C i j:Nat}(h:D.length=M.length)(hr:(M.getD i []).length=C)(hj:j<C):entry (aug M D) i j=entry M i j:=by
 unfold entry;rw[aug_get h,List.getD_eq_getElem?_getD,List.getD_eq_getElem?_getD (l:=M.getD i []),List.getElem?_append_left za]
theorem aug_entry_right{M D:List (List Int)}{C i j:Nat}(h:D.length=M.length)(hr:(M.getD i []).length=C):entry (aug M D) i (C+j)=entry D i j:=by
 unfold entry;rw[aug_get h,List.getD_eq_getElem?_getD,List.getD_eq_getElem?_getD (l:=D.getD i []),List.getElem?_append_right za,hr,Nat.add_sub_cancel_left]
theorem aug_U{M D:List (List Int)}{C wd:Nat}(h:Shp M D C wd):U (aug M D) (C+wd):=fun r hr=>by
 obtain⟨i,hi,rfl⟩:=List.getElem_of_mem hr;have hl:=aug_length h.len;have:=aug_get h.len i;rw[List.getD_eq_getElem?_getD,List.getElem?_eq_getElem hi,Option.getD_some]at this
 rw[this,List.length_append,h.eM i za,h.eD i za]
theorem aug_bytes{M D:List (List Int)}{C wd:Nat}(h:Shp M D C wd):rowsB (aug M D)=true:=by
 rw[rowsB,List.all_eq_true];intro r hr;obtain⟨i,hi,rfl⟩:=List.getElem_of_mem hr;have:=aug_get h.len i;rw[List.getD_eq_getElem?_getD,List.getElem?_eq_getElem hi,Option.getD_some]at this
 rw[this];have h1:=rows_bytes h.bM i;have h2:=rows_bytes h.bD i;unfold bytesB at h1 h2⊢;rw[List.all_append,h1,h2];rfl
theorem swap_aug{M D:List (List Int)}(h:D.length=M.length)(o:Int)(top i:Nat):aug (swapS o M top i) (swapS o D top i)=swapS o (aug M D) top i:=by
 unfold swapS;rw[aug_set (by simp[h]),aug_set (by simp[h]),aug_set h,aug_get h,aug_get h,List.map_append]
theorem xorL_append{a b c d:List Int}(h:a.length=c.length):xorL (a++b) (c++d)=xorL a c++xorL b d:=by
 unfold xorL;rw[List.zipWith_append h]
theorem mac_aug{M D:List (List Int)}{C wd:Nat}(h:Shp M D C wd){k top:Nat}(hk:k<M.length)(ht:top<M.length)(c:Int):aug (macS M k top c) (macS D k top c)=macS (aug M D) k top c:=by
 unfold macS;rw[aug_set h.len,aug_get h.len,aug_get h.len,List.map_append,xorL_append (by rw[List.length_map,h.eM top ht,h.eM k hk])]
def el1(col top:Nat):Nat→List (List Int)→List (List Int)
 |0,A=>A
 |k+1,A=>let t:=el1 col top k A;if k≠top∧entry t k col≠0 then macS t k top (entry t k col)else t
theorem el1_aug{M D:List (List Int)}{C wd col top:Nat}(h:Shp M D C wd)(ht:top<M.length)(hc:col<C): ∀k,k≤M.length→el1 col top k (aug M D)=aug (elimTo col top k (M,D)).1 (elimTo col top k (M,D)).2
 |0,_=>rfl
 |k+1,hk=>by
  obtain⟨hT,hTl⟩:=elim_shp (col:=col) h ht k za;have ih:=el1_aug h ht hc k za;have e1:el1 col top (k+1) (aug M D)=(if k≠top∧entry (el1 col top k (aug M D)) k col≠0 then macS (el1 col top k (aug M D)) k top (entry (el1 col top k (aug M D)) k col)else el1 col top k (aug M D)):=rfl;have e2:elimTo col top (k+1) (M,D)=(if k≠top∧entry (elimTo col top k (M,D)).1 k col≠0 then(macS (elimTo col top k (M,D)).1 k top (entry (elimTo col top k (M,D)).1 k col),macS (elimTo col top k (M,D)).2 k top (entry (elimTo col top k (M,D)).1 k col))else elimTo col top k (M,D)):=rfl;rw[e1,e2,ih];generalize elimTo col top k (M,D)=T at*;rw[aug_entry hT.len (hT.eM k za) hc]
  split
  ·rw[←mac_aug hT za za]
  ·rfl
theorem seek_aug{M D:List (List Int)}{C wd j:Nat}(h:Shp M D C wd)(hj:j<C): ∀f i,i+f≤M.length→seekCol (aug M D) j f i=seekCol M j f i
 |0,_,_=>rfl
 |f+1,i,hi=>by
  unfold seekCol;rw[aug_entry h.len (h.eM i za) hj,seek_aug h hj f (i+1) za]
def stepA(j:Nat)(s:List (List Int)×List Int):List (List Int)×List Int:=match firstIn s.1 s.2.length j with
 |none=>s
 |some i=>(el1 j s.2.length s.1.length (swapS (invT (entry s.1 i j)) s.1 s.2.length i),s.2++ [(j:Int)])
def redA(A:List (List Int)):Nat→List (List Int)×List Int
 |0=>(A,[])
 |j+1=>stepA j (redA A j)
theorem stepA_none{j:Nat}{s:List (List Int)×List Int}(h:firstIn s.1 s.2.length j=none):stepA j s=s:=by unfold stepA;rw[h]
theorem stepA_some{j i:Nat}{s:List (List Int)×List Int}(h:firstIn s.1 s.2.length j=some i):stepA j s=(el1 j s.2.length s.1.length (swapS (invT (entry s.1 i j)) s.1 s.2.length i),s.2++ [(j:Int)]):=by unfold stepA;rw[h]
theorem red_aug{M D:List (List Int)}{C wd:Nat}(h:Shp M D C wd): ∀j,j≤C→redA (aug M D) j=(aug (redTo M D j).1.1 (redTo M D j).1.2,(redTo M D j).2)
 |0,_=>rfl
 |j+1,hj=>by
  have hs:=red_shp h j;have ih:=red_aug h j za;show stepA j (redA (aug M D) j)=(aug (redStep j (redTo M D j)).1.1 (redStep j (redTo M D j)).1.2,(redStep j (redTo M D j)).2)
  rw[ih];generalize redTo M D j=T at*;obtain⟨hS,hSl,hp,_⟩:=hs;have hal:=aug_length hS.len;have hfi:firstIn (aug T.1.1 T.1.2) T.2.length j=firstIn T.1.1 T.2.length j:=by
   unfold firstIn;rw[hal,seek_aug hS za _ _ za]
  cases hf:firstIn T.1.1 T.2.length j with
  |none=>rw[redStep_none hf,stepA_none (hfi.trans hf)]
  |some i=>
   obtain⟨q1,q2,q3,_⟩:=seekCol_spec _ _ hf;rw[redStep_some hf,stepA_some (s:=(aug T.1.1 T.1.2,T.2)) (hfi.trans hf)];show(el1 j T.2.length (aug T.1.1 T.1.2).length (swapS (invT (entry (aug T.1.1 T.1.2) i j)) (aug T.1.1 T.1.2) T.2.length i),T.2++ [(j:Int)])=_;have hsh:=hS.swap (o:=invT (entry T.1.1 i j)) (by omega:T.2.length<_) (by omega:i<_);have hsl:(swapS (invT (entry T.1.1 i j)) T.1.1 T.2.length i).length=T.1.1.length:=by simp[swapS]
   rw[hal,aug_entry hS.len (hS.eM i za) za,←swap_aug hS.len,el1_aug hsh za za _ za];rfl
structure Sh (A:List (List Int)) (W:Nat):Prop where
 u:U A W
 b:rowsB A=true
 m:A.length≤64
 w:W≤65
theorem Sh.set{A:List (List Int)}{W k:Nat}{r:List Int}(h:Sh A W)(hr:r.length=W)(hb:bytesB r=true):Sh (A.set k r) W:=by
 refine⟨h.u.set hr,?_,by rw[List.length_set];exact h.m,h.w⟩;have:=h.b;rw[rowsB,List.all_eq_true]at this⊢
 intro x hx;rcases List.mem_or_eq_of_mem_set hx with hx|rfl
 ·exact this x hx
 ·exact hb
theorem scale_bytes{o:Int}(ho:0≤o∧o<256){r:List Int}(h:bytesB r=true):bytesB (r.map (mulT o))=true:=by
 unfold bytesB;rw[List.all_eq_true];intro x hx;obtain⟨y,hy,rfl⟩:=List.mem_map.1 hx;unfold bytesB at h;rw[List.all_eq_true]at h
 have D:=h y hy;simp only[Bool.and_eq_true,decide_eq_true_eq]at D;have:=mulT_range ho D;simp;omega
theorem xorL_bytes{r s:List Int} :bytesB (xorL r s)=true:=by
 unfold bytesB xorL;rw[List.all_eq_true];intro x hx;obtain⟨i,hi,rfl⟩:=List.getElem_of_mem hx;rw[List.getElem_zipWith];have:=xor_range (r[i]'(by simp at hi;omega)) (s[i]'(by simp at hi;omega));simp;omega
theorem Sh.byte{A:List (List Int)}{W i j:Nat}(h:Sh A W)(hi:i<A.length)(hj:j<W):0≤entry A i j∧entry A i j<256:=bytesB_at (rows_bytes h.b i) (by rw[h.u.at hi];exact hj)
theorem Sh.swap{A:List (List Int)}{W top i:Nat}{o:Int}(h:Sh A W)(ho:0≤o∧o<256)(ht:top<A.length)(hi:i<A.length):Sh (swapS o A top i) W:=by
 unfold swapS;exact((h.set (h.u.at ht) (rows_bytes h.b top)).set (h.u.at hi) (rows_bytes h.b i)).set (by rw[List.length_map];exact h.u.at hi) (scale_bytes ho (rows_bytes h.b i))
theorem Sh.mac{A:List (List Int)}{W k top:Nat}(h:Sh A W)(hk:k<A.length)(ht:top<A.length)(c:Int):Sh (macS A k top c) W:=by
 unfold macS;refine h.set ?_ xorL_bytes;unfold xorL;rw[List.length_zipWith,List.length_map,h.u.at ht,h.u.at hk];omega
theorem Sh.el{A:List (List Int)}{W col top:Nat}(h:Sh A W)(ht:top<A.length): ∀k,k≤A.length→Sh (el1 col top k A) W∧(el1 col top k A).length=A.length
 |0,_=>⟨h,rfl⟩
 |k+1,hk=>by
  obtain⟨ih,il⟩:=Sh.el (col:=col) h ht k za;show Sh (if k≠top∧entry (el1 col top k A) k col≠0 then macS (el1 col top k A) k top (entry (el1 col top k A) k col)else el1 col top k A) W∧(if k≠top∧entry (el1 col top k A) k col≠0 then macS (el1 col top k A) k top (entry (el1 col top k A) k col)else el1 col top k A).length=A.length
  split
  ·exact⟨ih.mac za za _,by simp[macS,il]⟩
  ·exact⟨ih,il⟩
theorem map_getD{f:Int→Int}{l:List Int}{i:Nat}(h:i<l.length):(l.map f).getD i 0=f (l.getD i 0):=by
 rw[List.getD_eq_getElem?_getD,List.getD_eq_getElem?_getD,List.getElem?_map,List.getElem?_eq_getElem h];rfl
theorem bytesB_take{a:List Int}(h:bytesB a=true)(n:Nat):bytesB (a.take n)=true:=by
 have:=bytesB_sub h 0 n
 rwa [List.drop_zero]at this
def fillTo(f:Nat→List Int)(n i:Nat):List (List Int):=(List.range n).map fun k=>if k<i then f k else []
def colRow(y:List Int)(k:Nat):List Int:= [y.getD k 0]
def solveTo(P:List Int)(D:List (List Int))(cols:Nat):Nat→List Int
 |0=>List.replicate cols 0
 |i+1=>if i<P.length then(solveTo P D cols i).set (P.getD i 0).toNat (entry D i 0)else solveTo P D cols i
def badFrom(P:List Int)(D:List (List Int)):Nat→Nat→Bool
 |0,_=>false
 |f+1,i=>if P.length≤i∧entry D i 0≠0 then true else badFrom P D f (i+1)
theorem fill_length(f:Nat→List Int)(n i:Nat):(fillTo f n i).length=n:=by simp[fillTo]
theorem fill_get{f:Nat→List Int}{n k:Nat}(hk:k<n):(fillTo f n n).getD k [] =f k:=by
 unfold fillTo;rw[List.getD_eq_getElem?_getD,List.getElem?_map,List.getElem?_range hk];simp[hk]
def Ycol(y:List Int)(r:Nat):List (List Int):=fillTo (colRow y) r r
theorem shp_Y{r c:Nat}{l y:List Int}(hb:bytesB l=true)(hyb:bytesB y=true)(hl:l.length=r*c)(hr:r≤64)(hc:c≤64)(hy:y.length=r):Shp (rowsOf c r l) (Ycol y r) c 1:=by
 refine shp_of hb hl ⟨hr,hc⟩ (fill_length _ _ _) ?_ (fun i hi=>by show((fillTo (colRow y) r r).getD i []).length=1;rw[fill_get hi];rfl) zc;rw[rowsB,List.all_eq_true];intro x hx;obtain⟨i,hi,rfl⟩:=List.getElem_of_mem hx;have hir:i<r:=by rw[show(fillTo (colRow y) r r).length=r from fill_length _ _ _]at hi;exact hi
 have:=fill_get (f:=colRow y) hir;rw[List.getD_eq_getElem?_getD,List.getElem?_eq_getElem (by rw[fill_length];exact hir),Option.getD_some]at this
 rw[this];have hb:=bytesB_at hyb (i:=i) za;unfold colRow bytesB;rw[List.all_cons,List.all_nil,Bool.and_true,Bool.and_eq_true,decide_eq_true_eq,decide_eq_true_eq];exact hb
abbrev SR:=List Int×Bool×Int
theorem bad_iff{P:List Int}{D:List (List Int)} : ∀f i,badFrom P D f i=true↔ ∃i',i≤i'∧i'<i+f∧P.length≤i'∧entry D i' 0≠0
 |0,i=>by
  constructor
  ·intro h;cases h
  ·rintro⟨i',h1,h2,_⟩;omega
 |f+1,i=>by
  unfold badFrom;by_cases h:P.length≤i∧entry D i 0≠0
  ·rw[if_pos h];exact⟨fun _=>⟨i,Nat.le_refl _,by omega,h.1,h.2⟩,fun _=>rfl⟩
  ·rw[if_neg h,bad_iff f (i+1)];constructor
   ·rintro⟨i',h1,h2,h3,h4⟩;exact⟨i',by omega,by omega,h3,h4⟩
   ·rintro⟨i',h1,h2,h3,h4⟩;by_cases e:i'=i
    ·subst e;exact absurd ⟨h3,h4⟩ h
    ·exact⟨i',by omega,by omega,h3,h4⟩
theorem seek_zero{M:List (List Int)}{j:Nat} : ∀f i,seekCol M j f i=none→ ∀i',i≤i'→i'<i+f→entry M i' j=0
 |0,i,_,i',a,b=>by omega
 |f+1,i,h,i',a,b=>by
  unfold seekCol at h;by_cases e:entry M i j=0
  ·rw[if_neg (fun x=>x e)]at h
   by_cases e2:i'=i
   ·rw[e2];exact e
   ·exact seek_zero f (i+1) h i' za za
  ·rw[if_pos e]at h;cases h
theorem solveTo_length(P:List Int)(D:List (List Int))(c:Nat): ∀i,(solveTo P D c i).length=c
 |0=>by simp[solveTo]
 |i+1=>by
  unfold solveTo
  split
  ·rw[List.length_set];exact solveTo_length P D c i
  ·exact solveTo_length P D c i
theorem solveTo_more{P:List Int}{D:List (List Int)}{c i:Nat}(h:P.length≤i):solveTo P D c i=solveTo P D c P.length:=by
 obtain⟨d,rfl⟩: ∃d,i=P.length+d:=⟨i-P.length,by omega⟩
 clear h
 induction d with
 |zero=>rfl
 |succ d ih=>
  rw[show P.length+(d+1)=(P.length+d)+1 from rfl,solveTo,if_neg za];exact ih
def solR(r c:Nat)(l y:List Int):SR:=let T:=redTo (rowsOf c r l) (Ycol y r) c
 if badFrom T.2 T.1.2 r 0=true then([],false,0)else(solveTo T.2 T.1.2 c r,true,0)
theorem Sh.aug{M D:List (List Int)}{C:Nat}(h:Shp M D C 1):Sh (aug M D) (C+1):=⟨aug_U h,aug_bytes h,by rw[aug_length h.len];exact h.small.1,by have:=h.small.2.1;omega⟩
theorem entry_set{A:List (List Int)}{i a b:Nat}{r:List Int}(hi:i<A.length):entry (A.set i r) a b=if a=i then r.getD b 0 else entry A a b:=by
 unfold entry;by_cases e:a=i
 ·subst e;rw[if_pos rfl,getD_set_self hi]
 ·rw[if_neg e,getD_set_ne (fun x=>e x.symm)]
theorem xor_getD{r s:List Int}{b:Nat}(h1:b<r.length)(h2:b<s.length):(xorL r s).getD b 0=Go.bits .xor .u8 (r.getD b 0) (s.getD b 0):=by
 unfold xorL;rw[List.getD_eq_getElem?_getD,List.getD_eq_getElem?_getD,List.getD_eq_getElem?_getD,List.getElem?_zipWith,List.getElem?_eq_getElem h1,List.getElem?_eq_getElem h2];rfl
theorem entry_swap{A:List (List Int)}{W top i a b:Nat}{o:Int}(h:Sh A W)(ht:top<A.length)(hi:i<A.length)(hb:b<W):entry (swapS o A top i) a b=if a=top then mulT o (entry A i b)else if a=i then entry A top b else entry A a b:=by
 unfold swapS;have h2:=h.u.at hi;rw[entry_set zu,map_getD za,entry_set zu,entry_set hi];by_cases e:a=top
 ·rw[if_pos e,if_pos e];rfl
 ·rw[if_neg e,if_neg e,if_neg e];rfl
theorem entry_mac{A:List (List Int)}{W top k a b:Nat}{c:Int}(h:Sh A W)(ht:top<A.length)(hk:k<A.length)(hb:b<W):entry (macS A k top c) a b=if a=k then Go.bits .xor .u8 (mulT c (entry A top b)) (entry A k b)else entry A a b:=by
 unfold macS;have h1:=h.u.at ht;have h2:=h.u.at hk;rw[entry_set hk,xor_getD (by rw[List.length_map];omega) za,map_getD za];rfl
theorem Sh.of1{M D:List (List Int)}{C wd:Nat}(h:Shp M D C wd):Sh M C:=⟨U.of h,h.bM,h.small.1,by have:=h.small.2.1;omega⟩
theorem Sh.of2{M D:List (List Int)}{C wd:Nat}(h:Shp M D C wd):Sh D wd:=⟨fun r hr=>by
 obtain⟨i,hi,rfl⟩:=List.getElem_of_mem hr;have:=h.eD i (by rw[←h.len];exact hi)
 rwa [List.getD_eq_getElem?_getD,List.getElem?_eq_getElem hi,Option.getD_some]at this,h.bD,by rw[h.len];exact h.small.1,by have:=h.small.2.2;omega⟩
theorem elim_fst(col top:Nat)(M D:List (List Int)): ∀k,(elimTo col top k (M,D)).1=el1 col top k M
 |0=>rfl
 |k+1=>by
  have ih:=elim_fst col top M D k;show(if k≠top∧entry (elimTo col top k (M,D)).1 k col≠0 then(macS (elimTo col top k (M,D)).1 k top (entry (elimTo col top k (M,D)).1 k col),macS (elimTo col top k (M,D)).2 k top (entry (elimTo col top k (M,D)).1 k col))else elimTo col top k (M,D)).1=(if k≠top∧entry (el1 col top k M) k col≠0 then macS (el1 col top k M) k top (entry (el1 col top k M) k col)else el1 col top k M)
  rw[←ih]
  split<;>rfl
theorem red_fst(M D:List (List Int)): ∀j,((redTo M D j).1.1,(redTo M D j).2)=redA M j
 |0=>rfl
 |j+1=>by
  have ih:=red_fst M D j;show((redStep j (redTo M D j)).1.1,(redStep j (redTo M D j)).2)=stepA j (redA M j);rw[←ih];generalize redTo M D j=T
  cases hf:firstIn T.1.1 T.2.length j with
  |none=>rw[redStep_none hf,stepA_none (s:=(T.1.1,T.2)) hf]
  |some i=>
   rw[redStep_some hf,stepA_some (s:=(T.1.1,T.2)) hf];show((elimTo j T.2.length T.1.1.length (_,_)).1,_)=_;rw[elim_fst]
theorem red_same(M D E:List (List Int))(j:Nat):(redTo M D j).1.1=(redTo M E j).1.1∧(redTo M D j).2=(redTo M E j).2:=by
 have h:=(red_fst M D j).trans (red_fst M E j).symm;exact⟨(Prod.mk.inj h).1,(Prod.mk.inj h).2⟩
theorem elim_col{M D Y:List (List Int)}{C wd q col top:Nat}(hD:Shp M D C wd)(hY:Shp M Y C 1)(hq:q<wd)(ht:top<M.length)(h: ∀i,i<M.length→entry D i q=entry Y i 0): ∀k,k≤M.length→ ∀i,i<M.length→entry (elimTo col top k (M,D)).2 i q=entry (elimTo col top k (M,Y)).2 i 0
 |0,_,i,hi=>h i hi
 |k+1,hk,i,hi=>by
  have ih:=elim_col (col:=col) hD hY hq ht h k za;obtain⟨a1,a2⟩:=elim_shp (col:=col) hD ht k za;obtain⟨b1,b2⟩:=elim_shp (col:=col) hY ht k za;have e:=(elim_fst col top M D k).trans (elim_fst col top M Y k).symm;show entry (if k≠top∧entry (elimTo col top k (M,D)).1 k col≠0 then(macS (elimTo col top k (M,D)).1 k top (entry (elimTo col top k (M,D)).1 k col),macS (elimTo col top k (M,D)).2 k top (entry (elimTo col top k (M,D)).1 k col))else elimTo col top k (M,D)).2 i q=entry (if k≠top∧entry (elimTo col top k (M,Y)).1 k col≠0 then(macS (elimTo col top k (M,Y)).1 k top (entry (elimTo col top k (M,Y)).1 k col),macS (elimTo col top k (M,Y)).2 k top (entry (elimTo col top k (M,Y)).1 k col))else elimTo col top k (M,Y)).2 i 0;rw[e];have l1:=a1.len;have l2:=b1.len
  split
  ·show entry (macS (elimTo col top k (M,D)).2 k top _) i q=entry (macS (elimTo col top k (M,Y)).2 k top _) i 0;rw[entry_mac (Sh.of2 a1) za za hq,entry_mac (Sh.of2 b1) za za za,ih top ht,ih k za,ih i hi]
  ·exact ih i hi
theorem red_col{M D Y:List (List Int)}{C wd q:Nat}(hD:Shp M D C wd)(hY:Shp M Y C 1)(hq:q<wd)(h: ∀i,i<M.length→entry D i q=entry Y i 0): ∀j,∀i,i<M.length→entry (redTo M D j).1.2 i q=entry (redTo M Y j).1.2 i 0
 |0,i,hi=>h i hi
 |j+1,i,hi=>by
  have ih:=red_col hD hY hq h j;obtain⟨a1,a2,a3,_⟩:=red_shp hD j;obtain⟨b1,b2,_,_⟩:=red_shp hY j;obtain⟨e1,e2⟩:=red_same M D Y j;show entry (redStep j (redTo M D j)).1.2 i q=entry (redStep j (redTo M Y j)).1.2 i 0;generalize redTo M D j=T at*;generalize redTo M Y j=T' at*
  cases hf:firstIn T.1.1 T.2.length j with
  |none=>
   have hf':=hf;rw[e1,e2]at hf'
   rw[redStep_none hf,redStep_none hf'];exact ih i hi
  |some x=>
   have hf':=hf;rw[e1,e2]at hf'
   obtain⟨q1,q2,q3,_⟩:=seekCol_spec _ _ hf;rw[redStep_some hf,redStep_some hf'];have ht:T.2.length<T.1.1.length:=by omega
   have hx:x<T.1.1.length:=by omega
   have s1:=a1.swap (o:=invT (entry T.1.1 x j)) ht hx;have s2:=b1.swap (o:=invT (entry T'.1.1 x j)) (top:=T'.2.length) (i:=x) (by rw[←e1,←e2];exact ht) (by rw[←e1];exact hx);have hl:(swapS (invT (entry T.1.1 x j)) T.1.1 T.2.length x).length=T.1.1.length:=by simp[swapS]
   show entry (elimTo j T.2.length T.1.1.length (_,_)).2 i q=entry (elimTo j T'.2.length T'.1.1.length (_,_)).2 i 0;rw[←e1,←e2]at s2⊢
   refine elim_col s1 s2 hq za (fun p hp=>?_) _ za i za;have l1:=a1.len;have l2:=b1.len;rw[entry_swap (Sh.of2 a1) za za hq,entry_swap (Sh.of2 b1) za za za,ih x za,ih _ za,ih p za]
theorem red_len_succ(M D:List (List Int))(j:Nat):(redTo M D (j+1)).2.length≤(redTo M D j).2.length+1:=by
 show(redStep j (redTo M D j)).2.length≤_;generalize redTo M D j=T
 cases hf:firstIn T.1.1 T.2.length j with
 |none=>rw[redStep_none hf];omega
 |some x=>rw[redStep_some hf,List.length_append];exact Nat.le_refl _
theorem red_len_le(M D:List (List Int)): ∀n j,(redTo M D (j+n)).2.length≤(redTo M D j).2.length+n
 |0,j=>Nat.le_refl _
 |n+1,j=>by
  have h1:=red_len_le M D n j;have h2:=red_len_succ M D (j+n);rw[show j+(n+1)=j+n+1 from rfl];omega
theorem red_full{M D:List (List Int)}{C wd:Nat}(h:Shp M D C wd)(hf:(redTo M D C).2.length=C): ∀j,j≤C→(redTo M D j).2=(List.range j).map fun(x:Nat)=>(x:Int)
 |0,_=>rfl
 |j+1,hj=>by
  have ih:=red_full h hf j za;have h1:=red_len_le M D (C-(j+1)) (j+1);rw[show j+1+(C-(j+1))=C from by omega,hf]at h1
  have h2:=(red_shp h j).2.2.2;have hE:redTo M D (j+1)=redStep j (redTo M D j):=rfl;rw[hE]at h1⊢
  generalize redTo M D j=T at*
  cases hf:firstIn T.1.1 T.2.length j with
  |none=>rw[redStep_none hf]at h1;omega
  |some x=>
   rw[redStep_some hf];show T.2++ [(j:Int)] =_;rw[ih,List.range_succ,List.map_append];rfl
end Go.Proofs.YtkagobkedifhkaaDoor.M
namespace Go.Proofs.YtkagobkedifhkaaDoor.M
set_option linter.unusedVariables false
abbrev Vec:=Nat→El
def zv:Vec:=fun _=>0
def lc(b:Nat→Vec)(n:Nat)(x:Nat→El):Vec:=fun j=>sm n (fun i=>x i*b i j)
def Span(b:Nat→Vec)(n:Nat)(v:Vec):Prop:= ∃x:Nat→El,v=lc b n x
def Indep(b:Nat→Vec)(n:Nat):Prop:= ∀x:Nat→El,lc b n x=zv→ ∀i,i<n→x i=0
theorem lc_congr{b c:Nat→Vec}{n:Nat}{x y:Nat→El}(h: ∀i,i<n→b i=c i)(k: ∀i,i<n→x i=y i):lc b n x=lc c n y:=
 funext fun j=>sm_congr fun i hi=>by rw[h i hi,k i hi]
theorem lc_add(b:Nat→Vec)(n:Nat)(x y:Nat→El):lc b n (fun i=>x i+y i)=fun j=>lc b n x j+lc b n y j:=by
 funext j
 unfold lc;rw[←sm_add];exact sm_congr fun i _=>add_mul _ _ _
theorem lc_mul(b:Nat→Vec)(n:Nat)(a:El)(x:Nat→El):lc b n (fun i=>a*x i)=fun j=>a*lc b n x j:=by
 funext j
 unfold lc;rw[←sm_mul];exact sm_congr fun i _=>mul_assoc _ _ _
theorem lc_zero(b:Nat→Vec)(n:Nat):lc b n (fun _=>0)=zv:=funext fun j=>sm_zero fun i _=>zero_mul _
theorem lc_unit(b:Nat→Vec){n k:Nat}(hk:k<n):lc b n (fun i=>if i=k then 1 else 0)=b k:=by
 funext j
 show sm n (fun i=>(if i=k then 1 else 0)*b i j)=b k j;rw[sm_one hk (fun i _ hne=>by rw[if_neg hne,zero_mul]),if_pos rfl,one_mul]
theorem lc_lc(b u:Nat→Vec)(n m:Nat)(x:Nat→El)(a:Nat→Nat→El)(h: ∀i,i<m→u i=lc b n (a i)):lc u m x=lc b n (fun k=>sm m (fun i=>x i*a i k)):=by
 funext j
 unfold lc;have e:sm m (fun i=>x i*u i j)=sm m (fun i=>sm n (fun k=>x i*a i k*b k j)):=sm_congr fun i hi=>by
  rw[h i hi];unfold lc;rw[←sm_mul];exact sm_congr fun k _=>(mul_assoc _ _ _).symm
 rw[e,sm_swap];exact sm_congr fun k _=>sm_mul_right _ _ _
theorem span_mem(b:Nat→Vec){n k:Nat}(hk:k<n):Span b n (b k):=⟨_,(lc_unit b hk).symm⟩
theorem span_zero(b:Nat→Vec)(n:Nat):Span b n zv:=⟨_,(lc_zero b n).symm⟩
theorem span_add{b:Nat→Vec}{n:Nat}{u v:Vec}(h:Span b n u)(k:Span b n v):Span b n (fun j=>u j+v j):=by
 obtain⟨x,rfl⟩:=h;obtain⟨y,rfl⟩:=k;exact⟨_,(lc_add b n x y).symm⟩
theorem span_mul{b:Nat→Vec}{n:Nat}{u:Vec}(a:El)(h:Span b n u):Span b n (fun j=>a*u j):=by
 obtain⟨x,rfl⟩:=h;exact⟨_,(lc_mul b n a x).symm⟩
theorem span_lc{b u:Nat→Vec}{n m:Nat}(h: ∀i,i<m→Span b n (u i))(x:Nat→El):Span b n (lc u m x):=by
 have h': ∀i,∃a:Nat→El,i<m→u i=lc b n a:=fun i=>by
  by_cases hi:i<m
  ·obtain⟨a,ha⟩:=h i hi;exact⟨a,fun _=>ha⟩
  ·exact⟨fun _=>0,fun e=>absurd e hi⟩
 obtain⟨a,ha⟩:=Classical.axiomOfChoice h';exact⟨_,lc_lc b u n m x a ha⟩
theorem span_trans{b u:Nat→Vec}{n m:Nat}{v:Vec}(h: ∀i,i<m→Span b n (u i))(k:Span u m v):Span b n v:=by
 obtain⟨x,rfl⟩:=k;exact span_lc h x
theorem span_le{b:Nat→Vec}{n m:Nat}(h:n≤m){v:Vec}(k:Span b n v):Span b m v:=span_trans (fun i hi=>span_mem b za) k
def skip(p i:Nat):Nat:=if i<p then i else i+1
theorem unskip(p i:Nat):(if skip p i<p then skip p i else skip p i-1)=i:=by
 unfold skip;by_cases h:i<p
 ·rw[if_pos h,if_pos h]
 ·rw[if_neg h,if_neg za];omega
theorem sm_succ_left(f:Nat→El)(n:Nat):sm (n+1) f=f 0+sm n (fun i=>f (i+1)):=by
 rw[Nat.add_comm n 1,sm_split];have:sm 1 f=f 0:=zero_add _;rw[this]
 congr 1
 exact sm_congr fun i _=>by rw[Nat.add_comm]
theorem sm_skip(f:Nat→El)(n p:Nat)(h:p≤n):sm (n+1) f=f p+sm n (fun i=>f (skip p i)):=by
 obtain⟨d,rfl⟩: ∃d,n=p+d:=⟨n-p,by omega⟩
 rw[show p+d+1=p+(d+1)from by omega,sm_split f p (d+1),sm_split (fun i=>f (skip p i)) p d,sm_succ_left (fun i=>f (p+i)) d];have e1:sm p (fun i=>f (skip p i))=sm p f:=sm_congr fun i hi=>by unfold skip;rw[if_pos hi]
 have e2:sm d (fun i=>f (skip p (p+i)))=sm d (fun i=>f (p+(i+1))):=sm_congr fun i _=>by unfold skip;rw[if_neg za];rfl
 rw[e1,e2,Nat.add_zero]
 ac_rfl
theorem hom: ∀(n m:Nat),n<m→ ∀a:Nat→Nat→El,∃x:Nat→El,(∃i,i<m∧x i≠0)∧ ∀k,k<n→sm m (fun i=>x i*a i k)=0
 |0,m,h,a=>⟨fun _=>1,⟨0,h,one_ne_zero⟩,fun k hk=>by omega⟩
 |n+1,m,h,a=>by
  by_cases hz: ∀i,i<m→a i n=0
  ·obtain⟨x,hx,he⟩:=hom n m za a;refine⟨x,hx,fun k hk=>?_⟩;by_cases e:k=n
   ·subst e;exact sm_zero fun i hi=>by rw[hz i hi,mul_zero]
   ·exact he k za
  ·obtain⟨p,hp,hpn⟩: ∃p,p<m∧a p n≠0:=Classical.byContradiction fun hc=>hz fun i hi=>Classical.byContradiction fun hne=>hc ⟨i,hi,hne⟩;obtain⟨m',rfl⟩: ∃m',m=m'+1:=⟨m-1,by omega⟩
   obtain⟨x,⟨i0,G,D⟩,he⟩:=hom n m' za (fun i k=>a (skip p i) k+a (skip p i) n*((a p n).inv*a p k));have hsk: ∀i,skip p i≠p:=fun i=>by unfold skip;split<;>omega
   refine⟨fun j=>if j=p then(a p n).inv*sm m' (fun i=>x i*a (skip p i) n)else x (if j<p then j else j-1),⟨skip p i0,by unfold skip;split<;>omega,?_⟩,fun k hk=>?_⟩
   ·show(if skip p i0=p then _ else _)≠0;rw[if_neg (hsk i0)];have:(if skip p i0<p then skip p i0 else skip p i0-1)=i0:=unskip p i0;rw[this];exact D
   ·rw[sm_skip _ m' p za];have e1:sm m' (fun i=>(if skip p i=p then(a p n).inv*sm m' (fun i=>x i*a (skip p i) n)else x (if skip p i<p then skip p i else skip p i-1))*a (skip p i) k)=sm m' (fun i=>x i*a (skip p i) k):=sm_congr fun i _=>by
     have:(if skip p i<p then skip p i else skip p i-1)=i:=unskip p i;rw[if_neg (hsk i),this]
    rw[e1];show(if p=p then(a p n).inv*sm m' (fun i=>x i*a (skip p i) n)else _)*a p k+_=0;rw[if_pos rfl];by_cases e:k=n
    ·subst e;rw[mul_comm,←mul_assoc,mul_inv hpn,one_mul,add_self]
    ·have h2:=he k za;have e2:sm m' (fun i=>x i*(a (skip p i) k+a (skip p i) n*((a p n).inv*a p k)))=sm m' (fun i=>x i*a (skip p i) k)+sm m' (fun i=>x i*a (skip p i) n)*((a p n).inv*a p k):=by
      rw[←sm_mul_right,←sm_add];exact sm_congr fun i _=>by rw[mul_add,mul_assoc]
     rw[e2]at h2
     rw[←h2,add_comm]
     congr 1
     ac_rfl
theorem steinitz{v u:Nat→Vec}{m n:Nat}(hi:Indep v m)(hs: ∀i,i<m→Span u n (v i)):m≤n:=by
 apply Classical.byContradiction;intro hlt;have h': ∀i,∃a:Nat→El,i<m→v i=lc u n a:=fun i=>by
  by_cases h:i<m
  ·obtain⟨a,ha⟩:=hs i h;exact⟨a,fun _=>ha⟩
  ·exact⟨fun _=>0,fun e=>absurd e h⟩
 obtain⟨a,ha⟩:=Classical.axiomOfChoice h';obtain⟨x,⟨i,him,hx⟩,he⟩:=hom n m za a;refine hx (hi x ?_ i him);rw[lc_lc u v n m x a ha,←lc_zero u n];exact lc_congr (fun _ _=>rfl) he
def snoc(b:Nat→Vec)(n:Nat)(v:Vec):Nat→Vec:=fun i=>if i<n then b i else v
theorem snoc_lt{b:Nat→Vec}{n:Nat}{v:Vec}{i:Nat}(h:i<n):snoc b n v i=b i:=if_pos h
theorem snoc_at(b:Nat→Vec)(n:Nat)(v:Vec):snoc b n v n=v:=if_neg (Nat.lt_irrefl n)
theorem lc_snoc(b:Nat→Vec)(n:Nat)(v:Vec)(x:Nat→El):lc (snoc b n v) (n+1) x=fun j=>lc b n x j+x n*v j:=by
 funext j
 show sm n (fun i=>x i*snoc b n v i j)+x n*snoc b n v n j=_;rw[snoc_at]
 congr 1
 exact sm_congr fun i hi=>by rw[snoc_lt hi]
theorem indep_snoc{b:Nat→Vec}{n:Nat}{v:Vec}(h:Indep b n)(hv: ¬Span b n v):Indep (snoc b n v) (n+1):=by
 intro x hx i hi;rw[lc_snoc]at hx
 have hn:x n=0:=by
  apply Classical.byContradiction;intro hne;apply hv;refine⟨fun i=>(x n).inv*x i,?_⟩;rw[lc_mul]
  funext j
  have:=congrFun hx j;have e:x n*v j=lc b n x j:=by
   have h2:lc b n x j+x n*v j=0:=this;rw[add_comm]at h2
   exact add_cancel h2
  show v j=(x n).inv*lc b n x j;rw[←e,←mul_assoc,inv_mul hne,one_mul]
 by_cases e:i=n
 ·rw[e,hn]
 ·refine h x ?_ i za;rw[←hx]
  funext j
  show _=lc b n x j+x n*v j;rw[hn,zero_mul,add_zero]
theorem indep_zero(b:Nat→Vec):Indep b 0:=fun x _ i hi=>by omega
theorem indep_congr{b c:Nat→Vec}{n:Nat}(h: ∀i,i<n→b i=c i)(hb:Indep b n):Indep c n:=fun x hx=>hb x (by rw[←hx];exact lc_congr h fun _ _=>rfl)
theorem extend{P:Vec→Prop}{u:Nat→Vec}{m:Nat}(hP: ∀v,P v→Span u m v): ∀(d:Nat) (b:Nat→Vec) (n:Nat),m-n≤d→Indep b n→(∀i,i<n→P (b i))→
 ∃b' n',n≤n'∧(∀i,i<n→b' i=b i)∧Indep b' n'∧(∀i,i<n'→P (b' i))∧ ∀v,P v→Span b' n' v
 |d,b,n,hd,hi,hb=>by
  by_cases hall: ∀v,P v→Span b n v
  ·exact⟨b,n,Nat.le_refl _,fun _ _=>rfl,hi,hb,hall⟩
  ·obtain⟨v,hv,hns⟩: ∃v,P v∧ ¬Span b n v:=Classical.byContradiction fun hc=>hall fun v hv=>Classical.byContradiction fun hne=>hc ⟨v,hv,hne⟩;have G:=indep_snoc hi hns;have D: ∀i,i<n+1→P (snoc b n v i):=fun i h=>by
    by_cases e:i<n
    ·rw[snoc_lt e];exact hb i e
    ·obtain rfl:i=n:=by omega
     rw[snoc_at];exact hv
   have hle:=steinitz G fun i h=>hP _ (D i h)
   match d with
   |0=>omega
   |d+1=>
    obtain⟨b',n',h1,h2,h3⟩:=extend hP d (snoc b n v) (n+1) za G D;exact⟨b',n',by omega,fun i h=>by rw[h2 i za,snoc_lt h],h3⟩
def Dim(P:Vec→Prop)(n:Nat):Prop:= ∃b,Indep b n∧(∀i,i<n→P (b i))∧ ∀v,P v→Span b n v
theorem dim_le{P Q:Vec→Prop}{m n:Nat}(hP:Dim P m)(hQ:Dim Q n)(h: ∀v,P v→Q v):m≤n:=by
 obtain⟨b,b1,b2,b3⟩:=hP;obtain⟨c,c1,c2,c3⟩:=hQ;exact steinitz b1 fun i hi=>c3 _ (h _ (b2 i hi))
theorem dim_unique{P:Vec→Prop}{m n:Nat}(h:Dim P m)(k:Dim P n):m=n:=Nat.le_antisymm (dim_le h k fun _ h=>h) (dim_le k h fun _ h=>h)
theorem dim_exists{P:Vec→Prop}{u:Nat→Vec}{m:Nat}(hP: ∀v,P v→Span u m v): ∃n,n≤m∧Dim P n:=by
 obtain⟨b,n,_,_,h3,h4,h5⟩:=extend hP m (fun _=>zv) 0 za (indep_zero _) (fun i h=>by omega);exact⟨n,steinitz h3 fun i h=>hP _ (h4 i h),b,h3,h4,h5⟩
theorem dim_congr{P Q:Vec→Prop}{n:Nat}(h: ∀v,P v↔Q v)(k:Dim P n):Dim Q n:=by
 obtain⟨b,b1,b2,b3⟩:=k;exact⟨b,b1,fun i hi=>(h _).1 (b2 i hi),fun v hv=>b3 v ((h v).2 hv)⟩
theorem dim_full{P:Vec→Prop}{n:Nat}(h:Dim P n){b:Nat→Vec}(hi:Indep b n)(hb: ∀i,i<n→P (b i)): ∀v,P v→Span b n v:=by
 intro v hv;apply Classical.byContradiction;intro hns;obtain⟨c,c1,c2,c3⟩:=h;have:=steinitz (indep_snoc hi hns) (u:=c) (n:=n) fun i hlt=>by
  by_cases e:i<n
  ·rw[snoc_lt e];exact c3 _ (hb i e)
  ·obtain rfl:i=n:=by omega
   rw[snoc_at];exact c3 _ hv
 omega
theorem dim_span{b:Nat→Vec}{n:Nat}(h:Indep b n):Dim (Span b n) n:=⟨b,h,fun i hi=>span_mem b hi,fun _ hv=>hv⟩
structure RR (n W t:Nat) (S:Nat→Vec) (p:Nat→Nat):Prop where
 tn:t≤n
 lt: ∀i,i<t→p i<W
 mono: ∀i k,i<k→k<t→p i<p k
 one: ∀i,i<t→ ∀a,a<n→S a (p i)=if a=i then 1 else 0
 low: ∀a,t≤a→a<n→S a=zv
 lead: ∀i,i<t→ ∀b,b<p i→S i b=0
 sup: ∀a,a<n→ ∀b,W≤b→S a b=0
section
variable {n W t:Nat} {S:Nat→Vec} {p:Nat→Nat}
theorem lc_low(hl: ∀a,t≤a→a<n→S a=zv)(ht:t≤n)(x:Nat→El):lc S n x=lc S t x:=by
 funext j
 exact sm_take ht fun i h1 h2=>by rw[hl i h1 h2];exact mul_zero _
theorem RR.at_piv(h:RR n W t S p)(x:Nat→El){i:Nat}(hi:i<t):lc S n x (p i)=x i:=by
 have htn:=h.tn;show sm n (fun a=>x a*S a (p i))=x i;rw[sm_one (k:=i) za fun a ha hne=>by rw[h.one i hi a ha,if_neg hne,mul_zero]];rw[h.one i hi i za,if_pos rfl,mul_one]
theorem RR.coord(h:RR n W t S p){v:Vec}(hv:Span S n v):v=lc S t (fun i=>v (p i)):=by
 obtain⟨x,rfl⟩:=hv;have:lc S n x=lc S t x:=lc_low h.low h.tn x;rw[this];refine lc_congr (fun _ _=>rfl) fun i hi=>?_;rw[←this];exact(h.at_piv x hi).symm
theorem RR.indep(h:RR n W t S p):Indep S t:=by
 intro x hx i hi;have e:lc S n (fun a=>if a<t then x a else 0)=zv:=by
  rw[lc_low h.low h.tn,←hx];exact lc_congr (fun _ _=>rfl) fun a ha=>if_pos ha
 have:=h.at_piv (fun a=>if a<t then x a else 0) hi;rw[e,if_pos hi]at this
 exact this.symm
theorem RR.dim(h:RR n W t S p):Dim (Span S n) t:=⟨S,h.indep,fun i hi=>span_mem S (by have:=h.tn;omega),fun v hv=>⟨_,h.coord hv⟩⟩
end
def dot(W:Nat)(r x:Vec):El:=sm W (fun b=>r b*x b)
theorem dot_lc(W:Nat)(b:Nat→Vec)(n:Nat)(y:Nat→El)(x:Vec):dot W (lc b n y) x=sm n (fun i=>y i*dot W (b i) x):=by
 unfold dot lc;have e:sm W (fun j=>sm n (fun i=>y i*b i j)*x j)=sm W (fun j=>sm n (fun i=>y i*(b i j*x j))):=sm_congr fun j _=>by
  rw[←sm_mul_right];exact sm_congr fun i _=>mul_assoc _ _ _
 rw[e,←sm_swap];exact sm_congr fun i _=>by rw[sm_mul]
theorem dot_add(W:Nat)(r x y:Vec):dot W r (fun j=>x j+y j)=dot W r x+dot W r y:=by
 unfold dot;rw[←sm_add];exact sm_congr fun _ _=>mul_add _ _ _
def Ker(W n:Nat)(b:Nat→Vec)(x:Vec):Prop:= ∀i,i<n→dot W (b i) x=0
theorem ker_span{W n m:Nat}{b c:Nat→Vec}{x:Vec}(h: ∀i,i<m→Span b n (c i))(k:Ker W n b x):Ker W m c x:=fun i hi=>by
 obtain⟨y,e⟩:=h i hi;rw[e,dot_lc];exact sm_zero fun a ha=>by rw[k a ha,mul_zero]
theorem ker_same{W n m:Nat}{b c:Nat→Vec}{x:Vec}(h: ∀v,Span b n v↔Span c m v):Ker W n b x↔Ker W m c x:=
 ⟨ker_span fun i hi=>(h _).2 (span_mem c hi),ker_span fun i hi=>(h _).1 (span_mem b hi)⟩
section
variable {n W t:Nat} {S:Nat→Vec} {p:Nat→Nat}
def RR.kv(S:Nat→Vec)(p:Nat→Nat)(t b:Nat):Vec:=fun j=>(if j=b then 1 else 0)+sm t (fun i=>if j=p i then S i b else 0)
theorem RR.dot_piv(h:RR n W t S p){x:Vec}(hx: ∀j,j<W→(∀i,i<t→j≠p i)→x j=0){a:Nat}(ha:a<t):dot W (S a) x=x (p a):=by
 have htn:=h.tn;unfold dot;rw[sm_one (k:=p a) (h.lt a ha) fun j hj hne=>?_]
 ·rw[h.one a ha a za,if_pos rfl,one_mul]
 ·by_cases e: ∃i,i<t∧j=p i
  ·obtain⟨i,hi,rfl⟩:=e;rw[h.one i hi a za,if_neg (fun e=>hne (by rw[e])),zero_mul]
  ·rw[hx j hj fun i hi e2=>e ⟨i,hi,e2⟩,mul_zero]
theorem RR.inj(h:RR n W t S p){i k:Nat}(hi:i<t)(hk:k<t)(e:p i=p k):i=k:=by
 rcases Nat.lt_trichotomy i k with h1|h1|h1
 ·have:=h.mono i k h1 hk;omega
 ·exact h1
 ·have:=h.mono k i h1 hi;omega
theorem RR.kv_ker(h:RR n W t S p){b:Nat}(hbW:b<W)(hb: ∀i,i<t→b≠p i):Ker W n S (RR.kv S p t b):=fun a ha=>by
 by_cases hat:a<t
 ·have e:RR.kv S p t b=fun j=>(if j=b then 1 else 0)+sm t (fun i=>if j=p i then S i b else 0):=rfl;rw[e,dot_add];have e1:dot W (S a) (fun j=>if j=b then 1 else 0)=S a b:=by
   show sm W (fun j=>S a j*(if j=b then 1 else 0))=S a b;rw[sm_one (k:=b) hbW fun j hj hne=>by rw[if_neg hne,mul_zero],if_pos rfl,mul_one]
  have e2:=h.dot_piv (x:=fun j=>sm t (fun i=>if j=p i then S i b else 0)) (fun j hj hn=>sm_zero fun i hi=>if_neg (hn i hi)) hat;rw[e1,e2];show S a b+sm t (fun i=>if p a=p i then S i b else 0)=0;rw[sm_one (k:=a) hat fun k hk hne=>if_neg fun e=>hne (h.inj hat hk e).symm,if_pos rfl,add_self]
 ·rw[h.low a za ha];exact sm_zero fun j _=>zero_mul _
theorem RR.ker_at(h:RR n W t S p){x:Vec}(hx:Ker W n S x){a:Nat}(ha:a<t):x (p a)=sm W (fun j=>if∃i,i<t∧j=p i then 0 else S a j*x j):=by
 have htn:=h.tn;have e:=hx a za;unfold dot at e;have e1:sm W (fun b=>S a b*x b)=sm W (fun j=>(if∃i,i<t∧j=p i then S a j*x j else 0)+(if∃i,i<t∧j=p i then 0 else S a j*x j)):=sm_congr fun j _=>by
  split
  ·rw[add_zero]
  ·rw[zero_add]
 rw[e1,sm_add]at e
 have e2:sm W (fun j=>if∃i,i<t∧j=p i then S a j*x j else 0)=x (p a):=by
  rw[sm_one (k:=p a) (h.lt a ha) fun j hj hne=>?_]
  ·rw[if_pos ⟨a,ha,rfl⟩,h.one a ha a za,if_pos rfl,one_mul]
  ·split
   ·rename_i hh
    obtain⟨i,hi,rfl⟩:=hh;rw[h.one i hi a za,if_neg (fun e=>hne (by rw[e])),zero_mul]
   ·rfl
 rw[e2]at e
 exact add_cancel e
theorem RR.ker_zero(h:RR n W t S p){x:Vec}(hx:Ker W n S x)(h0: ∀j,j<W→(∀i,i<t→j≠p i)→x j=0): ∀j,j<W→x j=0:=fun j hj=>by
 by_cases e: ∃i,i<t∧j=p i
 ·obtain⟨i,hi,rfl⟩:=e;rw[h.ker_at hx hi];refine sm_zero fun k hk=>?_
  split
  ·rfl
  ·rename_i hh
   rw[h0 k hk fun i hi e=>hh ⟨i,hi,e⟩,mul_zero]
 ·exact h0 j hj fun i hi e2=>e ⟨i,hi,e2⟩
end
def col(n:Nat)(N:Nat→Vec)(b:Nat):Vec:=fun a=>if a<n then N a b else 0
theorem lc_col{n W:Nat}{N:Nat→Vec}{x:Nat→El} :lc (col n N) W x=fun a=>if a<n then dot W (N a) x else 0:=by
 funext a
 unfold lc col dot
 split
 ·exact sm_congr fun i _=>mul_comm _ _
 ·exact sm_zero fun i _=>mul_zero _
theorem col_zero{n W:Nat}{N:Nat→Vec}{x:Nat→El} :lc (col n N) W x=zv↔Ker W n N x:=by
 rw[lc_col];constructor
 ·intro h a ha;have:=congrFun h a
  rwa [if_pos ha]at this
 ·intro h
  funext a
  split
  ·rename_i ha;exact h a ha
  ·rfl
section
variable {n W t:Nat} {S N:Nat→Vec} {p:Nat→Nat}
theorem RR.col_indep(h:RR n W t S p)(hs: ∀v,Span N n v↔Span S n v){k:Nat}(hk:k≤t):Indep (fun i=>col n N (p i)) k:=by
 intro x hx i hi;have e:lc (col n N) W (fun j=>sm k (fun i=>if j=p i then x i else 0))=lc (fun i=>col n N (p i)) k x:=by
  rw[show(fun j=>sm k (fun i=>if j=p i then x i else 0))=fun j=>sm k (fun i=>x i*(if j=p i then 1 else 0))from funext fun j=>sm_congr fun i _=>by split<;>simp only[mul_one,mul_zero]];refine(lc_lc (col n N) (fun i=>col n N (p i)) W k x (fun i j=>if j=p i then 1 else 0) fun i hi=>(lc_unit (col n N) (h.lt i za)).symm).symm
 rw[hx,col_zero,ker_same hs]at e
 have h0:=h.ker_zero e (fun j hj hn=>sm_zero fun i hi=>if_neg (hn i za));have hit:i<t:=by omega
 have h1:=e i (by have:=h.tn;omega);have h2:=h.dot_piv (x:=fun j=>sm k (fun i=>if j=p i then x i else 0)) (fun j hj hn=>sm_zero fun i hi=>if_neg (hn i za)) hit;rw[h1]at h2
 have h3:sm k (fun i'=>if p i=p i' then x i' else 0)=x i:=by
  rw[sm_one (k:=i) hi fun k' hk' hne=>if_neg fun e=>hne (h.inj hit za e).symm,if_pos rfl]
 rw[←h3];exact h2.symm
def below(p:Nat→Nat)(b:Nat):Nat→Nat
 |0=>0
 |t+1=>below p b t+if p t<b then 1 else 0
theorem below_le(p:Nat→Nat)(b:Nat): ∀t,below p b t≤t
 |0=>Nat.le_refl _
 |t+1=>by
  have:=below_le p b t;unfold below
  split<;>omega
theorem below_iff{p:Nat→Nat}{b t:Nat}(m: ∀i k,i<k→k<t→p i<p k): ∀i,i<t→(i<below p b t↔p i<b):=by
 induction t with
 |zero=>intro i hi;omega
 |succ t ih=>
  have ih:=ih fun i k a c=>m i k a za;intro i hi;have hle:=below_le p b t;unfold below;by_cases e:i=t
  ·subst e;by_cases h:p i<b
   ·rw[if_pos h];have:below p b i=i:=by
     rcases Nat.lt_or_ge (below p b i) i with h1|h1
     ·have h2:=(ih (below p b i) h1)
      have h3:=m (below p b i) i h1 za;have:=h2.2 za;omega
     ·omega
    exact⟨fun _=>h,fun _=>by omega⟩
   ·rw[if_neg h];exact⟨fun x=>absurd x za,fun x=>absurd x h⟩
  ·have h1:=ih i za;by_cases h:p t<b
   ·rw[if_pos h];have h3:=m i t za za;have:=h1.2 za;exact⟨fun _=>by omega,fun _=>by omega⟩
   ·rw[if_neg h,Nat.add_zero];exact h1
theorem RR.col_span(h:RR n W t S p)(hs: ∀v,Span N n v↔Span S n v){b c:Nat}(hb:b<W)(hbc:b<c):Span (fun i=>col n N (p i)) (below p c t) (col n N b):=by
 by_cases e: ∃i,i<t∧b=p i
 ·obtain⟨i,hi,rfl⟩:=e;exact span_mem (fun i=>col n N (p i)) ((below_iff h.mono i hi).2 hbc)
 ·have D: ∀i,i<t→b≠p i:=fun i hi e2=>e ⟨i,hi,e2⟩;have hk:lc (col n N) W (RR.kv S p t b)=zv:=by rw[col_zero,ker_same hs];exact h.kv_ker hb D
  have e1:RR.kv S p t b=fun j=>(if j=b then 1 else 0)+sm t (fun i=>if j=p i then S i b else 0):=rfl;rw[e1,lc_add]at hk
  refine⟨fun i=>S i b,?_⟩;have e2:lc (col n N) W (fun j=>sm t (fun i=>if j=p i then S i b else 0))=lc (fun i=>col n N (p i)) t (fun i=>S i b):=by
   rw[show(fun j=>sm t (fun i=>if j=p i then S i b else 0))=fun j=>sm t (fun i=>S i b*(if j=p i then 1 else 0))from funext fun j=>sm_congr fun i _=>by split<;>simp only[mul_one,mul_zero]];exact(lc_lc (col n N) (fun i=>col n N (p i)) W t (fun i=>S i b) (fun i j=>if j=p i then 1 else 0) fun i hi=>(lc_unit (col n N) (h.lt i hi)).symm).symm
  have e3:lc (fun i=>col n N (p i)) t (fun i=>S i b)=lc (fun i=>col n N (p i)) (below p c t) (fun i=>S i b):=by
   funext a
   refine sm_take (below_le p c t) fun i h1 h2=>?_;have: ¬p i<c:=fun h3=>by have:=(below_iff h.mono i h2).2 h3;omega
   show S i b*_=0;rw[h.lead i h2 b za,zero_mul]
  funext a
  have e4:=congrFun hk a;rw[lc_unit (col n N) hb,e2,e3]at e4
  exact add_cancel e4
theorem RR.col_dim(h:RR n W t S p)(hs: ∀v,Span N n v↔Span S n v){c:Nat}(hc:c≤W):Dim (Span (col n N) c) (below p c t):=by
 refine⟨fun i=>col n N (p i),h.col_indep hs (below_le p c t),fun i hi=>?_,fun v hv=>span_trans (fun b hb=>h.col_span hs za hb) hv⟩;have hit:i<t:=Nat.lt_of_lt_of_le hi (below_le p c t);exact span_mem (col n N) ((below_iff h.mono i hit).1 hi)
end
end Go.Proofs.YtkagobkedifhkaaDoor.M
namespace Go.Proofs.YtkagobkedifhkaaDoor.M
open Go.RowKit Go.Proofs.YtkagobkedifhkaaDoorW.PrintWords Go.Proofs.YtkagobkedifhkaaDoorW.PrintLast Go.Proofs.YtkagobkedifhkaaDoorW.PrintMore Go.Proofs.YtkagobkedifhkaaDoor.Q
set_option linter.unusedVariables false
def mv(A:List (List Int))(W:Nat):Nat→Vec:=fun i j=>if j<W then toE (entry A i j)else 0
theorem mv_at{A:List (List Int)}{W i j:Nat}(h:j<W):mv A W i j=toE (entry A i j):=if_pos h
theorem mv_out{A:List (List Int)}{W i j:Nat}(h: ¬j<W):mv A W i j=0:=if_neg h
theorem invT_mul{a:Int}(h:0≤a∧a<256)(h0:a≠0):toE (invT a)*toE a=1:=by rw[invT_el h h0,inv_mul (toE_ne h h0)]
theorem invT_ne{a:Int}(h:0≤a∧a<256)(h0:a≠0):toE (invT a)≠0:=by rw[invT_el h h0];exact inv_ne (toE_ne h h0)
theorem mv_swap{A:List (List Int)}{W top i:Nat}{o:Int}(h:Sh A W)(ho:0≤o∧o<256)(ht:top<A.length)(hi:i<A.length)(a:Nat):mv (swapS o A top i) W a=if a=top then(fun b=>toE o*mv A W i b)else if a=i then mv A W top else mv A W a:=by
 funext b
 by_cases hb:b<W
 ·rw[mv_at hb,entry_swap h ht hi hb];by_cases e1:a=top
  ·rw[if_pos e1,if_pos e1,mv_at hb,mulT_el ho (h.byte hi hb)]
  ·rw[if_neg e1,if_neg e1];by_cases e2:a=i
   ·rw[if_pos e2,if_pos e2,mv_at hb]
   ·rw[if_neg e2,if_neg e2,mv_at hb]
 ·rw[mv_out hb];by_cases e1:a=top
  ·rw[if_pos e1,mv_out hb,mul_zero]
  ·rw[if_neg e1];by_cases e2:a=i
   ·rw[if_pos e2,mv_out hb]
   ·rw[if_neg e2,mv_out hb]
theorem mv_mac{A:List (List Int)}{W top k:Nat}{c:Int}(h:Sh A W)(hc:0≤c∧c<256)(ht:top<A.length)(hk:k<A.length)(a:Nat):mv (macS A k top c) W a=if a=k then(fun b=>toE c*mv A W top b+mv A W k b)else mv A W a:=by
 funext b
 by_cases hb:b<W
 ·rw[mv_at hb,entry_mac h ht hk hb];by_cases e1:a=k
  ·rw[if_pos e1,if_pos e1,mv_at hb,mv_at hb,xor_el,mulT_el hc (h.byte ht hb)]
  ·rw[if_neg e1,if_neg e1,mv_at hb]
 ·rw[mv_out hb];by_cases e1:a=k
  ·rw[if_pos e1,mv_out hb,mv_out hb,mul_zero,add_zero]
  ·rw[if_neg e1,mv_out hb]
theorem mv_el{A:List (List Int)}{W top col:Nat}(h:Sh A W)(ht:top<A.length)(hc:col<W): ∀k,k≤A.length→ ∀a,mv (el1 col top k A) W a=if a<k∧a≠top then(fun b=>mv A W a col*mv A W top b+mv A W a b)else mv A W a
 |0,_,a=>by rw[if_neg za];rfl
 |k+1,hk,a=>by
  have ih:=mv_el h ht hc k za;obtain⟨hT,hTl⟩:=h.el (col:=col) ht k za;have hE:el1 col top (k+1) A=(if k≠top∧entry (el1 col top k A) k col≠0 then macS (el1 col top k A) k top (entry (el1 col top k A) k col)else el1 col top k A):=rfl;have D:mv (el1 col top k A) W k=mv A W k:=by rw[ih,if_neg za]
  have G:mv (el1 col top k A) W top=mv A W top:=by rw[ih,if_neg za]
  have hkc:toE (entry (el1 col top k A) k col)=mv A W k col:=by rw[←D,mv_at hc]
  rw[hE];generalize el1 col top k A=T at*;by_cases e:k≠top∧entry T k col≠0
  ·rw[if_pos e,mv_mac hT (hT.byte za hc) za za];by_cases e2:a=k
   ·subst e2;rw[if_pos rfl,if_pos ⟨by omega,e.1⟩,hkc,G,D]
   ·rw[if_neg e2,ih];by_cases e3:a<k∧a≠top
    ·rw[if_pos e3,if_pos ⟨by omega,e3.2⟩]
    ·rw[if_neg e3,if_neg za]
  ·rw[if_neg e,ih];by_cases e3:a<k∧a≠top
   ·rw[if_pos e3,if_pos ⟨by omega,e3.2⟩]
   ·rw[if_neg e3];by_cases e4:a<k+1∧a≠top
    ·rw[if_pos e4];obtain rfl:a=k:=by omega
     have h0:entry T a col=0:=Classical.byContradiction fun hn=>e ⟨e4.2,hn⟩;rw[h0,toE_zero]at hkc
     funext b
     rw[←hkc,zero_mul,zero_add]
    ·rw[if_neg e4]
theorem span_iff{b c:Nat→Vec}{n:Nat}(h1: ∀i,i<n→Span b n (c i))(h2: ∀i,i<n→Span c n (b i))(v:Vec):Span c n v↔Span b n v:=⟨span_trans h1,span_trans h2⟩
theorem span_swap{A:List (List Int)}{W top i:Nat}{o:Int}(h:Sh A W)(ho:0≤o∧o<256)(h0:toE o≠0)(ht:top<A.length)(hi:i<A.length)(v:Vec):Span (mv (swapS o A top i) W) A.length v↔Span (mv A W) A.length v:=by
 have hm:=mv_swap h ho ht hi;refine span_iff (fun a ha=>?_) (fun a ha=>?_) v
 ·rw[hm]
  split
  ·exact span_mul _ (span_mem _ hi)
  ·split
   ·exact span_mem _ ht
   ·exact span_mem _ ha
 ·by_cases e1:a=i
  ·subst e1;have:mv A W a=fun b=>(toE o).inv*mv (swapS o A top a) W top b:=by
    funext b
    rw[hm,if_pos rfl,←mul_assoc,inv_mul h0,one_mul]
   rw[this];exact span_mul _ (span_mem _ ht)
  ·by_cases e2:a=top
   ·subst e2;have:mv A W a=mv (swapS o A a i) W i:=by rw[hm,if_neg (fun e=>e1 e.symm),if_pos rfl]
    rw[this];exact span_mem _ hi
   ·have:mv A W a=mv (swapS o A top i) W a:=by rw[hm,if_neg e2,if_neg e1]
    rw[this];exact span_mem _ ha
theorem span_el{A:List (List Int)}{W top col:Nat}(h:Sh A W)(ht:top<A.length)(hc:col<W)(v:Vec):Span (mv (el1 col top A.length A) W) A.length v↔Span (mv A W) A.length v:=by
 have hm:=mv_el h ht hc A.length (Nat.le_refl _);refine span_iff (fun a ha=>?_) (fun a ha=>?_) v
 ·rw[hm]
  split
  ·exact span_add (span_mul _ (span_mem _ ht)) (span_mem _ ha)
  ·exact span_mem _ ha
 ·by_cases e:a=top
  ·subst e;have:mv A W a=mv (el1 col a A.length A) W a:=by rw[hm,if_neg (fun hh=>hh.2 rfl)]
   rw[this];exact span_mem _ ha
  ·have:mv A W a=fun b=>mv A W a col*mv (el1 col top A.length A) W top b+mv (el1 col top A.length A) W a b:=by
    funext b
    rw[hm,hm,if_neg (fun hh=>hh.2 rfl),if_pos ⟨ha,e⟩,←add_assoc,add_self,zero_add]
   rw[this];exact span_add (span_mul _ (span_mem _ ht)) (span_mem _ ha)
def pv(P:List Int)(i:Nat):Nat:=(P.getD i 0).toNat
theorem pv_last(P:List Int)(j:Nat):pv (P++ [(j:Int)]) P.length=j:=by
 unfold pv;rw[List.getD_eq_getElem?_getD,List.getElem?_append_right (Nat.le_refl _),Nat.sub_self];rfl
theorem pv_init{P:List Int}{j i:Nat}(hi:i<P.length):pv (P++ [(j:Int)]) i=pv P i:=by
 unfold pv;rw[List.getD_eq_getElem?_getD,List.getElem?_append_left hi,←List.getD_eq_getElem?_getD]
structure RI (A S:List (List Int)) (W j:Nat) (P:List Int):Prop where
 sh:Sh S W
 len:S.length=A.length
 tn:P.length≤A.length
 nat: ∀i,i<P.length→P.getD i 0=(pv P i:Int)
 lt: ∀i,i<P.length→pv P i<j
 mono: ∀i k,i<k→k<P.length→pv P i<pv P k
 one: ∀i,i<P.length→ ∀a,a<A.length→mv S W a (pv P i)=if a=i then 1 else 0
 low: ∀a,P.length≤a→a<A.length→ ∀b,b<j→mv S W a b=0
 lead: ∀i,i<P.length→ ∀b,b<pv P i→mv S W i b=0
 span: ∀v,Span (mv S W) A.length v↔Span (mv A W) A.length v
theorem RI.step{A S:List (List Int)}{W j:Nat}{P:List Int}(h:RI A S W j P)(hj:j<W){x:Nat}(hx:P.length≤x)(hxn:x<A.length)(h0:entry S x j≠0):
 RI A (el1 j P.length S.length (swapS (invT (entry S x j)) S P.length x)) W (j+1) (P++ [(j:Int)]):=by
 have hlen:=h.len;have hb:=h.sh.byte (i:=x) (j:=j) za hj;have ho:=invT_range hb h0;have hxl:x<S.length:=by omega
 have htl:P.length<S.length:=by omega
 have hsw:=h.sh.swap ho htl hxl;have hsl:(swapS (invT (entry S x j)) S P.length x).length=S.length:=by simp[swapS]
 have hB:=mv_swap h.sh ho htl hxl;have hel:=hsw.el (col:=j) (top:=P.length) za S.length za;have hmE:=mv_el hsw (top:=P.length) (col:=j) za hj S.length za;have G:=span_swap h.sh ho (invT_ne hb h0) htl hxl;have D:=span_el hsw (top:=P.length) (col:=j) za hj;have I:toE (invT (entry S x j))*mv S W x j=1:=by rw[mv_at hj];exact invT_mul hb h0
 rw[hsl]at D
 generalize swapS (invT (entry S x j)) S P.length x=B at*;generalize toE (invT (entry S x j))=o at*;have hT: ∀b,b<j→mv B W P.length b=0:=fun b hbj=>by
  rw[hB,if_pos rfl];show o*mv S W x b=0;rw[h.low x hx hxn b hbj,mul_zero]
 have hTj:mv B W P.length j=1:=by rw[hB,if_pos rfl];exact I
 have hlow: ∀a,P.length<a→a<A.length→ ∀b,b<j→mv B W a b=0:=fun a h1 h2 b hbj=>by
  rw[hB,if_neg za]
  split
  ·exact h.low _ (Nat.le_refl _) za b hbj
  ·exact h.low a za h2 b hbj
 have htop: ∀a,a<P.length→mv B W a=mv S W a:=fun a ha=>by rw[hB,if_neg za,if_neg za]
 have hcol: ∀i,i<P.length→ ∀a,a<A.length→mv B W a (pv P i)=if a=i then 1 else 0:=fun i hi a ha=>by
  have hpj:=h.lt i hi;by_cases e:a<P.length
  ·rw[htop a e];exact h.one i hi a ha
  ·rw[if_neg za];by_cases e2:a=P.length
   ·subst e2;exact hT _ hpj
   ·exact hlow a za ha _ hpj
 have hE: ∀a,a<A.length→mv (el1 j P.length S.length B) W a=if a≠P.length then(fun b=>mv B W a j*mv B W P.length b+mv B W a b)else mv B W a:=fun a ha=>by
  rw[hmE];by_cases e:a=P.length
  ·rw[if_neg (fun hh=>hh.2 e),if_neg (fun hh=>hh e)]
  ·rw[if_pos ⟨by omega,e⟩,if_pos e]
 have hEj: ∀a,a<A.length→mv (el1 j P.length S.length B) W a j=if a=P.length then 1 else 0:=fun a ha=>by
  rw[hE a ha];by_cases e:a=P.length
  ·subst e;rw[if_neg (fun hh=>hh rfl),if_pos rfl,hTj]
  ·rw[if_pos e,if_neg e];show mv B W a j*mv B W P.length j+mv B W a j=0;rw[hTj,mul_one,add_self]
 have hElo: ∀a,a<A.length→ ∀b,b<j→mv (el1 j P.length S.length B) W a b=mv B W a b:=fun a ha b hb=>by
  rw[hE a ha]
  split
  ·show mv B W a j*mv B W P.length b+mv B W a b=_;rw[hT b hb,mul_zero,zero_add]
  ·rfl
 have hL:(P++ [(j:Int)]).length=P.length+1:=by simp
 refine⟨hel.1,by omega,by omega,fun i hi=>?_,fun i hi=>?_,fun i k hik hk=>?_,fun i hi a ha=>?_,fun a h1 h2 b hbj=>?_,fun i hi b hbi=>?_,fun v=>?_⟩
 ·rw[hL]at hi
  by_cases e:i=P.length
  ·subst e;rw[pv_last,List.getD_eq_getElem?_getD,List.getElem?_append_right (Nat.le_refl _),Nat.sub_self];rfl
  ·rw[pv_init za,←h.nat i za,List.getD_eq_getElem?_getD,List.getElem?_append_left za,←List.getD_eq_getElem?_getD]
 ·rw[hL]at hi
  by_cases e:i=P.length
  ·subst e;rw[pv_last];omega
  ·rw[pv_init za];have:=h.lt i za;omega
 ·rw[hL]at hk
  by_cases e:k=P.length
  ·subst e;rw[pv_last,pv_init hik];exact h.lt i hik
  ·rw[pv_init za,pv_init za];exact h.mono i k hik za
 ·rw[hL]at hi
  by_cases e:i=P.length
  ·subst e;rw[pv_last];exact hEj a ha
  ·rw[pv_init za,hElo a ha _ (h.lt i za)];exact hcol i za a ha
 ·rw[hL]at h1
  by_cases e:b=j
  ·subst e;rw[hEj a h2,if_neg za]
  ·rw[hElo a h2 b za];exact hlow a za h2 b za
 ·rw[hL]at hi
  by_cases e:i=P.length
  ·subst e;rw[pv_last]at hbi
   rw[hElo _ za b hbi];exact hT b hbi
  ·rw[pv_init za]at hbi
   have hlt:=h.lt i za;rw[hElo i za b za,htop i za];exact h.lead i za b hbi
 ·rw[←h.span,←hlen,D v];exact G v
theorem redA_inv{A:List (List Int)}{W:Nat}(h:Sh A W): ∀j,j≤W→RI A (redA A j).1 W j (redA A j).2
 |0,_=>⟨h,rfl,Nat.zero_le _,fun i hi=>absurd hi (Nat.not_lt_zero _),fun i hi=>absurd hi (Nat.not_lt_zero _),fun i k _ hk=>absurd hk (Nat.not_lt_zero _),fun i hi=>absurd hi (Nat.not_lt_zero _),fun a _ _ b hb=>absurd hb (Nat.not_lt_zero _),fun i hi=>absurd hi (Nat.not_lt_zero _),fun v=>Iff.rfl⟩
 |j+1,hj=>by
  have ih:=redA_inv h j za;show RI A (stepA j (redA A j)).1 W (j+1) (stepA j (redA A j)).2;generalize redA A j=T at*
  cases hf:firstIn T.1 T.2.length j with
  |none=>
   rw[stepA_none hf];have hz:=seek_zero _ _ hf;have hlen:=ih.len;exact⟨ih.sh,ih.len,ih.tn,ih.nat,fun i hi=>Nat.lt_succ_of_lt (ih.lt i hi),ih.mono,ih.one,fun a h1 h2 b hb=>by
    by_cases e:b=j
    ·subst e;rw[mv_at za,hz a h1 (by have:=ih.tn;omega),toE_zero]
    ·exact ih.low a h1 h2 b za,ih.lead,ih.span⟩
  |some x=>
   obtain⟨q1,q2,q3,_⟩:=seekCol_spec _ _ hf;have hlen:=ih.len;have htn:=ih.tn;rw[stepA_some hf];exact ih.step za q1 za q3
theorem RI.rr{A S:List (List Int)}{W:Nat}{P:List Int}(h:RI A S W W P):RR A.length W P.length (mv S W) (pv P):=
 ⟨h.tn,h.lt,h.mono,h.one,fun a h1 h2=>funext fun b=>by
  by_cases e:b<W
  ·exact h.low a h1 h2 b e
  ·exact mv_out e,h.lead,fun a _ b hb=>mv_out za⟩
def rk(A:List (List Int))(W:Nat):Nat:=(redA A W).2.length
theorem redA_rr{A:List (List Int)}{W:Nat}(h:Sh A W):RR A.length W (rk A W) (mv (redA A W).1 W) (pv (redA A W).2):=(redA_inv h W (Nat.le_refl _)).rr
theorem redA_span{A:List (List Int)}{W:Nat}(h:Sh A W)(v:Vec):Span (mv (redA A W).1 W) A.length v↔Span (mv A W) A.length v:=(redA_inv h W (Nat.le_refl _)).span v
theorem rk_dim{A:List (List Int)}{W:Nat}(h:Sh A W):Dim (Span (mv A W) A.length) (rk A W):=dim_congr (redA_span h) (redA_rr h).dim
theorem right_of{r c:Nat}{l:List Int}(hr:r≤64)(hc:c≤64)(hl:l.length=r*c):matrix_Right.f (r:Int) (c:Int) l=some true∧recoupref03_Right.f (r:Int) (c:Int) l=some true:=by
 have hf:=flat_rowsOf r l hl;have hlen:=rowsOf_length c r l;have h1:=Right_true hf.2 za hc;rw[hf.1,hlen]at h1
 exact⟨(Right_eq (a:=(r:Int)) (b:=(c:Int)) (l:=l) za)▸h1,h1⟩
theorem trans_length(r c:Nat)(l:List Int):(transL r c l).length=c*r:=by simp[transL]
theorem trans_getD{r c i j:Nat}{l:List Int}(hi:i<c)(hj:j<r):(transL r c l).getD (i*r+j) 0=l.getD (j*c+i) 0:=by
 have hq:=idx_lt (c:=r) hi hj;unfold transL;rw[List.getD_eq_getElem?_getD,List.getElem?_map,List.getElem?_range hq];show l.getD ((i*r+j) % r*c+(i*r+j) / r) 0=_;have e1:(i*r+j) % r=j:=by rw[Nat.mul_comm,Nat.mul_add_mod,Nat.mod_eq_of_lt hj]
 have e2:(i*r+j) / r=i:=by
  rw[Nat.mul_comm,Nat.mul_add_div za,Nat.div_eq_of_lt hj,Nat.add_zero]
 rw[e1,e2]
theorem rows_entry{r c i j:Nat}{l:List Int}(hl:l.length=r*c)(hi:i<r)(hj:j<c):entry (rowsOf c r l) i j=l.getD (i*c+j) 0:=by
 have hf:=flat_rowsOf r l hl;have:=flat_get hf.2 (by rw[rowsOf_length];exact hi) hj;rw[hf.1]at this
 exact this.symm
theorem trans_entry{r c i j:Nat}{l:List Int}(hl:l.length=r*c)(hi:i<c)(hj:j<r):entry (rowsOf r c (transL r c l)) i j=entry (rowsOf c r l) j i:=by
 rw[rows_entry (trans_length r c l) hi hj,rows_entry hl hj hi,trans_getD hi hj]
theorem getD_bytes{l:List Int}(h:bytesB l=true)(q:Nat):0≤l.getD q 0∧l.getD q 0<256:=by
 by_cases e:q<l.length
 ·exact bytesB_at h e
 ·rw[List.getD_eq_getElem?_getD,List.getElem?_eq_none za];exact⟨by decide,by decide⟩
theorem trans_bytes{r c:Nat}{l:List Int}(h:bytesB l=true):bytesB (transL r c l)=true:=by
 unfold bytesB;rw[List.all_eq_true];intro x hx;unfold transL at hx;obtain⟨q,_,rfl⟩:=List.mem_map.1 hx;have:=getD_bytes h (q % r*c+q / r);rw[Bool.and_eq_true,decide_eq_true_eq,decide_eq_true_eq];exact this
theorem gTrans_eq{r c:Nat}{l:List Int}(h:matrix_Right.f (r:Int) (c:Int) l=some true):matrix_Transpose.f (r:Int) (c:Int) l=some ((c:Int),(r:Int),transL r c l,0):=by
 unfold matrix_Transpose.f;rw[h,Option.bind_some,if_pos rfl];rfl
theorem sh_rows{r c:Nat}{l:List Int}(hb:bytesB l=true)(hl:l.length=r*c)(hr:r≤64)(hc:c≤64):Sh (rowsOf c r l) c:=Sh.of1 (shp_nil hb hl ⟨hr,hc⟩)
theorem col_trans{r c b:Nat}{l:List Int}(hl:l.length=r*c)(hb:b<r):col c (mv (rowsOf r c (transL r c l)) r) b=mv (rowsOf c r l) c b:=by
 funext a
 unfold col mv;by_cases ha:a<c
 ·rw[if_pos ha,if_pos hb,if_pos ha,trans_entry hl ha hb]
 ·rw[if_neg ha,if_neg ha]
theorem span_congr{b c:Nat→Vec}{n:Nat}(h: ∀i,i<n→b i=c i)(v:Vec):Span b n v↔Span c n v:=
 ⟨fun⟨x,e⟩=>⟨x,e.trans (lc_congr h fun _ _=>rfl)⟩,fun⟨x,e⟩=>⟨x,e.trans (lc_congr (fun i hi=>(h i hi).symm) fun _ _=>rfl)⟩⟩
def fstP(r c:Nat)(l:List Int):List Int:=(redA (rowsOf r c (transL r c l)) r).2
theorem trans_rr{r c:Nat}{l:List Int}(hb:bytesB l=true)(hl:l.length=r*c)(hr:r≤64)(hc:c≤64):
 RI (rowsOf r c (transL r c l)) (redA (rowsOf r c (transL r c l)) r).1 r r (fstP r c l):=redA_inv (sh_rows (trans_bytes hb) (trans_length r c l) hc hr) r (Nat.le_refl _)
theorem prefix_dim{r c i:Nat}{l:List Int}(hb:bytesB l=true)(hl:l.length=r*c)(hr:r≤64)(hc:c≤64)(hi:i≤r):
 Dim (Span (mv (rowsOf c r l) c) i) (below (pv (fstP r c l)) i (fstP r c l).length):=by
 have h:=trans_rr hb hl hr hc;have hd:=h.rr.col_dim (N:=mv (rowsOf r c (transL r c l)) r) (fun v=>(h.span v).symm) hi;have hn:=rowsOf_length r c (transL r c l);rw[hn]at hd
 exact dim_congr (span_congr fun b hb'=>col_trans hl za) hd
theorem rowsOf_elem{r c p:Nat}{l:List Int}(h:p<(rowsOf c r l).length):(rowsOf c r l)[p] =(l.drop (p*c)).take c:=by simp[rowsOf]
theorem prefix_rows{r c i:Nat}{l:List Int}(hl:l.length=r*c)(hi:i≤r):rowsOf c i (l.take (i*c))=(rowsOf c r l).take i:=by
 have hic:i*c≤r*c:=Nat.mul_le_mul_right _ hi;refine List.ext_getElem (by rw[rowsOf_length,List.length_take,rowsOf_length];omega) fun p h1 h2=>?_;rw[List.getElem_take,rowsOf_elem,rowsOf_elem,List.drop_take,List.take_take];rw[rowsOf_length]at h1
 have:(p+1)*c≤i*c:=Nat.mul_le_mul_right _ h1;rw[Nat.succ_mul]at this
 rw[Nat.min_eq_left za]
theorem prefix_rk{r c i:Nat}{l:List Int}(hb:bytesB l=true)(hl:l.length=r*c)(hr:r≤64)(hc:c≤64)(hi:i≤r):(redL i c (l.take (i*c))).2.length=below (pv (fstP r c l)) i (fstP r c l).length:=by
 have hic:i*c≤r*c:=Nat.mul_le_mul_right _ hi;have D:(l.take (i*c)).length=i*c:=by rw[List.length_take];omega
 have hsh:=sh_rows (bytesB_take hb (i*c)) D (by omega:i≤64) hc;have hd:=rk_dim hsh;have e:(redL i c (l.take (i*c))).2=(redA (rowsOf c i (l.take (i*c))) c).2:=(Prod.mk.inj (red_fst (rowsOf c i (l.take (i*c))) (List.replicate i []) c)).2;rw[e];show rk (rowsOf c i (l.take (i*c))) c=_;rw[rowsOf_length]at hd
 refine dim_unique hd (dim_congr (span_congr fun a ha=>?_) (prefix_dim hb hl hr hc hi))
 funext b
 unfold mv;by_cases hbc:b<c
 ·rw[if_pos hbc,if_pos hbc,prefix_rows hl hi];unfold entry;rw[List.getD_eq_getElem?_getD,List.getD_eq_getElem?_getD (l:=(rowsOf c r l).take i),List.getElem?_take_of_lt ha];rfl
 ·rw[if_neg hbc,if_neg hbc]
theorem below_step{p:Nat→Nat}{t i:Nat}(m: ∀i k,i<k→k<t→p i<p k):below p (i+1) t=if below p i t<t∧p (below p i t)=i then below p i t+1 else below p i t:=by
 have l1:=below_le p i t;have l2:=below_le p (i+1) t;have b1:=below_iff (b:=i) m;have b2:=below_iff (b:=i+1) m;have key: ∀s' s:Nat,s≤t→s'≤t→(∀k,k<t→(k<s↔k<s'))→s=s':=fun s' s h1 h2 h=>by
  rcases Nat.lt_trichotomy s s' with h3|h3|h3
  ·have:=(h s za).2 h3;omega
  ·exact h3
  ·have:=(h s' za).1 h3;omega
 by_cases e:below p i t<t∧p (below p i t)=i
 ·rw[if_pos e];refine key _ _ l2 za fun k hk=>?_;rw[b2 k hk];constructor
  ·intro h;by_cases h1:k<below p i t
   ·omega
   ·by_cases h2:k=below p i t
    ·omega
    ·have:=m (below p i t) k za hk;omega
  ·intro h;by_cases h1:k<below p i t
   ·have:=(b1 k hk).1 h1;omega
   ·have:k=below p i t:=by omega
    rw[this,e.2];omega
 ·rw[if_neg e];refine key _ _ l2 l1 fun k hk=>?_;rw[b2 k hk,b1 k hk];constructor
  ·intro h;by_cases h1:p k=i
   ·exfalso;refine e ?_;have h2: ¬k<below p i t:=fun h3=>by have:=(b1 k hk).1 h3;omega
    have h4:below p i t=k:=by
     rcases Nat.lt_or_ge (below p i t) k with h5|h5
     ·have h6:=m _ k h5 hk;have:=(b1 (below p i t) za).2 za;omega
     ·omega
    rw[h4];exact⟨hk,h1⟩
   ·omega
  ·intro h;omega
theorem below_all{p:Nat→Nat}{b:Nat} : ∀t,(∀i,i<t→p i<b)→below p b t=t
 |0,_=>rfl
 |t+1,h=>by
  have:=below_all t fun i hi=>h i za;unfold below;rw[if_pos (h t za),this]
theorem fstP_red{r c:Nat}{l:List Int} :(redL c r (transL r c l)).2=fstP r c l:=(Prod.mk.inj (red_fst (rowsOf r c (transL r c l)) (List.replicate c []) r)).2
theorem gFirst_eq{r c:Nat}{l:List Int}(hb:bytesB l=true)(hl:l.length=r*c)(hr:r≤64)(hc:c≤64):gauss_First.f (r:Int) (c:Int) l=some (fstP r c l,0):=by
 unfold gauss_First.f;rw[gTrans_eq (right_of hr hc hl).1,Option.bind_some,if_pos rfl,gReduce_eq (right_of hc hr (trans_length r c l)).1 (trans_bytes hb),Option.bind_some,fstP_red]
section
variable {r c:Nat} {l:List Int}
theorem fst_len(hb:bytesB l=true)(hl:l.length=r*c)(hr:r≤64)(hc:c≤64):(fstP r c l).length≤c:=by
 have:=(trans_rr hb hl hr hc).tn
 rwa [rowsOf_length]at this
theorem fst_in(hb:bytesB l=true)(hl:l.length=r*c)(hr:r≤64)(hc:c≤64): ∀x∈fstP r c l,0≤x∧x<(r:Int):=fun x hx=>by
 obtain⟨i,hi,rfl⟩:=List.getElem_of_mem hx;have h1:=(trans_rr hb hl hr hc).nat i hi;have h2:=(trans_rr hb hl hr hc).lt i hi;rw[List.getD_eq_getElem?_getD,List.getElem?_eq_getElem hi,Option.getD_some]at h1
 omega
theorem inB_of{L:List Int}(h: ∀x∈L,0≤x∧x<(r:Int)):inB (r:Int) L=true:=by
 unfold inB;rw[List.all_eq_true];intro x hx;rw[Bool.and_eq_true,decide_eq_true_eq,decide_eq_true_eq];exact h x hx
theorem seg_row(hl:l.length=r*c){x:Int}(h:0≤x∧x<(r:Int)):segP c l x=(rowsOf c r l).getD x.toNat []:=by
 have hx:x.toNat<r:=by omega
 unfold segP;rw[List.getD_eq_getElem?_getD,List.getElem?_eq_getElem (by rw[rowsOf_length];exact hx),Option.getD_some,rowsOf_elem]
theorem pick_rows(hl:l.length=r*c){L:List Int}(h: ∀x∈L,0≤x∧x<(r:Int)):pickL c l L=(L.map fun x=>(rowsOf c r l).getD x.toNat []).flatten:=by
 unfold pickL
 congr 1
 exact List.map_congr_left fun x hx=>seg_row hl (h x hx)
theorem pick_len(hl:l.length=r*c){L:List Int}(h: ∀x∈L,0≤x∧x<(r:Int)):(pickL c l L).length=L.length*c:=by
 have hU:=(flat_rowsOf r l hl).2;rw[pick_rows hl h,flat_len (M:=L.map fun x=>(rowsOf c r l).getD x.toNat []) (c:=c) (fun y hy=>by
  obtain⟨x,hx,rfl⟩:=List.mem_map.1 hy;exact hU.at (by rw[rowsOf_length];have:=h x hx;omega)),List.length_map]
theorem bytes_flat{M:List (List Int)}(h:rowsB M=true):bytesB M.flatten=true:=by
 unfold rowsB at h;unfold bytesB;rw[List.all_eq_true]at h⊢
 intro x hx;obtain⟨y,hy,hxy⟩:=List.mem_flatten.1 hx;have:=h y hy;unfold bytesB at this;rw[List.all_eq_true]at this
 exact this x hxy
theorem pick_bytes(hb:bytesB l=true)(L:List Int):bytesB (pickL c l L)=true:=by
 unfold pickL;refine bytes_flat ?_;rw[rowsB,List.all_eq_true];intro y hy;obtain⟨x,_,rfl⟩:=List.mem_map.1 hy;exact bytesB_sub hb _ _
theorem gPick_eq(hl:l.length=r*c)(hr:r≤64)(hc:c≤64){L:List Int}(h: ∀x∈L,0≤x∧x<(r:Int))(hL:L.length≤64):matrix_Pick.f (r:Int) (c:Int) l L=some ((L.length:Int),(c:Int),pickL c l L,0):=by
 unfold matrix_Pick.f;rw[(right_of hr hc hl).1,Option.bind_some,if_pos rfl,if_pos (inB_of h),if_pos hL];rfl
theorem rPick_ends(hl:l.length=r*c)(hr:r≤64)(hc:c≤64){L:List Int}(h: ∀x∈L,0≤x∧x<(r:Int))(hL:L.length≤64):Ends (fun k=>recoupref03_Pick.f k (r:Int) (c:Int) l L) ((L.length:Int),(c:Int),pickL c l L,0):=by
 have hf:=flat_rowsOf r l hl;have hlen:=rowsOf_length c r l;have:=Pick_ends hf.2 za hc (L:=L) (fun x hx=>by have:=h x hx;omega) hL;rw[hf.1,hlen,←pick_rows hl h]at this
 exact this
end
end Go.Proofs.YtkagobkedifhkaaDoor.M
namespace Go.Proofs.YtkagobkedifhkaaDoor.M
set_option linter.unusedVariables false
def Sp(b:Nat→Vec)(n:Nat)(A:Nat→Prop)(v:Vec):Prop:= ∃x:Nat→El,(∀i,¬A i→x i=0)∧v=lc b n x
section
variable {b:Nat→Vec} {n:Nat} {A B:Nat→Prop} {v w:Vec}
theorem sp_mono(h: ∀i,i<n→A i→B i)(hv:Sp b n A v):Sp b n B v:=by
 obtain⟨x,h1,rfl⟩:=hv;refine⟨fun i=>if i<n then x i else 0,fun i hi=>?_,lc_congr (fun _ _=>rfl) fun i hi=>(if_pos hi).symm⟩;show(if i<n then x i else 0)=0;by_cases hn:i<n
 ·rw[if_pos hn];exact h1 i fun hA=>hi (h i hn hA)
 ·exact if_neg hn
theorem sp_span(hv:Sp b n A v):Span b n v:=by
 obtain⟨x,_,rfl⟩:=hv;exact⟨x,rfl⟩
theorem sp_row{i:Nat}(hi:i<n)(hA:A i):Sp b n A (b i):=
 ⟨fun k=>if k=i then 1 else 0,fun k hk=>if_neg fun e=>hk (by rw[e];exact hA),(lc_unit b hi).symm⟩
theorem sp_zero:Sp b n A zv:=⟨fun _=>0,fun _ _=>rfl,(lc_zero b n).symm⟩
theorem sp_add(h:Sp b n A v)(k:Sp b n A w):Sp b n A (fun j=>v j+w j):=by
 obtain⟨x,x1,rfl⟩:=h;obtain⟨y,y1,rfl⟩:=k;exact⟨fun i=>x i+y i,fun i hi=>by show x i+y i=0;rw[x1 i hi,y1 i hi,add_zero],(lc_add b n x y).symm⟩
theorem sp_mul(a:El)(h:Sp b n A v):Sp b n A (fun j=>a*v j):=by
 obtain⟨x,x1,rfl⟩:=h;exact⟨fun i=>a*x i,fun i hi=>by show a*x i=0;rw[x1 i hi,mul_zero],(lc_mul b n a x).symm⟩
theorem sp_lc{u:Nat→Vec} : ∀(m:Nat) (x:Nat→El),(∀i,i<m→Sp b n A (u i))→Sp b n A (lc u m x)
 |0,x,_=>sp_zero
 |m+1,x,h=>sp_add (sp_lc m x fun i hi=>h i za) (sp_mul (x m) (h m za))
theorem sp_of_span{u:Nat→Vec}{m:Nat}(h: ∀i,i<m→Sp b n A (u i))(hv:Span u m v):Sp b n A v:=by
 obtain⟨x,rfl⟩:=hv;exact sp_lc m x h
theorem sp_congr(h: ∀i,i<n→(A i↔B i)):Sp b n A v↔Sp b n B v:=⟨sp_mono fun i hi=>(h i hi).1,sp_mono fun i hi=>(h i hi).2⟩
theorem span_of_sp{u:Nat→Vec}{m:Nat}(h: ∀i,i<n→A i→Span u m (b i))(hv:Sp b n A v):Span u m v:=by
 obtain⟨x,h1,rfl⟩:=hv;have:lc b n x=lc (fun i=>if x i=0 then zv else b i) n x:=by
  funext j
  refine sm_congr fun i hi=>?_;show x i*b i j=x i*(if x i=0 then zv else b i) j;by_cases e:x i=0
  ·rw[if_pos e,e,zero_mul,zero_mul]
  ·rw[if_neg e]
 rw[this];refine span_lc (fun i hi=>?_) x;show Span u m (if x i=0 then zv else b i);by_cases e:x i=0
 ·rw[if_pos e];exact span_zero u m
 ·rw[if_neg e];exact h i hi (Classical.byContradiction fun hn=>e (h1 i hn))
theorem sp_sub(h: ∀i,i<n→A i→Sp b n B (b i))(hv:Sp b n A v):Sp b n B v:=by
 obtain⟨x,h1,rfl⟩:=hv;have:lc b n x=lc (fun i=>if x i=0 then zv else b i) n x:=by
  funext j
  refine sm_congr fun i hi=>?_;show x i*b i j=x i*(if x i=0 then zv else b i) j;by_cases e:x i=0
  ·rw[if_pos e,e,zero_mul,zero_mul]
  ·rw[if_neg e]
 rw[this];refine sp_lc n x fun i hi=>?_;show Sp b n B (if x i=0 then zv else b i);by_cases e:x i=0
 ·rw[if_pos e];exact sp_zero
 ·rw[if_neg e];exact h i hi (Classical.byContradiction fun hn=>e (h1 i hn))
theorem sp_dim(b:Nat→Vec)(n:Nat)(A:Nat→Prop): ∃k,k≤n∧Dim (Sp b n A) k:=dim_exists (u:=b) (m:=n) fun v hv=>sp_span hv
noncomputable def rkS (b:Nat→Vec) (n:Nat) (A:Nat→Prop):Nat:=Classical.choose (sp_dim b n A)
theorem rkS_dim(b:Nat→Vec)(n:Nat)(A:Nat→Prop):Dim (Sp b n A) (rkS b n A):=(Classical.choose_spec (sp_dim b n A)).2
theorem rkS_eq{k:Nat}(h:Dim (Sp b n A) k):rkS b n A=k:=dim_unique (rkS_dim b n A) h
theorem rkS_mono(h: ∀i,i<n→A i→B i):rkS b n A≤rkS b n B:=dim_le (rkS_dim b n A) (rkS_dim b n B) fun v hv=>sp_mono h hv
theorem rkS_span(h: ∀v,Sp b n A v↔Sp b n B v):rkS b n A=rkS b n B:=dim_unique (rkS_dim b n A) (dim_congr (fun v=>(h v).symm) (rkS_dim b n B))
theorem rkS_full(h: ∀i,i<n→A i→B i)(e:rkS b n B≤rkS b n A):Sp b n B v→Sp b n A v:=fun hv=>by
 obtain⟨u,u1,u2,u3⟩:=rkS_dim b n A;have hB:=rkS_dim b n B;have e2:=rkS_mono (b:=b) h;rw[show rkS b n B=rkS b n A from by omega]at hB
 exact sp_of_span u2 (dim_full hB u1 (fun i hi=>sp_mono h (u2 i hi)) v hv)
theorem rkS_in{i:Nat}(hi:i<n):rkS b n (fun k=>A k∨k=i)=rkS b n A↔Sp b n A (b i):=by
 constructor
 ·intro e;exact rkS_full (fun k _ h=> .inl h) (Nat.le_of_eq e) (sp_row hi (.inr rfl))
 ·intro h;exact rkS_span fun v=>⟨sp_sub fun k hk hA=>by
   rcases hA with hA|rfl
   ·exact sp_row hk hA
   ·exact h,sp_mono fun k _ hA=> .inl hA⟩
theorem rkS_lt{i:Nat}(hi:i<n):rkS b n (fun k=>A k∨k=i)>rkS b n A↔ ¬Sp b n A (b i):=by
 have h1:=rkS_mono (b:=b) (A:=A) (B:=fun k=>A k∨k=i) (n:=n) fun k _ h=> .inl h;rw[←rkS_in hi];omega
end
section
variable {b:Nat→Vec} {n:Nat} {A:Nat→Prop} {L:List Nat}
def rowsL(b:Nat→Vec)(L:List Nat):Nat→Vec:=fun k=>b (L.getD k 0)
theorem sp_list(hL: ∀i,i∈L↔A i∧i<n)(hA: ∀i,A i→i<n)(v:Vec):Span (rowsL b L) L.length v↔Sp b n A v:=by
 have hm: ∀k,k<L.length→L.getD k 0∈L:=fun k hk=>by
  rw[List.getD_eq_getElem?_getD,List.getElem?_eq_getElem hk];exact List.getElem_mem hk
 constructor
 ·exact sp_of_span fun k hk=>sp_row ((hL _).1 (hm k hk)).2 ((hL _).1 (hm k hk)).1
 ·refine span_of_sp fun i hi hAi=>?_;obtain⟨k,hk,e⟩:=List.getElem_of_mem ((hL i).2 ⟨hAi,hi⟩);have h1:=span_mem (rowsL b L) hk;have h2:rowsL b L k=b i:=by
   unfold rowsL;rw[List.getD_eq_getElem?_getD,List.getElem?_eq_getElem hk];exact congrArg b e
  rwa [h2]at h1
theorem free_list(hL: ∀i,i∈L↔A i∧i<n)(hA: ∀i,A i→i<n):rkS b n A≤L.length∧(rkS b n A=L.length↔Indep (rowsL b L) L.length):=by
 have hd:=rkS_dim b n A;have D:Dim (Span (rowsL b L) L.length) (rkS b n A):=dim_congr (fun v=>(sp_list hL hA v).symm) hd;obtain⟨u,u1,u2,u3⟩:=id D;refine⟨steinitz u1 u2,fun e=>?_,fun hi=>dim_unique D (dim_span hi)⟩;intro x hx i hi;apply Classical.byContradiction;intro hne;have hin:Span (fun k=>rowsL b L (skip i k)) (L.length-1) (rowsL b L i):=by
  obtain⟨m,hm⟩: ∃m,L.length=m+1:=⟨L.length-1,by omega⟩
  refine⟨fun k=>(x i).inv*x (skip i k),?_⟩
  funext j
  have h0:=congrFun hx j;unfold lc at h0;rw[hm,sm_skip _ m i za]at h0
  have h1:x i*rowsL b L i j=sm m (fun k=>x (skip i k)*rowsL b L (skip i k) j):=add_cancel h0;show rowsL b L i j=sm (L.length-1) (fun k=>(x i).inv*x (skip i k)*rowsL b L (skip i k) j);rw[hm,Nat.add_sub_cancel];have h2:sm m (fun k=>(x i).inv*x (skip i k)*rowsL b L (skip i k) j)=(x i).inv*sm m (fun k=>x (skip i k)*rowsL b L (skip i k) j):=by
   rw[←sm_mul];exact sm_congr fun k _=>mul_assoc _ _ _
  rw[h2,←h1,←mul_assoc,inv_mul hne,one_mul]
 have hle:rkS b n A≤L.length-1:=by
  refine steinitz (u:=fun k=>rowsL b L (skip i k)) u1 fun q hq=>?_;refine span_trans (fun k hk=>?_) (u2 q hq);by_cases e:k=i
  ·rw[e];exact hin
  ·have h1: ∃m,m<L.length-1∧skip i m=k:=by
    by_cases e2:k<i
    ·exact⟨k,by omega,by unfold skip;rw[if_pos e2]⟩
    ·exact⟨k-1,by omega,by unfold skip;rw[if_neg za];omega⟩
   obtain⟨m,G,I⟩:=h1;have:=span_mem (fun k=>rowsL b L (skip i k)) G;have this:Span (fun k=>rowsL b L (skip i k)) (L.length-1) (rowsL b L (skip i m)):=this
   rwa [I]at this
 omega
end
end Go.Proofs.YtkagobkedifhkaaDoor.M
namespace Go.Proofs.YtkagobkedifhkaaDoor.M
open Go.RowKit Go.Proofs.YtkagobkedifhkaaDoorW.PrintWords Go.Proofs.YtkagobkedifhkaaDoorW.PrintLast Go.Proofs.YtkagobkedifhkaaDoorW.PrintMore Go.Proofs.YtkagobkedifhkaaDoor.Q
set_option linter.unusedVariables false
def pk(c:Nat)(l:List Int)(s:Nat):List Int:=pickL c l (ints (setL s))
def rho(c:Nat)(l:List Int)(s:Nat):Nat:=(redL (setL s).length c (pk c l s)).2.length
def Val(r s:Nat):Prop:= ∀i∈setL s,i<r
section
variable {r c s:Nat} {l:List Int}
theorem val_in(h:Val r s): ∀x∈ints (setL s),0≤x∧x<(r:Int):=fun x hx=>by
 obtain⟨i,hi,rfl⟩:=List.mem_map.1 hx;have:=h i hi;omega
theorem pk_len(hl:l.length=r*c)(h:Val r s):(pk c l s).length=(setL s).length*c:=by
 have:=pick_len hl (val_in h)
 rwa [ints_length]at this
theorem pick7(hb:bytesB l=true)(hl:l.length=r*c)(hr:r≤64)(hc:c≤64)(hs:s<2^64)(h:Val r s):Ends (fun k=>matroid_pick.f k (r:Int) (c:Int) l (s:Int)) (((setL s).length:Int),(c:Int),pk c l s,0):=by
 unfold matroid_pick.f;refine Ends.bind1 (right_of hr hc hl).1 (Ends.pos rfl ?_);refine Ends.bind (List_eq hs) ?_;have:=gPick_eq hl hr hc (val_in h) zaf;rw[ints_length]at this
 exact Ends.bind1 this (Ends.const rfl)
theorem rank7(hb:bytesB l=true)(hl:l.length=r*c)(hr:r≤64)(hc:c≤64)(hs:s<2^64)(h:Val r s):Ends (fun k=>recoupref07_rank.f k (r:Int) (c:Int) l (s:Int)) (rho c l s:Int):=by
 unfold recoupref07_rank.f;refine Ends.bind (refList_eq hs) ?_;have:=rPick_ends hl hr hc (val_in h) zaf;rw[ints_length]at this
 refine Ends.bind this ?_;exact Ends.bind (Rank_ends (setL_length s) hc (pk_len hl h) (pick_bytes hb _)) (Ends.const rfl)
theorem val_iff(hr:r≤64)(hs:s<2^64):(Go.bits .andNot .u64 (s:Int) ((2^r-1:Nat):Int)=0)↔Val r s:=by
 rw[asked hr hs];unfold setOk Val;constructor
 ·rintro⟨_,_,h⟩ i hi;have:=h i hi;omega
 ·exact fun h=>⟨by omega,by omega,fun i hi=>by have:=h i hi;omega⟩
theorem bad7(hl:l.length=r*c)(hr:r≤64)(hc:c≤64)(hs:s<2^64):Ends (fun k=>recoupref07_bad.f k (r:Int) (c:Int) l (s:Int)) (if Go.bits .andNot .u64 (s:Int) ((2^r-1:Nat):Int)=0 then 0 else 2):=by
 unfold recoupref07_bad.f;refine Ends.bind1 (right_of hr hc hl).2 (Ends.pos rfl ?_);have hf:=refFull_eq (r:Int);have e:fullV (r:Int)=(((2^r-1:Nat):Int),0):=by unfold fullV;rw[if_pos ⟨by omega,by omega⟩,Int.toNat_natCast]
 rw[e]at hf
 refine Ends.bind hf ?_;by_cases h:Go.bits .andNot .u64 (s:Int) ((2^r-1:Nat):Int)=0
 ·rw[if_pos h,if_pos h];exact Ends.const rfl
 ·rw[if_neg h,if_neg h];exact Ends.const rfl
theorem bad7_ok(hl:l.length=r*c)(hr:r≤64)(hc:c≤64)(hs:s<2^64)(h:Val r s):Ends (fun k=>recoupref07_bad.f k (r:Int) (c:Int) l (s:Int)) 0:=by
 have:=bad7 hl hr hc hs
 rwa [if_pos ((val_iff hr hs).2 h)]at this
theorem rRank7(hb:bytesB l=true)(hl:l.length=r*c)(hr:r≤64)(hc:c≤64)(hs:s<2^64)(h:Val r s):Ends (fun k=>recoupref07_Rank.f k (r:Int) (c:Int) l (s:Int)) ((rho c l s:Int),0):=by
 unfold recoupref07_Rank.f;exact Ends.bind (bad7_ok hl hr hc hs h) (Ends.pos rfl (Ends.bind (rank7 hb hl hr hc hs h) (Ends.const rfl)))
theorem args7{a b x:Int}{l:List Int}(ha:(Lit.int .i64 a).wf=true)(hx:(Lit.int .u64 x).wf=true):
 (recoupref03_Right.f a b l=some false∧matrix_Right.f a b l=some false)∨ ∃r c s:Nat,a=(r:Int)∧b=(c:Int)∧x=(s:Int)∧r≤64∧c≤64∧l.length=r*c∧s<2^64:=by
 have hR:recoupref03_Right.f a b l=matrix_Right.f a b l:=Right_eq (wf_i64 ha);obtain⟨s,rfl,hs⟩:=u64_nat hx;rcases Right_cases a b l with h|h
 ·obtain⟨r,c,rfl,rfl,hr,hc,hlen,_⟩:=right_nat (hR▸h);exact .inr ⟨r,c,s,rfl,rfl,rfl,hr,hc,hlen,hs⟩
 ·exact .inl ⟨h,hR▸h⟩
theorem rCovers7{k0:Int×Int}{a b x:Int}(h:Ends (fun k=>recoupref07_Rank.f k a b l x) k0):Ends (fun k=>recoupref07_Covers.f k a b l x) (if k0.2=0 then(k0.1==b,0)else(false,k0.2)):=by
 unfold recoupref07_Covers.f;refine Ends.bind h ?_;by_cases e:k0.2=0
 ·rw[if_pos e,if_pos e,e];exact Ends.const rfl
 ·rw[if_neg e,if_neg e];exact Ends.const rfl
end
end Go.Proofs.YtkagobkedifhkaaDoor.M
namespace Go.Proofs.YtkagobkedifhkaaDoor.M
open Go.RowKit Go.Proofs.YtkagobkedifhkaaDoorW.PrintWords Go.Proofs.YtkagobkedifhkaaDoorW.PrintLast Go.Proofs.YtkagobkedifhkaaDoorW.PrintMore Go.Proofs.YtkagobkedifhkaaDoor.Q
set_option linter.unusedVariables false
def pe(A B:List (List Int))(i j k:Nat):El:=sm k fun x=>toE (entry A i x)*toE (entry B x j)
def prow(A B:List (List Int))(m p i:Nat):List Int:=(List.range p).map fun j=>ofE (pe A B i j m)
def prod(A B:List (List Int))(n m p:Nat):List (List Int):=(List.range n).map fun i=>prow A B m p i
theorem prow_length(A B:List (List Int))(m p i:Nat):(prow A B m p i).length=p:=by simp[prow]
theorem prow_get{A B:List (List Int)}{m p i j:Nat}(hj:j<p):(prow A B m p i).getD j 0=ofE (pe A B i j m):=by
 unfold prow;rw[List.getD_eq_getElem?_getD,List.getElem?_map,List.getElem?_range hj];rfl
theorem prod_length(A B:List (List Int))(n m p:Nat):(prod A B n m p).length=n:=by simp[prod]
theorem prod_get{A B:List (List Int)}{n m p i:Nat}(hi:i<n):(prod A B n m p).getD i [] =prow A B m p i:=by
 unfold prod;rw[List.getD_eq_getElem?_getD,List.getElem?_map,List.getElem?_range hi];rfl
theorem prod_entry{A B:List (List Int)}{n m p i j:Nat}(hi:i<n)(hj:j<p):entry (prod A B n m p) i j=ofE (pe A B i j m):=by
 unfold entry;rw[prod_get hi,prow_get hj]
theorem prow_bytes(A B:List (List Int))(m p i:Nat):bytesB (prow A B m p i)=true:=by
 unfold bytesB prow;rw[List.all_eq_true];intro x hx;obtain⟨j,_,rfl⟩:=List.mem_map.1 hx;have:=ofE_range (pe A B i j m);rw[Bool.and_eq_true,decide_eq_true_eq,decide_eq_true_eq];exact this
theorem prod_U(A B:List (List Int))(n m p:Nat):U (prod A B n m p) p:=fun r hr=>by
 obtain⟨i,_,rfl⟩:=List.mem_map.1 hr;exact prow_length _ _ _ _ _
theorem prod_rowsB(A B:List (List Int))(n m p:Nat):rowsB (prod A B n m p)=true:=by
 rw[rowsB,List.all_eq_true];intro r hr;obtain⟨i,_,rfl⟩:=List.mem_map.1 hr;exact prow_bytes _ _ _ _ _
def stI(A B:List (List Int))(n m p i:Nat):List (List Int):=(List.range n).map fun r=>if r<i then prow A B m p r else List.replicate p 0
theorem stI_len(A B:List (List Int))(n m p i:Nat):(stI A B n m p i).length=n:=by simp[stI]
theorem stI_elem{A B:List (List Int)}{n m p i r:Nat}(h:r<(stI A B n m p i).length):(stI A B n m p i)[r] =if r<i then prow A B m p r else List.replicate p 0:=by simp[stI]
theorem stI_get{A B:List (List Int)}{n m p i r:Nat}(h:r<n):(stI A B n m p i).getD r [] =if r<i then prow A B m p r else List.replicate p 0:=by
 have h2:r<(stI A B n m p i).length:=by rw[stI_len];exact h
 rw[List.getD_eq_getElem?_getD,List.getElem?_eq_getElem h2,Option.getD_some,stI_elem]
theorem stI_U(A B:List (List Int))(n m p i:Nat):U (stI A B n m p i) p:=fun r hr=>by
 obtain⟨q,_,rfl⟩:=List.mem_map.1 hr
 split
 ·exact prow_length _ _ _ _ _
 ·simp
theorem stI_next{A B:List (List Int)}{n m p i:Nat}(hi:i<n):(stI A B n m p i).set i (prow A B m p i)=stI A B n m p (i+1):=by
 refine List.ext_getElem (by simp[stI]) fun q h1 h2=>?_;rw[List.getElem_set,stI_elem,stI_elem];by_cases e:i=q
 ·subst e;rw[if_pos rfl,if_pos za]
 ·rw[if_neg e];by_cases e2:q<i
  ·rw[if_pos e2,if_pos za]
  ·rw[if_neg e2,if_neg za]
theorem stI_full{A B:List (List Int)}{n m p:Nat} :stI A B n m p n=prod A B n m p:=by
 unfold stI prod;exact List.map_congr_left fun r hr=>if_pos (by simpa using hr)
theorem stI_zero{A B:List (List Int)}{n m p:Nat} :(stI A B n m p 0).flatten=List.replicate (n*p) 0:=by
 have hU: ∀r∈stI A B n m p 0,r=List.replicate p (0:Int):=fun r hr=>by
  obtain⟨q,hq,rfl⟩:=List.mem_map.1 hr;rw[if_neg za]
 rw[List.eq_replicate_of_mem hU,stI_len,List.flatten_replicate_replicate]
def rowJ(A B:List (List Int))(m p i j:Nat):List Int:=(prow A B m p i).take j++(List.replicate p (0:Int)).drop j
theorem rowJ_length{A B:List (List Int)}{m p i j:Nat}(hj:j≤p):(rowJ A B m p i j).length=p:=by
 unfold rowJ;rw[List.length_append,List.length_take,List.length_drop,prow_length,List.length_replicate];omega
theorem rowJ_zero(A B:List (List Int))(m p i:Nat):rowJ A B m p i 0=List.replicate p 0:=by unfold rowJ;simp
theorem rowJ_full(A B:List (List Int))(m p i:Nat):rowJ A B m p i p=prow A B m p i:=by
 unfold rowJ;rw[List.take_of_length_le (by rw[prow_length];exact Nat.le_refl _),List.drop_of_length_le zd,List.append_nil]
theorem rowJ_next{A B:List (List Int)}{m p i j:Nat}(hj:j<p):(rowJ A B m p i j).set j (ofE (pe A B i j m))=rowJ A B m p i (j+1):=by
 rw[←prow_get hj];exact mid_set (by rw[prow_length];exact hj) (by rw[prow_length,List.length_replicate])
theorem rowJ_self{A B:List (List Int)}{m p i j:Nat}(hj:j<p):(rowJ A B m p i j).set j 0=rowJ A B m p i j:=by
 have h:(rowJ A B m p i j).getD j 0=0:=by
  unfold rowJ;rw[mid_get (by rw[prow_length];exact hj) (by rw[prow_length,List.length_replicate]),List.getD_eq_getElem?_getD,List.getElem?_replicate_of_lt hj];rfl
 have:=set_getD_self (l:=rowJ A B m p i j) (i:=j) (d:=(0:Int)) (by rw[rowJ_length za];exact hj)
 rwa [h]at this
abbrev MR:=Int×Int×List Int×Int
section
variable {n m p:Nat} {A B:List (List Int)}
theorem MulM_l2(hA:U A m)(hAn:A.length=n)(hB:U B p)(hBm:B.length=m)(bA:rowsB A=true)(bB:rowsB B=true)(hn:n≤64)(hm:m≤64)(hp:p≤64){i j:Nat}(hi:i<n)(hj:j<p)(a:Int){R:MR}
 (hR:Ends (fun q=>recoupref03_Mul.l1 q (i:Int) ((j+1:Nat):Int) (n:Int) (m:Int) A.flatten (m:Int) (p:Int) B.flatten a (p:Int) ((stI A B n m p i).set i (rowJ A B m p i (j+1))).flatten) R):
 ∀x k:Nat,k+x=m→Ends (fun q=>recoupref03_Mul.l2 q (i:Int) (j:Int) (k:Int) (n:Int) (m:Int) A.flatten (m:Int) (p:Int) B.flatten a (p:Int) ((stI A B n m p i).set i ((rowJ A B m p i j).set j (ofE (pe A B i j k)))).flatten) R
 |0,k,hk=>by
  obtain rfl:k=m:=by omega
  have I:j≤4096:=by omega
  refine Ends.succ (fun k=>by rw[recoupref03_Mul.l2]) ?_;refine Ends.neg za ?_;rw[rowJ_next hj,i64_succ I];exact hR
 |x+1,k,hk=>by
  have hkm:k<m:=by omega
  have J:k≤4096:=by omega
  have D:i≤64:=by omega
  have G:j≤64:=by omega
  have ih:=MulM_l2 hA hAn hB hBm bA bB hn hm hp hi hj a hR x (k+1) za;have hrl:((rowJ A B m p i j).set j (ofE (pe A B i j k))).length=p:=by rw[List.length_set];exact rowJ_length za
  have hU:=(stI_U A B n m p i).set (k:=i) hrl;have hlen:((stI A B n m p i).set i ((rowJ A B m p i j).set j (ofE (pe A B i j k)))).length=n:=by rw[List.length_set,stI_len]
  have hil:i<(stI A B n m p i).length:=by rw[stI_len];exact hi
  have hjr:j<(rowJ A B m p i j).length:=by rw[rowJ_length za];exact hj
  have hix:=idx_lt (c:=p) hi hj;have a1:=At_eq hA za hm (i:=i) (j:=k) za hkm (n:Int);have a2:=At_eq hB za hp (i:=k) (j:=j) za hj (m:Int);have b1:=bytesB_at (rows_bytes bA i) (i:=k) (by rw[hA.at za];exact hkm);have b2:=bytesB_at (rows_bytes bB k) (i:=j) (by rw[hB.at za];exact hj);refine Ends.succ (fun k=>by rw[recoupref03_Mul.l2]) ?_;refine Ends.pos za ?_;rw[(idx_small (i:=i) (c:=p) (j:=j) D hp G).2];refine Ends.pos (Int.natCast_nonneg _) (Ends.pos zaw ?_);refine Ends.bind1 a1 ?_;refine Ends.bind1 a2 ?_;refine Ends.bind (mulT_ends b1 b2) ?_;rw[rd_nat,Int.toNat_natCast,flat_get hU za hj,flat_set _ hU za hj,getD_set_self hil,List.set_set,List.set_set,i64_succ J];have e1:entry ((stI A B n m p i).set i ((rowJ A B m p i j).set j (ofE (pe A B i j k)))) i j=ofE (pe A B i j k):=by
   unfold entry;rw[getD_set_self hil,getD_set_self hjr]
  have e2:Go.bits .xor .u8 (ofE (pe A B i j k)) (mulT (entry A i k) (entry B k j))=ofE (pe A B i j (k+1)):=by
   refine toE_inj (xor_range _ _) (ofE_range _) ?_;rw[xor_el,toE_ofE,toE_ofE];exact congrArg (fun z=>pe A B i j k+z) (mulT_el b1 b2)
  rw[e1,e2];exact ih
theorem MulM_l1(hA:U A m)(hAn:A.length=n)(hB:U B p)(hBm:B.length=m)(bA:rowsB A=true)(bB:rowsB B=true)(hn:n≤64)(hm:m≤64)(hp:p≤64){i:Nat}(hi:i<n)(a:Int){R:MR}
 (hR:Ends (fun q=>recoupref03_Mul.l0 q ((i+1:Nat):Int) (n:Int) (m:Int) A.flatten (m:Int) (p:Int) B.flatten a (p:Int) (stI A B n m p (i+1)).flatten) R):
 ∀x j:Nat,j+x=p→Ends (fun q=>recoupref03_Mul.l1 q (i:Int) (j:Int) (n:Int) (m:Int) A.flatten (m:Int) (p:Int) B.flatten a (p:Int) ((stI A B n m p i).set i (rowJ A B m p i j)).flatten) R
 |0,j,hj=>by
  obtain rfl:j=p:=by omega
  have D:i≤4096:=by omega
  refine Ends.succ (fun k=>by rw[recoupref03_Mul.l1]) ?_;refine Ends.neg za ?_;rw[rowJ_full,stI_next hi,i64_succ D];exact hR
 |x+1,j,hj=>by
  have hjp:j<p:=by omega
  refine Ends.succ (fun k=>by rw[recoupref03_Mul.l1]) ?_;refine Ends.pos za ?_;have:=MulM_l2 hA hAn hB hBm bA bB hn hm hp hi hjp a (MulM_l1 hA hAn hB hBm bA bB hn hm hp hi a hR x (j+1) za) m 0 za;rw[show ofE (pe A B i j 0)=0 from rfl,rowJ_self hjp]at this
  exact this
theorem MulM_l0(hA:U A m)(hAn:A.length=n)(hB:U B p)(hBm:B.length=m)(bA:rowsB A=true)(bB:rowsB B=true)(hn:n≤64)(hm:m≤64)(hp:p≤64)(a:Int):
 ∀x i:Nat,i+x=n→Ends (fun q=>recoupref03_Mul.l0 q (i:Int) (n:Int) (m:Int) A.flatten (m:Int) (p:Int) B.flatten a (p:Int) (stI A B n m p i).flatten) (a,(p:Int),(prod A B n m p).flatten,0)
 |0,i,hi=>by
  obtain rfl:i=n:=by omega
  refine Ends.succ (fun k=>by rw[recoupref03_Mul.l0]) ?_;refine Ends.neg za ?_;rw[stI_full];exact Ends.const rfl
 |x+1,i,hi=>by
  have hin:i<n:=by omega
  refine Ends.succ (fun k=>by rw[recoupref03_Mul.l0]) ?_;refine Ends.pos za ?_;have:=MulM_l1 hA hAn hB hBm bA bB hn hm hp hin a (MulM_l0 hA hAn hB hBm bA bB hn hm hp a x (i+1) za) p 0 za;have e:(stI A B n m p i).set i (rowJ A B m p i 0)=stI A B n m p i:=by
   have h2:=stI_get (A:=A) (B:=B) (m:=m) (p:=p) (i:=i) hin;rw[if_neg za]at h2
   rw[rowJ_zero,←h2];exact set_getD_self (by rw[stI_len];exact hin)
  rw[e]at this
  exact this
end
theorem zero_eq{n p:Nat}(hn:n≤64)(hp:p≤64):recoupref03_Zero.f (n:Int) (p:Int)=some ((n:Int),(p:Int),List.replicate (n*p) 0):=by
 have hm:n*p≤64*64:=Nat.mul_le_mul hn hp;unfold recoupref03_Zero.f;rw[(idx_small (i:=n) (c:=p) (j:=0) hn hp zc).1,if_pos (Int.natCast_nonneg _),if_pos (by rw[Int.toNat_natCast];omega),Int.toNat_natCast]
def mulL(n m p:Nat)(a b:List Int):List (List Int):=prod (rowsOf m n a) (rowsOf p m b) n m p
theorem MulM_ends{n m p:Nat}{a b:List Int}(hn:n≤64)(hm:m≤64)(hp:p≤64)(ha:a.length=n*m)(hb:b.length=m*p)(ba:bytesB a=true)(bb:bytesB b=true):
 Ends (fun k=>recoupref03_Mul.f k (n:Int) (m:Int) a (m:Int) (p:Int) b) ((n:Int),(p:Int),(mulL n m p a b).flatten,0):=by
 have f1:=flat_rowsOf n a ha;have f2:=flat_rowsOf m b hb;have s1:=sh_rows ba ha hn hm;have s2:=sh_rows bb hb hm hp;unfold recoupref03_Mul.f;refine Ends.bind1 (right_of hn hm ha).2 (Ends.pos rfl ?_);refine Ends.bind1 (right_of hm hp hb).2 (Ends.pos rfl ?_);refine Ends.succ (fun k=>by rw[recoupref03_Mul.j0]) ?_;refine Ends.neg zd ?_;refine Ends.bind1 (zero_eq hn hp) ?_;have:=MulM_l0 f1.2 (rowsOf_length m n a) f2.2 (rowsOf_length p m b) s1.b s2.b hn hm hp (n:Int) n 0 za;rw[stI_zero,f1.1,f2.1]at this
 exact this
theorem mulL_len(n m p:Nat)(a b:List Int):(mulL n m p a b).flatten.length=n*p:=by
 unfold mulL;rw[flat_len (prod_U _ _ _ _ _),prod_length]
theorem mulL_bytes(n m p:Nat)(a b:List Int):bytesB (mulL n m p a b).flatten=true:=by
 have:=prod_rowsB (rowsOf m n a) (rowsOf p m b) n m p;unfold rowsB at this;unfold bytesB;rw[List.all_eq_true]at this⊢
 intro x hx;obtain⟨y,hy,hxy⟩:=List.mem_flatten.1 hx;have h2:=this y hy;unfold bytesB at h2;rw[List.all_eq_true]at h2
 exact h2 x hxy
theorem rows_flat{M:List (List Int)}{c:Nat}(h:U M c):rowsOf c M.length M.flatten=M:=by
 refine List.ext_getElem (by rw[rowsOf_length]) fun i h1 h2=>?_;rw[rowsOf_elem,flat_row h h2,List.getD_eq_getElem?_getD,List.getElem?_eq_getElem h2,Option.getD_some]
theorem mul_mv{n m p:Nat}{A B:List (List Int)}{i:Nat}(hi:i<n):mv (prod A B n m p) p i=lc (mv B p) m (mv A m i):=by
 funext j
 by_cases hj:j<p
 ·rw[mv_at hj,prod_entry hi hj,toE_ofE];exact sm_congr fun k hk=>by rw[mv_at hk,mv_at hj]
 ·rw[mv_out hj];exact(sm_zero fun k hk=>by rw[mv_out hj,mul_zero]).symm
end Go.Proofs.YtkagobkedifhkaaDoor.M
namespace Go.Proofs.YtkagobkedifhkaaDoor.M
open Go.RowKit Go.Proofs.YtkagobkedifhkaaDoorW.PrintWords Go.Proofs.YtkagobkedifhkaaDoorW.PrintLast Go.Proofs.YtkagobkedifhkaaDoorW.PrintMore Go.Proofs.YtkagobkedifhkaaDoor.Q
set_option linter.unusedVariables false
def vv(x:List Int):Vec:=fun j=>toE (x.getD j 0)
theorem vv_out{x:List Int}{j:Nat}(h:x.length≤j):vv x j=0:=by
 unfold vv;rw[List.getD_eq_getElem?_getD,List.getElem?_eq_none h];rfl
def one1(c:Nat)(x:Vec):Vec:=fun j=>if j<c then x j else if j=c then 1 else 0
theorem dot_one1{c:Nat}(r x:Vec):dot (c+1) r (one1 c x)=dot c r x+r c:=by
 show sm c (fun b=>r b*one1 c x b)+r c*one1 c x c=_;have e:one1 c x c=1:=by unfold one1;rw[if_neg (Nat.lt_irrefl c),if_pos rfl]
 rw[e,mul_one]
 congr 1
 exact sm_congr fun b hb=>by unfold one1;rw[if_pos hb]
section
variable {r c:Nat} {l y:List Int}
theorem aug_rows{M D:List (List Int)}{C:Nat}(h:Shp M D C 1){i:Nat}(hi:i<M.length):(∀j,j<C→mv (aug M D) (C+1) i j=mv M C i j)∧mv (aug M D) (C+1) i C=toE (entry D i 0):=by
 refine⟨fun j hj=>?_,?_⟩
 ·rw[mv_at za,mv_at hj,aug_entry h.len (h.eM i hi) hj]
 ·rw[mv_at za];have:=aug_entry_right (j:=0) h.len (h.eM i hi);rw[Nat.add_zero]at this
  rw[this]
theorem dot_congr{W:Nat}{r r' x x':Vec}(h: ∀j,j<W→r j=r' j)(k: ∀j,j<W→x j=x' j):dot W r x=dot W r' x':=sm_congr fun j hj=>by rw[h j hj,k j hj]
theorem aug_ker{M D:List (List Int)}{C:Nat}(h:Shp M D C 1)(x:Vec):Ker (C+1) M.length (mv (aug M D) (C+1)) (one1 C x)↔ ∀i,i<M.length→dot C (mv M C i) x=toE (entry D i 0):=by
 constructor
 ·intro hk i hi;have h1:=hk i hi;obtain⟨a1,a2⟩:=aug_rows h hi;rw[dot_one1,a2,dot_congr a1 (fun _ _=>rfl)]at h1
  exact add_cancel h1
 ·intro hk i hi;obtain⟨a1,a2⟩:=aug_rows h hi;rw[dot_one1,a2,dot_congr a1 (fun _ _=>rfl),hk i hi,add_self]
theorem red_sol{M D:List (List Int)}{C:Nat}(h:Shp M D C 1)(x:Vec):(∀i,i<M.length→dot C (mv M C i) x=toE (entry D i 0))↔ ∀i,i<M.length→dot C (mv (redTo M D C).1.1 C i) x=toE (entry (redTo M D C).1.2 i 0):=by
 have hs:=red_shp h C;have hg:=red_aug h C (Nat.le_refl _);have hi:=redA_inv (Sh.aug h) C za;have hl:=aug_length h.len;rw[hg]at hi
 have hsp:=hi.span;rw[hl]at hsp
 have k1:=aug_ker h x;have k2:=aug_ker hs.1 x;rw[hs.2.1]at k2
 rw[←k1,←k2,ker_same hsp]
theorem Y_entry{i:Nat}(hi:i<r):entry (Ycol y r) i 0=y.getD i 0:=by
 unfold entry Ycol;rw[fill_get hi];rfl
theorem red_ri{M D:List (List Int)}{C wd:Nat}(h:Shp M D C wd):RI M (redTo M D C).1.1 C C (redTo M D C).2:=by
 have:=redA_inv (Sh.of1 h) C (Nat.le_refl _);rw[←red_fst M D C]at this
 exact this
theorem solve_at{P:List Int}{D:List (List Int)}{c:Nat}(hnat: ∀i,i<P.length→P.getD i 0=(pv P i:Int))(hlt: ∀i,i<P.length→pv P i<c)(hm: ∀i k,i<k→k<P.length→pv P i<pv P k):
 ∀k,k≤P.length→(∀i,i<k→(solveTo P D c k).getD (pv P i) 0=entry D i 0)∧ ∀j,j<c→(∀i,i<k→j≠pv P i)→(solveTo P D c k).getD j 0=0
 |0,_=>⟨fun i hi=>absurd hi (Nat.not_lt_zero _),fun j hj _=>by
  show(List.replicate c (0:Int)).getD j 0=0;rw[List.getD_eq_getElem?_getD,List.getElem?_replicate_of_lt hj];rfl⟩
 |k+1,hk=>by
  obtain⟨h1,h2⟩:=solve_at (D:=D) hnat hlt hm k za;have hkP:k<P.length:=by omega
  rw[solveTo,if_pos hkP,hnat k hkP,Int.toNat_natCast];refine⟨fun i hi=>?_,fun j hj hn=>?_⟩
  ·by_cases e:i=k
   ·subst e;exact getD_set_self (by rw[solveTo_length];exact hlt i hkP)
   ·have:=hm i k za hkP;rw[getD_set_ne za];exact h1 i za
  ·rw[getD_set_ne (fun e=>hn k za e.symm)];exact h2 j hj fun i hi=>hn i za
theorem solR_good(h:(solR r c l y).2.1=true):(solR r c l y).1=solveTo (redTo (rowsOf c r l) (Ycol y r) c).2 (redTo (rowsOf c r l) (Ycol y r) c).1.2 c r∧ ¬badFrom (redTo (rowsOf c r l) (Ycol y r) c).2 (redTo (rowsOf c r l) (Ycol y r) c).1.2 r 0=true:=by
 unfold solR at h⊢;simp only[]at h⊢
 split
 ·rename_i e
  rw[if_pos e]at h;cases h
 ·rename_i e
  exact⟨rfl,e⟩
theorem solR_sound(hb:bytesB l=true)(hl:l.length=r*c)(hr:r≤64)(hc:c≤64)(hy:y.length=r)(hyb:bytesB y=true)(h:(solR r c l y).2.1=true):
 ∀i,i<r→dot c (mv (rowsOf c r l) c i) (vv (solR r c l y).1)=vv y i:=by
 obtain⟨h1,h2⟩:=solR_good h;have hS:=shp_Y hb hyb hl hr hc hy;have hlen:=rowsOf_length c r l;have hri:=red_ri hS;have hs:=red_shp hS c;have hsol:=red_sol hS (vv (solR r c l y).1);rw[h1]at hsol⊢
 intro i hi;have goal:=hsol.2 ?_ i za
 ·rw[goal,Y_entry hi];rfl
 ·intro k hk;have hrr:=hri.rr;have htn:=hri.tn;have hD: ∀i',(redTo (rowsOf c r l) (Ycol y r) c).2.length≤i'→i'<r→entry (redTo (rowsOf c r l) (Ycol y r) c).1.2 i' 0=0:=fun i' a b=>Classical.byContradiction fun hn=>h2 (bad_iff _ _ |>.2 ⟨i',Nat.zero_le _,by omega,a,hn⟩);obtain⟨s1,s2⟩:=solve_at (D:=(redTo (rowsOf c r l) (Ycol y r) c).1.2) hri.nat hri.lt hri.mono (redTo (rowsOf c r l) (Ycol y r) c).2.length (Nat.le_refl _);rw[solveTo_more (i:=r) za];generalize redTo (rowsOf c r l) (Ycol y r) c=T at*;by_cases e:k<T.2.length
  ·have hd:=hrr.dot_piv (x:=vv (solveTo T.2 T.1.2 c T.2.length)) (fun j hj hn=>by unfold vv;rw[s2 j hj hn,toE_zero]) e;rw[hd];unfold vv;rw[s1 k e]
  ·rw[hrr.low k za hk,hD k za za,toE_zero];exact sm_zero fun j _=>zero_mul _
theorem ri_L(hb:bytesB l=true)(hl:l.length=r*c)(hr:r≤64)(hc:c≤64):RI (rowsOf c r l) (redL r c l).1.1 c c (redL r c l).2:=red_ri (shp_nil hb hl ⟨hr,hc⟩)
theorem getElem_getD{L:List Int}{q:Nat}(h:q<L.length):L[q] =L.getD q 0:=by rw[List.getD_eq_getElem?_getD,List.getElem?_eq_getElem h];rfl
end
end Go.Proofs.YtkagobkedifhkaaDoor.M
namespace Go.Proofs.YtkagobkedifhkaaDoor.M
open Go.RowKit Go.Proofs.YtkagobkedifhkaaDoorW.PrintWords Go.Proofs.YtkagobkedifhkaaDoorW.PrintLast Go.Proofs.YtkagobkedifhkaaDoorW.PrintMore Go.Proofs.YtkagobkedifhkaaDoor.Q
set_option linter.unusedVariables false
theorem redL_rk(r c:Nat)(l:List Int):(redL r c l).2.length=rk (rowsOf c r l) c:=by
 have:=(Prod.mk.inj (red_fst (rowsOf c r l) (List.replicate r []) c)).2;show(redTo (rowsOf c r l) (List.replicate r []) c).2.length=(redA (rowsOf c r l) c).2.length;rw[this]
section
variable {n m p:Nat} {a b:List Int}
theorem rk_trans(hb:bytesB b=true)(hl:b.length=m*p)(hm:m≤64)(hp:p≤64):(fstP m p b).length=rk (rowsOf p m b) p:=by
 have h:=prefix_rk hb hl hm hp (i:=m) (Nat.le_refl _);rw[List.take_of_length_le (Nat.le_of_eq hl),below_all _ (trans_rr hb hl hm hp).lt,redL_rk]at h
 exact h.symm
end
end Go.Proofs.YtkagobkedifhkaaDoor.M
namespace Go.Proofs.YtkagobkedifhkaaDoor.M
open Go.RowKit Go.Proofs.YtkagobkedifhkaaDoorW.PrintWords Go.Proofs.YtkagobkedifhkaaDoorW.PrintLast Go.Proofs.YtkagobkedifhkaaDoorW.PrintMore Go.Proofs.YtkagobkedifhkaaDoor.Q
set_option linter.unusedVariables false
def Bit(s:Nat):Nat→Prop:=fun i=>s.testBit i=true
section
variable {r c s t:Nat} {l:List Int}
theorem val_bit(hs:s<2^64):Val r s↔ ∀i,s.testBit i=true→i<r:=by
 unfold Val;constructor
 ·exact fun h i hi=>h i ((mem_setL' hs).2 hi)
 ·exact fun h i hi=>h i ((mem_setL' hs).1 hi)
theorem pk_row(hl:l.length=r*c)(h:Val r s){k:Nat}(hk:k<(setL s).length):mv (rowsOf c (setL s).length (pk c l s)) c k=mv (rowsOf c r l) c ((setL s).getD k 0):=by
 have hin:=val_in h;have hU:=(flat_rowsOf r l hl).2;have hf:U ((ints (setL s)).map fun x=>(rowsOf c r l).getD x.toNat []) c:=fun y hy=>by
  obtain⟨x,hx,rfl⟩:=List.mem_map.1 hy;exact hU.at (by rw[rowsOf_length];have:=hin x hx;omega)
 have e:=rows_flat hf;rw[List.length_map,ints_length]at e
 have e2:rowsOf c (setL s).length (pk c l s)=(ints (setL s)).map fun x=>(rowsOf c r l).getD x.toNat []:=by
  unfold pk;rw[pick_rows hl hin];exact e
 rw[e2];have e3:((ints (setL s)).map fun x=>(rowsOf c r l).getD x.toNat []).getD k [] =(rowsOf c r l).getD ((setL s).getD k 0) []:=by
  unfold ints;rw[List.getD_eq_getElem?_getD,List.getElem?_map,List.getElem?_map,List.getD_eq_getElem?_getD (l:=setL s),List.getElem?_eq_getElem hk];rfl
 funext j
 unfold mv entry;rw[e3]
theorem mem_bit(hs:s<2^64)(h:Val r s)(i:Nat):i∈setL s↔Bit s i∧i<r:=
 ⟨fun hi=>⟨(mem_setL' hs).1 hi,h i hi⟩,fun hi=>(mem_setL' hs).2 hi.1⟩
theorem pk_sp(hl:l.length=r*c)(hs:s<2^64)(h:Val r s)(v:Vec):Span (mv (rowsOf c (setL s).length (pk c l s)) c) (setL s).length v↔Sp (mv (rowsOf c r l) c) r (Bit s) v:=by
 have key: ∀k,k<(setL s).length→mv (rowsOf c (setL s).length (pk c l s)) c k=rowsL (mv (rowsOf c r l) c) (setL s) k:=fun k hk=>pk_row hl h hk;exact(span_congr key v).trans (sp_list (mem_bit hs h) ((val_bit hs).1 h) v)
theorem rho_rk(hb:bytesB l=true)(hl:l.length=r*c)(hr:r≤64)(hc:c≤64)(hs:s<2^64)(h:Val r s):rho c l s=rkS (mv (rowsOf c r l) c) r (Bit s):=by
 have hd:=rk_dim (sh_rows (pick_bytes (c:=c) hb (ints (setL s))) (pk_len hl h) (setL_length s) hc);rw[rowsOf_length]at hd
 have e:rho c l s=rk (rowsOf c (setL s).length (pk c l s)) c:=redL_rk _ _ _;rw[e];exact(rkS_eq (dim_congr (pk_sp hl hs h) hd)).symm
theorem val_sub(hs:s<2^64)(ht:t<2^64)(h:Val r s)(k: ∀i,t.testBit i=true→s.testBit i=true):Val r t:=by
 rw[val_bit ht];exact fun i hi=>(val_bit hs).1 h i (k i hi)
theorem bit_or(s t i:Nat):Bit (s|||t) i↔Bit s i∨Bit t i:=by
 unfold Bit;rw[Nat.testBit_or,Bool.or_eq_true]
theorem bit_one(b i:Nat):Bit (2^b) i↔i=b:=by
 unfold Bit;rw[Nat.testBit_two_pow,decide_eq_true_eq];exact⟨Eq.symm,Eq.symm⟩
def wo(s t:Nat):Nat:=s &&& (2^64-1-t)
theorem bit_wo(hs:s<2^64)(ht:t<2^64)(i:Nat):Bit (wo s t) i↔Bit s i∧ ¬Bit t i:=by
 unfold Bit wo;rw[testBit_andNot hs ht,Bool.and_eq_true,Bool.not_eq_true'];simp
theorem wo_lt(hs:s<2^64):wo s t<2^64:=lt_and hs
end
end Go.Proofs.YtkagobkedifhkaaDoor.M
namespace Go.Proofs.YtkagobkedifhkaaDoor.M
open Go.RowKit Go.Proofs.YtkagobkedifhkaaDoorW.PrintWords Go.Proofs.YtkagobkedifhkaaDoorW.PrintLast Go.Proofs.YtkagobkedifhkaaDoorW.PrintMore Go.Proofs.YtkagobkedifhkaaDoor.Q
set_option linter.unusedVariables false
theorem Ends.of_mono{α:Type}{f:Nat→Option α}{r:α}(hm: ∀k,LeO (f k) (f (k+1))){K:Nat}(h:f K=some r):Ends f r:=by
 refine⟨K,fun k hk=>?_⟩;obtain⟨d,rfl⟩:=Nat.exists_eq_add_of_le hk
 induction d with
 |zero=>exact h
 |succ d ih=>exact hm (K+d) r (ih za)
def appL(r c:Nat)(l x:List Int):List Int:=(mulL r c 1 l x).flatten
theorem appL_len(r c:Nat)(l x:List Int):(appL r c l x).length=r:=by
 unfold appL;rw[mulL_len,Nat.mul_one]
theorem appL_bytes(r c:Nat)(l x:List Int):bytesB (appL r c l x)=true:=mulL_bytes _ _ _ _ _
theorem appL_at{r c i:Nat}{l x:List Int}(hx:x.length=c)(hi:i<r):vv (appL r c l x) i=dot c (mv (rowsOf c r l) c i) (vv x):=by
 have h1:(appL r c l x).getD i 0=entry (prod (rowsOf c r l) (rowsOf 1 c x) r c 1) i 0:=by
  have:=flat_get (prod_U (rowsOf c r l) (rowsOf 1 c x) r c 1) (i:=i) (j:=0) (by rw[prod_length];exact hi) zc;rw[Nat.mul_one,Nat.add_zero]at this
  exact this
 unfold vv;rw[h1,prod_entry hi zc,toE_ofE];refine sm_congr fun k hk=>?_;rw[mv_at hk];have:=rows_entry (l:=x) (r:=c) (c:=1) (i:=k) (j:=0) za hk zc;rw[Nat.mul_one,Nat.add_zero]at this
 rw[this]
theorem Apply_ends{r c:Nat}{l x:List Int}(hb:bytesB l=true)(hl:l.length=r*c)(hr:r≤64)(hc:c≤64)(hx:x.length=c)(hxb:bytesB x=true):Ends (fun k=>recoupref03_Apply.f k (r:Int) (c:Int) l x) (appL r c l x,0):=by
 unfold recoupref03_Apply.f;refine Ends.bind1 (right_of hr hc hl).2 (Ends.pos rfl (Ends.pos za ?_));exact Ends.bind (MulM_ends (p:=1) hr hc zc hl za hb hxb) (Ends.const rfl)
theorem or_one{s i:Nat}(hs:s<2^64)(hi:i<64):Go.bits .or .u64 (s:Int) ((2^i:Nat):Int)=((s|||2^i:Nat):Int):=bor hs (pow_lt hi)
theorem lt_one{s i:Nat}(hs:s<2^64)(hi:i<64):s|||2^i<2^64:=lt_or hs (pow_lt hi)
theorem bit_or_one(s i k:Nat):Bit (s|||2^i) k↔Bit s k∨k=i:=by rw[bit_or,bit_one]
theorem bit_ext{s t:Nat}(h: ∀i,Bit s i↔Bit t i):s=t:=Nat.eq_of_testBit_eq fun i=>Bool.eq_iff_iff.2 (h i)
theorem val_one{r s i:Nat}(hr:r≤64)(hs:s<2^64)(h:Val r s)(hi:i<r):Val r (s|||2^i):=by
 rw[val_bit (lt_one hs za)];intro k hk;rcases(bit_or_one s i k).1 hk with h1|h1
 ·exact(val_bit hs).1 h k h1
 ·omega
section
variable {r c s:Nat} {l:List Int}
theorem wstep{i:Nat}(h:i≤64):wrap64 ((i:Int)+1)=((i+1:Nat):Int):=by rw[w64 za za];omega
theorem setL_at(s:Nat){i:Nat}(hi:i<(setL s).length):(setL s).getD i 0∈setL s:=by
 rw[List.getD_eq_getElem?_getD,List.getElem?_eq_getElem hi];exact List.getElem_mem hi
theorem rd_setL(s:Nat){i:Nat}(hi:i<(setL s).length):rd (ints (setL s)) (i:Int)=(((setL s).getD i 0:Nat):Int):=by
 rw[rd_ints _ _ hi,List.getD_eq_getElem?_getD,List.getElem?_eq_getElem hi];rfl
def grd(c:Nat)(l:List Int)(s:Nat):Nat→Nat
 |0=>0
 |i+1=>if s.testBit i=true∧rho c l (grd c l s i|||2^i)>rho c l (grd c l s i)then grd c l s i|||2^i else grd c l s i
theorem grd_bit: ∀i k,Bit (grd c l s i) k→Bit s k∧k<i
 |0,k,h=>by unfold Bit grd at h;rw[Nat.zero_testBit]at h;cases h
 |i+1,k,h=>by
  rw[grd]at h
  split at h
  ·next g=>
   rcases(bit_or_one _ _ _).1 h with h1|rfl
   ·have:=grd_bit i k h1;exact⟨this.1,by omega⟩
   ·exact⟨g.1,by omega⟩
  ·have:=grd_bit i k h;exact⟨this.1,by omega⟩
theorem grd_lt(hs:s<2^64)(i:Nat):grd c l s i<2^64:=by
 refine Nat.lt_pow_two_of_testBit _ fun k hk=>?_;rw[Bool.eq_false_iff];intro h;have h2:=(grd_bit i k h).1;unfold Bit at h2;rw[testBit_big hs hk]at h2
 cases h2
theorem grd_val(hs:s<2^64)(h:Val r s)(i:Nat):Val r (grd c l s i):=val_sub hs (grd_lt hs i) h fun k hk=>(grd_bit i k hk).1
def bas(c:Nat)(l:List Int)(s:Nat):Nat:=ofL ((fstP (setL s).length c (pk c l s)).map fun p=>(setL s).getD p.toNat 0)
theorem Basis_l0(hb:bytesB l=true)(hl:l.length=r*c)(hr:r≤64)(hc:c≤64)(hs:s<2^64)(h:Val r s): ∀d i:Nat,i+d=(fstP (setL s).length c (pk c l s)).length→
 Ends (fun k=>matroid_Basis.l0 k (ints (setL s)) ((ofL (((fstP (setL s).length c (pk c l s)).take i).map fun p=>(setL s).getD p.toNat 0):Nat):Int) (fstP (setL s).length c (pk c l s)) ((fstP (setL s).length c (pk c l s)).length:Int) (i:Int)) ((bas c l s:Int),0):=by
 have hin:=fst_in (pick_bytes (c:=c) hb (ints (setL s))) (pk_len hl h) (setL_length s) hc;have hPl:=fst_len (pick_bytes (c:=c) hb (ints (setL s))) (pk_len hl h) (setL_length s) hc;have hin: ∀x∈fstP (setL s).length c (pk c l s),0≤x∧x<((setL s).length:Int):=hin;have hPl:(fstP (setL s).length c (pk c l s)).length≤c:=hPl;unfold bas;generalize fstP (setL s).length c (pk c l s)=P at*;intro d
 induction d with
 |zero=>
  intro i hi;obtain rfl:i=P.length:=by omega
  refine Ends.succ (fun k=>by rw[matroid_Basis.l0]) ?_;refine Ends.neg za (Ends.const ?_);rw[List.take_length]
 |succ d ih=>
  intro i hi;have ihn:=ih (i+1) za;have hi':i<P.length:=by omega
  have hx:=hin _ (List.getElem_mem hi');have e:P.take (i+1)=P.take i++ [P[i]]:=by rw[List.take_add_one,List.getElem?_eq_getElem hi'];rfl
  have hp:rd P (i:Int)=P[i]:=by rw[rd_nat,List.getD_eq_getElem?_getD,List.getElem?_eq_getElem hi'];rfl
  rw[e,List.map_append,List.map_cons,List.map_nil,ofL_snoc,←wstep za]at ihn
  have hlt:ofL ((P.take i).map fun p=>(setL s).getD p.toNat 0)<2^64:=ofL_lt _ fun k hk=>by
   obtain⟨p,hp,rfl⟩:=List.mem_map.1 hk;have:=hin p (List.mem_of_mem_take hp);exact(mem_setL.1 (setL_at s za)).1
  refine Ends.succ (fun k=>by rw[matroid_Basis.l0]) ?_;refine Ends.pos za (Ends.pos za ?_);rw[hp];generalize P[i] =p at*;obtain⟨m,rfl⟩:=Int.eq_ofNat_of_zero_le hx.1;have hm:m<(setL s).length:=by omega
  rw[rd_setL s hm];rw[Int.toNat_natCast]at ihn
  have hy:=(mem_setL.1 (setL_at s hm)).1;generalize(setL s).getD m 0=y at*;refine Ends.pos za ?_;refine Ends.pos za ?_;refine Ends.pos zaj ?_;refine Ends.pos za ?_;rw[shl_one hy,or_one hlt hy];exact ihn
theorem Basis7(hb:bytesB l=true)(hl:l.length=r*c)(hr:r≤64)(hc:c≤64)(hs:s<2^64)(h:Val r s):Ends (fun k=>matroid_Basis.f k (r:Int) (c:Int) l (s:Int)) ((bas c l s:Int),0):=by
 unfold matroid_Basis.f;refine Ends.bind (pick7 hb hl hr hc hs h) (Ends.pos rfl ?_);refine Ends.bind1 (gFirst_eq (pick_bytes (c:=c) hb (ints (setL s))) (pk_len hl h) (setL_length s) hc) (Ends.pos rfl ?_);exact Ends.bind (List_eq hs) (Basis_l0 hb hl hr hc hs h (fstP (setL s).length c (pk c l s)).length 0 (Nat.zero_add _))
end
end Go.Proofs.YtkagobkedifhkaaDoor.M
namespace Go.Proofs.YtkagobkedifhkaaDoor.M
open Go.RowKit Go.Proofs.YtkagobkedifhkaaDoorW.PrintWords Go.Proofs.YtkagobkedifhkaaDoorW.PrintLast Go.Proofs.YtkagobkedifhkaaDoorW.PrintMore Go.Proofs.YtkagobkedifhkaaDoor.Q
set_option linter.unusedVariables false
theorem rkS_or1(b:Nat→Vec)(r s i:Nat):rkS b r (Bit (s|||2^i))=rkS b r (fun k=>Bit s k∨k=i):=congrArg _ (funext fun k=>propext (bit_or_one s i k))
section
variable {r c s:Nat} {l:List Int}
def New(b:Nat→Vec)(r s j:Nat):Prop:= ¬Sp b r (fun k=>Bit s k∧k<j) (b j)
theorem grd_mean(hb:bytesB l=true)(hl:l.length=r*c)(hr:r≤64)(hc:c≤64)(hs:s<2^64)(h:Val r s): ∀i,i≤r→
 (∀j,Bit (grd c l s i) j↔j<i∧Bit s j∧New (mv (rowsOf c r l) c) r s j)∧ ∀v,Sp (mv (rowsOf c r l) c) r (Bit (grd c l s i)) v↔Sp (mv (rowsOf c r l) c) r (fun k=>Bit s k∧k<i) v:=by
 intro i
 induction i with
 |zero=>
  intro _;have h0: ∀j,¬Bit (grd c l s 0) j:=fun j hj=>by have:=(grd_bit 0 j hj).2;omega
  exact⟨fun j=>⟨fun hj=>absurd hj (h0 j),fun hj=>by omega⟩,fun v=>sp_congr fun j _=>⟨fun hj=>absurd hj (h0 j),fun hj=>by omega⟩⟩
 |succ i ih=>
  intro hi;obtain⟨G,D⟩:=ih za;have hg:=grd_lt (c:=c) (l:=l) hs i;have hgv:=grd_val (c:=c) (l:=l) hs h i;have key:rho c l (grd c l s i|||2^i)>rho c l (grd c l s i)↔New (mv (rowsOf c r l) c) r s i:=by
   rw[rho_rk hb hl hr hc hg hgv,rho_rk hb hl hr hc (lt_one hg za) (val_one hr hg hgv za),rkS_or1,rkS_lt za,D];rfl
  rw[grd];by_cases e:s.testBit i=true∧rho c l (grd c l s i|||2^i)>rho c l (grd c l s i)
  ·rw[if_pos e];have eB:Bit s i:=e.1;constructor
   ·intro j;rw[bit_or_one,G];constructor
    ·rintro(h1|rfl)
     ·exact⟨by omega,h1.2⟩
     ·exact⟨by omega,eB,key.1 e.2⟩
    ·rintro⟨h1,h2⟩;by_cases hj:j=i
     ·exact .inr hj
     ·exact .inl ⟨by omega,h2⟩
   ·intro v;constructor
    ·refine sp_sub fun k hk hB=>?_;rcases(bit_or_one _ _ _).1 hB with h1|rfl
     ·exact sp_mono (fun k _ hk=>⟨hk.1,by omega⟩) ((D _).1 (sp_row hk h1))
     ·exact sp_row hk ⟨eB,by omega⟩
    ·refine sp_sub fun k hk hB=>?_;by_cases hj:k=i
     ·subst hj;exact sp_row hk ((bit_or_one _ _ _).2 (.inr rfl))
     ·exact sp_mono (fun q _ hq=>(bit_or_one _ _ _).2 (.inl hq)) ((D _).2 (sp_row hk ⟨hB.1,by omega⟩))
  ·rw[if_neg e];have hn:Bit s i→Sp (mv (rowsOf c r l) c) r (fun k=>Bit s k∧k<i) (mv (rowsOf c r l) c i):=fun hB=>Classical.byContradiction fun hN=>e ⟨hB,key.2 hN⟩;constructor
   ·intro j;rw[G];constructor
    ·rintro⟨h1,h2⟩;exact⟨by omega,h2⟩
    ·rintro⟨h1,h2,h3⟩;by_cases hj:j=i
     ·subst hj;exact absurd (hn h2) h3
     ·exact⟨by omega,h2,h3⟩
   ·intro v;rw[D];refine⟨sp_mono fun k _ hk=>⟨hk.1,by omega⟩,sp_sub fun k hk hB=>?_⟩;by_cases hj:k=i
    ·subst hj;exact hn hB.1
    ·exact sp_row hk ⟨hB.1,by omega⟩
theorem pk_row'(hl:l.length=r*c)(h:Val r s){k:Nat}(hk:k<(setL s).length):mv (rowsOf c (setL s).length (pk c l s)) c k=mv (rowsOf c r l) c ((setL s).getD k 0):=pk_row hl h hk
theorem setL_mono(s:Nat){i k:Nat}(h:i<k)(hk:k<(setL s).length):(setL s).getD i 0<(setL s).getD k 0:=by
 have:=List.pairwise_iff_getElem.1 (setL_sorted s) i k za hk h;rw[List.getD_eq_getElem?_getD,List.getElem?_eq_getElem za,List.getD_eq_getElem?_getD,List.getElem?_eq_getElem hk];exact this
theorem setL_find(hs:s<2^64){j:Nat}(hj:Bit s j): ∃k,k<(setL s).length∧(setL s).getD k 0=j:=by
 obtain⟨k,hk,e⟩:=List.getElem_of_mem ((mem_setL' hs).2 hj);refine⟨k,hk,?_⟩;rw[List.getD_eq_getElem?_getD,List.getElem?_eq_getElem hk];exact e
theorem pk_front(hl:l.length=r*c)(hs:s<2^64)(h:Val r s){k:Nat}(hk:k<(setL s).length)(v:Vec):Span (mv (rowsOf c (setL s).length (pk c l s)) c) k v↔Sp (mv (rowsOf c r l) c) r (fun q=>Bit s q∧q<(setL s).getD k 0) v:=by
 constructor
 ·refine sp_of_span fun i hi=>?_;rw[pk_row' hl h za];have hm:=setL_at s (i:=i) za;exact sp_row (h _ hm) ⟨(mem_setL' hs).1 hm,setL_mono s hi hk⟩
 ·refine span_of_sp fun j hj hB=>?_;obtain⟨i,hi,e⟩:=setL_find hs hB.1;have hik:i<k:=by
   rcases Nat.lt_or_ge i k with h1|h1
   ·exact h1
   ·exfalso;rcases Nat.lt_or_eq_of_le h1 with h2|h2
    ·have:=setL_mono s h2 hi;omega
    ·subst h2;omega
  have:=span_mem (mv (rowsOf c (setL s).length (pk c l s)) c) hik
  rwa [pk_row' hl h hi,e]at this
theorem piv_new(hb:bytesB l=true)(hl:l.length=r*c)(hr:r≤64)(hc:c≤64){k:Nat}(hk:k<r):(∃i,i<(fstP r c l).length∧pv (fstP r c l) i=k)↔ ¬Span (mv (rowsOf c r l) c) k (mv (rowsOf c r l) c k):=by
 have hri:=trans_rr hb hl hr hc;have d0:=prefix_dim hb hl hr hc (i:=k) za;have d1:=prefix_dim hb hl hr hc (i:=k+1) za;rw[below_step hri.mono]at d1
 constructor
 ·rintro⟨i,hi,e⟩ hsp;have h1:below (pv (fstP r c l)) k (fstP r c l).length=i:=by
   have b1:=below_iff (b:=k) (t:=(fstP r c l).length) hri.mono;have hle:=below_le (pv (fstP r c l)) k (fstP r c l).length;have h2: ¬i<below (pv (fstP r c l)) k (fstP r c l).length:=fun h3=>by have:=(b1 i hi).1 h3;omega
   rcases Nat.lt_or_ge (below (pv (fstP r c l)) k (fstP r c l).length) i with h5|h5
   ·have h6:=hri.mono _ i h5 hi;have:=(b1 (below (pv (fstP r c l)) k (fstP r c l).length) za).2 za;omega
   ·omega
  rw[h1,if_pos ⟨hi,e⟩]at d1
  rw[h1]at d0
  have:=dim_le d1 d0 fun v hv=>span_trans (fun q hq=>by
   by_cases hqk:q=k
   ·rw[hqk];exact hsp
   ·exact span_mem _ za) hv
  omega
 ·intro hn;by_cases e:below (pv (fstP r c l)) k (fstP r c l).length<(fstP r c l).length∧pv (fstP r c l) (below (pv (fstP r c l)) k (fstP r c l).length)=k
  ·exact⟨_,e⟩
  ·exfalso;rw[if_neg e]at d1
   obtain⟨u,u1,u2,u3⟩:=d0;exact hn (span_trans u2 (dim_full d1 u1 (fun i hi=>span_le za (u2 i hi)) _ (span_mem _ za)))
theorem bas_mean(hb:bytesB l=true)(hl:l.length=r*c)(hr:r≤64)(hc:c≤64)(hs:s<2^64)(h:Val r s)(j:Nat):Bit (bas c l s) j↔Bit s j∧New (mv (rowsOf c r l) c) r s j:=by
 have hpb:=pick_bytes (c:=c) hb (ints (setL s));have hpl:=pk_len hl h;have hpv: ∀k,k<(setL s).length→((∃i,i<(fstP (setL s).length c (pk c l s)).length∧pv (fstP (setL s).length c (pk c l s)) i=k)↔New (mv (rowsOf c r l) c) r s ((setL s).getD k 0)):=fun k hk=>by
  rw[piv_new (l:=pk c l s) hpb hpl (setL_length s) hc hk,pk_front hl hs h hk,pk_row' hl h hk];rfl
 have hlt: ∀i,i<(fstP (setL s).length c (pk c l s)).length→pv (fstP (setL s).length c (pk c l s)) i<(setL s).length:=(trans_rr (l:=pk c l s) hpb hpl (setL_length s) hc).lt;have hB:Bit (bas c l s) j↔ ∃i,i<(fstP (setL s).length c (pk c l s)).length∧(setL s).getD (pv (fstP (setL s).length c (pk c l s)) i) 0=j:=by
  unfold Bit bas;rw[testBit_ofL,decide_eq_true_eq,List.mem_map];constructor
  ·rintro⟨p,hp,rfl⟩;obtain⟨i,hi,rfl⟩:=List.getElem_of_mem hp;refine⟨i,hi,?_⟩;unfold pv;rw[List.getD_eq_getElem?_getD (l:=fstP _ _ _),List.getElem?_eq_getElem hi];rfl
  ·rintro⟨i,hi,rfl⟩;refine⟨_,List.getElem_mem hi,?_⟩;unfold pv;rw[List.getD_eq_getElem?_getD (l:=fstP _ _ _),List.getElem?_eq_getElem hi];rfl
 rw[hB];constructor
 ·rintro⟨i,hi,rfl⟩;have hk:=hlt i hi;exact⟨(mem_setL' hs).1 (setL_at s hk),(hpv _ hk).1 ⟨i,hi,rfl⟩⟩
 ·rintro⟨h1,h2⟩;obtain⟨k,hk,rfl⟩:=setL_find hs h1;obtain⟨i,hi,rfl⟩:=(hpv k hk).2 h2;exact⟨i,hi,rfl⟩
theorem bas_grd(hb:bytesB l=true)(hl:l.length=r*c)(hr:r≤64)(hc:c≤64)(hs:s<2^64)(h:Val r s):bas c l s=grd c l s r:=bit_ext fun j=>by
 rw[bas_mean hb hl hr hc hs h,(grd_mean hb hl hr hc hs h r (Nat.le_refl _)).1];exact⟨fun e=>⟨(val_bit hs).1 h j e.1,e⟩,fun e=>e.2⟩
theorem bas_lt(hb:bytesB l=true)(hl:l.length=r*c)(hr:r≤64)(hc:c≤64)(hs:s<2^64)(h:Val r s):bas c l s<2^64:=by rw[bas_grd hb hl hr hc hs h];exact grd_lt hs r
theorem bas_sub(hb:bytesB l=true)(hl:l.length=r*c)(hr:r≤64)(hc:c≤64)(hs:s<2^64)(h:Val r s){j:Nat}(hj:Bit (bas c l s) j):Bit s j:=((bas_mean hb hl hr hc hs h j).1 hj).1
theorem bas_val(hb:bytesB l=true)(hl:l.length=r*c)(hr:r≤64)(hc:c≤64)(hs:s<2^64)(h:Val r s):Val r (bas c l s):=by rw[bas_grd hb hl hr hc hs h];exact grd_val hs h r
theorem bas_sp(hb:bytesB l=true)(hl:l.length=r*c)(hr:r≤64)(hc:c≤64)(hs:s<2^64)(h:Val r s)(v:Vec):Sp (mv (rowsOf c r l) c) r (Bit (bas c l s)) v↔Sp (mv (rowsOf c r l) c) r (Bit s) v:=by
 rw[bas_grd hb hl hr hc hs h,(grd_mean hb hl hr hc hs h r (Nat.le_refl _)).2];exact sp_congr fun k hk=>⟨fun e=>e.1,fun e=>⟨e,hk⟩⟩
theorem bas_rk(hb:bytesB l=true)(hl:l.length=r*c)(hr:r≤64)(hc:c≤64)(hs:s<2^64)(h:Val r s):rho c l (bas c l s)=rho c l s:=by
 rw[rho_rk hb hl hr hc hs h,rho_rk hb hl hr hc (bas_lt hb hl hr hc hs h) (bas_val hb hl hr hc hs h)];exact rkS_span (bas_sp hb hl hr hc hs h)
theorem bas_card(hb:bytesB l=true)(hl:l.length=r*c)(hr:r≤64)(hc:c≤64)(hs:s<2^64)(h:Val r s):(setL (bas c l s)).length=rho c l s:=by
 have hpb:=pick_bytes (c:=c) hb (ints (setL s));have hpl:=pk_len hl h;have hri:=trans_rr (l:=pk c l s) hpb hpl (setL_length s) hc;have e1:setL (bas c l s)=(fstP (setL s).length c (pk c l s)).map fun p=>(setL s).getD p.toNat 0:=by
  unfold bas;refine setL_ofL ?_ ?_
  ·rw[List.pairwise_iff_getElem];intro i k hi hk hik;rw[List.length_map]at hi hk
   rw[List.getElem_map,List.getElem_map];have h1:=hri.mono i k hik hk;have h2:=hri.lt k hk;unfold pv at h1 h2;rw[List.getD_eq_getElem?_getD (l:=fstP _ _ _),List.getElem?_eq_getElem hi,List.getD_eq_getElem?_getD (l:=fstP _ _ _),List.getElem?_eq_getElem hk]at h1
   rw[List.getD_eq_getElem?_getD (l:=fstP _ _ _),List.getElem?_eq_getElem hk]at h2
   exact setL_mono s h1 h2
  ·intro i hi;obtain⟨p,hp,rfl⟩:=List.mem_map.1 hi;obtain⟨k,hk,rfl⟩:=List.getElem_of_mem hp;have h2:=hri.lt k hk;unfold pv at h2;rw[List.getD_eq_getElem?_getD (l:=fstP _ _ _),List.getElem?_eq_getElem hk]at h2
   exact(mem_setL.1 (setL_at s h2)).1
 rw[e1,List.length_map];show _=(redL (setL s).length c (pk c l s)).2.length;rw[redL_rk];exact rk_trans hpb hpl (setL_length s) hc
end
end Go.Proofs.YtkagobkedifhkaaDoor.M
namespace Go.Proofs.YtkagobkedifhkaaDoor.M
open Go.RowKit Go.Proofs.YtkagobkedifhkaaDoorW.PrintWords Go.Proofs.YtkagobkedifhkaaDoorW.PrintLast Go.Proofs.YtkagobkedifhkaaDoorW.PrintMore Go.Proofs.YtkagobkedifhkaaDoor.Q
set_option linter.unusedVariables false
theorem may_eq18(n:Int):subset_may.f n=some (decide (0≤n)&&decide (n≤64)):=by
 unfold subset_may.f;by_cases h:0≤n
 ·rw[if_pos h];simp[h]
 ·rw[if_neg h];simp[h]
theorem low_eq18{n:Nat}(hn:n≤64):subset_low.f (n:Int)=some ((2^n-1:Nat):Int):=by
 unfold subset_low.f;rw[if_pos za]
 congr 1
 rcases Nat.lt_or_ge n 64 with h|h
 ·rw[shl_one h];have h1:2^n<2^64:=pow_lt h;have h0:0<2^n:=Nat.pow_pos zc;rw[wu64 za za];omega
 ·obtain rfl:n=64:=by omega
  rw[shl_one_64 za];decide
theorem Full18{n:Nat}(hn:n≤64):subset_Full.f (n:Int)=some (((2^n-1:Nat):Int),0):=by
 unfold subset_Full.f;rw[may_eq18,Option.bind_some,if_pos zl,low_eq18 hn];rfl
theorem rFull18{n:Nat}(hn:n≤64):Ends (fun k=>recoupref06_Full.f k (n:Int)) (((2^n-1:Nat):Int),0):=by
 have hf:=refFull_eq (n:Int);have e:fullV (n:Int)=(((2^n-1:Nat):Int),0):=by unfold fullV;rw[if_pos ⟨by omega,by omega⟩,Int.toNat_natCast]
 rwa [e]at hf
def lft(r s:Nat):Nat:=wo (2^r-1) s
section
variable {r c s:Nat} {l:List Int}
theorem low18(hr:r≤64):2^r-1<2^64:=low_lt hr
theorem bit_low(r i:Nat):Bit (2^r-1) i↔i<r:=by unfold Bit;rw[testBit_low,decide_eq_true_eq]
theorem lft_bit(hr:r≤64)(hs:s<2^64)(i:Nat):Bit (lft r s) i↔i<r∧ ¬Bit s i:=by
 unfold lft;rw[bit_wo (low18 hr) hs,bit_low]
theorem lft_lt(hr:r≤64):lft r s<2^64:=wo_lt (low18 hr)
theorem lft_val(hr:r≤64)(hs:s<2^64):Val r (lft r s):=by
 rw[val_bit (lft_lt hr)];exact fun i hi=>((lft_bit hr hs i).1 hi).1
theorem hasB_bit(hs:s<2^64)(i:Nat):Q.hasB (s:Int) i=s.testBit i:=by
 have h:=Q.hasB_eq (s:Int) i;rw[Has_eq hs,Int.toNat_natCast]at h
 injection h with h;rw[←h];simp
theorem orL_go: ∀(L:List Nat) (t:Nat),t<2^64→(∀i∈L,i<64)→L.foldl (fun(s:Int) (i:Nat)=>Go.bits .or .u64 s (shl .u64 1 (i:Int))) (t:Int)=((t|||ofL L:Nat):Int)
 | [],t,_,_=>by rw[ofL_nil,Nat.or_zero];rfl
 |a::L,t,ht,h=>by
  have ha:a<64:=h a List.mem_cons_self;rw[List.foldl_cons,shl_one ha,or_one ht ha,orL_go L (t|||2^a) (lt_one ht ha) fun i hi=>h i (List.mem_cons_of_mem _ hi),ofL_cons,Nat.or_assoc]
theorem orL_nat(L:List Nat)(h: ∀i∈L,i<64):Q.orL L=((ofL L:Nat):Int):=by
 have:=orL_go L 0 zc h;rw[Nat.zero_or]at this
 exact this
theorem left_set(hr:r≤64)(hs:s<2^64):Q.orL (Q.leftL (s:Int) (r:Int).toNat)=((lft r s:Nat):Int):=by
 rw[Int.toNat_natCast];have hm: ∀i∈Q.leftL (s:Int) r,i<r∧s.testBit i=false:=fun i hi=>by
  obtain⟨h1,h2⟩:=List.mem_filter.1 hi;rw[hasB_bit hs]at h2
  exact⟨List.mem_range.1 h1,by simpa using h2⟩
 rw[orL_nat _ fun i hi=>by have:=(hm i hi).1;omega]
 congr 1
 refine bit_ext fun i=>?_;rw[lft_bit hr hs];unfold Bit;rw[testBit_ofL,decide_eq_true_eq];constructor
 ·intro hi;have:=hm i hi;exact⟨this.1,by rw[this.2];decide⟩
 ·rintro⟨h1,h2⟩;refine List.mem_filter.2 ⟨List.mem_range.2 h1,?_⟩;rw[hasB_bit hs];simpa using h2
theorem rho_le(hb:bytesB l=true)(hl:l.length=r*c)(hc:c≤64)(h:Val r s):rho c l s≤c:=by
 have hpb:=pick_bytes (c:=c) hb (ints (setL s));have hpl:=pk_len hl h;have h1:=fst_len (l:=pk c l s) hpb hpl (setL_length s) hc;have h2:rho c l s=(fstP (setL s).length c (pk c l s)).length:=by
  show(redL (setL s).length c (pk c l s)).2.length=_;rw[redL_rk];exact(rk_trans hpb hpl (setL_length s) hc).symm
 omega
def Gen(r c:Nat):Prop:=1≤c∧c≤r
theorem rec_bad{a b x:Int}(h:matrix_Right.f a b l=some false):Ends (fun k=>Q.verdict_rec.f k a b l x) (0,false,3):=by
 unfold Q.verdict_rec.f;exact Ends.bind1 h (Ends.neg (fun e=>by cases e.1) (Ends.const rfl))
theorem rec_shape{x:Int}(hl:l.length=r*c)(hr:r≤64)(hc:c≤64)(h: ¬Gen r c):Ends (fun k=>Q.verdict_rec.f k (r:Int) (c:Int) l x) (0,false,3):=by
 unfold Q.verdict_rec.f;exact Ends.bind1 (right_of hr hc hl).1 (Ends.neg (fun e=>h ⟨by have:=e.2.1;omega,by have:=e.2.2;omega⟩) (Ends.const rfl))
theorem rec_arg(hl:l.length=r*c)(hr:r≤64)(hc:c≤64)(hs:s<2^64)(h:Gen r c)(hv: ¬Val r s):Ends (fun k=>Q.verdict_rec.f k (r:Int) (c:Int) l (s:Int)) (0,false,2):=by
 unfold Q.verdict_rec.f;refine Ends.bind1 (right_of hr hc hl).1 (Ends.pos ⟨rfl,by have:=h.1;omega,by have:=h.2;omega⟩ (Ends.bind1 (Full18 hr) (Ends.neg (fun e=>hv ((val_iff hr hs).1 e.2)) (Ends.const rfl))))
def src(r c:Nat)(l:List Int)(s:Nat):Nat:=bas c l (lft r s)
theorem rec_eq(hb:bytesB l=true)(hl:l.length=r*c)(hr:r≤64)(hc:c≤64)(hs:s<2^64)(h:Gen r c)(hv:Val r s):
 Ends (fun k=>Q.verdict_rec.f k (r:Int) (c:Int) l (s:Int)) (if rho c l (lft r s)=c then((src r c l s:Int),true,0)else(0,false,0)):=by
 have hx:=lft_lt (s:=s) hr;have hxv:=lft_val hr hs;have hle:=rho_le hb hl hc hxv;have hcard:=bas_card hb hl hr hc hx hxv;unfold Q.verdict_rec.f;refine Ends.bind1 (right_of hr hc hl).1 (Ends.pos ⟨rfl,by have:=h.1;omega,by have:=h.2;omega⟩ (Ends.bind1 (Full18 hr) (Ends.pos ⟨rfl,(val_iff hr hs).2 hv⟩ ?_)));rw[left_set hr hs];refine Ends.bind (Basis7 hb hl hr hc hx hxv) (Ends.pos rfl (Ends.bind1 (Count_eq (bas_lt hb hl hr hc hx hxv)) ?_));rw[hcard];by_cases e:rho c l (lft r s)=c
 ·rw[if_pos e];exact Ends.neg za (Ends.const rfl)
 ·rw[if_neg e];exact Ends.pos za (Ends.const rfl)
theorem gen_eq(hl:l.length=r*c)(hr:r≤64)(hc:c≤64):recoupref16_Generator.f (r:Int) (c:Int) l=some (decide (1≤c)&&decide (c≤r)):=by
 unfold recoupref16_Generator.f;rw[(right_of hr hc hl).2,Option.bind_some,if_pos rfl];by_cases h:(c:Int)≥1
 ·rw[if_pos h,show decide (1≤c)=true from decide_eq_true za,Bool.true_and]
  congr 1
  exact decide_eq_decide.2 za
 ·rw[if_neg h,show decide (1≤c)=false from decide_eq_false za,Bool.false_and]
theorem rleft_bad{a b x:Int}(h:recoupref03_Right.f a b l=some false):Ends (fun k=>recoupref18_left.f k a b l x) (0,3):=by
 have hg:recoupref16_Generator.f a b l=some false:=by unfold recoupref16_Generator.f;rw[h];rfl
 unfold recoupref18_left.f;exact Ends.bind1 hg (Ends.neg zc (Ends.const rfl))
theorem rleft_shape{x:Int}(hl:l.length=r*c)(hr:r≤64)(hc:c≤64)(h: ¬Gen r c):Ends (fun k=>recoupref18_left.f k (r:Int) (c:Int) l x) (0,3):=by
 unfold recoupref18_left.f;refine Ends.bind1 (gen_eq hl hr hc) (Ends.neg (fun e=>h ?_) (Ends.const rfl));rw[Bool.and_eq_true,decide_eq_true_eq,decide_eq_true_eq]at e
 exact e
theorem gen_true(h:Gen r c):(decide (1≤c)&&decide (c≤r))=true:=by
 rw[Bool.and_eq_true,decide_eq_true_eq,decide_eq_true_eq];exact h
theorem rleft_arg(hl:l.length=r*c)(hr:r≤64)(hc:c≤64)(hs:s<2^64)(h:Gen r c)(hv: ¬Val r s):Ends (fun k=>recoupref18_left.f k (r:Int) (c:Int) l (s:Int)) (0,2):=by
 unfold recoupref18_left.f;exact Ends.bind1 (gen_eq hl hr hc) (Ends.pos (gen_true h) (Ends.bind (rFull18 hr) (Ends.neg (fun e=>hv ((val_iff hr hs).1 e)) (Ends.const rfl))))
theorem rleft_eq(hl:l.length=r*c)(hr:r≤64)(hc:c≤64)(hs:s<2^64)(h:Gen r c)(hv:Val r s):Ends (fun k=>recoupref18_left.f k (r:Int) (c:Int) l (s:Int)) ((lft r s:Int),0):=by
 unfold recoupref18_left.f;refine Ends.bind1 (gen_eq hl hr hc) (Ends.pos (gen_true h) (Ends.bind (rFull18 hr) (Ends.pos ((val_iff hr hs).2 hv) (Ends.const ?_))));rw[show Go.bits .andNot .u64 ((2^r-1:Nat):Int) (s:Int)=((wo (2^r-1) s:Nat):Int)from bandNot (low18 hr) hs];rfl
theorem rrec_no{a b x e:Int}(he:e≠0)(h:Ends (fun k=>recoupref18_left.f k a b l x) (0,e)):Ends (fun k=>recoupref18_Recovers.f k a b l x) (false,e):=by
 unfold recoupref18_Recovers.f;exact Ends.bind h (Ends.neg he (Ends.const rfl))
theorem rrec_eq(hb:bytesB l=true)(hl:l.length=r*c)(hr:r≤64)(hc:c≤64)(hs:s<2^64)(h:Gen r c)(hv:Val r s):Ends (fun k=>recoupref18_Recovers.f k (r:Int) (c:Int) l (s:Int)) (decide (rho c l (lft r s)=c),0):=by
 have hC:=rCovers7 (rRank7 hb hl hr hc (lft_lt (s:=s) hr) (lft_val hr hs));rw[if_pos rfl]at hC
 have e:((rho c l (lft r s):Int)==(c:Int))=decide (rho c l (lft r s)=c):=by
  rw[Bool.eq_iff_iff,beq_iff_eq,decide_eq_true_eq];omega
 rw[e]at hC
 unfold recoupref18_Recovers.f;exact Ends.bind (rleft_eq hl hr hc hs h hv) (Ends.pos rfl (Ends.bind hC (Ends.const rfl)))
end
theorem args18{a b x:Int}{l:List Int}(hb:bytesB l=true)(ha:(Lit.int .i64 a).wf=true)(hx:(Lit.int .u64 x).wf=true):
 (∃e:Int,e≠0∧Ends (fun k=>Q.verdict_rec.f k a b l x) (0,false,e)∧Ends (fun k=>recoupref18_left.f k a b l x) (0,e))∨
 ∃r c s:Nat,a=(r:Int)∧b=(c:Int)∧x=(s:Int)∧r≤64∧c≤64∧l.length=r*c∧s<2^64∧Gen r c∧Val r s:=by
 rcases args7 (b:=b) (l:=l) ha hx with⟨h1,h2⟩|⟨r,c,s,rfl,rfl,rfl,hr,hc,hl,hs⟩
 ·exact .inl ⟨3,by decide,rec_bad h2,rleft_bad h1⟩
 ·by_cases hg:Gen r c
  ·by_cases hv:Val r s
   ·exact .inr ⟨r,c,s,rfl,rfl,rfl,hr,hc,hl,hs,hg,hv⟩
   ·exact .inl ⟨2,by decide,rec_arg hl hr hc hs hg hv,rleft_arg hl hr hc hs hg hv⟩
  ·exact .inl ⟨3,by decide,rec_shape hl hr hc hg,rleft_shape hl hr hc hg⟩
end Go.Proofs.YtkagobkedifhkaaDoor.M
namespace Go.Proofs.YtkagobkedifhkaaDoor.M
open Go.RowKit Go.Proofs.YtkagobkedifhkaaDoorW.PrintWords Go.Proofs.YtkagobkedifhkaaDoorW.PrintLast Go.Proofs.YtkagobkedifhkaaDoorW.PrintMore Go.Proofs.YtkagobkedifhkaaDoor.Q
set_option linter.unusedVariables false
theorem anch18:Ends (fun k=>recouplaw18_anchored.f k) true:=Ends.of_mono recouplaw18_anchored.mono (K:=70) zb
theorem gen18_no{a b x e:Int}{l:List Int}(he:e≠0)(h:Ends (fun k=>recoupref18_left.f k a b l x) (0,e)):Ends (fun k=>recouplaw18_generator.f k a b l x) false:=by
 unfold recouplaw18_generator.f;exact Ends.bind (rrec_no he h) (Ends.const (by simpa using he))
theorem gen18_eq{r c s:Nat}{l:List Int}(hb:bytesB l=true)(hl:l.length=r*c)(hr:r≤64)(hc:c≤64)(hs:s<2^64)(h:Gen r c)(hv:Val r s):Ends (fun k=>recouplaw18_generator.f k (r:Int) (c:Int) l (s:Int)) true:=by
 unfold recouplaw18_generator.f;exact Ends.bind (rrec_eq hb hl hr hc hs h hv) (Ends.const rfl)
theorem unit_getD{n i b:Nat}(hb:b<n):(unitRow n i).getD b 0=if b=i then 1 else 0:=by
 unfold unitRow;by_cases e:b=i
 ·subst e;rw[if_pos rfl,getD_set_self (by simpa using hb)]
 ·rw[if_neg e,getD_set_ne (fun x=>e x.symm),List.getD_eq_getElem?_getD,List.getElem?_replicate_of_lt hb];rfl
theorem units_length(n i:Nat):(unitsTo n i).length=n:=by simp[unitsTo]
theorem units_get{n k:Nat}(hk:k<n):(unitsTo n n).getD k [] =unitRow n k:=by
 unfold unitsTo;rw[List.getD_eq_getElem?_getD,List.getElem?_map,List.getElem?_range hk];simp[hk]
theorem unit_bytes(n i:Nat):bytesB (unitRow n i)=true:=by
 unfold bytesB;rw[List.all_eq_true];intro x hx;unfold unitRow at hx;rcases List.mem_or_eq_of_mem_set hx with h|rfl
 ·rw[List.eq_of_mem_replicate h];rfl
 ·rfl
theorem shp_units{n:Nat}{l:List Int}(hb:bytesB l=true)(hl:l.length=n*n)(hn:n≤64):Shp (rowsOf n n l) (unitsTo n n) n n:=by
 refine shp_of hb hl ⟨hn,hn⟩ (units_length n n) ?_ (fun i hi=>by rw[units_get hi];simp[unitRow]) hn;rw[rowsB,List.all_eq_true];intro x hx;obtain⟨i,hi,rfl⟩:=List.getElem_of_mem hx;have hin:i<n:=by rw[units_length]at hi;exact hi
 have:=units_get hin;rw[List.getD_eq_getElem?_getD,List.getElem?_eq_getElem hi,Option.getD_some]at this
 rw[this];exact unit_bytes n i
theorem units_col{n i q:Nat}(hi:i<n)(hq:q<n):entry (unitsTo n n) i q=entry (Ycol (unitRow n q) n) i 0:=by
 have e1:(Ycol (unitRow n q) n).getD i [] =colRow (unitRow n q) i:=fill_get hi;unfold entry;rw[units_get hi,e1,unit_getD hq];show _=(unitRow n q).getD i 0;rw[unit_getD hi];by_cases e:q=i
 ·rw[if_pos e,if_pos e.symm]
 ·rw[if_neg e,if_neg (fun x=>e x.symm)]
def invD(n:Nat)(l:List Int):List (List Int):=(redTo (rowsOf n n l) (unitsTo n n) n).1.2
theorem solve_range{D:List (List Int)}{n:Nat} : ∀k,k≤n→ ∀i,i<n→(solveTo ((List.range n).map fun(x:Nat)=>(x:Int)) D n k).getD i 0=if i<k then entry D i 0 else 0
 |0,_,i,hi=>by
  rw[if_neg za];unfold solveTo;rw[List.getD_eq_getElem?_getD,List.getElem?_replicate_of_lt hi];rfl
 |k+1,hk,i,hi=>by
  have ih:=solve_range (D:=D) (n:=n) k za i hi;have e1:((List.range n).map fun(x:Nat)=>(x:Int)).getD k 0=(k:Int):=by
   rw[List.getD_eq_getElem?_getD,List.getElem?_map,List.getElem?_range za];rfl
  rw[solveTo,if_pos zl,e1,Int.toNat_natCast];by_cases e:i=k
  ·subst e;rw[getD_set_self (by rw[solveTo_length];exact hi),if_pos za]
  ·rw[getD_set_ne (fun x=>e x.symm),ih];by_cases e2:i<k
   ·rw[if_pos e2,if_pos za]
   ·rw[if_neg e2,if_neg za]
theorem inv_col{n j:Nat}{l:List Int}(hb:bytesB l=true)(hl:l.length=n*n)(hn:n≤64)(hf:(redL n n l).2.length=n)(hj:j<n):
 ∃c:List Int,solR n n l (unitRow n j)=(c,true,0)∧c.length=n∧ ∀i,i<n→c.getD i 0=entry (invD n l) i j:=by
 have hY:Shp (rowsOf n n l) (Ycol (unitRow n j) n) n 1:=shp_Y hb (unit_bytes n j) hl hn hn (by simp[unitRow]);have hD:=shp_units hb hl hn;have hlen:=rowsOf_length n n l;have e:=red_same (rowsOf n n l) (List.replicate n []) (Ycol (unitRow n j) n) n;have D:(redTo (rowsOf n n l) (Ycol (unitRow n j) n) n).2.length=n:=by rw[←e.2];exact hf
 have hP:=red_full hY D n (Nat.le_refl _);unfold solR;simp only[];have hbad: ¬badFrom (redTo (rowsOf n n l) (Ycol (unitRow n j) n) n).2 (redTo (rowsOf n n l) (Ycol (unitRow n j) n) n).1.2 n 0=true:=by
  rw[bad_iff];rintro⟨i,_,h2,h3,_⟩;omega
 rw[if_neg hbad];refine⟨_,rfl,solveTo_length _ _ _ _,fun i hi=>?_⟩;rw[hP,solve_range n (Nat.le_refl _) i hi,if_pos hi];exact(red_col hD hY hj (fun p hp=>units_col za hj) n i za).symm
abbrev IR:=Int×Int×List Int×Int
def invR(n:Nat)(l:List Int):IR:=if(redL n n l).2.length<n then(0,0,[],6)else((n:Int),(n:Int),(invD n l).flatten,0)
theorem gInverse_eq{n:Nat}{l:List Int}(hR:matrix_Right.f (n:Int) (n:Int) l=some true)(hb:bytesB l=true):gauss_Inverse.f (n:Int) (n:Int) l=some (invR n l):=by
 unfold gauss_Inverse.f;rw[hR,Option.bind_some,if_pos rfl,if_pos rfl,if_pos hb];have e:=(red_same (rowsOf n n l) (unitsTo n n) (List.replicate n []) n).2;unfold gauss_Inverse.st invR redL invD;simp only[Int.toNat_natCast];rw[e];by_cases h:(redTo (rowsOf n n l) (List.replicate n []) n).2.length<n
 ·rw[if_pos za,if_pos h]
 ·rw[if_neg za,if_neg h]
def midU(n i:Nat):List (List Int):=(List.range n).map fun r=>if r<i then unitRow n r else List.replicate n 0
theorem midU_len(n i:Nat):(midU n i).length=n:=by simp[midU]
theorem midU_elem{n i p:Nat}(h:p<(midU n i).length):(midU n i)[p] =if p<i then unitRow n p else List.replicate n 0:=by simp[midU]
theorem midU_get{n i p:Nat}(h:p<n):(midU n i).getD p [] =if p<i then unitRow n p else List.replicate n 0:=by
 have h2:p<(midU n i).length:=by rw[midU_len];exact h
 rw[List.getD_eq_getElem?_getD,List.getElem?_eq_getElem h2,Option.getD_some,midU_elem]
def idM(n:Nat):List (List Int):=midU n n
theorem idM_get{n i:Nat}(hi:i<n):(idM n).getD i [] =unitRow n i:=by unfold idM;rw[midU_get hi,if_pos hi]
theorem getElem_row{L:List (List Int)}{q:Nat}(h:q<L.length):L[q] =L.getD q []:=by rw[List.getD_eq_getElem?_getD,List.getElem?_eq_getElem h];rfl
section
variable {n:Nat} {l:List Int}
theorem invD_sh(hb:bytesB l=true)(hl:l.length=n*n)(hn:n≤64):Sh (invD n l) n∧(invD n l).length=n:=by
 have hs:=red_shp (shp_units hb hl hn) n;exact⟨Sh.of2 hs.1,hs.1.len.trans (hs.2.1.trans (rowsOf_length n n l))⟩
theorem right_inv(hb:bytesB l=true)(hl:l.length=n*n)(hn:n≤64)(hf:(redL n n l).2.length=n){i j:Nat}(hi:i<n)(hj:j<n):pe (rowsOf n n l) (invD n l) i j n=if i=j then 1 else 0:=by
 obtain⟨c,h1,h2,h3⟩:=inv_col hb hl hn hf hj;have hok:(solR n n l (unitRow n j)).2.1=true:=by rw[h1]
 have hs:=solR_sound hb hl hn hn (by simp[unitRow]) (unit_bytes n j) hok i hi;rw[h1]at hs
 have e:vv (unitRow n j) i=if i=j then 1 else 0:=by
  unfold vv;rw[unit_getD hi]
  split<;>rfl
 rw[←e,←hs];refine sm_congr fun k hk=>?_;rw[mv_at hk];unfold vv;rw[h3 k hk]
theorem left_inv(hb:bytesB l=true)(hl:l.length=n*n)(hn:n≤64)(hf:(redL n n l).2.length=n){i j:Nat}(hi:i<n)(hj:j<n):pe (invD n l) (rowsOf n n l) i j n=if i=j then 1 else 0:=by
 have hri:=ri_L hb hl hn hn;have hlen:=rowsOf_length n n l;have hK:Ker n n (mv (rowsOf n n l) n) (fun q=>(if q<n then pe (invD n l) (rowsOf n n l) q j n else 0)+(if q=j then 1 else 0)):=fun a ha=>by
  rw[dot_add];have e1:dot n (mv (rowsOf n n l) n a) (fun q=>if q<n then pe (invD n l) (rowsOf n n l) q j n else 0)=toE (entry (rowsOf n n l) a j):=by
   have s1:dot n (mv (rowsOf n n l) n a) (fun q=>if q<n then pe (invD n l) (rowsOf n n l) q j n else 0)=sm n (fun q=>sm n (fun x=>toE (entry (rowsOf n n l) a q)*toE (entry (invD n l) q x)*toE (entry (rowsOf n n l) x j))):=sm_congr fun q hq=>by
    show mv (rowsOf n n l) n a q*(if q<n then pe (invD n l) (rowsOf n n l) q j n else 0)=_;rw[if_pos hq,mv_at hq];unfold pe;rw[←sm_mul];exact sm_congr fun x _=>(mul_assoc _ _ _).symm
   rw[s1,sm_swap];have s2:sm n (fun x=>sm n (fun q=>toE (entry (rowsOf n n l) a q)*toE (entry (invD n l) q x)*toE (entry (rowsOf n n l) x j)))=sm n (fun x=>(if a=x then 1 else 0)*toE (entry (rowsOf n n l) x j)):=sm_congr fun x hx=>by
    rw[sm_mul_right]
    congr 1
    exact right_inv hb hl hn hf ha hx
   rw[s2,sm_one (k:=a) ha fun q hq hne=>by rw[if_neg (fun e=>hne e.symm),zero_mul],if_pos rfl,one_mul]
  have e2:dot n (mv (rowsOf n n l) n a) (fun q=>if q=j then 1 else 0)=toE (entry (rowsOf n n l) a j):=by
   have s1:dot n (mv (rowsOf n n l) n a) (fun q=>if q=j then 1 else 0)=sm n (fun q=>mv (rowsOf n n l) n a q*(if q=j then 1 else 0)):=rfl;rw[s1,sm_one (k:=j) hj fun q hq hne=>by rw[if_neg hne,mul_zero],if_pos rfl,mul_one,mv_at hj]
  rw[e1,e2,add_self]
 have G:=(ker_same (W:=n) (x:=fun q=>(if q<n then pe (invD n l) (rowsOf n n l) q j n else 0)+(if q=j then 1 else 0)) hri.span).2 (by rw[hlen];exact hK);have hall: ∀q,q<n→ ∃i,i<(redL n n l).2.length∧q=pv (redL n n l).2 i:=fun q hq=>by
  have hP:=red_full (shp_nil hb hl ⟨hn,hn⟩) hf n (Nat.le_refl _);refine⟨q,by omega,?_⟩;show q=pv (redTo (rowsOf n n l) (List.replicate n []) n).2 q;rw[hP];unfold pv;rw[List.getD_eq_getElem?_getD,List.getElem?_map,List.getElem?_range hq];rfl
 have hz:=hri.rr.ker_zero G (fun q hq hn=>by
  obtain⟨i,hi,e⟩:=hall q hq;exact absurd e (hn i hi)) i hi
 have D:(if i<n then pe (invD n l) (rowsOf n n l) i j n else 0)+(if i=j then(1:El)else 0)=0:=hz;rw[if_pos hi]at D
 exact add_cancel D
theorem prod_id{A B:List (List Int)}(h: ∀i j,i<n→j<n→pe A B i j n=if i=j then 1 else 0):prod A B n n n=idM n:=by
 refine List.ext_getElem (by rw[prod_length];unfold idM;rw[midU_len]) fun i h1 h2=>?_;rw[prod_length]at h1
 rw[getElem_row,getElem_row,prod_get h1,idM_get h1];refine List.ext_getElem (by rw[prow_length];simp[unitRow]) fun j g1 g2=>?_;rw[prow_length]at g1
 rw[getElem_getD,getElem_getD,prow_get g1,unit_getD g1,h i j h1 g1];by_cases e:i=j
 ·rw[if_pos e,if_pos e.symm];rfl
 ·rw[if_neg e,if_neg (fun x=>e x.symm)];rfl
end
end Go.Proofs.YtkagobkedifhkaaDoor.M
namespace Go.Proofs.YtkagobkedifhkaaDoor.M
open Go.RowKit Go.Proofs.YtkagobkedifhkaaDoorW.PrintWords Go.Proofs.YtkagobkedifhkaaDoorW.PrintLast Go.Proofs.YtkagobkedifhkaaDoorW.PrintMore Go.Proofs.YtkagobkedifhkaaDoor.Q
set_option linter.unusedVariables false
section
variable {r c s:Nat} {l y:List Int}
theorem list_val(hs:s<2^64)(h:Val r s)(i:Nat):i∈setL s↔Bit s i∧i<r:=mem_bit hs h i
open Classical in
end
end Go.Proofs.YtkagobkedifhkaaDoor.M
namespace Go.Proofs.YtkagobkedifhkaaDoor.M
open Go.RowKit Go.Proofs.YtkagobkedifhkaaDoorW.PrintWords Go.Proofs.YtkagobkedifhkaaDoorW.PrintLast Go.Proofs.YtkagobkedifhkaaDoorW.PrintMore Go.Proofs.YtkagobkedifhkaaDoor.Q
set_option linter.unusedVariables false
def djL(r:Nat)(L:List Nat)(W:Nat→Nat→Int)(D:List Int)(i:Nat):Nat→List Int
 |0=>D
 |j+1=>(djL r L W D i j).set (i*r+L.getD j 0) (W i j)
def diL(r c:Nat)(L:List Nat)(W:Nat→Nat→Int):Nat→List Int
 |0=>List.replicate (c*r) 0
 |i+1=>djL r L W (diL r c L W i) i L.length
theorem djL_len(r:Nat)(L:List Nat)(W:Nat→Nat→Int)(D:List Int)(i:Nat): ∀j,(djL r L W D i j).length=D.length
 |0=>rfl
 |j+1=>by rw[djL,List.length_set,djL_len]
theorem diL_len(r c:Nat)(L:List Nat)(W:Nat→Nat→Int): ∀i,(diL r c L W i).length=c*r
 |0=>List.length_replicate
 |i+1=>by rw[diL,djL_len,diL_len]
theorem at_small{i r b c:Nat}(hr:r≤64)(hi:i<c)(hc:c≤64)(hb:b<r):wrap64 (wrap64 ((i:Int)*(r:Int))+(b:Int))=((i*r+b:Nat):Int)∧i*r+b<c*r:=by
 have h1:i*r+r≤c*r:=by
  rw[←Nat.succ_mul];exact Nat.mul_le_mul_right _ hi
 have h2:c*r≤64*64:=Nat.mul_le_mul hc hr;refine⟨?_,by omega⟩;have h3:wrap64 ((i*r:Nat):Int)=((i*r:Nat):Int):=by
  generalize i*r=q at*;exact w64 za za
 rw[show((i:Int)*(r:Int))=((i*r:Nat):Int)from by simp,h3];generalize i*r=q at*;rw[w64 za za];simp
theorem rd_getD{L:List Nat}{j:Nat}(h:j<L.length):rd (ints L) (j:Int)=((L.getD j 0:Nat):Int):=by
 rw[rd_ints L j h,List.getD_eq_getElem?_getD,List.getElem?_eq_getElem h];rfl
section
variable {r c:Nat} {l:List Int} {L:List Nat}
theorem dec_l1(hr:r≤64)(hc:c≤64)(hL:L.length=c)(hLr: ∀j,j<c→L.getD j 0<r){O:List Int}(hO:O.length=c*c){i:Nat}(hi:i<c){D:List Int}(hD:D.length=c*r)(s0 s1:Int){R:Int×Int×List Int×Int}
 (hR:Ends (fun k=>verdict_decode.l0 k (ints L) (c:Int) ((i+1:Nat):Int) (r:Int) (c:Int) l (c:Int) (c:Int) O s0 s1 (djL r L (fun i j=>O.getD (i*c+j) 0) D i c)) R):
 ∀d j:Nat,j+d=c→Ends (fun k=>verdict_decode.l1 k (ints L) (i:Int) (c:Int) (i:Int) (ints L) (c:Int) (j:Int) (r:Int) (c:Int) l (c:Int) (c:Int) O s0 s1 (djL r L (fun i j=>O.getD (i*c+j) 0) D i j)) R:=by
 intro d
 induction d with
 |zero=>
  intro j hj;obtain rfl:j=c:=by omega
  refine Ends.succ (fun k=>by rw[verdict_decode.l1]) ?_;refine Ends.neg za ?_;rw[wstep za];exact hR
 |succ d ih=>
  intro j hj;have ihn:=ih (j+1) za;rw[←wstep za]at ihn
  have hjc:j<c:=by omega
  have hb:=hLr j hjc;have l1:=(at_small hc hi hc hjc).2;have l2:=(at_small hr hi hc hb).2;have hjL:j<L.length:=by omega
  refine Ends.succ (fun k=>by rw[verdict_decode.l1]) ?_;refine Ends.pos za ?_;refine Ends.pos za ?_;refine Ends.pos zaj ?_;rw[(at_small hc hi hc hjc).1,rd_getD hjL,(at_small hr hi hc hb).1];refine Ends.pos za ?_;refine Ends.pos za ?_;refine Ends.pos za ?_;refine Ends.pos (by rw[djL_len];omega) ?_;rw[Int.toNat_natCast,rd_nat];exact ihn
theorem dec_l0(hr:r≤64)(hc:c≤64)(hL:L.length=c)(hLr: ∀j,j<c→L.getD j 0<r){O:List Int}(hO:O.length=c*c)(s0 s1:Int): ∀d i:Nat,i+d=c→
 Ends (fun k=>verdict_decode.l0 k (ints L) (c:Int) (i:Int) (r:Int) (c:Int) l (c:Int) (c:Int) O s0 s1 (diL r c L (fun i j=>O.getD (i*c+j) 0) i)) (s0,s1,diL r c L (fun i j=>O.getD (i*c+j) 0) c,0):=by
 intro d
 induction d with
 |zero=>
  intro i hi;obtain rfl:i=c:=by omega
  refine Ends.succ (fun k=>by rw[verdict_decode.l0]) ?_;exact Ends.neg za (Ends.const rfl)
 |succ d ih=>
  intro i hi;have ihn:=ih (i+1) za;rw[diL,hL]at ihn
  refine Ends.succ (fun k=>by rw[verdict_decode.l0]) ?_;refine Ends.pos za ?_;have:=dec_l1 (l:=l) hr hc hL hLr hO (show i<c by omega) (diL_len r c L (fun i j=>O.getD (i*c+j) 0) i) s0 s1 ihn c 0 za;rw[djL]at this
  rw[ints_length,hL];exact this
end
theorem inv_row{n:Nat}{P:List Int}(hb:bytesB P=true)(hl:P.length=n*n)(hn:n≤64)(hf:(redL n n P).2.length=n){i:Nat}(hi:i<n):lc (mv (rowsOf n n P) n) n (mv (invD n P) n i)=vv (unitRow n i):=by
 rw[←mul_mv hi,prod_id fun i j hi hj=>left_inv hb hl hn hf hi hj]
 funext j
 by_cases hj:j<n
 ·rw[mv_at hj];unfold entry;rw[idM_get hi];rfl
 ·rw[mv_out hj,vv_out (by simp[unitRow];omega)]
section
variable {r c s:Nat} {l:List Int}
def decD(r c:Nat)(l:List Int)(s:Nat):List Int:=diL r c (setL (src r c l s)) (fun i j=>(invD c (pk c l (src r c l s))).flatten.getD (i*c+j) 0) c
theorem src_facts(hb:bytesB l=true)(hl:l.length=r*c)(hr:r≤64)(hc:c≤64)(hs:s<2^64)(e:rho c l (lft r s)=c):
 src r c l s<2^64∧Val r (src r c l s)∧(setL (src r c l s)).length=c∧(pk c l (src r c l s)).length=c*c∧bytesB (pk c l (src r c l s))=true∧(redL c c (pk c l (src r c l s))).2.length=c∧Indep (mv (rowsOf c c (pk c l (src r c l s))) c) c:=by
 have hx:=lft_lt (s:=s) hr;have hxv:=lft_val hr hs;have h1:src r c l s<2^64:=bas_lt hb hl hr hc hx hxv;have h2:Val r (src r c l s):=bas_val hb hl hr hc hx hxv;have h3:(setL (src r c l s)).length=c:=(bas_card hb hl hr hc hx hxv).trans e;have h4:(pk c l (src r c l s)).length=c*c:=by have:=pk_len hl h2;rwa [h3]at this
 have h5:=pick_bytes (c:=c) hb (ints (setL (src r c l s)));have h6:rho c l (src r c l s)=c:=(bas_rk hb hl hr hc hx hxv).trans e;have h7:(redL c c (pk c l (src r c l s))).2.length=c:=by
  have:(redL (setL (src r c l s)).length c (pk c l (src r c l s))).2.length=c:=h6
  rwa [h3]at this
 refine⟨h1,h2,h3,h4,h5,h7,?_⟩;have h8:=(free_list (b:=mv (rowsOf c r l) c) (list_val h1 h2) ((val_bit h1).1 h2)).2.1 (by rw[←rho_rk hb hl hr hc h1 h2,h6,h3]);rw[h3]at h8
 refine indep_congr (fun k hk=>?_) h8;have:=pk_row' (c:=c) hl h2 (k:=k) za;rw[h3]at this
 exact this.symm
theorem decode18_eq(hb:bytesB l=true)(hl:l.length=r*c)(hr:r≤64)(hc:c≤64)(hs:s<2^64)(h:Gen r c)(hv:Val r s)(e:rho c l (lft r s)=c):Ends (fun k=>verdict_decode.f k (r:Int) (c:Int) l ((src r c l s:Nat):Int)) ((c:Int),(r:Int),decD r c l s,0):=by
 obtain⟨h1,h2,h3,h4,h5,h6,h7⟩:=src_facts hb hl hr hc hs e;have hpick:=gPick_eq hl hr hc (val_in h2) (by rw[ints_length,h3];exact hc);rw[ints_length,h3]at hpick
 have hinv:=gInverse_eq (right_of hc hc h4).1 h5;have hir:invR c (pk c l (src r c l s))=((c:Int),(c:Int),(invD c (pk c l (src r c l s))).flatten,0):=by unfold invR;rw[if_neg za]
 rw[hir]at hinv
 obtain⟨hsh,hlen⟩:=invD_sh h5 h4 hc;have hO:(invD c (pk c l (src r c l s))).flatten.length=c*c:=by have:=flat_len hsh.u;rwa [hlen]at this
 have hmk:matrix_Make.f (c:Int) (r:Int)=some ((c:Int),(r:Int),List.replicate (c*r) 0,0):=by
  unfold matrix_Make.f matrix_side.f;rw[if_pos za,Option.bind_some,if_pos zl,if_pos za,Option.bind_some,if_pos zl,blank_some (by have:=Nat.mul_le_mul hc hr;omega)];rfl
 unfold verdict_decode.f;refine Ends.bind (List_eq h1) (Ends.bind1 hpick (Ends.pos rfl (Ends.bind1 hinv (Ends.pos rfl (Ends.bind1 hmk (Ends.pos rfl ?_))))));exact dec_l0 hr hc h3 (fun j hj=>h2 _ (setL_at _ za)) hO (c:Int) (r:Int) c 0 za
theorem Dec18_eq(hb:bytesB l=true)(hl:l.length=r*c)(hr:r≤64)(hc:c≤64)(hs:s<2^64)(h:Gen r c)(hv:Val r s)(e:rho c l (lft r s)=c):Ends (fun k=>verdict_Decode.f k (r:Int) (c:Int) l (s:Int)) ((c:Int),(r:Int),decD r c l s,true,0):=by
 have hrec:=rec_eq hb hl hr hc hs h hv;rw[if_pos e]at hrec
 unfold verdict_Decode.f;exact Ends.bind hrec (Ends.pos rfl (Ends.bind (decode18_eq hb hl hr hc hs h hv e) (Ends.const rfl)))
theorem Dec18_no{a b x e:Int}(h:Ends (fun k=>verdict_rec.f k a b l x) (0,false,e)):Ends (fun k=>verdict_Decode.f k a b l x) (0,0,[],false,e):=by
 unfold verdict_Decode.f;exact Ends.bind h (Ends.neg (show¬(false=true)by decide) (Ends.const rfl))
end
end Go.Proofs.YtkagobkedifhkaaDoor.M
namespace Go.Proofs.YtkagobkedifhkaaDoor.M
open Go.RowKit Go.Proofs.YtkagobkedifhkaaDoorW.PrintWords Go.Proofs.YtkagobkedifhkaaDoorW.PrintLast Go.Proofs.YtkagobkedifhkaaDoorW.PrintMore Go.Proofs.YtkagobkedifhkaaDoor.Q
set_option linter.unusedVariables false
theorem bytes_put{D:List Int}(h:bytesB D=true){x:Int}(hx:0≤x∧x<256)(q:Nat):bytesB (D.set q x)=true:=by
 unfold bytesB at*;rw[List.all_eq_true]at*
 intro y hy;rcases List.mem_or_eq_of_mem_set hy with h1|h1
 ·exact h y h1
 ·subst h1;simp[hx.1,hx.2]
theorem flatB{M:List (List Int)}(h:rowsB M=true):bytesB M.flatten=true:=by
 unfold rowsB at h;unfold bytesB;rw[List.all_eq_true]at h⊢
 intro x hx;obtain⟨y,hy,hxy⟩:=List.mem_flatten.1 hx;have h2:=h y hy;unfold bytesB at h2;rw[List.all_eq_true]at h2
 exact h2 x hxy
theorem djL_bytes{r:Nat}{L:List Nat}{W:Nat→Nat→Int}{D:List Int}{i:Nat}(hW: ∀q,0≤W i q∧W i q<256)(hD:bytesB D=true): ∀j,bytesB (djL r L W D i j)=true
 |0=>hD
 |j+1=>bytes_put (djL_bytes hW hD j) (hW j) _
theorem diL_bytes{r c:Nat}{L:List Nat}{W:Nat→Nat→Int}(hW: ∀p q,0≤W p q∧W p q<256): ∀i,bytesB (diL r c L W i)=true
 |0=>by
  unfold diL bytesB;rw[List.all_eq_true];intro x hx;rw[(List.mem_replicate.1 hx).2];decide
 |i+1=>djL_bytes (hW i) (diL_bytes hW i) _
theorem dotF_el{X Y:Nat→Int}(hX: ∀q,0≤X q∧X q<256)(hY: ∀q,0≤Y q∧Y q<256): ∀n,toE (dotF X Y n)=sm n fun x=>toE (X x)*toE (Y x)
 |0=>rfl
 |n+1=>by
  show toE (Go.bits .xor .u8 (dotF X Y n) (mulT (X n) (Y n)))=(sm n fun x=>toE (X x)*toE (Y x))+toE (X n)*toE (Y n);rw[xor_el,dotF_el hX hY n,mulT_el (hX n) (hY n)]
theorem dotF_range{X Y:Nat→Int} : ∀n,0≤dotF X Y n∧dotF X Y n<256
 |0=>(by decide:(0:Int)≤0∧(0:Int)<256)
 |n+1=>xor_range _ _
theorem mulF_eq{n m p:Nat}{a b:List Int}(ha:a.length=n*m)(hb:b.length=m*p)(ba:bytesB a=true)(bb:bytesB b=true):mulF n m p a b=(mulL n m p a b).flatten:=by
 refine List.ext_getElem (by rw[mulL_len];simp[mulF]) fun q h1 h2=>?_;have hq:q<n*p:=by simpa[mulF]using h1
 have hp:0<p:=by
  rcases Nat.eq_zero_or_pos p with h|h
  ·subst h;simp at hq
  ·exact h
 have hi:q / p<n:=(Nat.div_lt_iff_lt_mul hp).2 hq;have hj:q % p<p:=Nat.mod_lt q hp;have hqq:q / p*p+q % p=q:=by rw[Nat.mul_comm];exact Nat.div_add_mod q p
 have hR:(mulL n m p a b).flatten[q] =entry (prod (rowsOf m n a) (rowsOf p m b) n m p) (q / p) (q % p):=by
  rw[←flat_get (prod_U _ _ _ _ _) (by rw[prod_length];exact hi) hj,hqq,List.getD_eq_getElem?_getD];show _=((mulL n m p a b).flatten[q]?).getD 0;rw[List.getElem?_eq_getElem h2];rfl
 rw[hR,prod_entry hi hj];have hL:(mulF n m p a b)[q] =dotF (rowF a m (q / p)) (rowF (transL m p b) m (q % p)) m:=by simp[mulF]
 rw[hL];generalize q / p=i at*;generalize q % p=j at*;refine toE_inj (dotF_range _) (ofE_range _) ?_;rw[toE_ofE,dotF_el (X:=rowF a m i) (Y:=rowF (transL m p b) m j) (fun q=>getD_bytes ba _) (fun q=>transL_byte bb _)];unfold pe;refine sm_congr fun x hx=>?_;rw[rows_entry ha hi hx,rows_entry hb hx hj];have hjm:j*m+x<p*m:=by
  have:(j+1)*m≤p*m:=Nat.mul_le_mul_right _ hj;rw[Nat.add_mul,Nat.one_mul]at this
  omega
 have e:rowF (transL m p b) m j x=b.getD (x*p+j) 0:=by
  unfold rowF;rw[List.getD_eq_getElem?_getD,show transL m p b=(List.range (p*m)).map (fun q=>b.getD (q % m*p+q / m) 0)from rfl,List.getElem?_map,List.getElem?_range hjm];show b.getD ((j*m+x) % m*p+(j*m+x) / m) 0=_;rw[show(j*m+x) % m=x from by rw[Nat.add_comm,Nat.add_mul_mod_self_right,Nat.mod_eq_of_lt hx],show(j*m+x) / m=j from by rw[Nat.add_comm,Nat.add_mul_div_right _ _ za,Nat.div_eq_of_lt hx,Nat.zero_add]]
 rw[e];rfl
theorem gMul_eq{n m p:Nat}{a b:List Int}(hn:n≤64)(hm:m≤64)(hp:p≤64)(ha:a.length=n*m)(hb:b.length=m*p)(ba:bytesB a=true)(bb:bytesB b=true):
 matrix_Mul.f (n:Int) (m:Int) a (m:Int) (p:Int) b=some ((n:Int),(p:Int),(mulL n m p a b).flatten,0):=by
 unfold matrix_Mul.f;rw[(right_of hn hm ha).1,Option.bind_some,if_pos rfl,(right_of hm hp hb).1,Option.bind_some,if_pos rfl,if_pos rfl,if_pos ⟨ba,bb⟩,Int.toNat_natCast,Int.toNat_natCast,Int.toNat_natCast,mulF_eq ha hb ba bb]
section
variable {r c s:Nat} {l:List Int}
theorem decD_len:(decD r c l s).length=c*r:=diL_len _ _ _ _ _
theorem decD_bytes(hb:bytesB l=true)(hl:l.length=r*c)(hr:r≤64)(hc:c≤64)(hs:s<2^64)(e:rho c l (lft r s)=c):bytesB (decD r c l s)=true:=by
 obtain⟨h1,h2,h3,h4,h5,h6,h7⟩:=src_facts hb hl hr hc hs e;obtain⟨hsh,hlen⟩:=invD_sh h5 h4 hc;exact diL_bytes (fun p q=>getD_bytes (flatB hsh.b) _) _
def rebL(r c:Nat)(l:List Int)(s:Nat):List Int:=(mulL (setL s).length c r (pk c l s) (decD r c l s)).flatten
theorem Reb18_eq(hb:bytesB l=true)(hl:l.length=r*c)(hr:r≤64)(hc:c≤64)(hs:s<2^64)(h:Gen r c)(hv:Val r s)(e:rho c l (lft r s)=c):Ends (fun k=>verdict_Rebuild.f k (r:Int) (c:Int) l (s:Int)) (((setL s).length:Int),(r:Int),rebL r c l s,true,0):=by
 have hrec:=rec_eq hb hl hr hc hs h hv;rw[if_pos e]at hrec
 have hpick:=gPick_eq hl hr hc (val_in hv) zaf;rw[ints_length]at hpick
 have hmul:=gMul_eq (setL_length s) hc hr (pk_len hl hv) (decD_len (r:=r) (c:=c) (l:=l) (s:=s)) (pick_bytes hb _) (decD_bytes hb hl hr hc hs e);have hreb:Ends (fun k=>verdict_reb.f k (r:Int) (c:Int) l ((src r c l s:Nat):Int) (s:Int)) (((setL s).length:Int),(r:Int),rebL r c l s,0):=by
  unfold verdict_reb.f;exact Ends.bind (decode18_eq hb hl hr hc hs h hv e) (Ends.pos rfl (Ends.bind (List_eq hs) (Ends.bind1 hpick (Ends.pos rfl (Ends.const hmul)))))
 unfold verdict_Rebuild.f;exact Ends.bind hrec (Ends.pos rfl (Ends.bind hreb (Ends.const rfl)))
theorem Reb18_no{a b x e:Int}(h:Ends (fun k=>verdict_rec.f k a b l x) (0,false,e)):Ends (fun k=>verdict_Rebuild.f k a b l x) (0,0,[],false,e):=by
 unfold verdict_Rebuild.f;exact Ends.bind h (Ends.neg (show¬(false=true)by decide) (Ends.const rfl))
end
end Go.Proofs.YtkagobkedifhkaaDoor.M
namespace Go.Proofs.YtkagobkedifhkaaDoor.M
open Go.RowKit Go.Proofs.YtkagobkedifhkaaDoorW.PrintWords Go.Proofs.YtkagobkedifhkaaDoorW.PrintLast Go.Proofs.YtkagobkedifhkaaDoorW.PrintMore Go.Proofs.YtkagobkedifhkaaDoor.Q
set_option linter.unusedVariables false
def rs(D:List Int)(r i:Nat)(Y:Nat→El):El:=sm r fun q=>toE (D.getD (i*r+q) 0)*Y q
theorem put_self{D:List Int}{k:Nat}(h:k<D.length)(v:Int):(D.set k v).getD k 0=v:=by
 rw[List.getD_eq_getElem?_getD,List.getElem?_set_self h];rfl
theorem put_ne{D:List Int}{k m:Nat}(h:k≠m)(v:Int):(D.set k v).getD m 0=D.getD m 0:=by
 rw[List.getD_eq_getElem?_getD,List.getElem?_set_ne h,←List.getD_eq_getElem?_getD]
theorem place_ne{r b q i p:Nat}(hb:b<r)(hq:q<r)(h:i≠p):i*r+b≠p*r+q:=by
 rcases Nat.lt_or_gt_of_ne h with k|k
 ·have:=Nat.mul_le_mul_right r (show i+1≤p from k);rw[Nat.add_mul,Nat.one_mul]at this
  omega
 ·have:=Nat.mul_le_mul_right r (show p+1≤i from k);rw[Nat.add_mul,Nat.one_mul]at this
  omega
section
variable {r c:Nat} {L:List Nat} {W:Nat→Nat→Int} {Y:Nat→El}
theorem rs_put{D:List Int}{i b:Nat}(hb:b<r)(hl:i*r+b<D.length)(h0:D.getD (i*r+b) 0=0)(v:Int):rs (D.set (i*r+b) v) r i Y=rs D r i Y+toE v*Y b:=by
 have e1:=sm_pick (f:=fun q=>toE ((D.set (i*r+b) v).getD (i*r+q) 0)*Y q) hb;have e2:=sm_pick (f:=fun q=>toE (D.getD (i*r+q) 0)*Y q) hb;have e3:sm r (fun q=>if q=b then 0 else toE ((D.set (i*r+b) v).getD (i*r+q) 0)*Y q)=sm r (fun q=>if q=b then 0 else toE (D.getD (i*r+q) 0)*Y q):=sm_congr fun q hq=>by
  by_cases e:q=b
  ·rw[if_pos e,if_pos e]
  ·rw[if_neg e,if_neg e,put_ne za]
 unfold rs;rw[e1,e2,e3];show toE ((D.set (i*r+b) v).getD (i*r+b) 0)*Y b+_=toE (D.getD (i*r+b) 0)*Y b+_+_;rw[put_self hl,h0,toE_zero,zero_mul,zero_add,add_comm]
theorem dj_rs(hLr: ∀j,j<c→L.getD j 0<r)(hLi: ∀j k,j<k→k<c→L.getD j 0≠L.getD k 0){D:List Int}{i:Nat}(hi:i<c)(hD:D.length=c*r)(h0: ∀q,q<r→D.getD (i*r+q) 0=0):
 ∀j,j≤c→rs (djL r L W D i j) r i Y=sm j (fun q=>toE (W i q)*Y (L.getD q 0))∧ ∀q,q<r→(∀k,k<j→L.getD k 0≠q)→(djL r L W D i j).getD (i*r+q) 0=0:=by
 intro j
 induction j with
 |zero=>
  intro _;refine⟨?_,fun q hq _=>h0 q hq⟩;show sm r (fun q=>toE (D.getD (i*r+q) 0)*Y q)=0;exact sm_zero fun q hq=>by rw[h0 q hq,toE_zero,zero_mul]
 |succ j ih=>
  intro hj;obtain⟨e1,e2⟩:=ih za;have hb:=hLr j za;have hz:=e2 _ hb fun k hk=>hLi k j hk za;have hlt:i*r+L.getD j 0<(djL r L W D i j).length:=by
   rw[djL_len,hD];have:=Nat.mul_le_mul_right r (show i+1≤c from hi);rw[Nat.add_mul,Nat.one_mul]at this
   omega
  refine⟨?_,fun q hq hk=>?_⟩
  ·rw[djL,rs_put hb hlt hz,e1];rfl
  ·rw[djL,put_ne (by have:=hk j za;omega)];exact e2 q hq fun k hkj=>hk k za
theorem dj_far{D:List Int}{i p q:Nat}(hq:q<r)(hne:i≠p): ∀j,(∀k,k<j→L.getD k 0<r)→(djL r L W D i j).getD (p*r+q) 0=D.getD (p*r+q) 0
 |0,_=>rfl
 |j+1,h=>by rw[djL,put_ne (place_ne (h j za) hq hne),dj_far hq hne j fun k hk=>h k za]
theorem di_rs(hL:L.length=c)(hLr: ∀j,j<c→L.getD j 0<r)(hLi: ∀j k,j<k→k<c→L.getD j 0≠L.getD k 0):
 ∀i,i≤c→(∀p,p<i→rs (diL r c L W i) r p Y=sm c (fun q=>toE (W p q)*Y (L.getD q 0)))∧ ∀p q,i≤p→q<r→(diL r c L W i).getD (p*r+q) 0=0:=by
 intro i
 induction i with
 |zero=>
  intro _;refine⟨fun p hp=>absurd hp za,fun p q _ _=>?_⟩;show(List.replicate (c*r) (0:Int)).getD (p*r+q) 0=0;rw[List.getD_eq_getElem?_getD,List.getElem?_replicate]
  split<;>rfl
 |succ i ih=>
  intro hi;obtain⟨e1,e2⟩:=ih za;have hd:=dj_rs (W:=W) (Y:=Y) hLr hLi (show i<c by omega) (diL_len r c L W i) (fun q hq=>e2 i q (Nat.le_refl _) hq) c (Nat.le_refl _);refine⟨fun p hp=>?_,fun p q hp hq=>?_⟩
  ·rw[diL,hL];by_cases e:i=p
   ·subst e;exact hd.1
   ·rw[←e1 p za];exact sm_congr fun q hq=>by rw[dj_far hq e c hLr]
  ·rw[diL,hL,dj_far hq za c hLr];exact e2 p q za hq
end
section
variable {r c s:Nat} {l x y:List Int}
theorem src_left(hb:bytesB l=true)(hl:l.length=r*c)(hr:r≤64)(hc:c≤64)(hs:s<2^64)(e:rho c l (lft r s)=c){j:Nat}(hj:j<c):(setL (src r c l s)).getD j 0<r∧ ¬Bit s ((setL (src r c l s)).getD j 0):=by
 obtain⟨h1,h2,h3,_⟩:=src_facts hb hl hr hc hs e;have hm:=(list_val h1 h2 _).1 (setL_at _ (show j<(setL (src r c l s)).length by omega));exact⟨hm.2,((lft_bit hr hs _).1 (bas_sub hb hl hr hc (lft_lt hr) (lft_val hr hs) hm.1)).2⟩
theorem dec_dot(hb:bytesB l=true)(hl:l.length=r*c)(hr:r≤64)(hc:c≤64)(hs:s<2^64)(e:rho c l (lft r s)=c)(hx:x.length=c)
 (hy: ∀q,q<r→ ¬Bit s q→vv y q=dot c (mv (rowsOf c r l) c q) (vv x)) {k:Nat} (hk:k<c):dot r (mv (rowsOf r c (decD r c l s)) r k) (vv y)=vv x k:=by
 obtain⟨h1,h2,h3,h4,h5,h6,h7⟩:=src_facts hb hl hr hc hs e;obtain⟨hsh,hlen⟩:=invD_sh h5 h4 hc;have a1:dot r (mv (rowsOf r c (decD r c l s)) r k) (vv y)=rs (decD r c l s) r k (vv y):=sm_congr fun q hq=>by
  rw[mv_at hq,rows_entry decD_len hk hq]
 have a2:=(di_rs (W:=fun i j=>(invD c (pk c l (src r c l s))).flatten.getD (i*c+j) 0) (Y:=vv y) h3 (fun j hj=>(src_left hb hl hr hc hs e hj).1) (fun j q hjq hq=>by have:=setL_mono (src r c l s) hjq za;omega) c (Nat.le_refl _)).1 k hk;have a3:sm c (fun q=>toE ((invD c (pk c l (src r c l s))).flatten.getD (k*c+q) 0)*vv y ((setL (src r c l s)).getD q 0))=dot c (lc (mv (rowsOf c c (pk c l (src r c l s))) c) c (mv (invD c (pk c l (src r c l s))) c k)) (vv x):=by
  rw[dot_lc];refine sm_congr fun q hq=>?_;have he:(invD c (pk c l (src r c l s))).flatten.getD (k*c+q) 0=entry (invD c (pk c l (src r c l s))) k q:=by
   have h8:=rows_flat hsh.u;rw[hlen]at h8
   rw[←rows_entry (r:=c) (c:=c) (l:=(invD c (pk c l (src r c l s))).flatten) (by have:=flat_len hsh.u;rwa [hlen]at this) hk hq,h8]
  have hrow:=pk_row' (c:=c) hl h2 (k:=q) za;rw[h3]at hrow
  obtain⟨b1,b2⟩:=src_left hb hl hr hc hs e hq;rw[he,mv_at hq,hrow,hy _ b1 b2]
 rw[a1];refine a2.trans (a3.trans ?_);rw[inv_row h5 h4 hc h6 hk];show sm c (fun j=>vv (unitRow c k) j*vv x j)=vv x k;have hu: ∀j,j<c→vv (unitRow c k) j=if j=k then 1 else 0:=fun j hj=>by
  show toE ((unitRow c k).getD j 0)=_;rw[unit_getD hj]
  split<;>rfl
 rw[sm_one hk fun j hj hne=>by rw[hu j hj,if_neg hne,zero_mul],hu k hk,if_pos rfl,one_mul]
theorem gives_ext{a b:List Int}(ha:bytesB a=true)(hb:bytesB b=true)(hl:a.length=b.length)(h: ∀i,i<b.length→vv a i=vv b i):a=b:=by
 refine List.ext_getElem hl fun i h1 h2=>?_;have e:a.getD i 0=b.getD i 0:=toE_inj (getD_bytes ha i) (getD_bytes hb i) (h i h2);rw[List.getD_eq_getElem?_getD,List.getD_eq_getElem?_getD,List.getElem?_eq_getElem h1,List.getElem?_eq_getElem h2]at e
 exact e
theorem dec_gives(hb:bytesB l=true)(hl:l.length=r*c)(hr:r≤64)(hc:c≤64)(hs:s<2^64)(e:rho c l (lft r s)=c)(hx:x.length=c)(hxb:bytesB x=true)(hyl:y.length=r)
 (hy: ∀q,q<r→ ¬Bit s q→vv y q=dot c (mv (rowsOf c r l) c q) (vv x)):appL c r (decD r c l s) y=x:=by
 refine gives_ext (appL_bytes _ _ _ _) hxb (by rw[appL_len,hx]) fun k hk=>?_;rw[hx]at hk
 rw[appL_at hyl hk];exact dec_dot hb hl hr hc hs e hx hy hk
theorem reb_gives(hb:bytesB l=true)(hl:l.length=r*c)(hr:r≤64)(hc:c≤64)(hs:s<2^64)(hv:Val r s)(e:rho c l (lft r s)=c)(hx:x.length=c)(hyl:y.length=r)
 (hy: ∀q,q<r→ ¬Bit s q→vv y q=dot c (mv (rowsOf c r l) c q) (vv x)):appL (setL s).length r (rebL r c l s) y=(setL s).map fun q=>(appL r c l x).getD q 0:=by
 refine gives_ext (appL_bytes _ _ _ _) (by
  unfold bytesB;rw[List.all_eq_true];intro z hz;obtain⟨q,_,rfl⟩:=List.mem_map.1 hz;have h:=getD_bytes (appL_bytes r c l x) q;simp only[Bool.and_eq_true,decide_eq_true_eq];exact h) (by rw[appL_len,List.length_map]) fun i hi=>?_
 rw[List.length_map]at hi
 rw[appL_at hyl hi];have hq:(setL s).getD i 0<r:=hv _ (setL_at s hi);have hrw:mv (rowsOf r (setL s).length (rebL r c l s)) r i=lc (mv (rowsOf r c (decD r c l s)) r) c (mv (rowsOf c (setL s).length (pk c l s)) c i):=by
  have h8:=rows_flat (prod_U (rowsOf c (setL s).length (pk c l s)) (rowsOf r c (decD r c l s)) (setL s).length c r);rw[prod_length]at h8
  show mv (rowsOf r (setL s).length (prod (rowsOf c (setL s).length (pk c l s)) (rowsOf r c (decD r c l s)) (setL s).length c r).flatten) r i=_;rw[h8,mul_mv hi]
 rw[hrw,dot_lc];have h9:vv ((setL s).map fun q=>(appL r c l x).getD q 0) i=vv (appL r c l x) ((setL s).getD i 0):=by
  show toE (((setL s).map fun q=>(appL r c l x).getD q 0).getD i 0)=toE ((appL r c l x).getD ((setL s).getD i 0) 0);rw[List.getD_eq_getElem?_getD,List.getElem?_map,List.getD_eq_getElem?_getD (l:=setL s),List.getElem?_eq_getElem hi];rfl
 rw[h9,appL_at hx hq,←pk_row' hl hv hi];exact sm_congr fun k hk=>by rw[dec_dot hb hl hr hc hs e hx hy hk]
end
end Go.Proofs.YtkagobkedifhkaaDoor.M
namespace Go.Proofs.YtkagobkedifhkaaDoor.M
open Go.RowKit Go.Proofs.YtkagobkedifhkaaDoorW.PrintWords Go.Proofs.YtkagobkedifhkaaDoor.Q
set_option linter.unusedVariables false
def mark18(i:Nat):Int:=((i*37+11) % 256:Nat)
def spo18(s:Nat)(y:List Int)(i:Nat):List Int:=(List.range y.length).map fun q=>if q<i∧s.testBit q=true then mark18 q else y.getD q 0
def gone18(s:Nat)(y:List Int)(i:Nat):List Int:=((List.range i).filter fun q=>s.testBit q).map fun q=>y.getD q 0
theorem mark18_eq{i:Nat}(h:i≤64):(wrap64 ((wrap64 ((i:Int)*37))+11)) % 256=mark18 i:=by
 rw[w64 (x:=(i:Int)*37) za za,w64 za za];unfold mark18;omega
theorem mark18_range(i:Nat):0≤mark18 i∧mark18 i<256:=by unfold mark18;omega
theorem spo18_len(s:Nat)(y:List Int)(i:Nat):(spo18 s y i).length=y.length:=by simp[spo18]
theorem spo18_getD{s i q:Nat}{y:List Int}(hq:q<y.length):(spo18 s y i).getD q 0=if q<i∧s.testBit q=true then mark18 q else y.getD q 0:=by
 unfold spo18;rw[List.getD_eq_getElem?_getD,List.getElem?_map,List.getElem?_range hq];rfl
theorem spo18_zero(s:Nat)(y:List Int):spo18 s y 0=y:=by
 refine List.ext_getElem (spo18_len s y 0) fun q h1 h2=>?_;have:=spo18_getD (s:=s) (i:=0) h2;rw[if_neg za,List.getD_eq_getElem?_getD,List.getD_eq_getElem?_getD,List.getElem?_eq_getElem h1,List.getElem?_eq_getElem h2]at this
 exact this
theorem spo18_step{s i:Nat}{y:List Int}(hi:i<y.length):spo18 s y (i+1)=if s.testBit i=true then(spo18 s y i).set i (mark18 i)else spo18 s y i:=by
 have hl:(if s.testBit i=true then(spo18 s y i).set i (mark18 i)else spo18 s y i).length=y.length:=by
  split<;>simp[spo18_len]
 refine List.ext_getElem (by rw[hl,spo18_len]) fun q h1 h2=>?_;have hq:q<y.length:=by rw[hl]at h2;exact h2
 have e1:=spo18_getD (s:=s) (i:=i+1) hq;have e2:=spo18_getD (s:=s) (i:=i) hq;rw[List.getD_eq_getElem?_getD,List.getElem?_eq_getElem h1]at e1
 rw[List.getD_eq_getElem?_getD,List.getElem?_eq_getElem (by rw[spo18_len];exact hq)]at e2
 have e1':(spo18 s y (i+1))[q] =if q<i+1∧s.testBit q=true then mark18 q else y.getD q 0:=e1
 have e2':(spo18 s y i)[q]'(by rw[spo18_len];exact hq)=if q<i∧s.testBit q=true then mark18 q else y.getD q 0:=e2
 rw[e1'];by_cases hb:s.testBit i=true
 ·simp only[if_pos hb,List.getElem_set];by_cases e:i=q
  ·subst e;rw[if_pos ⟨by omega,hb⟩,if_pos rfl]
  ·rw[if_neg e,e2'];have:(q<i+1∧s.testBit q=true)↔(q<i∧s.testBit q=true):=⟨fun h=>⟨by omega,h.2⟩,fun h=>⟨by omega,h.2⟩⟩
   simp only[this]
 ·simp only[if_neg hb,e2'];have:(q<i+1∧s.testBit q=true)↔(q<i∧s.testBit q=true):=⟨fun h=>⟨by
   by_cases e:q=i
   ·subst e;exact absurd h.2 hb
   ·omega,h.2⟩,fun h=>⟨by omega,h.2⟩⟩
  simp only[this]
theorem gone18_step(s:Nat)(y:List Int)(i:Nat):gone18 s y (i+1)=if s.testBit i=true then gone18 s y i++ [y.getD i 0]else gone18 s y i:=by
 unfold gone18;rw[List.range_succ,List.filter_append,List.map_append];by_cases hb:s.testBit i=true
 ·rw[if_pos hb];simp[hb]
 ·rw[if_neg hb];simp[hb]
theorem gone18_len(s:Nat)(y:List Int)(i:Nat):(gone18 s y i).length≤i:=by
 unfold gone18;rw[List.length_map];exact Nat.le_trans (List.length_filter_le _ _) zd
theorem setL_low{r s:Nat}(hr:r≤64)(hv:Val r s)(hs:s<2^64):(List.range r).filter (fun q=>s.testBit q)=setL s:=by
 unfold setL;have h1:List.range 64=List.range r++(List.range (64-r)).map (r+ ·):=by
  rw[←List.range_add]
  congr 1
  omega
 rw[h1,List.filter_append];have h2:((List.range (64-r)).map (r+ ·)).filter (fun q=>s.testBit q)= []:=by
  rw[List.filter_eq_nil_iff];intro q hq hb;obtain⟨k,_,rfl⟩:=List.mem_map.1 hq;have:=(val_bit hs).1 hv _ hb;omega
 rw[h2,List.append_nil]
theorem gives_l0{r c n s:Nat}{D M x y:List Int}{A B:List Int}(hr:r≤64)(hc:c≤64)(hs:s<2^64)(hy:y.length=r)
 (hA:Ends (fun k=>recoupref03_Apply.f k (c:Int) (r:Int) D (spo18 s y r)) (x,0)) (hB:Ends (fun k=>recoupref03_Apply.f k (n:Int) (r:Int) M (spo18 s y r)) (gone18 s y r,0)):
 ∀d i:Nat,i+d=r→Ends (fun k=>recouplaw18_VerdictGives.l0 k (s:Int) x (spo18 s y i) (gone18 s y i) (i:Int) (c:Int) (r:Int) D (n:Int) (r:Int) M) true:=by
 intro d
 induction d with
 |zero=>
  intro i hi;obtain rfl:i=r:=by omega
  refine Ends.succ (fun k=>by rw[recouplaw18_VerdictGives.l0]) ?_;refine Ends.neg (by rw[spo18_len];omega) ?_;refine Ends.bind hA (Ends.bind hB (Ends.bind anch18 (Ends.pos rfl (Ends.pos rfl (Ends.pos rfl (Ends.bind1 (Same_self _) (Ends.pos rfl (Ends.bind1 (Same_self _) (Ends.const rfl)))))))))
 |succ d ih=>
  intro i hi;have ihn:=ih (i+1) za;rw[←wstep za,spo18_step za,gone18_step]at ihn
  have hlen:=gone18_len s y i;refine Ends.succ (fun k=>by rw[recouplaw18_VerdictGives.l0]) ?_;refine Ends.pos (by rw[spo18_len];omega) ?_;refine Ends.bind1 (has_eq hs _) ?_;rw[Int.toNat_natCast];by_cases hb:s.testBit i=true
  ·rw[if_pos hb,if_pos hb]at ihn
   refine Ends.pos (by rw[hb];simp) ?_;refine Ends.pos za (Ends.pos za ?_);rw[mark18_eq za,rd_nat,spo18_getD za,if_neg za];exact ihn
  ·rw[if_neg hb,if_neg hb]at ihn
   refine Ends.neg (by simp[hb]) ?_;exact ihn
end Go.Proofs.YtkagobkedifhkaaDoor.M
namespace Go.Proofs.YtkagobkedifhkaaDoor.Pure
open Go.RowKit Go.Proofs.YtkagobkedifhkaaDoor.M Go.Proofs.YtkagobkedifhkaaDoor.Q
set_option linter.unusedVariables false
theorem VerdictGives: ∀x0:Q.S24,((Lit.int .i64 x0.f0).wf=true∧((Lit.int .i64 x0.f1).wf=true∧(x0.f2.length≤maxLen∧x0.f2.length*1≤140737488351232∧ ∀x5∈x0.f2,(Lit.int .u8 x5).wf=true)))→ ∀x1:Int,(Lit.int .u64 x1).wf=true→ ∀x2:List Int,(x2.length≤maxLen∧x2.length*1≤140737488351232∧ ∀x3∈x2,(Lit.int .u8 x3).wf=true)→ ∃k,Q.recouplaw18_VerdictGives.f k x0.f0 x0.f1 x0.f2 x1 x2=some true:=by
 rintro⟨a,b,l⟩ ⟨ha,hb,_,_,hl⟩ z hz x ⟨_,_,hx⟩;have hbl:bytesB l=true:=bytesB_wf hl;have hbx:bytesB x=true:=bytesB_wf hx;clear hl hx;show∃k,Q.recouplaw18_VerdictGives.f k a b l z x=some true;refine M.Ends.exists ?_;unfold Q.recouplaw18_VerdictGives.f;rcases args18 hbl ha hz (b:=b)with⟨e,he,h1,h2⟩|⟨r,c,s,rfl,rfl,rfl,hr,hc,hl,hs,hg,hv⟩
 ·refine M.Ends.bind (Dec18_no h1) (M.Ends.bind (Reb18_no h1) (M.Ends.bind (gen18_no he h2) (M.Ends.neg zc (M.Ends.bind anch18 (M.Ends.pos rfl (M.Ends.neg he (M.Ends.const ?_)))))));show some (e !=0)=some true;rw[bne_iff_ne.mpr he]
 ·have hgen:=gen18_eq hbl hl hr hc hs hg hv;by_cases e:rho c l (lft r s)=c
  ·refine M.Ends.bind (Dec18_eq hbl hl hr hc hs hg hv e) (M.Ends.bind (Reb18_eq hbl hl hr hc hs hg hv e) (M.Ends.bind hgen (M.Ends.pos rfl (M.Ends.pos rfl (M.Ends.pos rfl (M.Ends.neg (show¬((true !=true)=true)by decide) (M.Ends.pos rfl ?_)))))));refine M.Ends.succ (fun k=>by rw[recouplaw18_VerdictGives.j0]) ?_;by_cases hx:x.length=c
   ·refine M.Ends.neg (by simp[hx]) ?_;have hy:=appL_len r c l x;have hleft: ∀q,q<r→ ¬Bit s q→vv (spo18 s (appL r c l x) r) q=dot c (mv (rowsOf c r l) c q) (vv x):=fun q hq hn=>by
     rw[←appL_at hx hq];show toE ((spo18 s (appL r c l x) r).getD q 0)=toE ((appL r c l x).getD q 0);rw[spo18_getD za,if_neg (fun h=>hn h.2)]
    have hsl:(spo18 s (appL r c l x) r).length=r:=by rw[spo18_len,hy]
    have hsb:bytesB (spo18 s (appL r c l x) r)=true:=by
     unfold bytesB;rw[List.all_eq_true];intro w hw;obtain⟨q,hq,rfl⟩:=List.mem_map.1 hw;have h1:=mark18_range q;have h2:=getD_bytes (appL_bytes r c l x) q;simp only[Bool.and_eq_true,decide_eq_true_eq]
     split
     ·exact h1
     ·exact h2
    have hD:=M.Apply_ends (decD_bytes hbl hl hr hc hs e) (decD_len (r:=r) (c:=c) (l:=l) (s:=s)) hc hr hsl hsb;rw[dec_gives hbl hl hr hc hs e hx hbx hsl hleft]at hD
    have hM:=M.Apply_ends (l:=rebL r c l s) (r:=(setL s).length) (mulL_bytes _ _ _ _ _) (mulL_len _ _ _ _ _) (setL_length s) hr hsl hsb;have hgn:gone18 s (appL r c l x) r=(setL s).map fun q=>(appL r c l x).getD q 0:=by
     unfold gone18;rw[setL_low hr hv hs]
    rw[reb_gives hbl hl hr hc hs hv e hx hsl hleft,←hgn]at hM
    have:=gives_l0 (n:=(setL s).length) (A:= []) (B:= []) hr hc hs hy hD hM r 0 za;rw[spo18_zero]at this
    exact M.Ends.bind (M.Apply_ends hbl hl hr hc hx hbx) this
   ·refine M.Ends.pos zl (M.Ends.bind anch18 (M.Ends.pos rfl (M.Ends.pos rfl (M.Ends.pos rfl (M.Ends.const rfl)))))
  ·have h1:=rec_eq hbl hl hr hc hs hg hv;rw[if_neg e]at h1
   refine M.Ends.bind (Dec18_no h1) (M.Ends.bind (Reb18_no h1) (M.Ends.bind hgen (M.Ends.pos rfl (M.Ends.pos rfl (M.Ends.pos rfl (M.Ends.neg zc (M.Ends.neg zc ?_)))))));refine M.Ends.succ (fun k=>by rw[recouplaw18_VerdictGives.j0]) ?_;exact M.Ends.pos rfl (M.Ends.bind anch18 (M.Ends.pos rfl (M.Ends.pos rfl (M.Ends.pos rfl (M.Ends.const rfl)))))
end Go.Proofs.YtkagobkedifhkaaDoor.Pure
namespace Go.Proofs.YtkagobkedifhkaaDoor.Open
open Go.RowKit Go.Deep Go.Proofs.YtkagobkedifhkaaDoorW.PrintWords
def Sz{H:Type}(P:Program)(t:TypeId)(d:DataW H):Prop:= ∀n∈d.weights P t,n≤reachBytes
structure Opens {α:Type} (P:Program) (t:TypeId) (d:Kd α) (well:α→Prop):Prop where
 cells:P.cellsOf t=d.sz
 run: ∀ {H:Type} (enc:TypeId×Value→H) (W:World) (n:Nat) (cs:List Value) (y:DataW H×List MemPlace),
  DataW.trod enc P W 0 (fun _=>true) true n t cs=some y→Sz P t y.1→ ∃x,d.K W x cs∧well x
theorem opens_int{P:Program}{t:TypeId}{k:IntKind}(ht:P.underlying t=some (.int k))(hc:P.cellsOf t=1):Opens P t (Kd.int k) (fun x=>(Lit.int k x).wf=true):=by
 refine⟨hc,fun enc W n cs y h _=>?_⟩;obtain⟨a,rfl,rfl,hw⟩:=DataW.trod_int ht h;exact⟨a,rfl,hw⟩
theorem weightsAll_mem{H:Type}{P:Program}{e:TypeId} : ∀ {l:List (DataW H)} {d:DataW H},d∈l→ ∀n∈d.weights P e,n∈DataW.weightsAll P e l
 |a::l,d,hd,n,hn=>by
  rw[DataW.weightsAll];rcases List.mem_cons.1 hd with rfl|hd
  ·exact List.mem_append_left _ hn
  ·exact List.mem_append_right _ (weightsAll_mem hd n hn)
theorem opens_slice{α:Type}{P:Program}{t e:TypeId}{d:Kd α}{well:α→Prop}{B:Nat}(ht:P.underlying t=some (.slice e))(hc:P.cellsOf t=1)(hB:P.bytesOf e=B)(z:α)(h:Opens P e d well):
 Opens P t (Kd.slice e d) (fun l=>l.length≤maxLen∧l.length*B≤140737488351232∧ ∀x∈l,well x):=by
 refine⟨hc,fun enc W n cs y hy hz=>?_⟩;rcases open_slice ht hy with⟨rfl,rfl⟩|⟨a,len,cap,m,n',D,Pl,rfl,_,hl,hm,hmm,rfl,hx⟩
 ·exact⟨[],⟨none,0,rfl,Nat.le_refl _,rfl,by simp,fun hn=>absurd hn zd⟩,by simp,by simp,by simp⟩
 have hm':len≤m:=by rw[hmm];split<;>omega
 have:Inhabited α:=⟨z⟩
 have hw: ∀i,i<len→ ∃x,(∃cs',W.cells? 0 (a.add (i*P.cellsOf e)) (P.cellsOf e)=some cs'∧d.K W x cs')∧well x:=by
  intro i hi;obtain⟨cs',h1,h2⟩:=hx i za;obtain⟨x,k,w⟩:=h.run enc W n' cs' _ h2 (fun q hq=>by
   refine hz q ?_;simp only[DataW.weights,ht];refine List.mem_cons_of_mem _ (List.mem_append_left _ (weightsAll_mem (d:=D i) ?_ q hq));exact List.mem_map.2 ⟨i,by simpa using hi,rfl⟩)
  exact⟨x,⟨cs',h1,k⟩,w⟩
 obtain⟨V,hV⟩:=choose_lt hw;have hlen:((List.range len).map V).length=len:=by simp
 have hb:len*B≤140737488351232:=by
  have:=hz ((((List.range len).map D).length+((List.range (m-len)).map fun j=>D (len+j)).length)*P.bytesOf e) (by simp only[DataW.weights,ht];exact List.mem_cons_self);rw[hB]at this
  simp only[List.length_map,List.length_range]at this;exact Nat.le_trans (Nat.mul_le_mul_right _ za) this
 have hmx:maxLen=9223372036854775807:=by decide
 refine⟨(List.range len).map V,⟨some a,cap,by rw[hlen],by rw[hlen];exact hl,rfl,by rw[hlen];omega,fun _=>⟨a,rfl,fun j p hj=>?_⟩⟩,by rw[hlen];omega,by rw[hlen];exact hb,?_⟩
 ·obtain⟨G,I⟩:=List.getElem?_eq_some_iff.1 hj;have hjl:j<len:=by simpa using G
  have hp:p=V j:=by simpa using I.symm
  subst hp;obtain⟨⟨cs',h1,k⟩,_⟩:=hV j hjl;obtain⟨_,hcl,hcell⟩:=World.cells?_some h1;refine⟨cs',d.K_len k,k,fun i u hu=>?_⟩;have hi:i<P.cellsOf e:=by rw[←hcl];exact(List.getElem?_eq_some_iff.1 hu).1
  rw[←h.cells,←Addr.add_add,hcell i hi];exact hu
 ·intro x hx;obtain⟨i,hi,rfl⟩:=List.mem_map.1 hx;exact(hV i (by simpa using hi)).2
structure OpensF {α:Type} (P:Program) (fs:List Field) (off:Nat) (d:Kd α) (well:α→Prop):Prop where
 run: ∀ {H:Type} (enc:TypeId×Value→H) (W:World) (n:Nat) (cs:List Value) (xs:List (DataW H×List MemPlace)),cs.length=off+d.sz→
  (∀(i:Nat) (f:Field),fs[i]? =some f→DataW.trod enc P W 0 (fun _=>true) true n f.type ((cs.drop f.offset).take (P.cellsOf f.type))=xs[i]?)→xs.length=fs.length→
  (∀q∈DataW.weightsEach P (fs.map (·.type)) (xs.map (·.1)),q≤reachBytes)→ ∃x,d.K W x (cs.drop off)∧well x
theorem OpensF.one{α:Type}{P:Program}{f:Field}{off:Nat}{d:Kd α}{well:α→Prop}(ho:f.offset=off)(h:Opens P f.type d well):OpensF P [f] off d well:=by
 refine⟨?_⟩;intro H enc W n cs xs hl hf hx hz;obtain⟨y,rfl⟩: ∃y,xs= [y]:=List.length_eq_one_iff.1 hx;have h0:=hf 0 f rfl;rw[ho,List.take_of_length_le (by rw[List.length_drop,h.cells];omega)]at h0
 exact h.run enc W n _ y h0 (fun q hq=>hz q (by simpa[DataW.weightsEach]using hq))
theorem OpensF.cons{α β:Type}{P:Program}{f:Field}{fs:List Field}{off:Nat}{d:Kd α}{d':Kd β}{well:α→Prop}{well':β→Prop}(ho:f.offset=off)(h:Opens P f.type d well)(h':OpensF P fs (off+d.sz) d' well'):
 OpensF P (f::fs) off (Kd.pair d d') (fun x=>well x.1∧well' x.2):=by
 refine⟨?_⟩;intro H enc W n cs xs hl hf hx hz
 match xs,hx with
 |y::ys,hx=>
  have hl':cs.length=off+(d.sz+d'.sz):=hl;have h0:=hf 0 f rfl;rw[ho]at h0
  obtain⟨x,k,w⟩:=h.run enc W n _ y h0 (fun q hq=>hz q (by simp[DataW.weightsEach,hq]));obtain⟨x',k',w'⟩:=h'.run enc W n cs ys za (fun i g hg=>hf (i+1) g hg) (by simpa using hx) (fun q hq=>hz q (by simp only[List.map_cons,DataW.weightsEach];exact List.mem_append_right _ hq));rw[h.cells]at k
  refine⟨(x,x'),⟨_,_,?_,k,k'⟩,w,w'⟩;rw[←List.drop_drop,List.take_append_drop]
theorem Opens.struct{α β:Type}{P:Program}{t:TypeId}{fs:Array Field}{d:Kd α}{well:α→Prop}{f:β→α}(ht:P.underlying t=some (.struct fs))(hc:P.cellsOf t=d.sz)(hs: ∀a,∃b,f b=a)(h:OpensF P fs.toList 0 d well):
 Opens P t (Kd.iso d f) (fun x=>well (f x)):=by
 refine⟨hc,fun enc W n cs y hy hz=>?_⟩;obtain⟨xs,m,_,rfl,hl,hx,hf⟩:=DataW.trod_struct ht hy;obtain⟨x,k,w⟩:=h.run enc W m cs xs (by rw[hl,hc,Nat.zero_add]) (fun i g hg=>hf i g (by simpa using hg)) (by simpa using hx) (fun q hq=>hz q (by simp only[DataW.weights,ht];exact hq));obtain⟨b,rfl⟩:=hs x;rw[List.drop_zero]at k
 exact⟨b,k,w⟩
theorem sz_of{H:Type}{P:Program}{ts:List TypeId}{ds:List (DataW H)}{j:Nat}{t:TypeId}{d:DataW H}(hsz:(DataW.weightsEach P ts ds).all (· ≤reachBytes)=true)(ht:ts[j]? =some t)(hd:ds[j]? =some d):Sz P t d:=
 fun n hn=>by simpa using List.all_eq_true.1 hsz n (DataW.weights_mem_each ht hd n hn)
theorem Opens.arg{α:Type}{P:Program}{t:TypeId}{d:Kd α}{well:α→Prop}(h:Opens P t d well){H:Type}{enc:TypeId×Value→H}{W:World}{v:Value}{y:DataW H}{ps:List MemPlace}{ts:List TypeId}{ds:List (DataW H)}{j:Nat}
 (hsz:(DataW.weightsEach P ts ds).all (· ≤reachBytes)=true) (ht:ts[j]? =some t) (hd:ds[j]? =some y) (hv:DataW.Trod enc P W 0 (fun _=>true) true t v y ps): ∃x,d.K W x v.cells.toList∧well x:=by
 obtain⟨n,hn⟩:=hv;exact h.run enc W n _ _ hn (sz_of hsz ht hd)
theorem trod_lt_of{H:Type}{enc:TypeId×Value→H}{P:Program}{W:World}{t:TypeId}{v:Value}{y:DataW H}{ps:List MemPlace}(hv:DataW.Trod enc P W 0 (fun _=>true) true t v y ps): ∀x∈ps,x.block<W.heap.size:=by
 obtain⟨m,hm⟩:=hv;exact DataW.trod_lt m _ _ _ hm
end Go.Proofs.YtkagobkedifhkaaDoor.Open
namespace Go.Proofs.YtkagobkedifhkaaDoor.verdictGives
open Go.ChangeShapes Go.WideShapes Go.ChangeAt Go.RowKit Go.Proofs.YtkagobkedifhkaaDoorW.PrintWords
set_option linter.unusedVariables false
theorem own:ownKnob Tryd.prog.godebug=none:=by kernel_rfl
theorem laidOut:laidOutB Tryd.prog=true:=by kernel_rfl
theorem opens0:Open.Opens Tryd.prog 24 Q.k24 (fun x=>((Lit.int .i64 x.f0).wf=true∧((Lit.int .i64 x.f1).wf=true∧(x.f2.length≤maxLen∧x.f2.length*1≤140737488351232∧ ∀x4∈x.f2,(Lit.int .u8 x4).wf=true)))):=(Open.Opens.struct (d:=(Kd.pair (Kd.int .i64) (Kd.pair (Kd.int .i64) (Kd.slice 5 (Kd.int .u8))))) (f:=fun x:Q.S24=>(x.f0,x.f1,x.f2)) Tryd.underlying24 zb (fun a=>⟨⟨a.1,a.2.1,a.2.2⟩,rfl⟩) (Open.OpensF.cons rfl (Open.opens_int Tryd.underlying3 zb) (Open.OpensF.cons rfl (Open.opens_int Tryd.underlying3 zb) (Open.OpensF.one rfl (Open.opens_slice Tryd.underlying22 zb zb (0:Int) (Open.opens_int Tryd.underlying5 zb))))))
theorem opens1:Open.Opens Tryd.prog 26 (Kd.int .u64) (fun x=>(Lit.int .u64 x).wf=true):=(Open.opens_int Tryd.underlying26 zb)
theorem opens2:Open.Opens Tryd.prog 22 (Kd.slice 5 (Kd.int .u8)) (fun x=>(x.length≤maxLen∧x.length*1≤140737488351232∧ ∀x1∈x,(Lit.int .u8 x1).wf=true)):=(Open.opens_slice Tryd.underlying22 zb zb (0:Int) (Open.opens_int Tryd.underlying5 zb))
set_option maxRecDepth 100000 in
theorem door_met(os:Os)(args:Array Value):laidMetH Tryd.prog [("math/bits.deBruijn64tab",Rows.laid_math_bits_deBruijn64tab)] ((World.doorLaid Tryd.prog 14 os).forCall (fun _ _=>0) ⟨#[],args,[]⟩).memory:=
 laidMetH_of_parts3 (fuel:=8) (laidMet_of_run' 8 zb zb) zb zb
theorem tab_of{w:World}(h:laidMetH Tryd.prog [("math/bits.deBruijn64tab",Rows.laid_math_bits_deBruijn64tab)] w):TabAt 0 Lib.deBruijn64tab w:=by
 rw[MakeChecks.laidMetH_plain _ _ _ zb]at h
 have h':laidMet Tryd.prog [("math/bits.deBruijn64tab",Lib.tabData .u8 (Lib.deBruijn64tab.map fun(x:Nat)=>(x:Int)))] w:=h;intro j hj;have e:=(Lib.tabIs_of_head (g:=0) zb zb Tryd.underlying112 Tryd.underlying5 zb zb h').cell (g:=0) zb j (by simpa using hj);rw[e];simp[List.getD_eq_getElem?_getD,List.getElem?_eq_getElem hj]
set_option maxRecDepth 100000 in
theorem lifted(os:Os)(started:os.Started)(H:Type)(enc:TypeId×Value→H):
 ReturnsInHanded {} Tryd.checked os 7 .any (fun w args=>(Rows.verdictGivesSpec.pre enc Tryd.prog Tryd.f7 [] false w args∧laidMetH Tryd.prog [("math/bits.deBruijn64tab",Rows.laid_math_bits_deBruijn64tab)] w)∧sizedMet enc Tryd.prog Tryd.f7 (OpenSpec.ofChange Rows.verdictGivesSpec) false w args) (Rows.verdictGivesSpec.post enc Tryd.prog Tryd.f7 false true false false):=by
 refine returnsInHanded_of_change_and (C:=Tryd.checked) (X:=fun w _=>laidMetH Tryd.prog [("math/bits.deBruijn64tab",Rows.laid_math_bits_deBruijn64tab)] w) (fun _ _ _ hh h=>h.of_heap hh) own started zb Tryd.func7
  (ChangeSpec.witness_shaped (enc:=enc) (C:=Tryd.checked) (os:=os) (X:=fun w _=>laidMetH Tryd.prog [("math/bits.deBruijn64tab",Rows.laid_math_bits_deBruijn64tab)] w) false (World.doorLaid Tryd.prog 14 os) #[.agg #[(.int .i64 0),(.int .i64 0),(.slice none 0 0)],.int .u64 0,.slice none 0 0] 8 rfl (World.shaped_of_RefB zb zb) zb zb zb (door_met os _)) ?_
 intro W base args ds gs before D hW hcnd L hL _;have hsz:(DataW.weightsEach Tryd.prog (Tryd.f7.params.toList++Rows.verdictGivesSpec.plain.varTypes Tryd.prog) (ds++gs)).all (· ≤reachBytes)=true:=L;have hval: ∀(j:Nat) t v,Tryd.f7.params[j]? =some t→args[j]? =some v→Value.okWide Tryd.prog W .any base t v:=D;have hW':=hW;obtain⟨p,q,Y,hV,rfl,hfz,hnd⟩:=hW;have hA:DataW.TrodAll enc Tryd.prog W 0 (fun _=>true) true Tryd.f7.params.toList args.toList ds p:=Y;rw[Tryd.params7]at hA hval hsz
 obtain⟨v0,am,d0,aj,p0,q0,hargs,rfl,rfl,h0,r0⟩:=trodAll_cons hA;obtain⟨v1,an,d1,ak,p1,q1,rfl,rfl,rfl,h1,r1⟩:=trodAll_cons r0;obtain⟨v2,ao,d2,al,p2,q2,rfl,rfl,rfl,h2,r2⟩:=trodAll_cons r1;obtain⟨rfl,rfl,rfl⟩:=trodAll_nil r2;obtain rfl:args= #[v0,v1,v2]:=by cases args;simp_all
 obtain⟨rfl,rfl⟩:=trodVars_none hV;obtain⟨x0,ac,ag⟩:=opens0.arg hsz (j:=0) rfl rfl h0;obtain⟨ab,rfl,_⟩:=okWide_struct Tryd.underlying24 (hval 0 24 v0 rfl rfl);obtain⟨G,I,e0,aa,U⟩:=Q.k24_open ac;obtain rfl:ab= #[.int .i64 x0.f0,.int .i64 x0.f1,.slice G x0.f2.length I]:=Array.toList_inj.1 e0;obtain⟨x1,ae,ah⟩:=opens1.arg hsz (j:=1) rfl rfl h1;obtain⟨a1,rfl,rfl,rfl,_⟩:=open_int Tryd.underlying26 (hval 1 26 v1 rfl rfl) h1;obtain rfl:a1=x1:=by simpa[Value.cells,Kd.int,Kd.scalar]using ae
 obtain⟨x2,af,ai⟩:=opens2.arg hsz (j:=2) rfl rfl h2;obtain⟨a2,Z,J,rfl⟩:=okWide_slice Tryd.underlying22 (hval 2 22 v2 rfl rfl);obtain⟨A2,c2,e2,m2,g2⟩:=af;obtain⟨rfl,rfl,rfl⟩:a2=A2∧Z=x2.length∧J=c2:=by simpa[Value.cells]using e2
 clear Y D L hsz;obtain⟨k,hp⟩:=Pure.VerdictGives x0 ag a1 ah x2 ai;refine(Q.recouplaw18_VerdictGives.calls k x0.f0 x0.f1 G I x0.f2 a1 a2 J x2 true W U aa g2 m2 hp (tab_of hL)).mono fun e W' ⟨he,O⟩=>?_;have bel:=O;subst he;exact⟨_,rfl,_,_,_,[],_,[],hW',trodAll_mk1 (shut_bool Tryd.underlying4 _),(trodAll_cons_mk (Below.trod laidOut zb (of_decide_eq_true zb) h0 bel (Open.trod_lt_of h0)) (trodAll_cons_mk (Below.trod laidOut zb (of_decide_eq_true zb) h1 bel (Open.trod_lt_of h1)) (trodAll_cons_mk (Below.trod laidOut zb (of_decide_eq_true zb) h2 bel (Open.trod_lt_of h2)) trodAll_mk0))),rfl,bel.frame _,fun h=>by cases h⟩
theorem over:Rows.verdictGivesRow.holds Tryd.pinned (OpenSpec.ofChange Rows.verdictGivesSpec):=
 OpenClaim.holds_of_wide 7 Tryd.f7 rfl rfl rfl rfl rfl rfl rfl ⟨rfl,rfl,rfl,rfl,rfl⟩ rfl rfl rfl rfl rfl zb Tryd.func7 zb
  (of_decide_eq_true zb) (by unfold Func.isWrapper;first|(rw[if_pos (by decide+kernel)];kernel_rfl)|(rw[if_neg (by decide+kernel)];exact⟨rfl,rfl⟩))
  (fun os started H enc _=>lifted os started H enc)
theorem proved:Rows.VerdictGivesSaid:=over
end Go.Proofs.YtkagobkedifhkaaDoor.verdictGives
namespace Go.Proofs.YtkagobkedifhkaaDoor
theorem verdictGives_holds:Rows.VerdictGivesCardSaid:=
 Claim7.holds_tied_plain_at .later [] [.data] true (true,"163fb2a85cf09980fcccfd9cca19cb58add400127178a40a6a014b58d1514209") false
  verdictGives.proved (fun _ h=>by cases h) zb (fun _ h=>by cases h) verdictGives_row_tie rfl ⟨rfl,rfl⟩ zb rfl
  (fun f fn hf hfn=>by
    obtain rfl:f=7:=Option.some.inj ((show Tryd.prog.funcNamed "recoup/recouplaw18.VerdictGives" =some 7 by kernel_rfl).symm.trans hf) |>.symm
    obtain rfl:fn=Tryd.f7:=(Option.some.inj (Tryd.func7.symm.trans hfn)).symm;exact⟨by kernel_rfl,fun j t ht=>by
     rw[Tryd.params7]at ht
     have hm:t∈ [24,26,22]:=by simpa using Array.mem_of_getElem? ht
     have hall:([24,26,22].all fun u=> !Tryd.prog.wantsStandIn u)=true:=by kernel_rfl
     exact(show Tryd.prog.wantsStandIn t=false by simpa using List.all_eq_true.1 hall t hm)⟩)
  zb
end Go.Proofs.YtkagobkedifhkaaDoor
