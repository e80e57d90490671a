/- Texts of the proof of LocalFresh: what each Go function answers, and what the answers mean; no condition beyond each theorem's own. -/
import Derived.Laws.Bits64
import Derived.Laws.Bits64b
import GoSem.Claim
import Derived.Lib.TrailingZeros
import Derived.Test.YtjgcocfnilhggaaDoorLh5
set_option maxHeartbeats 16000000
set_option maxRecDepth 100000
set_option linter.unusedVariables false
set_option linter.unusedSimpArgs false
namespace Go.Proofs.YtjgcocfnilhggaaDoor.M
open RowKit YtjgcocfnilhggaaDoorW.PrintWords YtjgcocfnilhggaaDoorW.PrintMore
def Ends{α:Type}(g:Nat->Option α)(r:α):Prop:= ∃K,∀k,K<=k->g k=some r
theorem Ends.const{α:Type}{x:Option α}{r:α}(h:x=some r):Ends (fun _=>x) r:=⟨0,fun _ _=>h⟩
theorem Ends.exists{α:Type}{g:Nat->Option α}{r:α}(h:Ends g r): ∃k,g k=some r:=by
 obtain⟨K,h⟩:=h;exact⟨K,h K (Nat.le_refl _)⟩
theorem Ends.bind{α β:Type}{f:Nat->Option α}{h:Nat->α->Option β}{x:α}{r:β}(hf:Ends f x)(hh:Ends (fun k=>h k x) r):Ends (fun k=>(f k).bind (h k)) r:=by
 obtain⟨K,hf⟩:=hf;obtain⟨L,hh⟩:=hh;refine⟨max K L,fun k hk=>?_⟩;show(f k).bind (h k)=some r;rw[hf k za];exact hh k za
theorem Ends.bind1{α β:Type}{x:Option α}{h:Nat->α->Option β}{a:α}{r:β}(hx:x=some a)(hh:Ends (fun k=>h k a) r):Ends (fun k=>x.bind (h k)) r:=by
 subst hx;exact hh
theorem Ends.pos{α:Type}{f g:Nat->Option α}{c:Prop} [Decidable c]{r:α}(hc:c)(hf:Ends f r):Ends (fun k=>if c then f k else g k) r:=by
 simp only[if_pos hc];exact hf
theorem Ends.neg{α:Type}{f g:Nat->Option α}{c:Prop} [Decidable c]{r:α}(hc: ¬c)(hg:Ends g r):Ends (fun k=>if c then f k else g k) r:=by
 simp only[if_neg hc];exact hg
theorem Ends.succ{α:Type}{l body:Nat->Option α}{r:α}(hs: ∀k,l (k+1)=body k)(hb:Ends body r):Ends l r:=by
 obtain⟨K,hb⟩:=hb;refine⟨K+1,fun k hk=>?_⟩;obtain⟨j,rfl⟩: ∃j,k=j+1:=⟨k-1,by omega⟩
 rw[hs];exact hb j za
theorem Ends.congr{α:Type}{f g:Nat->Option α}{r:α}(h: ∀k,f k=g k)(hg:Ends g r):Ends f r:=by
 obtain⟨K,hg⟩:=hg;exact⟨K,fun k hk=>by rw[h,hg k hk]⟩
theorem Ends.eq{α:Type}{g:Nat->Option α}{r r':α}(h:Ends g r)(e:r=r'):Ends g r':=e▸h
theorem w64{x:Int}(h0: -9223372036854775808<=x)(h1:x<=9223372036854775807):wrap64 x=x:=by unfold wrap64;omega
theorem wu64{x:Int}(h0:0<=x)(h1:x<18446744073709551616):IntKind.u64.wrap x=x:=by rw[IntKind.wrap_u64];omega
theorem wuN{y:Nat}(h:y<2^64):IntKind.u64.wrap (y:Int)=(y:Int):=by
 have h1:(y:Int)<18446744073709551616:=by omega
 exact wu64 za h1
theorem rd_nat(l:List Int)(i:Nat):rd l (i:Int)=l.getD i 0:=by simp[rd]
theorem rd_map(l:List Nat)(i:Nat)(h:i<l.length):rd (l.map fun(x:Nat)=>(x:Int)) (i:Int)=((l[i]:Nat):Int):=by
 rw[rd_nat,List.getD_eq_getElem?_getD,List.getElem?_map,List.getElem?_eq_getElem h];rfl
theorem wf_u64{n:Int}(h:(Lit.int .u64 n).wf=true):0<=n/\n<=18446744073709551615:=by
 simp[Lit.wf,IntKind.min,IntKind.max,IntKind.signed,IntKind.bits]at h
 omega
theorem wf_i64{n:Int}(h:(Lit.int .i64 n).wf=true): -9223372036854775808<=n/\n<=9223372036854775807:=by
 simp[Lit.wf,IntKind.min,IntKind.max,IntKind.signed,IntKind.bits]at h
 omega
theorem wf_u8{n:Int}(h:(Lit.int .u8 n).wf=true):0<=n/\n<=255:=by
 simp[Lit.wf,IntKind.min,IntKind.max,IntKind.signed,IntKind.bits]at h
 omega
theorem u64_nat{s:Int}(h:(Lit.int .u64 s).wf=true): ∃m:Nat,s=(m:Int)/\m<2^64:=by
 have h2:=wf_u64 h;obtain⟨m,rfl⟩:=Int.eq_ofNat_of_zero_le h2.1;exact⟨m,rfl,by omega⟩
theorem lt_or{a b:Nat}(ha:a<2^64)(hb:b<2^64):a|||b<2^64:=Nat.or_lt_two_pow ha hb
theorem lt_and{a b:Nat}(ha:a<2^64):a &&& b<2^64:=Nat.lt_of_le_of_lt Nat.and_le_left ha
theorem band{a b:Nat}(ha:a<2^64)(hb:b<2^64):Go.bits .and .u64 (a:Int) (b:Int)=((a &&& b:Nat):Int):=bits_and_u64_nat a b za za
theorem bor{a b:Nat}(ha:a<2^64)(hb:b<2^64):Go.bits .or .u64 (a:Int) (b:Int)=((a|||b:Nat):Int):=bits_or_u64_nat a b za za
theorem bandNot{a b:Nat}(ha:a<2^64)(hb:b<2^64):Go.bits .andNot .u64 (a:Int) (b:Int)=((a &&& (2^64-1-b):Nat):Int):=by
 have h1:(BitVec.ofInt 64 (a:Int)).toNat=a:=by
  rw[BitVec.ofInt_natCast,BitVec.toNat_ofNat];exact Nat.mod_eq_of_lt ha
 have h2:(BitVec.ofInt 64 (b:Int)).toNat=b:=by
  rw[BitVec.ofInt_natCast,BitVec.toNat_ofNat];exact Nat.mod_eq_of_lt hb
 show IntKind.u64.wrap ((BitVec.ofInt 64 (a:Int) &&& ~~~ BitVec.ofInt 64 (b:Int)).toNat:Int)=_;rw[BitVec.toNat_and,BitVec.toNat_not,h1,h2];exact wu64 za (by have:=lt_and (b:=2^64-1-b) ha;omega)
theorem testBit_compl{b:Nat}(hb:b<2^64)(i:Nat):(2^64-1-b).testBit i=(decide (i<64)&& !b.testBit i):=by
 rw[show 2^64-1-b=2^64-(b+1)from by omega,Nat.testBit_two_pow_sub_succ hb]
theorem testBit_andNot{a b:Nat}(ha:a<2^64)(hb:b<2^64)(i:Nat):(a &&& (2^64-1-b)).testBit i=(a.testBit i&& !b.testBit i):=by
 rw[Nat.testBit_and,testBit_compl hb];by_cases h:i<64
 ·simp[h]
 ·have:a.testBit i=false:=Nat.testBit_lt_two_pow (Nat.lt_of_lt_of_le ha (Nat.pow_le_pow_right zb za));simp[this]
theorem testBit_big{a:Nat}(ha:a<2^64){i:Nat}(hi:64<=i):a.testBit i=false:=
 Nat.testBit_lt_two_pow (Nat.lt_of_lt_of_le ha (Nat.pow_le_pow_right zb hi))
theorem shl_one{i:Nat}(hi:i<64):shl .u64 1 (i:Int)=((2^i:Nat):Int):=by
 unfold shl;have e:min (i:Int).toNat IntKind.u64.bits=i:=by simp[IntKind.bits];omega
 rw[e,Int.one_mul];have h:(2:Nat)^i<2^64:=Nat.pow_lt_pow_right zb hi;rw[show((2:Int)^i)=((2^i:Nat):Int)from by simp];exact wu64 (Int.natCast_nonneg _) (Int.ofNat_lt.mpr h)
theorem shl_one_64{i:Int}(hi:64<=i):shl .u64 1 i=0:=by
 unfold shl;have e:min i.toNat IntKind.u64.bits=64:=by simp[IntKind.bits];omega
 rw[e];decide
theorem pow_lt{i:Nat}(hi:i<64):2^i<2^64:=Nat.pow_lt_pow_right zb hi
theorem shr_nat{n i:Nat}(hi:i<=64):shr .u64 (n:Int) (i:Int)=((n >>> i:Nat):Int):=by
 unfold shr;have e:min (i:Int).toNat IntKind.u64.bits=i:=by simp[IntKind.bits];omega
 rw[e,Nat.shiftRight_eq_div_pow];simp
theorem bit_asked{n i:Nat}(hn:n<2^64)(hi:i<=64):(Go.bits .and .u64 (shr .u64 (n:Int) (i:Int)) 1==1)=n.testBit i:=by
 rw[shr_nat hi];have h1:n >>> i<2^64:=by
  rw[Nat.shiftRight_eq_div_pow];exact Nat.lt_of_le_of_lt (Nat.div_le_self _ _) hn
 have e:=band h1 (show 1<2^64 by decide);simp only[Int.natCast_one]at e;rw[e,Nat.and_one_is_mod,Bool.eq_iff_iff,beq_iff_eq,Nat.testBit_eq_decide_div_mod_eq,Nat.shiftRight_eq_div_pow,decide_eq_true_eq];omega
theorem sorted_ext: ∀ {l m:List Nat},l.Pairwise (· < ·)->m.Pairwise (· < ·)->(∀x,x∈l↔x∈m)->l=m
 | [],[],_,_,_=>rfl
 | [],b::m,_,_,h=>absurd ((h b).2 List.mem_cons_self) zd
 |a::l,[],_,_,h=>absurd ((h a).1 List.mem_cons_self) zd
 |a::l,b::m,hl,hm,h=>by
  rw[List.pairwise_cons]at hl hm
  have hab:a=b:=by
   have h1:=(h a).1 List.mem_cons_self;have h2:=(h b).2 List.mem_cons_self;rw[List.mem_cons]at h1 h2
   rcases h1 with h1|h1
   ·exact h1
   ·rcases h2 with h2|h2
    ·exact h2.symm
    ·have:=hm.1 a h1;have:=hl.1 b h2;omega
  subst hab
  congr 1
  refine sorted_ext hl.2 hm.2 fun x=>?_;have hx:=h x;rw[List.mem_cons,List.mem_cons]at hx
  constructor
  ·intro hxl;rcases hx.1 (Or.inr hxl)with rfl|h1
   ·have:=hl.1 _ hxl;omega
   ·exact h1
  ·intro hxm;rcases hx.2 (Or.inr hxm)with rfl|h1
   ·have:=hm.1 _ hxm;omega
   ·exact h1
def setL(n:Nat):List Nat:=(List.range 64).filter fun i=>n.testBit i
theorem setL_sorted(n:Nat):(setL n).Pairwise (· < ·):=List.Pairwise.filter _ List.pairwise_lt_range
theorem mem_setL{n i:Nat} :i∈setL n↔i<64/\n.testBit i=true:=by simp[setL]
theorem mem_setL'{n i:Nat}(hn:n<2^64):i∈setL n↔n.testBit i=true:=by
 rw[mem_setL];constructor
 ·exact fun h=>h.2
 ·intro h;refine⟨?_,h⟩;rcases Nat.lt_or_ge i 64 with h1|h1
  ·exact h1
  ·rw[testBit_big hn h1]at h
   cases h
theorem setL_length(n:Nat):(setL n).length<=64:=by
 have:=List.length_filter_le (fun i=>n.testBit i) (List.range 64);simpa[setL]using this
theorem setL_zero:setL 0= []:=by simp[setL]
theorem lowest{n:Nat}(h0:n≠0)(hn:n<2^64):Lib.ctz 64 n<64/\n.testBit (Lib.ctz 64 n)=true/\(∀i,i<Lib.ctz 64 n->n.testBit i=false)/\ ∀i,(n &&& (n-1)).testBit i=(n.testBit i&&decide (i≠Lib.ctz 64 n)):=by
 have hc:Lib.ctz 64 n=Lib.ctzFrom 64 n:=by unfold Lib.ctz;rw[if_neg h0]
 obtain⟨m,hm,hlt⟩:=Lib.ctzFrom_spec 64 n za hn;rw[hc];generalize Lib.ctzFrom 64 n=c at hm hlt;have hp:0<2^c:=Nat.pow_pos zb;have e1:n-1=2^c*(2*m)+(2^c-1):=by rw[hm,Nat.mul_add];omega
 have b1: ∀i,n.testBit i=if i<c then false else(2*m+1).testBit (i-c):=by
  intro i;rw[hm,Nat.testBit_two_pow_mul];by_cases h:i<c
  ·rw[if_pos h];simp;omega
  ·rw[if_neg h];simp;omega
 have b2: ∀i,(n-1).testBit i=if i<c then true else(2*m).testBit (i-c):=by
  intro i;rw[e1,Nat.testBit_two_pow_mul_add _ za];by_cases h:i<c
  ·rw[if_pos h,if_pos h,Nat.testBit_two_pow_sub_one];simp[h]
  ·rw[if_neg h,if_neg h]
 refine⟨hlt,?_,?_,?_⟩
 ·rw[b1,if_neg za,Nat.sub_self,Nat.testBit_zero];simp
 ·intro i hi;rw[b1,if_pos hi]
 ·intro i;rw[Nat.testBit_and,b1,b2];by_cases h:i<c
  ·rw[if_pos h];simp
  ·rw[if_neg h,if_neg h];by_cases h2:i=c
   ·subst h2;rw[Nat.sub_self,Nat.testBit_zero,Nat.testBit_zero];simp
   ·obtain⟨j,hj⟩: ∃j,i-c=j+1:=⟨i-c-1,by omega⟩
    rw[hj,Nat.testBit_succ,Nat.testBit_succ,show(2*m+1) / 2=m from by omega,show 2*m / 2=m from by omega];simp[h2]
theorem setL_step{n:Nat}(h0:n≠0)(hn:n<2^64):setL n=Lib.ctz 64 n::setL (n &&& (n-1)):=by
 obtain⟨h1,h2,h3,h4⟩:=lowest h0 hn;have hn':n &&& (n-1)<2^64:=lt_and hn;refine sorted_ext (setL_sorted _) ?_ fun x=>?_
 ·rw[List.pairwise_cons];refine⟨fun x hx=>?_,setL_sorted _⟩;rw[mem_setL' hn',h4]at hx
  simp only[Bool.and_eq_true,decide_eq_true_eq]at hx;rcases Nat.lt_or_ge x (Lib.ctz 64 n)with h|h
  ·rw[h3 x h]at hx
   exact absurd hx.1 zd
  ·omega
 ·rw[List.mem_cons,mem_setL' hn,mem_setL' hn',h4];simp only[Bool.and_eq_true,decide_eq_true_eq];by_cases hx:x=Lib.ctz 64 n
  ·subst hx;simp[h2]
  ·simp[hx]
def ints(l:List Nat):List Int:=l.map fun(x:Nat)=>(x:Int)
theorem ints_length(l:List Nat):(ints l).length=l.length:=List.length_map _
theorem ints_append(a b:List Nat):ints (a++b)=ints a++ints b:=List.map_append
theorem rd_ints(l:List Nat)(i:Nat)(h:i<l.length):rd (ints l) (i:Int)=((l[i]:Nat):Int):=rd_map l i h
theorem ints_getD(l:List Nat)(i:Nat):(ints l).getD i 0=((l.getD i 0:Nat):Int):=by
 unfold ints;rw[List.getD_eq_getElem?_getD,List.getD_eq_getElem?_getD,List.getElem?_map]
 cases l[i]? <;>rfl
def ofL(l:List Nat):Nat:=l.foldl (fun s i=>s|||2^i) 0
theorem foldl_or(l:List Nat): ∀s:Nat,l.foldl (fun s i=>s|||2^i) s=s|||ofL l:=by
 induction l with
 |nil=>intro s;simp[ofL]
 |cons a l ih=>
  intro s;have h1:=ih (s|||2^a);have h2:=ih (0|||2^a);unfold ofL;rw[List.foldl_cons,h1,List.foldl_cons,h2,Nat.zero_or,Nat.or_assoc]
theorem ofL_nil:ofL [] =0:=rfl
theorem ofL_snoc(l:List Nat)(a:Nat):ofL (l++ [a])=ofL l|||2^a:=by simp[ofL,List.foldl_append]
theorem ofL_cons(a:Nat)(l:List Nat):ofL (a::l)=2^a|||ofL l:=by
 have:=foldl_or l (0|||2^a);rw[Nat.zero_or]at this
 unfold ofL at this⊢;rw[List.foldl_cons,Nat.zero_or];exact this
theorem testBit_ofL(l:List Nat)(i:Nat):(ofL l).testBit i=decide (i∈l):=by
 induction l with
 |nil=>simp[ofL]
 |cons a l ih=>
  rw[ofL_cons,Nat.testBit_or,ih,Nat.testBit_two_pow,Bool.eq_iff_iff,Bool.or_eq_true,decide_eq_true_eq,decide_eq_true_eq,decide_eq_true_eq,List.mem_cons];constructor
  ·rintro(h|h)
   ·exact Or.inl h.symm
   ·exact Or.inr h
  ·rintro(h|h)
   ·exact Or.inl h.symm
   ·exact Or.inr h
theorem ofL_lt(l:List Nat)(h: ∀i∈l,i<64):ofL l<2^64:=by
 apply Nat.lt_pow_two_of_testBit;intro i hi;rw[testBit_ofL];simp;intro hm;have:=h i hm;omega
theorem setL_ofL{l:List Nat}(h:l.Pairwise (· < ·))(h2: ∀i∈l,i<64):setL (ofL l)=l:=by
 refine sorted_ext (setL_sorted _) h fun x=>?_;rw[mem_setL,testBit_ofL];simp;exact h2 x
theorem ofL_setL{n:Nat}(hn:n<2^64):ofL (setL n)=n:=by
 apply Nat.eq_of_testBit_eq;intro i;rw[testBit_ofL,Bool.eq_iff_iff,decide_eq_true_eq,mem_setL' hn]
def ofD(B:Nat):List Nat->Nat
 | []=>0
 |c::r=>c+B*ofD B r
def evens:List Nat->List Nat
 |a::_::r=>a::evens r
 |_=> []
def pairs:List Nat->List Nat
 |a::b::r=>(a+b)::pairs r
 |_=> []
def maskD(B:Nat)(n:Nat):Nat:=ofD (B*B) (List.replicate n (B-1))
theorem ofD_lt{B:Nat}(hB:0<B): ∀ {l:List Nat},(∀c∈l,c<B)->ofD B l<B^l.length
 | [],_=>by simp[ofD]
 |c::r,h=>by
  have h1:=ofD_lt hB (l:=r) fun x hx=>h x (List.mem_cons_of_mem _ hx);have h2:=h c List.mem_cons_self;have h3:B*(ofD B r+1)<=B*B^r.length:=Nat.mul_le_mul_left _ h1;rw[List.length_cons,Nat.pow_succ,Nat.mul_comm (B^r.length)];simp only[ofD];rw[Nat.mul_add]at h3
  omega
theorem and_split{k a x c y:Nat}(ha:a<2^k)(hc:c<2^k):(a+2^k*x) &&& (c+2^k*y)=(a &&& c)+2^k*(x &&& y):=by
 apply Nat.eq_of_testBit_eq;intro i;rw[Nat.add_comm a,Nat.add_comm c,Nat.add_comm (a &&& c),Nat.testBit_and,Nat.testBit_two_pow_mul_add _ ha,Nat.testBit_two_pow_mul_add _ hc,Nat.testBit_two_pow_mul_add _ (Nat.lt_of_le_of_lt Nat.and_le_left ha)];by_cases h:i<k
 case neg=>simp[h]
 simp[h]
theorem mask_evens{w:Nat} : ∀(n:Nat) (l:List Nat),l.length=2*n->(∀c∈l,c<2^w)->ofD (2^w) l &&& maskD (2^w) n=ofD (2^w*2^w) (evens l)
 |0,[],_,_=>by simp[ofD,maskD,evens]
 |0,_::_,h,_=>by simp at h
 |n+1,[],h,_=>by simp at h
 |n+1,[_],h,_=>by simp at h;omega
 |n+1,a::b::r,h,hl=>by
  have ih:=mask_evens n r (by simp at h;omega) fun x hx=>hl x (List.mem_cons_of_mem _ (List.mem_cons_of_mem _ hx));have ha:=hl a List.mem_cons_self;have hb:=hl b (List.mem_cons_of_mem _ List.mem_cons_self);have hp:0<2^w:=Nat.pow_pos zb;have e1:ofD (2^w) (a::b::r)=(a+2^w*b)+2^(w+w)*ofD (2^w) r:=by
   simp only[ofD];rw[Nat.mul_add,Nat.pow_add,Nat.mul_assoc];omega
  have e2:maskD (2^w) (n+1)=(2^w-1)+2^(w+w)*maskD (2^w) n:=by
   unfold maskD;rw[List.replicate_succ,ofD,Nat.pow_add]
  have hab:a+2^w*b<2^(w+w):=by
   have:2^w*(b+1)<=2^w*2^w:=Nat.mul_le_mul_left _ hb;rw[Nat.mul_add]at this
   rw[Nat.pow_add];omega
  have hm:2^w-1<2^(w+w):=by
   have:2^w*1<=2^w*2^w:=Nat.mul_le_mul_left _ hp;rw[Nat.pow_add];omega
  rw[e1,e2,and_split hab hm,ih,Nat.and_two_pow_sub_one_eq_mod,Nat.add_mul_mod_self_left,Nat.mod_eq_of_lt ha,evens,ofD,Nat.pow_add]
theorem ofD_shift{w:Nat}{c:Nat}{r:List Nat}(hc:c<2^w):ofD (2^w) (c::r) / 2^w=ofD (2^w) r:=by
 simp only[ofD];rw[Nat.add_mul_div_left _ _ (Nat.pow_pos zb),Nat.div_eq_of_lt hc,Nat.zero_add]
theorem ofD_snoc_zero(B:Nat): ∀l:List Nat,ofD B (l++ [0])=ofD B l
 | []=>by simp[ofD]
 |c::r=>by simp only[List.cons_append,ofD,ofD_snoc_zero B r]
theorem pairs_sum: ∀(n:Nat) (l:List Nat),l.length=2*n->(pairs l).sum=l.sum/\(pairs l).length=n
 |0,[],_=>by simp[pairs]
 |0,_::_,h=>by simp at h
 |n+1,[],h=>by simp at h
 |n+1,[_],h=>by simp at h;omega
 |n+1,a::b::r,h=>by
  have ih:=pairs_sum n r (by simp at h;omega);exact⟨by simp only[pairs,List.sum_cons,ih.1,Nat.add_assoc],by simp only[pairs,List.length_cons,ih.2]⟩
theorem pairs_le{B:Nat} : ∀(l:List Nat),(∀c∈l,c<=B)-> ∀c∈pairs l,c<=2*B
 | [],_,c,hc=>by simp[pairs]at hc
 | [_],_,c,hc=>by simp[pairs]at hc
 |a::b::r,h,c,hc=>by
  simp only[pairs,List.mem_cons]at hc;have ha:=h a List.mem_cons_self;have hb:=h b (List.mem_cons_of_mem _ List.mem_cons_self);rcases hc with rfl|hc
  ·omega
  ·exact pairs_le r (fun x hx=>h x (List.mem_cons_of_mem _ (List.mem_cons_of_mem _ hx))) c hc
theorem evens_odds(B:Nat): ∀(n:Nat) (l:List Nat),l.length=2*n->ofD B (evens (l.tail++ [0]))+ofD B (evens l)=ofD B (pairs l)
 |0,[],_=>by simp[evens,pairs,ofD]
 |0,_::_,h=>by simp at h
 |n+1,[],h=>by simp at h
 |n+1,[_],h=>by simp at h;omega
 |n+1,[a,b],_=>by simp[evens,pairs,ofD];omega
 |n+1,a::b::c::r,h=>by
  have ih:=evens_odds B n (c::r) (by simp at h⊢;omega);simp only[List.tail_cons,List.cons_append,evens,pairs,ofD]at ih⊢;rw[<-ih,Nat.mul_add];omega
theorem fields_add{w n:Nat}{l:List Nat}(hl:l.length=2*n)(h: ∀c∈l,c<2^w):
 ((ofD (2^w) l / 2^w) &&& maskD (2^w) n)+(ofD (2^w) l &&& maskD (2^w) n)=ofD (2^w*2^w) (pairs l):=by
 cases l with
 |nil=>
  obtain rfl:n=0:=by simp at hl;omega
  simp[ofD,maskD,pairs]
 |cons c r=>
  rw[ofD_shift (h c List.mem_cons_self),<-ofD_snoc_zero,mask_evens n (r++ [0]) (by simp at hl⊢;omega),mask_evens n (c::r) hl h,<-evens_odds _ n _ hl,List.tail_cons];intro x hx;rw[List.mem_append]at hx
  rcases hx with hx|hx
  ·exact h x (List.mem_cons_of_mem _ hx)
  ·simp at hx;subst hx;exact Nat.pow_pos zb
def bitsD(n:Nat)(i:Nat):Nat->List Nat
 |0=> []
 |c+1=>(if n.testBit i then 1 else 0)::bitsD n (i+1) c
theorem ofD_bitsD(n:Nat): ∀(c i:Nat),ofD 2 (bitsD n i c)=n / 2^i % 2^c
 |0,i=>by simp[bitsD,ofD,Nat.mod_one]
 |c+1,i=>by
  simp only[bitsD,ofD];rw[ofD_bitsD n c (i+1),Nat.testBit_eq_decide_div_mod_eq,Nat.pow_succ 2 i,<-Nat.div_div_eq_div_mul];have h:=Nat.mod_mul (a:=2) (b:=2^c) (x:=n / 2^i);rw[Nat.pow_succ,Nat.mul_comm (2^c) 2,h];have:n / 2^i % 2<2:=Nat.mod_lt _ zb;by_cases h1:n / 2^i % 2=1
  ·simp[h1]
  have:n / 2^i % 2=0:=by omega
  simp[this]
theorem bitsD_length(n:Nat): ∀c i,(bitsD n i c).length=c
 |0,_=>rfl
 |c+1,i=>by simp[bitsD,bitsD_length n c (i+1)]
theorem bitsD_le(n:Nat): ∀c i,∀x∈bitsD n i c,x<=1
 |0,_,x,hx=>by simp[bitsD]at hx
 |c+1,i,x,hx=>by
  simp only[bitsD,List.mem_cons]at hx;rcases hx with rfl|hx
  ·split<;>omega
  ·exact bitsD_le n c (i+1) x hx
theorem bitsD_sum(n:Nat): ∀c i,(bitsD n i c).sum=((List.range' i c).filter fun j=>n.testBit j).length
 |0,i=>by simp[bitsD]
 |c+1,i=>by
  simp only[bitsD,List.sum_cons,bitsD_sum n c (i+1),List.range'_succ,List.filter_cons]
  split<;>simp<;>omega
theorem mask1:maskD (2^1) 32=6148914691236517205:=by decide
theorem mask2:maskD (2^2) 16=3689348814741910323:=by decide
theorem mask4:maskD (2^4) 8=1085102592571150095:=by decide
theorem ofD_zip{B:Nat} : ∀(a b:List Nat),a.length=b.length->ofD B (List.zipWith (· + ·) a b)=ofD B a+ofD B b
 | [],[],_=>rfl
 | [],_::_,h=>by simp at h
 |_::_,[],h=>by simp at h
 |x::a,y::b,h=>by
  have ih:=ofD_zip (B:=B) a b zae;simp only[List.zipWith_cons_cons,ofD,ih,Nat.mul_add];omega
theorem zip_le{A B:Nat} : ∀(a b:List Nat),(∀c∈a,c<=A)->(∀c∈b,c<=B)-> ∀c∈List.zipWith (· + ·) a b,c<=A+B
 | [],_,_,_,c,hc=>by simp at hc
 |_::_,[],_,_,c,hc=>by simp at hc
 |x::a,y::b,ha,hb,c,hc=>by
  simp only[List.zipWith_cons_cons,List.mem_cons]at hc;have h1:=ha x List.mem_cons_self;have h2:=hb y List.mem_cons_self;rcases hc with rfl|hc
  ·omega
  ·exact zip_le a b (fun z hz=>ha z (List.mem_cons_of_mem _ hz)) (fun z hz=>hb z (List.mem_cons_of_mem _ hz)) c hc
theorem evens_zip: ∀(n:Nat) (m:List Nat),m.length=2*n->evens (List.zipWith (· + ·) (m.tail++ [0]) m)=pairs m
 |0,[],_=>rfl
 |0,_::_,h=>by simp at h
 |n+1,[],h=>by simp at h
 |n+1,[_],h=>by simp at h;omega
 |n+1,[a,b],_=>by simp[evens,pairs,Nat.add_comm]
 |n+1,a::b::c::r,h=>by
  have ih:=evens_zip n (c::r) (by simp at h⊢;omega);simp only[List.tail_cons,List.cons_append,List.zipWith_cons_cons,evens,pairs]at ih⊢;rw[ih,Nat.add_comm a b]
theorem steps(x:Nat)(hx:x<2^64): ∃l1 l2 l3:List Nat,l1.length=32/\(∀c∈l1,c<=2)/\l2.length=16/\(∀c∈l2,c<=4)/\l3.length=8/\(∀c∈l3,c<=8)/\l3.sum=(setL x).length/\
 (x / 2 &&& 6148914691236517205)+(x &&& 6148914691236517205)=ofD 4 l1/\(ofD 4 l1 / 4 &&& 3689348814741910323)+(ofD 4 l1 &&& 3689348814741910323)=ofD 16 l2/\
 (ofD 16 l2 / 16+ofD 16 l2) &&& 1085102592571150095=ofD 256 l3:=by
 have hb:=ofD_bitsD x 64 0;rw[Nat.pow_zero,Nat.div_one,Nat.mod_eq_of_lt hx]at hb
 have hl:=bitsD_length x 64 0;have hs:=bitsD_sum x 64 0;have hle:=bitsD_le x 64 0;generalize bitsD x 0 64=l at hb hl hs hle;have p1:=pairs_sum 32 l hl;have q1:=pairs_le (B:=1) l hle;have p2:=pairs_sum 16 (pairs l) p1.2;have q2:=pairs_le (B:=2) (pairs l) q1;have p3:=pairs_sum 8 (pairs (pairs l)) p2.2;have q3:=pairs_le (B:=4) (pairs (pairs l)) q2;refine⟨pairs l,pairs (pairs l),pairs (pairs (pairs l)),p1.2,q1,p2.2,q2,p3.2,q3,?_,?_,?_,?_⟩
 ·rw[p3.1,p2.1,p1.1,hs,setL,List.range_eq_range']
 ·have:=fields_add (w:=1) (n:=32) hl (fun c hc=>by have:=hle c hc;omega);rw[mask1,show(2:Nat)^1=2 from rfl,hb]at this
  exact this
 ·have:=fields_add (w:=2) (n:=16) p1.2 (fun c hc=>by have:=q1 c hc;omega);rw[mask2]at this
  exact this
 ·
  have hm:=fields_add (w:=4) (n:=8) p2.2 (fun c hc=>by have:=q2 c hc;omega);have hlen:(pairs (pairs l)).length=16:=p2.2;generalize pairs (pairs l)=m at hm hlen q2;have hz:ofD 16 m / 16+ofD 16 m=ofD 16 (List.zipWith (· + ·) (m.tail++ [0]) m)/\(∀c∈List.zipWith (· + ·) (m.tail++ [0]) m,c<16)/\evens (List.zipWith (· + ·) (m.tail++ [0]) m)=pairs m:=by
   refine⟨?_,?_,evens_zip 8 m hlen⟩
   ·cases m with
    |nil=>simp at hlen
    |cons c r=>
     have h:=ofD_shift (w:=4) (c:=c) (r:=r) (by have:=q2 c List.mem_cons_self;omega);rw[show(2:Nat)^4=16 from rfl]at h
     rw[h,ofD_zip _ _ zd,List.tail_cons,ofD_snoc_zero]
   ·intro c hc;have:=zip_le (A:=4) (B:=4) (m.tail++ [0]) m (fun x hx=>by
     rw[List.mem_append]at hx
     rcases hx with hx|hx
     ·exact q2 x (List.mem_of_mem_tail hx)
     ·simp at hx;omega) q2 c hc
    omega
  rw[hz.1];have:=mask_evens (w:=4) 8 (List.zipWith (· + ·) (m.tail++ [0]) m) (by simp[hlen]) hz.2.1;rw[mask4]at this
  rw[show(16:Nat)=2^4 from rfl,this,hz.2.2]
theorem t1(c0 c1 c2 c3 c4 c5 c6 c7 X Y:Nat)(hY:Y=c1+256*c2+65536*c3+16777216*c4+4294967296*c5+1099511627776*c6+281474976710656*c7)(hX:X=c0+256*c1+65536*c2+16777216*c3+4294967296*c4+1099511627776*c5+281474976710656*c6+72057594037927936*c7):X=c0+256*Y:=by omega
theorem t2(c0 c1 c2 c3 c4 c5 c6 c7 X Y Z:Nat)(hY:Y=c1+256*c2+65536*c3+16777216*c4+4294967296*c5+1099511627776*c6+281474976710656*c7)(hX:X=c0+256*c1+65536*c2+16777216*c3+4294967296*c4+1099511627776*c5+281474976710656*c6+72057594037927936*c7)(hZ:Z=(c2+c3)+256*(c3+c4)+65536*(c4+c5)+16777216*(c5+c6)+4294967296*(c6+c7)+1099511627776*c7):X+Y=((c0+c1)+256*(c1+c2))+65536*Z:=by omega
theorem t3(c0 c1 c2 c3 c4 c5 c6 c7 X Y Z V:Nat)(hY:Y=c1+256*c2+65536*c3+16777216*c4+4294967296*c5+1099511627776*c6+281474976710656*c7)(hX:X=c0+256*c1+65536*c2+16777216*c3+4294967296*c4+1099511627776*c5+281474976710656*c6+72057594037927936*c7)(hZ:Z=(c2+c3)+256*(c3+c4)+65536*(c4+c5)+16777216*(c5+c6)+4294967296*(c6+c7)+1099511627776*c7)
 (hV:V=(c4+c5+c6+c7)+256*(c5+c6+c7)+65536*(c6+c7)+16777216*c7):X+Y+Z=((c0+c1+c2+c3)+256*(c1+c2+c3+c4)+65536*(c2+c3+c4+c5)+16777216*(c3+c4+c5+c6))+4294967296*V:=by omega
theorem t4(c0 c1 c2 c3 c4 c5 c6 c7 X Y Z V:Nat)(hV:V=(c4+c5+c6+c7)+256*(c5+c6+c7)+65536*(c6+c7)+16777216*c7)(h:X+Y+Z=((c0+c1+c2+c3)+256*(c1+c2+c3+c4)+65536*(c2+c3+c4+c5)+16777216*(c3+c4+c5+c6))+4294967296*V):X+Y+Z+V=(c0+c1+c2+c3+c4+c5+c6+c7)+128*(2*((c1+c2+c3+c4)+256*(c2+c3+c4+c5)+65536*(c3+c4+c5+c6)+16777216*V+((c5+c6+c7)+256*(c6+c7)+65536*c7))):=by omega
theorem t5(c0 c1 c2 c3 c4 c5 c6 c7 X:Nat)(h0:c0<=8)(h1:c1<=8)(h2:c2<=8)(h3:c3<=8)(h4:c4<=8)(h5:c5<=8)(h6:c6<=8)(h7:c7<=8)(hX:X=c0+256*c1+65536*c2+16777216*c3+4294967296*c4+1099511627776*c5+281474976710656*c6+72057594037927936*c7):X<578721382704613385:=by omega
theorem t6(c2 c3 c4 c5 c6 c7 Z:Nat)(h2:c2<=8)(h3:c3<=8)(h4:c4<=8)(h5:c5<=8)(h6:c6<=8)(h7:c7<=8)(hZ:Z=(c2+c3)+256*(c3+c4)+65536*(c4+c5)+16777216*(c5+c6)+4294967296*(c6+c7)+1099511627776*c7):Z<=9000000000000:=by omega
theorem t0(c0 c1 c2 c3 c4 c5 c6 c7:Nat):ofD 256 [c0,c1,c2,c3,c4,c5,c6,c7] =c0+256*c1+65536*c2+16777216*c3+4294967296*c4+1099511627776*c5+281474976710656*c6+72057594037927936*c7:=by
 simp only[ofD,Nat.mul_zero,Nat.add_zero];omega
theorem t7(c1 c2 c3 c4 c5 c6 c7 Y:Nat)(h1:c1<=8)(h2:c2<=8)(h3:c3<=8)(h4:c4<=8)(h5:c5<=8)(h6:c6<=8)(h7:c7<=8)(hY:Y=c1+256*c2+65536*c3+16777216*c4+4294967296*c5+1099511627776*c6+281474976710656*c7):Y<=3000000000000000:=by omega
theorem last(l:List Nat)(hl:l.length=8)(h: ∀c∈l,c<=8):ofD 256 l<578721382704613385/\(ofD 256 l+ofD 256 l / 256)+(ofD 256 l+ofD 256 l / 256) / 65536<2^63/\
 ((ofD 256 l+ofD 256 l / 256)+(ofD 256 l+ofD 256 l / 256) / 65536+((ofD 256 l+ofD 256 l / 256)+(ofD 256 l+ofD 256 l / 256) / 65536) / 4294967296) % 128=l.sum:=by
 match l,hl with
 | [c0,c1,c2,c3,c4,c5,c6,c7],_=>
   simp only[List.mem_cons,List.not_mem_nil,or_false,forall_eq_or_imp,forall_eq]at h;obtain⟨h0,h1,h2,h3,h4,h5,h6,h7⟩:=h;have hs: [c0,c1,c2,c3,c4,c5,c6,c7].sum=c0+c1+c2+c3+c4+c5+c6+c7:=by
    simp only[List.sum_cons,List.sum_nil];omega
   rw[hs,t0];generalize hX:c0+256*c1+65536*c2+16777216*c3+4294967296*c4+1099511627776*c5+281474976710656*c6+72057594037927936*c7=X;obtain⟨Y,hY⟩: ∃Y,Y=c1+256*c2+65536*c3+16777216*c4+4294967296*c5+1099511627776*c6+281474976710656*c7:=⟨_,rfl⟩
   obtain⟨Z,hZ⟩: ∃Z,Z=(c2+c3)+256*(c3+c4)+65536*(c4+c5)+16777216*(c5+c6)+4294967296*(c6+c7)+1099511627776*c7:=⟨_,rfl⟩
   obtain⟨V,hV⟩: ∃V,V=(c4+c5+c6+c7)+256*(c5+c6+c7)+65536*(c6+c7)+16777216*c7:=⟨_,rfl⟩
   have b1:=t5 c0 c1 c2 c3 c4 c5 c6 c7 X h0 h1 h2 h3 h4 h5 h6 h7 hX.symm;have b2:=t7 c1 c2 c3 c4 c5 c6 c7 Y h1 h2 h3 h4 h5 h6 h7 hY;have b3:=t6 c2 c3 c4 c5 c6 c7 Z h2 h3 h4 h5 h6 h7 hZ;have e1:=t1 c0 c1 c2 c3 c4 c5 c6 c7 X Y hY hX.symm;have e2:=t2 c0 c1 c2 c3 c4 c5 c6 c7 X Y Z hY hX.symm hZ;have e3:=t3 c0 c1 c2 c3 c4 c5 c6 c7 X Y Z V hY hX.symm hZ hV;have e4:=t4 c0 c1 c2 c3 c4 c5 c6 c7 X Y Z V hV e3;clear hX hY hZ hV;have d1:X / 256=Y:=by
    rw[e1,Nat.add_mul_div_left _ _ zb,Nat.div_eq_of_lt za,Nat.zero_add]
   have d2:(X+Y) / 65536=Z:=by
    rw[e2,Nat.add_mul_div_left _ _ zb,Nat.div_eq_of_lt za,Nat.zero_add]
   have d3:(X+Y+Z) / 4294967296=V:=by
    rw[e3,Nat.add_mul_div_left _ _ zb,Nat.div_eq_of_lt za,Nat.zero_add]
   clear e1 e2 e3;rw[d1,d2,d3,e4,Nat.add_mul_mod_self_left,Nat.mod_eq_of_lt za];exact⟨b1,by omega,rfl⟩
theorem last16(l:List Nat)(hl:l.length=16)(h: ∀c∈l,c<=4):ofD 16 l<=4919131752989213764:=by
 match l,hl with
 | [c0,c1,c2,c3,c4,c5,c6,c7,c8,c9,D,G,I,J,O,U],_=>
   simp only[List.mem_cons,List.not_mem_nil,or_false,forall_eq_or_imp,forall_eq]at h;simp only[ofD,Nat.mul_zero,Nat.add_zero];omega
end Go.Proofs.YtjgcocfnilhggaaDoor.M
namespace Go.Proofs.YtjgcocfnilhggaaDoor.M
open RowKit Q YtjgcocfnilhggaaDoorW.PrintWords YtjgcocfnilhggaaDoorW.PrintMore
theorem low_lt{n:Nat}(hn:n<=64):2^n-1<2^64:=by
 have:2^n<=2^64:=Nat.pow_le_pow_right zb hn;have:0<2^n:=Nat.pow_pos zb;omega
theorem testBit_low(n i:Nat):(2^n-1).testBit i=decide (i<n):=Nat.testBit_two_pow_sub_one n i
theorem refFull_l0{n:Nat}(hn:n<=64)(d:Nat): ∀i,i+d=n->Ends (fun k=>recoupref06_Full.l0 k (n:Int) ((2^i-1:Nat):Int) (i:Int)) (((2^n-1:Nat):Int),0):=by
 induction d with
 |zero=>
  intro i hi;obtain rfl:i=n:=by omega
  refine Ends.succ (fun k=>by rw[recoupref06_Full.l0]) ?_;exact Ends.neg za (Ends.const rfl)
 |succ d ih=>
  intro i hi;refine Ends.succ (fun k=>by rw[recoupref06_Full.l0]) ?_;rw[show IntKind.u64.wrap (i:Int)=(i:Int)from wu64 za za,show wrap64 ((i:Int)+1)=((i+1:Nat):Int)from by rw[w64 za za];omega];refine Ends.pos za (Ends.pos za ?_);have e:Go.bits .or .u64 ((2^i-1:Nat):Int) (shl .u64 1 (i:Int))=((2^(i+1)-1:Nat):Int):=by
   rw[shl_one za,bor (low_lt za) (pow_lt za)]
   congr 1
   apply Nat.eq_of_testBit_eq;intro j;rw[Nat.testBit_or,testBit_low,testBit_low,Nat.testBit_two_pow,Bool.eq_iff_iff,Bool.or_eq_true,decide_eq_true_eq,decide_eq_true_eq,decide_eq_true_eq];omega
  rw[e];exact ih (i+1) za
def fullV(n:Int):Int×Int:=if 0<=n/\n<=64 then(((2^n.toNat-1:Nat):Int),0)else(0,2)
theorem refFull_eq(n:Int):Ends (fun k=>recoupref06_Full.f k n) (fullV n):=by
 unfold recoupref06_Full.f fullV;by_cases h0:n<0
 ·refine Ends.pos h0 (Ends.succ (fun j=>by rw[recoupref06_Full.j0]) (Ends.pos rfl (Ends.const ?_)));rw[if_neg za]
 ·refine Ends.neg h0 ?_;by_cases h1:n>64
  ·refine Ends.succ (fun j=>by rw[recoupref06_Full.j0]) (Ends.pos (by simpa using h1) (Ends.const ?_));rw[if_neg za]
  ·rw[if_pos za];refine Ends.succ (fun j=>by rw[recoupref06_Full.j0]) (Ends.neg (by simpa using h1) ?_);obtain⟨m,rfl⟩:=Int.eq_ofNat_of_zero_le (show 0<=n by omega);exact refFull_l0 za _ 0 (Nat.zero_add _)
theorem has_eq{s:Nat}(hs:s<2^64)(i:Int):recoupref06_Has.f (s:Int) i=some (decide (0<=i)&&s.testBit i.toNat):=by
 unfold recoupref06_Has.f;by_cases h0:i>=0
 ·rw[if_pos h0];obtain⟨j,rfl⟩:=Int.eq_ofNat_of_zero_le h0;by_cases h1:(j:Int)<64
  ·rw[if_pos h1,show IntKind.u64.wrap (j:Int)=(j:Int)from wu64 za za,if_pos za,bit_asked hs za];simp
  ·rw[if_neg h1,Int.toNat_natCast,testBit_big hs za];simp
 ·rw[if_neg h0,show decide (0<=i)=false from by simpa using h0];rfl
theorem refList_l0{s:Nat}(hs:s<2^64)(d:Nat): ∀i,i+d=64->Ends (fun k=>recoupref06_List.l0 k (s:Int) (ints ((List.range i).filter fun j=>s.testBit j)) (i:Int)) (ints (setL s)):=by
 induction d with
 |zero=>
  intro i hi;obtain rfl:i=64:=by omega
  refine Ends.succ (fun k=>by rw[recoupref06_List.l0]) ?_;exact Ends.neg za (Ends.const rfl)
 |succ d ih=>
  intro i hi;have ihn:=ih (i+1) za;refine Ends.succ (fun k=>by rw[recoupref06_List.l0]) ?_;rw[show wrap64 ((i:Int)+1)=((i+1:Nat):Int)from by rw[w64 za za];omega];refine Ends.pos za (Ends.bind1 (has_eq hs _) ?_);have hl:(ints ((List.range i).filter fun j=>s.testBit j)).length<17592186044416:=by
   rw[ints_length];have:=List.length_filter_le (fun j=>s.testBit j) (List.range i);rw[List.length_range]at this
   omega
  rw[List.range_succ,List.filter_append]at ihn
  by_cases hb:s.testBit i=true
  ·refine Ends.pos (by simp[hb]) (Ends.pos hl ?_);rw[show List.filter (fun j=>s.testBit j) [i] = [i]from by simp[hb],ints_append]at ihn
   exact ihn
  ·refine Ends.neg (by simp[hb]) ?_;rw[show List.filter (fun j=>s.testBit j) [i] = []from by simp[hb],List.append_nil]at ihn
   exact ihn
theorem refList_eq{s:Nat}(hs:s<2^64):Ends (fun k=>recoupref06_List.f k (s:Int)) (ints (setL s)):=by
 unfold recoupref06_List.f;exact refList_l0 hs 64 0 za
theorem List_l0(d:Nat): ∀(s:Nat) (acc:List Nat),s<2^64->(setL s).length<=d->acc.length+(setL s).length<=64->Ends (fun k=>subset_List.l0 k (s:Int) (ints acc)) (ints (acc++setL s)):=by
 induction d with
 |zero=>
  intro s acc hs hd hl;have h0:s=0:=by
   apply Classical.byContradiction;intro h;rw[setL_step h hs]at hd
   simp at hd
  subst h0;refine Ends.succ (fun k=>by rw[subset_List.l0]) ?_;refine Ends.pos ze (Ends.const ?_);rw[setL_zero,List.append_nil]
 |succ d ih=>
  intro s acc hs hd hl;by_cases h0:s=0
  ·subst h0;refine Ends.succ (fun k=>by rw[subset_List.l0]) ?_;refine Ends.pos ze (Ends.const ?_);rw[setL_zero,List.append_nil]
  ·have hst:=setL_step h0 hs;rw[hst,List.length_cons]at hd hl
   refine Ends.succ (fun k=>by rw[subset_List.l0]) (Ends.neg za ?_);have ht:bits_TrailingZeros64.f (s:Int)=some ((Lib.ctz 64 s:Nat):Int):=by
    unfold bits_TrailingZeros64.f;rw[if_pos (by unfold u64B;simp;omega),Int.toNat_natCast]
   refine Ends.bind1 ht (Ends.pos zr ?_);have e:Go.bits .and .u64 (s:Int) (IntKind.u64.wrap ((s:Int)-1))=((s &&& (s-1):Nat):Int):=by
    rw[wu64 za za,show((s:Int)-1)=((s-1:Nat):Int)from by omega,band hs za]
   rw[e,show ints acc++ [((Lib.ctz 64 s:Nat):Int)] =ints (acc++ [Lib.ctz 64 s])from by rw[ints_append];rfl];refine(ih (s &&& (s-1)) (acc++ [Lib.ctz 64 s]) (lt_and hs) za zk).eq ?_;rw[hst,List.append_assoc];rfl
theorem List_eq{s:Nat}(hs:s<2^64):Ends (fun k=>subset_List.f k (s:Int)) (ints (setL s)):=by
 unfold subset_List.f;exact List_l0 64 s [] hs (setL_length s) (by have:=setL_length s;simpa using this)
def setOk(n:Int)(s:Nat):Prop:=0<=n/\n<=64/\ ∀i∈setL s,(i:Int)<n
instance (n:Int) (s:Nat):Decidable (setOk n s):=by unfold setOk;infer_instance
theorem within{n s:Nat}(hn:n<=64)(hs:s<2^64):(s &&& (2^64-1-(2^n-1))=0)↔ ∀i∈setL s,i<n:=by
 constructor
 ·intro h i hi;have h1:=congrArg (fun x=>x.testBit i) h;simp only[Nat.zero_testBit]at h1;rw[testBit_andNot hs (low_lt hn),(mem_setL.1 hi).2,testBit_low]at h1
  simpa using h1
 ·intro h;apply Nat.eq_of_testBit_eq;intro i;rw[testBit_andNot hs (low_lt hn),testBit_low,Nat.zero_testBit];by_cases hb:s.testBit i=true
  ·have:=h i ((mem_setL' hs).2 hb);simp[this]
  ·simp[hb]
theorem asked{n s:Nat}(hn:n<=64)(hs:s<2^64):(Go.bits .andNot .u64 (s:Int) ((2^n-1:Nat):Int)=0)↔setOk (n:Int) s:=by
 rw[bandNot hs (low_lt hn)];have h:=within hn hs;unfold setOk;constructor
 ·intro h1;have h2:=h.1 za;exact⟨by omega,by omega,fun i hi=>by have:=h2 i hi;omega⟩
 ·rintro⟨_,_,h1⟩;have:=h.2 fun i hi=>by have:=h1 i hi;omega
  omega
theorem Has_eq{s:Nat}(hs:s<2^64)(i:Int):subset_Has.f (s:Int) i=some (decide (0<=i)&&s.testBit i.toNat):=by
 unfold subset_Has.f;by_cases h0:i>=0
 ·rw[if_pos h0];obtain⟨j,rfl⟩:=Int.eq_ofNat_of_zero_le h0;by_cases h1:(j:Int)<64
  ·rw[if_pos h1,if_pos za,bit_asked hs za];simp
  ·rw[if_neg h1,Int.toNat_natCast,testBit_big hs za];simp
 ·rw[if_neg h0,show decide (0<=i)=false from by simpa using h0];rfl
theorem div_nat(a b:Nat):((a:Nat):Int) / (b:Int)=((a / b:Nat):Int):=by simp
theorem band127{x:Nat}(hx:x<2^63):Go.bits .and .i64 (x:Int) 127=((x % 128:Nat):Int):=by
 have h1:(BitVec.ofInt 64 (x:Int)).toNat=x:=by
  rw[BitVec.ofInt_natCast,BitVec.toNat_ofNat];exact Nat.mod_eq_of_lt za
 have h2:(BitVec.ofInt 64 (127:Int)).toNat=127:=by decide
 show IntKind.i64.wrap ((BitVec.ofInt 64 (x:Int) &&& BitVec.ofInt 64 127).toNat:Int)=_;rw[BitVec.toNat_and,h1,h2,show(127:Nat)=2^7-1 from rfl,Nat.and_two_pow_sub_one_eq_mod];have:x % 2^7<128:=Nat.mod_lt _ zb;have e:IntKind.i64.wrap ((x % 2^7:Nat):Int)=wrap64 ((x % 2^7:Nat):Int):=Go.Proofs.YtjgcocfnilhggaaDoorW.PrintLast.i64_w _;rw[e,w64 za za]
theorem ones_eq{s:Nat}(hs:s<2^64):bits_OnesCount64.f (s:Int)=some (((setL s).length:Nat):Int):=by
 obtain⟨l1,l2,l3,p1,q1,p2,q2,p3,q3,hsum,e1,e2,e3⟩:=steps s hs;have b1:ofD 4 l1<2^64:=by
  have:=ofD_lt (B:=4) zb (l:=l1) fun c hc=>by have:=q1 c hc;omega
  rw[p1]at this
  exact this
 have b2:ofD 16 l2<2^64:=by
  have:=ofD_lt (B:=16) zb (l:=l2) fun c hc=>by have:=q2 c hc;omega
  rw[p2]at this
  exact this
 obtain⟨c1,c2,c3⟩:=last l3 p3 q3;have X1:IntKind.u64.wrap ((Go.bits .and .u64 ((s:Int) / 2) 6148914691236517205)+(Go.bits .and .u64 (s:Int) 6148914691236517205))=((ofD 4 l1:Nat):Int):=by
  rw[show((s:Int) / 2)=((s / 2:Nat):Int)from div_nat s 2,show(6148914691236517205:Int)=((6148914691236517205:Nat):Int)from rfl,band za zb,band hs zb,<-Int.natCast_add,e1];exact wuN b1
 have X2:IntKind.u64.wrap ((Go.bits .and .u64 (((ofD 4 l1:Nat):Int) / 4) 3689348814741910323)+(Go.bits .and .u64 ((ofD 4 l1:Nat):Int) 3689348814741910323))=((ofD 16 l2:Nat):Int):=by
  rw[show(((ofD 4 l1:Nat):Int) / 4)=((ofD 4 l1 / 4:Nat):Int)from div_nat _ 4,show(3689348814741910323:Int)=((3689348814741910323:Nat):Int)from rfl,band za zb,band b1 zb,<-Int.natCast_add,e2];exact wuN b2
 have b3:ofD 16 l2 / 16+ofD 16 l2<2^64:=by
  have h:=last16 l2 p2 q2;omega
 have X3:Go.bits .and .u64 (IntKind.u64.wrap (((ofD 16 l2:Nat):Int) / 16+((ofD 16 l2:Nat):Int))) 1085102592571150095=((ofD 256 l3:Nat):Int):=by
  rw[show(((ofD 16 l2:Nat):Int) / 16)=((ofD 16 l2 / 16:Nat):Int)from div_nat _ 16,<-Int.natCast_add,wuN b3,show(1085102592571150095:Int)=((1085102592571150095:Nat):Int)from rfl,band b3 zb,e3]
 have X4:IntKind.u64.wrap (((ofD 256 l3:Nat):Int)+((ofD 256 l3:Nat):Int) / 256)=((ofD 256 l3+ofD 256 l3 / 256:Nat):Int):=by
  rw[show(((ofD 256 l3:Nat):Int) / 256)=((ofD 256 l3 / 256:Nat):Int)from div_nat _ 256,<-Int.natCast_add];exact wuN za
 have X5: ∀y:Nat,y+y / 65536<2^63->IntKind.u64.wrap ((y:Int)+(y:Int) / 65536)=((y+y / 65536:Nat):Int):=by
  intro y hy;rw[show((y:Int) / 65536)=((y / 65536:Nat):Int)from div_nat _ 65536,<-Int.natCast_add];exact wuN za
 have X6: ∀y:Nat,y<2^63->y+y / 4294967296<2^63->wrap64 (IntKind.u64.wrap ((y:Int)+(y:Int) / 4294967296))=((y+y / 4294967296:Nat):Int):=by
  intro y _ hy;rw[show((y:Int) / 4294967296)=((y / 4294967296:Nat):Int)from div_nat _ 4294967296,<-Int.natCast_add,wuN za];exact w64 za za
 unfold bits_OnesCount64.f;rw[X1,X2,X3,X4,X5 _ c2];have b7:(ofD 256 l3+ofD 256 l3 / 256+(ofD 256 l3+ofD 256 l3 / 256) / 65536)<2^60:=by omega
 rw[X6 _ za za,band127 za,c3,hsum]
theorem Count_eq{s:Nat}(hs:s<2^64):subset_Count.f (s:Int)=some (((setL s).length:Nat):Int):=by
 unfold subset_Count.f;rw[ones_eq hs];rfl
end Go.Proofs.YtjgcocfnilhggaaDoor.M
namespace Go.Proofs.YtjgcocfnilhggaaDoor.M
structure El where
 v:BitVec 8
deriving DecidableEq
theorem El.eq{a b:El}(h:a.v=b.v):a=b:=by cases a;cases b;cases h;rfl
instance:Add El:=⟨fun a b=>⟨a.v ^^^ b.v⟩⟩
instance:Zero El:=⟨⟨0⟩⟩
instance:OfNat El 0:=⟨⟨0⟩⟩
instance:OfNat El 1:=⟨⟨1⟩⟩
theorem add_comm(a b:El):a+b=b+a:=El.eq (BitVec.xor_comm _ _)
theorem add_assoc(a b c:El):a+b+c=a+(b+c):=El.eq (BitVec.xor_assoc _ _ _)
theorem add_self(a:El):a+a=0:=El.eq BitVec.xor_self
theorem add_zero(a:El):a+0=a:=El.eq BitVec.xor_zero
theorem zero_add(a:El):0+a=a:=El.eq BitVec.zero_xor
instance:Std.Commutative (α:=El) (· + ·):=⟨add_comm⟩
instance:Std.Associative (α:=El) (· + ·):=⟨add_assoc⟩
theorem add_cancel{a b:El}(h:a+b=0):a=b:=by
 have:a+b+b=0+b:=by rw[h]
 rw[add_assoc,add_self,add_zero,zero_add]at this
 exact this
def xt(a:BitVec 8):BitVec 8:=(a <<< 1) ^^^ (if a.getLsbD 7 then 0x1d#8 else 0#8)
theorem xt_xor(a b:BitVec 8):xt (a ^^^ b)=xt a ^^^ xt b:=by
 unfold xt;rw[BitVec.shiftLeft_xor_distrib,BitVec.getLsbD_xor]
 cases a.getLsbD 7<;>cases b.getLsbD 7<;>simp<;>first|ac_rfl|skip
 ·rw[show a <<< 1 ^^^ 29#8 ^^^ (b <<< 1 ^^^ 29#8)=(a <<< 1 ^^^ b <<< 1) ^^^ (29#8 ^^^ 29#8)from by ac_rfl];simp
def xtn:Nat->BitVec 8->BitVec 8
 |0,a=>a
 |n+1,a=>xt (xtn n a)
theorem xtn_xor: ∀n a b,xtn n (a ^^^ b)=xtn n a ^^^ xtn n b
 |0,_,_=>rfl
 |n+1,a,b=>by
  show xt (xtn n (a ^^^ b))=_;rw[xtn_xor n,xt_xor];rfl
theorem xtn_xt: ∀n a,xtn n (xt a)=xt (xtn n a)
 |0,_=>rfl
 |n+1,a=>by
  show xt (xtn n (xt a))=_;rw[xtn_xt n];rfl
theorem xtn_add: ∀m n a,xtn (m+n) a=xtn m (xtn n a)
 |0,n,a=>by rw[Nat.zero_add];rfl
 |m+1,n,a=>by
  rw[show m+1+n=(m+n)+1 from by omega];show xt (xtn (m+n) a)=xt (xtn m (xtn n a));rw[xtn_add m]
def gmN(a b:BitVec 8):Nat->BitVec 8
 |0=>0
 |n+1=>gmN a b n ^^^ (if b.getLsbD n then xtn n a else 0)
def gm(a b:BitVec 8):BitVec 8:=gmN a b 8
theorem gmN_xor_right(a b c:BitVec 8): ∀n,gmN a (b ^^^ c) n=gmN a b n ^^^ gmN a c n
 |0=>by simp[gmN]
 |n+1=>by
  show gmN a (b ^^^ c) n ^^^ _=(gmN a b n ^^^ _) ^^^ (gmN a c n ^^^ _);rw[gmN_xor_right a b c n,BitVec.getLsbD_xor,show(gmN a b n ^^^ if b.getLsbD n=true then xtn n a else 0) ^^^ (gmN a c n ^^^ if c.getLsbD n=true then xtn n a else 0)=(gmN a b n ^^^ gmN a c n) ^^^ ((if b.getLsbD n=true then xtn n a else 0) ^^^ (if c.getLsbD n=true then xtn n a else 0))from by ac_rfl]
  cases b.getLsbD n<;>cases c.getLsbD n<;>simp
theorem gmN_xor_left(a b c:BitVec 8): ∀n,gmN (a ^^^ b) c n=gmN a c n ^^^ gmN b c n
 |0=>by simp[gmN]
 |n+1=>by
  show gmN (a ^^^ b) c n ^^^ _=(gmN a c n ^^^ _) ^^^ (gmN b c n ^^^ _);rw[gmN_xor_left a b c n,show(gmN a c n ^^^ if c.getLsbD n=true then xtn n a else 0) ^^^ (gmN b c n ^^^ if c.getLsbD n=true then xtn n b else 0)=(gmN a c n ^^^ gmN b c n) ^^^ ((if c.getLsbD n=true then xtn n a else 0) ^^^ (if c.getLsbD n=true then xtn n b else 0))from by ac_rfl,xtn_xor]
  cases c.getLsbD n<;>simp
theorem gmN_xt(a b:BitVec 8): ∀n,gmN (xt a) b n=xt (gmN a b n)
 |0=>show(0:BitVec 8)=xt 0 by decide
 |n+1=>by
  show gmN (xt a) b n ^^^ _=xt (gmN a b n ^^^ _);rw[gmN_xt a b n,xt_xor,xtn_xt]
  cases b.getLsbD n
  ·have:xt (0:BitVec 8)=0:=by decide
   simp only[Bool.false_eq_true,if_false];rw[this]
  ·simp
theorem gm_one_left: ∀b:BitVec 8,gm 1 b=b:=by decide+kernel
theorem gm_one_right: ∀a:BitVec 8,gm a 1=a:=by decide+kernel
def pw(n:Nat):BitVec 8:=xtn n 1
theorem gm_pw: ∀i b,gm (pw i) b=xtn i b
 |0,b=>gm_one_left b
 |i+1,b=>by
  show gmN (xt (pw i)) b 8=_;rw[gmN_xt];show xt (gm (pw i) b)=_;rw[gm_pw i b];rfl
theorem gm_pw_pw(i j:Nat):gm (pw i) (pw j)=pw (i+j):=by
 rw[gm_pw];unfold pw;rw[xtn_add]
theorem pw_255:pw 255=1:=by decide+kernel
theorem pw_add_255(n:Nat):pw (n+255)=pw n:=by
 unfold pw;rw[xtn_add];exact congrArg _ pw_255
def lgFrom(a:BitVec 8):Nat->Nat->BitVec 8->Nat
 |0,i,_=>i
 |f+1,i,p=>if p=a then i else lgFrom a f (i+1) (xt p)
def lg(a:BitVec 8):Nat:=lgFrom a 254 0 1
theorem lgFrom_le(a:BitVec 8): ∀f i p,lgFrom a f i p<=i+f
 |0,i,p=>Nat.le_refl _
 |f+1,i,p=>by
  unfold lgFrom
  split
  ·omega
  ·have:=lgFrom_le a f (i+1) (xt p);omega
theorem lg_le(a:BitVec 8):lg a<=254:=by have:=lgFrom_le a 254 0 1;unfold lg;omega
theorem pw_lg: ∀a:BitVec 8,a≠0->pw (lg a)=a:=by decide+kernel
theorem gm_zero_right(a:BitVec 8):gm a 0=0:=by
 have:=gmN_xor_right a 0 0 8;simpa[gm]using this
theorem gm_zero_left(b:BitVec 8):gm 0 b=0:=by
 have:=gmN_xor_left 0 0 b 8;simpa[gm]using this
theorem gm_comm(a b:BitVec 8):gm a b=gm b a:=by
 by_cases ha:a=0
 ·subst ha;rw[gm_zero_left,gm_zero_right]
 ·by_cases hb:b=0
  ·subst hb;rw[gm_zero_left,gm_zero_right]
  ·rw[<-pw_lg a ha,<-pw_lg b hb,gm_pw_pw,gm_pw_pw,Nat.add_comm]
theorem gm_assoc(a b c:BitVec 8):gm (gm a b) c=gm a (gm b c):=by
 by_cases ha:a=0
 ·subst ha;rw[gm_zero_left,gm_zero_left,gm_zero_left]
 ·by_cases hb:b=0
  ·subst hb;rw[gm_zero_right,gm_zero_left,gm_zero_right]
  ·by_cases hc:c=0
   ·subst hc;rw[gm_zero_right,gm_zero_right,gm_zero_right]
   ·rw[<-pw_lg a ha,<-pw_lg b hb,<-pw_lg c hc,gm_pw_pw,gm_pw_pw,gm_pw_pw,gm_pw_pw,Nat.add_assoc]
def ginv(a:BitVec 8):BitVec 8:=if a=0 then 0 else pw (255-lg a)
theorem gm_inv(a:BitVec 8)(h:a≠0):gm a (ginv a)=1:=by
 unfold ginv;have hl:=lg_le a;rw[if_neg h]
 conv=>lhs;arg 1;rw[<-pw_lg a h]
 rw[gm_pw_pw,show lg a+(255-lg a)=255 from by omega,pw_255]
instance:Mul El:=⟨fun a b=>⟨gm a.v b.v⟩⟩
def El.inv(a:El):El:=⟨ginv a.v⟩
theorem mul_comm(a b:El):a*b=b*a:=El.eq (gm_comm _ _)
theorem mul_assoc(a b c:El):a*b*c=a*(b*c):=El.eq (gm_assoc _ _ _)
instance:Std.Commutative (α:=El) (· * ·):=⟨mul_comm⟩
instance:Std.Associative (α:=El) (· * ·):=⟨mul_assoc⟩
theorem mul_one(a:El):a*1=a:=El.eq (gm_one_right _)
theorem one_mul(a:El):1*a=a:=El.eq (gm_one_left _)
theorem mul_zero(a:El):a*0=0:=El.eq (gm_zero_right _)
theorem zero_mul(a:El):0*a=0:=El.eq (gm_zero_left _)
theorem mul_add(a b c:El):a*(b+c)=a*b+a*c:=El.eq (gmN_xor_right _ _ _ 8)
theorem add_mul(a b c:El):(a+b)*c=a*c+b*c:=El.eq (gmN_xor_left _ _ _ 8)
theorem one_ne_zero:(1:El)≠0:=by decide
theorem v_ne{a:El}(h:a≠0):a.v≠0:=fun e=>h (El.eq e)
theorem mul_inv{a:El}(h:a≠0):a*a.inv=1:=El.eq (gm_inv _ (v_ne h))
theorem inv_mul{a:El}(h:a≠0):a.inv*a=1:=by rw[mul_comm,mul_inv h]
theorem inv_ne{a:El}(h:a≠0):a.inv≠0:=fun e=>by
 have:=mul_inv h;rw[e,mul_zero]at this
 exact one_ne_zero this.symm
theorem mul_eq_zero{a b:El}(h:a*b=0):a=0∨b=0:=by
 by_cases ha:a=0
 ·exact .inl ha
 ·right
  rw[<-one_mul b,<-inv_mul ha,mul_assoc,h,mul_zero]
theorem inv_unique{a b:El}(h:a*b=1):b=a.inv:=by
 have ha:a≠0:=fun e=>by rw[e,zero_mul]at h;exact one_ne_zero h.symm
 rw[<-one_mul b,<-inv_mul ha,mul_assoc,h,mul_one]
def sm:Nat->(Nat->El)->El
 |0,_=>0
 |n+1,f=>sm n f+f n
theorem sm_congr{f g:Nat->El} : ∀ {n},(∀i,i<n->f i=g i)->sm n f=sm n g
 |0,_=>rfl
 |n+1,h=>by
  show sm n f+f n=sm n g+g n;rw[sm_congr (fun i hi=>h i za),h n za]
theorem sm_zero{f:Nat->El}{n:Nat}(h: ∀i,i<n->f i=0):sm n f=0:=by
 induction n with
 |zero=>rfl
 |succ n ih=>
  show sm n f+f n=0;rw[ih (fun i hi=>h i za),h n za,add_zero]
theorem sm_add(f g:Nat->El): ∀n,sm n (fun i=>f i+g i)=sm n f+sm n g
 |0=>(add_zero 0).symm
 |n+1=>by
  show sm n (fun i=>f i+g i)+(f n+g n)=(sm n f+f n)+(sm n g+g n);rw[sm_add f g n]
  ac_rfl
theorem sm_mul(a:El)(f:Nat->El): ∀n,sm n (fun i=>a*f i)=a*sm n f
 |0=>(mul_zero a).symm
 |n+1=>by
  show sm n (fun i=>a*f i)+a*f n=a*(sm n f+f n);rw[sm_mul a f n,mul_add]
theorem sm_mul_right(a:El)(f:Nat->El)(n:Nat):sm n (fun i=>f i*a)=sm n f*a:=by
 rw[mul_comm,<-sm_mul];exact sm_congr fun i _=>mul_comm _ _
theorem sm_swap(f:Nat->Nat->El): ∀m n,sm m (fun i=>sm n (fun j=>f i j))=sm n (fun j=>sm m (fun i=>f i j))
 |0,n=>(sm_zero fun _ _=>rfl).symm
 |m+1,n=>by
  show sm m (fun i=>sm n (fun j=>f i j))+sm n (fun j=>f m j)=sm n (fun j=>sm m (fun i=>f i j)+f m j);rw[sm_swap f m n,sm_add]
theorem sm_one{f:Nat->El}{n k:Nat}(hk:k<n)(h: ∀i,i<n->i≠k->f i=0):sm n f=f k:=by
 induction n with
 |zero=>omega
 |succ n ih=>
  show sm n f+f n=f k;by_cases e:k=n
  ·subst e;rw[sm_zero fun i hi=>h i za za,zero_add]
  ·rw[ih za (fun i hi hne=>h i za hne),h n za (fun x=>e x.symm),add_zero]
theorem sm_split(f:Nat->El)(m:Nat): ∀n,sm (m+n) f=sm m f+sm n (fun i=>f (m+i))
 |0=>(add_zero _).symm
 |n+1=>by
  show sm (m+n) f+f (m+n)=sm m f+(sm n (fun i=>f (m+i))+f (m+n));rw[sm_split f m n,add_assoc]
theorem sm_take{f:Nat->El}{m n:Nat}(h:m<=n)(hz: ∀i,m<=i->i<n->f i=0):sm n f=sm m f:=by
 obtain⟨d,rfl⟩: ∃d,n=m+d:=⟨n-m,by omega⟩
 rw[sm_split,sm_zero (n:=d) fun i hi=>hz _ za za,add_zero]
end Go.Proofs.YtjgcocfnilhggaaDoor.M
namespace Go.Proofs.YtjgcocfnilhggaaDoor.M
open RowKit YtjgcocfnilhggaaDoorW.PrintWords YtjgcocfnilhggaaDoorW.PrintLast YtjgcocfnilhggaaDoorW.PrintMore Q
theorem wi64{x:Nat}(h:x<2^63):IntKind.i64.wrap (x:Int)=(x:Int):=by
 rw[show IntKind.i64.wrap (x:Int)=wrap64 (x:Int)from i64_w _];exact w64 za za
theorem toNat64{a:Nat}(h:a<2^63):(BitVec.ofInt 64 (a:Int)).toNat=a:=by
 rw[BitVec.ofInt_natCast,BitVec.toNat_ofNat];exact Nat.mod_eq_of_lt za
theorem band64{a b:Nat}(ha:a<2^63)(hb:b<2^63):Go.bits .and .i64 (a:Int) (b:Int)=((a &&& b:Nat):Int):=by
 show IntKind.i64.wrap ((BitVec.ofInt 64 (a:Int) &&& BitVec.ofInt 64 (b:Int)).toNat:Int)=_;rw[BitVec.toNat_and,toNat64 ha,toNat64 hb];exact wi64 (Nat.lt_of_le_of_lt Nat.and_le_left ha)
theorem bxor64{a b:Nat}(ha:a<2^63)(hb:b<2^63):Go.bits .xor .i64 (a:Int) (b:Int)=((a ^^^ b:Nat):Int):=by
 show IntKind.i64.wrap ((BitVec.ofInt 64 (a:Int) ^^^ BitVec.ofInt 64 (b:Int)).toNat:Int)=_;rw[BitVec.toNat_xor,toNat64 ha,toNat64 hb];exact wi64 (Nat.xor_lt_two_pow ha hb)
theorem shr64{n i:Nat}(hi:i<=64):shr .i64 (n:Int) (i:Int)=((n >>> i:Nat):Int):=by
 unfold shr;have e:min (i:Int).toNat IntKind.i64.bits=i:=by simp[IntKind.bits];omega
 rw[e,Nat.shiftRight_eq_div_pow];simp
theorem shr8{n i:Nat}(hi:i<=8):shr .u8 (n:Int) (i:Int)=((n >>> i:Nat):Int):=by
 unfold shr;have e:min (i:Int).toNat IntKind.u8.bits=i:=by simp[IntKind.bits];omega
 rw[e,Nat.shiftRight_eq_div_pow];simp
theorem shl64{n i:Nat}(hn:n<2^16)(hi:i<=16):shl .i64 (n:Int) (i:Int)=((n <<< i:Nat):Int):=by
 unfold shl;have e:min (i:Int).toNat IntKind.i64.bits=i:=by simp[IntKind.bits];omega
 rw[e,Nat.shiftLeft_eq];have h:n*2^i<2^63:=Nat.lt_of_lt_of_le (Nat.mul_lt_mul_of_lt_of_le hn (Nat.pow_le_pow_right zb hi) zb) zb;rw[show((n:Int)*2^i)=((n*2^i:Nat):Int)from by simp];exact wi64 h
theorem and_one(n i:Nat):(((n >>> i) &&& 1:Nat):Int)=1↔n.testBit i=true:=by
 unfold Nat.testBit;rw[Nat.and_comm 1 (n >>> i),bne_iff_ne,Nat.and_one_is_mod];omega
theorem bit64{n i:Nat}(hn:n<2^63)(hi:i<=64):(Go.bits .and .i64 (shr .i64 (n:Int) (i:Int)) 1=1)↔n.testBit i=true:=by
 rw[shr64 hi,show(1:Int)=((1:Nat):Int)from rfl,band64 (Nat.lt_of_le_of_lt (Nat.shiftRight_le _ _) hn) zb];exact and_one n i
theorem bit8{n i:Nat}(hn:n<256)(hi:i<=8):(Go.bits .and .u8 (shr .u8 (n:Int) (i:Int)) 1=1)↔n.testBit i=true:=by
 rw[shr8 hi];have h1:n >>> i<256:=Nat.lt_of_le_of_lt (Nat.shiftRight_le _ _) hn;have e:Go.bits .and .u8 ((n >>> i:Nat):Int) 1=(((n >>> i) &&& 1:Nat):Int):=by
  show IntKind.u8.wrap ((BitVec.ofInt 8 ((n >>> i:Nat):Int) &&& BitVec.ofInt 8 ((1:Nat):Int)).toNat:Int)=_;rw[BitVec.toNat_and,BitVec.ofInt_natCast,BitVec.ofInt_natCast,BitVec.toNat_ofNat,BitVec.toNat_ofNat,Nat.mod_eq_of_lt (by omega:n >>> i<2^8),show 1 % 2^8=1 from rfl];have:(n >>> i) &&& 1<=1:=Nat.and_le_right;rw[IntKind.wrap_u8];omega
 rw[e];exact and_one n i
def acc(a b:Nat):Nat->Nat
 |0=>0
 |i+1=>if b.testBit i then acc a b i ^^^ (a <<< i)else acc a b i
def rst(i p:Nat):Nat:=if p.testBit (i+8)then p ^^^ (285 <<< i)else p
def red:Nat->Nat->Nat
 |0,p=>p
 |i+1,p=>red i (rst i p)
theorem rst_xor(i x y:Nat):rst i (x ^^^ y)=rst i x ^^^ rst i y:=by
 unfold rst;rw[Nat.testBit_xor]
 cases x.testBit (i+8)<;>cases y.testBit (i+8)<;>simp
 ·rw[Nat.xor_assoc]
 ·rw[Nat.xor_assoc,Nat.xor_comm y,Nat.xor_assoc]
 ·rw[Nat.xor_assoc,Nat.xor_comm (285 <<< i),Nat.xor_assoc,Nat.xor_self,Nat.xor_zero]
theorem red_xor: ∀i x y,red i (x ^^^ y)=red i x ^^^ red i y
 |0,_,_=>rfl
 |i+1,x,y=>by unfold red;rw[rst_xor,red_xor i]
theorem red_zero: ∀i,red i 0=0
 |0=>rfl
 |i+1=>by unfold red rst;simp[red_zero i]
theorem red_shl: ∀a:BitVec 8,∀i:Fin 8,red 7 (a.toNat <<< i.val)=(xtn i.val a).toNat:=by decide+kernel
theorem acc_lt{a b:Nat}(ha:a<256): ∀i,i<=8->acc a b i<2^16
 |0,_=>by unfold acc;decide
 |i+1,h=>by
  unfold acc
  split
  ·refine Nat.xor_lt_two_pow (acc_lt ha i za) ?_;rw[Nat.shiftLeft_eq];exact Nat.lt_of_lt_of_le (Nat.mul_lt_mul_of_lt_of_le ha (Nat.pow_le_pow_right zb (by omega:i<=8)) zb) zb
  ·exact acc_lt ha i za
theorem red_acc(a b:BitVec 8): ∀i,i<=8->red 7 (acc a.toNat b.toNat i)=(gmN a b i).toNat
 |0,_=>by unfold acc gmN;rw[red_zero];rfl
 |i+1,h=>by
  unfold acc gmN;have e:b.getLsbD i=b.toNat.testBit i:=rfl;rw[e]
  split
  ·rw[red_xor,red_acc a b i za,red_shl a ⟨i,by omega⟩];simp
  ·rw[red_acc a b i za];simp
theorem rst_lt{i p:Nat}(hp:p<2^16)(hi:i<=7):rst i p<2^16:=by
 unfold rst
 split
 ·refine Nat.xor_lt_two_pow hp ?_;rw[Nat.shiftLeft_eq];exact Nat.lt_of_lt_of_le (Nat.mul_lt_mul_of_lt_of_le (by decide:285<512) (Nat.pow_le_pow_right zb hi) zb) zb
 ·exact hp
theorem Mul_l1: ∀i p:Nat,i<=7->p<2^16->Ends (fun k=>recoupref01_Mul.l1 k (p:Int) ((i:Int)+7)) (((red i p) % 256:Nat):Int)
 |0,p,_,_=>Ends.succ (fun k=>by rw[recoupref01_Mul.l1]) (Ends.neg za (Ends.const (by unfold red;simp)))
 |i+1,p,hi,hp=>by
  refine Ends.succ (fun k=>by rw[recoupref01_Mul.l1]) (Ends.pos za ?_);have e0:((i+1:Nat):Int)+7=((i+8:Nat):Int):=by omega
  have e1:IntKind.u64.wrap (((i+1:Nat):Int)+7)=((i+8:Nat):Int):=by rw[e0];exact wu64 za za
  have e2:wrap64 (((i+1:Nat):Int)+7-1)=(i:Int)+7:=by rw[w64 za za];omega
  have e3:IntKind.u64.wrap (wrap64 (((i+1:Nat):Int)+7-8))=(i:Int):=by rw[w64 za za,wu64 za za];omega
  rw[e1,e2,e3];refine Ends.pos (Int.natCast_nonneg _) ?_;have hb:=bit64 (n:=p) (i:=i+8) za za;by_cases h:p.testBit (i+8)=true
  case neg=>
   refine Ends.neg (fun e=>h (hb.1 e)) ?_;have e4:rst i p=p:=by unfold rst;rw[if_neg h]
   have:=Mul_l1 i p za hp;unfold red;rw[e4];exact this
  refine Ends.pos (hb.2 h) (Ends.pos (Int.natCast_nonneg _) ?_);have e4:Go.bits .xor .i64 (p:Int) (shl .i64 285 (i:Int))=((rst i p:Nat):Int):=by
   rw[show(285:Int)=((285:Nat):Int)from rfl,shl64 zb za,bxor64 za (by
    rw[Nat.shiftLeft_eq];exact Nat.lt_of_lt_of_le (Nat.mul_lt_mul_of_lt_of_le (by decide:285<512) (Nat.pow_le_pow_right zb (by omega:i<=7)) zb) zb)]
   unfold rst;rw[if_pos h]
  rw[e4];exact Mul_l1 i (rst i p) za (rst_lt hp za)
theorem Mul_l0{a b:Nat}(ha:a<256)(hb:b<256): ∀n i:Nat,i+n=8->Ends (fun k=>recoupref01_Mul.l0 k (a:Int) (b:Int) ((acc a b i:Nat):Int) (i:Int)) (((red 7 (acc a b 8)) % 256:Nat):Int)
 |0,i,h=>by
  obtain rfl:i=8:=by omega
  refine Ends.succ (fun k=>by rw[recoupref01_Mul.l0]) (Ends.neg zb ?_);exact Mul_l1 7 _ za (acc_lt ha 8 (Nat.le_refl _))
 |n+1,i,h=>by
  refine Ends.succ (fun k=>by rw[recoupref01_Mul.l0]) (Ends.pos za ?_);have e1:IntKind.u64.wrap (i:Int)=(i:Int):=wu64 za za;have e2:wrap64 ((i:Int)+1)=((i+1:Nat):Int):=by rw[w64 za za];omega
  rw[e1,e2];refine Ends.pos (Int.natCast_nonneg _) ?_;have hbt:=bit8 (n:=b) (i:=i) hb za;have ih:=Mul_l0 ha hb n (i+1) za;by_cases h1:b.testBit i=true
  case neg=>
   refine Ends.neg (fun e=>h1 (hbt.1 e)) ?_
   have e4:acc a b (i+1)=acc a b i:=by conv=>lhs;rw[acc]
                                       rw[if_neg h1]
   rw[e4]at ih
   exact ih
  refine Ends.pos (hbt.2 h1) ?_;have e4:Go.bits .xor .i64 ((acc a b i:Nat):Int) (shl .i64 (wrap64 (a:Int)) (i:Int))=((acc a b (i+1):Nat):Int):=by
   rw[w64 za za,shl64 za za,bxor64 (by have:=acc_lt (b:=b) ha i za;omega) (by
    rw[Nat.shiftLeft_eq];exact Nat.lt_of_lt_of_le (Nat.mul_lt_mul_of_lt_of_le ha (Nat.pow_le_pow_right zb (by omega:i<=8)) zb) zb)]
   conv=>rhs;rw[acc]
   rw[if_pos h1]
  rw[e4];exact ih
def toE(x:Int):El:=⟨BitVec.ofInt 8 x⟩
def ofE(e:El):Int:=((e.v.toNat:Nat):Int)
theorem ofE_toE{x:Int}(h:0<=x/\x<256):ofE (toE x)=x:=by
 obtain⟨n,rfl⟩:=Int.eq_ofNat_of_zero_le h.1;unfold ofE toE;rw[BitVec.ofInt_natCast,BitVec.toNat_ofNat,Nat.mod_eq_of_lt za]
theorem toE_inj{x y:Int}(hx:0<=x/\x<256)(hy:0<=y/\y<256)(h:toE x=toE y):x=y:=by rw[<-ofE_toE hx,<-ofE_toE hy,h]
theorem Mul_ends{a b:Int}(ha:0<=a/\a<256)(hb:0<=b/\b<256):Ends (fun k=>recoupref01_Mul.f k a b) (ofE (toE a*toE b)):=by
 obtain⟨x,rfl⟩:=Int.eq_ofNat_of_zero_le ha.1;obtain⟨y,rfl⟩:=Int.eq_ofNat_of_zero_le hb.1;have hx:x<256:=by omega
 have hy:y<256:=by omega
 have h:=Mul_l0 hx hy 8 0 rfl;have e:=red_acc (BitVec.ofNat 8 x) (BitVec.ofNat 8 y) 8 (Nat.le_refl _);rw[BitVec.toNat_ofNat,BitVec.toNat_ofNat,Nat.mod_eq_of_lt (by omega:x<2^8),Nat.mod_eq_of_lt (by omega:y<2^8)]at e
 refine Ends.eq h ?_;rw[e,Nat.mod_eq_of_lt (gmN _ _ 8).isLt];unfold ofE toE;rw[BitVec.ofInt_natCast,BitVec.ofInt_natCast];rfl
theorem xor_el{a b:Int} :toE (Go.bits .xor .u8 a b)=toE a+toE b:=by
 refine El.eq ?_;show BitVec.ofInt 8 (IntKind.u8.wrap ((BitVec.ofInt 8 a ^^^ BitVec.ofInt 8 b).toNat:Int))=BitVec.ofInt 8 a ^^^ BitVec.ofInt 8 b;have h:=(BitVec.ofInt 8 a ^^^ BitVec.ofInt 8 b).isLt;rw[IntKind.wrap_u8,Int.emod_eq_of_lt za za,BitVec.ofInt_natCast,BitVec.ofNat_toNat,BitVec.setWidth_eq]
theorem xor_range(a b:Int):0<=Go.bits .xor .u8 a b/\Go.bits .xor .u8 a b<256:=by
 show 0<=IntKind.u8.wrap _/\IntKind.u8.wrap _<256;rw[IntKind.wrap_u8];omega
theorem exps_ok:(field_build.st 255).1=(List.range 510).map fun i=>((pw i).toNat:Int):=by decide+kernel
theorem logs_ok:((List.zip (field_build.st 255).2.1 (List.range 256)).all fun x=>x.2==0||(pw x.1.toNat).toNat==x.2)=true:=by decide+kernel
theorem exp_el{n:Nat}(h:n<510):toE (field_build.exp n)=⟨pw n⟩:=by
 unfold field_build.exp;rw[exps_ok,List.getD_eq_getElem?_getD,List.getElem?_map,List.getElem?_range h];refine El.eq ?_;unfold toE;simp[BitVec.ofInt_natCast]
theorem log_el{a:Int}(h:0<=a/\a<256)(h0:a≠0):(⟨pw (field_build.log a.toNat).toNat⟩:El)=toE a:=by
 obtain⟨n,rfl⟩:=Int.eq_ofNat_of_zero_le h.1;have hn:n<256:=by omega
 have hl:n<(field_build.st 255).2.1.length:=by rw[(field_build.st_length 255).2];exact hn
 have hz:n<(List.zip (field_build.st 255).2.1 (List.range 256)).length:=by rw[List.length_zip,List.length_range];omega
 have:=List.all_eq_true.1 logs_ok _ (List.getElem_mem hz);rw[List.getElem_zip,List.getElem_range]at this
 simp only[Bool.or_eq_true,beq_iff_eq]at this;rcases this with e|e
 ·exact absurd (by rw[e];rfl) h0
 ·refine El.eq ?_;unfold field_build.log toE;rw[Int.toNat_natCast,List.getD_eq_getElem?_getD,List.getElem?_eq_getElem hl,Option.getD_some,BitVec.ofInt_natCast];refine BitVec.eq_of_toNat_eq ?_;rw[e,BitVec.toNat_ofNat,Nat.mod_eq_of_lt za]
theorem toE_zero:toE 0=0:=rfl
theorem toE_ne{a:Int}(h:0<=a/\a<256)(h0:a≠0):toE a≠0:=fun e=>h0 (toE_inj h za (e.trans toE_zero.symm))
theorem mulT_el{a b:Int}(ha:0<=a/\a<256)(hb:0<=b/\b<256):toE (mulT a b)=toE a*toE b:=by
 unfold mulT;by_cases h1:a=0
 ·rw[if_pos h1,h1,toE_zero,zero_mul]
 rw[if_neg h1];by_cases h2:b=0
 ·rw[if_pos h2,h2,toE_zero,mul_zero]
 rw[if_neg h2];obtain⟨x0,x1⟩:=field_build.log_range (i:=a.toNat) za;obtain⟨y0,y1⟩:=field_build.log_range (i:=b.toNat) za;rw[exp_el za,<-log_el ha h1,<-log_el hb h2,show(field_build.log a.toNat+field_build.log b.toNat).toNat=(field_build.log a.toNat).toNat+(field_build.log b.toNat).toNat from by omega];generalize(field_build.log a.toNat).toNat=i;generalize(field_build.log b.toNat).toNat=j;exact El.eq (gm_pw_pw i j).symm
theorem exp_range{n:Nat}(h:n<510):0<=field_build.exp n/\field_build.exp n<256:=by
 unfold field_build.exp;rw[exps_ok,List.getD_eq_getElem?_getD,List.getElem?_map,List.getElem?_range h];have:=(pw n).isLt;simp;omega
theorem mulT_range{a b:Int}(ha:0<=a/\a<256)(hb:0<=b/\b<256):0<=mulT a b/\mulT a b<256:=by
 unfold mulT
 split
 ·omega
 ·split
  ·omega
  ·obtain⟨x0,x1⟩:=field_build.log_range (i:=a.toNat) za;obtain⟨y0,y1⟩:=field_build.log_range (i:=b.toNat) za;exact exp_range za
theorem mulT_ends{a b:Int}(ha:0<=a/\a<256)(hb:0<=b/\b<256):Ends (fun k=>recoupref01_Mul.f k a b) (mulT a b):=by
 refine Ends.eq (Mul_ends ha hb) ?_;rw[<-mulT_el ha hb,ofE_toE (mulT_range ha hb)]
theorem pw_255k: ∀k,pw (255*k)=1
 |0=>rfl
 |k+1=>by rw[Nat.mul_succ,pw_add_255,pw_255k k]
theorem invT_el{a:Int}(ha:0<=a/\a<256)(h0:a≠0):toE (invT a)=(toE a).inv:=by
 have e:field_bounded.f (-1)=some 254:=by kernel_rfl
 have e2:field_Inv.f a=some (field_build.exp ((field_build.log a.toNat*254) % 255).toNat,0):=by
  unfold field_Inv.f field_Pow.f;rw[if_neg za,if_neg h0,if_pos ha,e];simp
 have e3:invT a=field_build.exp ((field_build.log a.toNat*254) % 255).toNat:=by unfold invT;rw[e2,Option.getD_some]
 rw[e3];obtain⟨x0,x1⟩:=field_build.log_range (i:=a.toNat) za;rw[exp_el za,<-log_el ha h0];obtain⟨n,hn⟩:=Int.eq_ofNat_of_zero_le x0;rw[hn,Int.toNat_natCast];refine inv_unique (El.eq ?_);show gm (pw n) (pw _)=1;rw[gm_pw_pw];have:n+(((n:Int)*254) % 255).toNat=255*((n+(((n:Int)*254) % 255).toNat) / 255):=by omega
 rw[this];exact pw_255k _
theorem invT_range{a:Int}(ha:0<=a/\a<256)(h0:a≠0):0<=invT a/\invT a<256:=(inv_some ha h0).2
theorem Inv_from{a:Int}(ha:0<=a/\a<256)(h0:a≠0): ∀n x:Nat,x+n=(invT a).toNat->1<=x->Ends (fun k=>recoupref01_Inv.l0 k a (x:Int)) (invT a,0)
 |n,x,h,hx=>by
  obtain⟨r0,r1⟩:=invT_range ha h0;have hlt:x<256:=by omega
  refine Ends.succ (fun k=>by rw[recoupref01_Inv.l0]) (Ends.pos za ?_);have e1:(x:Int) % 256=(x:Int):=by omega
  rw[e1];refine Ends.bind (mulT_ends ha (b:=(x:Int)) za) ?_
  cases n with
  |zero=>
   have hxi:(x:Int)=invT a:=by omega
   refine Ends.pos ?_ (Ends.const (by rw[hxi]));rw[hxi];refine toE_inj (mulT_range ha ⟨r0,r1⟩) za ?_;rw[mulT_el ha ⟨r0,r1⟩,invT_el ha h0,mul_inv (toE_ne ha h0)];rfl
  |succ n=>
   refine Ends.neg ?_ ?_
   ·intro e;have hb:0<=(x:Int)/\(x:Int)<256:=by omega
    have:=mulT_el ha hb;rw[e]at this
    have h2:=inv_unique this.symm;rw[<-invT_el ha h0]at h2
    have:=toE_inj hb ⟨r0,r1⟩ h2;omega
   ·have e2:wrap64 ((x:Int)+1)=((x+1:Nat):Int):=by rw[w64 za za];omega
    rw[e2];exact Inv_from ha h0 n (x+1) za za
theorem Inv_ends{a:Int}(ha:0<=a/\a<256)(h0:a≠0):Ends (fun k=>recoupref01_Inv.f k a) (invT a,0):=by
 have hr:=invT_range ha h0;have hn:invT a≠0:=by
  intro e;have:=invT_el ha h0;rw[e,toE_zero]at this
  exact inv_ne (toE_ne ha h0) this.symm
 have:=Inv_from ha h0 ((invT a).toNat-1) 1 za (Nat.le_refl _);exact this
theorem Scale_l0{c:Int}(hc:0<=c/\c<256){l:List Int}(hl:bytesB l=true)(hm:l.length<=4096): ∀n i:Nat,i+n=l.length->Ends (fun k=>recoupref01_Scale.l0 k c l ((l.take i).map (mulT c)) (i:Int)) (l.map (mulT c))
 |0,i,h=>by
  obtain rfl:i=l.length:=by omega
  exact Ends.succ (fun k=>by rw[recoupref01_Scale.l0]) (Ends.neg za (Ends.const zd))
 |n+1,i,h=>by
  have hi:i<l.length:=by omega
  refine Ends.succ (fun k=>by rw[recoupref01_Scale.l0]) (Ends.pos za (Ends.pos (Int.natCast_nonneg _) ?_));have hb:=bytesB_at hl hi;rw[rd_nat];refine Ends.bind (mulT_ends hc hb) (Ends.pos zk ?_);have e2:wrap64 ((i:Int)+1)=((i+1:Nat):Int):=by rw[w64 za za];omega
  have e3:(l.take i).map (mulT c)++ [mulT c (l.getD i 0)] =(l.take (i+1)).map (mulT c):=by
   rw[List.take_succ_eq_append_getElem hi,List.map_append,List.getD_eq_getElem?_getD,List.getElem?_eq_getElem hi];rfl
  rw[e2,e3];exact Scale_l0 hc hl hm n (i+1) za
theorem Scale_ends{c:Int}(hc:0<=c/\c<256){l:List Int}(hl:bytesB l=true)(hm:l.length<=4096):Ends (fun k=>recoupref01_Scale.f k c l) (l.map (mulT c)):=by
 have:=Scale_l0 hc hl hm l.length 0 za;unfold recoupref01_Scale.f;simpa using this
def U(M:List (List Int))(c:Nat):Prop:= ∀r∈M,r.length=c
theorem U.cons{r:List Int}{M:List (List Int)}{c:Nat}(h:U (r::M) c):r.length=c/\U M c:=⟨h r (List.mem_cons_self ..),fun x hx=>h x (List.mem_cons_of_mem _ hx)⟩
theorem U.set{M:List (List Int)}{c k:Nat}{r:List Int}(h:U M c)(hr:r.length=c):U (M.set k r) c:=fun x hx=>by
 rcases List.mem_or_eq_of_mem_set hx with hx|rfl
 ·exact h x hx
 ·exact hr
theorem U.at{M:List (List Int)}{c i:Nat}(h:U M c)(hi:i<M.length):(M.getD i []).length=c:=by
 rw[List.getD_eq_getElem?_getD,List.getElem?_eq_getElem hi];exact h _ (List.getElem_mem hi)
theorem flat_len{c:Nat} : ∀ {M:List (List Int)},U M c->M.flatten.length=M.length*c
 | [],_=>by simp
 |r::M,h=>by
  rw[List.flatten_cons,List.length_append,flat_len h.cons.2,h.cons.1,List.length_cons,Nat.succ_mul,Nat.add_comm]
theorem flat_drop{c:Nat} : ∀ {M:List (List Int)} (i:Nat),U M c->M.flatten.drop (i*c)=(M.drop i).flatten
 | [],i,_=>by simp
 |r::M,0,h=>by simp
 |r::M,i+1,h=>by
  rw[List.flatten_cons,Nat.succ_mul,Nat.add_comm,List.drop_succ_cons,<-flat_drop i h.cons.2];have:=h.cons.1;rw[List.drop_append,List.drop_eq_nil_of_le za,List.nil_append,this,Nat.add_sub_cancel_left]
theorem flat_take{c:Nat} : ∀ {M:List (List Int)} (i:Nat),U M c->M.flatten.take (i*c)=(M.take i).flatten
 | [],i,_=>by simp
 |r::M,0,h=>by simp
 |r::M,i+1,h=>by
  rw[List.flatten_cons,Nat.succ_mul,Nat.add_comm,List.take_succ_cons,List.flatten_cons,<-flat_take i h.cons.2];have:=h.cons.1;rw[List.take_append,List.take_of_length_le za,this,Nat.add_sub_cancel_left]
theorem flat_get{c i j:Nat}{M:List (List Int)}(h:U M c)(hi:i<M.length)(hj:j<c):M.flatten.getD (i*c+j) 0=entry M i j:=by
 have e:M.flatten.getD (i*c+j) 0=(M.flatten.drop (i*c)).getD j 0:=by
  rw[List.getD_eq_getElem?_getD,List.getD_eq_getElem?_getD,List.getElem?_drop]
 have hl:=h.at hi;rw[e,flat_drop i h,List.drop_eq_getElem_cons hi,List.flatten_cons];unfold entry;rw[List.getD_eq_getElem?_getD,List.getD_eq_getElem?_getD,List.getD_eq_getElem?_getD,List.getElem?_eq_getElem hi,Option.getD_some];rw[List.getD_eq_getElem?_getD,List.getElem?_eq_getElem hi,Option.getD_some]at hl
 rw[List.getElem?_append_left za]
theorem flat_row{c i:Nat}{M:List (List Int)}(h:U M c)(hi:i<M.length):(M.flatten.drop (i*c)).take c=M.getD i []:=by
 have hl:=h.at hi;rw[flat_drop i h,List.drop_eq_getElem_cons hi,List.flatten_cons];rw[List.getD_eq_getElem?_getD,List.getElem?_eq_getElem hi,Option.getD_some]at hl⊢
 rw[List.take_append,List.take_of_length_le za,hl,Nat.sub_self,List.take_zero,List.append_nil]
theorem flat_splice{c k:Nat}{M:List (List Int)}{r:List Int}(h:U M c)(hk:k<M.length)(hr:r.length=c):splice M.flatten (k*c) r=(M.set k r).flatten:=by
 unfold splice;rw[flat_take k h,hr,show k*c+c=(k+1)*c from(Nat.succ_mul k c).symm,flat_drop (k+1) h,List.set_eq_take_append_cons_drop,if_pos hk,List.flatten_append,List.flatten_cons]
theorem flat_set{c k j:Nat}{M:List (List Int)}(v:Int)(h:U M c)(hk:k<M.length)(hj:j<c):M.flatten.set (k*c+j) v=(M.set k ((M.getD k []).set j v)).flatten:=by
 have hl:=h.at hk;rw[<-flat_splice h hk zah];unfold splice;rw[List.length_set,hl,List.set_eq_take_append_cons_drop];have hlen:k*c+j<M.flatten.length:=by
  rw[flat_len h];have:(k+1)*c<=M.length*c:=Nat.mul_le_mul_right _ hk;rw[Nat.succ_mul]at this
  omega
 rw[if_pos hlen,List.set_eq_take_append_cons_drop,if_pos za,<-flat_row h hk,List.take_take,Nat.min_eq_left za,List.append_assoc,List.cons_append];have e1:M.flatten.take (k*c+j)=M.flatten.take (k*c)++(M.flatten.drop (k*c)).take j:=by
  rw[List.take_add]
 have e2:((M.flatten.drop (k*c)).take c).drop (j+1)++M.flatten.drop (k*c+c)=M.flatten.drop (k*c+j+1):=by
  rw[List.drop_take,List.drop_drop,<-List.drop_drop (i:=c),<-List.drop_drop (i:=j+1)];rw[show M.flatten.drop (k*c+j+1)=((M.flatten.drop (k*c)).drop (j+1))from by rw[List.drop_drop];congr 1,show(M.flatten.drop (k*c)).drop c=((M.flatten.drop (k*c)).drop (j+1)).drop (c-(j+1))from by simp only[List.drop_drop];congr 1;omega];rw[List.take_append_drop]
 rw[e1,<-e2];simp[List.append_assoc]
theorem flat_rowsOf{c:Nat} : ∀(r:Nat) (l:List Int),l.length=r*c->(rowsOf c r l).flatten=l/\U (rowsOf c r l) c:=by
 intro r;have key: ∀r (l:List Int),l.length=r*c->((List.range r).map fun i=>(l.drop (i*c)).take c).flatten=l:=by
  intro r
  induction r with
  |zero=>intro l hl;rw[Nat.zero_mul]at hl;simp[List.length_eq_zero_iff.1 hl]
  |succ r ih=>
   intro l hl;rw[Nat.succ_mul]at hl
   rw[List.range_succ,List.map_append,List.flatten_append];have:=ih (l.take (r*c)) zq;have e:((List.range r).map fun i=>(l.drop (i*c)).take c)=((List.range r).map fun i=>((l.take (r*c)).drop (i*c)).take c):=by
    refine List.map_congr_left fun i hi=>?_;have hir:i<r:=by simpa using hi
    have:(i+1)*c<=r*c:=Nat.mul_le_mul_right _ hir;rw[Nat.succ_mul]at this
    rw[List.drop_take,List.take_take,Nat.min_eq_left za]
   rw[e,this];simp only[List.map_cons,List.map_nil,List.flatten_cons,List.flatten_nil,List.append_nil];rw[List.take_of_length_le (l:=l.drop (r*c)) (by rw[List.length_drop];omega),List.take_append_drop]
 intro l hl;refine⟨key r l hl,fun x hx=>?_⟩;obtain⟨i,hi,rfl⟩:=List.mem_map.1 hx;have hir:i<r:=by simpa using hi
 have:(i+1)*c<=r*c:=Nat.mul_le_mul_right _ hir;rw[Nat.succ_mul]at this
 rw[List.length_take,List.length_drop];omega
theorem idx_small{i c j:Nat}(hi:i<=64)(hc:c<=64)(hj:j<=64):wrap64 ((i:Int)*(c:Int))=((i*c:Nat):Int)/\wrap64 (wrap64 ((i:Int)*(c:Int))+(j:Int))=((i*c+j:Nat):Int):=by
 have hm:i*c<=64*64:=Nat.mul_le_mul hi hc;rw[<-Int.natCast_mul];generalize i*c=p at*;rw[w64 za za,w64 za za];exact⟨rfl,by omega⟩
theorem idx_lt{i c j n:Nat}(hi:i<n)(hj:j<c):i*c+j<n*c:=by
 have:(i+1)*c<=n*c:=Nat.mul_le_mul_right _ hi;rw[Nat.succ_mul]at this
 omega
theorem At_eq{c i j:Nat}{M:List (List Int)}(h:U M c)(hm:M.length<=64)(hc:c<=64)(hi:i<M.length)(hj:j<c)(a:Int):recoupref03_At.f a (c:Int) M.flatten (i:Int) (j:Int)=some (entry M i j):=by
 obtain⟨_,e⟩:=idx_small (i:=i) (c:=c) (j:=j) za hc za;have hl:=idx_lt hi hj;unfold recoupref03_At.f;rw[e,flat_len h,if_pos (Int.natCast_nonneg _),if_pos (Int.ofNat_lt.2 hl),rd_nat,flat_get h hi hj]
theorem Right_true{c:Nat}{M:List (List Int)}(h:U M c)(hm:M.length<=64)(hc:c<=64):recoupref03_Right.f (M.length:Int) (c:Int) M.flatten=some true:=by
 obtain⟨e,_⟩:=idx_small (i:=M.length) (c:=c) (j:=0) hm hc za;unfold recoupref03_Right.f;rw[if_pos za,if_pos za,if_pos za,if_pos za,e,flat_len h];simp
theorem Row_l0{c i:Nat}{M:List (List Int)}(h:U M c)(hm:M.length<=64)(hc:c<=64)(hi:i<M.length): ∀n j:Nat,j+n=c->Ends (fun k=>recoupref03_Row.l0 k (i:Int) ((M.getD i []).take j) (j:Int) (M.length:Int) (c:Int) M.flatten) (M.getD i [],0)
 |0,j,hj=>by
  obtain rfl:j=c:=by omega
  refine Ends.succ (fun k=>by rw[recoupref03_Row.l0]) (Ends.neg za (Ends.const ?_));rw[List.take_of_length_le (by rw[h.at hi];exact Nat.le_refl _)]
 |n+1,j,hj=>by
  refine Ends.succ (fun k=>by rw[recoupref03_Row.l0]) (Ends.pos za ?_);refine Ends.bind1 (At_eq h hm hc hi (by omega:j<c) _) ?_;refine Ends.pos zq ?_;have e2:wrap64 ((j:Int)+1)=((j+1:Nat):Int):=by rw[w64 za za];omega
  have e3:(M.getD i []).take j++ [entry M i j] =(M.getD i []).take (j+1):=by
   have hl:=h.at hi;rw[List.take_succ_eq_append_getElem za];unfold entry;rw[List.getD_eq_getElem?_getD (l:=M.getD i []),List.getElem?_eq_getElem (by omega:j<(M.getD i []).length),Option.getD_some]
  rw[e2,e3];exact Row_l0 h hm hc hi n (j+1) za
theorem Row_ends{c i:Nat}{M:List (List Int)}(h:U M c)(hm:M.length<=64)(hc:c<=64)(hi:i<M.length):Ends (fun k=>recoupref03_Row.f k (M.length:Int) (c:Int) M.flatten (i:Int)) (M.getD i [],0):=by
 unfold recoupref03_Row.f;refine Ends.bind1 (Right_true h hm hc) (Ends.pos rfl (Ends.neg za ?_));refine Ends.succ (fun k=>by rw[recoupref03_Row.j0]) (Ends.neg zu ?_);simpa using Row_l0 h hm hc hi c 0 za
theorem U.of{M D:List (List Int)}{cols wd:Nat}(h:Shp M D cols wd):U M cols:=fun r hr=>by
 obtain⟨i,hi,rfl⟩:=List.getElem_of_mem hr;have:=h.eM i hi
 rwa [List.getD_eq_getElem?_getD,List.getElem?_eq_getElem hi,Option.getD_some]at this
theorem Pick_l1{c:Nat}{M:List (List Int)}(h:U M c)(hm:M.length<=64)(hc:c<=64){L:List Int}(hL: ∀x∈L,0<=x/\x<(M.length:Int))(hl:L.length<=64)(a b:Int): ∀n i:Nat,i+n=L.length->
 Ends (fun k=>recoupref03_Pick.l1 k L (i:Int) (M.length:Int) (c:Int) M.flatten a b ((L.take i).map fun x=>M.getD x.toNat []).flatten) (a,b,(L.map fun x=>M.getD x.toNat []).flatten,0)
 |0,i,hi=>by
  refine Ends.succ (fun k=>by rw[recoupref03_Pick.l1]) (Ends.neg za (Ends.const ?_));rw[List.take_of_length_le za]
 |n+1,i,hi=>by
  have hiL:i<L.length:=by omega
  refine Ends.succ (fun k=>by rw[recoupref03_Pick.l1]) (Ends.pos za ?_);refine Ends.pos (Int.natCast_nonneg _) ?_;have hx:=hL _ (List.getElem_mem hiL);obtain⟨x,hx'⟩:=Int.eq_ofNat_of_zero_le hx.1;rw[rd_nat,List.getD_eq_getElem?_getD,List.getElem?_eq_getElem hiL,Option.getD_some,hx'];have hxm:x<M.length:=by omega
  refine Ends.bind (Row_ends h hm hc hxm) ?_;have hfl:((L.take i).map fun x=>M.getD x.toNat []).flatten.length=i*c:=by
   have hu:U ((L.take i).map fun x=>M.getD x.toNat []) c:=fun r hr=>by
    obtain⟨y,hy,rfl⟩:=List.mem_map.1 hr;have:=hL y (List.mem_of_mem_take hy);exact h.at za
   rw[flat_len hu,List.length_map,List.length_take,Nat.min_eq_left za]
  have hic:i*c<=64*64:=Nat.mul_le_mul za hc;have hrl:=h.at hxm;refine Ends.pos (by rw[hfl,hrl];omega) ?_;have e2:wrap64 ((i:Int)+1)=((i+1:Nat):Int):=by rw[w64 za za];omega
  have e3:((L.take i).map fun x=>M.getD x.toNat []).flatten++M.getD x [] =((L.take (i+1)).map fun x=>M.getD x.toNat []).flatten:=by
   rw[List.take_succ_eq_append_getElem hiL,List.map_append,List.flatten_append,hx'];simp
  rw[e2,e3];exact Pick_l1 h hm hc hL hl a b n (i+1) za
theorem Pick_l0{c:Nat}{M:List (List Int)}(h:U M c)(hm:M.length<=64)(hc:c<=64){L:List Int}(hL: ∀x∈L,0<=x/\x<(M.length:Int))(hl:L.length<=64): ∀n i:Nat,i+n=L.length->
 Ends (fun k=>recoupref03_Pick.l0 k L (i:Int) (M.length:Int) (c:Int) M.flatten) ((L.length:Int),(c:Int),(L.map fun x=>M.getD x.toNat []).flatten,0)
 |0,i,hi=>by
  refine Ends.succ (fun k=>by rw[recoupref03_Pick.l0]) (Ends.neg za (Ends.neg za ?_));exact Pick_l1 h hm hc hL hl _ _ L.length 0 za
 |n+1,i,hi=>by
  have hiL:i<L.length:=by omega
  have hx:=hL _ (List.getElem_mem hiL);refine Ends.succ (fun k=>by rw[recoupref03_Pick.l0]) (Ends.pos za ?_);refine Ends.pos (Int.natCast_nonneg _) ?_;have e:rd L (i:Int)=L[i]:=by rw[rd_nat,List.getD_eq_getElem?_getD,List.getElem?_eq_getElem hiL,Option.getD_some]
  rw[e];refine Ends.neg za (Ends.neg za ?_);have e2:wrap64 ((i:Int)+1)=((i+1:Nat):Int):=by rw[w64 za za];omega
  rw[e2];exact Pick_l0 h hm hc hL hl n (i+1) za
theorem Pick_ends{c:Nat}{M:List (List Int)}(h:U M c)(hm:M.length<=64)(hc:c<=64){L:List Int}(hL: ∀x∈L,0<=x/\x<(M.length:Int))(hl:L.length<=64):
 Ends (fun k=>recoupref03_Pick.f k (M.length:Int) (c:Int) M.flatten L) ((L.length:Int),(c:Int),(L.map fun x=>M.getD x.toNat []).flatten,0):=by
 unfold recoupref03_Pick.f;exact Ends.bind1 (Right_true h hm hc) (Ends.pos rfl (Pick_l0 h hm hc hL hl L.length 0 za))
def sw(M:List (List Int))(top i:Nat):List (List Int):=(M.set i (M.getD top [])).set top (M.getD i [])
def ordL(n top i:Nat):List Int:=(((List.range n).map fun(x:Nat)=>(x:Int)).set top (i:Int)).set i (top:Int)
theorem ordL_map{M:List (List Int)}{top i:Nat}(ht:top<M.length)(hi:i<M.length):((ordL M.length top i).map fun x=>M.getD x.toNat [])=sw M top i:=by
 unfold ordL sw;refine List.ext_getElem zd fun p h1 h2=>?_;have hp:p<M.length:=by simpa using h2
 rw[List.getElem_map,List.getElem_set,List.getElem_set,List.getElem_set,List.getElem_set,List.getElem_map,List.getElem_range];by_cases e1:i=p
 ·subst e1;by_cases e2:top=i
  ·subst e2;simp
  ·rw[if_pos rfl,if_neg e2,if_pos rfl];simp
 ·by_cases e2:top=p
  ·subst e2;rw[if_neg e1,if_pos rfl,if_pos rfl];simp
  ·rw[if_neg e1,if_neg e2,if_neg e2,if_neg e1];simp[List.getElem?_eq_getElem hp]
theorem ordL_range{n top i:Nat}(ht:top<n)(hi:i<n): ∀x∈ordL n top i,0<=x/\x<(n:Int):=fun x hx=>by
 unfold ordL at hx;rcases List.mem_or_eq_of_mem_set hx with hx|rfl
 ·rcases List.mem_or_eq_of_mem_set hx with hx|rfl
  ·obtain⟨y,hy,rfl⟩:=List.mem_map.1 hx;have:y<n:=by simpa using hy
   omega
  ·omega
 ·omega
theorem mid_set{g r:List Int}{l:Nat}(hg:l<g.length)(hr:g.length=r.length):(g.take l++r.drop l).set l (g.getD l 0)=g.take (l+1)++r.drop (l+1):=by
 rw[List.set_append_right _ _ zq,List.length_take,Nat.min_eq_left za,Nat.sub_self,List.drop_eq_getElem_cons (by omega:l<r.length),List.set_cons_zero,List.take_succ_eq_append_getElem hg,List.append_assoc,List.getD_eq_getElem?_getD,List.getElem?_eq_getElem hg];rfl
theorem mid_get{g r:List Int}{l:Nat}(hg:l<g.length)(hr:g.length=r.length):(g.take l++r.drop l).getD l 0=r.getD l 0:=by
 rw[List.getD_eq_getElem?_getD,List.getD_eq_getElem?_getD,List.getElem?_append_right zq,List.length_take,Nat.min_eq_left za,Nat.sub_self,List.getElem?_drop,Nat.add_zero]
def xrow(c:Int)(r s:List Int):List Int:=List.zipWith (fun x y=>Go.bits .xor .u8 x (mulT c y)) r s
theorem xrow_mac(c:Int)(r s:List Int):xrow c r s=xorL (s.map (mulT c)) r:=by
 unfold xrow xorL;rw[List.zipWith_map_left,List.zipWith_comm]
 congr 1
 funext a b
 show IntKind.u8.wrap ((BitVec.ofInt 8 _ ^^^ BitVec.ofInt 8 _).toNat:Int)=IntKind.u8.wrap ((BitVec.ofInt 8 _ ^^^ BitVec.ofInt 8 _).toNat:Int);rw[BitVec.xor_comm]
theorem xrow_zero{r s:List Int}(hr:bytesB r=true)(hl:r.length=s.length):xrow 0 r s=r:=by
 unfold xrow;refine List.ext_getElem (by simp[hl]) fun p h1 h2=>?_;rw[List.getElem_zipWith];have hb:=bytesB_at hr h2;rw[List.getD_eq_getElem?_getD,List.getElem?_eq_getElem h2,Option.getD_some]at hb
 refine toE_inj (xor_range _ _) hb ?_;rw[xor_el];show toE r[p]+toE (mulT 0 _)=_;rw[show mulT 0 (s[p]' za)=0 from by unfold mulT;rw[if_pos rfl],toE_zero,add_zero]
theorem i64_succ{i:Nat}(h:i<=4096):wrap64 ((i:Int)+1)=((i+1:Nat):Int):=by rw[w64 za za];omega
theorem getD_set_self{α:Type}{l:List α}{i:Nat}{v d:α}(h:i<l.length):(l.set i v).getD i d=v:=by
 rw[List.getD_eq_getElem?_getD,List.getElem?_set_self h,Option.getD_some]
theorem getD_set_ne{α:Type}{l:List α}{i j:Nat}{v d:α}(h:i≠j):(l.set i v).getD j d=l.getD j d:=by
 rw[List.getD_eq_getElem?_getD,List.getD_eq_getElem?_getD,List.getElem?_set_ne h]
theorem set_getD_self{α:Type}{l:List α}{i:Nat}{d:α}(h:i<l.length):l.set i (l.getD i d)=l:=by
 rw[List.getD_eq_getElem?_getD,List.getElem?_eq_getElem h,Option.getD_some,List.set_getElem_self]
theorem xrow_length{c:Int}{r s:List Int}(h:r.length=s.length):(xrow c r s).length=r.length:=by unfold xrow;rw[List.length_zipWith];omega
theorem xrow_get{c:Int}{r s:List Int}{l:Nat}(h1:l<r.length)(h2:l<s.length):(xrow c r s).getD l 0=Go.bits .xor .u8 (r.getD l 0) (mulT c (s.getD l 0)):=by
 unfold xrow;rw[List.getD_eq_getElem?_getD,List.getD_eq_getElem?_getD,List.getD_eq_getElem?_getD,List.getElem?_zipWith,List.getElem?_eq_getElem h1,List.getElem?_eq_getElem h2];rfl
theorem Red_l4{C:Nat}{M:List (List Int)}(h:U M C)(hm:M.length<=64)(hc:C<=64){kk:Nat}(hk:kk<M.length){s:List Int}(hs:s.length=C)(hsb:bytesB s=true){c:Int}(hcb:0<=c/\c<256)(x6:List Int)(x7 x8:Int){R:Int×Int×List Int×List Int×Int}
 (hR:Ends (fun q=>recoupref04_Reduce.l3 q x6 x7 x8 s ((kk+1:Nat):Int) (M.length:Int) (C:Int) (M.set kk (xrow c (M.getD kk []) s)).flatten) R):
 ∀n l:Nat,l+n=C->Ends (fun q=>recoupref04_Reduce.l4 q x6 x7 x8 s (kk:Int) c (l:Int) (M.length:Int) (C:Int) (M.set kk ((xrow c (M.getD kk []) s).take l++(M.getD kk []).drop l)).flatten) R
 |0,l,hl=>by
  obtain rfl:l=C:=by omega
  have hr:=h.at hk;have hg:=xrow_length (c:=c) (hr.trans hs.symm);refine Ends.succ (fun k=>by rw[recoupref04_Reduce.l4]) (Ends.neg za ?_);have e1:(xrow c (M.getD kk []) s).take l=xrow c (M.getD kk []) s:=List.take_of_length_le (by rw[hg,hr];exact Nat.le_refl _);have e2:(M.getD kk []).drop l= []:=List.drop_of_length_le (by rw[hr];exact Nat.le_refl _);have e3:=i64_succ (i:=kk) (by clear hR e1 e2 hg hr hcb;omega);rw[e1,e2,List.append_nil,e3];exact hR
 |n+1,l,hl=>by
  have hr:=h.at hk;have hg:=xrow_length (c:=c) (hr.trans hs.symm);have hlC:l<C:=by omega
  have D:kk<=64:=by omega
  have G:l<=64:=by omega
  have hmid:((xrow c (M.getD kk []) s).take l++(M.getD kk []).drop l).length=C:=by rw[List.length_append,List.length_take,List.length_drop];omega
  have hU:=h.set (k:=kk) hmid;have hlen:(M.set kk ((xrow c (M.getD kk []) s).take l++(M.getD kk []).drop l)).length=M.length:=List.length_set;refine Ends.succ (fun k=>by rw[recoupref04_Reduce.l4]) (Ends.pos za ?_);rw[(idx_small (i:=kk) (c:=C) (j:=l) D hc G).2];refine Ends.pos (Int.natCast_nonneg _) ?_;have hix:=idx_lt (c:=C) hk hlC;refine Ends.pos za6 ?_;refine Ends.pos (Int.natCast_nonneg _) ?_;have hls:l<s.length:=by rw[hs];exact hlC
  refine Ends.pos (Int.ofNat_lt.2 hls) ?_;rw[rd_nat];refine Ends.bind (mulT_ends hcb (bytesB_at hsb hls)) ?_;have e2:(M.set kk ((xrow c (M.getD kk []) s).take l++(M.getD kk []).drop l)).flatten.set (((kk*C+l:Nat):Int)).toNat (Go.bits .xor .u8 (rd (M.set kk ((xrow c (M.getD kk []) s).take l++(M.getD kk []).drop l)).flatten ((kk*C+l:Nat):Int)) (mulT c (s.getD l 0)))=(M.set kk ((xrow c (M.getD kk []) s).take (l+1)++(M.getD kk []).drop (l+1))).flatten:=by
   rw[rd_nat,Int.toNat_natCast,flat_get hU za hlC,flat_set _ hU za hlC,getD_set_self hk,List.set_set];have e3:entry (M.set kk ((xrow c (M.getD kk []) s).take l++(M.getD kk []).drop l)) kk l=(M.getD kk []).getD l 0:=by
    unfold entry;rw[getD_set_self hk,mid_get za za]
   rw[e3,<-xrow_get za za,mid_set za za]
  rw[e2,i64_succ za];exact Red_l4 h hm hc hk hs hsb hcb x6 x7 x8 hR n (l+1) za
theorem elim_top{col top:Nat}{s:List (List Int)×List (List Int)} : ∀k,(elimTo col top k s).1.getD top [] =s.1.getD top []
 |0=>rfl
 |k+1=>by
  unfold elimTo;simp only[]
  split
  ·rename_i hh
   unfold macS;rw[getD_set_ne hh.1];exact elim_top k
  ·exact elim_top k
theorem rows_bytes{M:List (List Int)}(h:rowsB M=true)(i:Nat):bytesB (M.getD i [])=true:=rowsB_at h i
theorem Red_l3{C wd:Nat}{S D:List (List Int)}(h:Shp S D C wd){top j:Nat}(ht:top<S.length)(hj:j<C)(x6:List Int)(h6:x6.length<=64){R:Int×Int×List Int×List Int×Int}
 (hR:Ends (fun q=>recoupref04_Reduce.l0 q (x6++ [(j:Int)]) ((j+1:Nat):Int) (S.length:Int) (C:Int) (elimTo j top S.length (S,D)).1.flatten) R):
 ∀n k:Nat,k+n=S.length->Ends (fun q=>recoupref04_Reduce.l3 q x6 (j:Int) (top:Int) (S.getD top []) (k:Int) (S.length:Int) (C:Int) (elimTo j top k (S,D)).1.flatten) R
 |0,k,hk=>by
  obtain rfl:k=S.length:=by omega
  refine Ends.succ (fun k=>by rw[recoupref04_Reduce.l3]) (Ends.neg za (Ends.pos za ?_));have:=h.small.2.1;rw[i64_succ za];exact hR
 |n+1,k,hk=>by
  have hkS:k<S.length:=by omega
  obtain⟨hT,hTl⟩:=elim_shp (col:=j) h ht k za;have hm:=h.small.1;have hc:=h.small.2.1;have ih:=Red_l3 h ht hj x6 h6 hR n (k+1) za;refine Ends.succ (fun k=>by rw[recoupref04_Reduce.l3]) (Ends.pos za ?_);by_cases e:k=top
  ·refine Ends.pos za ?_;rw[i64_succ za];have e1:elimTo j top (k+1) (S,D)=elimTo j top k (S,D):=by
    conv=>lhs;unfold elimTo
    simp only[];rw[if_neg (fun hh=>hh.1 e)]
   rw[e1]at ih
   exact ih
  ·refine Ends.neg za ?_;have hst:=elim_top (col:=j) (top:=top) (s:=(S,D)) k;have hEx:elimTo j top (k+1) (S,D)=(if k≠top/\entry (elimTo j top k (S,D)).1 k j≠0 then(macS (elimTo j top k (S,D)).1 k top (entry (elimTo j top k (S,D)).1 k j),macS (elimTo j top k (S,D)).2 k top (entry (elimTo j top k (S,D)).1 k j))else elimTo j top k (S,D)):=by
    conv=>lhs;unfold elimTo
   rw[hEx]at ih
   generalize elimTo j top k (S,D)=T at*;have hUT:=U.of hT;rw[<-hTl];refine Ends.bind1 (At_eq hUT za hc za hj _) ?_;have hcb:=entry_byte hT (i:=k) (j:=j) za hj;have hst':T.1.getD top [] =S.getD top []:=hst;have hs:(S.getD top []).length=C:=h.eM top ht;have h0:=Red_l4 hUT za hc (kk:=k) za hs (rows_bytes h.bM top) hcb x6 (j:Int) (top:Int) (R:=R) ?_ C 0 za
   ·rw[List.take_zero,List.nil_append,List.drop_zero,set_getD_self za]at h0
    exact h0
   ·rw[hTl];by_cases e0:entry T.1 k j=0
    ·rw[if_neg (fun hh=>hh.2 e0)]at ih
     rw[e0,xrow_zero (rows_bytes hT.bM k) (by rw[hT.eM k za,hs]),set_getD_self za];exact ih
    ·rw[if_pos ⟨e,e0⟩]at ih
     unfold macS at ih;rw[hst']at ih
     rw[xrow_mac];exact ih
theorem Red_l2{C wd:Nat}{M D:List (List Int)}(h:Shp M D C wd){top i j:Nat}(ht:top<M.length)(hi:i<M.length)(hj:j<C)(h0:entry M i j≠0)(x6:List Int)(h6:x6.length<=64){R:Int×Int×List Int×List Int×Int}
 (hR:Ends (fun q=>recoupref04_Reduce.l0 q (x6++ [(j:Int)]) ((j+1:Nat):Int) (M.length:Int) (C:Int) (stepAt M D top i j).1.flatten) R):
 ∀n k:Nat,k+n=M.length->Ends (fun q=>recoupref04_Reduce.l2 q x6 (j:Int) (top:Int) (i:Int) (((List.range M.length).map fun(x:Nat)=>(x:Int)).take k++(List.replicate M.length (0:Int)).drop k) (k:Int) (M.length:Int) (C:Int) M.flatten) R
 |0,k,hk=>by
  obtain rfl:k=M.length:=by omega
  have hm:=h.small.1;have hc:=h.small.2.1;have hU:=U.of h;have hlen:(((List.range M.length).map fun(x:Nat)=>(x:Int)).take M.length++(List.replicate M.length (0:Int)).drop M.length)=((List.range M.length).map fun(x:Nat)=>(x:Int)):=by
   rw[List.take_of_length_le zd,List.drop_of_length_le zd,List.append_nil]
  refine Ends.succ (fun k=>by rw[recoupref04_Reduce.l2]) (Ends.neg za ?_);rw[hlen];have I:(((List.range M.length).map fun(x:Nat)=>(x:Int)).length:Int)=(M.length:Int):=by simp
  rw[I];refine Ends.pos (Int.natCast_nonneg _) (Ends.pos za (Ends.pos (Int.natCast_nonneg _) (Ends.pos za ?_)));have ho:((((List.range M.length).map fun(x:Nat)=>(x:Int)).set ((top:Int)).toNat (i:Int)).set ((i:Int)).toNat (top:Int))=ordL M.length top i:=rfl;rw[ho];have hol:(ordL M.length top i).length=M.length:=by simp[ordL]
  refine Ends.bind (Pick_ends hU hm hc (ordL_range ht hi) za) ?_;rw[ordL_map ht hi,hol];have hsl:(sw M top i).length=M.length:=by simp[sw]
  have hUs:U (sw M top i) C:=(hU.set (k:=i) (hU.at ht)).set (hU.at hi);have hst:(sw M top i).getD top [] =M.getD i []:=by unfold sw;rw[getD_set_self zx]
  have hA:=At_eq hUs za hc (i:=top) za hj (M.length:Int);have he:entry (sw M top i) top j=entry M i j:=by unfold entry;rw[hst]
  rw[he]at hA
  refine Ends.bind1 hA ?_;have hb:=entry_byte h hi hj;refine Ends.bind (Inv_ends hb h0) ?_;have hRw:=Row_ends hUs za hc (i:=top) za;rw[hsl,hst]at hRw
  refine Ends.bind hRw ?_;refine Ends.bind (Scale_ends (invT_range hb h0) (rows_bytes h.bM i) (by rw[h.eM i hi];omega)) ?_;have G:top<=64:=by omega
  have hix:=idx_lt (c:=C) ht (by omega:0<C);have hfl:(sw M top i).flatten.length=M.length*C:=by rw[flat_len hUs,hsl]
  show Ends (fun k=>if 0<=wrap64 ((top:Int)*(C:Int))then if wrap64 ((top:Int)*(C:Int))<((sw M top i).flatten.length:Int)then recoupref04_Reduce.l3 k x6 (j:Int) (top:Int) ((M.getD i []).map (mulT (invT (entry M i j)))) 0 (M.length:Int) (C:Int) (copyL (sw M top i).flatten (wrap64 ((top:Int)*(C:Int))) ((M.getD i []).map (mulT (invT (entry M i j)))))else none else none) R;rw[(idx_small (i:=top) (c:=C) (j:=0) G hc zb).1,hfl];refine Ends.pos (Int.natCast_nonneg _) (Ends.pos (Int.ofNat_lt.2 za) ?_);have hrl:((M.getD i []).map (mulT (invT (entry M i j)))).length=C:=by rw[List.length_map];exact h.eM i hi
  have hcp:copyL (sw M top i).flatten ((top*C:Nat):Int) ((M.getD i []).map (mulT (invT (entry M i j))))=(swapS (invT (entry M i j)) M top i).flatten:=by
   unfold copyL;have:(top+1)*C<=M.length*C:=Nat.mul_le_mul_right _ ht;rw[Nat.succ_mul]at this
   rw[Int.toNat_natCast,hfl,List.take_of_length_le za,flat_splice hUs za hrl];rfl
  rw[hcp];have hS:=h.swap (o:=invT (entry M i j)) ht hi;have hSl:(swapS (invT (entry M i j)) M top i).length=M.length:=by simp[swapS]
  have hSt:(swapS (invT (entry M i j)) M top i).getD top [] =(M.getD i []).map (mulT (invT (entry M i j))):=by
   unfold swapS;rw[getD_set_self zx]
  have:=Red_l3 hS (by omega:top<_) hj x6 h6 (R:=R) (by rw[hSl];exact hR) M.length 0 za;rw[hSl,hSt]at this
  exact this
 |n+1,k,hk=>by
  have hm:=h.small.1;refine Ends.succ (fun k=>by rw[recoupref04_Reduce.l2]) (Ends.pos za (Ends.pos (Int.natCast_nonneg _) ?_));refine Ends.pos zk ?_;have e:=mid_set (g:=(List.range M.length).map fun(x:Nat)=>(x:Int)) (r:=List.replicate M.length (0:Int)) (l:=k) zk zd;have e1:((List.range M.length).map fun(x:Nat)=>(x:Int)).getD k 0=(k:Int):=by
   rw[List.getD_eq_getElem?_getD,List.getElem?_map,List.getElem?_range za];rfl
  rw[e1]at e
  rw[Int.toNat_natCast,e,i64_succ za];exact Red_l2 h ht hi hj h0 x6 h6 hR n (k+1) za
theorem Red_l1{C:Nat}{S:List (List Int)}(h:U S C)(hm:S.length<=64)(hc:C<=64){j:Nat}(hj:j<C)(x6:List Int)(top:Int){R:Int×Int×List Int×List Int×Int} :
 ∀n i:Nat,i+n=S.length->Ends (fun q=>recoupref04_Reduce.j3 q x6 (j:Int) top (((seekCol S j n i).getD S.length:Nat):Int) (S.length:Int) (C:Int) S.flatten) R->
  Ends (fun q=>recoupref04_Reduce.l1 q x6 (j:Int) top (i:Int) (S.length:Int) (C:Int) S.flatten) R
 |0,i,hi,hJ=>by
  obtain rfl:i=S.length:=by omega
  refine Ends.succ (fun k=>by rw[recoupref04_Reduce.l1]) ?_;exact Ends.neg za hJ
 |n+1,i,hi,hJ=>by
  refine Ends.succ (fun k=>by rw[recoupref04_Reduce.l1]) (Ends.pos za ?_);refine Ends.bind1 (At_eq h hm hc za hj _) ?_;unfold seekCol at hJ;by_cases e:entry S i j=0
  case neg=>rw[if_pos e]at hJ;exact Ends.neg e hJ
  rw[if_neg (fun x=>x e)]at hJ
  refine Ends.pos e ?_;rw[i64_succ za];exact Red_l1 h hm hc hj x6 top n (i+1) za hJ
theorem red_done{M D:List (List Int)}{C wd:Nat}(h:Shp M D C wd){j:Nat}(hf:M.length<=(redTo M D j).2.length)(n:Nat):redTo M D (j+n)=redTo M D j:=
 red_skip n fun j' _ _ i' a b=>by rw[(red_shp h j).2.1]at b;omega
theorem Red_l0{C wd:Nat}{M D:List (List Int)}(h:Shp M D C wd): ∀n j:Nat,j+n=C->
 Ends (fun q=>recoupref04_Reduce.l0 q (redTo M D j).2 (j:Int) (M.length:Int) (C:Int) (redTo M D j).1.1.flatten) ((M.length:Int),(C:Int),(redTo M D C).1.1.flatten,(redTo M D C).2,0)
 |0,j,hj=>by
  obtain rfl:j=C:=by omega
  refine Ends.succ (fun k=>by rw[recoupref04_Reduce.l0]) (Ends.neg za ?_);exact Ends.succ (fun k=>by rw[recoupref04_Reduce.j1]) (Ends.neg zb (Ends.const rfl))
 |n+1,j,hj=>by
  have hs:=red_shp h j;have hm:=h.small.1;have hc:=h.small.2.1;have ih:=Red_l0 h n (j+1) za;refine Ends.succ (fun k=>by rw[recoupref04_Reduce.l0]) (Ends.pos za ?_);by_cases hf:M.length<=(redTo M D j).2.length
  ·refine Ends.succ (fun k=>by rw[recoupref04_Reduce.j1]) (Ends.neg zu (Ends.const ?_));have:=red_done h hf (n+1);rw[hj]at this
   rw[this]
  refine Ends.succ (fun k=>by rw[recoupref04_Reduce.j1]) (Ends.pos zu ?_);have hE:redTo M D (j+1)=redStep j (redTo M D j):=rfl;rw[hE]at ih
  obtain⟨hS,hSl,_,hpj⟩:=hs;generalize hT:redTo M D j=T at*;have hU:=U.of hS;have G:T.2.length<=64:=by omega
  have h1:=Red_l1 hU za hc (j:=j) za T.2 (T.2.length:Int) (R:=((M.length:Int),(C:Int),(redTo M D C).1.1.flatten,(redTo M D C).2,0)) (T.1.1.length-T.2.length) T.2.length za ?_
  ·rw[hSl]at h1
   exact h1
  ·show Ends (fun q=>recoupref04_Reduce.j3 q T.2 (j:Int) (T.2.length:Int) (((firstIn T.1.1 T.2.length j).getD T.1.1.length:Nat):Int) (T.1.1.length:Int) (C:Int) T.1.1.flatten) _
   cases hfi:firstIn T.1.1 T.2.length j with
   |none=>
    rw[redStep_none hfi]at ih
    refine Ends.succ (fun k=>by rw[recoupref04_Reduce.j3]) ?_;refine Ends.pos (by rw[Option.getD_none]) ?_;rw[i64_succ za,hSl];exact ih
   |some i=>
    rw[redStep_some hfi]at ih
    obtain⟨q1,q2,q3,_⟩:=seekCol_spec _ _ hfi;refine Ends.succ (fun k=>by rw[recoupref04_Reduce.j3]) (Ends.neg (by rw[Option.getD_some];omega) ?_);refine Ends.pos (Int.natCast_nonneg _) (Ends.pos zaa ?_);rw[Int.toNat_natCast,Option.getD_some];have h2:=Red_l2 hS (top:=T.2.length) (i:=i) (j:=j) za za za q3 T.2 G (R:=((M.length:Int),(C:Int),(redTo M D C).1.1.flatten,(redTo M D C).2,0)) (by rw[hSl];exact ih) T.1.1.length 0 za;rw[List.take_zero,List.nil_append,List.drop_zero]at h2
    exact h2
theorem Right_eq{a b:Int}{l:List Int}(ha: -9223372036854775808<=a/\a<=9223372036854775807):recoupref03_Right.f a b l=matrix_Right.f a b l:=by
 unfold recoupref03_Right.f matrix_Right.f matrix_side.f;by_cases h1:a>=0<;>by_cases h2:a<=64<;>by_cases h3:b>=0<;>by_cases h4:b<=64<;>simp only[h1,h2,h3,h4,if_true,if_false,Option.bind_some,decide_true,decide_false,Bool.false_eq_true]
theorem Right_cases(a b:Int)(l:List Int):recoupref03_Right.f a b l=some true∨recoupref03_Right.f a b l=some false:=by
 unfold recoupref03_Right.f
 split
 ·split
  ·split
   ·split
    ·by_cases h:((l.length:Int)==wrap64 (a*b))=true
     case neg=>right;rw[Bool.not_eq_true]at h;rw[h]
     left;rw[h]
    ·exact .inr rfl
   ·exact .inr rfl
  ·exact .inr rfl
 ·exact .inr rfl
theorem bytesB_wf{l:List Int}(h: ∀x∈l,(Lit.int .u8 x).wf=true):bytesB l=true:=by
 unfold bytesB;rw[List.all_eq_true];intro x hx;have:=wf_u8 (h x hx);simp;omega
theorem Copy_eq{a b:Int}{l:List Int}(h:l.length<=4096):recoupref03_Copy.f a b l=some (a,b,l):=by
 unfold recoupref03_Copy.f recoupref01_Copy.f;rw[Option.bind_some,if_pos (by rw[List.length_nil];omega)];rfl
theorem right_nat{a b:Int}{l:List Int}(h:matrix_Right.f a b l=some true): ∃r c:Nat,a=(r:Int)/\b=(c:Int)/\r<=64/\c<=64/\l.length=r*c/\l.length<=4096:=by
 obtain⟨h1,h2,h3,h4,h5⟩:=right_true h;obtain⟨r,rfl⟩:=Int.eq_ofNat_of_zero_le h1;obtain⟨c,rfl⟩:=Int.eq_ofNat_of_zero_le h3;rw[Int.toNat_natCast,Int.toNat_natCast]at h5
 have:r*c<=64*64:=Nat.mul_le_mul za za;exact⟨r,c,rfl,rfl,by omega,by omega,h5,by omega⟩
def redL(r c:Nat)(l:List Int):(List (List Int)×List (List Int))×List Int:=redTo (rowsOf c r l) (List.replicate r []) c
theorem Reduce_ends{r c:Nat}{l:List Int}(hr:r<=64)(hc:c<=64)(hl:l.length=r*c)(hb:bytesB l=true):Ends (fun k=>recoupref04_Reduce.f k (r:Int) (c:Int) l) ((r:Int),(c:Int),(redL r c l).1.1.flatten,(redL r c l).2,0):=by
 have hf:=flat_rowsOf r l hl;have hlen:=rowsOf_length c r l;have hm:r*c<=64*64:=Nat.mul_le_mul hr hc;unfold recoupref04_Reduce.f;have h1:=Right_true hf.2 za hc;rw[hf.1,hlen]at h1
 refine Ends.bind1 h1 (Ends.pos rfl ?_);refine Ends.bind1 (Copy_eq za) ?_;have:=Red_l0 (shp_nil hb hl ⟨hr,hc⟩) c 0 za;rw[hlen]at this
 show Ends (fun k=>recoupref04_Reduce.l0 k [] 0 (r:Int) (c:Int) l) _;have e:(redTo (rowsOf c r l) (List.replicate r []) 0).1.1.flatten=l:=hf.1;rw[e]at this
 exact this
theorem gReduce_eq{r c:Nat}{l:List Int}(hR:matrix_Right.f (r:Int) (c:Int) l=some true)(hb:bytesB l=true):gauss_Reduce.f (r:Int) (c:Int) l=some ((r:Int),(c:Int),(redL r c l).1.1.flatten,(redL r c l).2,0):=by
 unfold gauss_Reduce.f;rw[hR,Option.bind_some,if_pos rfl,if_pos hb];rfl
theorem Same_self(l:List Int):recoupref01_Same.f l l=some true:=by
 unfold recoupref01_Same.f;rw[beq_self_eq_true]
theorem Like_self(a b:Int)(l:List Int):recoupref03_Like.f a b l a b l=some true:=by
 unfold recoupref03_Like.f;rw[if_pos rfl,if_pos rfl,Same_self];rfl
theorem Rank_ends{r c:Nat}{l:List Int}(hr:r<=64)(hc:c<=64)(hl:l.length=r*c)(hb:bytesB l=true):Ends (fun k=>recoupref04_Rank.f k (r:Int) (c:Int) l) (((redL r c l).2.length:Int),0):=by
 unfold recoupref04_Rank.f;exact Ends.bind (Reduce_ends hr hc hl hb) (Ends.const rfl)
def aug(M D:List (List Int)):List (List Int):=List.zipWith (· ++ ·) M D
theorem aug_length{M D:List (List Int)}(h:D.length=M.length):(aug M D).length=M.length:=by unfold aug;rw[List.length_zipWith];omega
theorem aug_get{M D:List (List Int)}(h:D.length=M.length)(i:Nat):(aug M D).getD i [] =M.getD i []++D.getD i []:=by
 unfold aug;rw[List.getD_eq_getElem?_getD,List.getD_eq_getElem?_getD,List.getD_eq_getElem?_getD,List.getElem?_zipWith];by_cases hi:i<M.length
 case neg=>rw[List.getElem?_eq_none za,List.getElem?_eq_none za];rfl
 rw[List.getElem?_eq_getElem hi,List.getElem?_eq_getElem za];rfl
theorem aug_set{M D:List (List Int)}(h:D.length=M.length)(i:Nat)(r s:List Int):aug (M.set i r) (D.set i s)=(aug M D).set i (r++s):=by
 unfold aug;refine List.ext_getElem zd fun p h1 h2=>?_;rw[List.getElem_zipWith,List.getElem_set,List.getElem_set,List.getElem_set,List.getElem_zipWith]
 split<;>rfl
theorem aug_entry{M D:List (List Int)}{C i j:Nat}(h:D.length=M.length)(hr:(M.getD i []).length=C)(hj:j<C):entry (aug M D) i j=entry M i j:=by
 unfold entry;rw[aug_get h,List.getD_eq_getElem?_getD,List.getD_eq_getElem?_getD (l:=M.getD i []),List.getElem?_append_left za]
theorem aug_entry_right{M D:List (List Int)}{C i j:Nat}(h:D.length=M.length)(hr:(M.getD i []).length=C):entry (aug M D) i (C+j)=entry D i j:=by
 unfold entry;rw[aug_get h,List.getD_eq_getElem?_getD,List.getD_eq_getElem?_getD (l:=D.getD i []),List.getElem?_append_right za,hr,Nat.add_sub_cancel_left]
theorem aug_U{M D:List (List Int)}{C wd:Nat}(h:Shp M D C wd):U (aug M D) (C+wd):=fun r hr=>by
 obtain⟨i,hi,rfl⟩:=List.getElem_of_mem hr;have hl:=aug_length h.len;have:=aug_get h.len i;rw[List.getD_eq_getElem?_getD,List.getElem?_eq_getElem hi,Option.getD_some]at this
 rw[this,List.length_append,h.eM i za,h.eD i za]
theorem aug_bytes{M D:List (List Int)}{C wd:Nat}(h:Shp M D C wd):rowsB (aug M D)=true:=by
 rw[rowsB,List.all_eq_true];intro r hr;obtain⟨i,hi,rfl⟩:=List.getElem_of_mem hr;have:=aug_get h.len i;rw[List.getD_eq_getElem?_getD,List.getElem?_eq_getElem hi,Option.getD_some]at this
 rw[this];have h1:=rows_bytes h.bM i;have h2:=rows_bytes h.bD i;unfold bytesB at h1 h2⊢;rw[List.all_append,h1,h2];rfl
theorem swap_aug{M D:List (List Int)}(h:D.length=M.length)(o:Int)(top i:Nat):aug (swapS o M top i) (swapS o D top i)=swapS o (aug M D) top i:=by
 unfold swapS;rw[aug_set (by simp[h]),aug_set (by simp[h]),aug_set h,aug_get h,aug_get h,List.map_append]
theorem xorL_append{a b c d:List Int}(h:a.length=c.length):xorL (a++b) (c++d)=xorL a c++xorL b d:=by
 unfold xorL;rw[List.zipWith_append h]
theorem mac_aug{M D:List (List Int)}{C wd:Nat}(h:Shp M D C wd){k top:Nat}(hk:k<M.length)(ht:top<M.length)(c:Int):aug (macS M k top c) (macS D k top c)=macS (aug M D) k top c:=by
 unfold macS;rw[aug_set h.len,aug_get h.len,aug_get h.len,List.map_append,xorL_append (by rw[List.length_map,h.eM top ht,h.eM k hk])]
def el1(col top:Nat):Nat->List (List Int)->List (List Int)
 |0,A=>A
 |k+1,A=>let t:=el1 col top k A;if k≠top/\entry t k col≠0 then macS t k top (entry t k col)else t
theorem el1_aug{M D:List (List Int)}{C wd col top:Nat}(h:Shp M D C wd)(ht:top<M.length)(hc:col<C): ∀k,k<=M.length->el1 col top k (aug M D)=aug (elimTo col top k (M,D)).1 (elimTo col top k (M,D)).2
 |0,_=>rfl
 |k+1,hk=>by
  obtain⟨hT,hTl⟩:=elim_shp (col:=col) h ht k za;have ih:=el1_aug h ht hc k za;have e1:el1 col top (k+1) (aug M D)=(if k≠top/\entry (el1 col top k (aug M D)) k col≠0 then macS (el1 col top k (aug M D)) k top (entry (el1 col top k (aug M D)) k col)else el1 col top k (aug M D)):=rfl;have e2:elimTo col top (k+1) (M,D)=(if k≠top/\entry (elimTo col top k (M,D)).1 k col≠0 then(macS (elimTo col top k (M,D)).1 k top (entry (elimTo col top k (M,D)).1 k col),macS (elimTo col top k (M,D)).2 k top (entry (elimTo col top k (M,D)).1 k col))else elimTo col top k (M,D)):=rfl;rw[e1,e2,ih];generalize elimTo col top k (M,D)=T at*;rw[aug_entry hT.len (hT.eM k za) hc]
  split
  ·rw[<-mac_aug hT za za]
  ·rfl
theorem seek_aug{M D:List (List Int)}{C wd j:Nat}(h:Shp M D C wd)(hj:j<C): ∀f i,i+f<=M.length->seekCol (aug M D) j f i=seekCol M j f i
 |0,_,_=>rfl
 |f+1,i,hi=>by
  unfold seekCol;rw[aug_entry h.len (h.eM i za) hj,seek_aug h hj f (i+1) za]
def stepA(j:Nat)(s:List (List Int)×List Int):List (List Int)×List Int:=match firstIn s.1 s.2.length j with
 |none=>s
 |some i=>(el1 j s.2.length s.1.length (swapS (invT (entry s.1 i j)) s.1 s.2.length i),s.2++ [(j:Int)])
def redA(A:List (List Int)):Nat->List (List Int)×List Int
 |0=>(A,[])
 |j+1=>stepA j (redA A j)
theorem stepA_none{j:Nat}{s:List (List Int)×List Int}(h:firstIn s.1 s.2.length j=none):stepA j s=s:=by unfold stepA;rw[h]
theorem stepA_some{j i:Nat}{s:List (List Int)×List Int}(h:firstIn s.1 s.2.length j=some i):stepA j s=(el1 j s.2.length s.1.length (swapS (invT (entry s.1 i j)) s.1 s.2.length i),s.2++ [(j:Int)]):=by unfold stepA;rw[h]
theorem red_aug{M D:List (List Int)}{C wd:Nat}(h:Shp M D C wd): ∀j,j<=C->redA (aug M D) j=(aug (redTo M D j).1.1 (redTo M D j).1.2,(redTo M D j).2)
 |0,_=>rfl
 |j+1,hj=>by
  have hs:=red_shp h j;have ih:=red_aug h j za;show stepA j (redA (aug M D) j)=(aug (redStep j (redTo M D j)).1.1 (redStep j (redTo M D j)).1.2,(redStep j (redTo M D j)).2)
  rw[ih];generalize redTo M D j=T at*;obtain⟨hS,hSl,hp,_⟩:=hs;have hal:=aug_length hS.len;have hfi:firstIn (aug T.1.1 T.1.2) T.2.length j=firstIn T.1.1 T.2.length j:=by
   unfold firstIn;rw[hal,seek_aug hS za _ _ za]
  cases hf:firstIn T.1.1 T.2.length j with
  |none=>rw[redStep_none hf,stepA_none (hfi.trans hf)]
  |some i=>
   obtain⟨q1,q2,q3,_⟩:=seekCol_spec _ _ hf;rw[redStep_some hf,stepA_some (s:=(aug T.1.1 T.1.2,T.2)) (hfi.trans hf)];show(el1 j T.2.length (aug T.1.1 T.1.2).length (swapS (invT (entry (aug T.1.1 T.1.2) i j)) (aug T.1.1 T.1.2) T.2.length i),T.2++ [(j:Int)])=_;have hsh:=hS.swap (o:=invT (entry T.1.1 i j)) (by omega:T.2.length<_) (by omega:i<_);have hsl:(swapS (invT (entry T.1.1 i j)) T.1.1 T.2.length i).length=T.1.1.length:=by simp[swapS]
   rw[hal,aug_entry hS.len (hS.eM i za) za,<-swap_aug hS.len,el1_aug hsh za za _ za];rfl
structure Sh (A:List (List Int)) (W:Nat):Prop where
 u:U A W
 b:rowsB A=true
 m:A.length<=64
 w:W<=65
theorem Sh.set{A:List (List Int)}{W k:Nat}{r:List Int}(h:Sh A W)(hr:r.length=W)(hb:bytesB r=true):Sh (A.set k r) W:=by
 refine⟨h.u.set hr,?_,by rw[List.length_set];exact h.m,h.w⟩;have:=h.b;rw[rowsB,List.all_eq_true]at this⊢
 intro x hx;rcases List.mem_or_eq_of_mem_set hx with hx|rfl
 ·exact this x hx
 ·exact hb
theorem scale_bytes{o:Int}(ho:0<=o/\o<256){r:List Int}(h:bytesB r=true):bytesB (r.map (mulT o))=true:=by
 unfold bytesB;rw[List.all_eq_true];intro x hx;obtain⟨y,hy,rfl⟩:=List.mem_map.1 hx;unfold bytesB at h;rw[List.all_eq_true]at h
 have D:=h y hy;simp only[Bool.and_eq_true,decide_eq_true_eq]at D;have:=mulT_range ho D;simp;omega
theorem xorL_bytes{r s:List Int} :bytesB (xorL r s)=true:=by
 unfold bytesB xorL;rw[List.all_eq_true];intro x hx;obtain⟨i,hi,rfl⟩:=List.getElem_of_mem hx;rw[List.getElem_zipWith];have:=xor_range (r[i]'(by simp at hi;omega)) (s[i]'(by simp at hi;omega));simp;omega
theorem Sh.byte{A:List (List Int)}{W i j:Nat}(h:Sh A W)(hi:i<A.length)(hj:j<W):0<=entry A i j/\entry A i j<256:=bytesB_at (rows_bytes h.b i) (by rw[h.u.at hi];exact hj)
theorem Sh.swap{A:List (List Int)}{W top i:Nat}{o:Int}(h:Sh A W)(ho:0<=o/\o<256)(ht:top<A.length)(hi:i<A.length):Sh (swapS o A top i) W:=by
 unfold swapS;exact((h.set (h.u.at ht) (rows_bytes h.b top)).set (h.u.at hi) (rows_bytes h.b i)).set (by rw[List.length_map];exact h.u.at hi) (scale_bytes ho (rows_bytes h.b i))
theorem Sh.mac{A:List (List Int)}{W k top:Nat}(h:Sh A W)(hk:k<A.length)(ht:top<A.length)(c:Int):Sh (macS A k top c) W:=by
 unfold macS;refine h.set ?_ xorL_bytes;unfold xorL;rw[List.length_zipWith,List.length_map,h.u.at ht,h.u.at hk];omega
theorem Sh.el{A:List (List Int)}{W col top:Nat}(h:Sh A W)(ht:top<A.length): ∀k,k<=A.length->Sh (el1 col top k A) W/\(el1 col top k A).length=A.length
 |0,_=>⟨h,rfl⟩
 |k+1,hk=>by
  obtain⟨ih,il⟩:=Sh.el (col:=col) h ht k za;show Sh (if k≠top/\entry (el1 col top k A) k col≠0 then macS (el1 col top k A) k top (entry (el1 col top k A) k col)else el1 col top k A) W/\(if k≠top/\entry (el1 col top k A) k col≠0 then macS (el1 col top k A) k top (entry (el1 col top k A) k col)else el1 col top k A).length=A.length
  split
  ·exact⟨ih.mac za za _,by simp[macS,il]⟩
  ·exact⟨ih,il⟩
theorem Sh.red{A:List (List Int)}{W:Nat}(h:Sh A W): ∀j,j<=W->Sh (redA A j).1 W/\(redA A j).1.length=A.length/\(redA A j).2.length<=A.length/\(redA A j).2.length<=j
 |0,_=>⟨h,rfl,Nat.zero_le _,Nat.zero_le _⟩
 |j+1,hj=>by
  obtain⟨a,b,c,d⟩:=h.red j za;show Sh (stepA j (redA A j)).1 W/\(stepA j (redA A j)).1.length=A.length/\(stepA j (redA A j)).2.length<=A.length/\(stepA j (redA A j)).2.length<=j+1;generalize redA A j=T at*
  cases hf:firstIn T.1 T.2.length j with
  |none=>rw[stepA_none hf];exact⟨a,b,c,by omega⟩
  |some i=>
   rw[stepA_some hf];obtain⟨h1,h2,h3,_⟩:=seekCol_spec _ _ hf;have hi:i<T.1.length:=by omega
   have ht:T.2.length<T.1.length:=by omega
   have hb:=a.byte hi (by omega:j<W);have hs:=a.swap (invT_range hb h3) ht hi;have hsl:(swapS (invT (entry T.1 i j)) T.1 T.2.length i).length=T.1.length:=by simp[swapS]
   have he:=hs.el (col:=j) (top:=T.2.length) za T.1.length za;exact⟨he.1,by show(el1 _ _ _ _).length=_;rw[he.2,hsl,b],by rw[List.length_append];simp;omega,by rw[List.length_append];simp;omega⟩
theorem idx65{i c j:Nat}(hi:i<=64)(hc:c<=65)(hj:j<=65):wrap64 (wrap64 ((i:Int)*(c:Int))+(j:Int))=((i*c+j:Nat):Int):=by
 have hm:i*c<=64*65:=Nat.mul_le_mul hi hc;rw[<-Int.natCast_mul];generalize i*c=p at*;have e1:wrap64 (p:Int)=(p:Int):=w64 za za;rw[e1,w64 za za];omega
theorem map_getD{f:Int->Int}{l:List Int}{i:Nat}(h:i<l.length):(l.map f).getD i 0=f (l.getD i 0):=by
 rw[List.getD_eq_getElem?_getD,List.getD_eq_getElem?_getD,List.getElem?_map,List.getElem?_eq_getElem h];rfl
theorem At65{W i j:Nat}{A:List (List Int)}(h:Sh A W)(hi:i<A.length)(hj:j<W)(a:Int):recoupref03_At.f a (W:Int) A.flatten (i:Int) (j:Int)=some (entry A i j):=by
 have hl:=idx_lt hi hj;have h1:=h.m;have h2:=h.w;unfold recoupref03_At.f;rw[idx65 za h2 za,flat_len h.u,if_pos (Int.natCast_nonneg _),if_pos (Int.ofNat_lt.2 hl),rd_nat,flat_get h.u hi hj]
abbrev WR:=Int×Int×List Int×List Int
theorem Wide_l4{W:Nat}{A:List (List Int)}(h:Sh A W){top kk:Nat}(ht:top<A.length)(hk:kk<A.length)(hne:kk≠top){c:Int}(hcb:0<=c/\c<256)(x4:List Int)(x5:Int){R:WR}
 (hR:Ends (fun q=>recoupref04_wide.l3 q x4 x5 (top:Int) ((kk+1:Nat):Int) (A.length:Int) (W:Int) (A.set kk (xrow c (A.getD kk []) (A.getD top []))).flatten) R):
 ∀n l:Nat,l+n=W->Ends (fun q=>recoupref04_wide.l4 q x4 x5 (top:Int) (kk:Int) c (l:Int) (A.length:Int) (W:Int) (A.set kk ((xrow c (A.getD kk []) (A.getD top [])).take l++(A.getD kk []).drop l)).flatten) R
 |0,l,hl=>by
  obtain rfl:l=W:=by omega
  have hr:=h.u.at hk;have hs:=h.u.at ht;have hg:=xrow_length (c:=c) (hr.trans hs.symm);have h1:=h.m;refine Ends.succ (fun k=>by rw[recoupref04_wide.l4]) ?_;refine Ends.neg za ?_;refine Ends.succ (fun k=>by rw[recoupref04_wide.j5]) ?_;refine Ends.neg zb ?_;have e1:(xrow c (A.getD kk []) (A.getD top [])).take l=xrow c (A.getD kk []) (A.getD top []):=List.take_of_length_le (by rw[hg,hr];exact Nat.le_refl _);have e2:(A.getD kk []).drop l= []:=List.drop_of_length_le (by rw[hr];exact Nat.le_refl _);have I:kk<=4096:=by omega
  rw[e1,e2,List.append_nil,i64_succ I];exact hR
 |n+1,l,hl=>by
  have hr:=h.u.at hk;have hs:=h.u.at ht;have hg:=xrow_length (c:=c) (hr.trans hs.symm);have hlW:l<W:=by omega
  have h1:=h.m;have h2:=h.w;have D:kk<=64:=by omega
  have G:l<=65:=by omega
  have J:l<=4096:=by omega
  have hmid:((xrow c (A.getD kk []) (A.getD top [])).take l++(A.getD kk []).drop l).length=W:=by rw[List.length_append,List.length_take,List.length_drop];omega
  have hU:=h.u.set (k:=kk) hmid;have hlen:(A.set kk ((xrow c (A.getD kk []) (A.getD top [])).take l++(A.getD kk []).drop l)).length=A.length:=List.length_set;refine Ends.succ (fun k=>by rw[recoupref04_wide.l4]) ?_;refine Ends.pos za ?_;refine Ends.succ (fun k=>by rw[recoupref04_wide.j5]) ?_;refine Ends.pos (by rw[bne_iff_ne];omega) ?_;rw[idx65 D h2 G];refine Ends.pos (Int.natCast_nonneg _) ?_;have hix:=idx_lt (c:=W) hk hlW;refine Ends.pos za6 ?_;have hSet:Sh (A.set kk ((xrow c (A.getD kk []) (A.getD top [])).take l++(A.getD kk []).drop l)) W:=by
   refine h.set hmid ?_;have b1:=rows_bytes h.b kk;have b2:bytesB (xrow c (A.getD kk []) (A.getD top []))=true:=by rw[xrow_mac];exact xorL_bytes
   unfold bytesB at b1 b2⊢;rw[List.all_eq_true]at b1 b2⊢
   intro x hx;rcases List.mem_append.1 hx with hx|hx
   ·exact b2 x (List.mem_of_mem_take hx)
   ·exact b1 x (List.mem_of_mem_drop hx)
  have ha:=At65 hSet (i:=top) (j:=l) za hlW (A.length:Int);have e0:entry (A.set kk ((xrow c (A.getD kk []) (A.getD top [])).take l++(A.getD kk []).drop l)) top l=(A.getD top []).getD l 0:=by
   unfold entry;rw[getD_set_ne hne]
  rw[e0]at ha
  refine Ends.bind1 ha ?_;refine Ends.bind (mulT_ends hcb (bytesB_at (rows_bytes h.b top) za)) ?_;have e2:(A.set kk ((xrow c (A.getD kk []) (A.getD top [])).take l++(A.getD kk []).drop l)).flatten.set (((kk*W+l:Nat):Int)).toNat (Go.bits .xor .u8 (rd (A.set kk ((xrow c (A.getD kk []) (A.getD top [])).take l++(A.getD kk []).drop l)).flatten ((kk*W+l:Nat):Int)) (mulT c ((A.getD top []).getD l 0)))=(A.set kk ((xrow c (A.getD kk []) (A.getD top [])).take (l+1)++(A.getD kk []).drop (l+1))).flatten:=by
   rw[rd_nat,Int.toNat_natCast,flat_get hU za hlW,flat_set _ hU za hlW,getD_set_self hk,List.set_set];have e3:entry (A.set kk ((xrow c (A.getD kk []) (A.getD top [])).take l++(A.getD kk []).drop l)) kk l=(A.getD kk []).getD l 0:=by
    unfold entry;rw[getD_set_self hk,mid_get za za]
   rw[e3,<-xrow_get za za,mid_set za za]
  rw[e2,i64_succ J];exact Wide_l4 h ht hk hne hcb x4 x5 hR n (l+1) za
theorem Wide_l4_top{W:Nat}{x4:List Int}{x5 top a b c:Int}{L:List Int}{R:WR}(hR:Ends (fun q=>recoupref04_wide.l3 q x4 x5 top (wrap64 (top+1)) a b L) R)(l:Int):Ends (fun q=>recoupref04_wide.l4 q x4 x5 top top c l a b L) R:=by
 refine Ends.succ (fun k=>by rw[recoupref04_wide.l4]) ?_;have key: ∀z,z=false->Ends (fun q=>recoupref04_wide.j5 q x4 x5 top top c l z a b L) R:=fun z hz=>by
  subst hz;refine Ends.succ (fun k=>by rw[recoupref04_wide.j5]) ?_;exact Ends.neg zb hR
 by_cases hl:l<b
 ·exact Ends.pos hl (key _ zd)
 ·exact Ends.neg hl (key _ rfl)
theorem el1_top{col top:Nat}{A:List (List Int)} : ∀k,(el1 col top k A).getD top [] =A.getD top []
 |0=>rfl
 |k+1=>by
  show(if k≠top/\entry (el1 col top k A) k col≠0 then macS (el1 col top k A) k top (entry (el1 col top k A) k col)else el1 col top k A).getD top [] =_
  split
  ·rename_i hh
   unfold macS;rw[getD_set_ne hh.1];exact el1_top k
  ·exact el1_top k
theorem Wide_l3{W:Nat}{S:List (List Int)}(h:Sh S W){top j:Nat}(ht:top<S.length)(hj:j<W)(x4:List Int)(h6:x4.length<=64){R:WR}
 (hR:Ends (fun q=>recoupref04_wide.l0 q (x4++ [(j:Int)]) ((j+1:Nat):Int) (S.length:Int) (W:Int) (el1 j top S.length S).flatten) R):
 ∀n k:Nat,k+n=S.length->Ends (fun q=>recoupref04_wide.l3 q x4 (j:Int) (top:Int) (k:Int) (S.length:Int) (W:Int) (el1 j top k S).flatten) R
 |0,k,hk=>by
  obtain rfl:k=S.length:=by omega
  have h2:=h.w;have D:j<=4096:=by omega
  refine Ends.succ (fun k=>by rw[recoupref04_wide.l3]) ?_;refine Ends.neg za (Ends.pos za ?_);rw[i64_succ D];exact hR
 |n+1,k,hk=>by
  have hkS:k<S.length:=by omega
  obtain⟨hT,hTl⟩:=h.el (col:=j) ht k za;have hm:=h.m;have ih:=Wide_l3 h ht hj x4 h6 hR n (k+1) za;have G:k<=4096:=by omega
  have hst:=el1_top (col:=j) (top:=top) (A:=S) k;have hEx:el1 j top (k+1) S=(if k≠top/\entry (el1 j top k S) k j≠0 then macS (el1 j top k S) k top (entry (el1 j top k S) k j)else el1 j top k S):=rfl;rw[hEx]at ih
  refine Ends.succ (fun k=>by rw[recoupref04_wide.l3]) ?_;refine Ends.pos za ?_;generalize el1 j top k S=T at*;have ha:=At65 hT (i:=k) (j:=j) za hj (S.length:Int);refine Ends.bind1 ha ?_;by_cases e:k=top
  ·rw[if_neg (fun hh=>hh.1 e)]at ih
   subst e;refine Wide_l4_top (W:=W) ?_ _;rw[i64_succ G];exact ih
  ·have hcb:=hT.byte (i:=k) (j:=j) za hj;have h0:=Wide_l4 hT (top:=top) (kk:=k) za za e hcb x4 (j:Int) (R:=R) ?_ W 0 za
   ·rw[List.take_zero,List.nil_append,List.drop_zero,set_getD_self za,hTl]at h0
    exact h0
   ·rw[hTl];by_cases e0:entry T k j=0
    ·rw[if_neg (fun hh=>hh.2 e0)]at ih
     rw[e0,xrow_zero (rows_bytes hT.b k) (by rw[hT.u.at za,hT.u.at za]),set_getD_self za];exact ih
    ·rw[if_pos ⟨e,e0⟩]at ih
     unfold macS at ih;rw[xrow_mac];exact ih
def midW(A:List (List Int))(top i:Nat)(d:Int)(l:Nat):List (List Int):=
 (A.set i ((A.getD top []).take l++(A.getD i []).drop l)).set top (((A.getD i []).map (mulT d)).take l++(A.getD top []).drop l)
theorem midW_zero{A:List (List Int)}{top i:Nat}(d:Int)(ht:top<A.length)(hi:i<A.length):midW A top i d 0=A:=by
 unfold midW;rw[List.take_zero,List.nil_append,List.drop_zero,List.take_zero,List.nil_append,List.drop_zero,set_getD_self hi,set_getD_self ht]
theorem midW_full{A:List (List Int)}{W top i:Nat}(d:Int)(h:Sh A W)(ht:top<A.length)(hi:i<A.length):midW A top i d W=swapS d A top i:=by
 have h1:=h.u.at ht;have h2:=h.u.at hi;unfold midW swapS;rw[List.take_of_length_le za,List.drop_of_length_le (l:=A.getD i []) za,List.append_nil,List.take_of_length_le zp,List.drop_of_length_le za,List.append_nil,List.set_set]
theorem bytesB_append{a b:List Int}(h:bytesB a=true)(k:bytesB b=true):bytesB (a++b)=true:=by
 unfold bytesB at*;rw[List.all_append,h,k];rfl
theorem bytesB_take{a:List Int}(h:bytesB a=true)(n:Nat):bytesB (a.take n)=true:=by
 have:=bytesB_sub h 0 n
 rwa [List.drop_zero]at this
theorem bytesB_drop{a:List Int}(h:bytesB a=true)(n:Nat):bytesB (a.drop n)=true:=by
 have:=bytesB_sub h n a.length
 rwa [List.take_of_length_le (by rw[List.length_drop];omega)]at this
theorem midW_sh{A:List (List Int)}{W top i:Nat}{d:Int}(hd:0<=d/\d<256)(h:Sh A W)(ht:top<A.length)(hi:i<A.length)(l:Nat):Sh (midW A top i d l) W:=by
 have h1:=h.u.at ht;have h2:=h.u.at hi;unfold midW;refine(h.set ?_ (bytesB_append (bytesB_take (rows_bytes h.b top) _) (bytesB_drop (rows_bytes h.b i) _))).set ?_ (bytesB_append (bytesB_take (scale_bytes hd (rows_bytes h.b i)) _) (bytesB_drop (rows_bytes h.b top) _))
 ·rw[List.length_append,List.length_take,List.length_drop];omega
 ·rw[List.length_append,List.length_take,List.length_drop,List.length_map];omega
theorem midW_top{A:List (List Int)}{W top i l:Nat}{d:Int}(h:Sh A W)(ht:top<A.length)(hi:i<A.length)(hl:l<W):entry (midW A top i d l) top l=entry A top l:=by
 have h1:=h.u.at ht;have h2:=h.u.at hi;unfold midW entry;rw[getD_set_self (by rw[List.length_set];exact ht),mid_get zp zp]
theorem midW_i{A:List (List Int)}{W top i l:Nat}{d:Int}(h:Sh A W)(ht:top<A.length)(hi:i<A.length)(hl:l<W):entry (midW A top i d l) i l=entry A i l:=by
 by_cases e:top=i
 ·subst e;exact midW_top h ht ht hl
 ·have h1:=h.u.at ht;have h2:=h.u.at hi;unfold midW entry;rw[getD_set_ne e,getD_set_self hi,mid_get za za]
theorem midW_succ{A:List (List Int)}{W top i l:Nat}{d:Int}(h:Sh A W)(ht:top<A.length)(hi:i<A.length)(hl:l<W):
 ((midW A top i d l).set i (((midW A top i d l).getD i []).set l (entry A top l))).set top ((((midW A top i d l).set i (((midW A top i d l).getD i []).set l (entry A top l))).getD top []).set l (mulT d (entry A i l)))=midW A top i d (l+1):=by
 have h1:=h.u.at ht;have h2:=h.u.at hi;have hm:mulT d (entry A i l)=((A.getD i []).map (mulT d)).getD l 0:=(map_getD za).symm;have D: ∀X:List Int,top<(A.set i X).length:=fun X=>by rw[List.length_set];exact ht
 by_cases e:top=i
 ·subst e;unfold midW;simp only[List.set_set,getD_set_self ht];rw[hm,mid_set zp zd]
 ·unfold midW;rw[getD_set_ne e,getD_set_self hi,getD_set_ne (fun x=>e x.symm),getD_set_self (D _),hm,mid_set zp zp];have e4:((A.getD top []).take l++(A.getD i []).drop l).set l (entry A top l)=(A.getD top []).take (l+1)++(A.getD i []).drop (l+1):=mid_set za za;rw[e4,List.set_comm _ _ e,List.set_set,List.set_set]
theorem Wide_l2{W:Nat}{A:List (List Int)}(h:Sh A W){top i j:Nat}(ht:top<A.length)(hi:i<A.length)(hj:j<W){d:Int}(hd:0<=d/\d<256)(x4:List Int)(h6:x4.length<=64){R:WR}
 (hR:Ends (fun q=>recoupref04_wide.l3 q x4 (j:Int) (top:Int) 0 (A.length:Int) (W:Int) (swapS d A top i).flatten) R):
 ∀n l:Nat,l+n=W->Ends (fun q=>recoupref04_wide.l2 q x4 (j:Int) (top:Int) (i:Int) d (l:Int) (A.length:Int) (W:Int) (midW A top i d l).flatten) R
 |0,l,hl=>by
  obtain rfl:l=W:=by omega
  refine Ends.succ (fun k=>by rw[recoupref04_wide.l2]) ?_;refine Ends.neg za ?_;rw[midW_full d h ht hi];exact hR
 |n+1,l,hl=>by
  have hlW:l<W:=by omega
  have h1:=h.m;have h2:=h.w;have I:top<=64:=by omega
  have G:i<=64:=by omega
  have D:l<=65:=by omega
  have J:l<=4096:=by omega
  have ih:=Wide_l2 h ht hi hj hd x4 h6 hR n (l+1) za;rw[<-midW_succ h ht hi hlW]at ih
  have hS:=midW_sh hd h ht hi l;have hlen:(midW A top i d l).length=A.length:=by simp[midW]
  have a1:=At65 hS (i:=top) (j:=l) za hlW (A.length:Int);have a2:=At65 hS (i:=i) (j:=l) za hlW (A.length:Int);rw[midW_top h ht hi hlW]at a1
  rw[midW_i h ht hi hlW]at a2
  have hib:=h.byte hi hlW;generalize midW A top i d l=T at*;refine Ends.succ (fun k=>by rw[recoupref04_wide.l2]) ?_;refine Ends.pos za ?_;refine Ends.bind1 a1 ?_;refine Ends.bind1 a2 ?_;rw[idx65 G h2 D,idx65 I h2 D];have hix:=idx_lt (c:=W) hi hlW;have htx:=idx_lt (c:=W) ht hlW;refine Ends.pos (Int.natCast_nonneg _) ?_;refine Ends.pos (by rw[flat_len hS.u,hlen];exact Int.ofNat_lt.2 hix) ?_;refine Ends.bind (mulT_ends hd hib) ?_;refine Ends.pos (Int.natCast_nonneg _) ?_;refine Ends.pos (by rw[flat_len hS.u,hlen];exact Int.ofNat_lt.2 htx) ?_;rw[Int.toNat_natCast,Int.toNat_natCast,flat_set _ hS.u za hlW,flat_set _ (hS.u.set (by rw[List.length_set];exact hS.u.at za)) zw hlW,i64_succ J];exact ih
theorem Wide_l1{W:Nat}{S:List (List Int)}(h:Sh S W){j:Nat}(hj:j<W)(x4:List Int)(h6:x4.length<S.length∨x4.length<=64){R:WR}
 (h0:firstIn S x4.length j=none->Ends (fun q=>recoupref04_wide.l0 q x4 ((j+1:Nat):Int) (S.length:Int) (W:Int) S.flatten) R)
 (h1: ∀i,firstIn S x4.length j=some i->Ends (fun q=>recoupref04_wide.l2 q x4 (j:Int) (x4.length:Int) (i:Int) (invT (entry S i j)) 0 (S.length:Int) (W:Int) S.flatten) R):
 ∀n i:Nat,i+n=S.length->firstIn S x4.length j=seekCol S j n i->
  Ends (fun q=>recoupref04_wide.l1 q x4 (j:Int) (x4.length:Int) (i:Int) (S.length:Int) (W:Int) S.flatten) R
 |0,i,hi,he=>by
  have h2:=h.w;have G:j<=4096:=by omega
  refine Ends.succ (fun k=>by rw[recoupref04_wide.l1]) ?_;refine Ends.neg za ?_;rw[i64_succ G];exact h0 he
 |n+1,i,hi,he=>by
  have h2:=h.m;have D:i<=4096:=by omega
  refine Ends.succ (fun k=>by rw[recoupref04_wide.l1]) ?_;refine Ends.pos za ?_;refine Ends.bind1 (At65 h za hj _) ?_;unfold seekCol at he;by_cases e:entry S i j=0
  ·rw[if_neg (fun x=>x e)]at he
   refine Ends.pos e ?_;rw[i64_succ D];exact Wide_l1 h hj x4 h6 h0 h1 n (i+1) za he
  ·rw[if_pos e]at he
   refine Ends.neg e ?_;refine Ends.bind (Inv_ends (h.byte za hj) e) ?_;exact h1 i he
theorem Wide_l0{W:Nat}{A:List (List Int)}(h:Sh A W): ∀n j:Nat,j+n=W->
 Ends (fun q=>recoupref04_wide.l0 q (redA A j).2 (j:Int) (A.length:Int) (W:Int) (redA A j).1.flatten) ((A.length:Int),(W:Int),(redA A W).1.flatten,(redA A W).2)
 |0,j,hj=>by
  obtain rfl:j=W:=by omega
  refine Ends.succ (fun k=>by rw[recoupref04_wide.l0]) ?_;exact Ends.neg za (Ends.const rfl)
 |n+1,j,hj=>by
  have hs:=h.red j za;have ih:=Wide_l0 h n (j+1) za;have hm:=h.m;have hE:redA A (j+1)=stepA j (redA A j):=rfl;rw[hE]at ih
  obtain⟨hS,hSl,hp,_⟩:=hs;refine Ends.succ (fun k=>by rw[recoupref04_wide.l0]) ?_;refine Ends.pos za ?_;generalize hT:redA A j=T at*;have h1:=Wide_l1 hS (j:=j) za T.2 (.inr za) (R:=((A.length:Int),(W:Int),(redA A W).1.flatten,(redA A W).2)) ?_ ?_ (T.1.length-T.2.length) T.2.length za rfl
  ·rw[hSl]at h1
   exact h1
  ·intro hf;rw[stepA_none hf]at ih
   rw[hSl];exact ih
  ·intro i hf;rw[stepA_some hf]at ih
   obtain⟨q1,q2,q3,_⟩:=seekCol_spec _ _ hf;have hb:=hS.byte (i:=i) (j:=j) za za;have hsw:=hS.swap (top:=T.2.length) (i:=i) (invT_range hb q3) za za;have hsl:(swapS (invT (entry T.1 i j)) T.1 T.2.length i).length=T.1.length:=by simp[swapS]
   have h3:=Wide_l3 hsw (top:=T.2.length) (j:=j) za za T.2 za (R:=((A.length:Int),(W:Int),(redA A W).1.flatten,(redA A W).2)) (by rw[hsl,hSl];rw[hSl]at ih;exact ih) T.1.length 0 za;rw[hsl]at h3
   have h2:=Wide_l2 hS (top:=T.2.length) (i:=i) (j:=j) za za za (invT_range hb q3) T.2 za h3 W 0 za;rw[midW_zero _ za za]at h2
   exact h2
theorem wide_ends{W:Nat}{A:List (List Int)}(h:Sh A W):Ends (fun k=>recoupref04_wide.f k (A.length:Int) (W:Int) A.flatten) ((A.length:Int),(W:Int),(redA A W).1.flatten,(redA A W).2):=by
 unfold recoupref04_wide.f;exact Wide_l0 h W 0 za
theorem red_piv{M D:List (List Int)} : ∀j,∀x∈(redTo M D j).2,∃p:Nat,x=(p:Int)/\p<j
 |0,x,hx=>by cases hx
 |j+1,x,hx=>by
  have G:x∈(redStep j (redTo M D j)).2:=hx;have ih:=red_piv (M:=M) (D:=D) j x;generalize redTo M D j=T at*
  cases hf:firstIn T.1.1 T.2.length j with
  |none=>
   rw[redStep_none hf]at G
   obtain⟨p,e,h⟩:=ih G;exact⟨p,e,by omega⟩
  |some i=>
   rw[redStep_some hf]at G
   rcases List.mem_append.1 G with h|h
   ·obtain⟨p,e,h⟩:=ih h;exact⟨p,e,by omega⟩
   ·exact⟨j,by simpa using h,by omega⟩
theorem red_piv_at{M D:List (List Int)}{j i:Nat}(hi:i<(redTo M D j).2.length): ∃p:Nat,(redTo M D j).2.getD i 0=(p:Int)/\p<j:=by
 refine red_piv (M:=M) (D:=D) j _ ?_;rw[List.getD_eq_getElem?_getD,List.getElem?_eq_getElem hi];exact List.getElem_mem hi
theorem fill_length(f:Nat->List Int)(n i:Nat):(fillTo f n i).length=n:=by simp[fillTo]
theorem fill_get{f:Nat->List Int}{n k:Nat}(hk:k<n):(fillTo f n n).getD k [] =f k:=by
 unfold fillTo;rw[List.getD_eq_getElem?_getD,List.getElem?_map,List.getElem?_range hk];simp[hk]
def Ycol(y:List Int)(r:Nat):List (List Int):=fillTo (colRow y) r r
theorem shp_Y{r c:Nat}{l y:List Int}(hb:bytesB l=true)(hyb:bytesB y=true)(hl:l.length=r*c)(hr:r<=64)(hc:c<=64)(hy:y.length=r):Shp (rowsOf c r l) (Ycol y r) c 1:=by
 refine shp_of hb hl ⟨hr,hc⟩ (fill_length _ _ _) ?_ (fun i hi=>by show((fillTo (colRow y) r r).getD i []).length=1;rw[fill_get hi];rfl) zb;rw[rowsB,List.all_eq_true];intro x hx;obtain⟨i,hi,rfl⟩:=List.getElem_of_mem hx;have hir:i<r:=by rw[show(fillTo (colRow y) r r).length=r from fill_length _ _ _]at hi;exact hi
 have:=fill_get (f:=colRow y) hir;rw[List.getD_eq_getElem?_getD,List.getElem?_eq_getElem (by rw[fill_length];exact hir),Option.getD_some]at this
 rw[this];have hb:=bytesB_at hyb (i:=i) za;unfold colRow bytesB;rw[List.all_cons,List.all_nil,Bool.and_true,Bool.and_eq_true,decide_eq_true_eq,decide_eq_true_eq];exact hb
theorem take_flat_succ{M:List (List Int)}{i:Nat}(hi:i<M.length):(M.take (i+1)).flatten=(M.take i).flatten++M.getD i []:=by
 rw[List.take_succ_eq_append_getElem hi,List.flatten_append,List.getD_eq_getElem?_getD,List.getElem?_eq_getElem hi];simp
abbrev SR:=List Int×Bool×Int
theorem Solve_l0{r c:Nat}{M:List (List Int)}{y:List Int}(h:Shp M (Ycol y r) c 1)(hMr:M.length=r)(hy:y.length=r){R:SR}
 (hR:Ends (fun q=>(recoupref04_wide.f q (r:Int) ((c+1:Nat):Int) (aug M (Ycol y r)).flatten).bind fun D=>(if 0<=(c:Int)then(if((c:Int):Int).toNat<=281474976710656 then(recoupref04_Solve.l1 q D.2.2.2 (List.replicate ((c:Int):Int).toNat 0) 0 (r:Int) (c:Int) M.flatten D.1 D.2.1 D.2.2.1)else(none))else(none))) R):
 ∀n i:Nat,i+n=r->Ends (fun q=>recoupref04_Solve.l0 q y (i:Int) (r:Int) (c:Int) M.flatten (r:Int) ((c+1:Nat):Int) ((aug M (Ycol y r)).take i).flatten) R
 |0,i,hi=>by
  obtain rfl:i=r:=by omega
  refine Ends.succ (fun k=>by rw[recoupref04_Solve.l0]) ?_;refine Ends.neg za ?_;rw[List.take_of_length_le (by rw[aug_length h.len];omega)];exact hR
 |n+1,i,hi=>by
  have hir:i<r:=by omega
  have hm:=h.small.1;have hc:=h.small.2.1;have G:i<=4096:=by omega
  have hal:=aug_length h.len;refine Ends.succ (fun k=>by rw[recoupref04_Solve.l0]) ?_;refine Ends.pos za ?_;have hrow:=Row_ends (U.of h) za hc (i:=i) za;rw[hMr]at hrow
  refine Ends.bind hrow ?_;have htl:((aug M (Ycol y r)).take i).flatten.length=i*(c+1):=by
   have hu:U ((aug M (Ycol y r)).take i) (c+1):=fun x hx=>aug_U h x (List.mem_of_mem_take hx);rw[flat_len hu,List.length_take,Nat.min_eq_left za]
  have hic:i*(c+1)<=64*65:=Nat.mul_le_mul za za;have hrl:=h.eM i za;refine Ends.pos (by rw[htl,hrl];omega) ?_;refine Ends.bind1 rfl ?_;refine Ends.pos za ?_;refine Ends.pos za ?_;refine Ends.bind1 rfl ?_;refine Ends.pos (by rw[List.length_append,htl,hrl,List.length_singleton];omega) ?_;have e1:((aug M (Ycol y r)).take i).flatten++M.getD i []++ [rd y (i:Int)] =((aug M (Ycol y r)).take (i+1)).flatten:=by
   rw[take_flat_succ za,aug_get h.len,List.append_assoc]
   congr 2
   unfold Ycol;rw[fill_get hir,rd_nat];rfl
  rw[e1,i64_succ G];exact Solve_l0 h hMr hy hR n (i+1) za
theorem bad_iff{P:List Int}{D:List (List Int)} : ∀f i,badFrom P D f i=true↔ ∃i',i<=i'/\i'<i+f/\P.length<=i'/\entry D i' 0≠0
 |0,i=>by
  constructor
  ·intro h;cases h
  ·rintro⟨i',h1,h2,_⟩;omega
 |f+1,i=>by
  unfold badFrom;by_cases h:P.length<=i/\entry D i 0≠0
  ·rw[if_pos h];exact⟨fun _=>⟨i,Nat.le_refl _,by omega,h.1,h.2⟩,fun _=>rfl⟩
  rw[if_neg h,bad_iff f (i+1)];constructor
  ·rintro⟨i',h1,h2,h3,h4⟩;exact⟨i',by omega,by omega,h3,h4⟩
  ·rintro⟨i',h1,h2,h3,h4⟩;by_cases e:i'=i
   case neg=>exact⟨i',by omega,by omega,h3,h4⟩
   subst e;exact absurd ⟨h3,h4⟩ h
theorem seek_zero{M:List (List Int)}{j:Nat} : ∀f i,seekCol M j f i=none-> ∀i',i<=i'->i'<i+f->entry M i' j=0
 |0,i,_,i',a,b=>by omega
 |f+1,i,h,i',a,b=>by
  unfold seekCol at h;by_cases e:entry M i j=0
  case neg=>
   rw[if_pos e]at h;cases h
  rw[if_neg (fun x=>x e)]at h
  by_cases e2:i'=i
  case neg=>exact seek_zero f (i+1) h i' za za
  rw[e2];exact e
theorem solveTo_length(P:List Int)(D:List (List Int))(c:Nat): ∀i,(solveTo P D c i).length=c
 |0=>by simp[solveTo]
 |i+1=>by
  unfold solveTo
  split
  ·rw[List.length_set];exact solveTo_length P D c i
  ·exact solveTo_length P D c i
theorem solveTo_more{P:List Int}{D:List (List Int)}{c i:Nat}(h:P.length<=i):solveTo P D c i=solveTo P D c P.length:=by
 obtain⟨d,rfl⟩: ∃d,i=P.length+d:=⟨i-P.length,by omega⟩
 clear h
 induction d with
 |zero=>rfl
 |succ d ih=>
  rw[show P.length+(d+1)=(P.length+d)+1 from rfl,solveTo,if_neg za];exact ih
theorem Solve_l1{c:Nat}{T D A:List (List Int)}{P:List Int}(hA:Sh A (c+1))(hP:P.length<=A.length)(hpv: ∀i,i<P.length-> ∃p:Nat,P.getD i 0=(p:Int)/\p<c)(hD: ∀i,i<A.length->entry A i c=entry D i 0)(a:Int)(L:List Int):
 ∀n i:Nat,i+n=P.length->Ends (fun q=>recoupref04_Solve.l1 q P (solveTo P D c i) (i:Int) a (c:Int) L (A.length:Int) ((c+1:Nat):Int) A.flatten) (solveTo P D c P.length,true,0)
 |0,i,hi=>by
  obtain rfl:i=P.length:=by omega
  refine Ends.succ (fun k=>by rw[recoupref04_Solve.l1]) ?_;exact Ends.neg za (Ends.const rfl)
 |n+1,i,hi=>by
  have hiP:i<P.length:=by omega
  have hm:=hA.m;have G:i<=4096:=by omega
  obtain⟨p,hp,hpc⟩:=hpv i hiP;have ih:=Solve_l1 (T:=T) hA hP hpv hD a L n (i+1) za;rw[solveTo,if_pos hiP,hp,Int.toNat_natCast]at ih
  refine Ends.succ (fun k=>by rw[recoupref04_Solve.l1]) ?_;refine Ends.pos za (Ends.pos za ?_);rw[rd_nat,hp];refine Ends.neg za ?_;have ha:=At65 hA (i:=i) (j:=c) za za (A.length:Int);refine Ends.bind1 ha ?_;refine Ends.pos za (Ends.pos (by rw[solveTo_length];omega) ?_);rw[hD i za,i64_succ G,Int.toNat_natCast];exact ih
theorem Solve_l1_bad{c:Nat}{A:List (List Int)}{P:List Int}(hA:Sh A (c+1))(hP:P.length<A.length)(hpv: ∀i,i<P.length-> ∃p:Nat,P.getD i 0=(p:Int)/\p<c)(a:Int)(L:List Int):
 ∀(n i:Nat) (out:List Int),i+n=P.length->out.length=c->Ends (fun q=>recoupref04_Solve.l1 q (P++ [(c:Int)]) out (i:Int) a (c:Int) L (A.length:Int) ((c+1:Nat):Int) A.flatten) ([],false,0)
 |0,i,out,hi,ho=>by
  obtain rfl:i=P.length:=by omega
  have e:rd (P++ [(c:Int)]) (P.length:Int)=(c:Int):=by rw[rd_nat,List.getD_eq_getElem?_getD,List.getElem?_append_right (Nat.le_refl _),Nat.sub_self];rfl
  refine Ends.succ (fun k=>by rw[recoupref04_Solve.l1]) ?_;refine Ends.pos za4 (Ends.pos za ?_);rw[e];exact Ends.pos rfl (Ends.const rfl)
 |n+1,i,out,hi,ho=>by
  have hiP:i<P.length:=by omega
  have hm:=hA.m;have D:i<=4096:=by omega
  obtain⟨p,hp,hpc⟩:=hpv i hiP;have e:rd (P++ [(c:Int)]) (i:Int)=(p:Int):=by rw[rd_nat,List.getD_eq_getElem?_getD,List.getElem?_append_left hiP,<-List.getD_eq_getElem?_getD,hp]
  refine Ends.succ (fun k=>by rw[recoupref04_Solve.l1]) ?_;refine Ends.pos za4 (Ends.pos za ?_);rw[e];refine Ends.neg za ?_;have ha:=At65 hA (i:=i) (j:=c) za za (A.length:Int);refine Ends.bind1 ha ?_;refine Ends.pos za (Ends.pos za ?_);rw[i64_succ D];exact Solve_l1_bad hA hP hpv a L n (i+1) _ za (by rw[List.length_set];exact ho)
def solR(r c:Nat)(l y:List Int):SR:=let T:=redTo (rowsOf c r l) (Ycol y r) c
 if badFrom T.2 T.1.2 r 0=true then([],false,0)else(solveTo T.2 T.1.2 c r,true,0)
theorem Sh.aug{M D:List (List Int)}{C:Nat}(h:Shp M D C 1):Sh (aug M D) (C+1):=⟨aug_U h,aug_bytes h,by rw[aug_length h.len];exact h.small.1,by have:=h.small.2.1;omega⟩
theorem Solve_ends{r c:Nat}{l y:List Int}(hr:r<=64)(hc:c<=64)(hl:l.length=r*c)(hb:bytesB l=true)(hy:y.length=r)(hyb:bytesB y=true):Ends (fun k=>recoupref04_Solve.f k (r:Int) (c:Int) l y) (solR r c l y):=by
 have hf:=flat_rowsOf r l hl;have hlen:=rowsOf_length c r l;have hS:=shp_Y hb hyb hl hr hc hy;have h1:=Right_true hf.2 za hc;rw[hf.1,hlen]at h1
 unfold recoupref04_Solve.f;refine Ends.bind1 h1 (Ends.pos rfl ?_);refine Ends.succ (fun k=>by rw[recoupref04_Solve.j0]) ?_;refine Ends.neg (by simp[hy]) ?_;have G:c<=4096:=by omega
 rw[i64_succ G];have h0:=Solve_l0 hS hlen hy (R:=solR r c l y) ?_ r 0 za
 ·rw[List.take_zero,hf.1]at h0
  exact h0
 ·have hW:=wide_ends (Sh.aug hS);have hal:=aug_length hS.len;rw[hal,hlen]at hW
  refine Ends.bind hW ?_;refine Ends.pos za (Ends.pos zaa ?_);rw[Int.toNat_natCast];have hglue:=red_aug hS c (Nat.le_refl _);have hT:=red_shp hS c;have hpv: ∀i,i<(redTo (rowsOf c r l) (Ycol y r) c).2.length-> ∃p:Nat,(redTo (rowsOf c r l) (Ycol y r) c).2.getD i 0=(p:Int)/\p<c:=fun i hi=>red_piv_at hi;have hE:redA (aug (rowsOf c r l) (Ycol y r)) (c+1)=stepA c (redA (aug (rowsOf c r l) (Ycol y r)) c):=rfl;have hred:=(Sh.aug hS).red (c+1) (Nat.le_refl _);rw[hE,hglue]at hred⊢
  unfold solR;generalize redTo (rowsOf c r l) (Ycol y r) c=T at*;obtain⟨hTs,hTl,hTp,_⟩:=hT;have I:=aug_length hTs.len;have hent: ∀i,i<T.1.1.length->entry (aug T.1.1 T.1.2) i c=entry T.1.2 i 0:=fun i hi=>by
   have:=aug_entry_right (j:=0) hTs.len (hTs.eM i hi)
   rwa [Nat.add_zero]at this
  cases hfi:firstIn (aug T.1.1 T.1.2) T.2.length c with
  |none=>
   rw[stepA_none (s:=(aug T.1.1 T.1.2,T.2)) hfi]at hred⊢
   have hz:=seek_zero _ _ hfi;have hbad: ¬badFrom T.2 T.1.2 r 0=true:=by
    rw[bad_iff];rintro⟨i',_,h2,h3,h4⟩;refine h4 ?_;rw[<-hent i' za];exact hz i' h3 za
   simp only[];rw[if_neg hbad,solveTo_more (i:=r) za];have h2:=Solve_l1 (T:= []) (D:=T.1.2) hred.1 (P:=T.2) (by show _<=(aug T.1.1 T.1.2).length;omega) hpv (fun i hi=>hent i (by have hi':i<(aug T.1.1 T.1.2).length:=hi;omega)) (r:Int) (rowsOf c r l).flatten T.2.length 0 za;have e1:((aug T.1.1 T.1.2).length:Int)=(r:Int):=by omega
   rw[show solveTo T.2 T.1.2 c 0=List.replicate c 0 from rfl]at h2
   have h3:(((aug T.1.1 T.1.2,T.2):List (List Int)×List Int).1.length:Int)=(r:Int):=e1;rw[h3]at h2
   exact h2
  |some i=>
   obtain⟨q1,q2,q3,_⟩:=seekCol_spec _ _ hfi;rw[stepA_some (s:=(aug T.1.1 T.1.2,T.2)) hfi]at hred⊢
   have hbad:badFrom T.2 T.1.2 r 0=true:=by
    rw[bad_iff];refine⟨i,by omega,by omega,q1,?_⟩;rw[<-hent i za];exact q3
   simp only[];rw[if_pos hbad];have e1:=hred.2.1;have h2:=Solve_l1_bad hred.1 (P:=T.2) (by rw[e1];omega) hpv (r:Int) (rowsOf c r l).flatten T.2.length 0 (List.replicate c 0) za zd;rw[e1,hal,hlen]at h2
   exact h2
theorem gSolve_eq{r c:Nat}{l y:List Int}(hR:matrix_Right.f (r:Int) (c:Int) l=some true)(hb:bytesB l=true)(hy:y.length=r)(hyb:bytesB y=true):gauss_Solve.f (r:Int) (c:Int) l y=some (solR r c l y):=by
 unfold gauss_Solve.f;rw[hR,Option.bind_some,if_pos rfl,if_pos za,if_pos ⟨hb,hyb⟩];unfold solR gauss_Solve.st Ycol;simp only[Int.toNat_natCast]
 split<;>rfl
theorem solR_err(r c:Nat)(l y:List Int):(solR r c l y).2.2=0:=by
 unfold solR;simp only[]
 split<;>rfl
theorem solR_len(r c:Nat)(l y:List Int)(h:(solR r c l y).2.1=true):(solR r c l y).1.length=c:=by
 unfold solR at h⊢;simp only[]at h⊢
 split
 ·rename_i e
  rw[if_pos e]at h;cases h
 ·exact solveTo_length _ _ _ _
theorem entry_set{A:List (List Int)}{i a b:Nat}{r:List Int}(hi:i<A.length):entry (A.set i r) a b=if a=i then r.getD b 0 else entry A a b:=by
 unfold entry;by_cases e:a=i
 case neg=>rw[if_neg e,getD_set_ne (fun x=>e x.symm)]
 subst e;rw[if_pos rfl,getD_set_self hi]
theorem xor_getD{r s:List Int}{b:Nat}(h1:b<r.length)(h2:b<s.length):(xorL r s).getD b 0=Go.bits .xor .u8 (r.getD b 0) (s.getD b 0):=by
 unfold xorL;rw[List.getD_eq_getElem?_getD,List.getD_eq_getElem?_getD,List.getD_eq_getElem?_getD,List.getElem?_zipWith,List.getElem?_eq_getElem h1,List.getElem?_eq_getElem h2];rfl
theorem entry_swap{A:List (List Int)}{W top i a b:Nat}{o:Int}(h:Sh A W)(ht:top<A.length)(hi:i<A.length)(hb:b<W):entry (swapS o A top i) a b=if a=top then mulT o (entry A i b)else if a=i then entry A top b else entry A a b:=by
 unfold swapS;have h2:=h.u.at hi;rw[entry_set zx,map_getD za,entry_set zx,entry_set hi];by_cases e:a=top
 case neg=>rw[if_neg e,if_neg e,if_neg e];rfl
 rw[if_pos e,if_pos e];rfl
theorem entry_mac{A:List (List Int)}{W top k a b:Nat}{c:Int}(h:Sh A W)(ht:top<A.length)(hk:k<A.length)(hb:b<W):entry (macS A k top c) a b=if a=k then Go.bits .xor .u8 (mulT c (entry A top b)) (entry A k b)else entry A a b:=by
 unfold macS;have h1:=h.u.at ht;have h2:=h.u.at hk;rw[entry_set hk,xor_getD zp za,map_getD za];rfl
theorem Sh.of1{M D:List (List Int)}{C wd:Nat}(h:Shp M D C wd):Sh M C:=⟨U.of h,h.bM,h.small.1,by have:=h.small.2.1;omega⟩
theorem Sh.of2{M D:List (List Int)}{C wd:Nat}(h:Shp M D C wd):Sh D wd:=⟨fun r hr=>by
 obtain⟨i,hi,rfl⟩:=List.getElem_of_mem hr;have:=h.eD i (by rw[<-h.len];exact hi)
 rwa [List.getD_eq_getElem?_getD,List.getElem?_eq_getElem hi,Option.getD_some]at this,h.bD,by rw[h.len];exact h.small.1,by have:=h.small.2.2;omega⟩
theorem elim_fst(col top:Nat)(M D:List (List Int)): ∀k,(elimTo col top k (M,D)).1=el1 col top k M
 |0=>rfl
 |k+1=>by
  have ih:=elim_fst col top M D k;show(if k≠top/\entry (elimTo col top k (M,D)).1 k col≠0 then(macS (elimTo col top k (M,D)).1 k top (entry (elimTo col top k (M,D)).1 k col),macS (elimTo col top k (M,D)).2 k top (entry (elimTo col top k (M,D)).1 k col))else elimTo col top k (M,D)).1=(if k≠top/\entry (el1 col top k M) k col≠0 then macS (el1 col top k M) k top (entry (el1 col top k M) k col)else el1 col top k M)
  rw[<-ih]
  split<;>rfl
theorem red_fst(M D:List (List Int)): ∀j,((redTo M D j).1.1,(redTo M D j).2)=redA M j
 |0=>rfl
 |j+1=>by
  have ih:=red_fst M D j;show((redStep j (redTo M D j)).1.1,(redStep j (redTo M D j)).2)=stepA j (redA M j);rw[<-ih];generalize redTo M D j=T
  cases hf:firstIn T.1.1 T.2.length j with
  |none=>rw[redStep_none hf,stepA_none (s:=(T.1.1,T.2)) hf]
  |some i=>
   rw[redStep_some hf,stepA_some (s:=(T.1.1,T.2)) hf];show((elimTo j T.2.length T.1.1.length (_,_)).1,_)=_;rw[elim_fst]
end Go.Proofs.YtjgcocfnilhggaaDoor.M
namespace Go.Proofs.YtjgcocfnilhggaaDoor.M
abbrev Vec:=Nat->El
def zv:Vec:=fun _=>0
def lc(b:Nat->Vec)(n:Nat)(x:Nat->El):Vec:=fun j=>sm n (fun i=>x i*b i j)
def Span(b:Nat->Vec)(n:Nat)(v:Vec):Prop:= ∃x:Nat->El,v=lc b n x
def Indep(b:Nat->Vec)(n:Nat):Prop:= ∀x:Nat->El,lc b n x=zv-> ∀i,i<n->x i=0
theorem lc_congr{b c:Nat->Vec}{n:Nat}{x y:Nat->El}(h: ∀i,i<n->b i=c i)(k: ∀i,i<n->x i=y i):lc b n x=lc c n y:=
 funext fun j=>sm_congr fun i hi=>by rw[h i hi,k i hi]
theorem lc_add(b:Nat->Vec)(n:Nat)(x y:Nat->El):lc b n (fun i=>x i+y i)=fun j=>lc b n x j+lc b n y j:=by
 funext j
 unfold lc;rw[<-sm_add];exact sm_congr fun i _=>add_mul _ _ _
theorem lc_mul(b:Nat->Vec)(n:Nat)(a:El)(x:Nat->El):lc b n (fun i=>a*x i)=fun j=>a*lc b n x j:=by
 funext j
 unfold lc;rw[<-sm_mul];exact sm_congr fun i _=>mul_assoc _ _ _
theorem lc_zero(b:Nat->Vec)(n:Nat):lc b n (fun _=>0)=zv:=funext fun j=>sm_zero fun i _=>zero_mul _
theorem lc_unit(b:Nat->Vec){n k:Nat}(hk:k<n):lc b n (fun i=>if i=k then 1 else 0)=b k:=by
 funext j
 show sm n (fun i=>(if i=k then 1 else 0)*b i j)=b k j;rw[sm_one hk (fun i _ hne=>by rw[if_neg hne,zero_mul]),if_pos rfl,one_mul]
theorem lc_lc(b u:Nat->Vec)(n m:Nat)(x:Nat->El)(a:Nat->Nat->El)(h: ∀i,i<m->u i=lc b n (a i)):lc u m x=lc b n (fun k=>sm m (fun i=>x i*a i k)):=by
 funext j
 unfold lc;have e:sm m (fun i=>x i*u i j)=sm m (fun i=>sm n (fun k=>x i*a i k*b k j)):=sm_congr fun i hi=>by
  rw[h i hi];unfold lc;rw[<-sm_mul];exact sm_congr fun k _=>(mul_assoc _ _ _).symm
 rw[e,sm_swap];exact sm_congr fun k _=>sm_mul_right _ _ _
theorem span_mem(b:Nat->Vec){n k:Nat}(hk:k<n):Span b n (b k):=⟨_,(lc_unit b hk).symm⟩
theorem span_zero(b:Nat->Vec)(n:Nat):Span b n zv:=⟨_,(lc_zero b n).symm⟩
theorem span_add{b:Nat->Vec}{n:Nat}{u v:Vec}(h:Span b n u)(k:Span b n v):Span b n (fun j=>u j+v j):=by
 obtain⟨x,rfl⟩:=h;obtain⟨y,rfl⟩:=k;exact⟨_,(lc_add b n x y).symm⟩
theorem span_mul{b:Nat->Vec}{n:Nat}{u:Vec}(a:El)(h:Span b n u):Span b n (fun j=>a*u j):=by
 obtain⟨x,rfl⟩:=h;exact⟨_,(lc_mul b n a x).symm⟩
theorem span_lc{b u:Nat->Vec}{n m:Nat}(h: ∀i,i<m->Span b n (u i))(x:Nat->El):Span b n (lc u m x):=by
 have h': ∀i,∃a:Nat->El,i<m->u i=lc b n a:=fun i=>by
  by_cases hi:i<m
  case neg=>exact⟨fun _=>0,fun e=>absurd e hi⟩
  obtain⟨a,ha⟩:=h i hi;exact⟨a,fun _=>ha⟩
 obtain⟨a,ha⟩:=Classical.axiomOfChoice h';exact⟨_,lc_lc b u n m x a ha⟩
theorem span_trans{b u:Nat->Vec}{n m:Nat}{v:Vec}(h: ∀i,i<m->Span b n (u i))(k:Span u m v):Span b n v:=by
 obtain⟨x,rfl⟩:=k;exact span_lc h x
def skip(p i:Nat):Nat:=if i<p then i else i+1
theorem unskip(p i:Nat):(if skip p i<p then skip p i else skip p i-1)=i:=by
 unfold skip;by_cases h:i<p
 ·rw[if_pos h,if_pos h]
 rw[if_neg h,if_neg za];omega
theorem sm_succ_left(f:Nat->El)(n:Nat):sm (n+1) f=f 0+sm n (fun i=>f (i+1)):=by
 rw[Nat.add_comm n 1,sm_split];have:sm 1 f=f 0:=zero_add _;rw[this]
 congr 1
 exact sm_congr fun i _=>by rw[Nat.add_comm]
theorem sm_skip(f:Nat->El)(n p:Nat)(h:p<=n):sm (n+1) f=f p+sm n (fun i=>f (skip p i)):=by
 obtain⟨d,rfl⟩: ∃d,n=p+d:=⟨n-p,by omega⟩
 rw[show p+d+1=p+(d+1)from by omega,sm_split f p (d+1),sm_split (fun i=>f (skip p i)) p d,sm_succ_left (fun i=>f (p+i)) d];have e1:sm p (fun i=>f (skip p i))=sm p f:=sm_congr fun i hi=>by unfold skip;rw[if_pos hi]
 have e2:sm d (fun i=>f (skip p (p+i)))=sm d (fun i=>f (p+(i+1))):=sm_congr fun i _=>by unfold skip;rw[if_neg za];rfl
 rw[e1,e2,Nat.add_zero]
 ac_rfl
theorem hom: ∀(n m:Nat),n<m-> ∀a:Nat->Nat->El,∃x:Nat->El,(∃i,i<m/\x i≠0)/\ ∀k,k<n->sm m (fun i=>x i*a i k)=0
 |0,m,h,a=>⟨fun _=>1,⟨0,h,one_ne_zero⟩,fun k hk=>by omega⟩
 |n+1,m,h,a=>by
  by_cases hz: ∀i,i<m->a i n=0
  ·obtain⟨x,hx,he⟩:=hom n m za a;refine⟨x,hx,fun k hk=>?_⟩;by_cases e:k=n
   case neg=>exact he k za
   subst e;exact sm_zero fun i hi=>by rw[hz i hi,mul_zero]
  obtain⟨p,hp,hpn⟩: ∃p,p<m/\a p n≠0:=Classical.byContradiction fun hc=>hz fun i hi=>Classical.byContradiction fun hne=>hc ⟨i,hi,hne⟩;obtain⟨m',rfl⟩: ∃m',m=m'+1:=⟨m-1,by omega⟩
  obtain⟨x,⟨i0,G,D⟩,he⟩:=hom n m' za (fun i k=>a (skip p i) k+a (skip p i) n*((a p n).inv*a p k));have hsk: ∀i,skip p i≠p:=fun i=>by unfold skip;split<;>omega
  refine⟨fun j=>if j=p then(a p n).inv*sm m' (fun i=>x i*a (skip p i) n)else x (if j<p then j else j-1),⟨skip p i0,by unfold skip;split<;>omega,?_⟩,fun k hk=>?_⟩
  ·show(if skip p i0=p then _ else _)≠0;rw[if_neg (hsk i0)];have:(if skip p i0<p then skip p i0 else skip p i0-1)=i0:=unskip p i0;rw[this];exact D
  ·rw[sm_skip _ m' p za];have e1:sm m' (fun i=>(if skip p i=p then(a p n).inv*sm m' (fun i=>x i*a (skip p i) n)else x (if skip p i<p then skip p i else skip p i-1))*a (skip p i) k)=sm m' (fun i=>x i*a (skip p i) k):=sm_congr fun i _=>by
    have:(if skip p i<p then skip p i else skip p i-1)=i:=unskip p i;rw[if_neg (hsk i),this]
   rw[e1];show(if p=p then(a p n).inv*sm m' (fun i=>x i*a (skip p i) n)else _)*a p k+_=0;rw[if_pos rfl];by_cases e:k=n
   ·subst e;rw[mul_comm,<-mul_assoc,mul_inv hpn,one_mul,add_self]
   have h2:=he k za;have e2:sm m' (fun i=>x i*(a (skip p i) k+a (skip p i) n*((a p n).inv*a p k)))=sm m' (fun i=>x i*a (skip p i) k)+sm m' (fun i=>x i*a (skip p i) n)*((a p n).inv*a p k):=by
    rw[<-sm_mul_right,<-sm_add];exact sm_congr fun i _=>by rw[mul_add,mul_assoc]
   rw[e2]at h2
   rw[<-h2,add_comm]
   congr 1
   ac_rfl
theorem steinitz{v u:Nat->Vec}{m n:Nat}(hi:Indep v m)(hs: ∀i,i<m->Span u n (v i)):m<=n:=by
 apply Classical.byContradiction;intro hlt;have h': ∀i,∃a:Nat->El,i<m->v i=lc u n a:=fun i=>by
  by_cases h:i<m
  case neg=>exact⟨fun _=>0,fun e=>absurd e h⟩
  obtain⟨a,ha⟩:=hs i h;exact⟨a,fun _=>ha⟩
 obtain⟨a,ha⟩:=Classical.axiomOfChoice h';obtain⟨x,⟨i,him,hx⟩,he⟩:=hom n m za a;refine hx (hi x ?_ i him);rw[lc_lc u v n m x a ha,<-lc_zero u n];exact lc_congr (fun _ _=>rfl) he
def snoc(b:Nat->Vec)(n:Nat)(v:Vec):Nat->Vec:=fun i=>if i<n then b i else v
theorem snoc_lt{b:Nat->Vec}{n:Nat}{v:Vec}{i:Nat}(h:i<n):snoc b n v i=b i:=if_pos h
theorem snoc_at(b:Nat->Vec)(n:Nat)(v:Vec):snoc b n v n=v:=if_neg (Nat.lt_irrefl n)
theorem lc_snoc(b:Nat->Vec)(n:Nat)(v:Vec)(x:Nat->El):lc (snoc b n v) (n+1) x=fun j=>lc b n x j+x n*v j:=by
 funext j
 show sm n (fun i=>x i*snoc b n v i j)+x n*snoc b n v n j=_;rw[snoc_at]
 congr 1
 exact sm_congr fun i hi=>by rw[snoc_lt hi]
theorem indep_snoc{b:Nat->Vec}{n:Nat}{v:Vec}(h:Indep b n)(hv: ¬Span b n v):Indep (snoc b n v) (n+1):=by
 intro x hx i hi;rw[lc_snoc]at hx
 have hn:x n=0:=by
  apply Classical.byContradiction;intro hne;apply hv;refine⟨fun i=>(x n).inv*x i,?_⟩;rw[lc_mul]
  funext j
  have:=congrFun hx j;have e:x n*v j=lc b n x j:=by
   have h2:lc b n x j+x n*v j=0:=this;rw[add_comm]at h2
   exact add_cancel h2
  show v j=(x n).inv*lc b n x j;rw[<-e,<-mul_assoc,inv_mul hne,one_mul]
 by_cases e:i=n
 ·rw[e,hn]
 refine h x ?_ i za;rw[<-hx]
 funext j
 show _=lc b n x j+x n*v j;rw[hn,zero_mul,add_zero]
theorem indep_zero(b:Nat->Vec):Indep b 0:=fun x _ i hi=>by omega
theorem extend{P:Vec->Prop}{u:Nat->Vec}{m:Nat}(hP: ∀v,P v->Span u m v): ∀(d:Nat) (b:Nat->Vec) (n:Nat),m-n<=d->Indep b n->(∀i,i<n->P (b i))->
 ∃b' n',n<=n'/\(∀i,i<n->b' i=b i)/\Indep b' n'/\(∀i,i<n'->P (b' i))/\ ∀v,P v->Span b' n' v
 |d,b,n,hd,hi,hb=>by
  by_cases hall: ∀v,P v->Span b n v
  ·exact⟨b,n,Nat.le_refl _,fun _ _=>rfl,hi,hb,hall⟩
  obtain⟨v,hv,hns⟩: ∃v,P v/\ ¬Span b n v:=Classical.byContradiction fun hc=>hall fun v hv=>Classical.byContradiction fun hne=>hc ⟨v,hv,hne⟩;have G:=indep_snoc hi hns;have D: ∀i,i<n+1->P (snoc b n v i):=fun i h=>by
   by_cases e:i<n
   ·rw[snoc_lt e];exact hb i e
   obtain rfl:i=n:=by omega
   rw[snoc_at];exact hv
  have hle:=steinitz G fun i h=>hP _ (D i h)
  match d with
  |0=>omega
  |d+1=>
   obtain⟨b',n',h1,h2,h3⟩:=extend hP d (snoc b n v) (n+1) za G D;exact⟨b',n',by omega,fun i h=>by rw[h2 i za,snoc_lt h],h3⟩
def Dim(P:Vec->Prop)(n:Nat):Prop:= ∃b,Indep b n/\(∀i,i<n->P (b i))/\ ∀v,P v->Span b n v
theorem dim_le{P Q:Vec->Prop}{m n:Nat}(hP:Dim P m)(hQ:Dim Q n)(h: ∀v,P v->Q v):m<=n:=by
 obtain⟨b,b1,b2,b3⟩:=hP;obtain⟨c,c1,c2,c3⟩:=hQ;exact steinitz b1 fun i hi=>c3 _ (h _ (b2 i hi))
theorem dim_unique{P:Vec->Prop}{m n:Nat}(h:Dim P m)(k:Dim P n):m=n:=Nat.le_antisymm (dim_le h k fun _ h=>h) (dim_le k h fun _ h=>h)
theorem dim_exists{P:Vec->Prop}{u:Nat->Vec}{m:Nat}(hP: ∀v,P v->Span u m v): ∃n,n<=m/\Dim P n:=by
 obtain⟨b,n,_,_,h3,h4,h5⟩:=extend hP m (fun _=>zv) 0 za (indep_zero _) (fun i h=>by omega);exact⟨n,steinitz h3 fun i h=>hP _ (h4 i h),b,h3,h4,h5⟩
theorem dim_congr{P Q:Vec->Prop}{n:Nat}(h: ∀v,P v↔Q v)(k:Dim P n):Dim Q n:=by
 obtain⟨b,b1,b2,b3⟩:=k;exact⟨b,b1,fun i hi=>(h _).1 (b2 i hi),fun v hv=>b3 v ((h v).2 hv)⟩
theorem dim_full{P:Vec->Prop}{n:Nat}(h:Dim P n){b:Nat->Vec}(hi:Indep b n)(hb: ∀i,i<n->P (b i)): ∀v,P v->Span b n v:=by
 intro v hv;apply Classical.byContradiction;intro hns;obtain⟨c,c1,c2,c3⟩:=h;have:=steinitz (indep_snoc hi hns) (u:=c) (n:=n) fun i hlt=>by
  by_cases e:i<n
  ·rw[snoc_lt e];exact c3 _ (hb i e)
  obtain rfl:i=n:=by omega
  rw[snoc_at];exact c3 _ hv
 omega
structure RR (n W t:Nat) (S:Nat->Vec) (p:Nat->Nat):Prop where
 tn:t<=n
 lt: ∀i,i<t->p i<W
 mono: ∀i k,i<k->k<t->p i<p k
 one: ∀i,i<t-> ∀a,a<n->S a (p i)=if a=i then 1 else 0
 low: ∀a,t<=a->a<n->S a=zv
 lead: ∀i,i<t-> ∀b,b<p i->S i b=0
 sup: ∀a,a<n-> ∀b,W<=b->S a b=0
section
variable {n W t:Nat} {S:Nat->Vec} {p:Nat->Nat}
theorem lc_low(hl: ∀a,t<=a->a<n->S a=zv)(ht:t<=n)(x:Nat->El):lc S n x=lc S t x:=by
 funext j
 exact sm_take ht fun i h1 h2=>by rw[hl i h1 h2];exact mul_zero _
theorem RR.at_piv(h:RR n W t S p)(x:Nat->El){i:Nat}(hi:i<t):lc S n x (p i)=x i:=by
 have htn:=h.tn;show sm n (fun a=>x a*S a (p i))=x i;rw[sm_one (k:=i) za fun a ha hne=>by rw[h.one i hi a ha,if_neg hne,mul_zero]];rw[h.one i hi i za,if_pos rfl,mul_one]
theorem RR.coord(h:RR n W t S p){v:Vec}(hv:Span S n v):v=lc S t (fun i=>v (p i)):=by
 obtain⟨x,rfl⟩:=hv;have:lc S n x=lc S t x:=lc_low h.low h.tn x;rw[this];refine lc_congr (fun _ _=>rfl) fun i hi=>?_;rw[<-this];exact(h.at_piv x hi).symm
theorem RR.indep(h:RR n W t S p):Indep S t:=by
 intro x hx i hi;have e:lc S n (fun a=>if a<t then x a else 0)=zv:=by
  rw[lc_low h.low h.tn,<-hx];exact lc_congr (fun _ _=>rfl) fun a ha=>if_pos ha
 have:=h.at_piv (fun a=>if a<t then x a else 0) hi;rw[e,if_pos hi]at this
 exact this.symm
theorem RR.dim(h:RR n W t S p):Dim (Span S n) t:=⟨S,h.indep,fun i hi=>span_mem S (by have:=h.tn;omega),fun v hv=>⟨_,h.coord hv⟩⟩
end
def dot(W:Nat)(r x:Vec):El:=sm W (fun b=>r b*x b)
theorem dot_lc(W:Nat)(b:Nat->Vec)(n:Nat)(y:Nat->El)(x:Vec):dot W (lc b n y) x=sm n (fun i=>y i*dot W (b i) x):=by
 unfold dot lc;have e:sm W (fun j=>sm n (fun i=>y i*b i j)*x j)=sm W (fun j=>sm n (fun i=>y i*(b i j*x j))):=sm_congr fun j _=>by
  rw[<-sm_mul_right];exact sm_congr fun i _=>mul_assoc _ _ _
 rw[e,<-sm_swap];exact sm_congr fun i _=>by rw[sm_mul]
theorem dot_add(W:Nat)(r x y:Vec):dot W r (fun j=>x j+y j)=dot W r x+dot W r y:=by
 unfold dot;rw[<-sm_add];exact sm_congr fun _ _=>mul_add _ _ _
def Ker(W n:Nat)(b:Nat->Vec)(x:Vec):Prop:= ∀i,i<n->dot W (b i) x=0
theorem ker_span{W n m:Nat}{b c:Nat->Vec}{x:Vec}(h: ∀i,i<m->Span b n (c i))(k:Ker W n b x):Ker W m c x:=fun i hi=>by
 obtain⟨y,e⟩:=h i hi;rw[e,dot_lc];exact sm_zero fun a ha=>by rw[k a ha,mul_zero]
theorem ker_same{W n m:Nat}{b c:Nat->Vec}{x:Vec}(h: ∀v,Span b n v↔Span c m v):Ker W n b x↔Ker W m c x:=
 ⟨ker_span fun i hi=>(h _).2 (span_mem c hi),ker_span fun i hi=>(h _).1 (span_mem b hi)⟩
section
variable {n W t:Nat} {S:Nat->Vec} {p:Nat->Nat}
def RR.kv(S:Nat->Vec)(p:Nat->Nat)(t b:Nat):Vec:=fun j=>(if j=b then 1 else 0)+sm t (fun i=>if j=p i then S i b else 0)
theorem RR.dot_piv(h:RR n W t S p){x:Vec}(hx: ∀j,j<W->(∀i,i<t->j≠p i)->x j=0){a:Nat}(ha:a<t):dot W (S a) x=x (p a):=by
 have htn:=h.tn;unfold dot;rw[sm_one (k:=p a) (h.lt a ha) fun j hj hne=>?_]
 ·rw[h.one a ha a za,if_pos rfl,one_mul]
 ·by_cases e: ∃i,i<t/\j=p i
  ·obtain⟨i,hi,rfl⟩:=e;rw[h.one i hi a za,if_neg (fun e=>hne (by rw[e])),zero_mul]
  ·rw[hx j hj fun i hi e2=>e ⟨i,hi,e2⟩,mul_zero]
theorem RR.inj(h:RR n W t S p){i k:Nat}(hi:i<t)(hk:k<t)(e:p i=p k):i=k:=by
 rcases Nat.lt_trichotomy i k with h1|h1|h1
 ·have:=h.mono i k h1 hk;omega
 ·exact h1
 ·have:=h.mono k i h1 hi;omega
theorem RR.kv_ker(h:RR n W t S p){b:Nat}(hbW:b<W)(hb: ∀i,i<t->b≠p i):Ker W n S (RR.kv S p t b):=fun a ha=>by
 by_cases hat:a<t
 ·have e:RR.kv S p t b=fun j=>(if j=b then 1 else 0)+sm t (fun i=>if j=p i then S i b else 0):=rfl;rw[e,dot_add];have e1:dot W (S a) (fun j=>if j=b then 1 else 0)=S a b:=by
   show sm W (fun j=>S a j*(if j=b then 1 else 0))=S a b;rw[sm_one (k:=b) hbW fun j hj hne=>by rw[if_neg hne,mul_zero],if_pos rfl,mul_one]
  have e2:=h.dot_piv (x:=fun j=>sm t (fun i=>if j=p i then S i b else 0)) (fun j hj hn=>sm_zero fun i hi=>if_neg (hn i hi)) hat;rw[e1,e2];show S a b+sm t (fun i=>if p a=p i then S i b else 0)=0;rw[sm_one (k:=a) hat fun k hk hne=>if_neg fun e=>hne (h.inj hat hk e).symm,if_pos rfl,add_self]
 ·rw[h.low a za ha];exact sm_zero fun j _=>zero_mul _
theorem RR.ker_at(h:RR n W t S p){x:Vec}(hx:Ker W n S x){a:Nat}(ha:a<t):x (p a)=sm W (fun j=>if∃i,i<t/\j=p i then 0 else S a j*x j):=by
 have htn:=h.tn;have e:=hx a za;unfold dot at e;have e1:sm W (fun b=>S a b*x b)=sm W (fun j=>(if∃i,i<t/\j=p i then S a j*x j else 0)+(if∃i,i<t/\j=p i then 0 else S a j*x j)):=sm_congr fun j _=>by
  split
  ·rw[add_zero]
  ·rw[zero_add]
 rw[e1,sm_add]at e
 have e2:sm W (fun j=>if∃i,i<t/\j=p i then S a j*x j else 0)=x (p a):=by
  rw[sm_one (k:=p a) (h.lt a ha) fun j hj hne=>?_]
  ·rw[if_pos ⟨a,ha,rfl⟩,h.one a ha a za,if_pos rfl,one_mul]
  ·split
   ·rename_i hh
    obtain⟨i,hi,rfl⟩:=hh;rw[h.one i hi a za,if_neg (fun e=>hne (by rw[e])),zero_mul]
   ·rfl
 rw[e2]at e
 exact add_cancel e
theorem RR.ker_zero(h:RR n W t S p){x:Vec}(hx:Ker W n S x)(h0: ∀j,j<W->(∀i,i<t->j≠p i)->x j=0): ∀j,j<W->x j=0:=fun j hj=>by
 by_cases e: ∃i,i<t/\j=p i
 ·obtain⟨i,hi,rfl⟩:=e;rw[h.ker_at hx hi];refine sm_zero fun k hk=>?_
  split
  ·rfl
  ·rename_i hh
   rw[h0 k hk fun i hi e=>hh ⟨i,hi,e⟩,mul_zero]
 ·exact h0 j hj fun i hi e2=>e ⟨i,hi,e2⟩
end
def col(n:Nat)(N:Nat->Vec)(b:Nat):Vec:=fun a=>if a<n then N a b else 0
theorem lc_col{n W:Nat}{N:Nat->Vec}{x:Nat->El} :lc (col n N) W x=fun a=>if a<n then dot W (N a) x else 0:=by
 funext a
 unfold lc col dot
 split
 ·exact sm_congr fun i _=>mul_comm _ _
 ·exact sm_zero fun i _=>mul_zero _
theorem col_zero{n W:Nat}{N:Nat->Vec}{x:Nat->El} :lc (col n N) W x=zv↔Ker W n N x:=by
 rw[lc_col];constructor
 ·intro h a ha;have:=congrFun h a
  rwa [if_pos ha]at this
 ·intro h
  funext a
  split
  ·rename_i ha;exact h a ha
  ·rfl
section
variable {n W t:Nat} {S N:Nat->Vec} {p:Nat->Nat}
theorem RR.col_indep(h:RR n W t S p)(hs: ∀v,Span N n v↔Span S n v){k:Nat}(hk:k<=t):Indep (fun i=>col n N (p i)) k:=by
 intro x hx i hi;have e:lc (col n N) W (fun j=>sm k (fun i=>if j=p i then x i else 0))=lc (fun i=>col n N (p i)) k x:=by
  rw[show(fun j=>sm k (fun i=>if j=p i then x i else 0))=fun j=>sm k (fun i=>x i*(if j=p i then 1 else 0))from funext fun j=>sm_congr fun i _=>by split<;>simp only[mul_one,mul_zero]];refine(lc_lc (col n N) (fun i=>col n N (p i)) W k x (fun i j=>if j=p i then 1 else 0) fun i hi=>(lc_unit (col n N) (h.lt i za)).symm).symm
 rw[hx,col_zero,ker_same hs]at e
 have h0:=h.ker_zero e (fun j hj hn=>sm_zero fun i hi=>if_neg (hn i za));have hit:i<t:=by omega
 have h1:=e i (by have:=h.tn;omega);have h2:=h.dot_piv (x:=fun j=>sm k (fun i=>if j=p i then x i else 0)) (fun j hj hn=>sm_zero fun i hi=>if_neg (hn i za)) hit;rw[h1]at h2
 have h3:sm k (fun i'=>if p i=p i' then x i' else 0)=x i:=by
  rw[sm_one (k:=i) hi fun k' hk' hne=>if_neg fun e=>hne (h.inj hit za e).symm,if_pos rfl]
 rw[<-h3];exact h2.symm
def below(p:Nat->Nat)(b:Nat):Nat->Nat
 |0=>0
 |t+1=>below p b t+if p t<b then 1 else 0
theorem below_le(p:Nat->Nat)(b:Nat): ∀t,below p b t<=t
 |0=>Nat.le_refl _
 |t+1=>by
  have:=below_le p b t;unfold below
  split<;>omega
theorem below_iff{p:Nat->Nat}{b t:Nat}(m: ∀i k,i<k->k<t->p i<p k): ∀i,i<t->(i<below p b t↔p i<b):=by
 induction t with
 |zero=>intro i hi;omega
 |succ t ih=>
  have ih:=ih fun i k a c=>m i k a za;intro i hi;have hle:=below_le p b t;unfold below;by_cases e:i=t
  ·subst e;by_cases h:p i<b
   ·rw[if_pos h];have:below p b i=i:=by
     rcases Nat.lt_or_ge (below p b i) i with h1|h1
     ·have h2:=(ih (below p b i) h1)
      have h3:=m (below p b i) i h1 za;have:=h2.2 za;omega
     ·omega
    exact⟨fun _=>h,fun _=>by omega⟩
   ·rw[if_neg h];exact⟨fun x=>absurd x za,fun x=>absurd x h⟩
  ·have h1:=ih i za;by_cases h:p t<b
   ·rw[if_pos h];have h3:=m i t za za;have:=h1.2 za;exact⟨fun _=>by omega,fun _=>by omega⟩
   ·rw[if_neg h,Nat.add_zero];exact h1
theorem RR.col_span(h:RR n W t S p)(hs: ∀v,Span N n v↔Span S n v){b c:Nat}(hb:b<W)(hbc:b<c):Span (fun i=>col n N (p i)) (below p c t) (col n N b):=by
 by_cases e: ∃i,i<t/\b=p i
 ·obtain⟨i,hi,rfl⟩:=e;exact span_mem (fun i=>col n N (p i)) ((below_iff h.mono i hi).2 hbc)
 ·have D: ∀i,i<t->b≠p i:=fun i hi e2=>e ⟨i,hi,e2⟩;have hk:lc (col n N) W (RR.kv S p t b)=zv:=by rw[col_zero,ker_same hs];exact h.kv_ker hb D
  have e1:RR.kv S p t b=fun j=>(if j=b then 1 else 0)+sm t (fun i=>if j=p i then S i b else 0):=rfl;rw[e1,lc_add]at hk
  refine⟨fun i=>S i b,?_⟩;have e2:lc (col n N) W (fun j=>sm t (fun i=>if j=p i then S i b else 0))=lc (fun i=>col n N (p i)) t (fun i=>S i b):=by
   rw[show(fun j=>sm t (fun i=>if j=p i then S i b else 0))=fun j=>sm t (fun i=>S i b*(if j=p i then 1 else 0))from funext fun j=>sm_congr fun i _=>by split<;>simp only[mul_one,mul_zero]];exact(lc_lc (col n N) (fun i=>col n N (p i)) W t (fun i=>S i b) (fun i j=>if j=p i then 1 else 0) fun i hi=>(lc_unit (col n N) (h.lt i hi)).symm).symm
  have e3:lc (fun i=>col n N (p i)) t (fun i=>S i b)=lc (fun i=>col n N (p i)) (below p c t) (fun i=>S i b):=by
   funext a
   refine sm_take (below_le p c t) fun i h1 h2=>?_;have: ¬p i<c:=fun h3=>by have:=(below_iff h.mono i h2).2 h3;omega
   show S i b*_=0;rw[h.lead i h2 b za,zero_mul]
  funext a
  have e4:=congrFun hk a;rw[lc_unit (col n N) hb,e2,e3]at e4
  exact add_cancel e4
theorem RR.col_dim(h:RR n W t S p)(hs: ∀v,Span N n v↔Span S n v){c:Nat}(hc:c<=W):Dim (Span (col n N) c) (below p c t):=by
 refine⟨fun i=>col n N (p i),h.col_indep hs (below_le p c t),fun i hi=>?_,fun v hv=>span_trans (fun b hb=>h.col_span hs za hb) hv⟩;have hit:i<t:=Nat.lt_of_lt_of_le hi (below_le p c t);exact span_mem (col n N) ((below_iff h.mono i hit).1 hi)
end
end Go.Proofs.YtjgcocfnilhggaaDoor.M
namespace Go.Proofs.YtjgcocfnilhggaaDoor.M
open RowKit YtjgcocfnilhggaaDoorW.PrintWords YtjgcocfnilhggaaDoorW.PrintLast YtjgcocfnilhggaaDoorW.PrintMore Q
def mv(A:List (List Int))(W:Nat):Nat->Vec:=fun i j=>if j<W then toE (entry A i j)else 0
theorem mv_at{A:List (List Int)}{W i j:Nat}(h:j<W):mv A W i j=toE (entry A i j):=if_pos h
theorem mv_out{A:List (List Int)}{W i j:Nat}(h: ¬j<W):mv A W i j=0:=if_neg h
theorem invT_mul{a:Int}(h:0<=a/\a<256)(h0:a≠0):toE (invT a)*toE a=1:=by rw[invT_el h h0,inv_mul (toE_ne h h0)]
theorem invT_ne{a:Int}(h:0<=a/\a<256)(h0:a≠0):toE (invT a)≠0:=by rw[invT_el h h0];exact inv_ne (toE_ne h h0)
theorem mv_swap{A:List (List Int)}{W top i:Nat}{o:Int}(h:Sh A W)(ho:0<=o/\o<256)(ht:top<A.length)(hi:i<A.length)(a:Nat):mv (swapS o A top i) W a=if a=top then(fun b=>toE o*mv A W i b)else if a=i then mv A W top else mv A W a:=by
 funext b
 by_cases hb:b<W
 case neg=>
  rw[mv_out hb];by_cases e1:a=top
  ·rw[if_pos e1,mv_out hb,mul_zero]
  rw[if_neg e1];by_cases e2:a=i
  case neg=>rw[if_neg e2,mv_out hb]
  rw[if_pos e2,mv_out hb]
 rw[mv_at hb,entry_swap h ht hi hb];by_cases e1:a=top
 ·rw[if_pos e1,if_pos e1,mv_at hb,mulT_el ho (h.byte hi hb)]
 rw[if_neg e1,if_neg e1];by_cases e2:a=i
 case neg=>rw[if_neg e2,if_neg e2,mv_at hb]
 rw[if_pos e2,if_pos e2,mv_at hb]
theorem mv_mac{A:List (List Int)}{W top k:Nat}{c:Int}(h:Sh A W)(hc:0<=c/\c<256)(ht:top<A.length)(hk:k<A.length)(a:Nat):mv (macS A k top c) W a=if a=k then(fun b=>toE c*mv A W top b+mv A W k b)else mv A W a:=by
 funext b
 by_cases hb:b<W
 case neg=>
  rw[mv_out hb];by_cases e1:a=k
  case neg=>rw[if_neg e1,mv_out hb]
  rw[if_pos e1,mv_out hb,mv_out hb,mul_zero,add_zero]
 rw[mv_at hb,entry_mac h ht hk hb];by_cases e1:a=k
 case neg=>rw[if_neg e1,if_neg e1,mv_at hb]
 rw[if_pos e1,if_pos e1,mv_at hb,mv_at hb,xor_el,mulT_el hc (h.byte ht hb)]
theorem mv_el{A:List (List Int)}{W top col:Nat}(h:Sh A W)(ht:top<A.length)(hc:col<W): ∀k,k<=A.length-> ∀a,mv (el1 col top k A) W a=if a<k/\a≠top then(fun b=>mv A W a col*mv A W top b+mv A W a b)else mv A W a
 |0,_,a=>by rw[if_neg za];rfl
 |k+1,hk,a=>by
  have ih:=mv_el h ht hc k za;obtain⟨hT,hTl⟩:=h.el (col:=col) ht k za;have hE:el1 col top (k+1) A=(if k≠top/\entry (el1 col top k A) k col≠0 then macS (el1 col top k A) k top (entry (el1 col top k A) k col)else el1 col top k A):=rfl;have D:mv (el1 col top k A) W k=mv A W k:=by rw[ih,if_neg za]
  have G:mv (el1 col top k A) W top=mv A W top:=by rw[ih,if_neg za]
  have hkc:toE (entry (el1 col top k A) k col)=mv A W k col:=by rw[<-D,mv_at hc]
  rw[hE];generalize el1 col top k A=T at*;by_cases e:k≠top/\entry T k col≠0
  ·rw[if_pos e,mv_mac hT (hT.byte za hc) za za];by_cases e2:a=k
   ·subst e2;rw[if_pos rfl,if_pos ⟨by omega,e.1⟩,hkc,G,D]
   rw[if_neg e2,ih];by_cases e3:a<k/\a≠top
   case neg=>rw[if_neg e3,if_neg za]
   rw[if_pos e3,if_pos ⟨by omega,e3.2⟩]
  rw[if_neg e,ih];by_cases e3:a<k/\a≠top
  ·rw[if_pos e3,if_pos ⟨by omega,e3.2⟩]
  rw[if_neg e3];by_cases e4:a<k+1/\a≠top
  case neg=>rw[if_neg e4]
  rw[if_pos e4];obtain rfl:a=k:=by omega
  have h0:entry T a col=0:=Classical.byContradiction fun hn=>e ⟨e4.2,hn⟩;rw[h0,toE_zero]at hkc
  funext b
  rw[<-hkc,zero_mul,zero_add]
theorem span_iff{b c:Nat->Vec}{n:Nat}(h1: ∀i,i<n->Span b n (c i))(h2: ∀i,i<n->Span c n (b i))(v:Vec):Span c n v↔Span b n v:=⟨span_trans h1,span_trans h2⟩
theorem span_swap{A:List (List Int)}{W top i:Nat}{o:Int}(h:Sh A W)(ho:0<=o/\o<256)(h0:toE o≠0)(ht:top<A.length)(hi:i<A.length)(v:Vec):Span (mv (swapS o A top i) W) A.length v↔Span (mv A W) A.length v:=by
 have hm:=mv_swap h ho ht hi;refine span_iff (fun a ha=>?_) (fun a ha=>?_) v
 ·rw[hm]
  split
  ·exact span_mul _ (span_mem _ hi)
  ·split
   ·exact span_mem _ ht
   ·exact span_mem _ ha
 ·by_cases e1:a=i
  ·subst e1;have:mv A W a=fun b=>(toE o).inv*mv (swapS o A top a) W top b:=by
    funext b
    rw[hm,if_pos rfl,<-mul_assoc,inv_mul h0,one_mul]
   rw[this];exact span_mul _ (span_mem _ ht)
  by_cases e2:a=top
  case neg=>
   have:mv A W a=mv (swapS o A top i) W a:=by rw[hm,if_neg e2,if_neg e1]
   rw[this];exact span_mem _ ha
  subst e2;have:mv A W a=mv (swapS o A a i) W i:=by rw[hm,if_neg (fun e=>e1 e.symm),if_pos rfl]
  rw[this];exact span_mem _ hi
theorem span_el{A:List (List Int)}{W top col:Nat}(h:Sh A W)(ht:top<A.length)(hc:col<W)(v:Vec):Span (mv (el1 col top A.length A) W) A.length v↔Span (mv A W) A.length v:=by
 have hm:=mv_el h ht hc A.length (Nat.le_refl _);refine span_iff (fun a ha=>?_) (fun a ha=>?_) v
 ·rw[hm]
  split
  ·exact span_add (span_mul _ (span_mem _ ht)) (span_mem _ ha)
  ·exact span_mem _ ha
 ·by_cases e:a=top
  ·subst e;have:mv A W a=mv (el1 col a A.length A) W a:=by rw[hm,if_neg (fun hh=>hh.2 rfl)]
   rw[this];exact span_mem _ ha
  have:mv A W a=fun b=>mv A W a col*mv (el1 col top A.length A) W top b+mv (el1 col top A.length A) W a b:=by
   funext b
   rw[hm,hm,if_neg (fun hh=>hh.2 rfl),if_pos ⟨ha,e⟩,<-add_assoc,add_self,zero_add]
  rw[this];exact span_add (span_mul _ (span_mem _ ht)) (span_mem _ ha)
def pv(P:List Int)(i:Nat):Nat:=(P.getD i 0).toNat
theorem pv_last(P:List Int)(j:Nat):pv (P++ [(j:Int)]) P.length=j:=by
 unfold pv;rw[List.getD_eq_getElem?_getD,List.getElem?_append_right (Nat.le_refl _),Nat.sub_self];rfl
theorem pv_init{P:List Int}{j i:Nat}(hi:i<P.length):pv (P++ [(j:Int)]) i=pv P i:=by
 unfold pv;rw[List.getD_eq_getElem?_getD,List.getElem?_append_left hi,<-List.getD_eq_getElem?_getD]
structure RI (A S:List (List Int)) (W j:Nat) (P:List Int):Prop where
 sh:Sh S W
 len:S.length=A.length
 tn:P.length<=A.length
 nat: ∀i,i<P.length->P.getD i 0=(pv P i:Int)
 lt: ∀i,i<P.length->pv P i<j
 mono: ∀i k,i<k->k<P.length->pv P i<pv P k
 one: ∀i,i<P.length-> ∀a,a<A.length->mv S W a (pv P i)=if a=i then 1 else 0
 low: ∀a,P.length<=a->a<A.length-> ∀b,b<j->mv S W a b=0
 lead: ∀i,i<P.length-> ∀b,b<pv P i->mv S W i b=0
 span: ∀v,Span (mv S W) A.length v↔Span (mv A W) A.length v
theorem RI.step{A S:List (List Int)}{W j:Nat}{P:List Int}(h:RI A S W j P)(hj:j<W){x:Nat}(hx:P.length<=x)(hxn:x<A.length)(h0:entry S x j≠0):
 RI A (el1 j P.length S.length (swapS (invT (entry S x j)) S P.length x)) W (j+1) (P++ [(j:Int)]):=by
 have hlen:=h.len;have hb:=h.sh.byte (i:=x) (j:=j) za hj;have ho:=invT_range hb h0;have hxl:x<S.length:=by omega
 have htl:P.length<S.length:=by omega
 have hsw:=h.sh.swap ho htl hxl;have hsl:(swapS (invT (entry S x j)) S P.length x).length=S.length:=by simp[swapS]
 have hB:=mv_swap h.sh ho htl hxl;have hel:=hsw.el (col:=j) (top:=P.length) za S.length za;have hmE:=mv_el hsw (top:=P.length) (col:=j) za hj S.length za;have G:=span_swap h.sh ho (invT_ne hb h0) htl hxl;have D:=span_el hsw (top:=P.length) (col:=j) za hj;have I:toE (invT (entry S x j))*mv S W x j=1:=by rw[mv_at hj];exact invT_mul hb h0
 rw[hsl]at D
 generalize swapS (invT (entry S x j)) S P.length x=B at*;generalize toE (invT (entry S x j))=o at*;have hT: ∀b,b<j->mv B W P.length b=0:=fun b hbj=>by
  rw[hB,if_pos rfl];show o*mv S W x b=0;rw[h.low x hx hxn b hbj,mul_zero]
 have hTj:mv B W P.length j=1:=by rw[hB,if_pos rfl];exact I
 have hlow: ∀a,P.length<a->a<A.length-> ∀b,b<j->mv B W a b=0:=fun a h1 h2 b hbj=>by
  rw[hB,if_neg za]
  split
  ·exact h.low _ (Nat.le_refl _) za b hbj
  ·exact h.low a za h2 b hbj
 have htop: ∀a,a<P.length->mv B W a=mv S W a:=fun a ha=>by rw[hB,if_neg za,if_neg za]
 have hcol: ∀i,i<P.length-> ∀a,a<A.length->mv B W a (pv P i)=if a=i then 1 else 0:=fun i hi a ha=>by
  have hpj:=h.lt i hi;by_cases e:a<P.length
  ·rw[htop a e];exact h.one i hi a ha
  rw[if_neg za];by_cases e2:a=P.length
  case neg=>exact hlow a za ha _ hpj
  subst e2;exact hT _ hpj
 have hE: ∀a,a<A.length->mv (el1 j P.length S.length B) W a=if a≠P.length then(fun b=>mv B W a j*mv B W P.length b+mv B W a b)else mv B W a:=fun a ha=>by
  rw[hmE];by_cases e:a=P.length
  case neg=>rw[if_pos ⟨by omega,e⟩,if_pos e]
  rw[if_neg (fun hh=>hh.2 e),if_neg (fun hh=>hh e)]
 have hEj: ∀a,a<A.length->mv (el1 j P.length S.length B) W a j=if a=P.length then 1 else 0:=fun a ha=>by
  rw[hE a ha];by_cases e:a=P.length
  ·subst e;rw[if_neg (fun hh=>hh rfl),if_pos rfl,hTj]
  rw[if_pos e,if_neg e];show mv B W a j*mv B W P.length j+mv B W a j=0;rw[hTj,mul_one,add_self]
 have hElo: ∀a,a<A.length-> ∀b,b<j->mv (el1 j P.length S.length B) W a b=mv B W a b:=fun a ha b hb=>by
  rw[hE a ha]
  split
  ·show mv B W a j*mv B W P.length b+mv B W a b=_;rw[hT b hb,mul_zero,zero_add]
  ·rfl
 have hL:(P++ [(j:Int)]).length=P.length+1:=by simp
 refine⟨hel.1,by omega,by omega,fun i hi=>?_,fun i hi=>?_,fun i k hik hk=>?_,fun i hi a ha=>?_,fun a h1 h2 b hbj=>?_,fun i hi b hbi=>?_,fun v=>?_⟩
 ·rw[hL]at hi
  by_cases e:i=P.length
  case neg=>rw[pv_init za,<-h.nat i za,List.getD_eq_getElem?_getD,List.getElem?_append_left za,<-List.getD_eq_getElem?_getD]
  subst e;rw[pv_last,List.getD_eq_getElem?_getD,List.getElem?_append_right (Nat.le_refl _),Nat.sub_self];rfl
 ·rw[hL]at hi
  by_cases e:i=P.length
  case neg=>rw[pv_init za];have:=h.lt i za;omega
  subst e;rw[pv_last];omega
 ·rw[hL]at hk
  by_cases e:k=P.length
  case neg=>rw[pv_init za,pv_init za];exact h.mono i k hik za
  subst e;rw[pv_last,pv_init hik];exact h.lt i hik
 ·rw[hL]at hi
  by_cases e:i=P.length
  ·subst e;rw[pv_last];exact hEj a ha
  rw[pv_init za,hElo a ha _ (h.lt i za)];exact hcol i za a ha
 ·rw[hL]at h1
  by_cases e:b=j
  case neg=>rw[hElo a h2 b za];exact hlow a za h2 b za
  subst e;rw[hEj a h2,if_neg za]
 ·rw[hL]at hi
  by_cases e:i=P.length
  case neg=>rw[pv_init za]at hbi;have hlt:=h.lt i za;rw[hElo i za b za,htop i za];exact h.lead i za b hbi
  subst e;rw[pv_last]at hbi
  rw[hElo _ za b hbi];exact hT b hbi
 ·rw[<-h.span,<-hlen,D v];exact G v
theorem redA_inv{A:List (List Int)}{W:Nat}(h:Sh A W): ∀j,j<=W->RI A (redA A j).1 W j (redA A j).2
 |0,_=>⟨h,rfl,Nat.zero_le _,fun i hi=>absurd hi (Nat.not_lt_zero _),fun i hi=>absurd hi (Nat.not_lt_zero _),fun i k _ hk=>absurd hk (Nat.not_lt_zero _),fun i hi=>absurd hi (Nat.not_lt_zero _),fun a _ _ b hb=>absurd hb (Nat.not_lt_zero _),fun i hi=>absurd hi (Nat.not_lt_zero _),fun v=>Iff.rfl⟩
 |j+1,hj=>by
  have ih:=redA_inv h j za;show RI A (stepA j (redA A j)).1 W (j+1) (stepA j (redA A j)).2;generalize redA A j=T at*
  cases hf:firstIn T.1 T.2.length j with
  |none=>
   rw[stepA_none hf];have hz:=seek_zero _ _ hf;have hlen:=ih.len;exact⟨ih.sh,ih.len,ih.tn,ih.nat,fun i hi=>Nat.lt_succ_of_lt (ih.lt i hi),ih.mono,ih.one,fun a h1 h2 b hb=>by
    by_cases e:b=j
    ·subst e;rw[mv_at za,hz a h1 (by have:=ih.tn;omega),toE_zero]
    ·exact ih.low a h1 h2 b za,ih.lead,ih.span⟩
  |some x=>
   obtain⟨q1,q2,q3,_⟩:=seekCol_spec _ _ hf;have hlen:=ih.len;have htn:=ih.tn;rw[stepA_some hf];exact ih.step za q1 za q3
theorem RI.rr{A S:List (List Int)}{W:Nat}{P:List Int}(h:RI A S W W P):RR A.length W P.length (mv S W) (pv P):=
 ⟨h.tn,h.lt,h.mono,h.one,fun a h1 h2=>funext fun b=>by
  by_cases e:b<W
  ·exact h.low a h1 h2 b e
  ·exact mv_out e,h.lead,fun a _ b hb=>mv_out za⟩
def rk(A:List (List Int))(W:Nat):Nat:=(redA A W).2.length
theorem redA_rr{A:List (List Int)}{W:Nat}(h:Sh A W):RR A.length W (rk A W) (mv (redA A W).1 W) (pv (redA A W).2):=(redA_inv h W (Nat.le_refl _)).rr
theorem redA_span{A:List (List Int)}{W:Nat}(h:Sh A W)(v:Vec):Span (mv (redA A W).1 W) A.length v↔Span (mv A W) A.length v:=(redA_inv h W (Nat.le_refl _)).span v
theorem rk_dim{A:List (List Int)}{W:Nat}(h:Sh A W):Dim (Span (mv A W) A.length) (rk A W):=dim_congr (redA_span h) (redA_rr h).dim
theorem right_of{r c:Nat}{l:List Int}(hr:r<=64)(hc:c<=64)(hl:l.length=r*c):matrix_Right.f (r:Int) (c:Int) l=some true/\recoupref03_Right.f (r:Int) (c:Int) l=some true:=by
 have hf:=flat_rowsOf r l hl;have hlen:=rowsOf_length c r l;have h1:=Right_true hf.2 za hc;rw[hf.1,hlen]at h1
 exact⟨(Right_eq (a:=(r:Int)) (b:=(c:Int)) (l:=l) za)▸h1,h1⟩
theorem trans_length(r c:Nat)(l:List Int):(transL r c l).length=c*r:=by simp[transL]
theorem trans_getD{r c i j:Nat}{l:List Int}(hi:i<c)(hj:j<r):(transL r c l).getD (i*r+j) 0=l.getD (j*c+i) 0:=by
 have hq:=idx_lt (c:=r) hi hj;unfold transL;rw[List.getD_eq_getElem?_getD,List.getElem?_map,List.getElem?_range hq];show l.getD ((i*r+j) % r*c+(i*r+j) / r) 0=_;have e1:(i*r+j) % r=j:=by rw[Nat.mul_comm,Nat.mul_add_mod,Nat.mod_eq_of_lt hj]
 have e2:(i*r+j) / r=i:=by
  rw[Nat.mul_comm,Nat.mul_add_div za,Nat.div_eq_of_lt hj,Nat.add_zero]
 rw[e1,e2]
theorem rows_entry{r c i j:Nat}{l:List Int}(hl:l.length=r*c)(hi:i<r)(hj:j<c):entry (rowsOf c r l) i j=l.getD (i*c+j) 0:=by
 have hf:=flat_rowsOf r l hl;have:=flat_get hf.2 (by rw[rowsOf_length];exact hi) hj;rw[hf.1]at this
 exact this.symm
theorem trans_entry{r c i j:Nat}{l:List Int}(hl:l.length=r*c)(hi:i<c)(hj:j<r):entry (rowsOf r c (transL r c l)) i j=entry (rowsOf c r l) j i:=by
 rw[rows_entry (trans_length r c l) hi hj,rows_entry hl hj hi,trans_getD hi hj]
theorem getD_bytes{l:List Int}(h:bytesB l=true)(q:Nat):0<=l.getD q 0/\l.getD q 0<256:=by
 by_cases e:q<l.length
 ·exact bytesB_at h e
 ·rw[List.getD_eq_getElem?_getD,List.getElem?_eq_none za];exact⟨by decide,by decide⟩
theorem trans_bytes{r c:Nat}{l:List Int}(h:bytesB l=true):bytesB (transL r c l)=true:=by
 unfold bytesB;rw[List.all_eq_true];intro x hx;unfold transL at hx;obtain⟨q,_,rfl⟩:=List.mem_map.1 hx;have:=getD_bytes h (q % r*c+q / r);rw[Bool.and_eq_true,decide_eq_true_eq,decide_eq_true_eq];exact this
theorem gTrans_eq{r c:Nat}{l:List Int}(h:matrix_Right.f (r:Int) (c:Int) l=some true):matrix_Transpose.f (r:Int) (c:Int) l=some ((c:Int),(r:Int),transL r c l,0):=by
 unfold matrix_Transpose.f;rw[h,Option.bind_some,if_pos rfl];rfl
abbrev TR:=Int×Int×List Int×Int
theorem Trans_l1{r c:Nat}{l:List Int}(hr:r<=64)(hc:c<=64)(hl:l.length=r*c){i:Nat}(hi:i<c)(a b:Int){R:TR}
 (hR:Ends (fun q=>recoupref03_Transpose.l0 q ((i+1:Nat):Int) (r:Int) (c:Int) l a b ((transL r c l).take ((i+1)*r))) R):
 ∀n j:Nat,j+n=r->Ends (fun q=>recoupref03_Transpose.l1 q (i:Int) (j:Int) (r:Int) (c:Int) l a b ((transL r c l).take (i*r+j))) R
 |0,j,hj=>by
  obtain rfl:j=r:=by omega
  have D:i<=4096:=by omega
  refine Ends.succ (fun k=>by rw[recoupref03_Transpose.l1]) ?_;refine Ends.neg za ?_;rw[i64_succ D,<-Nat.succ_mul];exact hR
 |n+1,j,hj=>by
  have hjr:j<r:=by omega
  have G:j<=4096:=by omega
  have hf:=flat_rowsOf r l hl;have hlen:=rowsOf_length c r l;have ha:=At_eq hf.2 za hc (i:=j) (j:=i) za hi (r:Int);rw[hf.1]at ha
  have hq:=idx_lt (c:=r) hi hjr;have htl:=trans_length r c l;have hcr:c*r<=64*64:=Nat.mul_le_mul hc hr;refine Ends.succ (fun k=>by rw[recoupref03_Transpose.l1]) ?_;refine Ends.pos za ?_;refine Ends.bind1 ha ?_;refine Ends.pos (by rw[List.length_take,htl];omega) ?_;have e:(transL r c l).take (i*r+j)++ [entry (rowsOf c r l) j i] =(transL r c l).take (i*r+(j+1)):=by
   rw[<-Nat.add_assoc,List.take_succ_eq_append_getElem za]
   congr 2
   rw[rows_entry hl hjr hi,<-trans_getD hi hjr,List.getD_eq_getElem?_getD,List.getElem?_eq_getElem za];rfl
  rw[e,i64_succ G];exact Trans_l1 hr hc hl hi a b hR n (j+1) za
theorem Trans_l0{r c:Nat}{l:List Int}(hr:r<=64)(hc:c<=64)(hl:l.length=r*c)(a b:Int): ∀n i:Nat,i+n=c->Ends (fun q=>recoupref03_Transpose.l0 q (i:Int) (r:Int) (c:Int) l a b ((transL r c l).take (i*r))) (a,b,transL r c l,0)
 |0,i,hi=>by
  obtain rfl:i=c:=by omega
  refine Ends.succ (fun k=>by rw[recoupref03_Transpose.l0]) ?_;refine Ends.neg za ?_;rw[List.take_of_length_le (by rw[trans_length];exact Nat.le_refl _)];exact Ends.const rfl
 |n+1,i,hi=>by
  refine Ends.succ (fun k=>by rw[recoupref03_Transpose.l0]) ?_;refine Ends.pos za ?_;exact Trans_l1 hr hc hl za a b (Trans_l0 hr hc hl a b n (i+1) za) r 0 za
theorem Trans_ends{r c:Nat}{l:List Int}(hr:r<=64)(hc:c<=64)(hl:l.length=r*c):Ends (fun k=>recoupref03_Transpose.f k (r:Int) (c:Int) l) ((c:Int),(r:Int),transL r c l,0):=by
 unfold recoupref03_Transpose.f;refine Ends.bind1 (right_of hr hc hl).2 (Ends.pos rfl ?_);have:=Trans_l0 hr hc hl (c:Int) (r:Int) c 0 za;rw[Nat.zero_mul,List.take_zero]at this
 exact this
theorem sh_rows{r c:Nat}{l:List Int}(hb:bytesB l=true)(hl:l.length=r*c)(hr:r<=64)(hc:c<=64):Sh (rowsOf c r l) c:=Sh.of1 (shp_nil hb hl ⟨hr,hc⟩)
theorem col_trans{r c b:Nat}{l:List Int}(hl:l.length=r*c)(hb:b<r):col c (mv (rowsOf r c (transL r c l)) r) b=mv (rowsOf c r l) c b:=by
 funext a
 unfold col mv;by_cases ha:a<c
 ·rw[if_pos ha,if_pos hb,if_pos ha,trans_entry hl ha hb]
 ·rw[if_neg ha,if_neg ha]
theorem span_congr{b c:Nat->Vec}{n:Nat}(h: ∀i,i<n->b i=c i)(v:Vec):Span b n v↔Span c n v:=
 ⟨fun⟨x,e⟩=>⟨x,e.trans (lc_congr h fun _ _=>rfl)⟩,fun⟨x,e⟩=>⟨x,e.trans (lc_congr (fun i hi=>(h i hi).symm) fun _ _=>rfl)⟩⟩
def fstP(r c:Nat)(l:List Int):List Int:=(redA (rowsOf r c (transL r c l)) r).2
theorem trans_rr{r c:Nat}{l:List Int}(hb:bytesB l=true)(hl:l.length=r*c)(hr:r<=64)(hc:c<=64):
 RI (rowsOf r c (transL r c l)) (redA (rowsOf r c (transL r c l)) r).1 r r (fstP r c l):=redA_inv (sh_rows (trans_bytes hb) (trans_length r c l) hc hr) r (Nat.le_refl _)
theorem prefix_dim{r c i:Nat}{l:List Int}(hb:bytesB l=true)(hl:l.length=r*c)(hr:r<=64)(hc:c<=64)(hi:i<=r):
 Dim (Span (mv (rowsOf c r l) c) i) (below (pv (fstP r c l)) i (fstP r c l).length):=by
 have h:=trans_rr hb hl hr hc;have hd:=h.rr.col_dim (N:=mv (rowsOf r c (transL r c l)) r) (fun v=>(h.span v).symm) hi;have hn:=rowsOf_length r c (transL r c l);rw[hn]at hd
 exact dim_congr (span_congr fun b hb'=>col_trans hl za) hd
theorem rowsOf_elem{r c p:Nat}{l:List Int}(h:p<(rowsOf c r l).length):(rowsOf c r l)[p] =(l.drop (p*c)).take c:=by simp[rowsOf]
theorem prefix_rows{r c i:Nat}{l:List Int}(hl:l.length=r*c)(hi:i<=r):rowsOf c i (l.take (i*c))=(rowsOf c r l).take i:=by
 have hic:i*c<=r*c:=Nat.mul_le_mul_right _ hi;refine List.ext_getElem (by rw[rowsOf_length,List.length_take,rowsOf_length];omega) fun p h1 h2=>?_;rw[List.getElem_take,rowsOf_elem,rowsOf_elem,List.drop_take,List.take_take];rw[rowsOf_length]at h1
 have:(p+1)*c<=i*c:=Nat.mul_le_mul_right _ h1;rw[Nat.succ_mul]at this
 rw[Nat.min_eq_left za]
theorem prefix_rk{r c i:Nat}{l:List Int}(hb:bytesB l=true)(hl:l.length=r*c)(hr:r<=64)(hc:c<=64)(hi:i<=r):(redL i c (l.take (i*c))).2.length=below (pv (fstP r c l)) i (fstP r c l).length:=by
 have hic:i*c<=r*c:=Nat.mul_le_mul_right _ hi;have D:(l.take (i*c)).length=i*c:=by rw[List.length_take];omega
 have hsh:=sh_rows (bytesB_take hb (i*c)) D (by omega:i<=64) hc;have hd:=rk_dim hsh;have e:(redL i c (l.take (i*c))).2=(redA (rowsOf c i (l.take (i*c))) c).2:=(Prod.mk.inj (red_fst (rowsOf c i (l.take (i*c))) (List.replicate i []) c)).2;rw[e];show rk (rowsOf c i (l.take (i*c))) c=_;rw[rowsOf_length]at hd
 refine dim_unique hd (dim_congr (span_congr fun a ha=>?_) (prefix_dim hb hl hr hc hi))
 funext b
 unfold mv;by_cases hbc:b<c
 ·rw[if_pos hbc,if_pos hbc,prefix_rows hl hi];unfold entry;rw[List.getD_eq_getElem?_getD,List.getD_eq_getElem?_getD (l:=(rowsOf c r l).take i),List.getElem?_take_of_lt ha];rfl
 ·rw[if_neg hbc,if_neg hbc]
theorem below_step{p:Nat->Nat}{t i:Nat}(m: ∀i k,i<k->k<t->p i<p k):below p (i+1) t=if below p i t<t/\p (below p i t)=i then below p i t+1 else below p i t:=by
 have l1:=below_le p i t;have l2:=below_le p (i+1) t;have b1:=below_iff (b:=i) m;have b2:=below_iff (b:=i+1) m;have key: ∀s' s:Nat,s<=t->s'<=t->(∀k,k<t->(k<s↔k<s'))->s=s':=fun s' s h1 h2 h=>by
  rcases Nat.lt_trichotomy s s' with h3|h3|h3
  ·have:=(h s za).2 h3;omega
  ·exact h3
  ·have:=(h s' za).1 h3;omega
 by_cases e:below p i t<t/\p (below p i t)=i
 ·rw[if_pos e];refine key _ _ l2 za fun k hk=>?_;rw[b2 k hk];constructor
  ·intro h;by_cases h1:k<below p i t
   ·omega
   ·by_cases h2:k=below p i t
    ·omega
    ·have:=m (below p i t) k za hk;omega
  ·intro h;by_cases h1:k<below p i t
   ·have:=(b1 k hk).1 h1;omega
   ·have:k=below p i t:=by omega
    rw[this,e.2];omega
 ·rw[if_neg e];refine key _ _ l2 l1 fun k hk=>?_;rw[b2 k hk,b1 k hk];constructor
  ·intro h;by_cases h1:p k=i
   ·exfalso;refine e ?_;have h2: ¬k<below p i t:=fun h3=>by have:=(b1 k hk).1 h3;omega
    have h4:below p i t=k:=by
     rcases Nat.lt_or_ge (below p i t) k with h5|h5
     ·have h6:=m _ k h5 hk;have:=(b1 (below p i t) za).2 za;omega
     ·omega
    rw[h4];exact⟨hk,h1⟩
   ·omega
  ·intro h;omega
theorem below_all{p:Nat->Nat}{b:Nat} : ∀t,(∀i,i<t->p i<b)->below p b t=t
 |0,_=>rfl
 |t+1,h=>by
  have:=below_all t fun i hi=>h i za;unfold below;rw[if_pos (h t za),this]
theorem fstP_red{r c:Nat}{l:List Int} :(redL c r (transL r c l)).2=fstP r c l:=(Prod.mk.inj (red_fst (rowsOf r c (transL r c l)) (List.replicate c []) r)).2
theorem gFirst_eq{r c:Nat}{l:List Int}(hb:bytesB l=true)(hl:l.length=r*c)(hr:r<=64)(hc:c<=64):gauss_First.f (r:Int) (c:Int) l=some (fstP r c l,0):=by
 unfold gauss_First.f;rw[gTrans_eq (right_of hr hc hl).1,Option.bind_some,if_pos rfl,gReduce_eq (right_of hc hr (trans_length r c l)).1 (trans_bytes hb),Option.bind_some,fstP_red]
section
variable {r c:Nat} {l:List Int}
theorem fst_mono(hb:bytesB l=true)(hl:l.length=r*c)(hr:r<=64)(hc:c<=64): ∀i k,i<k->k<(fstP r c l).length->pv (fstP r c l) i<pv (fstP r c l) k:=(trans_rr hb hl hr hc).mono
theorem fst_len(hb:bytesB l=true)(hl:l.length=r*c)(hr:r<=64)(hc:c<=64):(fstP r c l).length<=c:=by
 have:=(trans_rr hb hl hr hc).tn
 rwa [rowsOf_length]at this
theorem First_l0(hb:bytesB l=true)(hl:l.length=r*c)(hr:r<=64)(hc:c<=64): ∀n i:Nat,i+n=r->
 Ends (fun q=>recoupref04_First.l0 q ((fstP r c l).take (below (pv (fstP r c l)) i (fstP r c l).length)) ((below (pv (fstP r c l)) i (fstP r c l).length:Nat):Int) (i:Int) (r:Int) (c:Int) l) (fstP r c l,0)
 |0,i,hi=>by
  obtain rfl:i=r:=by omega
  refine Ends.succ (fun k=>by rw[recoupref04_First.l0]) ?_;refine Ends.neg za ?_;rw[below_all _ (trans_rr hb hl hr hc).lt,List.take_length];exact Ends.const rfl
 |n+1,i,hi=>by
  have hir:i<r:=by omega
  have G:i<=4096:=by omega
  have D:i+1<=64:=by omega
  have hic:(i+1)*c<=r*c:=Nat.mul_le_mul_right _ hir;have ih:=First_l0 hb hl hr hc n (i+1) za;have hst:=below_step (i:=i) (fst_mono hb hl hr hc);have hle:=below_le (pv (fstP r c l)) i (fstP r c l).length;have hPl:=fst_len hb hl hr hc;have hnat:=(trans_rr hb hl hr hc).nat;have hrk:=prefix_rk hb hl hr hc (i:=i+1) hir;have I:(l.take ((i+1)*c)).length=(i+1)*c:=by rw[List.length_take];omega
  have hR:=Rank_ends D hc I (bytesB_take hb _);rw[hrk]at hR
  generalize fstP r c l=P at*;refine Ends.succ (fun k=>by rw[recoupref04_First.l0]) ?_;refine Ends.pos za ?_;rw[i64_succ G,(idx_small (i:=i+1) (c:=c) (j:=0) D hc zb).1];refine Ends.pos (Int.natCast_nonneg _) (Ends.pos (by rw[hl];exact Int.ofNat_le.2 hic) ?_);rw[Int.toNat_natCast];refine Ends.bind hR ?_;generalize below (pv P) i P.length=s at*;rw[hst]at ih⊢
  by_cases e:s<P.length/\pv P s=i
  ·rw[if_pos e]at ih⊢
   refine Ends.pos (by show((s+1:Nat):Int)>(s:Int);omega) ?_;refine Ends.pos zq ?_;have e2:P.take s++ [(i:Int)] =P.take (s+1):=by
    rw[List.take_succ_eq_append_getElem e.1];have:=hnat s e.1;rw[e.2,List.getD_eq_getElem?_getD,List.getElem?_eq_getElem e.1,Option.getD_some]at this
    rw[this]
   rw[e2];exact ih
  ·rw[if_neg e]at ih⊢
   exact Ends.neg (by show¬((s:Nat):Int)>(s:Int);omega) ih
theorem First_ends(hb:bytesB l=true)(hl:l.length=r*c)(hr:r<=64)(hc:c<=64):Ends (fun k=>recoupref04_First.f k (r:Int) (c:Int) l) (fstP r c l,0):=by
 unfold recoupref04_First.f;refine Ends.bind1 (right_of hr hc hl).2 (Ends.pos rfl ?_);have:=First_l0 hb hl hr hc r 0 za;have e:below (pv (fstP r c l)) 0 (fstP r c l).length=0:=by
  have h2:=below_iff (b:=0) (fst_mono hb hl hr hc);have h3:=below_le (pv (fstP r c l)) 0 (fstP r c l).length;rcases Nat.eq_zero_or_pos (below (pv (fstP r c l)) 0 (fstP r c l).length)with h|h
  ·exact h
  ·have:=(h2 0 za).1 h;omega
 rw[e,List.take_zero]at this
 exact this
theorem fst_in(hb:bytesB l=true)(hl:l.length=r*c)(hr:r<=64)(hc:c<=64): ∀x∈fstP r c l,0<=x/\x<(r:Int):=fun x hx=>by
 obtain⟨i,hi,rfl⟩:=List.getElem_of_mem hx;have h1:=(trans_rr hb hl hr hc).nat i hi;have h2:=(trans_rr hb hl hr hc).lt i hi;rw[List.getD_eq_getElem?_getD,List.getElem?_eq_getElem hi,Option.getD_some]at h1
 omega
theorem inB_of{L:List Int}(h: ∀x∈L,0<=x/\x<(r:Int)):inB (r:Int) L=true:=by
 unfold inB;rw[List.all_eq_true];intro x hx;rw[Bool.and_eq_true,decide_eq_true_eq,decide_eq_true_eq];exact h x hx
theorem seg_row(hl:l.length=r*c){x:Int}(h:0<=x/\x<(r:Int)):segP c l x=(rowsOf c r l).getD x.toNat []:=by
 have hx:x.toNat<r:=by omega
 unfold segP;rw[List.getD_eq_getElem?_getD,List.getElem?_eq_getElem (by rw[rowsOf_length];exact hx),Option.getD_some,rowsOf_elem]
theorem pick_rows(hl:l.length=r*c){L:List Int}(h: ∀x∈L,0<=x/\x<(r:Int)):pickL c l L=(L.map fun x=>(rowsOf c r l).getD x.toNat []).flatten:=by
 unfold pickL
 congr 1
 exact List.map_congr_left fun x hx=>seg_row hl (h x hx)
theorem pick_len(hl:l.length=r*c){L:List Int}(h: ∀x∈L,0<=x/\x<(r:Int)):(pickL c l L).length=L.length*c:=by
 have hU:=(flat_rowsOf r l hl).2;rw[pick_rows hl h,flat_len (M:=L.map fun x=>(rowsOf c r l).getD x.toNat []) (c:=c) (fun y hy=>by
  obtain⟨x,hx,rfl⟩:=List.mem_map.1 hy;exact hU.at (by rw[rowsOf_length];have:=h x hx;omega)),List.length_map]
theorem bytes_flat{M:List (List Int)}(h:rowsB M=true):bytesB M.flatten=true:=by
 unfold rowsB at h;unfold bytesB;rw[List.all_eq_true]at h⊢
 intro x hx;obtain⟨y,hy,hxy⟩:=List.mem_flatten.1 hx;have:=h y hy;unfold bytesB at this;rw[List.all_eq_true]at this
 exact this x hxy
theorem pick_bytes(hb:bytesB l=true)(L:List Int):bytesB (pickL c l L)=true:=by
 unfold pickL;refine bytes_flat ?_;rw[rowsB,List.all_eq_true];intro y hy;obtain⟨x,_,rfl⟩:=List.mem_map.1 hy;exact bytesB_sub hb _ _
theorem gPick_eq(hl:l.length=r*c)(hr:r<=64)(hc:c<=64){L:List Int}(h: ∀x∈L,0<=x/\x<(r:Int))(hL:L.length<=64):matrix_Pick.f (r:Int) (c:Int) l L=some ((L.length:Int),(c:Int),pickL c l L,0):=by
 unfold matrix_Pick.f;rw[(right_of hr hc hl).1,Option.bind_some,if_pos rfl,if_pos (inB_of h),if_pos hL];rfl
theorem rPick_ends(hl:l.length=r*c)(hr:r<=64)(hc:c<=64){L:List Int}(h: ∀x∈L,0<=x/\x<(r:Int))(hL:L.length<=64):Ends (fun k=>recoupref03_Pick.f k (r:Int) (c:Int) l L) ((L.length:Int),(c:Int),pickL c l L,0):=by
 have hf:=flat_rowsOf r l hl;have hlen:=rowsOf_length c r l;have:=Pick_ends hf.2 za hc (L:=L) (fun x hx=>by have:=h x hx;omega) hL;rw[hf.1,hlen,<-pick_rows hl h]at this
 exact this
def putC(P x:List Int)(n:Nat):Nat->List Int
 |0=>List.replicate n 0
 |i+1=>(putC P x n i).set (P.getD i 0).toNat (x.getD i 0)
theorem putC_length(P x:List Int)(n:Nat): ∀i,(putC P x n i).length=n
 |0=>by simp[putC]
 |i+1=>by rw[putC,List.length_set];exact putC_length P x n i
abbrev CR:=List Int×Bool×Int
theorem gComb_l0{P x:List Int}{n:Nat}(hP:P.length<=64)(hx:P.length<=x.length)(h: ∀y∈P,0<=y/\y<(n:Int)): ∀m i:Nat,i+m=P.length->Ends (fun k=>gauss_Combine.l0 k (putC P x n i) x P (P.length:Int) (i:Int)) (putC P x n P.length,true,0)
 |0,i,hi=>by
  obtain rfl:i=P.length:=by omega
  refine Ends.succ (fun k=>by rw[gauss_Combine.l0]) ?_;exact Ends.neg za (Ends.const rfl)
 |m+1,i,hi=>by
  have hiP:i<P.length:=by omega
  have D:i<=4096:=by omega
  have hy:0<=P.getD i 0/\P.getD i 0<(n:Int):=by
   rw[List.getD_eq_getElem?_getD,List.getElem?_eq_getElem hiP,Option.getD_some];exact h _ (List.getElem_mem hiP)
  refine Ends.succ (fun k=>by rw[gauss_Combine.l0]) ?_;refine Ends.pos za (Ends.pos za (Ends.pos za (Ends.pos za ?_)));rw[rd_nat,rd_nat,i64_succ D];refine Ends.pos hy.1 (Ends.pos zab ?_);exact gComb_l0 hP hx h m (i+1) za
theorem rComb_l0{P x:List Int}{n:Nat}(hP:P.length<=64)(hx:P.length<=x.length)(h: ∀y∈P,0<=y/\y<(n:Int)): ∀m i:Nat,i+m=P.length->Ends (fun k=>recoupref04_Combine.l0 k P x (putC P x n i) (i:Int)) (putC P x n P.length,true,0)
 |0,i,hi=>by
  obtain rfl:i=P.length:=by omega
  refine Ends.succ (fun k=>by rw[recoupref04_Combine.l0]) ?_;exact Ends.neg za (Ends.const rfl)
 |m+1,i,hi=>by
  have hiP:i<P.length:=by omega
  have D:i<=4096:=by omega
  have hy:0<=P.getD i 0/\P.getD i 0<(n:Int):=by
   rw[List.getD_eq_getElem?_getD,List.getElem?_eq_getElem hiP,Option.getD_some];exact h _ (List.getElem_mem hiP)
  refine Ends.succ (fun k=>by rw[recoupref04_Combine.l0]) ?_;refine Ends.pos za (Ends.pos za (Ends.pos za ?_));rw[rd_nat,rd_nat,i64_succ D];refine Ends.pos hy.1 (Ends.pos zab ?_);exact rComb_l0 hP hx h m (i+1) za
def cmbS(r c:Nat)(l y:List Int):SR:=solR c (fstP r c l).length (transL (fstP r c l).length c (pickL c l (fstP r c l))) y
def cmbR(r c:Nat)(l y:List Int):CR:=if(cmbS r c l y).2.1=true then(putC (fstP r c l) (cmbS r c l y).1 r (fstP r c l).length,true,0)else([],false,0)
theorem gComb_ends(hb:bytesB l=true)(hl:l.length=r*c)(hr:r<=64)(hc:c<=64){y:List Int}(hy:y.length=c)(hyb:bytesB y=true):Ends (fun k=>gauss_Combine.f k (r:Int) (c:Int) l y) (cmbR r c l y):=by
 have hPl:=fst_len hb hl hr hc;have hin:=fst_in hb hl hr hc;have hpl:=pick_len hl hin;have hpb:=pick_bytes (c:=c) hb (fstP r c l);have D:(fstP r c l).length<=64:=by omega
 unfold gauss_Combine.f;refine Ends.bind1 (right_of hr hc hl).1 (Ends.pos rfl ?_);refine Ends.succ (fun k=>by rw[gauss_Combine.j0]) ?_;refine Ends.neg (by simp[hy]) ?_;refine Ends.bind1 (gFirst_eq hb hl hr hc) (Ends.pos rfl ?_);refine Ends.bind1 (gPick_eq hl hr hc hin D) (Ends.pos rfl ?_);refine Ends.bind1 (gTrans_eq (right_of D hc hpl).1) (Ends.pos rfl ?_);have hs:=gSolve_eq (right_of hc D (trans_length (fstP r c l).length c (pickL c l (fstP r c l)))).1 (trans_bytes hpb) hy hyb;refine Ends.bind1 hs ?_;have he:=solR_err c (fstP r c l).length (transL (fstP r c l).length c (pickL c l (fstP r c l))) y;have hlen:=solR_len c (fstP r c l).length (transL (fstP r c l).length c (pickL c l (fstP r c l))) y;unfold cmbR cmbS;generalize solR c (fstP r c l).length (transL (fstP r c l).length c (pickL c l (fstP r c l))) y=s at*;refine Ends.pos he ?_;refine Ends.succ (fun k=>by rw[gauss_Combine.j1]) ?_;by_cases e:s.2.1=true
 ·rw[if_pos e];refine Ends.neg (by rw[e];decide) ?_;refine Ends.pos za (Ends.pos zaa ?_);rw[Int.toNat_natCast];exact gComb_l0 D (by rw[hlen e];exact Nat.le_refl _) hin (fstP r c l).length 0 za
 ·rw[if_neg e];rw[Bool.not_eq_true]at e
  refine Ends.pos (by rw[e];rfl) (Ends.const ?_);rw[he]
theorem rComb_ends(hb:bytesB l=true)(hl:l.length=r*c)(hr:r<=64)(hc:c<=64){y:List Int}(hy:y.length=c)(hyb:bytesB y=true):Ends (fun k=>recoupref04_Combine.f k (r:Int) (c:Int) l y) (cmbR r c l y):=by
 have hPl:=fst_len hb hl hr hc;have hin:=fst_in hb hl hr hc;have hpl:=pick_len hl hin;have hpb:=pick_bytes (c:=c) hb (fstP r c l);have D:(fstP r c l).length<=64:=by omega
 unfold recoupref04_Combine.f;refine Ends.bind1 (right_of hr hc hl).2 (Ends.pos rfl ?_);refine Ends.succ (fun k=>by rw[recoupref04_Combine.j0]) ?_;refine Ends.neg (by simp[hy]) ?_;refine Ends.bind (First_ends hb hl hr hc) ?_;refine Ends.bind (rPick_ends hl hr hc hin D) ?_;refine Ends.bind (Trans_ends D hc hpl) ?_;have hs:=Solve_ends hc D (trans_length (fstP r c l).length c (pickL c l (fstP r c l))) (trans_bytes hpb) hy hyb;refine Ends.bind hs ?_;have he:=solR_err c (fstP r c l).length (transL (fstP r c l).length c (pickL c l (fstP r c l))) y;have hlen:=solR_len c (fstP r c l).length (transL (fstP r c l).length c (pickL c l (fstP r c l))) y;unfold cmbR cmbS;generalize solR c (fstP r c l).length (transL (fstP r c l).length c (pickL c l (fstP r c l))) y=s at*;by_cases e:s.2.1=true
 ·rw[if_pos e];refine Ends.pos e ?_;refine Ends.pos za (Ends.pos zaa ?_);rw[Int.toNat_natCast];exact rComb_l0 D (by rw[hlen e];exact Nat.le_refl _) hin (fstP r c l).length 0 za
 ·rw[if_neg e];exact Ends.neg e (Ends.const rfl)
end
end Go.Proofs.YtjgcocfnilhggaaDoor.M
namespace Go.Proofs.YtjgcocfnilhggaaDoor.M
def Sp(b:Nat->Vec)(n:Nat)(A:Nat->Prop)(v:Vec):Prop:= ∃x:Nat->El,(∀i,¬A i->x i=0)/\v=lc b n x
section
variable {b:Nat->Vec} {n:Nat} {A B:Nat->Prop} {v w:Vec}
theorem sp_mono(h: ∀i,i<n->A i->B i)(hv:Sp b n A v):Sp b n B v:=by
 obtain⟨x,h1,rfl⟩:=hv;refine⟨fun i=>if i<n then x i else 0,fun i hi=>?_,lc_congr (fun _ _=>rfl) fun i hi=>(if_pos hi).symm⟩;show(if i<n then x i else 0)=0;by_cases hn:i<n
 ·rw[if_pos hn];exact h1 i fun hA=>hi (h i hn hA)
 ·exact if_neg hn
theorem sp_span(hv:Sp b n A v):Span b n v:=by
 obtain⟨x,_,rfl⟩:=hv;exact⟨x,rfl⟩
theorem sp_row{i:Nat}(hi:i<n)(hA:A i):Sp b n A (b i):=
 ⟨fun k=>if k=i then 1 else 0,fun k hk=>if_neg fun e=>hk (by rw[e];exact hA),(lc_unit b hi).symm⟩
theorem sp_zero:Sp b n A zv:=⟨fun _=>0,fun _ _=>rfl,(lc_zero b n).symm⟩
theorem sp_add(h:Sp b n A v)(k:Sp b n A w):Sp b n A (fun j=>v j+w j):=by
 obtain⟨x,x1,rfl⟩:=h;obtain⟨y,y1,rfl⟩:=k;exact⟨fun i=>x i+y i,fun i hi=>by show x i+y i=0;rw[x1 i hi,y1 i hi,add_zero],(lc_add b n x y).symm⟩
theorem sp_mul(a:El)(h:Sp b n A v):Sp b n A (fun j=>a*v j):=by
 obtain⟨x,x1,rfl⟩:=h;exact⟨fun i=>a*x i,fun i hi=>by show a*x i=0;rw[x1 i hi,mul_zero],(lc_mul b n a x).symm⟩
theorem sp_lc{u:Nat->Vec} : ∀(m:Nat) (x:Nat->El),(∀i,i<m->Sp b n A (u i))->Sp b n A (lc u m x)
 |0,x,_=>sp_zero
 |m+1,x,h=>sp_add (sp_lc m x fun i hi=>h i za) (sp_mul (x m) (h m za))
theorem sp_of_span{u:Nat->Vec}{m:Nat}(h: ∀i,i<m->Sp b n A (u i))(hv:Span u m v):Sp b n A v:=by
 obtain⟨x,rfl⟩:=hv;exact sp_lc m x h
theorem span_of_sp{u:Nat->Vec}{m:Nat}(h: ∀i,i<n->A i->Span u m (b i))(hv:Sp b n A v):Span u m v:=by
 obtain⟨x,h1,rfl⟩:=hv;have:lc b n x=lc (fun i=>if x i=0 then zv else b i) n x:=by
  funext j
  refine sm_congr fun i hi=>?_;show x i*b i j=x i*(if x i=0 then zv else b i) j;by_cases e:x i=0
  ·rw[if_pos e,e,zero_mul,zero_mul]
  ·rw[if_neg e]
 rw[this];refine span_lc (fun i hi=>?_) x;show Span u m (if x i=0 then zv else b i);by_cases e:x i=0
 ·rw[if_pos e];exact span_zero u m
 ·rw[if_neg e];exact h i hi (Classical.byContradiction fun hn=>e (h1 i hn))
theorem sp_sub(h: ∀i,i<n->A i->Sp b n B (b i))(hv:Sp b n A v):Sp b n B v:=by
 obtain⟨x,h1,rfl⟩:=hv;have:lc b n x=lc (fun i=>if x i=0 then zv else b i) n x:=by
  funext j
  refine sm_congr fun i hi=>?_;show x i*b i j=x i*(if x i=0 then zv else b i) j;by_cases e:x i=0
  ·rw[if_pos e,e,zero_mul,zero_mul]
  ·rw[if_neg e]
 rw[this];refine sp_lc n x fun i hi=>?_;show Sp b n B (if x i=0 then zv else b i);by_cases e:x i=0
 ·rw[if_pos e];exact sp_zero
 ·rw[if_neg e];exact h i hi (Classical.byContradiction fun hn=>e (h1 i hn))
theorem sp_dim(b:Nat->Vec)(n:Nat)(A:Nat->Prop): ∃k,k<=n/\Dim (Sp b n A) k:=dim_exists (u:=b) (m:=n) fun v hv=>sp_span hv
noncomputable def rkS (b:Nat->Vec) (n:Nat) (A:Nat->Prop):Nat:=Classical.choose (sp_dim b n A)
theorem rkS_dim(b:Nat->Vec)(n:Nat)(A:Nat->Prop):Dim (Sp b n A) (rkS b n A):=(Classical.choose_spec (sp_dim b n A)).2
theorem rkS_eq{k:Nat}(h:Dim (Sp b n A) k):rkS b n A=k:=dim_unique (rkS_dim b n A) h
theorem rkS_mono(h: ∀i,i<n->A i->B i):rkS b n A<=rkS b n B:=dim_le (rkS_dim b n A) (rkS_dim b n B) fun v hv=>sp_mono h hv
theorem rkS_span(h: ∀v,Sp b n A v↔Sp b n B v):rkS b n A=rkS b n B:=dim_unique (rkS_dim b n A) (dim_congr (fun v=>(h v).symm) (rkS_dim b n B))
theorem rkS_full(h: ∀i,i<n->A i->B i)(e:rkS b n B<=rkS b n A):Sp b n B v->Sp b n A v:=fun hv=>by
 obtain⟨u,u1,u2,u3⟩:=rkS_dim b n A;have hB:=rkS_dim b n B;have e2:=rkS_mono (b:=b) h;rw[show rkS b n B=rkS b n A from by omega]at hB
 exact sp_of_span u2 (dim_full hB u1 (fun i hi=>sp_mono h (u2 i hi)) v hv)
theorem rkS_in{i:Nat}(hi:i<n):rkS b n (fun k=>A k∨k=i)=rkS b n A↔Sp b n A (b i):=by
 constructor
 ·intro e;exact rkS_full (fun k _ h=> .inl h) (Nat.le_of_eq e) (sp_row hi (.inr rfl))
 ·intro h;exact rkS_span fun v=>⟨sp_sub fun k hk hA=>by
   rcases hA with hA|rfl
   ·exact sp_row hk hA
   ·exact h,sp_mono fun k _ hA=> .inl hA⟩
end
section
variable {b:Nat->Vec} {n:Nat} {A:Nat->Prop} {L:List Nat}
def rowsL(b:Nat->Vec)(L:List Nat):Nat->Vec:=fun k=>b (L.getD k 0)
theorem sp_list(hL: ∀i,i∈L↔A i/\i<n)(hA: ∀i,A i->i<n)(v:Vec):Span (rowsL b L) L.length v↔Sp b n A v:=by
 have hm: ∀k,k<L.length->L.getD k 0∈L:=fun k hk=>by
  rw[List.getD_eq_getElem?_getD,List.getElem?_eq_getElem hk];exact List.getElem_mem hk
 constructor
 ·exact sp_of_span fun k hk=>sp_row ((hL _).1 (hm k hk)).2 ((hL _).1 (hm k hk)).1
 ·refine span_of_sp fun i hi hAi=>?_;obtain⟨k,hk,e⟩:=List.getElem_of_mem ((hL i).2 ⟨hAi,hi⟩);have h1:=span_mem (rowsL b L) hk;have h2:rowsL b L k=b i:=by
   unfold rowsL;rw[List.getD_eq_getElem?_getD,List.getElem?_eq_getElem hk];exact congrArg b e
  rwa [h2]at h1
end
end Go.Proofs.YtjgcocfnilhggaaDoor.M
namespace Go.Proofs.YtjgcocfnilhggaaDoor.M
open RowKit YtjgcocfnilhggaaDoorW.PrintWords YtjgcocfnilhggaaDoorW.PrintLast YtjgcocfnilhggaaDoorW.PrintMore Q
def pk(c:Nat)(l:List Int)(s:Nat):List Int:=pickL c l (ints (setL s))
def rho(c:Nat)(l:List Int)(s:Nat):Nat:=(redL (setL s).length c (pk c l s)).2.length
def Val(r s:Nat):Prop:= ∀i∈setL s,i<r
section
variable {r c s:Nat} {l:List Int}
theorem val_in(h:Val r s): ∀x∈ints (setL s),0<=x/\x<(r:Int):=fun x hx=>by
 obtain⟨i,hi,rfl⟩:=List.mem_map.1 hx;have:=h i hi;omega
theorem pk_len(hl:l.length=r*c)(h:Val r s):(pk c l s).length=(setL s).length*c:=by
 have:=pick_len hl (val_in h)
 rwa [ints_length]at this
theorem pick7(hb:bytesB l=true)(hl:l.length=r*c)(hr:r<=64)(hc:c<=64)(hs:s<2^64)(h:Val r s):Ends (fun k=>matroid_pick.f k (r:Int) (c:Int) l (s:Int)) (((setL s).length:Int),(c:Int),pk c l s,0):=by
 unfold matroid_pick.f;refine Ends.bind1 (right_of hr hc hl).1 (Ends.pos rfl ?_);refine Ends.bind (List_eq hs) ?_;have:=gPick_eq hl hr hc (val_in h) (by rw[ints_length];exact setL_length s);rw[ints_length]at this
 exact Ends.bind1 this (Ends.const rfl)
theorem gRank7{r c:Nat}{l:List Int}(hR:matrix_Right.f (r:Int) (c:Int) l=some true)(hb:bytesB l=true):gauss_Rank.f (r:Int) (c:Int) l=some (((redL r c l).2.length:Int),0):=by
 unfold gauss_Rank.f;rw[gReduce_eq hR hb];rfl
theorem Rank7(hb:bytesB l=true)(hl:l.length=r*c)(hr:r<=64)(hc:c<=64)(hs:s<2^64)(h:Val r s):Ends (fun k=>matroid_Rank.f k (r:Int) (c:Int) l (s:Int)) ((rho c l s:Int),0):=by
 unfold matroid_Rank.f;refine Ends.bind (pick7 hb hl hr hc hs h) (Ends.pos rfl ?_);exact Ends.bind1 (gRank7 (right_of (setL_length s) hc (pk_len hl h)).1 (pick_bytes hb _)) (Ends.const rfl)
theorem rank7(hb:bytesB l=true)(hl:l.length=r*c)(hr:r<=64)(hc:c<=64)(hs:s<2^64)(h:Val r s):Ends (fun k=>recoupref07_rank.f k (r:Int) (c:Int) l (s:Int)) (rho c l s:Int):=by
 unfold recoupref07_rank.f;refine Ends.bind (refList_eq hs) ?_;have:=rPick_ends hl hr hc (val_in h) (by rw[ints_length];exact setL_length s);rw[ints_length]at this
 refine Ends.bind this ?_;exact Ends.bind (Rank_ends (setL_length s) hc (pk_len hl h) (pick_bytes hb _)) (Ends.const rfl)
theorem val_iff(hr:r<=64)(hs:s<2^64):(Go.bits .andNot .u64 (s:Int) ((2^r-1:Nat):Int)=0)↔Val r s:=by
 rw[asked hr hs];unfold setOk Val;constructor
 ·rintro⟨_,_,h⟩ i hi;have:=h i hi;omega
 ·exact fun h=>⟨by omega,by omega,fun i hi=>by have:=h i hi;omega⟩
theorem bad7(hl:l.length=r*c)(hr:r<=64)(hc:c<=64)(hs:s<2^64):Ends (fun k=>recoupref07_bad.f k (r:Int) (c:Int) l (s:Int)) (if Go.bits .andNot .u64 (s:Int) ((2^r-1:Nat):Int)=0 then 0 else 2):=by
 unfold recoupref07_bad.f;refine Ends.bind1 (right_of hr hc hl).2 (Ends.pos rfl ?_);have hf:=refFull_eq (r:Int);have e:fullV (r:Int)=(((2^r-1:Nat):Int),0):=by unfold fullV;rw[if_pos ⟨by omega,by omega⟩,Int.toNat_natCast]
 rw[e]at hf
 refine Ends.bind hf ?_;by_cases h:Go.bits .andNot .u64 (s:Int) ((2^r-1:Nat):Int)=0
 ·rw[if_pos h,if_pos h];exact Ends.const rfl
 ·rw[if_neg h,if_neg h];exact Ends.const rfl
theorem bad7_ok(hl:l.length=r*c)(hr:r<=64)(hc:c<=64)(hs:s<2^64)(h:Val r s):Ends (fun k=>recoupref07_bad.f k (r:Int) (c:Int) l (s:Int)) 0:=by
 have:=bad7 hl hr hc hs
 rwa [if_pos ((val_iff hr hs).2 h)]at this
theorem rRank7(hb:bytesB l=true)(hl:l.length=r*c)(hr:r<=64)(hc:c<=64)(hs:s<2^64)(h:Val r s):Ends (fun k=>recoupref07_Rank.f k (r:Int) (c:Int) l (s:Int)) ((rho c l s:Int),0):=by
 unfold recoupref07_Rank.f;exact Ends.bind (bad7_ok hl hr hc hs h) (Ends.pos rfl (Ends.bind (rank7 hb hl hr hc hs h) (Ends.const rfl)))
theorem args7{a b x:Int}{l:List Int}(ha:(Lit.int .i64 a).wf=true)(hx:(Lit.int .u64 x).wf=true):
 (recoupref03_Right.f a b l=some false/\matrix_Right.f a b l=some false)∨ ∃r c s:Nat,a=(r:Int)/\b=(c:Int)/\x=(s:Int)/\r<=64/\c<=64/\l.length=r*c/\s<2^64:=by
 have hR:recoupref03_Right.f a b l=matrix_Right.f a b l:=Right_eq (wf_i64 ha);obtain⟨s,rfl,hs⟩:=u64_nat hx;rcases Right_cases a b l with h|h
 ·obtain⟨r,c,rfl,rfl,hr,hc,hlen,_⟩:=right_nat (hR▸h);exact .inr ⟨r,c,s,rfl,rfl,rfl,hr,hc,hlen,hs⟩
 ·exact .inl ⟨h,hR▸h⟩
end
theorem rows_flat{M:List (List Int)}{c:Nat}(h:U M c):rowsOf c M.length M.flatten=M:=by
 refine List.ext_getElem (by rw[rowsOf_length]) fun i h1 h2=>?_;rw[rowsOf_elem,flat_row h h2,List.getD_eq_getElem?_getD,List.getElem?_eq_getElem h2,Option.getD_some]
def vv(x:List Int):Vec:=fun j=>toE (x.getD j 0)
theorem vv_out{x:List Int}{j:Nat}(h:x.length<=j):vv x j=0:=by
 unfold vv;rw[List.getD_eq_getElem?_getD,List.getElem?_eq_none h];rfl
def one1(c:Nat)(x:Vec):Vec:=fun j=>if j<c then x j else if j=c then 1 else 0
theorem dot_one1{c:Nat}(r x:Vec):dot (c+1) r (one1 c x)=dot c r x+r c:=by
 show sm c (fun b=>r b*one1 c x b)+r c*one1 c x c=_;have e:one1 c x c=1:=by unfold one1;rw[if_neg (Nat.lt_irrefl c),if_pos rfl]
 rw[e,mul_one]
 congr 1
 exact sm_congr fun b hb=>by unfold one1;rw[if_pos hb]
section
variable {r c:Nat} {l y:List Int}
theorem aug_rows{M D:List (List Int)}{C:Nat}(h:Shp M D C 1){i:Nat}(hi:i<M.length):(∀j,j<C->mv (aug M D) (C+1) i j=mv M C i j)/\mv (aug M D) (C+1) i C=toE (entry D i 0):=by
 refine⟨fun j hj=>?_,?_⟩
 ·rw[mv_at za,mv_at hj,aug_entry h.len (h.eM i hi) hj]
 ·rw[mv_at za];have:=aug_entry_right (j:=0) h.len (h.eM i hi);rw[Nat.add_zero]at this
  rw[this]
theorem dot_congr{W:Nat}{r r' x x':Vec}(h: ∀j,j<W->r j=r' j)(k: ∀j,j<W->x j=x' j):dot W r x=dot W r' x':=sm_congr fun j hj=>by rw[h j hj,k j hj]
theorem aug_ker{M D:List (List Int)}{C:Nat}(h:Shp M D C 1)(x:Vec):Ker (C+1) M.length (mv (aug M D) (C+1)) (one1 C x)↔ ∀i,i<M.length->dot C (mv M C i) x=toE (entry D i 0):=by
 constructor
 ·intro hk i hi;have h1:=hk i hi;obtain⟨a1,a2⟩:=aug_rows h hi;rw[dot_one1,a2,dot_congr a1 (fun _ _=>rfl)]at h1
  exact add_cancel h1
 ·intro hk i hi;obtain⟨a1,a2⟩:=aug_rows h hi;rw[dot_one1,a2,dot_congr a1 (fun _ _=>rfl),hk i hi,add_self]
theorem red_sol{M D:List (List Int)}{C:Nat}(h:Shp M D C 1)(x:Vec):(∀i,i<M.length->dot C (mv M C i) x=toE (entry D i 0))↔ ∀i,i<M.length->dot C (mv (redTo M D C).1.1 C i) x=toE (entry (redTo M D C).1.2 i 0):=by
 have hs:=red_shp h C;have hg:=red_aug h C (Nat.le_refl _);have hi:=redA_inv (Sh.aug h) C za;have hl:=aug_length h.len;rw[hg]at hi
 have hsp:=hi.span;rw[hl]at hsp
 have k1:=aug_ker h x;have k2:=aug_ker hs.1 x;rw[hs.2.1]at k2
 rw[<-k1,<-k2,ker_same hsp]
theorem Y_entry{i:Nat}(hi:i<r):entry (Ycol y r) i 0=y.getD i 0:=by
 unfold entry Ycol;rw[fill_get hi];rfl
theorem red_ri{M D:List (List Int)}{C wd:Nat}(h:Shp M D C wd):RI M (redTo M D C).1.1 C C (redTo M D C).2:=by
 have:=redA_inv (Sh.of1 h) C (Nat.le_refl _);rw[<-red_fst M D C]at this
 exact this
theorem solve_at{P:List Int}{D:List (List Int)}{c:Nat}(hnat: ∀i,i<P.length->P.getD i 0=(pv P i:Int))(hlt: ∀i,i<P.length->pv P i<c)(hm: ∀i k,i<k->k<P.length->pv P i<pv P k):
 ∀k,k<=P.length->(∀i,i<k->(solveTo P D c k).getD (pv P i) 0=entry D i 0)/\ ∀j,j<c->(∀i,i<k->j≠pv P i)->(solveTo P D c k).getD j 0=0
 |0,_=>⟨fun i hi=>absurd hi (Nat.not_lt_zero _),fun j hj _=>by
  show(List.replicate c (0:Int)).getD j 0=0;rw[List.getD_eq_getElem?_getD,List.getElem?_replicate_of_lt hj];rfl⟩
 |k+1,hk=>by
  obtain⟨h1,h2⟩:=solve_at (D:=D) hnat hlt hm k za;have hkP:k<P.length:=by omega
  rw[solveTo,if_pos hkP,hnat k hkP,Int.toNat_natCast];refine⟨fun i hi=>?_,fun j hj hn=>?_⟩
  ·by_cases e:i=k
   ·subst e;exact getD_set_self (by rw[solveTo_length];exact hlt i hkP)
   ·have:=hm i k za hkP;rw[getD_set_ne za];exact h1 i za
  ·rw[getD_set_ne (fun e=>hn k za e.symm)];exact h2 j hj fun i hi=>hn i za
theorem solR_good(h:(solR r c l y).2.1=true):(solR r c l y).1=solveTo (redTo (rowsOf c r l) (Ycol y r) c).2 (redTo (rowsOf c r l) (Ycol y r) c).1.2 c r/\ ¬badFrom (redTo (rowsOf c r l) (Ycol y r) c).2 (redTo (rowsOf c r l) (Ycol y r) c).1.2 r 0=true:=by
 unfold solR at h⊢;simp only[]at h⊢
 split
 ·rename_i e
  rw[if_pos e]at h;cases h
 ·rename_i e
  exact⟨rfl,e⟩
theorem solR_sound(hb:bytesB l=true)(hl:l.length=r*c)(hr:r<=64)(hc:c<=64)(hy:y.length=r)(hyb:bytesB y=true)(h:(solR r c l y).2.1=true):
 ∀i,i<r->dot c (mv (rowsOf c r l) c i) (vv (solR r c l y).1)=vv y i:=by
 obtain⟨h1,h2⟩:=solR_good h;have hS:=shp_Y hb hyb hl hr hc hy;have hlen:=rowsOf_length c r l;have hri:=red_ri hS;have hs:=red_shp hS c;have hsol:=red_sol hS (vv (solR r c l y).1);rw[h1]at hsol⊢
 intro i hi;have goal:=hsol.2 ?_ i za
 ·rw[goal,Y_entry hi];rfl
 ·intro k hk;have hrr:=hri.rr;have htn:=hri.tn;have hD: ∀i',(redTo (rowsOf c r l) (Ycol y r) c).2.length<=i'->i'<r->entry (redTo (rowsOf c r l) (Ycol y r) c).1.2 i' 0=0:=fun i' a b=>Classical.byContradiction fun hn=>h2 (bad_iff _ _ |>.2 ⟨i',Nat.zero_le _,by omega,a,hn⟩);obtain⟨s1,s2⟩:=solve_at (D:=(redTo (rowsOf c r l) (Ycol y r) c).1.2) hri.nat hri.lt hri.mono (redTo (rowsOf c r l) (Ycol y r) c).2.length (Nat.le_refl _);rw[solveTo_more (i:=r) za];generalize redTo (rowsOf c r l) (Ycol y r) c=T at*;by_cases e:k<T.2.length
  ·have hd:=hrr.dot_piv (x:=vv (solveTo T.2 T.1.2 c T.2.length)) (fun j hj hn=>by unfold vv;rw[s2 j hj hn,toE_zero]) e;rw[hd];unfold vv;rw[s1 k e]
  ·rw[hrr.low k za hk,hD k za za,toE_zero];exact sm_zero fun j _=>zero_mul _
theorem solR_complete(hb:bytesB l=true)(hl:l.length=r*c)(hr:r<=64)(hc:c<=64)(hy:y.length=r)(hyb:bytesB y=true){x:Vec}(hx: ∀i,i<r->dot c (mv (rowsOf c r l) c i) x=vv y i):(solR r c l y).2.1=true:=by
 have hS:=shp_Y hb hyb hl hr hc hy;have hlen:=rowsOf_length c r l;have hri:=red_ri hS;have hs:=red_shp hS c;have hsol:=(red_sol hS x).1 fun i hi=>by rw[hx i za,Y_entry za];rfl
 have hrr:=hri.rr;unfold solR;simp only[];have hbad: ¬badFrom (redTo (rowsOf c r l) (Ycol y r) c).2 (redTo (rowsOf c r l) (Ycol y r) c).1.2 r 0=true:=by
  rw[bad_iff];rintro⟨i,_,h2,h3,h4⟩;have hir:i<(rowsOf c r l).length:=by omega
  have h5:=hsol i hir;rw[hrr.low i h3 hir]at h5
  have h6:dot c zv x=0:=sm_zero fun j _=>zero_mul _;rw[h6]at h5
  have hbb:=(Sh.of2 hs.1).byte (i:=i) (j:=0) (by rw[hs.1.len];omega) zb;exact toE_ne hbb h4 h5.symm
 rw[if_neg hbad]
theorem getElem_getD{L:List Int}{q:Nat}(h:q<L.length):L[q] =L.getD q 0:=by rw[List.getD_eq_getElem?_getD,List.getElem?_eq_getElem h];rfl
theorem solR_bytes(hb:bytesB l=true)(hl:l.length=r*c)(hr:r<=64)(hc:c<=64)(hy:y.length=r)(hyb:bytesB y=true)(h:(solR r c l y).2.1=true):bytesB (solR r c l y).1=true:=by
 have hg:=(solR_good h).1;rw[hg];have hS:=shp_Y hb hyb hl hr hc hy;have hs:=red_shp hS c;have hri:=red_ri hS;have htn:=hri.tn;have hrl:=rowsOf_length c r l;rw[solveTo_more (i:=r) za];obtain⟨s1,s2⟩:=solve_at (D:=(redTo (rowsOf c r l) (Ycol y r) c).1.2) hri.nat hri.lt hri.mono (redTo (rowsOf c r l) (Ycol y r) c).2.length (Nat.le_refl _);unfold bytesB;rw[List.all_eq_true];intro v hv;obtain⟨q,hq,rfl⟩:=List.getElem_of_mem hv;have hqc:q<c:=by rw[solveTo_length]at hq;exact hq
 rw[getElem_getD hq,Bool.and_eq_true,decide_eq_true_eq,decide_eq_true_eq];by_cases e2: ∃i,i<(redTo (rowsOf c r l) (Ycol y r) c).2.length/\q=pv (redTo (rowsOf c r l) (Ycol y r) c).2 i
 ·obtain⟨i,hi,rfl⟩:=e2;rw[s1 i hi];exact(Sh.of2 hs.1).byte (by rw[hs.1.len,hs.2.1];omega) zb
 ·rw[s2 q hqc fun i hi e3=>e2 ⟨i,hi,e3⟩];exact⟨by decide,by decide⟩
end
theorem redL_rk(r c:Nat)(l:List Int):(redL r c l).2.length=rk (rowsOf c r l) c:=by
 have:=(Prod.mk.inj (red_fst (rowsOf c r l) (List.replicate r []) c)).2;show(redTo (rowsOf c r l) (List.replicate r []) c).2.length=(redA (rowsOf c r l) c).2.length;rw[this]
def Bit(s:Nat):Nat->Prop:=fun i=>s.testBit i=true
section
variable {r c s t:Nat} {l:List Int}
theorem val_bit(hs:s<2^64):Val r s↔ ∀i,s.testBit i=true->i<r:=by
 unfold Val;constructor
 ·exact fun h i hi=>h i ((mem_setL' hs).2 hi)
 ·exact fun h i hi=>h i ((mem_setL' hs).1 hi)
theorem pk_row(hl:l.length=r*c)(h:Val r s){k:Nat}(hk:k<(setL s).length):mv (rowsOf c (setL s).length (pk c l s)) c k=mv (rowsOf c r l) c ((setL s).getD k 0):=by
 have hin:=val_in h;have hU:=(flat_rowsOf r l hl).2;have hf:U ((ints (setL s)).map fun x=>(rowsOf c r l).getD x.toNat []) c:=fun y hy=>by
  obtain⟨x,hx,rfl⟩:=List.mem_map.1 hy;exact hU.at zba
 have e:=rows_flat hf;rw[List.length_map,ints_length]at e
 have e2:rowsOf c (setL s).length (pk c l s)=(ints (setL s)).map fun x=>(rowsOf c r l).getD x.toNat []:=by
  unfold pk;rw[pick_rows hl hin];exact e
 rw[e2];have e3:((ints (setL s)).map fun x=>(rowsOf c r l).getD x.toNat []).getD k [] =(rowsOf c r l).getD ((setL s).getD k 0) []:=by
  unfold ints;rw[List.getD_eq_getElem?_getD,List.getElem?_map,List.getElem?_map,List.getD_eq_getElem?_getD (l:=setL s),List.getElem?_eq_getElem hk];rfl
 funext j
 unfold mv entry;rw[e3]
theorem mem_bit(hs:s<2^64)(h:Val r s)(i:Nat):i∈setL s↔Bit s i/\i<r:=
 ⟨fun hi=>⟨(mem_setL' hs).1 hi,h i hi⟩,fun hi=>(mem_setL' hs).2 hi.1⟩
theorem pk_sp(hl:l.length=r*c)(hs:s<2^64)(h:Val r s)(v:Vec):Span (mv (rowsOf c (setL s).length (pk c l s)) c) (setL s).length v↔Sp (mv (rowsOf c r l) c) r (Bit s) v:=by
 have key: ∀k,k<(setL s).length->mv (rowsOf c (setL s).length (pk c l s)) c k=rowsL (mv (rowsOf c r l) c) (setL s) k:=fun k hk=>pk_row hl h hk;exact(span_congr key v).trans (sp_list (mem_bit hs h) ((val_bit hs).1 h) v)
theorem rho_rk(hb:bytesB l=true)(hl:l.length=r*c)(hr:r<=64)(hc:c<=64)(hs:s<2^64)(h:Val r s):rho c l s=rkS (mv (rowsOf c r l) c) r (Bit s):=by
 have hd:=rk_dim (sh_rows (pick_bytes (c:=c) hb (ints (setL s))) (pk_len hl h) (setL_length s) hc);rw[rowsOf_length]at hd
 have e:rho c l s=rk (rowsOf c (setL s).length (pk c l s)) c:=redL_rk _ _ _;rw[e];exact(rkS_eq (dim_congr (pk_sp hl hs h) hd)).symm
theorem bit_or(s t i:Nat):Bit (s|||t) i↔Bit s i∨Bit t i:=by
 unfold Bit;rw[Nat.testBit_or,Bool.or_eq_true]
theorem bit_one(b i:Nat):Bit (2^b) i↔i=b:=by
 unfold Bit;rw[Nat.testBit_two_pow,decide_eq_true_eq];exact⟨Eq.symm,Eq.symm⟩
def wo(s t:Nat):Nat:=s &&& (2^64-1-t)
theorem bit_wo(hs:s<2^64)(ht:t<2^64)(i:Nat):Bit (wo s t) i↔Bit s i/\ ¬Bit t i:=by
 unfold Bit wo;rw[testBit_andNot hs ht,Bool.and_eq_true,Bool.not_eq_true'];simp
theorem wo_lt(hs:s<2^64):wo s t<2^64:=lt_and hs
end
theorem Ends.of_mono{α:Type}{f:Nat->Option α}{r:α}(hm: ∀k,LeO (f k) (f (k+1))){K:Nat}(h:f K=some r):Ends f r:=by
 refine⟨K,fun k hk=>?_⟩;obtain⟨d,rfl⟩:=Nat.exists_eq_add_of_le hk
 induction d with
 |zero=>exact h
 |succ d ih=>exact hm (K+d) r (ih za)
theorem lc_pick{b:Nat->Vec}{n t:Nat}{p:Nat->Nat}(hp: ∀i,i<t->p i<n)(x:Nat->El):lc b n (fun j=>sm t (fun i=>if j=p i then x i else 0))=lc (fun i=>b (p i)) t x:=by
 rw[show(fun j=>sm t (fun i=>if j=p i then x i else 0))=fun j=>sm t (fun i=>x i*(if j=p i then 1 else 0))from funext fun j=>sm_congr fun i _=>by split<;>simp only[mul_one,mul_zero]];exact(lc_lc b (fun i=>b (p i)) n t x (fun i j=>if j=p i then 1 else 0) fun i hi=>(lc_unit b (hp i hi)).symm).symm
section
variable {r c:Nat} {l y:List Int}
theorem put_at{P s:List Int}{n:Nat}(hnat: ∀i,i<P.length->P.getD i 0=(pv P i:Int))(hlt: ∀i,i<P.length->pv P i<n)(hm: ∀i k,i<k->k<P.length->pv P i<pv P k):
 ∀k,k<=P.length->(∀i,i<k->(putC P s n k).getD (pv P i) 0=s.getD i 0)/\ ∀j,j<n->(∀i,i<k->j≠pv P i)->(putC P s n k).getD j 0=0
 |0,_=>⟨fun i hi=>absurd hi (Nat.not_lt_zero _),fun j hj _=>by
  show(List.replicate n (0:Int)).getD j 0=0;rw[List.getD_eq_getElem?_getD,List.getElem?_replicate_of_lt hj];rfl⟩
 |k+1,hk=>by
  obtain⟨h1,h2⟩:=put_at (s:=s) hnat hlt hm k za;have hkP:k<P.length:=by omega
  rw[putC,hnat k hkP,Int.toNat_natCast];refine⟨fun i hi=>?_,fun j hj hn=>?_⟩
  ·by_cases e:i=k
   ·subst e;exact getD_set_self (by rw[putC_length];exact hlt i hkP)
   ·have:=hm i k za hkP;rw[getD_set_ne za];exact h1 i za
  ·rw[getD_set_ne (fun e=>hn k za e.symm)];exact h2 j hj fun i hi=>hn i za
theorem rise_inj{t:Nat}{p:Nat->Nat}(hm: ∀i k,i<k->k<t->p i<p k){i k:Nat}(hi:i<t)(hk:k<t)(e:p i=p k):i=k:=by
 rcases Nat.lt_trichotomy i k with h1|h1|h1
 ·have:=hm i k h1 hk;omega
 ·exact h1
 ·have:=hm k i h1 hi;omega
theorem vv_put{P s:List Int}{n:Nat}(hnat: ∀i,i<P.length->P.getD i 0=(pv P i:Int))(hlt: ∀i,i<P.length->pv P i<n)(hm: ∀i k,i<k->k<P.length->pv P i<pv P k):
 vv (putC P s n P.length)=fun j=>sm P.length (fun i=>if j=pv P i then vv s i else 0):=by
 obtain⟨p1,p2⟩:=put_at (s:=s) hnat hlt hm _ (Nat.le_refl _)
 funext j
 by_cases e: ∃i,i<P.length/\j=pv P i
 ·obtain⟨i,hi,rfl⟩:=e;show toE _=_;rw[p1 i hi,sm_one (k:=i) hi fun k hk hne=>if_neg fun e=>hne (rise_inj hm hi hk e).symm,if_pos rfl];rfl
 ·have hn: ∀i,i<P.length->j≠pv P i:=fun i hi e2=>e ⟨i,hi,e2⟩;rw[sm_zero fun i hi=>if_neg (hn i hi)];by_cases hj:j<n
  ·show toE _=0;rw[p2 j hj hn];rfl
  ·exact vv_out (by rw[putC_length];omega)
theorem put_bytes{P s:List Int}{n:Nat}(hs:bytesB s=true): ∀k,bytesB (putC P s n k)=true
 |0=>by unfold bytesB;rw[List.all_eq_true];intro x hx;rw[List.eq_of_mem_replicate hx];rfl
 |k+1=>by
  have ih:=put_bytes (P:=P) (n:=n) hs k;unfold bytesB at ih⊢;rw[List.all_eq_true]at ih⊢
  intro x hx;rw[putC]at hx
  rcases List.mem_or_eq_of_mem_set hx with h|rfl
  ·exact ih x h
  ·have:=getD_bytes hs k;rw[Bool.and_eq_true,decide_eq_true_eq,decide_eq_true_eq];exact this
theorem pick_entry(hb:bytesB l=true)(hl:l.length=r*c)(hr:r<=64)(hc:c<=64){i j:Nat}(hi:i<(fstP r c l).length)(hj:j<c):entry (rowsOf c (fstP r c l).length (pickL c l (fstP r c l))) i j=entry (rowsOf c r l) (pv (fstP r c l) i) j:=by
 have hin:=fst_in hb hl hr hc;have hU:=(flat_rowsOf r l hl).2;have hf:U ((fstP r c l).map fun x=>(rowsOf c r l).getD x.toNat []) c:=fun y hy=>by
  obtain⟨x,hx,rfl⟩:=List.mem_map.1 hy;exact hU.at zba
 have e:=rows_flat hf;rw[List.length_map]at e
 rw[pick_rows hl hin,e];have e3:((fstP r c l).map fun x=>(rowsOf c r l).getD x.toNat []).getD i [] =(rowsOf c r l).getD (pv (fstP r c l) i) []:=by
  unfold pv;rw[List.getD_eq_getElem?_getD,List.getElem?_map,List.getD_eq_getElem?_getD (l:=fstP r c l),List.getElem?_eq_getElem hi];rfl
 unfold entry;rw[e3]
theorem trans_dot(hl:l.length=r*c){j:Nat}(hj:j<c)(x:Vec):dot r (mv (rowsOf r c (transL r c l)) r j) x=lc (mv (rowsOf c r l) c) r x j:=by
 refine sm_congr fun b hb=>?_;rw[mv_at hb,trans_entry hl hj hb,mv_at hj,mul_comm]
theorem pick_dot(hb:bytesB l=true)(hl:l.length=r*c)(hr:r<=64)(hc:c<=64){j:Nat}(hj:j<c)(x:Vec):
 dot (fstP r c l).length (mv (rowsOf (fstP r c l).length c (transL (fstP r c l).length c (pickL c l (fstP r c l)))) (fstP r c l).length j) x=lc (fun i=>mv (rowsOf c r l) c (pv (fstP r c l) i)) (fstP r c l).length x j:=by
 rw[trans_dot (pick_len hl (fst_in hb hl hr hc)) hj];refine sm_congr fun i hi=>?_;show x i*mv (rowsOf c (fstP r c l).length (pickL c l (fstP r c l))) c i j=x i*mv (rowsOf c r l) c (pv (fstP r c l) i) j;rw[mv_at hj,mv_at hj,pick_entry hb hl hr hc hi hj]
theorem fst_span(hb:bytesB l=true)(hl:l.length=r*c)(hr:r<=64)(hc:c<=64){v:Vec}(hv:Span (mv (rowsOf c r l) c) r v):Span (fun i=>mv (rowsOf c r l) c (pv (fstP r c l) i)) (fstP r c l).length v:=by
 have h:=trans_rr hb hl hr hc;have hn:=rowsOf_length r c (transL r c l);refine span_trans (fun b hbr=>?_) hv;have h1:=h.rr.col_span (N:=mv (rowsOf r c (transL r c l)) r) (fun v=>(h.span v).symm) (b:=b) (c:=r) hbr hbr;rw[below_all _ h.lt,hn,col_trans hl hbr]at h1
 exact(span_congr (fun i hi=>col_trans hl (h.lt i hi)) _).1 h1
theorem cmb_good(hb:bytesB l=true)(hl:l.length=r*c)(hr:r<=64)(hc:c<=64)(hy:y.length=c)(hyb:bytesB y=true)(hv:Span (mv (rowsOf c r l) c) r (vv y)):
 (cmbR r c l y).2=(true,0)/\(cmbR r c l y).1.length=r/\bytesB (cmbR r c l y).1=true/\lc (mv (rowsOf c r l) c) r (vv (cmbR r c l y).1)=vv y:=by
 have hPl:=fst_len hb hl hr hc;have D:(fstP r c l).length<=64:=by omega
 have hpl:=pick_len hl (fst_in hb hl hr hc);have hpb:=trans_bytes (r:=(fstP r c l).length) (c:=c) (pick_bytes (c:=c) hb (fstP r c l));have htl:=trans_length (fstP r c l).length c (pickL c l (fstP r c l));have hri:=trans_rr hb hl hr hc;obtain⟨x,hx⟩:=fst_span hb hl hr hc hv;have hok:(cmbS r c l y).2.1=true:=solR_complete hpb htl hc D hy hyb (x:=x) fun j hj=>by rw[pick_dot hb hl hr hc hj,hx]
 have hs:=solR_sound hpb htl hc D hy hyb hok;have hsl:=solR_len _ _ _ _ hok;have hsb:=solR_bytes hpb htl hc D hy hyb hok;have e:cmbR r c l y=(putC (fstP r c l) (cmbS r c l y).1 r (fstP r c l).length,true,0):=by unfold cmbR;rw[if_pos hok]
 rw[e];refine⟨rfl,putC_length _ _ _ _,put_bytes hsb _,?_⟩;show lc _ r (vv (putC (fstP r c l) (cmbS r c l y).1 r (fstP r c l).length))=_;rw[vv_put hri.nat hri.lt hri.mono,lc_pick hri.lt]
 funext j
 by_cases hj:j<c
 ·rw[<-pick_dot hb hl hr hc hj];exact hs j hj
 ·rw[vv_out za];exact sm_zero fun i hi=>by
   show _*mv (rowsOf c r l) c (pv (fstP r c l) i) j=0;rw[mv_out hj,mul_zero]
end
def sel(p:Nat->Bool)(n:Nat):Nat:=ofL ((List.range n).filter p)
theorem sel_zero(p:Nat->Bool):sel p 0=0:=rfl
theorem sel_succ(p:Nat->Bool)(n:Nat):sel p (n+1)=if p n=true then sel p n|||2^n else sel p n:=by
 unfold sel;rw[List.range_succ,List.filter_append];by_cases h:p n=true
 ·rw[if_pos h,show List.filter p [n] = [n]from by simp[h],ofL_snoc]
 ·rw[if_neg h,show List.filter p [n] = []from by simp[h],List.append_nil]
theorem sel_bit(p:Nat->Bool)(n i:Nat):(sel p n).testBit i=(decide (i<n)&&p i):=by
 unfold sel;rw[testBit_ofL,Bool.eq_iff_iff,Bool.and_eq_true,decide_eq_true_eq,decide_eq_true_eq,List.mem_filter,List.mem_range]
theorem sel_lt(p:Nat->Bool){n:Nat}(h:n<=64):sel p n<2^64:=ofL_lt _ fun i hi=>by
 have:=List.mem_range.1 (List.mem_filter.1 hi).1;omega
theorem sel_Bit(p:Nat->Bool)(n i:Nat):Bit (sel p n) i↔i<n/\p i=true:=by
 unfold Bit;rw[sel_bit,Bool.and_eq_true,decide_eq_true_eq]
theorem or_one{s i:Nat}(hs:s<2^64)(hi:i<64):Go.bits .or .u64 (s:Int) ((2^i:Nat):Int)=((s|||2^i:Nat):Int):=bor hs (pow_lt hi)
theorem lt_one{s i:Nat}(hs:s<2^64)(hi:i<64):s|||2^i<2^64:=lt_or hs (pow_lt hi)
theorem not_one{s i:Nat}(hs:s<2^64)(hi:i<64):Go.bits .andNot .u64 (s:Int) ((2^i:Nat):Int)=((wo s (2^i):Nat):Int):=bandNot hs (pow_lt hi)
theorem bit_or_one(s i k:Nat):Bit (s|||2^i) k↔Bit s k∨k=i:=by rw[bit_or,bit_one]
theorem bit_wo_one{s i:Nat}(hs:s<2^64)(hi:i<64)(k:Nat):Bit (wo s (2^i)) k↔Bit s k/\k≠i:=by rw[bit_wo hs (pow_lt hi),bit_one]
theorem bit_ext{s t:Nat}(h: ∀i,Bit s i↔Bit t i):s=t:=Nat.eq_of_testBit_eq fun i=>Bool.eq_iff_iff.2 (h i)
theorem val_one{r s i:Nat}(hr:r<=64)(hs:s<2^64)(h:Val r s)(hi:i<r):Val r (s|||2^i):=by
 rw[val_bit (lt_one hs za)];intro k hk;rcases(bit_or_one s i k).1 hk with h1|h1
 ·exact(val_bit hs).1 h k h1
 ·omega
section
variable {r c s:Nat} {l:List Int}
def spP(c:Nat)(l:List Int)(s:Nat):Nat->Bool:=fun i=>decide (rho c l (s|||2^i)=rho c l s)
def spn(r c:Nat)(l:List Int)(s:Nat):Nat:=sel (spP c l s) r
theorem wstep{i:Nat}(h:i<=64):wrap64 ((i:Int)+1)=((i+1:Nat):Int):=by rw[w64 za za];omega
theorem one_in{s i:Nat}(h:Bit s i):s|||2^i=s:=bit_ext fun k=>by
 rw[bit_or_one];constructor
 ·rintro(h1|rfl)
  ·exact h1
  ·exact h
 ·exact .inl
theorem spn_in(hs:s<2^64)(h:Val r s):s|||spn r c l s=spn r c l s:=bit_ext fun k=>by
 rw[bit_or];unfold spn;rw[sel_Bit];constructor
 ·rintro(h1|h1)
  ·exact⟨(val_bit hs).1 h k h1,by unfold spP;rw[one_in h1];exact decide_eq_true rfl⟩
  ·exact h1
 ·exact .inr
theorem Span_l0(hb:bytesB l=true)(hl:l.length=r*c)(hr:r<=64)(hc:c<=64)(hs:s<2^64)(h:Val r s): ∀d i:Nat,i+d=r->
 Ends (fun k=>matroid_Span.l0 k (s:Int) (rho c l s:Int) ((s|||sel (spP c l s) i:Nat):Int) (r:Int) (i:Int) (r:Int) (c:Int) l) ((spn r c l s:Int),0):=by
 intro d
 induction d with
 |zero=>
  intro i hi;obtain rfl:i=r:=by omega
  refine Ends.succ (fun k=>by rw[matroid_Span.l0]) ?_;refine Ends.neg za (Ends.const ?_);rw[show s|||sel (spP c l s) i=spn i c l s from spn_in hs h]
 |succ d ih=>
  intro i hi;have ihn:=ih (i+1) za;rw[sel_succ,<-wstep za]at ihn
  refine Ends.succ (fun k=>by rw[matroid_Span.l0]) ?_;refine Ends.pos za (Ends.bind1 (Has_eq hs _) ?_);rw[Int.toNat_natCast];by_cases e:s.testBit i=true
  ·rw[if_pos (by unfold spP;rw[one_in e];exact decide_eq_true rfl),<-Nat.or_assoc,Nat.or_comm s,Nat.or_assoc,one_in e,Nat.or_comm _ s]at ihn
   exact Ends.pos (by simp[e]) ihn
  ·refine Ends.neg (by simp[e]) (Ends.pos za ?_);rw[shl_one za,or_one hs za];refine Ends.bind (Rank7 hb hl hr hc (lt_one hs za) (val_one hr hs h za)) ?_;by_cases e:rho c l (s|||2^i)=rho c l s
   ·rw[if_pos (by unfold spP;exact decide_eq_true e),<-Nat.or_assoc]at ihn
    refine Ends.pos (by show((rho c l (s|||2^i):Nat):Int)=_;rw[e]) ?_;rw[or_one (lt_or hs (sel_lt _ za)) za];exact ihn
   ·rw[if_neg (by unfold spP;simpa using e)]at ihn
    exact Ends.neg (by show¬((rho c l (s|||2^i):Nat):Int)=_;omega) ihn
theorem Span7(hb:bytesB l=true)(hl:l.length=r*c)(hr:r<=64)(hc:c<=64)(hs:s<2^64)(h:Val r s):Ends (fun k=>matroid_Span.f k (r:Int) (c:Int) l (s:Int)) ((spn r c l s:Int),0):=by
 unfold matroid_Span.f;refine Ends.bind (Rank7 hb hl hr hc hs h) (Ends.pos rfl ?_);have:=Span_l0 hb hl hr hc hs h r 0 za;rw[sel_zero,Nat.or_zero]at this
 exact this
theorem setL_at(s:Nat){i:Nat}(hi:i<(setL s).length):(setL s).getD i 0∈setL s:=by
 rw[List.getD_eq_getElem?_getD,List.getElem?_eq_getElem hi];exact List.getElem_mem hi
theorem rd_setL(s:Nat){i:Nat}(hi:i<(setL s).length):rd (ints (setL s)) (i:Int)=(((setL s).getD i 0:Nat):Int):=by
 rw[rd_ints _ _ hi,List.getD_eq_getElem?_getD,List.getElem?_eq_getElem hi];rfl
end
theorem rkS_or1(b:Nat->Vec)(r s i:Nat):rkS b r (Bit (s|||2^i))=rkS b r (fun k=>Bit s k∨k=i):=congrArg _ (funext fun k=>propext (bit_or_one s i k))
section
variable {r c s:Nat} {l:List Int}
theorem spn_bit(hb:bytesB l=true)(hl:l.length=r*c)(hr:r<=64)(hc:c<=64)(hs:s<2^64)(h:Val r s)(i:Nat):Bit (spn r c l s) i↔i<r/\Sp (mv (rowsOf c r l) c) r (Bit s) (mv (rowsOf c r l) c i):=by
 unfold spn;rw[sel_Bit];refine and_congr_right fun hi=>?_;unfold spP;rw[decide_eq_true_eq,rho_rk hb hl hr hc hs h,rho_rk hb hl hr hc (lt_one hs za) (val_one hr hs h hi),rkS_or1];exact rkS_in hi
theorem spn_lt(hr:r<=64):spn r c l s<2^64:=sel_lt _ hr
theorem pk_row'(hl:l.length=r*c)(h:Val r s){k:Nat}(hk:k<(setL s).length):mv (rowsOf c (setL s).length (pk c l s)) c k=mv (rowsOf c r l) c ((setL s).getD k 0):=pk_row hl h hk
end
section
variable {r c s:Nat} {l y:List Int}
theorem row_vv(hl:l.length=r*c){b:Nat}(hbr:b<r):rowSeg (c:Int) l (b:Int)=(rowsOf c r l).getD b []/\(rowSeg (c:Int) l (b:Int)).length=c/\vv (rowSeg (c:Int) l (b:Int))=mv (rowsOf c r l) c b:=by
 have e1:rowSeg (c:Int) l (b:Int)=(rowsOf c r l).getD b []:=seg_row hl (x:=(b:Int)) ⟨by omega,by omega⟩;have e2:((rowsOf c r l).getD b []).length=c:=(flat_rowsOf r l hl).2.at (by rw[rowsOf_length];exact hbr);refine⟨e1,by rw[e1];exact e2,?_⟩
 funext j
 by_cases hj:j<c
 ·rw[mv_at hj,e1];rfl
 ·rw[mv_out hj,vv_out (by rw[e1];omega)]
theorem row_bytes(hb:bytesB l=true)(i:Nat):bytesB (rowSeg (c:Int) l (i:Int))=true:=bytesB_sub hb _ _
theorem rows_pk(hl:l.length=r*c)(h:Val r s)(x:Nat->El):lc (mv (rowsOf c (setL s).length (pk c l s)) c) (setL s).length x=lc (rowsL (mv (rowsOf c r l) c) (setL s)) (setL s).length x:=lc_congr (fun k hk=>pk_row' hl h hk) fun _ _=>rfl
theorem list_val(hs:s<2^64)(h:Val r s)(i:Nat):i∈setL s↔Bit s i/\i<r:=mem_bit hs h i
open Classical in
end
section
variable {r c s:Nat} {l:List Int}
theorem row19(hl:l.length=r*c)(hr:r<=64)(hc:c<=64){b:Nat}(hbr:b<r):shape_rows_row.f (r:Int) (c:Int) l (b:Int)=some (rowSeg (c:Int) l (b:Int)):=by
 unfold shape_rows_row.f;rw[if_pos ⟨by omega,by omega,by omega,by omega,by omega,by rw[Int.toNat_natCast,Int.toNat_natCast];exact hl⟩]
theorem span_pk(hl:l.length=r*c)(hs:s<2^64)(h:Val r s)(v:Vec):Span (mv (rowsOf c (setL s).length (pk c l s)) c) (setL s).length v↔Sp (mv (rowsOf c r l) c) r (Bit s) v:=by
 rw[<-sp_list (b:=mv (rowsOf c r l) c) (L:=setL s) (n:=r) (A:=Bit s) (fun i=>list_val hs h i) (fun i hi=>(val_bit hs).1 h i hi) v];constructor
 ·rintro⟨x,hx⟩;exact⟨x,by rw[hx,rows_pk hl h x]⟩
 ·rintro⟨x,hx⟩;exact⟨x,by rw[hx,rows_pk hl h x]⟩
end
def el2:El:=⟨2#8⟩
theorem dbl_all: ∀a:Fin 256,toE (field_build.dbl (a.val:Int))=el2*toE (a.val:Int)/\0<=field_build.dbl (a.val:Int)/\field_build.dbl (a.val:Int)<256:=by decide+kernel
theorem half_all: ∀b:Fin 256,toE (b.val:Int)=el2*toE ((b.val:Int) / 2)+(if Go.bits .and .u8 (b.val:Int) 1=0 then 0 else 1):=by decide+kernel
theorem dbl_el{a:Int}(h:0<=a/\a<256):toE (field_build.dbl a)=el2*toE a/\0<=field_build.dbl a/\field_build.dbl a<256:=by
 obtain⟨n,rfl⟩:=Int.eq_ofNat_of_zero_le h.1;exact dbl_all ⟨n,by omega⟩
theorem half_el{b:Int}(h:0<=b/\b<256):toE b=el2*toE (b / 2)+(if Go.bits .and .u8 b 1=0 then 0 else 1):=by
 obtain⟨n,rfl⟩:=Int.eq_ofNat_of_zero_le h.1;exact half_all ⟨n,by omega⟩
theorem Mul_l0_ex: ∀(k:Nat) (a b p:Int),0<=a/\a<256->0<=b/\b<256->b<2^k->0<=p/\p<256-> ∃r,field_Mul.l0 (k+1) a b p=some r/\(0<=r/\r<256)/\toE r=toE p+toE a*toE b:=by
 intro k
 induction k with
 |zero=>
  intro a b p ha hb hk hp;have e:b=0:=by
   have:b<1:=hk;omega
  exact⟨p,by unfold field_Mul.l0;rw[if_pos e],hp,by rw[e,toE_zero,mul_zero,add_zero]⟩
 |succ k ih=>
  intro a b p ha hb hk hp;by_cases e:b=0
  ·exact⟨p,by unfold field_Mul.l0;rw[if_pos e],hp,by rw[e,toE_zero,mul_zero,add_zero]⟩
  obtain⟨hd,G,I⟩:=dbl_el ha;have hh:=half_el hb;have D:0<=b / 2/\b / 2<256:=by omega
  have J:b / 2<2^k:=by
   rw[Int.pow_succ]at hk
   omega
  by_cases e2:Go.bits .and .u8 b 1=0
  case neg=>
   rw[if_neg e2]at hh
   obtain⟨r,h1,h2,h3⟩:=ih (field_build.dbl a) (b / 2) (Go.bits .xor .u8 p a) ⟨G,I⟩ D J (xor_range _ _);refine⟨r,?_,h2,?_⟩
   ·unfold field_Mul.l0;rw[if_neg e,if_neg e2,field_build.dbl_call,Option.bind_some];exact h1
   ·rw[h3,hd,hh,xor_el,mul_add,mul_one,mul_comm el2 (toE a),mul_assoc,add_assoc,add_comm (toE a) (toE a*_)]
  rw[if_pos e2]at hh
  obtain⟨r,h1,h2,h3⟩:=ih (field_build.dbl a) (b / 2) p ⟨G,I⟩ D J hp;refine⟨r,?_,h2,?_⟩
  ·unfold field_Mul.l0;rw[if_neg e,if_pos e2,field_build.dbl_call,Option.bind_some];exact h1
  ·rw[h3,hd,hh,add_zero,mul_comm el2 (toE a),mul_assoc]
theorem mul19{a b:Int}(ha:0<=a/\a<256)(hb:0<=b/\b<256): ∃r,Ends (fun k=>field_Mul.f k a b) r/\(0<=r/\r<256)/\toE r=toE a*toE b:=by
 obtain⟨r,h1,h2,h3⟩:=Mul_l0_ex 8 a b 0 ha hb (by have:(2:Int)^8=256:=by decide
                                                 omega) zb
 refine⟨r,Ends.of_mono (fun k=>field_Mul.mono a b k) (K:=9) h1,h2,?_⟩;rw[h3,toE_zero,zero_add]
theorem div19{a b:Int}(ha:0<=a/\a<256)(hb:0<=b/\b<256)(h0:b≠0): ∃r,Ends (fun k=>field_Div.f k a b) (r,0)/\(0<=r/\r<256)/\toE r=toE a*(toE b).inv:=by
 obtain⟨hi,hir⟩:=inv_some hb h0;obtain⟨r,h1,h2,h3⟩:=mul19 ha hir;refine⟨r,?_,h2,by rw[h3,invT_el hb h0]⟩;unfold field_Div.f;exact Ends.bind1 hi (Ends.pos rfl (Ends.bind h1 (Ends.const rfl)))
theorem mac19{o:Int}{lk lt:List Int}(ho:0<=o/\o<256)(hl:bytesB lt=true)(he:lk.length=lt.length)(hn:lt.length<=64):Ends (fun k=>field_Mac.f k lk o lt) (xorL (lt.map (mulT o)) lk,0):=
 Ends.of_mono (fun k=>field_Mac.mono lk o lt k) (mac_f ho hl he za)
theorem bytes_at{l:List Int}(h:bytesB l=true)(j:Nat):0<=l.getD j 0/\l.getD j 0<256:=by
 by_cases hj:j<l.length
 ·exact bytesB_at h hj
 rw[List.getD_eq_getElem?_getD,List.getElem?_eq_none za];decide
theorem vv_mac{o:Int}{lk lt:List Int}(ho:0<=o/\o<256)(hk:bytesB lk=true)(hl:bytesB lt=true)(he:lk.length=lt.length):vv (xorL (lt.map (mulT o)) lk)=fun j=>vv lk j+toE o*vv lt j:=by
 funext j
 by_cases hj:j<lt.length
 case neg=>
  have hx:(xorL (lt.map (mulT o)) lk).length=lk.length:=by
   have:=length_xor (a:=lt.map (mulT o)) (b:=lk) zp;omega
  rw[vv_out za,vv_out za,vv_out za,mul_zero,add_zero]
 show toE ((xorL (lt.map (mulT o)) lk).getD j 0)=_;rw[xor_getD (by rw[List.length_map];exact hj) za,xor_el,add_comm]
 congr 1
 have:(lt.map (mulT o)).getD j 0=mulT o (lt.getD j 0):=by
  rw[List.getD_eq_getElem?_getD,List.getD_eq_getElem?_getD,List.getElem?_map,List.getElem?_eq_getElem hj];rfl
 rw[this,mulT_el ho (bytes_at hl j)];rfl
def leadF:List Int->Nat->Int
 | [],_=> -1
 |x::r,i=>if x=0 then leadF r (i+1)else(i:Int)
theorem lead_spec: ∀(l:List Int) (i:Nat),(leadF l i= -1/\ ∀j,l.getD j 0=0)∨ ∃p,p<l.length/\leadF l i=((i+p:Nat):Int)/\l.getD p 0≠0
 | [],i=> .inl ⟨rfl,fun j=>by simp⟩
 |x::r,i=>by
  unfold leadF;by_cases hx:x=0
  case neg=>rw[if_neg hx];exact .inr ⟨0,by simp,by simp,by simpa using hx⟩
  rw[if_pos hx];rcases lead_spec r (i+1)with⟨h1,h2⟩|⟨p,h1,h2,h3⟩
  ·refine .inl ⟨h1,fun j=>?_⟩
   cases j with
   |zero=>exact hx
   |succ j=>simpa using h2 j
  ·exact .inr ⟨p+1,by simpa using h1,by rw[h2];omega,by simpa using h3⟩
theorem lead_l0{l:List Int}(hl:l.length<=64): ∀d i:Nat,i+d=l.length->Ends (fun k=>local_lead.l0 k l (l.length:Int) (i:Int)) (leadF (l.drop i) i):=by
 intro d
 induction d with
 |zero=>
  intro i hi;obtain rfl:i=l.length:=by omega
  refine Ends.succ (fun k=>by rw[local_lead.l0]) ?_;rw[List.drop_length];exact Ends.neg za (Ends.const rfl)
 |succ d ih=>
  intro i hi;have hi':i<l.length:=by omega
  have ihn:=ih (i+1) za;rw[<-wstep za]at ihn
  rw[List.drop_eq_getElem_cons hi'];refine Ends.succ (fun k=>by rw[local_lead.l0]) ?_;refine Ends.pos za (Ends.pos za (Ends.pos za ?_));rw[rd_nat,List.getD_eq_getElem?_getD,List.getElem?_eq_getElem hi',Option.getD_some];unfold leadF;by_cases hx:l[i] =0
  case neg=>rw[if_neg hx];exact Ends.neg hx (Ends.const rfl)
  rw[if_pos hx];exact Ends.pos hx ihn
theorem lead_ends{l:List Int}(hl:l.length<=64):Ends (fun k=>local_lead.f k l) (leadF l 0):=by
 unfold local_lead.f;exact lead_l0 hl l.length 0 za
def pivN(l:List Int):Nat:=(leadF l 0).toNat
theorem piv_some{l:List Int}(h:0<=leadF l 0):leadF l 0=(pivN l:Int)/\pivN l<l.length/\l.getD (pivN l) 0≠0:=by
 rcases lead_spec l 0 with⟨h1,_⟩|⟨p,h1,h2,h3⟩
 ·omega
 ·have e:pivN l=p:=by unfold pivN;rw[h2];omega
  rw[e];exact⟨by rw[h2];omega,h1,h3⟩
theorem lead_none{l:List Int}(h:leadF l 0<0):vv l=zv:=by
 rcases lead_spec l 0 with⟨_,h1⟩|⟨p,_,h2,_⟩
 ·funext j
  show toE (l.getD j 0)=0;rw[h1 j];rfl
 ·omega
structure BRow (c:Nat) (u:List Int):Prop where
 len:u.length=c
 byt:bytesB u=true
 lead:0<=leadF u 0
def vr(acc:List (List Int)):Nat->Vec:=fun i=>vv (acc.getD i [])
def Ech(acc:List (List Int)):Prop:= ∀i q,q<i->i<acc.length->vr acc i (pivN (acc.getD q []))=0
section
variable {c:Nat} {acc:List (List Int)}
theorem brow_at(hR: ∀u∈acc,BRow c u){i:Nat}(hi:i<acc.length):BRow c (acc.getD i []):=by
 rw[List.getD_eq_getElem?_getD,List.getElem?_eq_getElem hi];exact hR _ (List.getElem_mem hi)
theorem left_l0(hc:c<=64)(hR: ∀u∈acc,BRow c u)(hE:Ech acc)(hlen:acc.length<=64): ∀(d i:Nat) (v:List Int),i+d=acc.length->v.length=c->bytesB v=true->(∀q,q<i->vv v (pivN (acc.getD q []))=0)->
 ∃v',Ends (fun k=>local_basis_left.l0 k v acc (acc.length:Int) (i:Int)) v'/\v'.length=c/\bytesB v'=true/\(∀q,q<acc.length->vv v' (pivN (acc.getD q []))=0)/\Span (vr acc) acc.length (fun j=>vv v j+vv v' j):=by
 intro d
 induction d with
 |zero=>
  intro i v hi hv hb hz;obtain rfl:i=acc.length:=by omega
  refine⟨v,?_,hv,hb,hz,?_⟩
  ·refine Ends.succ (fun k=>by rw[local_basis_left.l0]) ?_;exact Ends.neg za (Ends.const rfl)
  ·rw[show(fun j=>vv v j+vv v j)=zv from funext fun j=>add_self _];exact span_zero _ _
 |succ d ih=>
  intro i v hi hv hb hz;have hi':i<acc.length:=by omega
  have hu:=brow_at hR hi';obtain⟨u,eu⟩: ∃u,u=acc.getD i []:=⟨_,rfl⟩
  rw[<-eu]at hu
  obtain⟨p1,p2,p3⟩:=piv_some hu.lead;obtain⟨p,ep⟩: ∃p,p=pivN u:=⟨_,rfl⟩
  rw[<-ep]at p1 p2 p3
  have hpc:p<c:=by rw[<-hu.len];exact p2
  obtain⟨o,O,I,G⟩:=div19 (bytes_at hb p) (bytes_at hu.byt p) p3;have hvu:vr acc i=vv u:=by unfold vr;rw[eu]
  have hup:vv u p≠0:=toE_ne (bytes_at hu.byt p) p3;have heq:rd_L3 acc (i:Int)=u:=by unfold rd_L3;rw[Int.toNat_natCast,eu]
  have hstep: ∀v2,Ends (fun k=>if o=0 then local_basis_left.l0 k v acc (acc.length:Int) (wrap64 ((i:Int)+1))else(field_Mac.f k v o u).bind fun bt=>local_basis_left.l0 k bt.1 acc (acc.length:Int) (wrap64 ((i:Int)+1))) v2->
   Ends (fun k=>local_basis_left.l0 k v acc (acc.length:Int) (i:Int)) v2:=fun v2 h2=>by
   refine Ends.succ (fun k=>by rw[local_basis_left.l0]) ?_;refine Ends.pos za (Ends.pos za (Ends.pos za ?_));rw[heq];refine Ends.bind (lead_ends (by rw[hu.len];exact hc)) ?_;rw[p1];refine Ends.pos za (Ends.pos za (Ends.pos za ?_));rw[rd_nat,rd_nat];exact Ends.bind O h2
  by_cases h0:o=0
  ·have hvp:vv v p=0:=by
    rw[h0,toE_zero]at G
    rcases mul_eq_zero G.symm with h|h
    ·exact h
    ·exact absurd h (inv_ne hup)
   obtain⟨v',h1,h2,h3,h4,h5⟩:=ih (i+1) v za hv hb (fun q hq=>by
    by_cases e:q=i
    ·rw[e,<-eu,<-ep];exact hvp
    ·exact hz q za)
   rw[<-wstep (i:=i) za]at h1
   exact⟨v',hstep v' (Ends.pos h0 h1),h2,h3,h4,h5⟩
  obtain⟨v2,D⟩: ∃v2,v2=xorL (u.map (mulT o)) v:=⟨_,rfl⟩
  have hvm:vv v2=fun j=>vv v j+toE o*vv u j:=by rw[D];exact vv_mac I hb hu.byt (by rw[hv,hu.len])
  have J:v2.length=c:=by
   rw[D,length_xor (by rw[List.length_map,hu.len,hv])];exact hv
  obtain⟨v',h1,h2,h3,h4,h5⟩:=ih (i+1) v2 za J (by rw[D];exact bytesB_xor _ _) (fun q hq=>by
   rw[hvm];by_cases e:q=i
   ·rw[e,<-eu,<-ep];show vv v p+toE o*vv u p=0;rw[G,mul_assoc];show vv v p+vv v p*((vv u p).inv*vv u p)=0;rw[inv_mul hup,mul_one];exact add_self _
   ·show vv v _+toE o*vv u _=0;rw[hz q za,<-hvu,hE i q za hi',mul_zero,add_zero])
  rw[<-wstep (i:=i) za]at h1
  refine⟨v',hstep v' (Ends.neg h0 (Ends.bind (mac19 I hu.byt (by rw[hv,hu.len]) (by rw[hu.len];exact hc)) ?_)),h2,h3,h4,?_⟩
  ·rw[<-D];exact h1
  ·have:(fun j=>vv v j+vv v' j)=fun j=>(vv v2 j+vv v' j)+toE o*vr acc i j:=by
    funext j
    rw[hvm,hvu];show vv v j+vv v' j=vv v j+toE o*vv u j+vv v' j+toE o*vv u j;rw[add_assoc (vv v j),add_comm (toE o*vv u j),add_assoc (vv v j),add_assoc (vv v' j),add_self,add_zero]
   rw[this];exact span_add h5 (span_mul _ (span_mem _ hi'))
theorem ech_zero(hE:Ech acc)(hR: ∀u∈acc,BRow c u){v:Vec}(hv:Span (vr acc) acc.length v)(hz: ∀q,q<acc.length->v (pivN (acc.getD q []))=0):v=zv:=by
 obtain⟨x,hx⟩:=hv;have h0: ∀i,i<acc.length->x i=0:=by
  intro i
  induction i using Nat.strongRecOn with
  |_ i ih=>
   intro hi;have hu:=brow_at hR hi;obtain⟨_,p2,p3⟩:=piv_some hu.lead;have h1:=hz i hi;rw[hx]at h1
   have h2:lc (vr acc) acc.length x (pivN (acc.getD i []))=x i*vr acc i (pivN (acc.getD i [])):=sm_one hi fun j hj hne=>by
    rcases Nat.lt_or_ge j i with h|h
    ·rw[ih j h hj,zero_mul]
    ·rw[hE j i za hj,mul_zero]
   rw[h2]at h1
   rcases mul_eq_zero h1 with h|h
   ·exact h
   ·exact absurd h (toE_ne (bytes_at hu.byt _) p3)
 rw[hx,lc_congr (c:=vr acc) (y:=fun _=>0) (fun _ _=>rfl) h0];exact lc_zero _ _
theorem left_ends(hc:c<=64)(hR: ∀u∈acc,BRow c u)(hE:Ech acc)(hlen:acc.length<=64){v:List Int}(hv:v.length=c)(hb:bytesB v=true):
 ∃v',Ends (fun k=>local_basis_left.f k acc v) v'/\v'.length=c/\bytesB v'=true/\(∀q,q<acc.length->vv v' (pivN (acc.getD q []))=0)/\Span (vr acc) acc.length (fun j=>vv v j+vv v' j)/\(leadF v' 0<0↔Span (vr acc) acc.length (vv v)):=by
 obtain⟨v',h1,h2,h3,h4,h5⟩:=left_l0 hc hR hE hlen acc.length 0 v za hv hb (fun q hq=>by omega);refine⟨v',h1,h2,h3,h4,h5,?_⟩;constructor
 ·intro h;rw[lead_none h]at h5
  have:(fun j=>vv v j+zv j)=vv v:=funext fun j=>add_zero _
  rwa [this]at h5
 ·intro h;have hs:=span_add h h5;have e:(fun j=>vv v j+(vv v j+vv v' j))=vv v':=funext fun j=>by rw[<-add_assoc,add_self,zero_add]
  rw[e]at hs
  have hz:=ech_zero hE hR hs h4;rcases lead_spec v' 0 with⟨h1,_⟩|⟨p,_,_,h6⟩
  ·omega
  ·have:=congrFun hz p;exact absurd this (toE_ne (bytes_at h3 p) h6)
end
theorem span_succ_iff(b:Nat->Vec)(n:Nat)(w:Vec):Span b (n+1) w↔ ∃(a:El) (u:Vec),Span b n u/\w=fun j=>u j+a*b n j:=by
 have e: ∀x:Nat->El,lc b (n+1) x=fun j=>lc b n x j+x n*b n j:=fun x=>by
  rw[<-lc_snoc b n (b n) x];refine lc_congr (fun i hi=>?_) fun _ _=>rfl;by_cases h:i<n
  case neg=>rw[show i=n from by omega,snoc_at]
  rw[snoc_lt h]
 constructor
 ·rintro⟨x,rfl⟩;exact⟨x n,lc b n x,⟨x,rfl⟩,e x⟩
 ·rintro⟨a,u,⟨x,rfl⟩,rfl⟩;refine⟨fun i=>if i<n then x i else a,?_⟩;rw[e]
  funext j
  rw[lc_congr (c:=b) (y:=x) (fun _ _=>rfl) (fun i hi=>if_pos hi),if_neg (Nat.lt_irrefl n)]
theorem alg2(u a x y:El):u+a*x=u+a*(x+y)+a*y:=by rw[mul_add,<-add_assoc u,add_assoc (u+a*x),add_self,add_zero]
theorem alg1(u a x y:El):u+a*y=u+a*(x+y)+a*x:=by rw[add_comm x y];exact alg2 u a y x
theorem vr_snoc(acc:List (List Int))(t:List Int)(w:Vec):Span (vr (acc++ [t])) (acc.length+1) w↔ ∃(a:El) (u:Vec),Span (vr acc) acc.length u/\w=fun j=>u j+a*vv t j:=by
 rw[span_succ_iff];have h1: ∀i,i<acc.length->vr (acc++ [t]) i=vr acc i:=fun i hi=>by
  unfold vr;rw[List.getD_eq_getElem?_getD,List.getD_eq_getElem?_getD,List.getElem?_append_left hi]
 have h2:vr (acc++ [t]) acc.length=vv t:=by
  unfold vr;rw[List.getD_eq_getElem?_getD,List.getElem?_append_right (Nat.le_refl _),Nat.sub_self];rfl
 rw[h2];constructor
 ·rintro⟨a,u,h,e⟩;exact⟨a,u,(span_congr h1 u).1 h,e⟩
 ·rintro⟨a,u,h,e⟩;exact⟨a,u,(span_congr h1 u).2 h,e⟩
section
variable {r c s:Nat} {l:List Int}
theorem lrow19(hl:l.length=r*c)(hr:r<=64)(hc:c<=64){b:Nat}(hbr:b<r):local_row.f (r:Int) (c:Int) l (b:Int)=some (rowSeg (c:Int) l (b:Int)):=row19 hl hr hc hbr
theorem repairs_l0(hb:bytesB l=true)(hl:l.length=r*c)(hr:r<=64)(hc:c<=64)(hs:s<2^64)(h:Val r s){b:Nat}(hbr:b<r): ∀(d i:Nat) (acc:List (List Int)),i+d=(setL s).length->acc.length<=i->(∀u∈acc,BRow c u)->Ech acc->
 (∀w,Span (vr acc) acc.length w↔Span (rowsL (mv (rowsOf c r l) c) (setL s)) i w)->
 ∃t,Ends (fun k=>local_repairs.l0 k (b:Int) acc (ints (setL s)) ((setL s).length:Int) (i:Int) (r:Int) (c:Int) l) t/\(t=true↔Span (rowsL (mv (rowsOf c r l) c) (setL s)) (setL s).length (mv (rowsOf c r l) c b)):=by
 have O:=setL_length s;intro d
 induction d with
 |zero=>
  intro i acc hi hai hR hE hS;obtain rfl:i=(setL s).length:=by omega
  obtain⟨e1,e2,e3⟩:=row_vv hl hbr;obtain⟨v',h1,_,h3,_,_,h6⟩:=left_ends (c:=c) hc hR hE za e2 (row_bytes hb b);have D:v'.length<=64:=by omega
  refine⟨decide (leadF v' 0<0),?_,?_⟩
  ·refine Ends.succ (fun k=>by rw[local_repairs.l0]) ?_;refine Ends.neg za (Ends.bind1 (lrow19 hl hr hc hbr) (Ends.bind h1 (Ends.bind (lead_ends D) (Ends.const rfl))))
  ·rw[decide_eq_true_eq,h6,e3,hS]
 |succ d ih=>
  intro i acc hi hai hR hE hS;have hi':i<(setL s).length:=by omega
  have hm:=setL_at s hi';have hxr:=h _ hm;obtain⟨x,ex⟩: ∃x,x=(setL s).getD i 0:=⟨_,rfl⟩
  rw[<-ex]at hxr
  obtain⟨e1,e2,e3⟩:=row_vv hl hxr;obtain⟨v',h1,h2,h3,h4,h5,h6⟩:=left_ends (c:=c) hc hR hE za e2 (row_bytes hb x);have D:v'.length<=64:=by omega
  have hrow:rowsL (mv (rowsOf c r l) c) (setL s) i=mv (rowsOf c r l) c x:=by unfold rowsL;rw[<-ex]
  have hstep: ∀t,Ends (fun k=>if leadF v' 0>=0 then(if acc.length<5864062014805 then local_repairs.l0 k (b:Int) (acc++ [v']) (ints (setL s)) ((setL s).length:Int) (wrap64 ((i:Int)+1)) (r:Int) (c:Int) l else none)else local_repairs.l0 k (b:Int) acc (ints (setL s)) ((setL s).length:Int) (wrap64 ((i:Int)+1)) (r:Int) (c:Int) l) t->
   Ends (fun k=>local_repairs.l0 k (b:Int) acc (ints (setL s)) ((setL s).length:Int) (i:Int) (r:Int) (c:Int) l) t:=fun t ht=>by
   refine Ends.succ (fun k=>by rw[local_repairs.l0]) ?_;refine Ends.pos za (Ends.pos za (Ends.pos zr ?_));rw[rd_setL s hi',<-ex];exact Ends.bind1 (lrow19 hl hr hc hxr) (Ends.bind h1 (Ends.bind (lead_ends D) ht))
  rw[e3]at h5 h6
  by_cases hld:0<=leadF v' 0
  case neg=>
   obtain⟨t,ht,htt⟩:=ih (i+1) acc za za hR hE (fun w=>by
    rw[hS,span_succ_iff,hrow];constructor
    ·intro hw';exact⟨0,w,hw',funext fun j=>by rw[zero_mul,add_zero]⟩
    ·rintro⟨a,u,hu,rfl⟩;exact span_add hu (span_mul a ((hS _).1 (h6.1 za))))
   rw[<-wstep (i:=i) za]at ht
   exact⟨t,hstep t (Ends.neg hld ht),htt⟩
  obtain⟨t,ht,htt⟩:=ih (i+1) (acc++ [v']) za zk (fun u hu=>by
   rcases List.mem_append.1 hu with h7|h7
   ·exact hR u h7
   ·rw[List.mem_singleton.1 h7];exact⟨h2,h3,hld⟩) (fun j q hq hj=>by
   have J:(acc++ [v']).getD q [] =acc.getD q []:=by
    rw[List.length_append,List.length_singleton]at hj
    rw[List.getD_eq_getElem?_getD,List.getD_eq_getElem?_getD,List.getElem?_append_left za]
   rw[J];by_cases G:j<acc.length
   ·have:vr (acc++ [v']) j=vr acc j:=by
     unfold vr;rw[List.getD_eq_getElem?_getD,List.getD_eq_getElem?_getD,List.getElem?_append_left G]
    rw[this];exact hE j q hq G
   ·have I:j=acc.length:=by
     rw[List.length_append,List.length_singleton]at hj
     omega
    have:vr (acc++ [v']) j=vv v':=by
     unfold vr;rw[I,List.getD_eq_getElem?_getD,List.getElem?_append_right (Nat.le_refl _),Nat.sub_self];rfl
    rw[this];exact h4 q za) (fun w=>by
   rw[List.length_append,List.length_singleton,vr_snoc,span_succ_iff,hrow];constructor
   ·rintro⟨a,u,hu,rfl⟩;refine⟨a,fun j=>u j+a*(mv (rowsOf c r l) c x j+vv v' j),(hS _).1 (span_add hu (span_mul a h5)),funext fun j=>?_⟩;exact alg1 _ _ _ _
   ·rintro⟨a,u,hu,rfl⟩;refine⟨a,fun j=>u j+a*(mv (rowsOf c r l) c x j+vv v' j),span_add ((hS _).2 hu) (span_mul a h5),funext fun j=>?_⟩;exact alg2 _ _ _ _)
  rw[<-wstep (i:=i) za]at ht
  exact⟨t,hstep t (Ends.pos hld (Ends.pos za ht)),htt⟩
theorem repairs19(hb:bytesB l=true)(hl:l.length=r*c)(hr:r<=64)(hc:c<=64)(hs:s<2^64)(h:Val r s){b:Nat}(hbr:b<r):
 ∃t,Ends (fun k=>local_repairs.f k (r:Int) (c:Int) l (b:Int) (s:Int)) t/\(t=true↔Sp (mv (rowsOf c r l) c) r (Bit s) (mv (rowsOf c r l) c b)):=by
 obtain⟨t,h1,h2⟩:=repairs_l0 hb hl hr hc hs h hbr (setL s).length 0 [] za (Nat.le_refl _) (fun u hu=>by cases hu) (fun i q _ hi=>absurd hi (Nat.not_lt_zero i)) (fun w=>by
  constructor
  ·rintro⟨x,hx⟩;exact⟨x,hx⟩
  ·rintro⟨x,hx⟩;exact⟨x,hx⟩)
 refine⟨t,?_,?_⟩
 ·unfold local_repairs.f;refine Ends.bind (List_eq hs) ?_;rw[ints_length];exact h1
 ·rw[h2,sp_list (b:=mv (rowsOf c r l) c) (L:=setL s) (n:=r) (A:=Bit s) (fun i=>list_val hs h i) (fun i hi=>(val_bit hs).1 h i hi)]
end
end Go.Proofs.YtjgcocfnilhggaaDoor.M
namespace Go.Proofs.YtjgcocfnilhggaaDoor.M
open RowKit
def binom:Nat->Nat->Nat
 |_,0=>1
 |0,_+1=>0
 |n+1,k+1=>binom n k+binom n (k+1)
theorem binom_zero(n:Nat):binom n 0=1:=by cases n<;>rfl
theorem binom_succ(n k:Nat):binom (n+1) (k+1)=binom n k+binom n (k+1):=rfl
theorem binom_lt: ∀ {n k:Nat},n<k->binom n k=0
 |0,0,h=>by omega
 |0,_+1,_=>rfl
 |n+1,0,h=>by omega
 |n+1,k+1,h=>by rw[binom_succ,binom_lt (show n<k by omega),binom_lt (show n<k+1 by omega)]
def rowN:Nat->List Nat
 |0=> [1]
 |n+1=>List.zipWith (· + ·) (0::rowN n) (rowN n++ [0])
theorem rowN_length: ∀n,(rowN n).length=n+1
 |0=>rfl
 |n+1=>by simp[rowN,rowN_length n]
theorem rowN_getD: ∀n k,(rowN n).getD k 0=binom n k
 |0,0=>rfl
 |0,k+1=>by simp[rowN,binom]
 |n+1,k=>by
  have hl:=rowN_length n;have ih:=rowN_getD n;have e:(rowN (n+1)).getD k 0=(0::rowN n).getD k 0+(rowN n++ [0]).getD k 0:=by
   simp only[rowN,List.getD_eq_getElem?_getD,List.getElem?_zipWith];by_cases h:k<n+2
   case neg=>rw[List.getElem?_eq_none (show(0::rowN n).length<=k by simp;omega),List.getElem?_eq_none (show(rowN n++ [0]).length<=k by simp;omega)];rfl
   rw[List.getElem?_eq_getElem (show k<(0::rowN n).length by simp;omega),List.getElem?_eq_getElem (show k<(rowN n++ [0]).length by simp;omega)];rfl
  have e2:(rowN n++ [0]).getD k 0=(rowN n).getD k 0:=by
   simp only[List.getD_eq_getElem?_getD];by_cases h:k<n+1
   ·rw[List.getElem?_append_left za]
   rw[List.getElem?_append_right za,List.getElem?_eq_none (show(rowN n).length<=k by omega)];by_cases h2:k=n+1
   case neg=>rw[List.getElem?_eq_none zk]
   subst h2;simp[hl]
  rw[e,e2,ih]
  cases k with
  |zero=>simp[binom_zero]
  |succ k=>
   rw[binom_succ];have:=ih k;simp only[List.getD_cons_succ];rw[this]
theorem rows_small:((List.range 65).all fun n=>(rowN n).all fun x=>decide (x<=1832624140942590534))=true:=by decide+kernel
theorem binom_le{n:Nat}(hn:n<=64)(k:Nat):binom n k<=1832624140942590534:=by
 rw[<-rowN_getD n k];have h:=List.all_eq_true.1 rows_small n zk;rw[List.getD_eq_getElem?_getD];by_cases hk:k<(rowN n).length
 case neg=>rw[List.getElem?_eq_none za];simp
 rw[List.getElem?_eq_getElem hk];have:=List.all_eq_true.1 h _ (List.getElem_mem hk);simpa using this
def bz(n k:Int):Int:=if 0<=n/\0<=k then(binom n.toNat k.toNat:Nat)else 0
theorem bz_nat(n k:Nat):bz n k=(binom n k:Nat):=by simp[bz]
theorem bz_neg{n k:Int}(h:k<0):bz n k=0:=by unfold bz;rw[if_neg za]
theorem bz_over{n k:Int}(h:n<k):bz n k=0:=by
 unfold bz
 split
 ·rw[binom_lt za];rfl
 ·rfl
def us(n:Nat):Nat->Nat
 |0=>0
 |d+1=>us n d+binom n d
theorem us_mono(n:Nat){d e:Nat}(h:d<=e):us n d<=us n e:=by
 induction e with
 |zero=>obtain rfl:d=0:=by omega
        exact Nat.le_refl _
 |succ e ih=>
  rcases Nat.lt_or_ge d (e+1)with h1|h1
  ·have:=ih za;simp only[us];omega
  ·obtain rfl:d=e+1:=by omega
   exact Nat.le_refl _
end Go.Proofs.YtjgcocfnilhggaaDoor.M
namespace Go.Proofs.YtjgcocfnilhggaaDoor.M
def nxt(n:Nat):List Nat->Option (List Nat)
 | []=>none
 |x::r=>match nxt n r with
  |some r'=>some (x::r')
  |none=>if x+(r.length+1)<n then some (List.range' (x+1) (r.length+1))else none
end Go.Proofs.YtjgcocfnilhggaaDoor.M
namespace Go.Proofs.YtjgcocfnilhggaaDoor.M
open RowKit Q YtjgcocfnilhggaaDoorW.PrintWords YtjgcocfnilhggaaDoorW.PrintMore
theorem may_eq(n:Int):subset_may.f n=some (decide (0<=n)&&decide (n<=64)):=by
 unfold subset_may.f;by_cases h:0<=n
 case neg=>rw[if_neg h];simp[h]
 rw[if_pos h];simp[h]
theorem low_eq{n:Nat}(hn:n<=64):subset_low.f (n:Int)=some ((2^n-1:Nat):Int):=by
 unfold subset_low.f;rw[if_pos za]
 congr 1
 rcases Nat.lt_or_ge n 64 with h|h
 ·rw[shl_one h];have h1:2^n<2^64:=pow_lt h;have h0:0<2^n:=Nat.pow_pos zb;rw[wu64 za za];omega
 ·obtain rfl:n=64:=by omega
  rw[shl_one_64 za];decide
theorem refOf_l0{l:List Nat}(h: ∀x∈l,x<64)(hlen:l.length<=1000000)(d:Nat): ∀i,i+d=l.length->Ends (fun k=>recoupref06_Of.l0 k (ints l) ((ofL (l.take i):Nat):Int) (i:Int)) (((ofL l:Nat):Int),0):=by
 induction d with
 |zero=>
  intro i hi;refine Ends.succ (fun k=>by rw[recoupref06_Of.l0]) (Ends.neg zr (Ends.const ?_));rw[List.take_of_length_le za]
 |succ d ih=>
  intro i hi;have hil:i<l.length:=by omega
  have hx:=h _ (List.getElem_mem hil);refine Ends.succ (fun k=>by rw[recoupref06_Of.l0]) ?_;rw[rd_ints l i hil,show IntKind.u64.wrap ((l[i]:Nat):Int)=((l[i]:Nat):Int)from wu64 za za,show wrap64 ((i:Int)+1)=((i+1:Nat):Int)from by rw[w64 za za];omega];refine Ends.pos zr (Ends.pos za (Ends.neg za (Ends.neg za (Ends.pos za ?_))));rw[shl_one hx,bor (ofL_lt _ fun j hj=>h j (List.mem_of_mem_take hj)) (pow_lt hx),<-ofL_snoc,<-List.take_succ_eq_append_getElem hil];exact ih (i+1) za
theorem refOf_eq{l:List Nat}(h: ∀x∈l,x<64)(hlen:l.length<=1000000):Ends (fun k=>recoupref06_Of.f k (ints l)) (((ofL l:Nat):Int),0):=by
 unfold recoupref06_Of.f;exact refOf_l0 h hlen _ 0 (Nat.zero_add _)
theorem refof_eq{l:List Nat}(h: ∀x∈l,x<64)(hlen:l.length<=1000000):Ends (fun k=>recoupref06_of.f k (ints l)) ((ofL l:Nat):Int):=by
 unfold recoupref06_of.f;exact Ends.bind (refOf_eq h hlen) (Ends.const rfl)
def run(x c:Nat):List Nat:=List.range' x c
def downN(l:List Nat)(n:Nat):Nat->Option Nat
 |0=>none
 |i+1=>if l.getD i 0+l.length<n+i then some i else downN l n i
def nextL(n:Nat)(l:List Nat):Option (List Nat):=(downN l n l.length).map fun i=>l.take i++run (l.getD i 0+1) (l.length-i)
theorem downN_lt{l:List Nat}{n i:Nat} : ∀m,downN l n m=some i->i<m/\l.getD i 0+l.length<n+i
 |0,h=>by cases h
 |m+1,h=>by
  unfold downN at h
  split at h
  ·injection h with h;subst h;exact⟨by omega,by assumption⟩
  ·have:=downN_lt m h;exact⟨by omega,this.2⟩
theorem down_eq{l:List Nat}{n:Nat} : ∀m,m<=l.length->subset_Next.down (ints l) (n:Int) m=downN l n m
 |0,_=>rfl
 |i+1,h=>by
  have ih:=down_eq (l:=l) (n:=n) i za;unfold subset_Next.down downN;rw[ih,ints_getD,ints_length];by_cases hc:l.getD i 0+l.length<n+i
  case neg=>rw[if_neg hc,if_neg za]
  rw[if_pos hc,if_pos za]
theorem fill_eq(c:Nat): ∀(out x:Nat),out<2^64->x+c<=64->subset_Next.fill c (out:Int) (x:Int)=((out|||ofL (run x c):Nat):Int):=by
 induction c with
 |zero=>intro out x _ _;simp[subset_Next.fill,run,ofL_nil]
 |succ c ih=>
  intro out x ho hx;unfold subset_Next.fill;rw[shl_one za,bor ho (pow_lt za),show((x:Int)+1)=((x+1:Nat):Int)from by omega,ih _ _ (lt_or ho (pow_lt za)) za,show run x (c+1)=x::run (x+1) c from List.range'_succ,ofL_cons,Nat.or_assoc]
theorem take_below{l:List Nat}(hs:l.Pairwise (· < ·))(hl: ∀x∈l,x<64){i:Nat}(hi:i<l.length):ofL l &&& (2^(l.getD i 0)-1)=ofL (l.take i):=by
 have hg:l.getD i 0=l[i]:=by rw[List.getD_eq_getElem?_getD,List.getElem?_eq_getElem hi];rfl
 apply Nat.eq_of_testBit_eq;intro j;rw[Nat.testBit_and,testBit_ofL,testBit_low,testBit_ofL,Bool.eq_iff_iff,Bool.and_eq_true,decide_eq_true_eq,decide_eq_true_eq,decide_eq_true_eq,hg];rw[List.pairwise_iff_getElem]at hs
 constructor
 ·rintro⟨h1,h2⟩;obtain⟨p,hp,rfl⟩:=List.mem_iff_getElem.1 h1;have hpi:p<i:=by
   rcases Nat.lt_trichotomy p i with h|h|h
   ·exact h
   ·subst h;omega
   ·have:=hs i p hi hp h;omega
  rw[List.mem_iff_getElem];exact⟨p,by rw[List.length_take];omega,by rw[List.getElem_take]⟩
 ·intro h;obtain⟨p,hp,rfl⟩:=List.mem_iff_getElem.1 h;rw[List.length_take]at hp
  rw[List.getElem_take];exact⟨List.getElem_mem _,hs p i za hi za⟩
def nextV(n:Int)(s:Nat):Int×Bool:=if setOk n s then match nextL n.toNat (setL s)with
 |some l=>(((ofL l:Nat):Int),true)
 |none=>(0,false)
 else(0,false)
theorem Next_eq(n:Int){s:Nat}(hs:s<2^64):Ends (fun k=>subset_Next.f k n (s:Int)) (nextV n s):=by
 unfold subset_Next.f;refine Ends.bind1 (may_eq n) ?_;by_cases hm:0<=n/\n<=64
 case neg=>refine Ends.neg (by simpa using hm) (Ends.const ?_);unfold nextV;rw[if_neg (fun h=>hm ⟨h.1,h.2.1⟩)]
 refine Ends.pos (by simpa using hm) ?_;obtain⟨m,rfl⟩:=Int.eq_ofNat_of_zero_le hm.1;have D:m<=64:=by omega
 refine Ends.bind1 (low_eq D) ?_;by_cases ha:setOk (m:Int) s
 case neg=>refine Ends.neg (fun h=>ha ((asked D hs).1 h)) (Ends.const ?_);unfold nextV;rw[if_neg ha]
 refine Ends.pos ((asked D hs).2 ha) ?_;refine Ends.bind (List_eq hs) (Ends.const ?_);have hsl:=setL_sorted s;have hin: ∀x∈setL s,x<m:=fun x hx=>by have:=ha.2.2 x hx;omega
 have hlen:=setL_length s;unfold subset_Next.behind nextV;rw[if_pos ha,if_pos,ints_length,Int.toNat_natCast]
 ·rw[down_eq _ (Nat.le_refl _)];unfold nextL
  cases hd:downN (setL s) m (setL s).length with
  |none=>rfl
  |some i=>
   obtain⟨h1,h2⟩:=downN_lt _ hd;have hg:(setL s).getD i 0=(setL s)[i]:=by rw[List.getD_eq_getElem?_getD,List.getElem?_eq_getElem h1];rfl
   have hx:=hin _ (List.getElem_mem h1);simp only[subset_Next.tail];rw[ints_getD,ints_length,low_eq za,Option.bind_some,band hs (low_lt za),show(((setL s).getD i 0:Nat):Int)+1=(((setL s).getD i 0+1:Nat):Int)from by omega,fill_eq _ _ _ (lt_and hs) za];simp only[Option.map_some];have h3:=take_below hsl (fun x hx=>by have:=hin x hx;omega) h1;rw[ofL_setL hs]at h3
   rw[h3]
   congr 2
   congr 1
   apply Nat.eq_of_testBit_eq;intro j;rw[Nat.testBit_or,testBit_ofL,testBit_ofL,testBit_ofL,Bool.eq_iff_iff,Bool.or_eq_true,decide_eq_true_eq,decide_eq_true_eq,decide_eq_true_eq,List.mem_append]
 ·unfold subset_Next.okB;simp only[Bool.and_eq_true,decide_eq_true_eq,List.all_eq_true,ints_length];refine⟨⟨⟨by omega,by omega⟩,hlen⟩,fun x hx=>?_⟩;unfold ints at hx;obtain⟨y,hy,rfl⟩:=List.mem_map.1 hx;have:=(mem_setL.1 hy).1;omega
def midL(l:List Nat)(i j:Nat):List Nat:=l.take i++run (l.getD i 0+1) (j-i)++l.drop j
theorem midL_length{l:List Nat}{i j:Nat}(hi:i<=j)(hj:j<=l.length):(midL l i j).length=l.length:=by
 simp[midL,run];omega
theorem midL_getD{l:List Nat}{i j:Nat}(hi:i<=j)(hj:j<l.length):(midL l i (j+1)).getD j 0=l.getD i 0+1+(j-i):=by
 unfold midL;rw[List.getD_eq_getElem?_getD,List.append_assoc,List.getElem?_append_right zq,List.getElem?_append_left (by simp[run];omega),run,List.length_take,List.getElem?_range' za];simp;omega
theorem midL_set{l:List Nat}{i j:Nat}(hi:i<=j)(hj:j<l.length):(midL l i j).set j (l.getD i 0+1+(j-i))=midL l i (j+1):=by
 unfold midL;have e1:(l.take i++run (l.getD i 0+1) (j-i)).length=j:=by simp[run];omega
 have e2:l.drop j=l[j]::l.drop (j+1):=(List.drop_eq_getElem_cons hj)
 rw[e2,List.set_append,if_neg za,e1,Nat.sub_self,List.set_cons_zero];have e3:run (l.getD i 0+1) (j+1-i)=run (l.getD i 0+1) (j-i)++ [l.getD i 0+1+(j-i)]:=by
  unfold run;rw[show j+1-i=(j-i)+1 from by omega,List.range'_concat];simp
 rw[e3];simp
theorem ints_set(l:List Nat)(i x:Nat):(ints l).set i (x:Int)=ints (l.set i x):=by simp[ints,List.map_set]
theorem refNext_l1{l:List Nat}{i:Nat}(hi:i<l.length)(hlen:l.length<=64)(hb:l.getD i 0+1+(l.length-i)<=64)(hl: ∀x∈l,x<64)(d:Nat): ∀j,j+d=l.length->i<j->
 Ends (fun k=>recoupref06_Next.l1 k (ints (midL l i j)) (j:Int)) (((ofL (midL l i l.length):Nat):Int),true):=by
 induction d with
 |zero=>
  intro j hj hij;obtain rfl:j=l.length:=by omega
  refine Ends.succ (fun k=>by rw[recoupref06_Next.l1]) (Ends.neg (by rw[ints_length,midL_length za za];omega) ?_);refine Ends.bind (refof_eq (fun x hx=>?_) (by rw[midL_length za za];omega)) (Ends.const rfl);unfold midL at hx;rw[List.mem_append,List.mem_append]at hx
  rcases hx with(hx|hx)|hx
  ·exact hl x (List.mem_of_mem_take hx)
  ·simp only[run,List.mem_range'_1]at hx;omega
  ·exact hl x (List.mem_of_mem_drop hx)
 |succ d ih=>
  intro j hj hij;refine Ends.succ (fun k=>by rw[recoupref06_Next.l1]) ?_;have hL:((ints (midL l i j)).length:Int)=l.length:=by rw[ints_length,midL_length za za]
  rw[hL,show wrap64 ((j:Int)-1)=((j-1:Nat):Int)from by rw[w64 za za];omega,show wrap64 ((j:Int)+1)=((j+1:Nat):Int)from by rw[w64 za za];omega];refine Ends.pos za (Ends.pos za (Ends.pos za (Ends.pos za ?_)));have hg:=midL_getD (l:=l) (i:=i) (j:=j-1) za za;rw[show j-1+1=j from by omega]at hg
  rw[rd_nat,ints_getD,hg,Int.toNat_natCast,show wrap64 (((l.getD i 0+1+(j-1-i):Nat):Int)+1)=((l.getD i 0+1+(j-i):Nat):Int)from by rw[w64 za za];omega,ints_set,midL_set za za];exact ih (j+1) za za
theorem midL_all{l:List Nat}{i:Nat}(hi:i<=l.length):midL l i l.length=l.take i++run (l.getD i 0+1) (l.length-i):=by simp[midL]
theorem refNext_l0{l:List Nat}{n:Nat}(hn:n<=64)(hlen:l.length<=64)(hl: ∀x∈l,x<n): ∀m,m<=l.length->
 Ends (fun k=>recoupref06_Next.l0 k (n:Int) (ints l) ((m:Int)-1)) (match (downN l n m).map fun i=>l.take i++run (l.getD i 0+1) (l.length-i)with|some m=>(((ofL m:Nat):Int),true)|none=>(0,false))
 |0,_=>by
  refine Ends.succ (fun k=>by rw[recoupref06_Next.l0]) ?_;exact Ends.neg za (Ends.const rfl)
 |i+1,hm=>by
  have ih:=refNext_l0 hn hlen hl i za;refine Ends.succ (fun k=>by rw[recoupref06_Next.l0]) ?_;have hil:i<l.length:=by omega
  have hg:l.getD i 0=l[i]:=by rw[List.getD_eq_getElem?_getD,List.getElem?_eq_getElem hil];rfl
  have hx:l.getD i 0<n:=by rw[hg];exact hl _ (List.getElem_mem hil)
  rw[show((i+1:Nat):Int)-1=(i:Int)from by omega,ints_length,rd_nat,ints_getD,show wrap64 ((n:Int)-(l.length:Int))=(n:Int)-(l.length:Int)from w64 za za,show wrap64 ((n:Int)-(l.length:Int)+(i:Int))=(n:Int)-(l.length:Int)+(i:Int)from w64 za za];refine Ends.pos za (Ends.pos za (Ends.pos za ?_));by_cases hc:l.getD i 0+l.length<n+i
  case neg=>refine Ends.neg za ?_;rw[show wrap64 ((i:Int)-1)=(i:Int)-1 from w64 za za];refine ih.eq ?_;rw[downN,if_neg hc]
  refine Ends.pos za ?_;rw[show wrap64 (((l.getD i 0:Nat):Int)+1)=((l.getD i 0+1:Nat):Int)from by rw[w64 za za];omega,show wrap64 ((i:Int)+1)=((i+1:Nat):Int)from by rw[w64 za za];omega,Int.toNat_natCast,ints_set];have e0:l=midL l i i:=by simp[midL,run]
  have e1:l.set i (l.getD i 0+1)=midL l i (i+1):=by
   have:=midL_set (l:=l) (i:=i) (j:=i) (Nat.le_refl _) hil;rw[<-e0]at this
   simpa using this
  rw[e1];refine(refNext_l1 hil hlen za (fun x hx=>by have:=hl x hx;omega) (l.length-(i+1)) (i+1) za za).eq ?_;rw[midL_all za,downN,if_pos hc];rfl
theorem refNext_eq(n:Int){s:Nat}(hs:s<2^64):Ends (fun k=>recoupref06_Next.f k n (s:Int)) (nextV n s):=by
 unfold recoupref06_Next.f;refine Ends.bind (refFull_eq n) ?_;unfold fullV;by_cases hm:0<=n/\n<=64
 case neg=>rw[if_neg hm];refine Ends.neg zb (Ends.succ (fun k=>by rw[recoupref06_Next.j0]) (Ends.pos rfl (Ends.const ?_)));unfold nextV;rw[if_neg (fun h=>hm ⟨h.1,h.2.1⟩)]
 rw[if_pos hm];obtain⟨m,rfl⟩:=Int.eq_ofNat_of_zero_le hm.1;have D:m<=64:=by omega
 rw[Int.toNat_natCast];refine Ends.pos rfl (Ends.succ (fun k=>by rw[recoupref06_Next.j0]) ?_);have ha:=asked D hs;by_cases hk:setOk (m:Int) s
 case neg=>
  have h0: ¬Go.bits .andNot .u64 (s:Int) ((2^m-1:Nat):Int)=0:=fun h=>hk (ha.1 h);refine Ends.pos (by simpa using h0) (Ends.const ?_);unfold nextV;rw[if_neg hk]
 have h0:=ha.2 hk;refine Ends.neg (by simpa using h0) ?_;refine Ends.bind (refList_eq hs) ?_;have hlen:=setL_length s;rw[ints_length,show wrap64 (((setL s).length:Int)-1)=((setL s).length:Int)-1 from w64 za za];refine(refNext_l0 D hlen (fun x hx=>by have:=hk.2.2 x hx;omega) _ (Nat.le_refl _)).eq ?_;unfold nextV nextL;rw[if_pos hk,Int.toNat_natCast]
theorem downN_cons{n x:Nat}{r:List Nat} : ∀m,m<=r.length->downN (x::r) n (m+1)=(match downN r n m with|some i=>some (i+1)|none=>if x+(r.length+1)<n then some 0 else none)
 |0,_=>by simp[downN]
 |m+1,h=>by
  have ih:=downN_cons (n:=n) (x:=x) (r:=r) m za;rw[downN];have e:(x::r).getD (m+1) 0=r.getD m 0:=rfl;rw[e];by_cases hc:r.getD m 0+r.length<n+m
  case neg=>rw[if_neg (by simp only[List.length_cons];omega),ih,show downN r n (m+1)=downN r n m from by rw[downN,if_neg hc]]
  rw[if_pos (by simp only[List.length_cons];omega),show downN r n (m+1)=some m from by rw[downN,if_pos hc]]
theorem nextL_nxt{n:Nat} : ∀l:List Nat,nextL n l=nxt n l
 | []=>rfl
 |x::r=>by
  have ih:=nextL_nxt (n:=n) r;unfold nextL nxt;rw[<-ih,List.length_cons,downN_cons _ (Nat.le_refl _)];unfold nextL
  cases hd:downN r n r.length with
  |some i=>
   simp only[Option.map_some,List.take_succ_cons,List.getD_cons_succ,List.cons_append];rw[show r.length+1-(i+1)=r.length-i from by omega]
  |none=>
   simp only[Option.map_none]
   split
   ·simp[run]
   ·rfl
end Go.Proofs.YtjgcocfnilhggaaDoor.M
namespace Go.Proofs.YtjgcocfnilhggaaDoor.M
def cm:Nat->Nat->Nat->List (List Nat)
 |0,_,k=>if k=0 then [[]]else []
 |d+1,lo,k=>match k with
  |0=> [[]]
  |k+1=>(cm d (lo+1) k).map (lo:: ·)++cm d (lo+1) (k+1)
theorem cm_zero(d lo:Nat):cm d lo 0= [[]]:=by cases d<;>rfl
theorem cm_nil(lo k:Nat):cm 0 lo (k+1)= []:=rfl
theorem cm_succ(d lo k:Nat):cm (d+1) lo (k+1)=(cm d (lo+1) k).map (lo:: ·)++cm d (lo+1) (k+1):=rfl
theorem cm_over: ∀(d lo k:Nat),d<k->cm d lo k= []
 |0,lo,k,h=>by
  obtain⟨k,rfl⟩: ∃j,k=j+1:=⟨k-1,by omega⟩
  rfl
 |d+1,lo,k,h=>by
  obtain⟨k,rfl⟩: ∃j,k=j+1:=⟨k-1,by omega⟩
  rw[cm_succ,cm_over d _ k za,cm_over d _ (k+1) za];rfl
theorem cm_mem: ∀(d lo k:Nat) (l:List Nat),l∈cm d lo k↔l.Pairwise (· < ·)/\l.length=k/\ ∀x∈l,lo<=x/\x<lo+d
 |d,lo,0,l=>by
  rw[cm_zero,List.mem_singleton];constructor
  ·rintro rfl;exact⟨List.Pairwise.nil,rfl,fun x hx=>by cases hx⟩
  ·rintro⟨_,h,_⟩;exact List.eq_nil_of_length_eq_zero h
 |0,lo,k+1,l=>by
  rw[cm_nil];constructor
  ·intro h;cases h
  ·rintro⟨_,h1,h2⟩
   cases l with
   |nil=>cases h1
   |cons x r=>have:=h2 x List.mem_cons_self;omega
 |d+1,lo,k+1,l=>by
  rw[cm_succ,List.mem_append,List.mem_map,cm_mem d (lo+1) (k+1) l];constructor
  ·rintro(⟨m,hm,rfl⟩|⟨h1,h2,h3⟩)
   ·obtain⟨h1,h2,h3⟩:=(cm_mem d (lo+1) k m).1 hm;refine⟨List.pairwise_cons.2 ⟨fun x hx=>by have:=h3 x hx;omega,h1⟩,by rw[List.length_cons,h2],fun x hx=>?_⟩;rcases List.mem_cons.1 hx with rfl|hx
    ·omega
    ·have:=h3 x hx;omega
   ·exact⟨h1,h2,fun x hx=>by have:=h3 x hx;omega⟩
  ·rintro⟨h1,h2,h3⟩
   cases l with
   |nil=>cases h2
   |cons x r=>
    rw[List.pairwise_cons]at h1
    have hx:=h3 x List.mem_cons_self;by_cases e:x=lo
    ·subst e;refine .inl ⟨r,(cm_mem d (x+1) k r).2 ⟨h1.2,by simpa using h2,fun y hy=>?_⟩,rfl⟩;have:=h1.1 y hy;have:=h3 y (List.mem_cons_of_mem _ hy);omega
    refine .inr ⟨List.pairwise_cons.2 h1,h2,fun y hy=>?_⟩;have:=h3 y hy;rcases List.mem_cons.1 hy with rfl|hy
    ·omega
    ·have:=h1.1 y hy;omega
def Lk(n:Nat):List (List Nat)->Option (List Nat)->Prop
 | [],_=>True
 | [l],e=>nxt n l=e
 |l::m::r,e=>nxt n l=some m/\Lk n (m::r) e
theorem lk_map{n lo k:Nat} : ∀(A:List (List Nat)),(∀l∈A,l.length=k)->Lk n A none->Lk n (A.map (lo:: ·)) (if lo+(k+1)<n then some (List.range' (lo+1) (k+1))else none)
 | [],_,_=>trivial
 | [l],hl,h=>by
   have h1:nxt n l=none:=h;have h2:=hl l List.mem_cons_self;show nxt n (lo::l)=_;unfold nxt;rw[h1,h2]
 |l::m::r,hl,h=>by
  have h1:nxt n l=some m/\Lk n (m::r) none:=h;have ih:=lk_map (lo:=lo) (m::r) (fun x hx=>hl x (List.mem_cons_of_mem _ hx)) h1.2;refine⟨?_,ih⟩;show nxt n (lo::l)=_;unfold nxt;rw[h1.1]
theorem lk_append{n:Nat}{h:List Nat}{e:Option (List Nat)}{B:List (List Nat)}(hb:B.head? =some h)(hB:Lk n B e): ∀A:List (List Nat),Lk n A (some h)->Lk n (A++B) e
 | [],_=>hB
 | [l],hA=>by
   cases B with
   |nil=>cases hb
   |cons b B=>
    have:b=h:=Option.some.inj hb;subst this;exact⟨hA,hB⟩
 |l::m::r,hA=>⟨hA.1,lk_append hb hB (m::r) hA.2⟩
theorem cm_lk: ∀(d lo k:Nat),k<=d->Lk (lo+d) (cm d lo k) none/\(cm d lo k).head? =some (List.range' lo k)
 |d,lo,0,_=>by rw[cm_zero];exact⟨rfl,rfl⟩
 |d+1,lo,k+1,h=>by
  obtain⟨a1,a2⟩:=cm_lk d (lo+1) k za;have hlen: ∀l∈cm d (lo+1) k,l.length=k:=fun l hl=>((cm_mem d (lo+1) k l).1 hl).2.1;have hm:=lk_map (lo:=lo) _ hlen a1;rw[cm_succ,show lo+(d+1)=lo+1+d from by omega];have hhead:((cm d (lo+1) k).map (lo:: ·)++cm d (lo+1) (k+1)).head? =some (List.range' lo (k+1)):=by
   rw[List.range'_succ]
   cases hc:cm d (lo+1) k with
   |nil=>rw[hc]at a2;cases a2
   |cons x r=>
    rw[hc]at a2
    have:x=List.range' (lo+1) k:=Option.some.inj a2;rw[this];rfl
  refine⟨?_,hhead⟩;by_cases hk:k+1<=d
  case neg=>rw[cm_over d _ (k+1) za,List.append_nil];rw[if_neg za]at hm;exact hm
  obtain⟨b1,b2⟩:=cm_lk d (lo+1) (k+1) hk;rw[if_pos za]at hm
  exact lk_append b2 b1 _ hm
def sh(b j:Nat):Nat:=if j<b then j else j+1
theorem cm_shift: ∀(d lo k:Nat),cm d (lo+1) k=(cm d lo k).map (·.map (· +1))
 |d,lo,0=>by rw[cm_zero,cm_zero];rfl
 |0,lo,k+1=>rfl
 |d+1,lo,k+1=>by
  rw[cm_succ,cm_succ,List.map_append,<-cm_shift d (lo+1) (k+1),cm_shift d (lo+1) k,List.map_map,List.map_map];rfl
theorem filter_none{α:Type}{p:α->Bool}{L:List α}(h: ∀x∈L,p x=false):L.filter p= []:=List.filter_eq_nil_iff.2 fun x hx=>by rw[h x hx];decide
theorem filter_all{α:Type}{p:α->Bool}{L:List α}(h: ∀x∈L,p x=true):L.filter p=L:=List.filter_eq_self.2 h
theorem cm_filter: ∀(d lo k b:Nat),lo<=b->b<lo+(d+1)->(cm (d+1) lo k).filter (fun l=>decide (b∉l))=(cm d lo k).map (·.map (sh b))
 |d,lo,0,b,_,_=>by rw[cm_zero,cm_zero];rfl
 |d,lo,k+1,b,h1,h2=>by
  rw[cm_succ,List.filter_append,List.filter_map];by_cases e:b=lo
  ·subst e;rw[filter_none (p:=(fun l=>decide (b∉l)) ∘ fun x=>b::x) (fun l hl=>by simp),List.map_nil,List.nil_append,filter_all (p:=fun l=>decide (b∉l)) (L:=cm d (b+1) (k+1)) (fun l hl=>decide_eq_true (p:=b∉l) (fun hb=>by have:=((cm_mem _ _ _ _).1 hl).2.2 b hb;omega)),cm_shift];refine List.map_congr_left fun l hl=>List.map_congr_left fun x hx=>?_;have:=((cm_mem _ _ _ _).1 hl).2.2 x hx;unfold sh;rw[if_neg za]
  obtain⟨d,rfl⟩: ∃j,d=j+1:=⟨d-1,by omega⟩
  have hc: ∀l:List Nat,((fun l=>decide (b∉l)) ∘ fun x=>lo::x) l=decide (b∉l):=fun l=>by
   show decide (b∉lo::l)=decide (b∉l);exact decide_eq_decide.2 (by rw[List.mem_cons];exact⟨fun h hb=>h (.inr hb),fun h hb=>h (hb.resolve_left e)⟩)
  rw[show((fun l=>decide (b∉l)) ∘ fun x=>lo::x)=fun l=>decide (b∉l)from funext hc];rw[cm_filter d (lo+1) k b za za,cm_filter d (lo+1) (k+1) b za za,cm_succ,List.map_append,List.map_map,List.map_map]
  congr 1
  refine List.map_congr_left fun l hl=>?_;show lo::l.map (sh b)=(lo::l).map (sh b);rw[List.map_cons];unfold sh;rw[if_pos za]
end Go.Proofs.YtjgcocfnilhggaaDoor.M
namespace Go.Proofs.YtjgcocfnilhggaaDoor.M
open RowKit YtjgcocfnilhggaaDoorW.PrintWords YtjgcocfnilhggaaDoorW.PrintLast YtjgcocfnilhggaaDoorW.PrintMore Q
def nm(l:List Nat):Int:=((ofL l:Nat):Int)
theorem low_run(k:Nat):2^k-1=ofL (List.range' 0 k):=Nat.eq_of_testBit_eq fun i=>by
 rw[testBit_low,testBit_ofL];exact decide_eq_decide.2 (by rw[List.mem_range'_1];omega)
theorem nextV_ofL{n:Nat}(hn:n<=64){l:List Nat}(hs:l.Pairwise (· < ·))(hl: ∀x∈l,x<n):nextV (n:Int) (ofL l)=match nxt n l with|some m=>(nm m,true)|none=>(0,false):=by
 have hset:setL (ofL l)=l:=setL_ofL hs fun i hi=>by have:=hl i hi;omega
 have hok:setOk (n:Int) (ofL l):=⟨by omega,by omega,fun i hi=>by rw[hset]at hi;have:=hl i hi;omega⟩
 unfold nextV;rw[if_pos hok,hset,Int.toNat_natCast,nextL_nxt];rfl
theorem ofL_lt'{n:Nat}(hn:n<=64){l:List Nat}(hl: ∀x∈l,x<n):ofL l<2^64:=ofL_lt l fun i hi=>by have:=hl i hi;omega
theorem setsN_ends{n:Nat}(hn:n<=64): ∀(L:List (List Nat)) (l:List Nat),Lk n (l::L) none->(∀m∈l::L,m.Pairwise (· < ·)/\ ∀x∈m,x<n)->Ends (fun j=>setsN (n:Int) j (nm l)) ((l::L).map nm)
 | [],l,h,hm=>by
   have hl:=hm l List.mem_cons_self;have h1:nxt n l=none:=h;refine Ends.succ (fun j=>by rw[setsN]) ?_;refine Ends.bind ((Next_eq (n:Int) (ofL_lt' hn hl.2)).eq (nextV_ofL hn hl.1 hl.2)) ?_;rw[h1];exact Ends.neg zb (Ends.const rfl)
 |m::L,l,h,hm=>by
  have hl:=hm l List.mem_cons_self;have h1:nxt n l=some m:=h.1;have ih:=setsN_ends hn L m h.2 fun x hx=>hm x (List.mem_cons_of_mem _ hx);refine Ends.succ (fun j=>by rw[setsN]) ?_;refine Ends.bind ((Next_eq (n:Int) (ofL_lt' hn hl.2)).eq (nextV_ofL hn hl.1 hl.2)) ?_;rw[h1];exact Ends.pos rfl (Ends.bind ih (Ends.const rfl))
theorem cm_ok{d lo k n:Nat}(hn:lo+d<=n): ∀m∈cm d lo k,m.Pairwise (· < ·)/\ ∀x∈m,x<n:=fun m hm=>by
 obtain⟨h1,_,h3⟩:=(cm_mem d lo k m).1 hm;exact⟨h1,fun x hx=>by have:=h3 x hx;omega⟩
theorem allN_ends{n k:Nat}(hn:n<=64)(hk:k<=n):Ends (fun j=>allN j (n:Int) (k:Int)) ((cm n 0 k).map nm):=by
 obtain⟨h1,h2⟩:=cm_lk n 0 k hk
 cases hc:cm n 0 k with
 |nil=>rw[hc]at h2;cases h2
 |cons l L=>
  rw[hc]at h1 h2
  have e:l=List.range' 0 k:=Option.some.inj h2;unfold allN;refine Ends.pos ⟨by omega,by omega,by omega,by omega⟩ (Ends.bind1 (low_eq za) ?_);rw[low_run,<-e];rw[Nat.zero_add]at h1
  exact setsN_ends hn L l h1 fun m hm=>cm_ok (d:=n) (lo:=0) (k:=k) (n:=n) za m (by rw[hc];exact hm)
theorem oth_nm{b:Nat}(hb:b<64){l:List Nat}(hl: ∀x∈l,x<63):oth (b:Int) (nm l)=nm (l.map (sh b)):=by
 have hx:ofL l<2^63:=by
  refine Nat.lt_pow_two_of_testBit _ fun i hi=>?_;rw[testBit_ofL];exact decide_eq_false fun h=>by have:=hl i h;omega
 obtain⟨x,ex⟩: ∃x,x=ofL l:=⟨_,rfl⟩
 have hp:2^b<2^64:=Nat.pow_lt_pow_right zb hb;have D:0<2^b:=Nat.pow_pos zb;unfold oth nm;rw[<-ex]at hx⊢
 have e1:IntKind.u64.wrap (2^min ((b:Int).toNat) 64)=((2^b:Nat):Int):=by
  rw[Int.toNat_natCast,Nat.min_eq_left za,show((2:Int)^b)=((2^b:Nat):Int)from by simp,wu64 za za]
 have e2:IntKind.u64.wrap (((2^b:Nat):Int)-1)=((2^b-1:Nat):Int):=by
  rw[show(((2^b:Nat):Int)-1)=((2^b-1:Nat):Int)from by omega,wu64 za za]
 rw[e1,e2,band za za];have ha:x &&& (2^b-1)<2^64:=Nat.lt_of_le_of_lt Nat.and_le_left za;rw[bandNot za ha];have hy:x &&& (2^64-1-(x &&& (2^b-1)))<2^63:=Nat.lt_of_le_of_lt Nat.and_le_left hx;obtain⟨y,ey⟩: ∃y,y=x &&& (2^64-1-(x &&& (2^b-1))):=⟨_,rfl⟩
 rw[<-ey]at hy⊢
 rw[show((y:Int)*2)=((y*2:Nat):Int)from by omega,wu64 za za,bor ha za]
 congr 1
 refine Nat.eq_of_testBit_eq fun j=>?_;have hyb: ∀i,y.testBit i=true↔i∈l/\ ¬i<b:=fun i=>by
  have hw:Bit (wo x (x &&& (2^b-1))) i↔Bit x i/\ ¬Bit (x &&& (2^b-1)) i:=bit_wo za ha i;have e3:wo x (x &&& (2^b-1))=y:=ey.symm;rw[e3]at hw
  unfold Bit at hw;rw[hw,Nat.testBit_and,testBit_low,ex,testBit_ofL,Bool.and_eq_true,decide_eq_true_eq,decide_eq_true_eq];exact⟨fun h=>⟨h.1,fun hb=>h.2 ⟨h.1,hb⟩⟩,fun h=>⟨h.1,fun hb=>h.2 hb.2⟩⟩
 rw[testBit_ofL,Nat.testBit_or,Nat.testBit_and,testBit_low,show y*2=y <<< 1 from by rw[Nat.shiftLeft_eq],Nat.testBit_shiftLeft,Bool.eq_iff_iff,Bool.or_eq_true,Bool.and_eq_true,Bool.and_eq_true,hyb,ex,testBit_ofL];simp only[decide_eq_true_eq,List.mem_map];constructor
 ·rintro(⟨h1,h2⟩|⟨h1,h2,h3⟩)
  ·exact⟨j,h1,by unfold sh;rw[if_pos h2]⟩
  ·exact⟨j-1,h2,by unfold sh;rw[if_neg h3];omega⟩
 ·rintro⟨i,hi,rfl⟩;unfold sh;by_cases h:i<b
  case neg=>rw[if_neg h];exact .inr ⟨by omega,by rw[Nat.add_sub_cancel];exact⟨hi,h⟩⟩
  rw[if_pos h];exact .inl ⟨hi,h⟩
def sc(R:Nat->Bool):List Nat->Nat->Nat×Option (Option Nat)
 | [],c=>(c,none)
 |y::L,c=>if c=16384 then(c+1,some none)else if R y=true then(c+1,some (some y))else sc R L (c+1)
def rep(r c:Nat)(l:List Int)(b:Nat)(s:Nat):Bool:=spP c l s b
section
variable {r c b:Nat} {l:List Int}
theorem rep_iff(hb:bytesB l=true)(hl:l.length=r*c)(hr:r<=64)(hc:c<=64)(hbr:b<r){s:Nat}(hs:s<2^64)(h:Val r s):rep r c l b s=true↔Sp (mv (rowsOf c r l) c) r (Bit s) (mv (rowsOf c r l) c b):=by
 have:=spn_bit hb hl hr hc hs h b;unfold spn at this;rw[sel_Bit]at this
 unfold rep;constructor
 ·exact fun h1=>(this.1 ⟨hbr,h1⟩).2
 ·exact fun h1=>(this.2 ⟨hbr,h1⟩).2
theorem repairs_ends(hb:bytesB l=true)(hl:l.length=r*c)(hr:r<=64)(hc:c<=64)(hbr:b<r){s:Nat}(hs:s<2^64)(h:Val r s):Ends (fun k=>local_repairs.f k (r:Int) (c:Int) l (b:Int) (s:Int)) (rep r c l b s):=by
 obtain⟨t,h1,h2⟩:=repairs19 hb hl hr hc hs h hbr;refine h1.eq ?_;rw[Bool.eq_iff_iff,h2,rep_iff hb hl hr hc hbr hs h]
theorem rrepairs_ends(hb:bytesB l=true)(hl:l.length=r*c)(hr:r<=64)(hc:c<=64)(hbr:b<r){s:Nat}(hs:s<2^64)(h:Val r s)(hn:s.testBit b=false):Ends (fun k=>recoupref19_repairs.f k (r:Int) (c:Int) l (b:Int) (s:Int)) (rep r c l b s):=by
 unfold recoupref19_repairs.f;refine Ends.bind1 (has_eq hs _) ?_;rw[Int.toNat_natCast,hn,Bool.and_false];refine Ends.neg zb (Ends.bind (rRank7 hb hl hr hc hs h) ?_);rw[wu64 za za];refine Ends.pos za ?_;rw[shl_one za,or_one hs za];refine Ends.bind (rRank7 hb hl hr hc (lt_one hs za) (val_one hr hs h hbr)) (Ends.const ?_);refine congrArg some ?_;unfold rep spP;rw[Bool.eq_iff_iff,beq_iff_eq,decide_eq_true_eq];show((rho c l s:Nat):Int)=((rho c l (s|||2^b):Nat):Int)↔_;omega
def scI:Nat×Option (Option Nat)->Int×Option (Int×Int)
 |(c,none)=>((c:Int),none)
 |(c,some none)=>((c:Int),some (0,4))
 |(c,some (some y))=>((c:Int),some ((y:Int),0))
theorem scan_ends(hb:bytesB l=true)(hl:l.length=r*c)(hr:r<=64)(hc:c<=64)(hbr:b<r): ∀(ys:List Nat) (n:Nat),(∀y∈ys,y<2^64/\Val r y)->n<=16384->Ends (fun k=>scanN k (r:Int) (c:Int) l (b:Int) (ys.map fun(y:Nat)=>(y:Int)) (n:Int)) (scI (sc (rep r c l b) ys n))
 | [],n,_,_=>Ends.const rfl
 |y::ys,n,h,hn=>by
  have hy:=h y List.mem_cons_self;have hw:wrap64 ((n:Int)+1)=((n+1:Nat):Int):=by rw[w64 za za];omega
  refine Ends.congr (g:=fun k=>if 16384<wrap64 ((n:Int)+1)then some (wrap64 ((n:Int)+1),some (0,4))else(local_repairs.f k (r:Int) (c:Int) l (b:Int) (y:Int)).bind fun t=>if t=true then some (wrap64 ((n:Int)+1),some ((y:Int),0))else scanN k (r:Int) (c:Int) l (b:Int) (ys.map fun(y:Nat)=>(y:Int)) (wrap64 ((n:Int)+1))) (fun k=>rfl) ?_;rw[hw];unfold sc;by_cases h1:n=16384
  ·rw[if_pos h1];exact Ends.pos za (Ends.const rfl)
  rw[if_neg h1];refine Ends.neg za (Ends.bind (repairs_ends hb hl hr hc hbr hy.1 hy.2) ?_);by_cases h2:rep r c l b y=true
  case neg=>rw[if_neg h2];exact Ends.neg h2 (scan_ends hb hl hr hc hbr ys (n+1) (fun z hz=>h z (List.mem_cons_of_mem _ hz)) za)
  rw[if_pos h2];exact Ends.pos h2 (Ends.const rfl)
theorem sc_le(R:Nat->Bool): ∀(ys:List Nat) (n m:Nat),n<=16384->sc R ys n=(m,none)->m<=16384
 | [],n,m,h,e=>by
   have e1:n=m:=congrArg Prod.fst e;omega
 |y::ys,n,m,h,e=>by
  unfold sc at e;by_cases h1:n=16384
  ·rw[if_pos h1]at e;cases congrArg Prod.snd e
  rw[if_neg h1]at e
  by_cases h2:R y=true
  ·rw[if_pos h2]at e;cases congrArg Prod.snd e
  rw[if_neg h2]at e
  exact sc_le R ys (n+1) m za e
def lst(r b size:Nat):List Nat:=(cm (r-1) 0 size).map fun m=>ofL (m.map (sh b))
def sr(R:Nat->Bool)(r b:Nat):Nat->Nat->Nat->Option Nat
 |0,_,_=>none
 |d+1,size,n=>match sc R (lst r b size) n with
  |(_,some o)=>o
  |(m,none)=>sr R r b d (size+1) m
theorem lst_val(hr:r<=64)(hbr:b<r){size:Nat} : ∀y∈lst r b size,y<2^64/\Val r y/\y.testBit b=false:=fun y hy=>by
 obtain⟨m,hm,rfl⟩:=List.mem_map.1 hy;have h1:=((cm_mem _ _ _ _).1 hm).2.2;have h2: ∀x∈m.map (sh b),x<r/\x≠b:=fun x hx=>by
  obtain⟨z,hz,rfl⟩:=List.mem_map.1 hx;have:=h1 z hz;unfold sh
  split<;>omega
 have h3:ofL (m.map (sh b))<2^64:=ofL_lt _ fun i hi=>by have:=(h2 i hi).1;omega
 refine⟨h3,(val_bit h3).2 fun i hi=>?_,?_⟩
 ·rw[testBit_ofL]at hi
  exact(h2 i (of_decide_eq_true hi)).1
 ·rw[testBit_ofL];exact decide_eq_false fun h=>(h2 b h).2 rfl
theorem lst_filter(hr:1<=r)(hbr:b<r)(size:Nat):((cm r 0 size).filter fun m=>decide (b∉m)).map ofL=lst r b size:=by
 obtain⟨d,rfl⟩: ∃d,r=d+1:=⟨r-1,by omega⟩
 rw[cm_filter d 0 size b za za,List.map_map];rfl
def srI:Option Nat->Int×Int
 |none=>(0,4)
 |some y=>((y:Int),0)
def srR:Option Nat->Int×Bool
 |none=>(0,false)
 |some y=>((y:Int),true)
theorem sr_none{R:Nat->Bool}{d size n m:Nat}(h:sc R (lst r b size) n=(m,none)):sr R r b (d+1) size n=sr R r b d (size+1) m:=by
 show(match sc R (lst r b size) n with
  |(_,some o)=>o
  |(m,none)=>sr R r b d (size+1) m)=_
 rw[h]
theorem sr_some{R:Nat->Bool}{d size n m:Nat}{o:Option Nat}(h:sc R (lst r b size) n=(m,some o)):sr R r b (d+1) size n=o:=by
 show(match sc R (lst r b size) n with
  |(_,some o)=>o
  |(m,none)=>sr R r b d (size+1) m)=_
 rw[h]
theorem lst_map(hr:r<=64)(hb':b<64)(size:Nat):((cm (r-1) 0 size).map nm).map (oth (b:Int))=(lst r b size).map fun(y:Nat)=>(y:Int):=by
 unfold lst;rw[List.map_map,List.map_map];refine List.map_congr_left fun m hm=>?_;exact oth_nm hb' fun x hx=>by have:=((cm_mem _ _ _ _).1 hm).2.2 x hx;omega
theorem go_ends(hb:bytesB l=true)(hl:l.length=r*c)(hr:r<=64)(hc:c<=64)(hbr:b<r): ∀(d size n:Nat),size+d=r->n<=16384->
 ∃K,∀k D,K<=k->K<=D->local_search.go k (r:Int) (c:Int) l (b:Int) D (size:Int) (n:Int)=some (srI (sr (rep r c l b) r b d size n)):=by
 intro d
 induction d with
 |zero=>
  intro size n hs hn;refine⟨1,fun k D _ hD=>?_⟩;obtain⟨D,rfl⟩: ∃j,D=j+1:=⟨D-1,by omega⟩
  unfold local_search.go;rw[if_neg za];rfl
 |succ d ih=>
  intro size n hs hn;obtain⟨K1,h1⟩:=allN_ends (n:=r-1) (k:=size) za za;obtain⟨K2,h2⟩:=scan_ends hb hl hr hc hbr (lst r b size) n (fun y hy=>⟨(lst_val hr hbr y hy).1,(lst_val hr hbr y hy).2.1⟩) hn;have hw:wrap64 ((r:Int)-1)=((r-1:Nat):Int):=by rw[w64 za za];omega
  have G:wrap64 ((size:Int)+1)=((size+1:Nat):Int):=wstep za;have hstep: ∀k D,K1<=k->K2<=k->local_search.go k (r:Int) (c:Int) l (b:Int) (D+1) (size:Int) (n:Int)=(scI (sc (rep r c l b) (lst r b size) n)).2.elim (local_search.go k (r:Int) (c:Int) l (b:Int) D ((size+1:Nat):Int) (scI (sc (rep r c l b) (lst r b size) n)).1) some:=fun k D k1 k2=>by
   have e1:allN k ((r-1:Nat):Int) (size:Int)=some ((cm (r-1) 0 size).map nm):=h1 k k1;have e2:scanN k (r:Int) (c:Int) l (b:Int) ((lst r b size).map fun(y:Nat)=>(y:Int)) (n:Int)=some (scI (sc (rep r c l b) (lst r b size) n)):=h2 k k2;show(if(size:Int)<(r:Int)then _ else _)=_;rw[if_pos (Int.ofNat_lt.2 (by clear hw G e1 e2 h1 h2;omega)),hw,G,e1,Option.bind_some,lst_map hr (Nat.lt_of_lt_of_le hbr hr),e2,Option.bind_some]
  clear hw G h1 h2;obtain⟨p,ep⟩: ∃p,p=sc (rep r c l b) (lst r b size) n:=⟨_,rfl⟩
  rw[<-ep]at hstep
  match p,ep,hstep with
  |(m,none),ep,hstep=>
   obtain⟨K3,h3⟩:=ih (size+1) m za (sc_le _ _ _ _ hn ep.symm);refine⟨K1+K2+K3+1,fun k D hk hD=>?_⟩;obtain⟨D,rfl⟩: ∃j,D=j+1:=⟨D-1,by omega⟩
   rw[hstep k D za za,sr_none ep.symm];exact h3 k D za za
  |(m,some none),ep,hstep=>
   refine⟨K1+K2+1,fun k D hk hD=>?_⟩;obtain⟨D,rfl⟩: ∃j,D=j+1:=⟨D-1,by omega⟩
   rw[hstep k D za za,sr_some ep.symm];rfl
  |(m,some (some y)),ep,hstep=>
   refine⟨K1+K2+1,fun k D hk hD=>?_⟩;obtain⟨D,rfl⟩: ∃j,D=j+1:=⟨D-1,by omega⟩
   rw[hstep k D za za,sr_some ep.symm];rfl
theorem search_ends(hb:bytesB l=true)(hl:l.length=r*c)(hr:r<=64)(hc:c<=64)(hbr:b<r):Ends (fun k=>local_search.f k (r:Int) (c:Int) l (b:Int)) (srI (sr (rep r c l b) r b r 0 0)):=by
 obtain⟨K,h⟩:=go_ends hb hl hr hc hbr r 0 0 za za;unfold local_search.f;refine Ends.pos ⟨by omega,by omega,by omega⟩ ⟨K,fun k hk=>h k k hk hk⟩
theorem first_l1(hb:bytesB l=true)(hl:l.length=r*c)(hr:r<=64)(hc:c<=64)(hbr:b<r){size:Nat}{res:Int×Bool} : ∀(L:List (List Nat)) (x:List Nat) (n:Nat),Lk r (x::L) none->(∀m∈x::L,m.Pairwise (· < ·)/\ ∀y∈m,y<r)->n<=16384->
 (∀m,sc (rep r c l b) (((x::L).filter fun m=>decide (b∉m)).map ofL) n=(m,none)->Ends (fun k=>recoupref19_first.l0 k (b:Int) (m:Int) (wrap64 ((size:Int)+1)) (r:Int) (c:Int) l) res)->
 (∀m o,sc (rep r c l b) (((x::L).filter fun m=>decide (b∉m)).map ofL) n=(m,some o)->res=srR o)->
 Ends (fun k=>recoupref19_first.l1 k (b:Int) (n:Int) (size:Int) (nm x) true (r:Int) (c:Int) l) res:=by
 intro L
 induction L with
 |nil=>
  intro x n hk hm hn h1 h2;have hx:=hm x List.mem_cons_self;have hlt:=ofL_lt' hr hx.2;have hnx:nxt r x=none:=hk;have hnext:Ends (fun k=>recoupref06_Next.f k (r:Int) (nm x)) (0,false):=(refNext_eq (r:Int) hlt).eq (by rw[nextV_ofL hr hx.1 hx.2,hnx]);have hval:Val r (ofL x):=(val_bit hlt).2 fun i hi=>by rw[testBit_ofL]at hi;exact hx.2 i (of_decide_eq_true hi)
  refine Ends.succ (fun k=>by rw[recoupref19_first.l1]) ?_;refine Ends.pos rfl ?_;refine Ends.bind1 (has_eq hlt _) ?_;rw[Int.toNat_natCast,testBit_ofL];by_cases hbx:b∈x
  ·rw[decide_eq_true hbx];have e:(([x]).filter fun m=>decide (b∉m))= []:=by simp[hbx]
   rw[e]at h1
   refine Ends.pos zd (Ends.bind hnext ?_);refine Ends.succ (fun k=>by rw[recoupref19_first.l1]) ?_;refine Ends.neg zb ?_;exact h1 n rfl
  rw[decide_eq_false hbx];have e:(([x]).filter fun m=>decide (b∉m))= [x]:=by simp[hbx]
  rw[e]at h1 h2
  refine Ends.neg zd ?_;by_cases h3:n=16384
  ·have:=h2 (n+1) none (by show sc _ [ofL x] n=_;unfold sc;rw[if_pos h3]);exact Ends.pos za (Ends.const zaf)
  refine Ends.neg za (Ends.bind (rrepairs_ends hb hl hr hc hbr hlt hval za7) ?_);by_cases h4:rep r c l b (ofL x)=true
  ·have:=h2 (n+1) (some (ofL x)) (by show sc _ [ofL x] n=_;unfold sc;rw[if_neg h3,if_pos h4]);exact Ends.pos h4 (Ends.const zaf)
  refine Ends.neg h4 (Ends.bind hnext ?_);refine Ends.succ (fun k=>by rw[recoupref19_first.l1]) ?_;refine Ends.neg zb ?_;have:=h1 (n+1) (by show sc _ [ofL x] n=_;unfold sc;rw[if_neg h3,if_neg h4];rfl);rw[show wrap64 ((n:Int)+1)=((n+1:Nat):Int)from by rw[w64 za za];omega];exact this
 |cons y L ih=>
  intro x n hk hm hn h1 h2;have hx:=hm x List.mem_cons_self;have hlt:=ofL_lt' hr hx.2;have hnx:nxt r x=some y:=hk.1;have hnext:Ends (fun k=>recoupref06_Next.f k (r:Int) (nm x)) (nm y,true):=(refNext_eq (r:Int) hlt).eq (by rw[nextV_ofL hr hx.1 hx.2,hnx]);have hval:Val r (ofL x):=(val_bit hlt).2 fun i hi=>by rw[testBit_ofL]at hi;exact hx.2 i (of_decide_eq_true hi)
  have D: ∀m∈y::L,m.Pairwise (· < ·)/\ ∀z∈m,z<r:=fun m hm'=>hm m (List.mem_cons_of_mem _ hm');refine Ends.succ (fun k=>by rw[recoupref19_first.l1]) ?_;refine Ends.pos rfl ?_;refine Ends.bind1 (has_eq hlt _) ?_;rw[Int.toNat_natCast,testBit_ofL];by_cases hbx:b∈x
  ·rw[decide_eq_true hbx];have e:((x::y::L).filter fun m=>decide (b∉m))=((y::L).filter fun m=>decide (b∉m)):=List.filter_cons_of_neg (by simp[hbx]);rw[e]at h1 h2
   refine Ends.pos zd (Ends.bind hnext ?_);exact ih y n hk.2 D hn h1 h2
  rw[decide_eq_false hbx];have e:((x::y::L).filter fun m=>decide (b∉m))=x::((y::L).filter fun m=>decide (b∉m)):=List.filter_cons_of_pos (by simp[hbx]);rw[e,List.map_cons]at h1 h2
  refine Ends.neg zd ?_;by_cases h3:n=16384
  ·have:=h2 (n+1) none (by unfold sc;rw[if_pos h3]);exact Ends.pos za (Ends.const zaf)
  refine Ends.neg za (Ends.bind (rrepairs_ends hb hl hr hc hbr hlt hval za7) ?_);by_cases h4:rep r c l b (ofL x)=true
  ·have:=h2 (n+1) (some (ofL x)) (by unfold sc;rw[if_neg h3,if_pos h4]);exact Ends.pos h4 (Ends.const zaf)
  refine Ends.neg h4 (Ends.bind hnext ?_);rw[show wrap64 ((n:Int)+1)=((n+1:Nat):Int)from by rw[w64 za za];omega];have e5: ∀ys,sc (rep r c l b) (ofL x::ys) n=sc (rep r c l b) ys (n+1):=fun ys=>by rw[sc,if_neg h3,if_neg h4]
  refine ih y (n+1) hk.2 D za (fun m hm'=>h1 m (by rw[e5];exact hm')) (fun m o hm'=>h2 m o (by rw[e5];exact hm'))
theorem First_ref{k:Nat}(hk:k<=64):Ends (fun j=>recoupref06_First.f j (k:Int)) (nm (List.range' 0 k)):=by
 unfold recoupref06_First.f;refine Ends.bind (refFull_eq (k:Int)) (Ends.const ?_);unfold fullV nm;rw[if_pos ⟨by omega,by omega⟩,Int.toNat_natCast,low_run]
theorem first_l0(hb:bytesB l=true)(hl:l.length=r*c)(hr:r<=64)(hc:c<=64)(hbr:b<r): ∀(d size n:Nat),size+d=r->n<=16384->
 Ends (fun k=>recoupref19_first.l0 k (b:Int) (n:Int) (size:Int) (r:Int) (c:Int) l) (srR (sr (rep r c l b) r b d size n)):=by
 intro d
 induction d with
 |zero=>
  intro size n hs hn;refine Ends.succ (fun k=>by rw[recoupref19_first.l0]) ?_;exact Ends.neg za (Ends.const rfl)
 |succ d ih=>
  intro size n hs hn;obtain⟨q1,q2⟩:=cm_lk r 0 size za;have hf:=lst_filter (b:=b) (r:=r) za hbr size;refine Ends.succ (fun k=>by rw[recoupref19_first.l0]) ?_;refine Ends.pos za (Ends.bind (First_ref za) ?_)
  cases hcm:cm r 0 size with
  |nil=>rw[hcm]at q2;cases q2
  |cons x L=>
   rw[hcm]at q1 q2 hf
   have ex:x=List.range' 0 size:=Option.some.inj q2;rw[<-ex];rw[Nat.zero_add]at q1
   have hmm: ∀m∈x::L,m.Pairwise (· < ·)/\ ∀y∈m,y<r:=fun m hm=>cm_ok (d:=r) (lo:=0) (k:=size) (n:=r) za m (by rw[hcm];exact hm);refine first_l1 hb hl hr hc hbr L x n q1 hmm hn (fun m hm=>?_) (fun m o hm=>?_)
   ·rw[hf]at hm
    have hsr:sr (rep r c l b) r b (d+1) size n=sr (rep r c l b) r b d (size+1) m:=sr_none hm;rw[hsr,show wrap64 ((size:Int)+1)=((size+1:Nat):Int)from wstep za];exact ih (size+1) m za (sc_le _ _ _ _ hn hm)
   ·rw[hf]at hm
    have hsr:sr (rep r c l b) r b (d+1) size n=o:=sr_some hm;rw[hsr]
theorem first_ends(hb:bytesB l=true)(hl:l.length=r*c)(hr:r<=64)(hc:c<=64)(hbr:b<r):Ends (fun k=>recoupref19_first.f k (r:Int) (c:Int) l (b:Int)) (srR (sr (rep r c l b) r b r 0 0)):=by
 unfold recoupref19_first.f;exact first_l0 hb hl hr hc hbr r 0 0 za za
end
def oth1(r b:Nat):Nat:=wo (2^r-1) (2^b)
theorem oth1_bit{r b:Nat}(hr:r<=64)(hb:b<64)(i:Nat):Bit (oth1 r b) i↔i<r/\i≠b:=by
 unfold oth1;rw[bit_wo_one (low_lt hr) hb];unfold Bit;rw[testBit_low,decide_eq_true_eq]
theorem oth1_lt{r:Nat}(hr:r<=64)(b:Nat):oth1 r b<2^64:=wo_lt (low_lt hr)
theorem oth1_val{r b:Nat}(hr:r<=64)(hb:b<64):Val r (oth1 r b):=(val_bit (oth1_lt hr b)).2 fun i hi=>((oth1_bit hr hb i).1 hi).1
theorem oth1_no{r b:Nat}(hr:r<=64)(hb:b<64):(oth1 r b).testBit b=false:=by
 rw[<-Bool.not_eq_true];exact fun h=>((oth1_bit hr hb b).1 h).2 rfl
section
variable {r c b:Nat} {l:List Int}
theorem spn_rep(hbr:b<r)(s:Nat):(spn r c l s).testBit b=rep r c l b s:=by
 unfold spn;rw[sel_bit,decide_eq_true hbr,Bool.true_and];rfl
theorem may19(hb:bytesB l=true)(hl:l.length=r*c)(hr:r<=64)(hc:c<=64)(h1:1<=c)(h2:c<=r)(hbr:b<r):Ends (fun k=>local_may.f k (r:Int) (c:Int) l (b:Int)) (rep r c l b (oth1 r b),0):=by
 have hfull:subset_Full.f (r:Int)=some (((2^r-1:Nat):Int),0):=by
  unfold subset_Full.f;rw[may_eq,Option.bind_some,if_pos (by rw[Bool.and_eq_true,decide_eq_true_eq,decide_eq_true_eq];omega),low_eq hr];rfl
 unfold local_may.f;refine Ends.bind1 (right_of hr hc hl).1 (Ends.pos rfl (Ends.neg za ?_));refine Ends.succ (fun k=>by rw[local_may.j0]) ?_;refine Ends.neg zu ?_;refine Ends.neg za (Ends.neg za ?_);refine Ends.bind1 hfull (Ends.pos rfl (Ends.pos za ?_));show Ends (fun k=>(matroid_Span.f k (r:Int) (c:Int) l (Go.bits .andNot .u64 ((2^r-1:Nat):Int) (shl .u64 1 (b:Int)))).bind _) _;rw[shl_one za,not_one (low_lt hr) za];refine Ends.bind (Span7 hb hl hr hc (oth1_lt hr b) (oth1_val hr za)) ?_;refine Ends.bind1 (Has_eq (spn_lt hr) _) (Ends.const ?_);rw[Int.toNat_natCast,spn_rep hbr];simp;rfl
theorem bad19(hl:l.length=r*c)(hr:r<=64)(hc:c<=64)(h1:1<=c)(h2:c<=r)(hbr:b<r):recoupref19_bad.f (r:Int) (c:Int) l (b:Int)=some 0:=by
 unfold recoupref19_bad.f recoupref16_Generator.f;rw[(right_of hr hc hl).2,Option.bind_some,if_pos rfl,if_pos za,Option.bind_some,if_pos (decide_eq_true za),if_neg za,if_neg za]
theorem others19(hr:r<=64)(hbr:b<r):Ends (fun k=>recoupref19_others.f k (r:Int) (c:Int) l (b:Int)) ((oth1 r b:Nat):Int):=by
 unfold recoupref19_others.f;have hfv:fullV (r:Int)=(((2^r-1:Nat):Int),0):=by
  unfold fullV;rw[if_pos ⟨by omega,by omega⟩,Int.toNat_natCast]
 refine Ends.bind ((refFull_eq (r:Int)).eq hfv) ?_;rw[wu64 za za];refine Ends.pos za (Ends.const ?_);rw[shl_one za,not_one (low_lt hr) za];rfl
theorem put_l0{P x:List Int}{n:Nat}(hP:P.length<=64)(hx:P.length<=x.length)(h: ∀y∈P,0<=y/\y<(n:Int)): ∀m i:Nat,i+m=P.length->Ends (fun k=>local_put.l0 k x (putC P x n i) P (P.length:Int) (i:Int)) (putC P x n P.length)
 |0,i,hi=>by
  obtain rfl:i=P.length:=by omega
  refine Ends.succ (fun k=>by rw[local_put.l0]) ?_;exact Ends.neg za (Ends.const rfl)
 |m+1,i,hi=>by
  have hiP:i<P.length:=by omega
  have D:i<=4096:=by omega
  have hy:0<=P.getD i 0/\P.getD i 0<(n:Int):=by
   rw[List.getD_eq_getElem?_getD,List.getElem?_eq_getElem hiP,Option.getD_some];exact h _ (List.getElem_mem hiP)
  refine Ends.succ (fun k=>by rw[local_put.l0]) ?_;refine Ends.pos za (Ends.pos za (Ends.pos za (Ends.pos za ?_)));rw[rd_nat,rd_nat,i64_succ D];refine Ends.pos hy.1 (Ends.pos zab ?_);exact put_l0 hP hx h m (i+1) za
theorem rput_l0{P x:List Int}{n:Nat}(s:Int)(hP:P.length<=64)(hx:P.length<=x.length)(h: ∀y∈P,0<=y/\y<(n:Int)): ∀m i:Nat,i+m=P.length->Ends (fun k=>recoupref19_Least.l0 k s P x (putC P x n i) (i:Int)) (s,putC P x n P.length,true,0)
 |0,i,hi=>by
  obtain rfl:i=P.length:=by omega
  refine Ends.succ (fun k=>by rw[recoupref19_Least.l0]) ?_;exact Ends.neg za (Ends.const rfl)
 |m+1,i,hi=>by
  have hiP:i<P.length:=by omega
  have D:i<=4096:=by omega
  have hy:0<=P.getD i 0/\P.getD i 0<(n:Int):=by
   rw[List.getD_eq_getElem?_getD,List.getElem?_eq_getElem hiP,Option.getD_some];exact h _ (List.getElem_mem hiP)
  refine Ends.succ (fun k=>by rw[recoupref19_Least.l0]) ?_;refine Ends.pos za (Ends.pos za (Ends.pos za ?_));rw[rd_nat,rd_nat,i64_succ D];refine Ends.pos hy.1 (Ends.pos zab ?_);exact rput_l0 s hP hx h m (i+1) za
theorem sc_none(R:Nat->Bool): ∀(ys:List Nat) (n m:Nat),sc R ys n=(m,none)->(∀y∈ys,R y=false)/\m=n+ys.length
 | [],n,m,e=>⟨fun y hy=>(by cases hy),(congrArg Prod.fst e).symm⟩
 |y::ys,n,m,e=>by
  unfold sc at e;by_cases h1:n=16384
  ·rw[if_pos h1]at e;cases congrArg Prod.snd e
  rw[if_neg h1]at e
  by_cases h2:R y=true
  ·rw[if_pos h2]at e;cases congrArg Prod.snd e
  rw[if_neg h2]at e
  obtain⟨h3,h4⟩:=sc_none R ys (n+1) m e;refine⟨fun z hz=>?_,by rw[List.length_cons];omega⟩;rcases List.mem_cons.1 hz with rfl|hz
  ·simpa using h2
  ·exact h3 z hz
theorem sc_some(R:Nat->Bool): ∀(ys:List Nat) (n m x:Nat),sc R ys n=(m,some (some x))->x∈ys/\R x=true
 | [],n,m,x,e=>by cases congrArg Prod.snd e
 |y::ys,n,m,x,e=>by
  unfold sc at e;by_cases h1:n=16384
  ·rw[if_pos h1]at e;cases congrArg Prod.snd e
  rw[if_neg h1]at e
  by_cases h2:R y=true
  case neg=>rw[if_neg h2]at e;obtain⟨h3,h4⟩:=sc_some R ys (n+1) m x e;exact⟨List.mem_cons_of_mem _ h3,h4⟩
  rw[if_pos h2]at e
  have:y=x:=Option.some.inj (Option.some.inj (congrArg Prod.snd e));subst this;exact⟨List.mem_cons_self,h2⟩
theorem sr_spec(R:Nat->Bool)(r b:Nat): ∀(d size n y:Nat),sr R r b d size n=some y-> ∃s,size<=s/\s<size+d/\y∈lst r b s/\R y=true/\ ∀t,size<=t->t<s-> ∀z∈lst r b t,R z=false
 |0,size,n,y,h=>by cases h
 |d+1,size,n,y,h=>by
  obtain⟨p,ep⟩: ∃p,p=sc R (lst r b size) n:=⟨_,rfl⟩
  match p,ep with
  |(m,none),ep=>
   rw[sr_none ep.symm]at h
   obtain⟨s,h1,h2,h3,h4,h5⟩:=sr_spec R r b d (size+1) m y h;refine⟨s,by omega,by omega,h3,h4,fun t G D z hz=>?_⟩;by_cases e:t=size
   case neg=>exact h5 t za D z hz
   subst e;exact(sc_none R _ _ _ ep.symm).1 z hz
  |(m,some none),ep=>
   rw[sr_some ep.symm]at h
   cases h
  |(m,some (some x)),ep=>
   rw[sr_some ep.symm]at h
   obtain rfl:x=y:=Option.some.inj h;obtain⟨h1,h2⟩:=sc_some R _ _ _ _ ep.symm;exact⟨size,Nat.le_refl _,by omega,h1,h2,fun t G D=>by omega⟩
theorem rRow19(hl:l.length=r*c)(hr:r<=64)(hc:c<=64)(hbr:b<r):Ends (fun k=>recoupref03_Row.f k (r:Int) (c:Int) l (b:Int)) (rowSeg (c:Int) l (b:Int),0):=by
 have hf:=flat_rowsOf r l hl;have hlen:=rowsOf_length c r l;have:=Row_ends hf.2 za hc (i:=b) za;rw[hf.1,hlen]at this
 rw[(row_vv hl hbr).1];exact this
def leastR(r c:Nat)(l:List Int)(b:Nat):Int×List Int×Bool×Int:=
 if rep r c l b (oth1 r b)=true then(match sr (rep r c l b) r b r 0 0 with
  |none=>(0,[],false,4)
  |some y=>((y:Int),putC (ints (setL y)) (cmbR (setL y).length c (pk c l y) (rowSeg (c:Int) l (b:Int))).1 r (setL y).length,true,0))
 else(0,[],false,0)
theorem found(hb:bytesB l=true)(hl:l.length=r*c)(hr:r<=64)(hc:c<=64)(hbr:b<r){y:Nat}(h:sr (rep r c l b) r b r 0 0=some y):
 y<2^64/\Val r y/\y.testBit b=false/\(cmbR (setL y).length c (pk c l y) (rowSeg (c:Int) l (b:Int))).2=(true,0)/\(cmbR (setL y).length c (pk c l y) (rowSeg (c:Int) l (b:Int))).1.length=(setL y).length/\
  bytesB (cmbR (setL y).length c (pk c l y) (rowSeg (c:Int) l (b:Int))).1=true/\lc (mv (rowsOf c (setL y).length (pk c l y)) c) (setL y).length (vv (cmbR (setL y).length c (pk c l y) (rowSeg (c:Int) l (b:Int))).1)=mv (rowsOf c r l) c b:=by
 obtain⟨s,_,_,h3,h4,_⟩:=sr_spec _ _ _ _ _ _ _ h;obtain⟨g1,g2,g3⟩:=lst_val hr hbr y h3;obtain⟨e1,e2,e3⟩:=row_vv hl hbr;have hsp:=(rep_iff hb hl hr hc hbr g1 g2).1 h4;rw[<-span_pk hl g1 g2,<-e3]at hsp
 have:=cmb_good (pick_bytes hb _) (pk_len hl g2) (setL_length y) hc e2 (row_bytes hb b) hsp;rw[e3]at this
 exact⟨g1,g2,g3,this⟩
theorem Least_ends(hb:bytesB l=true)(hl:l.length=r*c)(hr:r<=64)(hc:c<=64)(h1:1<=c)(h2:c<=r)(hbr:b<r):Ends (fun k=>local_Least.f k (r:Int) (c:Int) l (b:Int)) (leastR r c l b):=by
 unfold local_Least.f leastR;refine Ends.bind (may19 hb hl hr hc h1 h2 hbr) (Ends.pos rfl ?_);refine Ends.succ (fun k=>by rw[local_Least.j0]) ?_;by_cases hm:rep r c l b (oth1 r b)=true
 case neg=>rw[if_neg hm];exact Ends.pos (by simpa using hm) (Ends.const rfl)
 rw[if_pos hm];refine Ends.neg (by rw[hm];decide) (Ends.bind (search_ends hb hl hr hc hbr) ?_)
 cases hs:sr (rep r c l b) r b r 0 0 with
 |none=>exact Ends.neg zb (Ends.const rfl)
 |some y=>
  obtain⟨g1,g2,g3,g4,g5,g6,g7⟩:=found hb hl hr hc hbr hs;obtain⟨e1,e2,e3⟩:=row_vv hl hbr;refine Ends.pos rfl (Ends.bind (List_eq g1) ?_);have hp:=gPick_eq hl hr hc (val_in g2) (by rw[ints_length];exact setL_length y);rw[ints_length]at hp
  refine Ends.bind1 hp (Ends.pos rfl (Ends.bind1 (lrow19 hl hr hc hbr) ?_));have e4:cmbR (setL y).length c (pk c l y) (rowSeg (c:Int) l (b:Int))=((cmbR (setL y).length c (pk c l y) (rowSeg (c:Int) l (b:Int))).1,true,0):=Prod.ext rfl g4;refine Ends.bind ((gComb_ends (pick_bytes hb _) (pk_len hl g2) (setL_length y) hc e2 (row_bytes hb b)).eq e4) ?_;refine Ends.pos rfl (Ends.pos rfl ?_);have hput:Ends (fun k=>local_put.f k (r:Int) ((y:Nat):Int) (cmbR (setL y).length c (pk c l y) (rowSeg (c:Int) l (b:Int))).1) (putC (ints (setL y)) (cmbR (setL y).length c (pk c l y) (rowSeg (c:Int) l (b:Int))).1 r (setL y).length):=by
   unfold local_put.f;refine Ends.pos za (Ends.pos za (Ends.bind (List_eq g1) ?_));rw[Int.toNat_natCast];have D:=setL_length y;have:=put_l0 (P:=ints (setL y)) (x:=(cmbR (setL y).length c (pk c l y) (rowSeg (c:Int) l (b:Int))).1) (n:=r) (by rw[ints_length];exact D) zbb (val_in g2) (setL y).length 0 zr;rw[ints_length]at this
   rw[ints_length];exact this
  exact Ends.bind hput (Ends.const rfl)
theorem rLeast_ends(hb:bytesB l=true)(hl:l.length=r*c)(hr:r<=64)(hc:c<=64)(h1:1<=c)(h2:c<=r)(hbr:b<r):Ends (fun k=>recoupref19_Least.f k (r:Int) (c:Int) l (b:Int)) (leastR r c l b):=by
 unfold recoupref19_Least.f leastR;refine Ends.bind1 (bad19 hl hr hc h1 h2 hbr) (Ends.pos rfl (Ends.bind (others19 hr hbr) ?_));refine Ends.bind (rrepairs_ends hb hl hr hc hbr (oth1_lt hr b) (oth1_val hr za) (oth1_no hr za)) ?_;by_cases hm:rep r c l b (oth1 r b)=true
 case neg=>rw[if_neg hm];exact Ends.neg hm (Ends.const rfl)
 rw[if_pos hm];refine Ends.pos hm (Ends.bind (first_ends hb hl hr hc hbr) ?_)
 cases hs:sr (rep r c l b) r b r 0 0 with
 |none=>exact Ends.neg zb (Ends.const rfl)
 |some y=>
  obtain⟨g1,g2,g3,g4,g5,g6,g7⟩:=found hb hl hr hc hbr hs;obtain⟨e1,e2,e3⟩:=row_vv hl hbr;have D:=setL_length y;refine Ends.pos rfl (Ends.bind (refList_eq g1) ?_);have hp:=rPick_ends hl hr hc (val_in g2) (by rw[ints_length];exact setL_length y);rw[ints_length]at hp
  refine Ends.bind hp (Ends.bind (rRow19 hl hr hc hbr) ?_);refine Ends.bind (rComb_ends (pick_bytes hb _) (pk_len hl g2) (setL_length y) hc e2 (row_bytes hb b)) ?_;refine Ends.pos za (Ends.pos za ?_);rw[Int.toNat_natCast];have:=rput_l0 (P:=ints (setL y)) (x:=(cmbR (setL y).length c (pk c l y) (rowSeg (c:Int) l (b:Int))).1) (n:=r) ((y:Nat):Int) (by rw[ints_length];exact D) zbb (val_in g2) (setL y).length 0 zr;rw[ints_length]at this
  exact this
end
theorem both_least{a b':Int}{l:List Int}(ha:(Lit.int .i64 a).wf=true)(hb:bytesB l=true)(x:Int):
 (∃e:Int,e≠0/\Ends (fun k=>local_Least.f k a b' l x) (0,[],false,e)/\Ends (fun k=>recoupref19_Least.f k a b' l x) (0,[],false,e)/\(recoupref16_Generator.f a b' l=some false∨(recoupref16_Generator.f a b' l=some true/\(x<0∨a<=x))))∨
 ∃r c b:Nat,a=(r:Int)/\b'=(c:Int)/\x=(b:Int)/\r<=64/\1<=c/\c<=r/\l.length=r*c/\b<r/\recoupref16_Generator.f a b' l=some true:=by
 rcases args7 (b:=b') (l:=l) ha (x:=0) zb with⟨h1,h2⟩|⟨r,c,s,rfl,rfl,_,hr,hc,hl,hs⟩
 ·refine .inl ⟨3,by decide,?_,?_,.inl (by unfold recoupref16_Generator.f;rw[h1];rfl)⟩
  ·unfold local_Least.f local_may.f;refine Ends.bind (x:=(false,3)) ?_ (Ends.neg zb ?_)
   ·refine Ends.bind1 h2 (Ends.neg zb ?_);refine Ends.succ (fun k=>by rw[local_may.j0]) ?_;exact Ends.pos rfl (Ends.const rfl)
   ·refine Ends.succ (fun k=>by rw[local_Least.j0]) ?_;exact Ends.pos rfl (Ends.const rfl)
  ·unfold recoupref19_Least.f recoupref19_bad.f recoupref16_Generator.f;rw[h1];exact Ends.const rfl
 ·obtain⟨g1,g2⟩:=right_of hr hc hl;have D:c<=r∨r<c:=by omega
  by_cases hg:1<=c/\c<=r
  case neg=>
   have eG:recoupref16_Generator.f (r:Int) (c:Int) l=some false:=by
    unfold recoupref16_Generator.f;rw[g2,Option.bind_some,if_pos rfl];by_cases e1:1<=c
    case neg=>rw[if_neg za]
    rw[if_pos za];exact congrArg some (decide_eq_false za)
   refine .inl ⟨3,by decide,?_,?_,.inl eG⟩
   ·unfold local_Least.f local_may.f;refine Ends.bind (x:=(false,3)) ?_ (Ends.neg zb ?_)
    ·refine Ends.bind1 g1 (Ends.pos rfl ?_);by_cases e1:1<=c
     case neg=>refine Ends.pos za ?_;refine Ends.succ (fun k=>by rw[local_may.j0]) ?_;exact Ends.pos rfl (Ends.const rfl)
     refine Ends.neg za ?_;refine Ends.succ (fun k=>by rw[local_may.j0]) ?_;exact Ends.pos (decide_eq_true za) (Ends.const rfl)
    ·refine Ends.succ (fun k=>by rw[local_Least.j0]) ?_;exact Ends.pos rfl (Ends.const rfl)
   ·unfold recoupref19_Least.f recoupref19_bad.f;rw[eG];exact Ends.const rfl
  have eG:recoupref16_Generator.f (r:Int) (c:Int) l=some true:=by
   unfold recoupref16_Generator.f;rw[g2,Option.bind_some,if_pos rfl,if_pos za];exact congrArg some (decide_eq_true za)
  by_cases hx:0<=x/\x<(r:Int)
  ·obtain⟨b,rfl⟩:=Int.eq_ofNat_of_zero_le hx.1;exact .inr ⟨r,c,b,rfl,rfl,rfl,hr,hg.1,hg.2,hl,by omega,eG⟩
  refine .inl ⟨2,by decide,?_,?_,.inr ⟨eG,by omega⟩⟩
  ·unfold local_Least.f local_may.f;refine Ends.bind (x:=(false,2)) ?_ (Ends.neg zb ?_)
   ·refine Ends.bind1 g1 (Ends.pos rfl (Ends.neg za ?_));refine Ends.succ (fun k=>by rw[local_may.j0]) ?_;refine Ends.neg zu ?_;by_cases h0:x<0
    case neg=>exact Ends.neg h0 (Ends.pos za (Ends.const rfl))
    exact Ends.pos h0 (Ends.const rfl)
   ·refine Ends.succ (fun k=>by rw[local_Least.j0]) ?_;exact Ends.pos rfl (Ends.const rfl)
  ·unfold recoupref19_Least.f recoupref19_bad.f;rw[eG,Option.bind_some,if_pos rfl];by_cases h0:x<0
   case neg=>rw[if_neg h0,if_pos za];exact Ends.const rfl
   rw[if_pos h0];exact Ends.const rfl
theorem anch19:Ends (fun k=>recouplaw19_anchored.f k) true:=Ends.of_mono recouplaw19_anchored.mono (K:=80) zc
section
variable {r c b:Nat} {l:List Int}
theorem lst_size(hr:r<=64)(hbr:b<r){s t:Nat}(h:t∈lst r b s):(setL t).length=s:=by
 rw[<-lst_filter za hbr,List.mem_map]at h
 obtain⟨m,hm,rfl⟩:=h;obtain⟨h1,h2,h3⟩:=(cm_mem _ _ _ _).1 (List.mem_filter.1 hm).1;rw[setL_ofL h1 fun i hi=>by have:=h3 i hi;omega,h2]
end
end Go.Proofs.YtjgcocfnilhggaaDoor.M
namespace Go.Proofs.YtjgcocfnilhggaaDoor.M
open RowKit Q YtjgcocfnilhggaaDoorW.PrintWords YtjgcocfnilhggaaDoorW.PrintMore
def rowAt(L i j:Nat):List Int:=(List.range L).map fun p=>((if p<=j then binom i p else binom (i+1) p:Nat):Int)
theorem rowAt_getD{L i j p:Nat}(h:p<L):(rowAt L i j).getD p 0=((if p<=j then binom i p else binom (i+1) p:Nat):Int):=by
 rw[List.getD_eq_getElem?_getD,rowAt,List.getElem?_map,List.getElem?_range h];rfl
theorem rowAt_set{L i j:Nat}(h:j+1<L):(rowAt L i (j+1)).set (j+1) ((binom i j+binom i (j+1):Nat):Int)=rowAt L i j:=by
 apply List.ext_getElem
 ·simp[rowAt]
 ·intro p h1 h2;rw[List.getElem_set];simp only[rowAt,List.getElem_map,List.getElem_range];by_cases hp:j+1=p
  ·subst hp;rw[if_pos rfl,if_neg za,binom_succ]
  ·rw[if_neg hp];by_cases hq:p<=j
   ·rw[if_pos za,if_pos hq]
   ·rw[if_neg za,if_neg hq]
theorem rowAt_zero(L i:Nat):rowAt L i 0=(List.range L).map fun p=>((binom (i+1) p:Nat):Int):=by
 unfold rowAt;apply List.map_congr_left;intro p _;by_cases h:p<=0
 ·obtain rfl:p=0:=by omega
  rw[if_pos h,binom_zero,binom_zero]
 ·rw[if_neg h]
theorem rowAt_tip(L i:Nat):rowAt L i (i+1)=(List.range L).map fun p=>((binom i p:Nat):Int):=by
 unfold rowAt;apply List.map_congr_left;intro p _;by_cases h:p<=i+1
 ·rw[if_pos h]
 ·rw[if_neg h,binom_lt za,binom_lt za]
theorem binom_add_small{i:Nat}(hi:i<=64)(a b:Nat):wrap64 (((binom i a:Nat):Int)+((binom i b:Nat):Int))=((binom i a+binom i b:Nat):Int):=by
 have:=binom_le hi a;have:=binom_le hi b;rw[w64 za za];omega
theorem inner_eq{L i:Nat}(hi:i<=64): ∀j,j<L->subset_choose.inner (rowAt L i j) j=rowAt L i 0
 |0,_=>rfl
 |j+1,h=>by
  unfold subset_choose.inner;rw[rowAt_getD h,rowAt_getD (show j<L by omega),if_pos (Nat.le_refl _),if_pos za,Int.add_comm,binom_add_small hi,rowAt_set h];exact inner_eq hi j za
theorem rows_eq: ∀i,i<=64->subset_choose.rows i=(List.range 65).map fun p=>((binom i p:Nat):Int)
 |0,_=>by decide+kernel
 |i+1,h=>by
  unfold subset_choose.rows;rw[rows_eq i za,<-rowAt_tip,inner_eq za (i+1) za,rowAt_zero]
theorem choose_eq{n:Int}(hn:n<=64)(k:Int):subset_choose.f n k=some (bz n k):=by
 unfold subset_choose.f;by_cases h:k<0
 ·rw[if_pos h,bz_neg h]
 ·rw[if_neg h];by_cases h2:k>n
  ·rw[if_pos h2,bz_over h2]
  ·rw[if_neg h2,if_pos hn,rows_eq _ za];unfold bz;rw[if_pos za,List.getD_eq_getElem?_getD,List.getElem?_map,List.getElem?_range za];rfl
def uptoD(n t:Int):Nat:=(mn n t+1).toNat
def uptoV(n t:Int):Int×Int:=if 0<=n/\n<=64 then if 4611686018427387904<us n.toNat (uptoD n t)then(0,4)else(us n.toNat (uptoD n t),0)else(0,2)
theorem uptoD_lt{n:Nat}{t:Int}{j:Nat} :(j:Int)<=mn (n:Int) t↔j<uptoD n t:=by unfold uptoD;omega
theorem uptoD_le{n:Nat}{t:Int} :uptoD n t<=n+1:=by
 have hm:mn (n:Int) t<=n:=by unfold mn;split<;>omega
 unfold uptoD;omega
theorem us_wrap{n j:Nat}(hn:n<=64)(hu:us n j<=4611686018427387904):wrap64 (((us n j:Nat):Int)+((binom n j:Nat):Int))=((us n (j+1):Nat):Int):=by
 have hb:=binom_le hn j;rw[w64 za za,us];omega
theorem next_wrap{n j:Nat}(hn:n<=64)(hj:j<=n):wrap64 ((j:Int)+1)=((j+1:Nat):Int):=by
 rw[w64 za za];omega
theorem upto_l0{n:Nat}(hn:n<=64)(t:Int)(d:Nat): ∀j,j+d=uptoD n t->us n j<=4611686018427387904-> ∀V:Int×Int,V=(if 4611686018427387904<us n (uptoD n t)then(0,4)else(((us n (uptoD n t):Nat):Int),0))->
 Ends (fun k=>subset_Upto.l0 k (n:Int) t (us n j:Nat) (j:Int)) V:=by
 induction d with
 |zero=>
  intro j hj hu V hV;have hD:uptoD n t=j:=by omega
  refine Ends.succ (fun k=>by rw[subset_Upto.l0]) ?_;refine Ends.neg (by rw[uptoD_lt];omega) (Ends.const ?_);rw[hV,hD,if_neg za]
 |succ d ih=>
  intro j hj hu V hV;have hD:j<uptoD n t:=by omega
  have hjn:j<=n:=by have:=uptoD_le (n:=n) (t:=t);omega
  have D:=us_mono n (show j+1<=uptoD n t by omega);refine Ends.succ (fun k=>by rw[subset_Upto.l0]) ?_;refine Ends.pos (uptoD_lt.2 hD) ?_;refine Ends.bind1 (choose_eq za _) ?_;rw[bz_nat,us_wrap hn hu,next_wrap hn hjn];by_cases hx:4611686018427387904<us n (j+1)
  ·have h4:4611686018427387904<us n (uptoD n t):=by omega
   rw[if_pos h4]at hV
   refine Ends.pos za (Ends.const (by rw[hV]))
  ·refine Ends.neg za ?_;exact ih (j+1) za za V hV
theorem Upto_eq(n t:Int):Ends (fun k=>subset_Upto.f k n t) (uptoV n t):=by
 unfold subset_Upto.f uptoV;rw[may_eq];refine Ends.bind1 rfl ?_;by_cases h:0<=n/\n<=64
 ·refine Ends.pos zae ?_;rw[if_pos h];obtain⟨m,rfl⟩:=Int.eq_ofNat_of_zero_le h.1;exact upto_l0 za t _ 0 (Nat.zero_add _) (by simp[us]) _ rfl
 ·refine Ends.neg zae (Ends.const ?_);rw[if_neg h]
end Go.Proofs.YtjgcocfnilhggaaDoor.M
namespace Go.Proofs.YtjgcocfnilhggaaDoor.M
open RowKit YtjgcocfnilhggaaDoorW.PrintWords YtjgcocfnilhggaaDoorW.PrintLast YtjgcocfnilhggaaDoorW.PrintMore Q
section
variable {r c b:Nat} {l:List Int}
theorem chooseN_ends(hb:bytesB l=true)(hl:l.length=r*c)(hr:r<=64)(hc:c<=64)(hbr:b<r){m:Nat}(hm:m<=16): ∀(ys acc:List Nat),(∀y∈ys,y<2^64/\Val r y)->acc.length<=m->
 Ends (fun k=>chooseN k (r:Int) (c:Int) l (b:Int) (m:Int) (ints ys) (ints acc)) (ints (acc++(ys.filter (rep r c l b)).take (m-acc.length)))
 | [],acc,_,_=>Ends.const zd
 |y::ys,acc,h,ha=>by
  have hy:=h y List.mem_cons_self;have hys: ∀z∈ys,z<2^64/\Val r z:=fun z hz=>h z (List.mem_cons_of_mem _ hz);refine Ends.congr (g:=fun k=>if(ints acc).length<100000 then(if((ints acc).length:Int)=(m:Int)then some (ints acc)else(local_repairs.f k (r:Int) (c:Int) l (b:Int) (y:Int)).bind fun t=>if t=true then chooseN k (r:Int) (c:Int) l (b:Int) (m:Int) (ints ys) (ints acc++ [(y:Int)])else chooseN k (r:Int) (c:Int) l (b:Int) (m:Int) (ints ys) (ints acc))else none) (fun k=>rfl) ?_;rw[ints_length];refine Ends.pos za ?_;by_cases h1:acc.length=m
  ·refine Ends.pos za (Ends.const ?_);rw[h1,Nat.sub_self,List.take_zero,List.append_nil]
  refine Ends.neg za (Ends.bind (repairs_ends hb hl hr hc hbr hy.1 hy.2) ?_);by_cases h2:rep r c l b y=true
  case neg=>refine Ends.neg h2 ?_;have ih:=chooseN_ends hb hl hr hc hbr hm ys acc hys ha;refine ih.eq ?_;rw[List.filter_cons_of_neg h2]
  refine Ends.pos h2 ?_;have ih:=chooseN_ends hb hl hr hc hbr hm ys (acc++ [y]) hys (by rw[List.length_append];simp;omega);rw[show ints acc++ [(y:Int)] =ints (acc++ [y])from by simp[ints]];refine ih.eq ?_;rw[List.filter_cons_of_pos h2,show m-acc.length=(m-(acc++ [y]).length)+1 from by rw[List.length_append];simp;omega,List.take_succ_cons];simp
def chL(r c:Nat)(l:List Int)(b m:Nat)(y:Nat):List Int:=ints (((lst r b (setL y).length).filter (rep r c l b)).take m)
def chV(r c:Nat)(l:List Int)(b m:Nat):List Int×Int:=
 if rep r c l b (oth1 r b)=true then(match sr (rep r c l b) r b r 0 0 with
  |none=>([],4)
  |some y=>if us (r-1) ((setL y).length+1)<=16384 then(chL r c l b m y,0)else([],4))
 else([],0)
theorem Choices_ends(hb:bytesB l=true)(hl:l.length=r*c)(hr:r<=64)(hc:c<=64)(h1:1<=c)(h2:c<=r)(hbr:b<r){m:Nat}(hm:m<=16):Ends (fun k=>local_Choices.f k (r:Int) (c:Int) l (b:Int) (m:Int)) (chV r c l b m):=by
 unfold local_Choices.f;refine Ends.bind (Least_ends hb hl hr hc h1 h2 hbr) ?_;unfold leastR chV;by_cases ha:rep r c l b (oth1 r b)=true
 case neg=>rw[if_neg ha,if_neg ha];exact Ends.pos rfl (Ends.neg za (Ends.neg zb (Ends.const rfl)))
 rw[if_pos ha,if_pos ha]
 cases hs:sr (rep r c l b) r b r 0 0 with
 |none=>exact Ends.neg (show¬(4:Int)=0 from by decide) (Ends.const rfl)
 |some y=>
  obtain⟨g1,g2,g3,_⟩:=found hb hl hr hc hbr hs;obtain⟨s,_,s2,s3,_,_⟩:=sr_spec _ _ _ _ _ _ _ hs;have hn:=lst_size hr hbr s3;have hnr:(setL y).length<=r-1:=by omega
  refine Ends.pos rfl (Ends.neg za (Ends.pos rfl (Ends.bind1 (Count_eq g1) ?_)));have hw:wrap64 ((r:Int)-1)=((r-1:Nat):Int):=by rw[w64 za za];omega
  rw[hw];refine Ends.bind (Upto_eq _ _) ?_;have hD:uptoD ((r-1:Nat):Int) (((setL y).length:Nat):Int)=(setL y).length+1:=by
   unfold uptoD mn
   split<;>omega
  have hV:uptoV ((r-1:Nat):Int) (((setL y).length:Nat):Int)=if 4611686018427387904<us (r-1) ((setL y).length+1)then(0,4)else(((us (r-1) ((setL y).length+1):Nat):Int),0):=by
   unfold uptoV;rw[if_pos ⟨by omega,by omega⟩,hD,Int.toNat_natCast]
  rw[hV];show Ends _ (if us (r-1) ((setL y).length+1)<=16384 then(chL r c l b m y,0)else([],4));obtain⟨u,hu⟩: ∃u,u=us (r-1) ((setL y).length+1):=⟨_,rfl⟩
  rw[<-hu];by_cases hle:u<=16384
  ·rw[if_pos hle,if_neg za];refine Ends.pos ⟨rfl,by show(u:Int)<=16384;omega⟩ (Ends.pos ⟨by omega,by omega,by omega⟩ ?_);refine Ends.bind (allN_ends za hnr) ?_;rw[lst_map hr za];refine Ends.bind (x:=chL r c l b m y) ?_ (Ends.const rfl);exact chooseN_ends hb hl hr hc hbr hm _ [] (fun z hz=>⟨(lst_val hr hbr z hz).1,(lst_val hr hbr z hz).2.1⟩) (Nat.zero_le _)
  rw[if_neg hle];refine Ends.neg (fun h=>?_) (Ends.const rfl);by_cases h4:4611686018427387904<u
  ·rw[if_pos h4]at h
   cases h.1
  rw[if_neg h4]at h
  have:(u:Int)<=16384:=h.2;omega
end
theorem Choices_bad{a b' x e m:Int}{l:List Int}(he:e≠0)(h:Ends (fun k=>local_Least.f k a b' l x) (0,[],false,e)):Ends (fun k=>local_Choices.f k a b' l x m) ([],e):=by
 unfold local_Choices.f;exact Ends.bind h (Ends.neg he (Ends.const rfl))
end Go.Proofs.YtjgcocfnilhggaaDoor.M
