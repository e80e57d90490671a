/- The row LocalFresh: the Go law answers true at every input that its guards let in; no condition of its own. -/
import Derived.OpenShut
import Derived.WideShapes
import Derived.Deep.Slices
import Derived.Test.YtjgcocfnilhggaaDoorRows
import Derived.LaidMore
import Derived.Lib.LaidTab
import Derived.SevenTiedAt
import Derived.Test.YtjgcocfnilhggaaDoorCards
import Derived.Test.YtjgcocfnilhggaaDoorTie
import Derived.ProofKit
import Derived.ShutString
import Derived.ChangeOld
import Derived.Test.YtjgcocfnilhggaaDoorLh6
set_option maxHeartbeats 16000000
set_option maxRecDepth 100000
set_option linter.unusedVariables false
set_option linter.unusedSimpArgs false
namespace Go.Proofs.YtjgcocfnilhggaaDoor.M
open RowKit YtjgcocfnilhggaaDoorW.PrintWords YtjgcocfnilhggaaDoorW.PrintLast YtjgcocfnilhggaaDoorW.PrintMore Q
theorem spoil_l1(x:Int): ∀(d j:Nat) (l:List Int),j+d=l.length->l.length<=10000->Ends (fun k=>recoupref01_Spoil.l1 k l x (j:Int)) ()
 |0,j,l,h,_=>by
  refine Ends.succ (fun k=>by rw[recoupref01_Spoil.l1]) ?_;exact Ends.neg za (Ends.const rfl)
 |d+1,j,l,h,hl=>by
  have ih:=spoil_l1 x d (j+1) (l.set j x) zw zah;refine Ends.succ (fun k=>by rw[recoupref01_Spoil.l1]) ?_;refine Ends.pos za (Ends.pos za ?_);rw[Int.toNat_natCast,show wrap64 ((j:Int)+1)=((j+1:Nat):Int)from by rw[w64 za za];omega];exact ih
theorem spoil_l0(x:Int): ∀(d j:Nat) (l:List Int),j+d=l.length->l.length<=9000->Ends (fun k=>recoupref01_Spoil.l0 k l x (j:Int)) ()
 |0,j,l,h,hl=>by
  refine Ends.succ (fun k=>by rw[recoupref01_Spoil.l0]) ?_;refine Ends.neg za (Ends.bind1 rfl (Ends.pos zk ?_));exact spoil_l1 x (l++ [x,x,x]).length 0 _ za zk
 |d+1,j,l,h,hl=>by
  have ih:=spoil_l0 x d (j+1) (l.set j (Go.bits .xor .u8 x ((j:Int) % 256))) zw zah;refine Ends.succ (fun k=>by rw[recoupref01_Spoil.l0]) ?_;refine Ends.pos za (Ends.pos za ?_);rw[Int.toNat_natCast,show wrap64 ((j:Int)+1)=((j+1:Nat):Int)from by rw[w64 za za];omega];exact ih
theorem spoil_ends(x:Int){l:List Int}(hl:l.length<=9000):Ends (fun k=>recoupref01_Spoil.f k l x) ():=spoil_l0 x l.length 0 l za hl
theorem least_out{r c b:Nat}{l:List Int}(hb:bytesB l=true)(hl:l.length=r*c)(hr:r<=64)(hc:c<=64)(hbr:b<r):(∃s:Nat,(leastR r c l b).1=(s:Int)/\s<2^64)/\(leastR r c l b).2.1.length<=64:=by
 unfold leastR;by_cases ha:rep r c l b (oth1 r b)=true
 ·rw[if_pos ha]
  cases hs:sr (rep r c l b) r b r 0 0 with
  |none=>exact⟨⟨0,rfl,by decide⟩,by simp⟩
  |some y=>exact⟨⟨y,rfl,(found hb hl hr hc hbr hs).1⟩,by show(putC _ _ _ _).length<=64;rw[putC_length];exact hr⟩
 ·rw[if_neg ha];exact⟨⟨0,rfl,by decide⟩,by simp⟩
theorem sizes_l0{r c:Nat}{l:List Int}(hb:bytesB l=true)(hl:l.length=r*c)(hr:r<=64)(hc:c<=64)(h1:1<=c)(h2:c<=r): ∀(d i:Nat) (x:List Int),i+d=r->x.length=r-> ∃p,Ends (fun k=>local_Sizes.l0 k x (r:Int) (i:Int) (r:Int) (c:Int) l) p/\p.1.length<=64
 |0,i,x,hi,hx=>by
  refine⟨(x,0),Ends.succ (fun k=>by rw[local_Sizes.l0]) (Ends.neg za (Ends.const rfl)),?_⟩;show x.length<=64;omega
 |d+1,i,x,hi,hx=>by
  have hir:i<r:=by omega
  have hw:wrap64 ((i:Int)+1)=((i+1:Nat):Int):=by rw[w64 za za];omega
  obtain⟨⟨s,e1,hs⟩,_⟩:=least_out hb hl hr hc hir;by_cases he:(leastR r c l i).2.2.2=0
  ·have hcnt:=Count_eq hs;rw[<-e1]at hcnt
   by_cases hk:(leastR r c l i).2.2.1=true
   ·obtain⟨p,hp,D⟩:=sizes_l0 hb hl hr hc h1 h2 d (i+1) (x.set i (((setL s).length:Nat):Int)) za (by rw[List.length_set];exact hx);refine⟨p,Ends.succ (fun k=>by rw[local_Sizes.l0]) ?_,D⟩;refine Ends.pos za (Ends.bind (Least_ends hb hl hr hc h1 h2 hir) (Ends.pos he (Ends.bind1 hcnt (Ends.pos za (Ends.pos za (Ends.bind1 rfl (Ends.pos hk ?_)))))));rw[hw,Int.toNat_natCast];exact hp
   ·obtain⟨p,hp,D⟩:=sizes_l0 hb hl hr hc h1 h2 d (i+1) ((x.set i (((setL s).length:Nat):Int)).set i (-1)) za (by rw[List.length_set,List.length_set];exact hx);refine⟨p,Ends.succ (fun k=>by rw[local_Sizes.l0]) ?_,D⟩;refine Ends.pos za (Ends.bind (Least_ends hb hl hr hc h1 h2 hir) (Ends.pos he (Ends.bind1 hcnt (Ends.pos za (Ends.pos za (Ends.bind1 rfl (Ends.neg hk ?_)))))));rw[hw,Int.toNat_natCast];exact hp
  ·refine⟨([],(leastR r c l i).2.2.2),Ends.succ (fun k=>by rw[local_Sizes.l0]) ?_,by simp⟩;exact Ends.pos za (Ends.bind (Least_ends hb hl hr hc h1 h2 hir) (Ends.neg he (Ends.const rfl)))
theorem sizes_out{a b':Int}{l:List Int}(ha:(Lit.int .i64 a).wf=true)(hb:bytesB l=true): ∃p,Ends (fun k=>local_Sizes.f k a b' l) p/\p.1.length<=64:=by
 have hbad: ∀a b':Int,Ends (fun k=>local_Sizes.j0 k true a b' l) ([],3):=fun a b'=>by
  refine Ends.succ (fun k=>by rw[local_Sizes.j0]) ?_;exact Ends.pos rfl (Ends.const rfl)
 unfold local_Sizes.f;rcases args7 (b:=b') (l:=l) ha (x:=0) zb with⟨_,h2⟩|⟨r,c,s,rfl,rfl,_,hr,hc,hl,hs⟩
 ·exact⟨([],3),Ends.bind1 h2 (Ends.neg zb (hbad _ _)),by simp⟩
 ·obtain⟨g1,_⟩:=right_of hr hc hl;by_cases h1:(c:Int)<1
  ·exact⟨([],3),Ends.bind1 g1 (Ends.pos rfl (Ends.pos h1 (hbad _ _))),by simp⟩
  ·by_cases h2:(r:Int)<(c:Int)
   ·exact⟨([],3),Ends.bind1 g1 (Ends.pos rfl (Ends.neg h1 (by rw[decide_eq_true h2];exact hbad _ _))),by simp⟩
   ·obtain⟨p,hp,D⟩:=sizes_l0 hb hl hr hc za za r 0 (List.replicate r 0) za zd;refine⟨p,Ends.bind1 g1 (Ends.pos rfl (Ends.neg h1 ?_)),D⟩;rw[decide_eq_false h2];refine Ends.succ (fun k=>by rw[local_Sizes.j0]) ?_;refine Ends.neg zb (Ends.pos za (Ends.pos za (Ends.bind1 rfl ?_)));rw[Int.toNat_natCast,List.length_replicate];exact hp
theorem fresh_l1(x1 a b a' b':Int)(l l':List Int){t:Int×List Int×Bool×Int}(h1:Ends (fun k=>local_Least.f k a' b' l' x1) t)(h2:Ends (fun k=>recoupref19_Least.f k a b l x1) t)(hL:recoupref03_Like.f a' b' l' a b l=some true): ∀(d j:Nat) (n:List Int),j+d=n.length->n.length<=1000->
 Ends (fun k=>recouplaw19_LocalFresh.l1 k x1 n (j:Int) a b l a' b' l') true
 |0,j,n,h,_=>by
  refine Ends.succ (fun k=>by rw[recouplaw19_LocalFresh.l1]) ?_;refine Ends.neg za (Ends.bind h1 (Ends.bind h2 (Ends.bind anch19 (Ends.pos rfl ?_))));exact Ends.bind1 hL (Ends.pos rfl (Ends.bind1 (Same_self _) (Ends.pos rfl (Ends.const zd))))
 |d+1,j,n,h,hn=>by
  have ih:=fresh_l1 x1 a b a' b' l l' h1 h2 hL d (j+1) (n.set j 99) zw (by rw[List.length_set];exact hn);refine Ends.succ (fun k=>by rw[recouplaw19_LocalFresh.l1]) ?_;refine Ends.pos za (Ends.pos za ?_);rw[Int.toNat_natCast,show wrap64 ((j:Int)+1)=((j+1:Nat):Int)from by rw[w64 za za];omega];exact ih
theorem fresh_l0(x1 a b a' b':Int)(l l' n:List Int)(hn:n.length<=1000){t:Int×List Int×Bool×Int}(h1:Ends (fun k=>local_Least.f k a' b' l' x1) t)(h2:Ends (fun k=>recoupref19_Least.f k a b l x1) t)(hL:recoupref03_Like.f a' b' l' a b l=some true): ∀(d j:Nat) (m:List Int),j+d=m.length->m.length<=1000->
 Ends (fun k=>recouplaw19_LocalFresh.l0 k x1 m n (j:Int) a b l a' b' l') true
 |0,j,m,h,_=>by
  refine Ends.succ (fun k=>by rw[recouplaw19_LocalFresh.l0]) ?_;exact Ends.neg za (fresh_l1 x1 a b a' b' l l' h1 h2 hL n.length 0 n za hn)
 |d+1,j,m,h,hm=>by
  have ih:=fresh_l0 x1 a b a' b' l l' n hn h1 h2 hL d (j+1) (m.set j 0) zw (by rw[List.length_set];exact hm);refine Ends.succ (fun k=>by rw[recouplaw19_LocalFresh.l0]) ?_;refine Ends.pos za (Ends.pos za ?_);rw[Int.toNat_natCast,show wrap64 ((j:Int)+1)=((j+1:Nat):Int)from by rw[w64 za za];omega];exact ih
theorem chV_len(r c:Nat)(l:List Int)(b m:Nat):(chV r c l b m).1.length<=m:=by
 unfold chV
 split
 ·split
  ·exact Nat.zero_le _
  ·split
   ·unfold chL;rw[ints_length,List.length_take];exact Nat.min_le_left _ _
   ·exact Nat.zero_le _
 ·exact Nat.zero_le _
theorem fresh_ends{a b':Int}{l:List Int}(ha:(Lit.int .i64 a).wf=true)(hb:bytesB l=true)(hlen:l.length*1<=140737488351232)(x:Int):Ends (fun k=>recouplaw19_LocalFresh.f k a b' l x) true:=by
 have hcopy:recoupref03_Copy.f a b' l=some (a,b',l):=by
  unfold recoupref03_Copy.f recoupref01_Copy.f;rw[Option.bind_some,if_pos zk];rfl
 obtain⟨p,hp,I⟩:=sizes_out (b':=b') ha hb;have fin: ∀(t:Int×List Int×Bool×Int) (q:List Int×Int),t.2.1.length<=9000->q.1.length<=1000->Ends (fun k=>local_Least.f k a b' l x) t->Ends (fun k=>recoupref19_Least.f k a b' l x) t->Ends (fun k=>local_Choices.f k a b' l x 4) q->Ends (fun k=>recouplaw19_LocalFresh.f k a b' l x) true:=fun t q ht hq h1 h2 h3=>by
  unfold recouplaw19_LocalFresh.f;refine Ends.bind1 hcopy (Ends.bind h1 (Ends.bind h3 (Ends.bind hp (Ends.bind (spoil_ends _ ht) ?_))));exact fresh_l0 x a b' a b' l l p.1 za h1 h2 (Like_self _ _ _) q.1.length 0 q.1 za hq
 rcases both_least (b':=b') ha hb x with⟨e,he,h1,h2,_⟩|⟨r,c,b,rfl,rfl,rfl,hr,D,G,hl,hbr,_⟩
 ·exact fin _ ([],e) zd zd h1 h2 (Choices_bad he h1)
 ·refine fin _ _ ?_ ?_ (Least_ends hb hl hr za D G hbr) (rLeast_ends hb hl hr za D G hbr) (Choices_ends (m:=4) hb hl hr za D G hbr za)
  ·exact Nat.le_trans (least_out hb hl hr za hbr).2 zb
  ·exact Nat.le_trans (chV_len r c l b 4) zb
end Go.Proofs.YtjgcocfnilhggaaDoor.M
namespace Go.Proofs.YtjgcocfnilhggaaDoor.Pure
open RowKit M
theorem LocalFresh: ∀x0:Q.S24,((Lit.int .i64 x0.f0).wf=true/\((Lit.int .i64 x0.f1).wf=true/\(x0.f2.length<=maxLen/\x0.f2.length*1<=140737488351232/\ ∀x5∈x0.f2,(Lit.int .u8 x5).wf=true)))-> ∀x1:Int,(Lit.int .i64 x1).wf=true-> ∃k,Q.recouplaw19_LocalFresh.f k x0.f0 x0.f1 x0.f2 x1=some true:=by
 rintro⟨a,b,l⟩ ⟨ha,_,_,hlen,hl⟩ x hx;exact Ends.exists (fresh_ends (b':=b) ha (bytesB_wf hl) hlen x)
end Go.Proofs.YtjgcocfnilhggaaDoor.Pure
namespace Go.Proofs.YtjgcocfnilhggaaDoor.Open
open RowKit Go.Deep YtjgcocfnilhggaaDoorW.PrintWords
def Sz{H:Type}(P:Program)(t:TypeId)(d:DataW H):Prop:= ∀n∈d.weights P t,n<=reachBytes
structure Opens {α:Type} (P:Program) (t:TypeId) (d:Kd α) (well:α->Prop):Prop where
 cells:P.cellsOf t=d.sz
 run: ∀ {H:Type} (enc:TypeId×Value->H) (W:World) (n:Nat) (cs:List Value) (y:DataW H×List MemPlace),
  DataW.trod enc P W 0 (fun _=>true) true n t cs=some y->Sz P t y.1-> ∃x,d.K W x cs/\well x
theorem opens_int{P:Program}{t:TypeId}{k:IntKind}(ht:P.underlying t=some (.int k))(hc:P.cellsOf t=1):Opens P t (Kd.int k) (fun x=>(Lit.int k x).wf=true):=by
 refine⟨hc,fun enc W n cs y h _=>?_⟩;obtain⟨a,rfl,rfl,hw⟩:=DataW.trod_int ht h;exact⟨a,rfl,hw⟩
theorem weightsAll_mem{H:Type}{P:Program}{e:TypeId} : ∀ {l:List (DataW H)} {d:DataW H},d∈l-> ∀n∈d.weights P e,n∈DataW.weightsAll P e l
 |a::l,d,hd,n,hn=>by
  rw[DataW.weightsAll];rcases List.mem_cons.1 hd with rfl|hd
  ·exact List.mem_append_left _ hn
  ·exact List.mem_append_right _ (weightsAll_mem hd n hn)
theorem opens_slice{α:Type}{P:Program}{t e:TypeId}{d:Kd α}{well:α->Prop}{B:Nat}(ht:P.underlying t=some (.slice e))(hc:P.cellsOf t=1)(hB:P.bytesOf e=B)(z:α)(h:Opens P e d well):
 Opens P t (Kd.slice e d) (fun l=>l.length<=maxLen/\l.length*B<=140737488351232/\ ∀x∈l,well x):=by
 refine⟨hc,fun enc W n cs y hy hz=>?_⟩;rcases open_slice ht hy with⟨rfl,rfl⟩|⟨a,len,cap,m,n',D,Pl,rfl,_,hl,hm,hmm,rfl,hx⟩
 ·exact⟨[],⟨none,0,rfl,Nat.le_refl _,rfl,by simp,fun hn=>absurd hn zd⟩,by simp,by simp,by simp⟩
 have hm':len<=m:=by rw[hmm];split<;>omega
 have:Inhabited α:=⟨z⟩
 have hw: ∀i,i<len-> ∃x,(∃cs',W.cells? 0 (a.add (i*P.cellsOf e)) (P.cellsOf e)=some cs'/\d.K W x cs')/\well x:=by
  intro i hi;obtain⟨cs',h1,h2⟩:=hx i za;obtain⟨x,k,w⟩:=h.run enc W n' cs' _ h2 (fun q hq=>by
   refine hz q ?_;simp only[DataW.weights,ht];refine List.mem_cons_of_mem _ (List.mem_append_left _ (weightsAll_mem (d:=D i) ?_ q hq));exact List.mem_map.2 ⟨i,by simpa using hi,rfl⟩)
  exact⟨x,⟨cs',h1,k⟩,w⟩
 obtain⟨V,hV⟩:=choose_lt hw;have hlen:((List.range len).map V).length=len:=by simp
 have hb:len*B<=140737488351232:=by
  have:=hz ((((List.range len).map D).length+((List.range (m-len)).map fun j=>D (len+j)).length)*P.bytesOf e) (by simp only[DataW.weights,ht];exact List.mem_cons_self);rw[hB]at this
  simp only[List.length_map,List.length_range]at this;exact Nat.le_trans (Nat.mul_le_mul_right _ za) this
 have hmx:maxLen=9223372036854775807:=by decide
 refine⟨(List.range len).map V,⟨some a,cap,by rw[hlen],by rw[hlen];exact hl,rfl,by rw[hlen];omega,fun _=>⟨a,rfl,fun j p hj=>?_⟩⟩,by rw[hlen];omega,by rw[hlen];exact hb,?_⟩
 ·obtain⟨G,I⟩:=List.getElem?_eq_some_iff.1 hj;have hjl:j<len:=by simpa using G
  have hp:p=V j:=by simpa using I.symm
  subst hp;obtain⟨⟨cs',h1,k⟩,_⟩:=hV j hjl;obtain⟨_,hcl,hcell⟩:=World.cells?_some h1;refine⟨cs',d.K_len k,k,fun i u hu=>?_⟩;have hi:i<P.cellsOf e:=by rw[<-hcl];exact(List.getElem?_eq_some_iff.1 hu).1
  rw[<-h.cells,<-Addr.add_add,hcell i hi];exact hu
 ·intro x hx;obtain⟨i,hi,rfl⟩:=List.mem_map.1 hx;exact(hV i (by simpa using hi)).2
structure OpensF {α:Type} (P:Program) (fs:List Field) (off:Nat) (d:Kd α) (well:α->Prop):Prop where
 run: ∀ {H:Type} (enc:TypeId×Value->H) (W:World) (n:Nat) (cs:List Value) (xs:List (DataW H×List MemPlace)),cs.length=off+d.sz->
  (∀(i:Nat) (f:Field),fs[i]? =some f->DataW.trod enc P W 0 (fun _=>true) true n f.type ((cs.drop f.offset).take (P.cellsOf f.type))=xs[i]?)->xs.length=fs.length->
  (∀q∈DataW.weightsEach P (fs.map (·.type)) (xs.map (·.1)),q<=reachBytes)-> ∃x,d.K W x (cs.drop off)/\well x
theorem OpensF.one{α:Type}{P:Program}{f:Field}{off:Nat}{d:Kd α}{well:α->Prop}(ho:f.offset=off)(h:Opens P f.type d well):OpensF P [f] off d well:=by
 refine⟨?_⟩;intro H enc W n cs xs hl hf hx hz;obtain⟨y,rfl⟩: ∃y,xs= [y]:=List.length_eq_one_iff.1 hx;have h0:=hf 0 f rfl;rw[ho,List.take_of_length_le (by rw[List.length_drop,h.cells];omega)]at h0
 exact h.run enc W n _ y h0 (fun q hq=>hz q (by simpa[DataW.weightsEach]using hq))
theorem OpensF.cons{α β:Type}{P:Program}{f:Field}{fs:List Field}{off:Nat}{d:Kd α}{d':Kd β}{well:α->Prop}{well':β->Prop}(ho:f.offset=off)(h:Opens P f.type d well)(h':OpensF P fs (off+d.sz) d' well'):
 OpensF P (f::fs) off (Kd.pair d d') (fun x=>well x.1/\well' x.2):=by
 refine⟨?_⟩;intro H enc W n cs xs hl hf hx hz
 match xs,hx with
 |y::ys,hx=>
  have hl':cs.length=off+(d.sz+d'.sz):=hl;have h0:=hf 0 f rfl;rw[ho]at h0
  obtain⟨x,k,w⟩:=h.run enc W n _ y h0 (fun q hq=>hz q (by simp[DataW.weightsEach,hq]));obtain⟨x',k',w'⟩:=h'.run enc W n cs ys za (fun i g hg=>hf (i+1) g hg) (by simpa using hx) (fun q hq=>hz q (by simp only[List.map_cons,DataW.weightsEach];exact List.mem_append_right _ hq));rw[h.cells]at k
  refine⟨(x,x'),⟨_,_,?_,k,k'⟩,w,w'⟩;rw[<-List.drop_drop,List.take_append_drop]
theorem Opens.struct{α β:Type}{P:Program}{t:TypeId}{fs:Array Field}{d:Kd α}{well:α->Prop}{f:β->α}(ht:P.underlying t=some (.struct fs))(hc:P.cellsOf t=d.sz)(hs: ∀a,∃b,f b=a)(h:OpensF P fs.toList 0 d well):
 Opens P t (Kd.iso d f) (fun x=>well (f x)):=by
 refine⟨hc,fun enc W n cs y hy hz=>?_⟩;obtain⟨xs,m,_,rfl,hl,hx,hf⟩:=DataW.trod_struct ht hy;obtain⟨x,k,w⟩:=h.run enc W m cs xs (by rw[hl,hc,Nat.zero_add]) (fun i g hg=>hf i g (by simpa using hg)) (by simpa using hx) (fun q hq=>hz q (by simp only[DataW.weights,ht];exact hq));obtain⟨b,rfl⟩:=hs x;rw[List.drop_zero]at k
 exact⟨b,k,w⟩
theorem sz_of{H:Type}{P:Program}{ts:List TypeId}{ds:List (DataW H)}{j:Nat}{t:TypeId}{d:DataW H}(hsz:(DataW.weightsEach P ts ds).all (· <=reachBytes)=true)(ht:ts[j]? =some t)(hd:ds[j]? =some d):Sz P t d:=
 fun n hn=>by simpa using List.all_eq_true.1 hsz n (DataW.weights_mem_each ht hd n hn)
theorem Opens.arg{α:Type}{P:Program}{t:TypeId}{d:Kd α}{well:α->Prop}(h:Opens P t d well){H:Type}{enc:TypeId×Value->H}{W:World}{v:Value}{y:DataW H}{ps:List MemPlace}{ts:List TypeId}{ds:List (DataW H)}{j:Nat}
 (hsz:(DataW.weightsEach P ts ds).all (· <=reachBytes)=true) (ht:ts[j]? =some t) (hd:ds[j]? =some y) (hv:DataW.Trod enc P W 0 (fun _=>true) true t v y ps): ∃x,d.K W x v.cells.toList/\well x:=by
 obtain⟨n,hn⟩:=hv;exact h.run enc W n _ _ hn (sz_of hsz ht hd)
theorem trod_lt_of{H:Type}{enc:TypeId×Value->H}{P:Program}{W:World}{t:TypeId}{v:Value}{y:DataW H}{ps:List MemPlace}(hv:DataW.Trod enc P W 0 (fun _=>true) true t v y ps): ∀x∈ps,x.block<W.heap.size:=by
 obtain⟨m,hm⟩:=hv;exact DataW.trod_lt m _ _ _ hm
end Go.Proofs.YtjgcocfnilhggaaDoor.Open
namespace Go.Proofs.YtjgcocfnilhggaaDoor.localFresh
open Go.ChangeShapes Go.WideShapes Go.ChangeAt RowKit YtjgcocfnilhggaaDoorW.PrintWords
theorem own:ownKnob Tryd.prog.godebug=none:=by kernel_rfl
theorem laidOut:laidOutB Tryd.prog=true:=by kernel_rfl
theorem opens0:Open.Opens Tryd.prog 24 Q.k24 (fun x=>((Lit.int .i64 x.f0).wf=true/\((Lit.int .i64 x.f1).wf=true/\(x.f2.length<=maxLen/\x.f2.length*1<=140737488351232/\ ∀x4∈x.f2,(Lit.int .u8 x4).wf=true)))):=(Open.Opens.struct (d:=(Kd.pair (Kd.int .i64) (Kd.pair (Kd.int .i64) (Kd.slice 5 (Kd.int .u8))))) (f:=fun x:Q.S24=>(x.f0,x.f1,x.f2)) Tryd.underlying24 zc (fun a=>⟨⟨a.1,a.2.1,a.2.2⟩,rfl⟩) (Open.OpensF.cons rfl (Open.opens_int Tryd.underlying3 zc) (Open.OpensF.cons rfl (Open.opens_int Tryd.underlying3 zc) (Open.OpensF.one rfl (Open.opens_slice Tryd.underlying22 zc zc (0:Int) (Open.opens_int Tryd.underlying5 zc))))))
theorem opens1:Open.Opens Tryd.prog 3 (Kd.int .i64) (fun x=>(Lit.int .i64 x).wf=true):=(Open.opens_int Tryd.underlying3 zc)
theorem door_met(os:Os)(args:Array Value):laidMetH Tryd.prog [("math/bits.deBruijn64tab",Rows.laid_math_bits_deBruijn64tab)] ((World.doorLaid Tryd.prog 14 os).forCall (fun _ _=>0) ⟨#[],args,[]⟩).memory:=
 laidMetH_of_parts3 (fuel:=8) (laidMet_of_run' 8 zc zc) zc zc
theorem tab_of{w:World}(h:laidMetH Tryd.prog [("math/bits.deBruijn64tab",Rows.laid_math_bits_deBruijn64tab)] w):TabAt 0 Lib.deBruijn64tab w:=by
 rw[MakeChecks.laidMetH_plain _ _ _ zc]at h
 have h':laidMet Tryd.prog [("math/bits.deBruijn64tab",Lib.tabData .u8 (Lib.deBruijn64tab.map fun(x:Nat)=>(x:Int)))] w:=h;intro j hj;have e:=(Lib.tabIs_of_head (g:=0) zc zc Tryd.underlying120 Tryd.underlying5 zc zc h').cell (g:=0) zc j (by simpa using hj);rw[e];simp[List.getD_eq_getElem?_getD,List.getElem?_eq_getElem hj]
theorem lifted(os:Os)(started:os.Started)(H:Type)(enc:TypeId×Value->H):
 ReturnsInHanded {} Tryd.checked os 7 .any (fun w args=>(Rows.localFreshSpec.pre enc Tryd.prog Tryd.f7 [] false w args/\laidMetH Tryd.prog [("math/bits.deBruijn64tab",Rows.laid_math_bits_deBruijn64tab)] w)/\sizedMet enc Tryd.prog Tryd.f7 (OpenSpec.ofChange Rows.localFreshSpec) false w args) (Rows.localFreshSpec.post enc Tryd.prog Tryd.f7 false true false false):=by
 refine returnsInHanded_of_change_and (C:=Tryd.checked) (X:=fun w _=>laidMetH Tryd.prog [("math/bits.deBruijn64tab",Rows.laid_math_bits_deBruijn64tab)] w) (fun _ _ _ hh h=>h.of_heap hh) own started zc Tryd.func7
  (ChangeSpec.witness_shaped (enc:=enc) (C:=Tryd.checked) (os:=os) (X:=fun w _=>laidMetH Tryd.prog [("math/bits.deBruijn64tab",Rows.laid_math_bits_deBruijn64tab)] w) false (World.doorLaid Tryd.prog 14 os) #[.agg #[(.int .i64 0),(.int .i64 0),(.slice none 0 0)],.int .i64 0] 8 rfl (World.shaped_of_RefB zc zc) zc zc zc (door_met os _)) ?_
 intro W base args ds gs before D hW hcnd J hL _;have hsz:(DataW.weightsEach Tryd.prog (Tryd.f7.params.toList++Rows.localFreshSpec.plain.varTypes Tryd.prog) (ds++gs)).all (· <=reachBytes)=true:=J;have hval: ∀(j:Nat) t v,Tryd.f7.params[j]? =some t->args[j]? =some v->Value.okWide Tryd.prog W .any base t v:=D;have hW':=hW;obtain⟨p,q,U,hV,rfl,hfz,hnd⟩:=hW;have hA:DataW.TrodAll enc Tryd.prog W 0 (fun _=>true) true Tryd.f7.params.toList args.toList ds p:=U;rw[Tryd.params7]at hA hval hsz
 obtain⟨v0,ah,d0,af,p0,q0,hargs,rfl,rfl,h0,r0⟩:=trodAll_cons hA;obtain⟨v1,ai,d1,ag,p1,q1,rfl,rfl,rfl,h1,r1⟩:=trodAll_cons r0;obtain⟨rfl,rfl,rfl⟩:=trodAll_nil r1;obtain rfl:args= #[v0,v1]:=by cases args;simp_all
 obtain⟨rfl,rfl⟩:=trodVars_none hV;obtain⟨x0,aa,ac⟩:=opens0.arg hsz (j:=0) rfl rfl h0;obtain⟨Z,rfl,_⟩:=okWide_struct Tryd.underlying24 (hval 0 24 v0 rfl rfl);obtain⟨G,I,e0,Y,O⟩:=Q.k24_open aa;obtain rfl:Z= #[.int .i64 x0.f0,.int .i64 x0.f1,.slice G x0.f2.length I]:=Array.toList_inj.1 e0;obtain⟨x1,ab,ae⟩:=opens1.arg hsz (j:=1) rfl rfl h1;obtain⟨a1,rfl,rfl,rfl,_⟩:=open_int Tryd.underlying3 (hval 1 3 v1 rfl rfl) h1;obtain rfl:a1=x1:=by simpa[Value.cells,Kd.int,Kd.scalar]using ab
 clear U D J hsz;obtain⟨k,hp⟩:=Pure.LocalFresh x0 ac a1 ae;refine(Q.recouplaw19_LocalFresh.calls k x0.f0 x0.f1 G I x0.f2 a1 true W O Y hp (tab_of hL)).mono fun e W' ⟨he,L⟩=>?_;have bel:=L;subst he;exact⟨_,rfl,_,_,_,[],_,[],hW',trodAll_mk1 (shut_bool Tryd.underlying4 _),(trodAll_cons_mk (Below.trod laidOut zc (of_decide_eq_true zc) h0 bel (Open.trod_lt_of h0)) (trodAll_cons_mk (Below.trod laidOut zc (of_decide_eq_true zc) h1 bel (Open.trod_lt_of h1)) trodAll_mk0)),rfl,bel.frame _,fun h=>by cases h⟩
theorem over:Rows.localFreshRow.holds Tryd.pinned (OpenSpec.ofChange Rows.localFreshSpec):=
 OpenClaim.holds_of_wide 7 Tryd.f7 rfl rfl rfl rfl rfl rfl rfl ⟨rfl,rfl,rfl,rfl,rfl⟩ rfl rfl rfl rfl rfl zc Tryd.func7 zc
  (of_decide_eq_true zc) (by unfold Func.isWrapper;first|(rw[if_pos (by decide+kernel)];kernel_rfl)|(rw[if_neg (by decide+kernel)];exact⟨rfl,rfl⟩))
  (fun os started H enc _=>lifted os started H enc)
theorem proved:Rows.LocalFreshSaid:=over
end Go.Proofs.YtjgcocfnilhggaaDoor.localFresh
namespace Go.Proofs.YtjgcocfnilhggaaDoor
theorem localFresh_holds:Rows.LocalFreshCardSaid:=
 Claim7.holds_tied_plain_at .later [] [.data] true (true,"93e2fdfd4300ac0036853376af19a175c3f76838435f0cef2f4ddd9f0d139315") false
  localFresh.proved (fun _ h=>by cases h) zc (fun _ h=>by cases h) localFresh_row_tie rfl ⟨rfl,rfl⟩ zc rfl
  (fun f fn hf hfn=>by
    obtain rfl:f=7:=Option.some.inj ((show Tryd.prog.funcNamed "recoup/recouplaw19.LocalFresh" =some 7 by kernel_rfl).symm.trans hf) |>.symm
    obtain rfl:fn=Tryd.f7:=(Option.some.inj (Tryd.func7.symm.trans hfn)).symm;exact⟨by kernel_rfl,fun j t ht=>by
     rw[Tryd.params7]at ht
     have hm:t∈ [24,3]:=by simpa using Array.mem_of_getElem? ht
     have hall:([24,3].all fun u=> !Tryd.prog.wantsStandIn u)=true:=by kernel_rfl
     exact(show Tryd.prog.wantsStandIn t=false by simpa using List.all_eq_true.1 hall t hm)⟩)
  zc
end Go.Proofs.YtjgcocfnilhggaaDoor
