/- Texts of the proof of LocalWithin: what each Go function answers, and what the answers mean; no condition beyond each theorem's own. -/
import Derived.Test.YtjgcocfnilhggaaDoorLw4
set_option maxHeartbeats 16000000
set_option maxRecDepth 100000
set_option linter.unusedVariables false
set_option linter.unusedSimpArgs false
namespace Go.Proofs.YtjgcocfnilhggaaDoor.Q
open RowKit YtjgcocfnilhggaaDoorW.PrintWords YtjgcocfnilhggaaDoorW.PrintLast YtjgcocfnilhggaaDoorW.PrintMore
attribute [local go_sem] max2_int min2_int max_two min_two max_three min_three max_four min_four
attribute [local go_sem] Oper.semAt_some
def chooseN(k:Nat)(a b:Int)(l:List Int)(i most:Int):List Int->List Int->Option (List Int)
 | [],acc=>some acc
 |y::r,acc=>if acc.length<100000 then(if(acc.length:Int)=most then some acc else(local_repairs.f k a b l i y).bind fun t=>if t=true then chooseN k a b l i most r (acc++ [y])else chooseN k a b l i most r acc)else none
def local_Choices.f(k:Nat)(a b:Int)(l:List Int)(i most:Int):Option (List Int×Int):=
 (local_Least.f k a b l i).bind fun q=>if q.2.2.2=0 then(if most<0 then some ([],2)else(if q.2.2.1=true then
   ((subset_Count.f q.1).bind fun n=>(subset_Upto.f k (wrap64 (a-1)) n).bind fun u=>if u.2=0/\u.1<=16384 then
     (if 0<=i/\0<=a/\a<=64 then((allN k (wrap64 (a-1)) n).bind fun xs=>(chooseN k a b l i most (xs.map (oth i)) []).bind fun L=>some (L,0))else none)else some ([],4))
   else some ([],0)))else some ([],q.2.2.2)
structure CBox (w:World) (a b i most:Int) (A:Option Addr) (n cp:Nat) (V:World):Prop where
 mat:V.heap[w.heap.size]? =some (.cells #[.int .i64 a,.int .i64 b,.slice A n cp] 24 (0,0))
 blk:Boxed V (w.heap.size+1) 3 (.int .i64 i)
 mst:Boxed V (w.heap.size+2) 3 (.int .i64 most)
 low:Below w.heap.size w V
theorem CBox.ext{w V V':World}{a b i most:Int}{A:Option Addr}{n cp:Nat}(h:CBox w a b i most A n cp V)(hb:Below V.heap.size V V'):CBox w a b i most A n cp V':=
 ⟨(hb.block _ (Array.getElem?_eq_some_iff.1 h.mat).1).trans h.mat,(hb.block _ h.blk.lt).trans h.blk,(hb.block _ h.mst.lt).trans h.mst,below_step h.low hb⟩
theorem CBox.same{w V V':World}{a b i most:Int}{A:Option Addr}{n cp:Nat}(h:CBox w a b i most A n cp V)(hb:Below (w.heap.size+3) V V'):CBox w a b i most A n cp V':=
 ⟨(hb.block _ za).trans h.mat,(hb.block _ za).trans h.blk,(hb.block _ za).trans h.mst,h.low.trans (hb.mono za)⟩
theorem CBox.own{w:World}{a b i most:Int}{A:Option Addr}{n cp B:Nat}{β:Type}(hB:w.heap.size<=B):OwnFrom B (fun(_:β) V=>CBox w a b i most A n cp V):=fun s X Y row h hg hr=>
 ⟨(hg.block _ (Array.getElem?_eq_some_iff.1 h.mat).1 fun e=>by
    obtain⟨_,o,ho,hc⟩:=hr _ e.symm;rw[h.mat]at ho;cases ho;cases hc).trans h.mat,
   boxed_own _ _ (fun _:Unit=>_) () X Y row h.blk hg (fun r e=>(hr r e).2),boxed_own _ _ (fun _:Unit=>_) () X Y row h.mst hg (fun r e=>(hr r e).2),
   ownFrom_below (β:=Unit) (Nat.le_refl _) hB () X Y row h.low hg hr⟩
theorem CBox.new(w:World)(a b i most:Int)(A:Option Addr)(n cp:Nat):CBox w a b i most A n cp (((w.alloc (.cells #[.int .i64 a,.int .i64 b,.slice A n cp] 24)).alloc (.cells #[.int .i64 i] 3)).alloc (.cells #[.int .i64 most] 3)):=by
 refine⟨(Below.heap_alloc _ _ _ zj).trans ((Below.heap_alloc _ _ _ zd).trans (World.alloc_heap_new w _)),?_,?_,(((Below.refl _ w).alloc (Nat.le_refl _) _).alloc zd _).alloc zj _⟩
 ·have:=Boxed.new (w.alloc (.cells #[.int .i64 a,.int .i64 b,.slice A n cp] 24)) 3 (.int .i64 i);rw[World.size_alloc]at this
  exact this.alloc _
 ·have:=Boxed.new ((w.alloc (.cells #[.int .i64 a,.int .i64 b,.slice A n cp] 24)).alloc (.cells #[.int .i64 i] 3)) 3 (.int .i64 most)
  rwa [World.size_alloc,World.size_alloc]at this
theorem app_all{V w1:World}{base B0:Nat}{t e:TypeId}{v v':Value}{k m:Nat}{xs ys:List Value}{tmp:Obj}(hv:Boxed V B0 t v)(hte:t≠e)(hrow:V.ownsRow base e 1 v k xs)(hlt:B0<base)
 (hown':w1.ownsRow base e 1 v' m ys) (hg:(V.alloc tmp).grownBy w1 v.ownBlock):
 Boxed w1 B0 t v/\Boxed (w1.setCell ⟨B0,0,none⟩ v') B0 t v'/\(w1.setCell ⟨B0,0,none⟩ v').ownsRow base e 1 v' m ys/\Below B0 V (w1.setCell ⟨B0,0,none⟩ v')/\
  (∀k,k<base->k≠B0->k<V.heap.size->(w1.setCell ⟨B0,0,none⟩ v').heap[k]? =V.heap[k]?)/\(∀(k:Nat) (o:Obj),V.heap[k]? =some o->o.isCells=false->(w1.setCell ⟨B0,0,none⟩ v').heap[k]? =some o):=by
 have h1:=own_weaken hrow (Nat.le_of_lt hlt);obtain⟨a1,a2,_,a4,a5⟩:=hv.appended hte h1 (Nat.le_of_lt hv.lt) (Nat.le_refl _) (own_weaken hown' (Nat.le_of_lt hlt)) hg;refine⟨a1,a2,hown'.kept (grownBy_setCell' w1 B0 v') (.inr (a1.not_row hte hown').symm),a5,fun j hj hne hjs=>?_,a4.same⟩;have e1:(w1.setCell ⟨B0,0,none⟩ v').heap[j]? =w1.heap[j]? :=Below.heap_setCell w1 ⟨B0,0,none⟩ v' j (fun h=>hne h);rw[e1,hg.block j zj (fun he=>by have:=own_base hrow j he.symm;omega)];exact Below.heap_alloc V tmp j hjs
theorem local_Choices.calls(k:Nat)(a b:Int)(A:Option Addr)(cp:Nat)(l:List Int)(i most:Int)(r1:List Int)(r2:Int)(w:World)(hr:Kd.C (Kd.int .u8) w A l.length l)(hc:l.length<=cp)(h:local_Choices.f k a b l i most=some (r1,r2))(hT:TabAt 0 Lib.deBruijn64tab w):
 Calls Tryd.prog 25 #[.agg #[.int .i64 a,.int .i64 b,.slice A l.length cp],.int .i64 i,.int .i64 most] w fun e w'=> ∃v0_:Value,e= .returned (.tuple #[v0_,.int .i64 r2])/\Kd.R (Kd.int .u64) 29 w' w.heap.size (fun _=>True) v0_ r1/\Below w.heap.size w w':=by
 have a7:=Tryd.underlying24;have av:=Tryd.underlying25;have a8:0<w.heap.size:=World.block_lt_of_cell? _ _ (hT 0 zc);have HR:=aK hr;have HC:=aK hc;have HT:=aK hT;clear hr hc hT;refine(callsIn_wide (n:=9)).1 ?_;refine callsIn_of_wp_marks Tryd.func25 rfl trivial ?_ rfl;simp only[Tryd.ntmps25,List.size_toArray,List.length_cons,List.length_nil,Nat.reduceAdd,Nat.reduceSub,Array.replicate_succ,Array.replicate_zero,List.push_toArray,List.append_toArray,List.nil_append,List.cons_append];have cb0:=CBox.new w a b i most A l.length cp;have ap:=(blk_cell cb0.mat 0).trans rfl;have aq:=(blk_cell cb0.mat 1).trans rfl;have ar:=(blk_cell cb0.mat 2).trans rfl;have au:=cb0.blk.cell;have I:=aK cb0;clear cb0;unfold local_Choices.f at h;obtain⟨⟨q1,q2,q3,q4⟩,hL,h⟩:=Option.bind_eq_some_iff.mp h;have HL:=aK hL;clear hL
 dsimp only at h
 by_cases he:q4=0
 case neg=>
  rw[if_neg he]at h
  obtain⟨rfl,rfl⟩:=Prod.mk.inj (Option.some.inj h);have ce:(q4 !=0)=true:=bne_iff_ne.mpr he;clear he h
  gi_wp2_with (refine⟨trivial,?_⟩;gi_at_call 11;refine(callsIn_wide.2 (local_Least.calls k a b A cp l i q1 q2 q3 q4 _ (Kd.C_below HR.out I.out.low) HC.out HL.out (tab_below HT.out I.out.low))).mono ?_;rintro e w1 ⟨v1,rfl,O,J⟩;obtain⟨Av,cv,ev⟩:=Kd.R_slice O;subst ev;have G:=aK (I.out.ext J);clear O J)
  exact⟨_,results_tmp2 rfl _ _ _,_,rfl,Kd.R_nil _ _ _ _ _,G.out.low⟩
 rw[if_pos he]at h
 subst he;by_cases hm:most<0
 ·rw[if_pos hm]at h
  obtain⟨rfl,rfl⟩:=Prod.mk.inj (Option.some.inj h);have cm:decide (most<0)=true:=decide_eq_true hm;clear hm h
  gi_wp2_with (refine⟨trivial,?_⟩;gi_at_call 11;refine(callsIn_wide.2 (local_Least.calls k a b A cp l i q1 q2 q3 0 _ (Kd.C_below HR.out I.out.low) HC.out HL.out (tab_below HT.out I.out.low))).mono ?_;rintro e w1 ⟨v1,rfl,O,J⟩;obtain⟨Av,cv,ev⟩:=Kd.R_slice O;subst ev;have G:=aK (I.out.ext J);have af:=G.out.mst.cell;clear O J)
  exact⟨_,results_tmp2 rfl _ _ _,_,rfl,Kd.R_nil _ _ _ _ _,G.out.low⟩
 rw[if_neg hm]at h
 have cm:decide (most<0)=false:=decide_eq_false hm
 cases q3 with
 |false=>
  simp only[Bool.false_eq_true,if_false]at h;obtain⟨rfl,rfl⟩:=Prod.mk.inj (Option.some.inj h);clear hm h
  gi_wp2_with (refine⟨trivial,?_⟩;gi_at_call 11;refine(callsIn_wide.2 (local_Least.calls k a b A cp l i q1 q2 false 0 _ (Kd.C_below HR.out I.out.low) HC.out HL.out (tab_below HT.out I.out.low))).mono ?_;rintro e w1 ⟨v1,rfl,O,J⟩;obtain⟨Av,cv,ev⟩:=Kd.R_slice O;subst ev;have G:=aK (I.out.ext J);have af:=G.out.mst.cell;clear O J)
  exact⟨_,results_tmp2 rfl _ _ _,_,rfl,Kd.R_nil _ _ _ _ _,G.out.low⟩
 |true=>
 simp only[if_true]at h;obtain⟨n,hn,h⟩:=Option.bind_eq_some_iff.mp h;obtain⟨⟨u1,u2⟩,hu,h⟩:=Option.bind_eq_some_iff.mp h;have HN:=aK hn;have HU:=aK hu;clear hn hu
 dsimp only at h
 by_cases hq:u2=0/\u1<=16384
 case neg=>
  rw[if_neg hq]at h
  obtain⟨rfl,rfl⟩:=Prod.mk.inj (Option.some.inj h);by_cases ah:u2=0
  case neg=>
   have cu:(u2 !=0)=true:=bne_iff_ne.mpr ah;clear hm h hq ah
   gi_wp2_with (first
    |(refine⟨trivial,?_⟩;gi_at_call 11;refine(callsIn_wide.2 (local_Least.calls k a b A cp l i q1 q2 true 0 _ (Kd.C_below HR.out I.out.low) HC.out HL.out (tab_below HT.out I.out.low))).mono ?_;rintro e w1 ⟨v1,rfl,O,J⟩;obtain⟨Av,cv,ev⟩:=Kd.R_slice O;subst ev;have G:=aK (I.out.ext J);have af:=G.out.mst.cell;have ag:=(blk_cell G.out.mat 0).trans rfl;clear O J)
    |(refine⟨trivial,?_⟩;gi_at_call 52;refine(callsIn_wide.2 (subset_Count.calls q1 n _ HN.out)).mono ?_;rintro e w2 ⟨rfl,⟨nd,rfl⟩⟩)
    |(refine⟨trivial,?_⟩;gi_at_call 53;refine(callsIn_wide.2 (subset_Upto.calls k _ n u1 u2 _ HU.out)).mono ?_;rintro e w3 ⟨rfl,aa⟩;have ac:=aK (G.out.ext ((pw_below_drewN (Below.refl _ _) _).trans aa));clear aa))
   exact⟨_,results_tmp2 rfl _ _ _,_,rfl,Kd.R_nil _ _ _ _ _,ac.out.low⟩
  have cu:(u2 !=0)=false:=by simpa using ah
  have ay:decide (16384<u1)=true:=decide_eq_true (by have: ¬u1<=16384:=fun h=>hq ⟨ah,h⟩;omega);clear hm h hq ah
  gi_wp2_with (first
   |(refine⟨trivial,?_⟩;gi_at_call 11;refine(callsIn_wide.2 (local_Least.calls k a b A cp l i q1 q2 true 0 _ (Kd.C_below HR.out I.out.low) HC.out HL.out (tab_below HT.out I.out.low))).mono ?_;rintro e w1 ⟨v1,rfl,O,J⟩;obtain⟨Av,cv,ev⟩:=Kd.R_slice O;subst ev;have G:=aK (I.out.ext J);have af:=G.out.mst.cell;have ag:=(blk_cell G.out.mat 0).trans rfl;clear O J)
   |(refine⟨trivial,?_⟩;gi_at_call 52;refine(callsIn_wide.2 (subset_Count.calls q1 n _ HN.out)).mono ?_;rintro e w2 ⟨rfl,⟨nd,rfl⟩⟩)
   |(refine⟨trivial,?_⟩;gi_at_call 53;refine(callsIn_wide.2 (subset_Upto.calls k _ n u1 u2 _ HU.out)).mono ?_;rintro e w3 ⟨rfl,aa⟩;have ac:=aK (G.out.ext ((pw_below_drewN (Below.refl _ _) _).trans aa));clear aa))
  exact⟨_,results_tmp2 rfl _ _ _,_,rfl,Kd.R_nil _ _ _ _ _,ac.out.low⟩
 rw[if_pos hq]at h
 obtain⟨rfl,a5⟩:=hq;have ay:decide (16384<u1)=false:=decide_eq_false za;by_cases hi:0<=i/\0<=a/\a<=64
 case neg=>rw[if_neg hi]at h;cases h
 rw[if_pos hi]at h
 obtain⟨xs,hall,h⟩:=Option.bind_eq_some_iff.mp h;obtain⟨L,hch,h⟩:=Option.bind_eq_some_iff.mp h;obtain⟨rfl,rfl⟩:=Prod.mk.inj (Option.some.inj h);have HX:=aK (allN_good hall);have HCH:=aK hch;have HI:=aK hi;clear hall hch h hm a5 hi
 gi_wp2_with (first
  |(refine⟨trivial,?_⟩;gi_at_call 11;refine(callsIn_wide.2 (local_Least.calls k a b A cp l i q1 q2 true 0 _ (Kd.C_below HR.out I.out.low) HC.out HL.out (tab_below HT.out I.out.low))).mono ?_;rintro e w1 ⟨v1,rfl,O,J⟩;obtain⟨Av,cv,ev⟩:=Kd.R_slice O;subst ev;have G:=aK (I.out.ext J);have af:=G.out.mst.cell;have ag:=(blk_cell G.out.mat 0).trans rfl;clear O J)
  |(refine⟨trivial,?_⟩;gi_at_call 52;refine(callsIn_wide.2 (subset_Count.calls q1 n _ HN.out)).mono ?_;rintro e w2 ⟨rfl,⟨nd,rfl⟩⟩))
 refine⟨trivial,?_⟩;refine(callsIn_wide.2 (subset_Upto.calls k _ n u1 0 _ HU.out)).mono ?_;rintro e w2 ⟨rfl,aa⟩;have ao:=aK (G.out.ext ((pw_below_drewN (Below.refl _ _) _).trans aa));clear aa;have bl:=Boxed.new w2 25 (.slice none 0 0);have hbA:Below w2.heap.size w2 (w2.alloc (.cells #[.slice none 0 0] 25)):=(Below.refl _ w2).alloc (Nat.le_refl _) _;have ac:=aK (ao.out.ext hbA);have hsA:(w2.alloc (.cells #[.slice none 0 0] 25)).heap.size=w2.heap.size+1:=by simp
 have al:(w2.alloc (.cells #[.slice none 0 0] 25)).cell? ⟨w.heap.size,0,none⟩=some (.int .i64 a):=(blk_cell ac.out.mat 0).trans rfl;have am:(w2.alloc (.cells #[.slice none 0 0] 25)).cell? ⟨w.heap.size,1,none⟩=some (.int .i64 b):=(blk_cell ac.out.mat 1).trans rfl;have an:(w2.alloc (.cells #[.slice none 0 0] 25)).cell? ⟨w.heap.size,2,none⟩=some (.slice A l.length cp):=(blk_cell ac.out.mat 2).trans rfl;have a6:=ac.out.blk.cell
 gi_wp2_with (refine⟨trivial,?_⟩;gi_at_call 54;refine(callsIn_wide.2 (local_others.calls a b A l.length cp i n _)).mono ?_;rintro e w3 ⟨rfl,hbg,hbb,hbs,ak,aa⟩)
 have aj:=ac.out.ext aa;have a4:Boxed w3 w2.heap.size 25 (.slice none 0 0):=(aa.block _ bl.lt).trans bl;have ccg:=blk_cell hbg 0;have ccb:=hbb.cell;have ccs:=hbs.cell;have ybb:=aK hbb;rw[hsA]at ccg ccb ccs ak hbg hbb hbs
 have az:w.heap.size+3<=w2.heap.size:=ao.out.mst.lt;have ax:=aK (tab_below HT.out aj.low);have aw:=aK aj;clear hbg hbb hbs aa aj bl hbA hsA al am an a6 af ag ap aq ar au ybb;obtain⟨ys,eys⟩: ∃ys,ys=xs.map (oth i):=⟨_,rfl⟩
 have hKt: ∀ {X Y Z:World},(Below w2.heap.size X Y/\ ∀k,w2.heap.size+1<=k->k<w3.heap.size->k<X.heap.size->Y.heap[k]? =X.heap[k]?)->(Below w2.heap.size Y Z/\ ∀k,w2.heap.size+1<=k->k<w3.heap.size->k<Y.heap.size->Z.heap[k]? =Y.heap[k]?)->
  (Below w2.heap.size X Z/\ ∀k,w2.heap.size+1<=k->k<w3.heap.size->k<X.heap.size->Z.heap[k]? =X.heap[k]?):=fun {X Y Z} h1 h2=>⟨h1.1.trans h2.1,fun k a1 a2 a3=>by
  have e1:=h1.2 k a1 a2 a3;refine(h2.2 k a1 a2 ?_).trans e1;rw[Array.getElem?_eq_getElem a3]at e1
  exact(Array.getElem?_eq_some_iff.1 e1).1⟩
 have hKb: ∀(U:World) (lo:Nat) (o:Obj),w3.heap.size<=lo->(Below w2.heap.size U (U.putObj lo o)/\ ∀k,w2.heap.size+1<=k->k<w3.heap.size->k<U.heap.size->(U.putObj lo o).heap[k]? =U.heap[k]?):=
  fun U lo o hlo=>⟨by have hg:=grownBy_putObj' U lo o;exact⟨hg.os,hg.tape,hg.output,hg.size,fun k hk=>World.putObj_heap_other za⟩,fun k a1 a2 a3=>World.putObj_heap_other za⟩
 have htells:=local_others1.tells (w2.heap.size+1) (w2.heap.size+1+2) (w2.heap.size+1+1) a n i xs HX.out HI.out.1 (fun V V'=>Below w2.heap.size V V'/\ ∀k,w2.heap.size+1<=k->k<w3.heap.size->k<V.heap.size->V'.heap[k]? =V.heap[k]?) w3 ccg ccs ccb ax.out za
  (fun {X Y Z} =>hKt) hKb (fun V V' h hlt=>h.2 _ za za hlt) (fun V V' h hlt=>h.1.block 0 za)
 rw[<-eys]at htells HCH
 have HTL:=aK htells;clear htells ccg ccb ccs eys
 refine rangeFunc_tells (xs:=ys) (w0:=w3) (gf:=82) (lb:= #[.pointer (some ⟨w2.heap.size+1,0,none⟩),.pointer (some ⟨w2.heap.size+1+2,0,none⟩),.pointer (some ⟨w2.heap.size+1+1,0,none⟩)]) (encs:=fun x:Int=> #[.int .u64 x])
  (by simp[go_sem]) (enters_of Tryd.func82 zb rfl) HTL.out (fun {X Y Z} =>hKt) hKb (Below.refl _ _) (fun _=>rfl)
  (fun pre V=> ∃acc rest v,ys=pre++rest/\chooseN k a b l i most rest acc=some L/\CBox w a b i most A l.length cp V/\Boxed V w2.heap.size 25 v/\V.ownsRow (w3.heap.size+5) 29 1 v acc.length (acc.map (Value.int .u64))/\(v= .slice none 0 0↔acc= []))
  (fun c pre V=>c= .exit 1/\ ∃v,CBox w a b i most A l.length cp V/\Boxed V w2.heap.size 25 v/\V.ownsRow (w3.heap.size+5) 29 1 v L.length (L.map (Value.int .u64)))
  ?own ?ownx ?start ?a1 ?assign ?body ?done ?stop
 case own=>
  rintro pre V V' row ⟨acc,rest,v,h1,h2,h3,h4,h5,h6⟩ hg hr;obtain⟨v',g1,g2,g3⟩:=holdsRow_own (w3.heap.size+5) w2.heap.size 25 29 1 (fun _:Unit=>acc.length) (fun _=>acc.map (Value.int .u64)) (fun _ u=>u=v) () V V' row ⟨v,h4,h5,rfl⟩ hg (fun r e=>(hr r e).2);subst g3;exact⟨acc,rest,v',h1,h2,CBox.own (β:=Unit) za () V V' row h3 hg hr,g1,g2,h6⟩
 case ownx=>
  rintro c pre V V' row ⟨h1,v,h3,h4,h5⟩ hg hr;obtain⟨v',g1,g2,g3⟩:=holdsRow_own (w3.heap.size+5) w2.heap.size 25 29 1 (fun _:Unit=>L.length) (fun _=>L.map (Value.int .u64)) (fun _ u=>u=v) () V V' row ⟨v,h4,h5,rfl⟩ hg (fun r e=>(hr r e).2);subst g3;exact⟨h1,v',CBox.own (β:=Unit) za () V V' row h3 hg hr,g1,g2⟩
 case start=>exact⟨[],ys,_,rfl,HCH.out,aw.out,a4,World.ownsRow_nil _ _ _ _,by simp⟩
 case assign=>
  intro lo x V K hK
  gi_wp2
  exact hK
 case body=>
  rintro lo pre x V hlo hVs ⟨acc,rest,v,hys,hch,hCV,hbV,hrow,hnil⟩ hpre;obtain⟨rest,rfl⟩: ∃r,rest=x::r:=by
   obtain⟨t,ht⟩:=hpre;rw[hys,List.append_assoc]at ht
   exact⟨t,(List.append_cancel_left ht).symm⟩
  have HCV:=aK hCV;have HBV:=aK hbV;have HROW:=aK hrow;have HYS:=aK (show ys=(pre++ [x])++rest by rw[hys];simp);have cbl:=hbV.cell;have cmo:=hCV.mst.cell;have m0:V.cell? ⟨w.heap.size,0,none⟩=some (.int .i64 a):=(blk_cell hCV.mat 0).trans rfl;have m1:V.cell? ⟨w.heap.size,1,none⟩=some (.int .i64 b):=(blk_cell hCV.mat 1).trans rfl;have m2:V.cell? ⟨w.heap.size,2,none⟩=some (.slice A l.length cp):=(blk_cell hCV.mat 2).trans rfl;have mb:=hCV.blk.cell;have hvf: ∃Av cv,v= .slice Av acc.length cv:=by
   rcases hrow.2 with⟨rfl,h0⟩|⟨g,cap,cur,rfl,_⟩
   ·exact⟨none,0,by rw[h0]⟩
   ·exact⟨_,_,rfl⟩
  obtain⟨Av,cv,rfl⟩:=hvf;unfold chooseN at hch;by_cases hguard:acc.length<100000
  case neg=>rw[if_neg hguard]at hch;cases hch
  rw[if_pos hguard]at hch
  have HSS:=aK ak;have HVS:=aK hVs;clear hCV hbV hrow hys ak hVs hpre;by_cases hfull:(acc.length:Int)=most
  ·rw[if_pos hfull]at hch
   have cc:((acc.length:Int)==most)=true:=by simpa using hfull
   obtain rfl:=Option.some.inj hch;clear hch
   gi_wp2
   exact⟨Stays.refl _ _ _ _,rfl,_,HCV.out,HBV.out,HROW.out⟩
  rw[if_neg hfull]at hch
  have cc:((acc.length:Int)==most)=false:=by simpa using hfull
  obtain⟨t,ht,hch⟩:=Option.bind_eq_some_iff.mp hch;have HTT:=aK ht;have HCC:=aK hch;clear ht hch
  cases t with
  |false=>
   gi_wp2_with (refine⟨trivial,?_⟩;gi_at_call 55;refine(callsIn_wide.2 (local_repairs.calls k a b A cp l i x false _ (Kd.C_below HR.out HCV.out.low) HC.out HTT.out (tab_below HT.out HCV.out.low))).mono ?_;rintro e w5 ⟨rfl,ab⟩;have ai:=aK (HCV.out.ext ab);have ae:=aK ab;have HBW:=aK ((ab.block _ HBV.out.lt).trans HBV.out);have HRW:=aK (pw_own_below HROW.out ab);clear ab)
   refine⟨Stays.any ae.out,⟨ae.out.mono (by have:=HVS.out;have:=HSS.out;omega),fun k _ _ hk=>ae.out.block k hk⟩,acc,rest,_,HYS.out,?_,ai.out,HBW.out,HRW.out,hnil⟩;simpa using HCC.out
  |true=>
   have hinf:(Tryd.prog.info? 29).map (fun i=>(i.zero,i.size,i.bytes))=some (some (.int .u64 0),1,8):=by kernel_rfl
   obtain⟨i0,a0,al,am,an⟩:=info_parts hinf
   gi_wp2_with (first
    |(refine⟨trivial,?_⟩;gi_at_call 55;refine(callsIn_wide.2 (local_repairs.calls k a b A cp l i x true _ (Kd.C_below HR.out HCV.out.low) HC.out HTT.out (tab_below HT.out HCV.out.low))).mono ?_;rintro e w5 ⟨rfl,ab⟩;have ai:=aK (HCV.out.ext ab);have ae:=aK ab;have HBW:Aside0 (Boxed w5 w2.heap.size 25 (.slice Av acc.length cv)):=aK ((ab.block _ HBV.out.lt).trans HBV.out);have HRW:=aK (pw_own_below HROW.out ab);have cbw:=HBW.out.cell;clear ab)
    |(gi_at_builtin;refine wpListIn_append_own _ rfl _ _ 25 rfl (w3.heap.size+5) 29 i0 (.int .u64 0) 1 8 av a0 al am an rfl zc _ _ _ rfl (HRW.out.alloc _) ⟨w5.heap.size,0,none⟩ 1 1 [.int .u64 x] rfl rfl (cell_one_new _ _ _) (by simp[Value.oneCell']) (by simp only[maxLen];omega) za (by have:=HVS.out;have:=ae.out.size;simp;omega) ?_;intro v' w6 hown' hgrow hnil';obtain⟨g',cap',rfl⟩:=ownsRow_succ hown';have hap:=aK (app_all HBW.out zc HRW.out (by have:=HSS.out;omega) hown' hgrow);have a9:=hap.out.1.cell;have ba:=hap.out.1.frozen))
   obtain⟨_,g2,g3,g4,g5,g6⟩:=hap.out;have hsz:=ae.out.size;have hss:=HSS.out;have hvs:=HVS.out;have e1: ∀k,k<w3.heap.size+5->k≠w2.heap.size->k<V.heap.size->(w6.setCell ⟨w2.heap.size,0,none⟩ (.slice (some ⟨g',0,none⟩) (acc.length+1) cap')).heap[k]? =V.heap[k]? :=fun k k1 k2 k3=>(g5 k k1 k2 (Nat.lt_of_lt_of_le k3 hsz)).trans (ae.out.block k k3);refine⟨⟨Nat.le_trans hsz g4.size,fun k k1 k2 k3=>e1 k za za k3,fun k o _ ho hoc=>g6 k o ((ae.out.block k (Array.getElem?_eq_some_iff.1 ho).1).trans ho) hoc⟩,⟨(ae.out.mono za).trans g4,fun k k1 k2 k3=>e1 k za za k3⟩,acc++ [x],rest,_,HYS.out,?_,ai.out.same (g4.mono az),g2,?_,?_⟩
   ·simpa using HCC.out
   ·simpa using g3
   ·constructor
    ·intro h;have:=(hnil'.1 h).2;omega
    ·intro h;simp at h
 case done=>
  rintro D V hD ⟨acc,rest,v,hys,hch,hCV,hbV,hrow,hnil⟩ hK;have e0:rest= []:=by
   have:=congrArg List.length hys;simp at this;exact this
  subst e0;obtain rfl:=Option.some.inj hch;have cbl:=hbV.cell;have HCV:=aK hCV;have HROW:=aK hrow;clear hCV hrow hch hys
  gi_wp2
  refine⟨by simp,.inl ⟨_,_,rfl,run_takeDeferred hK,?_⟩⟩;exact⟨_,results_tmp2 rfl _ _ _,v,rfl,Kd.R_of_own (own_weaken (ownsRow_putObj HROW.out _ hK rfl) za) (fun _ _=>trivial),(HCV.out.same zan).low⟩
 case stop=>
  rintro D c pre V hD hpre ⟨rfl,v,hCV,hbV,hrow⟩ hK;have cbl:=hbV.cell;have HCV:=aK hCV;have HROW:=aK hrow;clear hCV hrow
  gi_wp2
  refine⟨by simp,.inl ⟨_,_,rfl,run_takeDeferred hK,?_⟩⟩;exact⟨_,results_tmp2 rfl _ _ _,v,rfl,Kd.R_of_own (own_weaken (ownsRow_putObj HROW.out _ hK rfl) za) (fun _ _=>trivial),(HCV.out.same zan).low⟩
end Go.Proofs.YtjgcocfnilhggaaDoor.Q
namespace Go.Proofs.YtjgcocfnilhggaaDoor.Q
open RowKit YtjgcocfnilhggaaDoorW.PrintWords YtjgcocfnilhggaaDoorW.PrintLast YtjgcocfnilhggaaDoorW.PrintMore
attribute [local go_sem] max2_int min2_int max_two min_two max_three min_three max_four min_four
mutual
def recoupref07_Needed.l0:Nat->Int->Int->Int->Int->Int->Int->Int->List Int->Option (Int×Int)
 |0,_,_,_,_,_,_,_,_=>none
 |k+1,x1,x6,x7,x8,x9,D,G,I=>if x9<D then(recoupref07_Needed.j1 k x1 x6 x7 x8 x9 (x7==0) D G I)else(recoupref07_Needed.j1 k x1 x6 x7 x8 x9 false D G I)
def recoupref07_Needed.j1:Nat->Int->Int->Int->Int->Int->Bool->Int->Int->List Int->Option (Int×Int)
 |0,_,_,_,_,_,_,_,_,_=>none
 |k+1,x1,x6,x7,x8,x9,X,D,G,I=>if X=true then((recoupref06_Has.f x1 x9).bind fun J=>(if J=true then((recoupref07_one.f x9).bind fun L=>((recoupref07_rank.f k D G I (Go.bits .andNot .u64 x1 L)).bind fun O=>(if O<x6 then((recoupref07_one.f x9).bind fun U=>(recoupref07_Needed.l0 k x1 x6 x7 (Go.bits .or .u64 x8 U) (wrap64 (x9+1)) D G I))else(recoupref07_Needed.l0 k x1 x6 x7 x8 (wrap64 (x9+1)) D G I))))else(recoupref07_Needed.l0 k x1 x6 x7 x8 (wrap64 (x9+1)) D G I)))else(some (x8,x7))
end
def recoupref07_Needed.f(k:Nat)(G:Int)(I:Int)(J:List Int)(a1:Int):Option (Int×Int):=(recoupref07_Rank.f k G I J a1).bind fun D=>(recoupref07_Needed.l0 k a1 D.1 D.2 0 0 G I J)
def recoupref07_Needed.T6:Bool×List (List Nat×List Nat):=(true,[([],[]),([],[]),([0,1],[0,1]),([2,2],[2]),([3],[3]),([3],[3]),([3],[3]),([6,3,3],[3,6]),([5,7,3],[3,5,7]),([4,8,7,3],[3,4,8]),([3],[3]),([9,10,3],[3,9,10]),([3,11],[3,11])])
def recoupref07_Needed.B6:List Nat:= [0,0,3,7,15,15,15,79,239,511,15,2047,4095]
theorem recoupref07_Needed.tab6:rtab .any (opsOf Tryd.f57 6)=recoupref07_Needed.T6:=by kernel_rfl
theorem recoupref07_Needed.bits6:waitsOk recoupref07_Needed.T6.2 recoupref07_Needed.B6=true:=by kernel_rfl
theorem recoupref07_Needed.calls(k:Nat)(I:Int)(L:Int)(O:Option Addr)(U:Nat)(J:List Int)(a1:Int)(r1:Int)(r2:Int)(w:World)(ay:Kd.C (Kd.int .u8) w O J.length J)(ap:J.length<=U)(h:recoupref07_Needed.f k I L J a1=some (r1,r2)):
 Calls Tryd.prog 57 #[.agg #[.int .i64 I,.int .i64 L,.slice O J.length U],.int .u64 a1] w fun e w'=>e= .returned (.tuple #[.int .u64 r1,.int .i64 r2])/\Below w.heap.size w w':=by
 have bl:=Tryd.underlying24;have an:=aK ay;have am:=aK ap;clear ay ap;have HB:=aK (Below.refl w.heap.size w);have H:((recoupref07_Rank.f k I L J a1).bind fun ao=>(recoupref07_Needed.l0 k a1 ao.1 ao.2 0 0 I L J))=some (r1,r2):=h;clear h;obtain⟨⟨Z,aj⟩,A3,H⟩:=bindO H
 (try dsimp only at H)
 have H':=aK H;clear H
 go_enter Tryd.func57,Tryd.ntmps57
 go_wp2_with (first|((with_reducible refine gD 2 rfl ?_);refine bE 2 #[.int .i64 I,.int .i64 L,.slice O J.length U] 24 ?_;intro X hg w4 hbox hb;have D:=aK (hbox);have bj:=hbS HB hg;have bi:=hbS HB hg;replace HB:=hbB HB hb;clear hb hbox hg;obtain⟨ac,ae,af,ag,ah,ai⟩:=cell3 D)|((with_reducible refine gC 46 rfl ?_);refine cG (some 13) Tryd.func46 #[.agg #[.int .i64 I,.int .i64 L,.slice O J.length U],.int .u64 a1] ?_;(with_reducible refine(recoupref07_Rank.calls k I L _ _ J a1 Z aj _ ?side1 ?side2 A3.out).mono ?_);(case side1=>exact kcB an HB);(case side2=>exact am.out);rintro e w6 ⟨rfl,hb⟩;refine⟨_,rfl,?_⟩;replace D:=bkB D hb;replace HB:=hbB HB hb;(try clear hb)))
 go_loopg [8,9] k (fun kq v8 v9 w'=> ∃(Y:Int) (G:Int),v8= .int .u64 Y/\v9= .int .i64 G/\Aside0 (recoupref07_Needed.l0 kq a1 Z aj Y G I L J=some (r1,r2))/\Aside0 (kq<=k)/\Aside0 (w'.heap[X]? =some (.cells #[.int .i64 I,.int .i64 L,(.slice O J.length U)] 24 (0,0)))/\Aside0 (Below w.heap.size w w'))
 case atStart=>exact⟨(0),(0),rsE,rsE,H',⟨Nat.le_refl _⟩,⟨bkA D.out⟩,⟨hbA HB.out⟩⟩
 case round=>
  clear H'
  (try clear p2);(try clear c4);(try clear c5);(try clear ac ae af ag ah ai)
  obtain⟨Y,G,rfl,rfl,HA,ab,D,HB⟩:=hrel
  cases gk with
  |zero=>exact absurd HA.out (by simp[recoupref07_Needed.l0])
  |succ k1=>
   have H:=HA.out;clear HA;simp only[recoupref07_Needed.l0]at H;have bc:=aK H;clear H
   go_upto_region 4 with(fail)
   go_cut [23] (fun bk wc=> ∃(kq:Nat) (aa:Bool),bk= .bool aa/\Aside0 (recoupref07_Needed.j1 kq a1 Z aj Y G aa I L J=some (r1,r2))/\Aside0 (kq<=k1)/\Aside0 (wc.heap[X]? =some (.cells #[.int .i64 I,.int .i64 L,(.slice O J.length U)] 24 (0,0)))/\Aside0 (Below w.heap.size w wc))
   case first=>
    have H:=bc.out;clear bc;by_cases c8:G<I
    case neg=>
     rw[if_neg c8]at H
     have c8b0:decide (G<I)=false:=decide_eq_false c8;clear c8
     (first|rw[c8b0] |(simp only[i64_w,i32_w];rw[c8b0])|skip)
     have H':=aK H;clear H;obtain⟨aq,ar,au,av,aw,ax⟩:=cell3 D;go_wp2
     go_meet
     case rel=>exact⟨_,(false),rsE,H',⟨by have:=ab.out;first|omega|exact Nat.le_refl _⟩,⟨bkA D.out⟩,⟨hbA HB.out⟩⟩
    rw[if_pos c8]at H
    have c8b0:decide (G<I)=true:=decide_eq_true c8;clear c8
    (first|rw[c8b0] |(simp only[i64_w,i32_w];rw[c8b0])|skip)
    have H':=aK H;clear H;obtain⟨a4,a5,a6,a7,a8,a9⟩:=cell3 D;go_wp2
    go_meet
    case rel=>exact⟨_,((aj==0)),rsE,H',⟨by have:=ab.out;first|omega|exact Nat.le_refl _⟩,⟨bkA D.out⟩,⟨hbA HB.out⟩⟩
   case rest=>
    clear bc
    (try clear p2 p2);(try clear c4);(try clear c5);(try clear c8);(try clear c8b0);(try clear aq ar au av aw ax);(try clear ac ae af ag ah ai);(try clear a4 a5 a6 a7 a8 a9)
    obtain⟨kq,aa,rfl,HA,al,D,HB⟩:=hcut
    cases kq with
    |zero=>exact absurd HA.out (by simp[recoupref07_Needed.j1])
    |succ ba=>
     have H:=HA.out;clear HA;simp only[recoupref07_Needed.j1]at H;by_cases a0:aa=true
     case neg=>
      replace a0:=Bool.eq_false_iff.mpr a0;subst a0;rw[if_neg nofT]at H
      obtain⟨rfl,rfl⟩:=zP2 H;go_wp2
      go_ret2
      exact⟨rfE,hbA HB.out⟩
     subst a0;rw[if_pos rfl]at H
     obtain⟨be,bd,H⟩:=bindO H
     (try dsimp only at H)
     by_cases a2:be=true
     case neg=>
      replace a2:=Bool.eq_false_iff.mpr a2;subst a2;rw[if_neg nofT]at H
      have H':=aK H;clear H
      try go_wp2
      replace D:=aK (blk_drew D.out);replace HB:=aK (below_drew1 HB.out);refine start_ (n:=13) (S:=fun w'=>True) (ds:= []) (.replicate 13 false) zb rfl rfl trivial (fun hHeld=>?_);refine with_tabW recoupref07_Needed.tab6 recoupref07_Needed.bits6 (fun HT_ HW_=>?_);generalize wc.drew=bp at D HB hHeld⊢;refine pu 0 (some 26) (mB 13 1) HT_ ?_;refine pu 1 (some 27) (mB 13 3) HT_ ?_;refine zoh 2 (some 28) (mB 13 7) HT_ fun K hK=>?_;refine goes_ Tryd.func18 zb rfl #[.int .u64 a1,.int .i64 G] ze rfl rfl (by(try simp only[List.map_toArray,List.map_cons,List.map_nil]);first|done|rfl|(simp only[List.length_drop,List.length_take];rfl)) ?_;with_reducible refine(recoupref06_Has.calls a1 G false _ bd.out).mono ?_
      rintro e w' ⟨rfl,⟨nd,rfl⟩⟩;refine⟨_,rfl,?_⟩;refine hK.out _ _ trivial (fun hHeld=>?_);clear hK K;refine znm (some 28) ?_;refine pu 3 (some 29) (mB 13 15) HT_ ?_;refine zpo 4 (some 30) (mB 13 31) HT_ ?_;refine zpo 5 (some 31) (mB 13 63) HT_ ?_;refine zpo 6 (some 32) (mB 13 127) HT_ ?_;refine zpo 7 (some 33) (mB 13 255) HT_ ?_;refine zpo 8 (some 34) (mB 13 511) HT_ ?_;refine zpo 9 (some 35) (mB 13 1023) HT_ ?_;refine zpo 10 (some 36) (mB 13 2047) HT_ ?_;refine zpo 11 (some 37) (mB 13 4095) HT_ ?_;refine pu 12 (some 38) (mB 13 8191) HT_ ?_;refine done_ (done_of HT_.out zb) ?_
      try go_wp2
      go_roundg ba
      case measure=>have:=ab.out;have:=al.out;omega
      case rel=>exact⟨(Y),(wrap64 (G+1)),rsE,rsE,H',⟨by have:=ab.out;have:=al.out;omega⟩,⟨bkA D.out⟩,⟨hbA HB.out⟩⟩
     subst a2;rw[if_pos rfl]at H
     obtain⟨az,bf,H⟩:=bindO H
     (try dsimp only at H)
     obtain⟨ak,bg,H⟩:=bindO H
     (try dsimp only at H)
     try go_wp2
     replace D:=aK (blk_drew D.out);replace HB:=aK (below_drew1 HB.out);refine start_ (n:=13) (S:=fun w'=>w'.cell? ⟨X,0,none⟩=some (.int .i64 I)/\w'.cell? ⟨X,1,none⟩=some (.int .i64 L)/\w'.cell? ⟨X,2,none⟩=some (.slice O J.length U)) (ds:= []) (.replicate 13 false) zb rfl rfl (z3c D) (fun hHeld=>?_);refine with_tabW recoupref07_Needed.tab6 recoupref07_Needed.bits6 (fun HT_ HW_=>?_);generalize wc.drew=bn at D HB hHeld⊢;refine pu 0 (some 26) (mB 13 1) HT_ ?_;refine pu 1 (some 27) (mB 13 3) HT_ ?_;refine zoh 2 (some 28) (mB 13 7) HT_ fun K hK=>?_;refine goes_ Tryd.func18 zb rfl #[.int .u64 a1,.int .i64 G] ze rfl rfl (by(try simp only[List.map_toArray,List.map_cons,List.map_nil]);first|done|rfl|(simp only[List.length_drop,List.length_take];rfl)) ?_;with_reducible refine(recoupref06_Has.calls a1 G true _ bd.out).mono ?_
     rintro e w' ⟨rfl,⟨nd,rfl⟩⟩;refine⟨_,rfl,?_⟩;refine hK.out _ _ (z3c D) (fun hHeld=>?_);clear hK K;refine znm (some 28) ?_;refine pu 3 (some 29) (mB 13 15) HT_ ?_;refine pu 5 (some 31) (mB 13 47) HT_ ?_;refine pu 6 (some 32) (mB 13 111) HT_ ?_;refine pu 10 (some 36) (mB 13 1135) HT_ ?_;refine tk3 4 (some 30) (mB 13 1151) HT_ HW_ hHeld ?_;refine zoh 7 (some 33) (mB 13 1279) HT_ fun K hK=>?_;refine goes_ Tryd.func48 zb rfl #[.int .i64 G] ze rfl rfl (by(try simp only[List.map_toArray,List.map_cons,List.map_nil]);first|done|rfl|(simp only[List.length_drop,List.length_take];rfl)) ?_;with_reducible refine(recoupref07_one.calls G az _ bf.out).mono ?_
     rintro e w' ⟨rfl,⟨nd,rfl⟩⟩;refine⟨_,rfl,?_⟩;refine hK.out _ _ (z3c D) (fun hHeld=>?_);clear hK K;refine znm (some 33) ?_;refine pu 8 (some 34) (mB 13 1535) HT_ ?_;refine zoh 9 (some 35) (mB 13 2047) HT_ fun K hK=>?_;refine goes_ Tryd.func47 zb rfl #[.agg #[.int .i64 I,.int .i64 L,.slice O J.length U],.int .u64 (Go.bits .andNot .u64 a1 az)] ze rfl rfl (by(try simp only[List.map_toArray,List.map_cons,List.map_nil]);first|done|rfl|(simp only[List.length_drop,List.length_take];rfl)) ?_;with_reducible refine(recoupref07_rank.calls ba I L _ _ J (Go.bits .andNot .u64 a1 az) ak _ ?side1 ?side2 bg.out).mono ?_
     (case side1=>repeat(first|exact(Kd.C_below an.out (hbA HB.out))|(with_reducible refine Kd.C_alloc ?_ _)|(with_reducible refine Kd.C_drewN ?_ _)|(with_reducible refine Kd.C_drew ?_)))
     (case side2=>exact am.out)
     rintro e bo ⟨rfl,hb⟩;refine⟨_,rfl,?_⟩;replace D:=bkB D hb;replace HB:=hbB HB hb
     (try clear hb)
     (try clear bm)
     (try clear hk)
     (try clear hi)
     refine hK.out _ _ (z3c D) (fun hHeld=>?_);clear hK K;refine znm (some 35) ?_;refine pu 11 (some 37) (mB 13 4095) HT_ ?_;refine pu 12 (some 38) (mB 13 8191) HT_ ?_;refine done_ (done_of HT_.out zb) ?_;by_cases a3:ak<Z
     case neg=>
      rw[if_neg a3]at H
      have c16b0:decide (ak<Z)=false:=decide_eq_false a3;have H':=aK H;clear H
      try go_wp2
      go_roundg ba
      case measure=>have:=ab.out;have:=al.out;omega
      case rel=>exact⟨(Y),(wrap64 (G+1)),rsE,rsE,H',⟨by have:=ab.out;have:=al.out;omega⟩,⟨bkA D.out⟩,⟨hbA HB.out⟩⟩
     rw[if_pos a3]at H
     have c16b0:decide (ak<Z)=true:=decide_eq_true a3;obtain⟨bb,bh,H⟩:=bindO H
     (try dsimp only at H)
     have H':=aK H;clear H
     try go_wp2_with (first|((with_reducible refine gC 48 rfl ?_);refine cG (some 41) Tryd.func48 #[.int .i64 G] ?_;(with_reducible refine(recoupref07_one.calls G bb _ bh.out).mono ?_);rintro e w' ⟨rfl,⟨nd,rfl⟩⟩;refine⟨_,rfl,?_⟩))
     go_roundg ba
     case measure=>have:=ab.out;have:=al.out;omega
     case rel=>exact⟨(Go.bits .or .u64 Y bb),(wrap64 (G+1)),rsE,rsE,H',⟨by have:=ab.out;have:=al.out;omega⟩,⟨bkA D.out⟩,⟨hbA HB.out⟩⟩
def recoupref16_May.l0:Nat->Int->Int->Int->List Int->List Int->Option (Bool)
 |0,_,_,_,_,_=>none
 |k+1,x3,G,I,J,D=>if x3<(D.length:Int)then(if 0<=x3 then((recoupref07_Needed.f k G I J (rd D x3)).bind fun L=>(if L.2=0 then(if L.1=0 then(recoupref16_May.l0 k (wrap64 (x3+1)) G I J D)else(some false))else(some false)))else(none))else(some true)
def recoupref16_May.f(k:Nat)(D:Int)(G:Int)(I:List Int)(J:List Int):Option (Bool):=(recoupref16_Generator.f D G I).bind fun L=>(if L=true then(recoupref16_May.l0 k 0 D G I J)else(some false))
def recoupref16_May.T6:Bool×List (List Nat×List Nat):=(true,[([],[]),([0],[0]),([],[]),([2],[2]),([],[]),([3,4],[3,4]),([5],[5]),([1,6],[1,6]),([7],[7]),([8],[8]),([8],[8]),([9,7,0,1,2,3,4,5,6,7,8,9],[9]),([10,11,0,1,2,3,4,5,6,7,8,9,10,11],[10])])
def recoupref16_May.B6:List Nat:= [0,1,0,4,0,28,60,127,255,511,511,1023,4095]
theorem recoupref16_May.tab6:rtab .any (opsOf Tryd.f29 6)=recoupref16_May.T6:=by kernel_rfl
theorem recoupref16_May.bits6:waitsOk recoupref16_May.T6.2 recoupref16_May.B6=true:=by kernel_rfl
theorem recoupref16_May.calls(k:Nat)(U:Int)(X:Int)(Z:Option Addr)(aa:Nat)(O:List Int)(ak:Option Addr)(af:Nat)(L:List Int)(r:Bool)(w:World)(ar:Kd.C (Kd.int .u8) w Z O.length O)(ap:O.length<=aa)(au:Kd.C (Kd.int .u64) w ak L.length L)(aq:L.length<=af)(h:recoupref16_May.f k U X O L=some r):
 Calls Tryd.prog 29 #[.agg #[.int .i64 U,.int .i64 X,.slice Z O.length aa,.slice ak L.length af]] w fun e w'=>e= .returned (.bool r)/\Below w.heap.size w w':=by
 have cg:=Tryd.underlying27;have cf:=Tryd.underlying24;have aj:=aK ar;have ai:=aK ap;clear ar ap;have am:=aK au;have ce:=aK aq;clear au aq;have HB:=aK (Below.refl w.heap.size w);have H:((recoupref16_Generator.f U X O).bind fun av=>(if av=true then(recoupref16_May.l0 k 0 U X O L)else(some false)))=some r:=h;clear h;obtain⟨av,A2,H⟩:=bindO H
 (try dsimp only at H)
 by_cases c3:av=true
 case neg=>
  replace c3:=Bool.eq_false_iff.mpr c3;subst c3;rw[if_neg nofT]at H
  obtain rfl:=Option.some.inj H
  go_enter Tryd.func29,Tryd.ntmps29
  go_wp2_with (first|((with_reducible refine gD 1 rfl ?_);refine bE 1 #[.int .i64 U,.int .i64 X,.slice Z O.length aa,.slice ak L.length af] 27 ?_;intro Y hg cn hbox hb;have D:=aK (hbox);have a5:=hbS HB hg;have a4:=hbS HB hg;replace HB:=hbB HB hb;clear hb hbox hg;obtain⟨bo,bp,bq,br,b9,ca,cb,cd⟩:=cell4 D)|((with_reducible refine gC 14 rfl ?_);refine cG (some 8) Tryd.func14 #[.agg #[.int .i64 U,.int .i64 X,.slice Z O.length aa]] ?_;(with_reducible refine(recoupref16_Generator.calls U X _ _ O false _ ?side1 ?side2 A2.out).mono ?_);(case side1=>exact kcB aj HB);(case side2=>exact ai.out);rintro e co ⟨rfl,hb⟩;refine⟨_,rfl,?_⟩;replace D:=bkB D hb;replace HB:=hbB HB hb;(try clear hb)))
  go_ret
  exact⟨rfE,hbA HB.out⟩
 subst c3;rw[if_pos rfl]at H
 have H':=aK H;clear H
 go_enter Tryd.func29,Tryd.ntmps29
 go_wp2_with (first|((with_reducible refine gD 1 rfl ?_);refine bE 1 #[.int .i64 U,.int .i64 X,.slice Z O.length aa,.slice ak L.length af] 27 ?_;intro Y hg w4 hbox hb;have D:=aK (hbox);have a5:=hbS HB hg;have a4:=hbS HB hg;replace HB:=hbB HB hb;clear hb hbox hg;obtain⟨aw,ax,ay,az,a0,a1,a2,a3⟩:=cell4 D)|((with_reducible refine gC 14 rfl ?_);refine cG (some 8) Tryd.func14 #[.agg #[.int .i64 U,.int .i64 X,.slice Z O.length aa]] ?_;(with_reducible refine(recoupref16_Generator.calls U X _ _ O true _ ?side1 ?side2 A2.out).mono ?_);(case side1=>exact kcB aj HB);(case side2=>exact ai.out);rintro e w6 ⟨rfl,hb⟩;refine⟨_,rfl,?_⟩;replace D:=bkB D hb;replace HB:=hbB HB hb;(try clear hb)))
 go_loopg [3] k (fun kq v3 w'=> ∃(I:Int),v3= .int .i64 I/\Aside0 (recoupref16_May.l0 kq I U X O L=some r)/\Aside0 (kq<=k)/\Aside0 (w'.heap[Y]? =some (.cells #[.int .i64 U,.int .i64 X,(.slice Z O.length aa),(.slice ak L.length af)] 27 (0,0)))/\Aside0 (Below w.heap.size w w'))
 case atStart=>exact⟨(0),rsE,H',⟨Nat.le_refl _⟩,⟨bkA D.out⟩,⟨hbA HB.out⟩⟩
 case round=>
  clear H'
  (try clear c1);(try clear c2);(try clear p2);(try clear c3);(try clear aw ax ay az a0 a1 a2 a3)
  obtain⟨I,rfl,HA,a6,D,HB⟩:=hrel
  cases gk with
  |zero=>exact absurd HA.out (by simp[recoupref16_May.l0])
  |succ k1=>
   have H:=HA.out;clear HA;simp only[recoupref16_May.l0]at H;by_cases c7:I<(L.length:Int)
   case neg=>
    rw[if_neg c7]at H
    have c7b0:decide (I<(L.length:Int))=false:=decide_eq_false c7;clear c7;obtain rfl:=Option.some.inj H;obtain⟨bk,bl,bm,bn,b5,b6,b7,b8⟩:=cell4 D;go_wp2
    go_ret
    exact⟨rfE,hbA HB.out⟩
   rw[if_pos c7]at H
   have c7b0:decide (I<(L.length:Int))=true:=decide_eq_true c7;clear c7;by_cases c8:0<=I
   case neg=>rw[if_neg c8]at H;exact absurd H zd
   rw[if_pos c8]at H
   have c8b0:decide (0<=I)=true:=decide_eq_true c8;clear c8;obtain⟨⟨ag,ah⟩,A9,H⟩:=bindO H
   (try dsimp only at H)
   by_cases an:ah=0
   case neg=>
    rw[if_neg an]at H
    have c10b0:(ah==0)=false:=beq_eq_false_iff_ne.mpr an;have c10b1:(ah !=0)=true:=bne_iff_ne.mpr an;obtain rfl:=Option.some.inj H;obtain⟨bg,bh,bi,bj,b1,b2,b3,b4⟩:=cell4 D
    try go_wp2
    replace D:=aK (blk_drew D.out);replace HB:=aK (below_drew1 HB.out);have ac:0<=(I:Int):=of_decide_eq_true asE;have ae:I<(L.length:Int):=of_decide_eq_true asE;obtain⟨ab,al,G⟩:=Kd.at_int am.out I ac ae;have J:=G
    cases al
    replace G:=(HB.out.cell (World.block_lt_of_cell? w _ G)).trans G;replace ac:=eq_true ac;replace ae:=eq_true ae;refine start_ (n:=13) (S:=fun w'=>w'.cell? ⟨Y,0,none⟩=some (.int .i64 U)/\w'.cell? ⟨Y,1,none⟩=some (.int .i64 X)/\w'.cell? ⟨Y,2,none⟩=some (.slice Z O.length aa)/\w'.cell? ⟨Y,3,none⟩=some (.slice (some ab) L.length af)/\w'.cell? (ab.add (I).toNat)=some (.int .u64 (rd L I))) (ds:= []) (.replicate 13 false) zb rfl rfl (z3k D ⟨(blk_cell D.out 3).trans rfl,((HB.out.cell (World.block_lt_of_cell? w _ J)).trans J)⟩) (fun hHeld=>?_);refine with_tabW recoupref16_May.tab6 recoupref16_May.bits6 (fun HT_ HW_=>?_);generalize wr.drew=cl at D HB G hHeld⊢;refine pu 0 (some 18) (mB 13 1) HT_ ?_;refine pu 2 (some 20) (mB 13 5) HT_ ?_;refine pu 4 (some 22) (mB 13 21) HT_ ?_;refine tk5 1 (some 19) (mB 13 23) HT_ HW_ hHeld ?_;refine tk5 3 (some 21) (mB 13 31) HT_ HW_ hHeld ?_;refine pu 5 (some 23) (mB 13 63) HT_ ?_;refine tk5 6 (some 24) (mB 13 127) HT_ HW_ hHeld ?_;refine zoh 7 (some 25) (mB 13 255) HT_ fun K hK=>?_;refine goes_ Tryd.func57 zb rfl #[.agg #[.int .i64 U,.int .i64 X,.slice Z O.length aa],.int .u64 (rd L I)] ze rfl rfl (by(try simp only[List.map_toArray,List.map_cons,List.map_nil]);first|done|rfl|(simp only[List.length_drop,List.length_take];rfl)) ?_;with_reducible refine(recoupref07_Needed.calls k1 U X _ _ O (rd L I) ag ah _ ?side1 ?side2 A9.out).mono ?_
    (case side1=>exact kcB aj HB)
    (case side2=>exact ai.out)
    rintro e cm ⟨rfl,hb⟩;refine⟨_,rfl,?_⟩;replace D:=bkB D hb;replace HB:=hbB HB hb
    (try clear hb)
    (try clear a7)
    (try clear hk)
    (try clear hi)
    refine hK.out _ _ (z3k D ⟨(blk_cell D.out 3).trans rfl,((HB.out.cell (World.block_lt_of_cell? w _ J)).trans J)⟩) (fun hHeld=>?_);clear hK K;refine znm (some 25) ?_;refine pu 8 (some 17) (mB 13 511) HT_ ?_;refine pu 9 (some 26) (mB 13 1023) HT_ ?_;refine pu 10 (some 27) (mB 13 2047) HT_ ?_;refine pu 11 (some 4) (mB 13 4095) HT_ ?_;refine pu 12 (some 5) (mB 13 8191) HT_ ?_;refine done_ (done_of HT_.out zb) ?_
    try go_wp2
    go_ret
    exact⟨rfE,hbA HB.out⟩
   rw[if_pos an]at H
   have c10b0:(ah==0)=true:=beq_iff_eq.mpr an;have c10b1:(ah !=0)=false:=bne_eq_false_iff_eq.mpr an;clear an;by_cases ao:ag=0
   case neg=>
    rw[if_neg ao]at H
    have c11b0:(ag==0)=false:=beq_eq_false_iff_ne.mpr ao;have c11b1:(ag !=0)=true:=bne_iff_ne.mpr ao;obtain rfl:=Option.some.inj H;obtain⟨bc,bd,be,bf,bw,bx,bz,b0⟩:=cell4 D
    try go_wp2
    replace D:=aK (blk_drew D.out);replace HB:=aK (below_drew1 HB.out);have ac:0<=(I:Int):=of_decide_eq_true asE;have ae:I<(L.length:Int):=of_decide_eq_true asE;obtain⟨ab,al,G⟩:=Kd.at_int am.out I ac ae;have J:=G
    cases al
    replace G:=(HB.out.cell (World.block_lt_of_cell? w _ G)).trans G;replace ac:=eq_true ac;replace ae:=eq_true ae;refine start_ (n:=13) (S:=fun w'=>w'.cell? ⟨Y,0,none⟩=some (.int .i64 U)/\w'.cell? ⟨Y,1,none⟩=some (.int .i64 X)/\w'.cell? ⟨Y,2,none⟩=some (.slice Z O.length aa)/\w'.cell? ⟨Y,3,none⟩=some (.slice (some ab) L.length af)/\w'.cell? (ab.add (I).toNat)=some (.int .u64 (rd L I))) (ds:= []) (.replicate 13 false) zb rfl rfl (z3k D ⟨(blk_cell D.out 3).trans rfl,((HB.out.cell (World.block_lt_of_cell? w _ J)).trans J)⟩) (fun hHeld=>?_);refine with_tabW recoupref16_May.tab6 recoupref16_May.bits6 (fun HT_ HW_=>?_);generalize wr.drew=cj at D HB G hHeld⊢;refine pu 0 (some 18) (mB 13 1) HT_ ?_;refine pu 2 (some 20) (mB 13 5) HT_ ?_;refine pu 4 (some 22) (mB 13 21) HT_ ?_;refine tk5 1 (some 19) (mB 13 23) HT_ HW_ hHeld ?_;refine tk5 3 (some 21) (mB 13 31) HT_ HW_ hHeld ?_;refine pu 5 (some 23) (mB 13 63) HT_ ?_;refine tk5 6 (some 24) (mB 13 127) HT_ HW_ hHeld ?_;refine zoh 7 (some 25) (mB 13 255) HT_ fun K hK=>?_;refine goes_ Tryd.func57 zb rfl #[.agg #[.int .i64 U,.int .i64 X,.slice Z O.length aa],.int .u64 (rd L I)] ze rfl rfl (by(try simp only[List.map_toArray,List.map_cons,List.map_nil]);first|done|rfl|(simp only[List.length_drop,List.length_take];rfl)) ?_;with_reducible refine(recoupref07_Needed.calls k1 U X _ _ O (rd L I) ag ah _ ?side1 ?side2 A9.out).mono ?_
    (case side1=>exact kcB aj HB)
    (case side2=>exact ai.out)
    rintro e ck ⟨rfl,hb⟩;refine⟨_,rfl,?_⟩;replace D:=bkB D hb;replace HB:=hbB HB hb
    (try clear hb)
    (try clear a7)
    (try clear hk)
    (try clear hi)
    refine hK.out _ _ (z3k D ⟨(blk_cell D.out 3).trans rfl,((HB.out.cell (World.block_lt_of_cell? w _ J)).trans J)⟩) (fun hHeld=>?_);clear hK K;refine znm (some 25) ?_;refine pu 8 (some 17) (mB 13 511) HT_ ?_;refine pu 9 (some 26) (mB 13 1023) HT_ ?_;refine pu 10 (some 27) (mB 13 2047) HT_ ?_;refine pu 11 (some 4) (mB 13 4095) HT_ ?_;refine pu 12 (some 5) (mB 13 8191) HT_ ?_;refine done_ (done_of HT_.out zb) ?_
    try go_wp2
    go_ret
    exact⟨rfE,hbA HB.out⟩
   rw[if_pos ao]at H
   have c11b0:(ag==0)=true:=beq_iff_eq.mpr ao;have c11b1:(ag !=0)=false:=bne_eq_false_iff_eq.mpr ao;clear ao;have H':=aK H;clear H;obtain⟨a8,a9,ba,bb,bs,bt,bu,bv⟩:=cell4 D
   try go_wp2
   replace D:=aK (blk_drew D.out);replace HB:=aK (below_drew1 HB.out);have ac:0<=(I:Int):=of_decide_eq_true asE;have ae:I<(L.length:Int):=of_decide_eq_true asE;obtain⟨ab,al,G⟩:=Kd.at_int am.out I ac ae;have J:=G
   cases al
   replace G:=(HB.out.cell (World.block_lt_of_cell? w _ G)).trans G;replace ac:=eq_true ac;replace ae:=eq_true ae;refine start_ (n:=13) (S:=fun w'=>w'.cell? ⟨Y,0,none⟩=some (.int .i64 U)/\w'.cell? ⟨Y,1,none⟩=some (.int .i64 X)/\w'.cell? ⟨Y,2,none⟩=some (.slice Z O.length aa)/\w'.cell? ⟨Y,3,none⟩=some (.slice (some ab) L.length af)/\w'.cell? (ab.add (I).toNat)=some (.int .u64 (rd L I))) (ds:= []) (.replicate 13 false) zb rfl rfl (z3k D ⟨(blk_cell D.out 3).trans rfl,((HB.out.cell (World.block_lt_of_cell? w _ J)).trans J)⟩) (fun hHeld=>?_);refine with_tabW recoupref16_May.tab6 recoupref16_May.bits6 (fun HT_ HW_=>?_);generalize wr.drew=ch at D HB G hHeld⊢;refine pu 0 (some 18) (mB 13 1) HT_ ?_;refine pu 2 (some 20) (mB 13 5) HT_ ?_;refine pu 4 (some 22) (mB 13 21) HT_ ?_;refine tk5 1 (some 19) (mB 13 23) HT_ HW_ hHeld ?_;refine tk5 3 (some 21) (mB 13 31) HT_ HW_ hHeld ?_;refine pu 5 (some 23) (mB 13 63) HT_ ?_;refine tk5 6 (some 24) (mB 13 127) HT_ HW_ hHeld ?_;refine zoh 7 (some 25) (mB 13 255) HT_ fun K hK=>?_;refine goes_ Tryd.func57 zb rfl #[.agg #[.int .i64 U,.int .i64 X,.slice Z O.length aa],.int .u64 (rd L I)] ze rfl rfl (by(try simp only[List.map_toArray,List.map_cons,List.map_nil]);first|done|rfl|(simp only[List.length_drop,List.length_take];rfl)) ?_;with_reducible refine(recoupref07_Needed.calls k1 U X _ _ O (rd L I) ag ah _ ?side1 ?side2 A9.out).mono ?_
   (case side1=>exact kcB aj HB)
   (case side2=>exact ai.out)
   rintro e ci ⟨rfl,hb⟩;refine⟨_,rfl,?_⟩;replace D:=bkB D hb;replace HB:=hbB HB hb
   (try clear hb)
   (try clear a7)
   (try clear hk)
   (try clear hi)
   refine hK.out _ _ (z3k D ⟨(blk_cell D.out 3).trans rfl,((HB.out.cell (World.block_lt_of_cell? w _ J)).trans J)⟩) (fun hHeld=>?_);clear hK K;refine znm (some 25) ?_;refine pu 8 (some 17) (mB 13 511) HT_ ?_;refine pu 9 (some 26) (mB 13 1023) HT_ ?_;refine pu 10 (some 27) (mB 13 2047) HT_ ?_;refine pu 11 (some 4) (mB 13 4095) HT_ ?_;refine pu 12 (some 5) (mB 13 8191) HT_ ?_;refine done_ (done_of HT_.out zb) ?_
   try go_wp2
   go_roundg k1
   case measure=>have:=a6.out;omega
   case rel=>exact⟨(wrap64 (I+1)),rsE,H',⟨by have:=a6.out;omega⟩,⟨bkA D.out⟩,⟨hbA HB.out⟩⟩
mutual
def recouplaw19_LocalWithin.j0:Nat->Int->Int->Bool->Int->Bool->Int->Int->List Int->List Int->Option (Bool)
 |0,_,_,_,_,_,_,_,_,_=>none
 |k+1,x1,x5,x6,x7,X,D,G,I,L=>if X=true then((recouplaw19_anchored.f k).bind fun U=>(if U=true then(some (x7 !=0))else(some false)))else((local_Least.f k D G I x1).bind fun J=>((local_Choices.f k D G I x1 3).bind fun O=>(if x7=0 then(if J.2.2.2=0 then(recouplaw19_LocalWithin.j1 k x1 x5 x6 x7 J.1 J.2.2.1 O.1 (O.2 !=0) D G I L)else(recouplaw19_LocalWithin.j1 k x1 x5 x6 x7 J.1 J.2.2.1 O.1 true D G I L))else(recouplaw19_LocalWithin.j1 k x1 x5 x6 x7 J.1 J.2.2.1 O.1 true D G I L))))
def recouplaw19_LocalWithin.j1:Nat->Int->Int->Bool->Int->Int->Bool->List Int->Bool->Int->Int->List Int->List Int->Option (Bool)
 |0,_,_,_,_,_,_,_,_,_,_,_,_=>none
 |k+1,x1,x5,x6,x7,x8,O,U,X,D,G,I,J=>if X=true then((recouplaw19_anchored.f k).bind fun L=>(if L=true then(if x7=0 then(some (decide (D>14)))else(some false))else(some false)))else(recouplaw19_LocalWithin.l0 k x1 x5 x6 x8 O U 0 D G I J)
def recouplaw19_LocalWithin.l0:Nat->Int->Int->Bool->Int->Bool->List Int->Int->Int->Int->List Int->List Int->Option (Bool)
 |0,_,_,_,_,_,_,_,_,_,_,_=>none
 |k+1,x1,x5,x6,x8,U,L,J,D,G,I,O=>if J<(L.length:Int)then(if 0<=J then((recoupref07_Span.f k D G I (rd L J)).bind fun X=>((recoupref06_Has.f X.1 x1).bind fun Z=>(if Z=true then((recoupref06_Has.f (rd L J) x1).bind fun aa=>(if aa=true then(some false)else((recoupref06_List.f k (rd L J)).bind fun ab=>((recoupref06_List.f k x8).bind fun ac=>(if(ab.length:Int)=(ac.length:Int)then(if J=0 then(if(rd L J)=x8 then(recouplaw19_LocalWithin.l0 k x1 x5 x6 x8 U L (wrap64 (J+1)) D G I O)else(some false))else(recouplaw19_LocalWithin.l0 k x1 x5 x6 x8 U L (wrap64 (J+1)) D G I O))else(some false))))))else(some false))))else(none))else(if(U !=(decide ((L.length:Int)>0)))=true then(some false)else((recoupref07_Span.f k D G I x5).bind fun Y=>((recouplaw19_anchored.f k).bind fun ae=>(if ae=true then(if x6=true then(if U=true then((recoupref06_Has.f Y.1 x1).bind fun af=>(if af=true then((recoupref06_Has.f x5 x1).bind fun ag=>(if ag=true then(some false)else((recoupref06_List.f k x5).bind fun ah=>((recoupref06_List.f k x8).bind fun ai=>(some (decide (ai.length<=ah.length)))))))else(some false)))else(some false))else(some true))else(some false)))))
end
def recouplaw19_LocalWithin.f(k:Nat)(G:Int)(I:Int)(J:List Int)(L:List Int)(a1:Int):Option (Bool):=(local_Group.f k G I J L a1).bind fun D=>((recoupref16_May.f k G I J L).bind fun O=>(if O=true then(if a1<0 then(recouplaw19_LocalWithin.j0 k a1 D.1 D.2.1 D.2.2 true G I J L)else(recouplaw19_LocalWithin.j0 k a1 D.1 D.2.1 D.2.2 (decide (a1>=G)) G I J L))else(recouplaw19_LocalWithin.j0 k a1 D.1 D.2.1 D.2.2 true G I J L)))
def recouplaw19_LocalWithin.T11:Bool×List (List Nat×List Nat):=(true,[([],[]),([0],[0]),([],[]),([],[]),([2,3],[2,3]),([4],[4]),([1,5],[1,5]),([6],[6]),([7],[7]),([7],[7]),([8,6,0,1,2,3,4,5,6,7,8],[8]),([9,10,0,1,2,3,4,5,6,7,8,9,10],[9])])
def recouplaw19_LocalWithin.B11:List Nat:= [0,1,0,0,12,28,63,127,255,255,511,2047]
theorem recouplaw19_LocalWithin.tab11:rtab .any (opsOf Tryd.f8 11)=recouplaw19_LocalWithin.T11:=by kernel_rfl
theorem recouplaw19_LocalWithin.bits11:waitsOk recouplaw19_LocalWithin.T11.2 recouplaw19_LocalWithin.B11=true:=by kernel_rfl
theorem recouplaw19_LocalWithin.calls(k:Nat)(L:Int)(O:Int)(Z:Option Addr)(aa:Nat)(J:List Int)(ao:Option Addr)(ap:Nat)(Y:List Int)(a1:Int)(r:Bool)(w:World)(eg:Kd.C (Kd.int .u8) w Z J.length J)(d6:J.length<=aa)(eh:Kd.C (Kd.int .u64) w ao Y.length Y)(d7:Y.length<=ap)(h:recouplaw19_LocalWithin.f k L O J Y a1=some r)(hT:TabAt 0 Lib.deBruijn64tab w):
 Calls Tryd.prog 8 #[.agg #[.int .i64 L,.int .i64 O,.slice Z J.length aa,.slice ao Y.length ap],.int .i64 a1] w fun e w'=>e= .returned (.bool r)/\Below w.heap.size w w':=by
 have HT:=aK hT;clear hT;have kh:=Tryd.underlying27;have kg:=Tryd.underlying24;have ag:=aK eg;have af:=aK d6;clear eg d6;have ch:=aK eh;have cf:=aK d7;clear eh d7;have HB:=aK (Below.refl w.heap.size w);have H:((local_Group.f k L O J Y a1).bind fun ax=>((recoupref16_May.f k L O J Y).bind fun ek=>(if ek=true then(if a1<0 then(recouplaw19_LocalWithin.j0 k a1 ax.1 ax.2.1 ax.2.2 true L O J Y)else(recouplaw19_LocalWithin.j0 k a1 ax.1 ax.2.1 ax.2.2 (decide (a1>=L)) L O J Y))else(recouplaw19_LocalWithin.j0 k a1 ax.1 ax.2.1 ax.2.2 true L O J Y))))=some r:=h;clear h;obtain⟨⟨am,dj,au⟩,A3,H⟩:=bindO H
 (try dsimp only at H)
 have e3:=aK H;clear H
 go_enter Tryd.func8,Tryd.ntmps8
 go_upto_region 2 with(first|((with_reducible refine gD 2 rfl ?_);(try(refine gate_guard ze ?_;dsimp only));refine bE 2 #[.int .i64 L,.int .i64 O,.slice Z J.length aa,.slice ao Y.length ap] 27 ?_;intro U hg w5 hbox hb;have D:=aK (hbox);have i3:=hbS HB hg;have i2:=hbS HB hg;replace HB:=hbB HB hb;clear hb hbox hg;obtain⟨cl,cm,cn,co,cp,cq,cr,ct⟩:=cell4 D)|((with_reducible refine gC 9 rfl ?_);refine cG (some 22) Tryd.func9 #[.agg #[.int .i64 L,.int .i64 O,.slice Z J.length aa,.slice ao Y.length ap],.int .i64 a1] ?_;(with_reducible refine(local_Group.calls k L O _ _ J _ _ Y a1 am dj au _ ?side1 ?side2 ?side3 ?side4 A3.out (tab_below HT.out zf)).mono ?_);(case side1=>exact kcB ag HB);(case side2=>exact af.out);(case side3=>exact kcB ch HB);(case side4=>exact cf.out);rintro e w7 ⟨rfl,hb⟩;refine⟨_,rfl,?_⟩;replace D:=bkB D hb;replace HB:=hbB HB hb;(try clear hb)))
 (try simp only[Act.put,zL])
 go_cut [39] (fun jg wc=> ∃(kq:Nat) (cu:Bool),jg= .bool cu/\Aside0 (recouplaw19_LocalWithin.j0 kq a1 am dj au cu L O J Y=some r)/\Aside0 (kq<=k)/\Aside0 (wc.heap[U]? =some (.cells #[.int .i64 L,.int .i64 O,(.slice Z J.length aa),(.slice ao Y.length ap)] 27 (0,0)))/\Aside0 (Below w.heap.size w wc))
 case first=>
  have H:=e3.out;clear e3;obtain⟨ek,A8,H⟩:=bindO H
  (try dsimp only at H)
  by_cases c9:ek=true
  case neg=>
   replace c9:=Bool.eq_false_iff.mpr c9;subst c9;rw[if_neg nofT]at H
   have H':=aK H;clear H;obtain⟨bn,bo,bp,bq,b4,b5,b6,b7⟩:=cell4 D
   go_wp2_with (first|((with_reducible refine gC 29 rfl ?_);refine cG (some 27) Tryd.func29 #[.agg #[.int .i64 L,.int .i64 O,.slice Z J.length aa,.slice ao Y.length ap]] ?_;(with_reducible refine(recoupref16_May.calls k L O _ _ J _ _ Y false _ ?side1 ?side2 ?side3 ?side4 A8.out).mono ?_);(case side1=>exact kcB ag HB);(case side2=>exact af.out);(case side3=>exact kcB ch HB);(case side4=>exact cf.out);rintro e k1 ⟨rfl,hb⟩;refine⟨_,rfl,?_⟩;replace D:=bkB D hb;replace HB:=hbB HB hb;(try clear hb)))
   go_meet
   case rel=>exact⟨_,(true),rsE,H',⟨leE⟩,⟨bkA D.out⟩,⟨hbA HB.out⟩⟩
  subst c9;rw[if_pos rfl]at H
  by_cases ci:a1<0
  case neg=>
   rw[if_neg ci]at H
   have c10b0:decide (a1<0)=false:=decide_eq_false ci;clear ci
   (first|rw[c10b0] |(simp only[i64_w,i32_w];rw[c10b0])|skip)
   have H':=aK H;clear H;obtain⟨bf,bg,bh,bi,bv,bw,bx,bz⟩:=cell4 D
   go_wp2_with (first|((with_reducible refine gC 29 rfl ?_);refine cG (some 27) Tryd.func29 #[.agg #[.int .i64 L,.int .i64 O,.slice Z J.length aa,.slice ao Y.length ap]] ?_;(with_reducible refine(recoupref16_May.calls k L O _ _ J _ _ Y true _ ?side1 ?side2 ?side3 ?side4 A8.out).mono ?_);(case side1=>exact kcB ag HB);(case side2=>exact af.out);(case side3=>exact kcB ch HB);(case side4=>exact cf.out);rintro e k0 ⟨rfl,hb⟩;refine⟨_,rfl,?_⟩;replace D:=bkB D hb;replace HB:=hbB HB hb;(try clear hb);obtain⟨bj,bk,bl,bm,b0,b1,b2,b3⟩:=cell4 D))
   go_meet
   case rel=>exact⟨_,(decide (a1>=L)),rsE,H',⟨leE⟩,⟨bkA D.out⟩,⟨hbA HB.out⟩⟩
  rw[if_pos ci]at H
  have c10b0:decide (a1<0)=true:=decide_eq_true ci;clear ci
  (first|rw[c10b0] |(simp only[i64_w,i32_w];rw[c10b0])|skip)
  have H':=aK H;clear H;obtain⟨bb,bc,bd,be,br,bs,bt,bu⟩:=cell4 D
  go_wp2_with (first|((with_reducible refine gC 29 rfl ?_);refine cG (some 27) Tryd.func29 #[.agg #[.int .i64 L,.int .i64 O,.slice Z J.length aa,.slice ao Y.length ap]] ?_;(with_reducible refine(recoupref16_May.calls k L O _ _ J _ _ Y true _ ?side1 ?side2 ?side3 ?side4 A8.out).mono ?_);(case side1=>exact kcB ag HB);(case side2=>exact af.out);(case side3=>exact kcB ch HB);(case side4=>exact cf.out);rintro e kz ⟨rfl,hb⟩;refine⟨_,rfl,?_⟩;replace D:=bkB D hb;replace HB:=hbB HB hb;(try clear hb)))
  go_meet
  case rel=>exact⟨_,(true),rsE,H',⟨leE⟩,⟨bkA D.out⟩,⟨hbA HB.out⟩⟩
 case rest=>
  clear e3
  (try clear c1);(try clear c2);(try clear p2);(try clear c8);(try clear c9);(try clear ci);(try clear c10b0);(try clear bb bc bd be br bs bt bu);(try clear bf bg bh bi bv bw bx bz);(try clear bj bk bl bm b0 b1 b2 b3);(try clear bn bo bp bq b4 b5 b6 b7);(try clear cl cm cn co cp cq cr ct)
  obtain⟨kq,cu,rfl,HA,dk,D,HB⟩:=hcut
  cases kq with
  |zero=>exact absurd HA.out (by simp[recouplaw19_LocalWithin.j0])
  |succ ej=>
   have H:=HA.out;clear HA;simp only[recouplaw19_LocalWithin.j0]at H;by_cases dw:cu=true
   ·subst dw;rw[if_pos rfl]at H
    obtain⟨ie,gm,H⟩:=bindO H
    (try dsimp only at H)
    by_cases dx:ie=true
    ·subst dx;rw[if_pos rfl]at H
     obtain rfl:=Option.some.inj H
     go_wp2_with (first|((with_reducible refine gC 15 rfl ?_);refine cG (some 40) Tryd.func15 #[] ?_;(with_reducible refine(recouplaw19_anchored.calls ej true _ gm.out (tab_below HT.out zf)).mono ?_);rintro e k2 ⟨rfl,hb⟩;refine⟨_,rfl,?_⟩;replace D:=bkB D hb;replace HB:=hbB HB hb;(try clear hb)))
     go_ret
     exact⟨rfE,hbA HB.out⟩
    replace dx:=Bool.eq_false_iff.mpr dx;subst dx;rw[if_neg nofT]at H
    obtain rfl:=Option.some.inj H
    go_wp2_with (first|((with_reducible refine gC 15 rfl ?_);refine cG (some 40) Tryd.func15 #[] ?_;(with_reducible refine(recouplaw19_anchored.calls ej false _ gm.out (tab_below HT.out zf)).mono ?_);rintro e k4 ⟨rfl,hb⟩;refine⟨_,rfl,?_⟩;replace D:=bkB D hb;replace HB:=hbB HB hb;(try clear hb)))
    go_ret
    exact⟨rfE,hbA HB.out⟩
   replace dw:=Bool.eq_false_iff.mpr dw;subst dw;rw[if_neg nofT]at H
   obtain⟨⟨av,ig,aj,cb⟩,ir,H⟩:=bindO H
   (try dsimp only at H)
   obtain⟨⟨I,ez⟩,it,H⟩:=bindO H
   (try dsimp only at H)
   have d0:=aK H;clear H;obtain⟨cw,cx,cy,cz,da,db,dc,dd⟩:=cell4 D
   go_upto_region 6 with(first|((with_reducible refine gC 11 rfl ?_);refine cG (some 49) Tryd.func11 #[.agg #[.int .i64 L,.int .i64 O,.slice Z J.length aa],.int .i64 a1] ?_;(with_reducible refine(local_Least.calls ej L O _ _ J a1 av ig aj cb _ ?side1 ?side2 ir.out (tab_below HT.out zf)).mono ?_);(case side1=>exact kcB ag HB);(case side2=>exact af.out);rintro e k5 ⟨ki,rfl,ac,hb⟩;refine⟨_,rfl,?_⟩;have d1:=aK (Kd.R_lower ac (below_size (hbA HB.out)));replace D:=bkB D hb;replace HB:=hbB HB hb;(try clear hb);(try clear ac);obtain⟨c4,c5,c6,c7,de,df,dg,dh⟩:=cell4 D)|((with_reducible refine gC 25 rfl ?_);refine cG (some 58) Tryd.func25 #[.agg #[.int .i64 L,.int .i64 O,.slice Z J.length aa],.int .i64 a1,.int .i64 3] ?_;(with_reducible refine(local_Choices.calls ej L O _ _ J a1 3 I ez _ ?side1 ?side2 it.out (tab_below HT.out zf)).mono ?_);(case side1=>exact kcB ag HB);(case side2=>exact af.out);rintro e k6 ⟨e0,rfl,ac,hb⟩;refine⟨_,rfl,?_⟩;replace d1:=kdB d1 hb;have dl:=aK (Kd.R_lower ac (below_size (hbA HB.out)));replace D:=bkB D hb;replace HB:=hbB HB hb;(try clear hb);(try clear ac)))
   (try simp only[Act.put,zL])
   go_cut [70] (fun jh wc=> ∃(kq:Nat) (a7:Bool),jh= .bool a7/\Aside0 (recouplaw19_LocalWithin.j1 kq a1 am dj au av aj I a7 L O J Y=some r)/\Aside0 (kq<=ej)/\Aside0 (Kd.R (Kd.int .u64) 29 wc w.heap.size (fun _=>True) e0 I)/\Aside0 (wc.heap[U]? =some (.cells #[.int .i64 L,.int .i64 O,(.slice Z J.length aa),(.slice ao Y.length ap)] 27 (0,0)))/\Aside0 (Below w.heap.size w wc))
   case first=>
    have H:=d0.out;clear d0;by_cases cj:au=0
    case neg=>
     rw[if_neg cj]at H
     have c30b0:(au==0)=false:=beq_eq_false_iff_ne.mpr cj;have c30b1:(au !=0)=true:=bne_iff_ne.mpr cj
     (first|rw[c30b0] |(simp only[i64_w,i32_w];rw[c30b0])|skip)
     have H':=aK H;clear H;go_wp2
     go_meet
     case rel=>exact⟨_,(true),rsE,H',⟨by have:=dk.out;first|omega|exact Nat.le_refl _⟩,⟨kdA dl.out⟩,⟨bkA D.out⟩,⟨hbA HB.out⟩⟩
    rw[if_pos cj]at H
    have c30b0:(au==0)=true:=beq_iff_eq.mpr cj;have c30b1:(au !=0)=false:=bne_eq_false_iff_eq.mpr cj;clear cj
    (first|rw[c30b0] |(simp only[i64_w,i32_w];rw[c30b0])|skip)
    by_cases ck:cb=0
    case neg=>
     rw[if_neg ck]at H
     have c31b0:(cb==0)=false:=beq_eq_false_iff_ne.mpr ck;have c31b1:(cb !=0)=true:=bne_iff_ne.mpr ck;have H':=aK H;clear H;go_wp2
     go_meet
     case rel=>exact⟨_,(true),rsE,H',⟨by have:=dk.out;first|omega|exact Nat.le_refl _⟩,⟨kdA dl.out⟩,⟨bkA D.out⟩,⟨hbA HB.out⟩⟩
    rw[if_pos ck]at H
    have c31b0:(cb==0)=true:=beq_iff_eq.mpr ck;have c31b1:(cb !=0)=false:=bne_eq_false_iff_eq.mpr ck;clear ck;have H':=aK H;clear H;go_wp2
    go_meet
    case rel=>exact⟨_,((ez !=0)),rsE,H',⟨by have:=dk.out;first|omega|exact Nat.le_refl _⟩,⟨kdA dl.out⟩,⟨bkA D.out⟩,⟨hbA HB.out⟩⟩
   case rest=>
    clear d0
    (try clear c1);(try clear c2);(try clear p2 p2);(try clear c3);(try clear c8);(try clear c9);(try clear ci);(try clear c10b0);(try clear i4);(try clear i5);(try clear dw);(try clear dx);(try clear i6);(try clear i7);(try clear cj);(try clear c30b0);(try clear c30b1);(try clear ck);(try clear c31b0);(try clear c31b1);(try clear bb bc bd be br bs bt bu);(try clear bf bg bh bi bv bw bx bz);(try clear bj bk bl bm b0 b1 b2 b3);(try clear bn bo bp bq b4 b5 b6 b7);(try clear cw cx cy cz da db dc dd);(try clear c4 c5 c6 c7 de df dg dh);(try clear cl cm cn co cp cq cr ct)
    obtain⟨kq,a7,rfl,HA,dq,HO_12,D,HB⟩:=hcut
    cases kq with
    |zero=>exact absurd HA.out (by simp[recouplaw19_LocalWithin.j1])
    |succ di=>
     have H:=HA.out;clear HA;simp only[recouplaw19_LocalWithin.j1]at H;by_cases d2:a7=true
     ·subst d2;rw[if_pos rfl]at H
      obtain⟨ii,e1,H⟩:=bindO H
      (try dsimp only at H)
      by_cases d3:ii=true
      case neg=>
       replace d3:=Bool.eq_false_iff.mpr d3;subst d3;rw[if_neg nofT]at H
       obtain rfl:=Option.some.inj H
       go_wp2_with (first|((with_reducible refine gC 15 rfl ?_);refine cG (some 71) Tryd.func15 #[] ?_;(with_reducible refine(recouplaw19_anchored.calls di false _ e1.out (tab_below HT.out zf)).mono ?_);rintro e k9 ⟨rfl,hb⟩;refine⟨_,rfl,?_⟩;replace HO_12:=kdB HO_12 hb;replace D:=bkB D hb;replace HB:=hbB HB hb;(try clear hb)))
       go_ret
       exact⟨rfE,hbA HB.out⟩
      subst d3;rw[if_pos rfl]at H
      by_cases cv:au=0
      case neg=>
       rw[if_neg cv]at H
       have c35b0:(au==0)=false:=beq_eq_false_iff_ne.mpr cv;have c35b1:(au !=0)=true:=bne_iff_ne.mpr cv;obtain rfl:=Option.some.inj H
       go_wp2_with (first|((with_reducible refine gC 15 rfl ?_);refine cG (some 71) Tryd.func15 #[] ?_;(with_reducible refine(recouplaw19_anchored.calls di true _ e1.out (tab_below HT.out zf)).mono ?_);rintro e k8 ⟨rfl,hb⟩;refine⟨_,rfl,?_⟩;replace HO_12:=kdB HO_12 hb;replace D:=bkB D hb;replace HB:=hbB HB hb;(try clear hb)))
       go_ret
       exact⟨rfE,hbA HB.out⟩
      rw[if_pos cv]at H
      have c35b0:(au==0)=true:=beq_iff_eq.mpr cv;have c35b1:(au !=0)=false:=bne_eq_false_iff_eq.mpr cv;clear cv;obtain rfl:=Option.some.inj H
      go_wp2_with (first|((with_reducible refine gC 15 rfl ?_);refine cG (some 71) Tryd.func15 #[] ?_;(with_reducible refine(recouplaw19_anchored.calls di true _ e1.out (tab_below HT.out zf)).mono ?_);rintro e k7 ⟨rfl,hb⟩;refine⟨_,rfl,?_⟩;replace HO_12:=kdB HO_12 hb;replace D:=bkB D hb;replace HB:=hbB HB hb;(try clear hb);obtain⟨d8,d9,ea,eb,ec,ed,ee,ef⟩:=cell4 D))
      go_ret
      exact⟨rfE,hbA HB.out⟩
     replace d2:=Bool.eq_false_iff.mpr d2;subst d2;rw[if_neg nofT]at H
     have H':=aK H;clear H;go_wp2
     go_loopg [14] di (fun kq jf w'=> ∃(G:Int),jf= .int .i64 G/\Aside0 (recouplaw19_LocalWithin.l0 kq a1 am dj av aj I G L O J Y=some r)/\Aside0 (kq<=di)/\Aside0 (Kd.R (Kd.int .u64) 29 w' w.heap.size (fun _=>True) e0 I)/\Aside0 (w'.heap[U]? =some (.cells #[.int .i64 L,.int .i64 O,(.slice Z J.length aa),(.slice ao Y.length ap)] 27 (0,0)))/\Aside0 (Below w.heap.size w w'))
     case atStart=>exact⟨(0),rsE,H',⟨Nat.le_refl _⟩,⟨kdA HO_12.out⟩,⟨bkA D.out⟩,⟨hbA HB.out⟩⟩
     case round=>
      clear H'
      (try clear c1);(try clear c2);(try clear p2 p2);(try clear c3);(try clear c8);(try clear c9);(try clear ci);(try clear c10b0);(try clear i4);(try clear i5);(try clear dw);(try clear dx);(try clear i6);(try clear i7);(try clear cj);(try clear c30b0);(try clear c30b1);(try clear ck);(try clear c31b0);(try clear c31b1);(try clear d2);(try clear d3);(try clear cv);(try clear c35b0);(try clear c35b1);(try clear bb bc bd be br bs bt bu);(try clear bf bg bh bi bv bw bx bz);(try clear bj bk bl bm b0 b1 b2 b3);(try clear bn bo bp bq b4 b5 b6 b7);(try clear cw cx cy cz da db dc dd);(try clear c4 c5 c6 c7 de df dg dh);(try clear d8 d9 ea eb ec ed ee ef);(try clear cl cm cn co cp cq cr ct)
      obtain⟨G,rfl,HA,ep,HO_12,D,HB⟩:=hrel
      cases gk with
      |zero=>exact absurd HA.out (by simp[recouplaw19_LocalWithin.l0])
      |succ k3=>
       have H:=HA.out;clear HA;simp only[recouplaw19_LocalWithin.l0]at H;by_cases dy:G<(I.length:Int)
       case neg=>
        rw[if_neg dy]at H
        have c40b0:decide (G<(I.length:Int))=false:=decide_eq_false dy;clear dy;by_cases a9:(aj !=(decide ((I.length:Int)>0)))=true
        ·rw[if_pos a9]at H
         have c86b0:(aj !=(decide ((I.length:Int)>0)))=true:=a9
         (try(have c86b1:decide (aj=(decide ((I.length:Int)>0)))=false:=by simpa using a9))
         (try(have c86b2:(aj==(decide ((I.length:Int)>0)))=false:=by simpa using a9))
         (try(have c86b3: ¬(aj=(decide ((I.length:Int)>0))):=by simpa using a9))
         clear a9;obtain rfl:=Option.some.inj H;have hcs_:(aj=true/\ ¬0<I.length)∨(aj=false/\0<I.length):=by
          cases aj
          ·exact .inr ⟨rfl,by simpa using c86b0⟩
          ·exact .inl ⟨rfl,by simpa using c86b0⟩
         rcases hcs_ with⟨rfl,hz_⟩|⟨rfl,hz_⟩
         all_goals
          obtain⟨jw,ke,g3⟩:=Kd.R_slice HO_12.out;subst g3;go_wp2
          go_ret
          exact⟨rfE,hbA HB.out⟩
        rw[if_neg a9]at H
        have c86b0:(aj !=(decide ((I.length:Int)>0)))=false:=by simpa using a9
        (try(have c86b1:decide (aj=(decide ((I.length:Int)>0)))=true:=by simpa using a9))
        (try(have c86b2:(aj==(decide ((I.length:Int)>0)))=true:=by simpa using a9))
        clear a9;obtain⟨⟨a6,ce⟩,du,H⟩:=bindO H
        (try dsimp only at H)
        obtain⟨il,dv,H⟩:=bindO H
        (try dsimp only at H)
        by_cases eu:il=true
        case neg=>
         replace eu:=Bool.eq_false_iff.mpr eu;subst eu;have hcs_:(aj=true/\0<I.length)∨(aj=false/\ ¬0<I.length):=by
          cases aj
          ·exact .inr ⟨rfl,by simpa using c86b0⟩
          ·exact .inl ⟨rfl,by simpa using c86b0⟩
         rcases hcs_ with⟨rfl,hz_⟩|⟨rfl,hz_⟩
         all_goals
          rw[if_neg nofT]at H
          obtain rfl:=Option.some.inj H;obtain⟨i1,je,fb⟩:=Kd.R_slice HO_12.out;subst fb;obtain⟨fu,fv,fw,fx,gf,gg,gh,gi⟩:=cell4 D
          go_wp2_with (first|((with_reducible refine gC 16 rfl ?_);refine cG (some 143) Tryd.func16 #[.agg #[.int .i64 L,.int .i64 O,.slice Z J.length aa],.int .u64 am] ?_;(with_reducible refine(recoupref07_Span.calls k3 L O _ _ J am a6 ce _ ?side1 ?side2 du.out).mono ?_);(case side1=>exact kcB ag HB);(case side2=>exact af.out);rintro e kx ⟨rfl,hb⟩;refine⟨_,rfl,?_⟩;replace HO_12:=kdB HO_12 hb;replace D:=bkB D hb;replace HB:=hbB HB hb;(try clear hb))|((with_reducible refine gC 15 rfl ?_);refine cG (some 146) Tryd.func15 #[] ?_;(with_reducible refine(recouplaw19_anchored.calls k3 false _ dv.out (tab_below HT.out zf)).mono ?_);rintro e ky ⟨rfl,hb⟩;refine⟨_,rfl,?_⟩;replace HO_12:=kdB HO_12 hb;replace D:=bkB D hb;replace HB:=hbB HB hb;(try clear hb)))
          go_ret
          exact⟨rfE,hbA HB.out⟩
        subst eu;rw[if_pos rfl]at H
        by_cases ev:dj=true
        case neg=>
         replace ev:=Bool.eq_false_iff.mpr ev;subst ev;have hcs_:(aj=true/\0<I.length)∨(aj=false/\ ¬0<I.length):=by
          cases aj
          ·exact .inr ⟨rfl,by simpa using c86b0⟩
          ·exact .inl ⟨rfl,by simpa using c86b0⟩
         rcases hcs_ with⟨rfl,hz_⟩|⟨rfl,hz_⟩
         all_goals
          rw[if_neg nofT]at H
          obtain rfl:=Option.some.inj H;obtain⟨iz,jd,fa⟩:=Kd.R_slice HO_12.out;subst fa;obtain⟨fp,fq,fs,ft,ga,gb,gc,ge⟩:=cell4 D
          go_wp2_with (first|((with_reducible refine gC 16 rfl ?_);refine cG (some 143) Tryd.func16 #[.agg #[.int .i64 L,.int .i64 O,.slice Z J.length aa],.int .u64 am] ?_;(with_reducible refine(recoupref07_Span.calls k3 L O _ _ J am a6 ce _ ?side1 ?side2 du.out).mono ?_);(case side1=>exact kcB ag HB);(case side2=>exact af.out);rintro e kv ⟨rfl,hb⟩;refine⟨_,rfl,?_⟩;replace HO_12:=kdB HO_12 hb;replace D:=bkB D hb;replace HB:=hbB HB hb;(try clear hb))|((with_reducible refine gC 15 rfl ?_);refine cG (some 146) Tryd.func15 #[] ?_;(with_reducible refine(recouplaw19_anchored.calls k3 true _ dv.out (tab_below HT.out zf)).mono ?_);rintro e kw ⟨rfl,hb⟩;refine⟨_,rfl,?_⟩;replace HO_12:=kdB HO_12 hb;replace D:=bkB D hb;replace HB:=hbB HB hb;(try clear hb)))
          go_ret
          exact⟨rfE,hbA HB.out⟩
        subst ev;rw[if_pos rfl]at H
        by_cases ew:aj=true
        case neg=>
         replace ew:=Bool.eq_false_iff.mpr ew;subst ew;have hz_: ¬0<I.length:=by simpa using c86b0
         rw[if_neg nofT]at H
         obtain rfl:=Option.some.inj H;obtain⟨iy,jc,e9⟩:=Kd.R_slice HO_12.out;subst e9;obtain⟨fk,fl,fm,fo,f6,f7,f8,f9⟩:=cell4 D
         go_wp2_with (first|((with_reducible refine gC 16 rfl ?_);refine cG (some 143) Tryd.func16 #[.agg #[.int .i64 L,.int .i64 O,.slice Z J.length aa],.int .u64 am] ?_;(with_reducible refine(recoupref07_Span.calls k3 L O _ _ J am a6 ce _ ?side1 ?side2 du.out).mono ?_);(case side1=>exact kcB ag HB);(case side2=>exact af.out);rintro e kt ⟨rfl,hb⟩;refine⟨_,rfl,?_⟩;replace HO_12:=kdB HO_12 hb;replace D:=bkB D hb;replace HB:=hbB HB hb;(try clear hb))|((with_reducible refine gC 15 rfl ?_);refine cG (some 146) Tryd.func15 #[] ?_;(with_reducible refine(recouplaw19_anchored.calls k3 true _ dv.out (tab_below HT.out zf)).mono ?_);rintro e ku ⟨rfl,hb⟩;refine⟨_,rfl,?_⟩;replace HO_12:=kdB HO_12 hb;replace D:=bkB D hb;replace HB:=hbB HB hb;(try clear hb)))
         go_ret
         exact⟨rfE,hbA HB.out⟩
        subst ew;rw[if_pos rfl]at H
        have hz_:0<I.length:=by simpa using c86b0
        obtain⟨im,e2,H⟩:=bindO H
        (try dsimp only at H)
        by_cases ex:im=true
        case neg=>
         replace ex:=Bool.eq_false_iff.mpr ex;subst ex;rw[if_neg nofT]at H
         obtain rfl:=Option.some.inj H;obtain⟨ix,jb,e8⟩:=Kd.R_slice HO_12.out;subst e8;obtain⟨fg,fh,fi,fj,f2,f3,f4,f5⟩:=cell4 D
         go_wp2_with (first|((with_reducible refine gC 16 rfl ?_);refine cG (some 143) Tryd.func16 #[.agg #[.int .i64 L,.int .i64 O,.slice Z J.length aa],.int .u64 am] ?_;(with_reducible refine(recoupref07_Span.calls k3 L O _ _ J am a6 ce _ ?side1 ?side2 du.out).mono ?_);(case side1=>exact kcB ag HB);(case side2=>exact af.out);rintro e kr ⟨rfl,hb⟩;refine⟨_,rfl,?_⟩;replace HO_12:=kdB HO_12 hb;replace D:=bkB D hb;replace HB:=hbB HB hb;(try clear hb))|((with_reducible refine gC 15 rfl ?_);refine cG (some 146) Tryd.func15 #[] ?_;(with_reducible refine(recouplaw19_anchored.calls k3 true _ dv.out (tab_below HT.out zf)).mono ?_);rintro e ks ⟨rfl,hb⟩;refine⟨_,rfl,?_⟩;replace HO_12:=kdB HO_12 hb;replace D:=bkB D hb;replace HB:=hbB HB hb;(try clear hb))|(go_at_call 18;(with_reducible refine(recoupref06_Has.calls a6 a1 false _ e2.out).mono ?_);rintro e w' ⟨rfl,⟨nd,rfl⟩⟩))
         go_ret
         exact⟨rfE,hbA HB.out⟩
        subst ex;rw[if_pos rfl]at H
        obtain⟨io,gn,H⟩:=bindO H
        (try dsimp only at H)
        by_cases ey:io=true
        ·subst ey;rw[if_pos rfl]at H
         obtain rfl:=Option.some.inj H;obtain⟨jx,kf,g4⟩:=Kd.R_slice HO_12.out;subst g4;obtain⟨g5,g6,g7,g8,g9,ia,ib,ic⟩:=cell4 D
         go_wp2_with (first|((with_reducible refine gC 16 rfl ?_);refine cG (some 143) Tryd.func16 #[.agg #[.int .i64 L,.int .i64 O,.slice Z J.length aa],.int .u64 am] ?_;(with_reducible refine(recoupref07_Span.calls k3 L O _ _ J am a6 ce _ ?side1 ?side2 du.out).mono ?_);(case side1=>exact kcB ag HB);(case side2=>exact af.out);rintro e lx ⟨rfl,hb⟩;refine⟨_,rfl,?_⟩;replace HO_12:=kdB HO_12 hb;replace D:=bkB D hb;replace HB:=hbB HB hb;(try clear hb))|((with_reducible refine gC 15 rfl ?_);refine cG (some 146) Tryd.func15 #[] ?_;(with_reducible refine(recouplaw19_anchored.calls k3 true _ dv.out (tab_below HT.out zf)).mono ?_);rintro e kl ⟨rfl,hb⟩;refine⟨_,rfl,?_⟩;replace HO_12:=kdB HO_12 hb;replace D:=bkB D hb;replace HB:=hbB HB hb;(try clear hb))|(go_at_call 18;(with_reducible refine(recoupref06_Has.calls a6 a1 true _ e2.out).mono ?_);rintro e w' ⟨rfl,⟨nd,rfl⟩⟩)|(go_at_call 18;(with_reducible refine(recoupref06_Has.calls am a1 true _ gn.out).mono ?_);rintro e w' ⟨rfl,⟨nd,rfl⟩⟩))
         go_ret
         exact⟨rfE,hbA HB.out⟩
        replace ey:=Bool.eq_false_iff.mpr ey;subst ey;rw[if_neg nofT]at H
        obtain⟨ip,gj,H⟩:=bindO H
        (try dsimp only at H)
        obtain⟨iq,gl,H⟩:=bindO H
        (try dsimp only at H)
        obtain rfl:=Option.some.inj H;obtain⟨iu,i8,e5⟩:=Kd.R_slice HO_12.out;subst e5;obtain⟨fc,fd,fe,ff,fy,fz,f0,f1⟩:=cell4 D
        go_wp2_with (first|((with_reducible refine gC 16 rfl ?_);refine cG (some 143) Tryd.func16 #[.agg #[.int .i64 L,.int .i64 O,.slice Z J.length aa],.int .u64 am] ?_;(with_reducible refine(recoupref07_Span.calls k3 L O _ _ J am a6 ce _ ?side1 ?side2 du.out).mono ?_);(case side1=>exact kcB ag HB);(case side2=>exact af.out);rintro e km ⟨rfl,hb⟩;refine⟨_,rfl,?_⟩;replace HO_12:=kdB HO_12 hb;replace D:=bkB D hb;replace HB:=hbB HB hb;(try clear hb))|((with_reducible refine gC 15 rfl ?_);refine cG (some 146) Tryd.func15 #[] ?_;(with_reducible refine(recouplaw19_anchored.calls k3 true _ dv.out (tab_below HT.out zf)).mono ?_);rintro e kn ⟨rfl,hb⟩;refine⟨_,rfl,?_⟩;replace HO_12:=kdB HO_12 hb;replace D:=bkB D hb;replace HB:=hbB HB hb;(try clear hb))|(go_at_call 18;(with_reducible refine(recoupref06_Has.calls a6 a1 true _ e2.out).mono ?_);rintro e w' ⟨rfl,⟨nd,rfl⟩⟩)|(go_at_call 18;(with_reducible refine(recoupref06_Has.calls am a1 false _ gn.out).mono ?_);rintro e w' ⟨rfl,⟨nd,rfl⟩⟩)|(go_at_call 23;(with_reducible refine(recoupref06_List.calls k3 am ip _ gj.out).mono ?_);rintro e ko ⟨kj,rfl,ac,hb⟩;replace HO_12:=kdB HO_12 hb;have cg:=aK (Kd.R_lower ac (below_size (hbA HB.out)));replace D:=bkB D hb;replace HB:=hbB HB hb;(try clear hb);(try clear ac);obtain⟨iv,i9,e6⟩:=Kd.R_slice cg.out;subst e6)|(go_at_call 23;(with_reducible refine(recoupref06_List.calls k3 av iq _ gl.out).mono ?_);rintro e kp ⟨kk,rfl,ac,hb⟩;replace HO_12:=kdB HO_12 hb;have e4:=aK (Kd.R_lower (Kd.R_new' ac (Kd.R_lt (kdA cg.out))) (below_size (hbA HB.out)));replace cg:=aK (Kd.R_elder' (kdA cg.out) (Kd.R_base ac) hb);replace D:=bkB D hb;replace HB:=hbB HB hb;(try clear hb);(try clear ac);obtain⟨iw,ja,e7⟩:=Kd.R_slice e4.out;subst e7))
        go_ret
        exact⟨rfE,hbA HB.out⟩
       rw[if_pos dy]at H
       have c40b0:decide (G<(I.length:Int))=true:=decide_eq_true dy;clear dy;by_cases er:0<=G
       case neg=>rw[if_neg er]at H;exact absurd H zd
       rw[if_pos er]at H
       have c41b0:decide (0<=G)=true:=decide_eq_true er;clear er;obtain⟨⟨an,cd⟩,dr,H⟩:=bindO H
       (try dsimp only at H)
       obtain⟨ij,dt,H⟩:=bindO H
       (try dsimp only at H)
       by_cases es:ij=true
       case neg=>
        replace es:=Bool.eq_false_iff.mpr es;subst es;rw[if_neg nofT]at H
        obtain rfl:=Option.some.inj H;obtain⟨jv,kd,g2⟩:=Kd.R_slice HO_12.out;subst g2
        try go_wp2
        replace HO_12:=aK (Kd.R_drew HO_12.out);replace D:=aK (blk_drew D.out);replace HB:=aK (below_drew1 HB.out);have ah:0<=(G:Int):=of_decide_eq_true asE;have ai:G<(I.length:Int):=of_decide_eq_true asE;obtain⟨ab,ay,X⟩:=Kd.at_int (Kd.R_reads' HO_12.out).2.2 G ah ai
        cases ay
        replace ah:=eq_true ah;replace ai:=eq_true ai;refine start_ (n:=12) (S:=fun w'=>w'.cell? ⟨U,0,none⟩=some (.int .i64 L)/\w'.cell? ⟨U,1,none⟩=some (.int .i64 O)/\w'.cell? ⟨U,2,none⟩=some (.slice Z J.length aa)/\w'.cell? ⟨U,3,none⟩=some (.slice ao Y.length ap)/\w'.cell? (ab.add (G).toNat)=some (.int .u64 (rd I G))) (ds:= []) (.replicate 12 false) zb rfl rfl (z3k D ⟨(blk_cell D.out 3).trans rfl,X⟩) (fun hHeld=>?_);refine with_tabW recouplaw19_LocalWithin.tab11 recouplaw19_LocalWithin.bits11 (fun HT_ HW_=>?_);generalize wr.drew=lv at HO_12 D HB X hHeld⊢;refine pu 0 (some 89) (mB 12 1) HT_ ?_;refine pu 2 (some 91) (mB 12 5) HT_ ?_;refine pu 3 (some 92) (mB 12 13) HT_ ?_;refine pu 4 (some 93) (mB 12 29) HT_ ?_;refine tk5 1 (some 90) (mB 12 31) HT_ HW_ hHeld ?_;refine tk5 5 (some 94) (mB 12 63) HT_ HW_ hHeld ?_;refine zoh 6 (some 95) (mB 12 127) HT_ fun K hK=>?_;refine goes_ Tryd.func16 zb rfl #[.agg #[.int .i64 L,.int .i64 O,.slice Z J.length aa],.int .u64 (rd I G)] ze rfl rfl (by(try simp only[List.map_toArray,List.map_cons,List.map_nil]);first|done|rfl|(simp only[List.length_drop,List.length_take];rfl)) ?_;with_reducible refine(recoupref07_Span.calls k3 L O _ _ J (rd I G) an cd _ ?side1 ?side2 dr.out).mono ?_
        (case side1=>exact kcB ag HB)
        (case side2=>exact af.out)
        rintro e lw ⟨rfl,hb⟩;have HS4_:=(hb.cell (World.block_lt_of_cell? _ _ (hHeld.2.2.2.2))).trans (hHeld.2.2.2.2);refine⟨_,rfl,?_⟩;replace HO_12:=kdB HO_12 hb;replace D:=bkB D hb;replace HB:=hbB HB hb
        (try clear hb)
        (try clear d5)
        (try clear hk)
        (try clear hi)
        refine hK.out _ _ (z3k D ⟨(blk_cell D.out 3).trans rfl,HS4_⟩) (fun hHeld=>?_);clear hK K;refine znm (some 95) ?_;refine pu 7 (some 88) (mB 12 255) HT_ ?_;refine pu 8 (some 96) (mB 12 511) HT_ ?_;refine pu 9 (some 97) (mB 12 1023) HT_ ?_;refine pu 10 (some 15) (mB 12 2047) HT_ ?_;refine pu 11 (some 16) (mB 12 4095) HT_ ?_;refine done_ (done_of HT_.out zb) ?_
        try go_wp2_with (first|((with_reducible refine gC 18 rfl ?_);refine cG (some 100) Tryd.func18 #[.int .u64 an,.int .i64 a1] ?_;(with_reducible refine(recoupref06_Has.calls an a1 false _ dt.out).mono ?_);rintro e w' ⟨rfl,⟨nd,rfl⟩⟩;refine⟨_,rfl,?_⟩))
        go_ret
        exact⟨rfE,hbA HB.out⟩
       subst es;rw[if_pos rfl]at H
       obtain⟨ik,dz,H⟩:=bindO H
       (try dsimp only at H)
       by_cases et:ik=true
       ·subst et;rw[if_pos rfl]at H
        obtain rfl:=Option.some.inj H;obtain⟨ji,jy,gp⟩:=Kd.R_slice HO_12.out;subst gp
        try go_wp2
        replace HO_12:=aK (Kd.R_drew HO_12.out);replace D:=aK (blk_drew D.out);replace HB:=aK (below_drew1 HB.out);have ah:0<=(G:Int):=of_decide_eq_true asE;have ai:G<(I.length:Int):=of_decide_eq_true asE;obtain⟨ab,ay,X⟩:=Kd.at_int (Kd.R_reads' HO_12.out).2.2 G ah ai
        cases ay
        replace ah:=eq_true ah;replace ai:=eq_true ai;refine start_ (n:=12) (S:=fun w'=>w'.cell? ⟨U,0,none⟩=some (.int .i64 L)/\w'.cell? ⟨U,1,none⟩=some (.int .i64 O)/\w'.cell? ⟨U,2,none⟩=some (.slice Z J.length aa)/\w'.cell? ⟨U,3,none⟩=some (.slice ao Y.length ap)/\w'.cell? (ab.add (G).toNat)=some (.int .u64 (rd I G))) (ds:= []) (.replicate 12 false) zb rfl rfl (z3k D ⟨(blk_cell D.out 3).trans rfl,X⟩) (fun hHeld=>?_);refine with_tabW recouplaw19_LocalWithin.tab11 recouplaw19_LocalWithin.bits11 (fun HT_ HW_=>?_);generalize wr.drew=la at HO_12 D HB X hHeld⊢;refine pu 0 (some 89) (mB 12 1) HT_ ?_;refine pu 2 (some 91) (mB 12 5) HT_ ?_;refine pu 3 (some 92) (mB 12 13) HT_ ?_;refine pu 4 (some 93) (mB 12 29) HT_ ?_;refine tk5 1 (some 90) (mB 12 31) HT_ HW_ hHeld ?_;refine tk5 5 (some 94) (mB 12 63) HT_ HW_ hHeld ?_;refine zoh 6 (some 95) (mB 12 127) HT_ fun K hK=>?_;refine goes_ Tryd.func16 zb rfl #[.agg #[.int .i64 L,.int .i64 O,.slice Z J.length aa],.int .u64 (rd I G)] ze rfl rfl (by(try simp only[List.map_toArray,List.map_cons,List.map_nil]);first|done|rfl|(simp only[List.length_drop,List.length_take];rfl)) ?_;with_reducible refine(recoupref07_Span.calls k3 L O _ _ J (rd I G) an cd _ ?side1 ?side2 dr.out).mono ?_
        (case side1=>exact kcB ag HB)
        (case side2=>exact af.out)
        rintro e lb ⟨rfl,hb⟩;have HS4_:=(hb.cell (World.block_lt_of_cell? _ _ (hHeld.2.2.2.2))).trans (hHeld.2.2.2.2);refine⟨_,rfl,?_⟩;replace HO_12:=kdB HO_12 hb;replace D:=bkB D hb;replace HB:=hbB HB hb
        (try clear hb)
        (try clear d5)
        (try clear hk)
        (try clear hi)
        refine hK.out _ _ (z3k D ⟨(blk_cell D.out 3).trans rfl,HS4_⟩) (fun hHeld=>?_);clear hK K;refine znm (some 95) ?_;refine pu 7 (some 88) (mB 12 255) HT_ ?_;refine pu 8 (some 96) (mB 12 511) HT_ ?_;refine pu 9 (some 97) (mB 12 1023) HT_ ?_;refine pu 10 (some 15) (mB 12 2047) HT_ ?_;refine pu 11 (some 16) (mB 12 4095) HT_ ?_;refine done_ (done_of HT_.out zb) ?_
        try go_wp2_with (first|((with_reducible refine gC 18 rfl ?_);refine cG (some 100) Tryd.func18 #[.int .u64 an,.int .i64 a1] ?_;(with_reducible refine(recoupref06_Has.calls an a1 true _ dt.out).mono ?_);rintro e w' ⟨rfl,⟨nd,rfl⟩⟩;refine⟨_,rfl,?_⟩;have ak:0<=(G:Int):=of_decide_eq_true asE;have al:G<(I.length:Int):=of_decide_eq_true asE;obtain⟨aw,a4,a5⟩:=Kd.at_int (Kd.R_reads' HO_12.out).2.2 G ak al;obtain rfl:ab=aw:=zp;replace ak:=eq_true ak;replace al:=eq_true al)|(go_at_call 18;(with_reducible refine(recoupref06_Has.calls (rd I G) a1 true _ dz.out).mono ?_);rintro e w' ⟨rfl,⟨nd,rfl⟩⟩))
        go_ret
        exact⟨rfE,hbA HB.out⟩
       replace et:=Bool.eq_false_iff.mpr et;subst et;rw[if_neg nofT]at H
       obtain⟨az,en,H⟩:=bindO H
       (try dsimp only at H)
       obtain⟨a0,eo,H⟩:=bindO H
       (try dsimp only at H)
       by_cases a8:(az.length:Int)=(a0.length:Int)
       case neg=>
        rw[if_neg a8]at H
        have c52b0:((az.length:Int)==(a0.length:Int))=false:=beq_eq_false_iff_ne.mpr a8;have c52b1:((az.length:Int)!=(a0.length:Int))=true:=bne_iff_ne.mpr a8;have c52b2:(az.length==a0.length)=false:=by first|simpa using a8|(simp at a8⊢;omega)
        obtain rfl:=Option.some.inj H;obtain⟨js,ka,gz⟩:=Kd.R_slice HO_12.out;subst gz
        try go_wp2
        replace HO_12:=aK (Kd.R_drew HO_12.out);replace D:=aK (blk_drew D.out);replace HB:=aK (below_drew1 HB.out);have ah:0<=(G:Int):=of_decide_eq_true asE;have ai:G<(I.length:Int):=of_decide_eq_true asE;obtain⟨ab,ay,X⟩:=Kd.at_int (Kd.R_reads' HO_12.out).2.2 G ah ai
        cases ay
        replace ah:=eq_true ah;replace ai:=eq_true ai;refine start_ (n:=12) (S:=fun w'=>w'.cell? ⟨U,0,none⟩=some (.int .i64 L)/\w'.cell? ⟨U,1,none⟩=some (.int .i64 O)/\w'.cell? ⟨U,2,none⟩=some (.slice Z J.length aa)/\w'.cell? ⟨U,3,none⟩=some (.slice ao Y.length ap)/\w'.cell? (ab.add (G).toNat)=some (.int .u64 (rd I G))) (ds:= []) (.replicate 12 false) zb rfl rfl (z3k D ⟨(blk_cell D.out 3).trans rfl,X⟩) (fun hHeld=>?_);refine with_tabW recouplaw19_LocalWithin.tab11 recouplaw19_LocalWithin.bits11 (fun HT_ HW_=>?_);generalize wr.drew=lr at HO_12 D HB X hHeld⊢;refine pu 0 (some 89) (mB 12 1) HT_ ?_;refine pu 2 (some 91) (mB 12 5) HT_ ?_;refine pu 3 (some 92) (mB 12 13) HT_ ?_;refine pu 4 (some 93) (mB 12 29) HT_ ?_;refine tk5 1 (some 90) (mB 12 31) HT_ HW_ hHeld ?_;refine tk5 5 (some 94) (mB 12 63) HT_ HW_ hHeld ?_;refine zoh 6 (some 95) (mB 12 127) HT_ fun K hK=>?_;refine goes_ Tryd.func16 zb rfl #[.agg #[.int .i64 L,.int .i64 O,.slice Z J.length aa],.int .u64 (rd I G)] ze rfl rfl (by(try simp only[List.map_toArray,List.map_cons,List.map_nil]);first|done|rfl|(simp only[List.length_drop,List.length_take];rfl)) ?_;with_reducible refine(recoupref07_Span.calls k3 L O _ _ J (rd I G) an cd _ ?side1 ?side2 dr.out).mono ?_
        (case side1=>exact kcB ag HB)
        (case side2=>exact af.out)
        rintro e ls ⟨rfl,hb⟩;have HS4_:=(hb.cell (World.block_lt_of_cell? _ _ (hHeld.2.2.2.2))).trans (hHeld.2.2.2.2);refine⟨_,rfl,?_⟩;replace HO_12:=kdB HO_12 hb;replace D:=bkB D hb;replace HB:=hbB HB hb
        (try clear hb)
        (try clear d5)
        (try clear hk)
        (try clear hi)
        refine hK.out _ _ (z3k D ⟨(blk_cell D.out 3).trans rfl,HS4_⟩) (fun hHeld=>?_);clear hK K;refine znm (some 95) ?_;refine pu 7 (some 88) (mB 12 255) HT_ ?_;refine pu 8 (some 96) (mB 12 511) HT_ ?_;refine pu 9 (some 97) (mB 12 1023) HT_ ?_;refine pu 10 (some 15) (mB 12 2047) HT_ ?_;refine pu 11 (some 16) (mB 12 4095) HT_ ?_;refine done_ (done_of HT_.out zb) ?_
        try go_wp2_with (first|((with_reducible refine gC 18 rfl ?_);refine cG (some 100) Tryd.func18 #[.int .u64 an,.int .i64 a1] ?_;(with_reducible refine(recoupref06_Has.calls an a1 true _ dt.out).mono ?_);rintro e w' ⟨rfl,⟨nd,rfl⟩⟩;refine⟨_,rfl,?_⟩;have ak:0<=(G:Int):=of_decide_eq_true asE;have al:G<(I.length:Int):=of_decide_eq_true asE;obtain⟨aw,a4,a5⟩:=Kd.at_int (Kd.R_reads' HO_12.out).2.2 G ak al;obtain rfl:ab=aw:=zp;replace ak:=eq_true ak;replace al:=eq_true al)|(go_at_call 18;(with_reducible refine(recoupref06_Has.calls (rd I G) a1 false _ dz.out).mono ?_);rintro e w' ⟨rfl,⟨nd,rfl⟩⟩;have aq:0<=(G:Int):=of_decide_eq_true asE;have ar:G<(I.length:Int):=of_decide_eq_true asE;obtain⟨a3,ba,b8⟩:=Kd.at_int (Kd.R_reads' HO_12.out).2.2 G aq ar;obtain rfl:ab=a3:=zz;replace aq:=eq_true aq;replace ar:=eq_true ar)|(go_at_call 23;(with_reducible refine(recoupref06_List.calls k3 (rd I G) az _ en.out).mono ?_);rintro e lt ⟨el,rfl,ac,hb⟩;replace HO_12:=kdB HO_12 hb;have ae:=aK (Kd.R_lower ac (below_size (hbA HB.out)));replace D:=bkB D hb;replace HB:=hbB HB hb;(try clear hb);(try clear ac);obtain⟨jt,kb,g0⟩:=Kd.R_slice ae.out;subst g0)|(go_at_call 23;(with_reducible refine(recoupref06_List.calls k3 av a0 _ eo.out).mono ?_);rintro e lu ⟨em,rfl,ac,hb⟩;replace HO_12:=kdB HO_12 hb;have a2:=aK (Kd.R_lower (Kd.R_new' ac (Kd.R_lt (kdA ae.out))) (below_size (hbA HB.out)));replace ae:=aK (Kd.R_elder' (kdA ae.out) (Kd.R_base ac) hb);replace D:=bkB D hb;replace HB:=hbB HB hb;(try clear hb);(try clear ac);obtain⟨ju,kc,g1⟩:=Kd.R_slice a2.out;subst g1))
        go_ret
        exact⟨rfE,hbA HB.out⟩
       rw[if_pos a8]at H
       have c52b0:((az.length:Int)==(a0.length:Int))=true:=beq_iff_eq.mpr a8;have c52b1:((az.length:Int)!=(a0.length:Int))=false:=bne_eq_false_iff_eq.mpr a8;have c52b2:(az.length==a0.length)=true:=by first|simpa using a8|(simp at a8⊢;omega)
       clear a8;by_cases dn:G=0
       case neg=>
        rw[if_neg dn]at H
        have c53b0:(G==0)=false:=beq_eq_false_iff_ne.mpr dn;have c53b1:(G !=0)=true:=bne_iff_ne.mpr dn;have H':=aK H;clear H;obtain⟨jp,j7,gw⟩:=Kd.R_slice HO_12.out;subst gw
        try go_wp2
        replace HO_12:=aK (Kd.R_drew HO_12.out);replace D:=aK (blk_drew D.out);replace HB:=aK (below_drew1 HB.out);have ah:0<=(G:Int):=of_decide_eq_true asE;have ai:G<(I.length:Int):=of_decide_eq_true asE;obtain⟨ab,ay,X⟩:=Kd.at_int (Kd.R_reads' HO_12.out).2.2 G ah ai
        cases ay
        replace ah:=eq_true ah;replace ai:=eq_true ai;refine start_ (n:=12) (S:=fun w'=>w'.cell? ⟨U,0,none⟩=some (.int .i64 L)/\w'.cell? ⟨U,1,none⟩=some (.int .i64 O)/\w'.cell? ⟨U,2,none⟩=some (.slice Z J.length aa)/\w'.cell? ⟨U,3,none⟩=some (.slice ao Y.length ap)/\w'.cell? (ab.add (G).toNat)=some (.int .u64 (rd I G))) (ds:= []) (.replicate 12 false) zb rfl rfl (z3k D ⟨(blk_cell D.out 3).trans rfl,X⟩) (fun hHeld=>?_);refine with_tabW recouplaw19_LocalWithin.tab11 recouplaw19_LocalWithin.bits11 (fun HT_ HW_=>?_);generalize wr.drew=lm at HO_12 D HB X hHeld⊢;refine pu 0 (some 89) (mB 12 1) HT_ ?_;refine pu 2 (some 91) (mB 12 5) HT_ ?_;refine pu 3 (some 92) (mB 12 13) HT_ ?_;refine pu 4 (some 93) (mB 12 29) HT_ ?_;refine tk5 1 (some 90) (mB 12 31) HT_ HW_ hHeld ?_;refine tk5 5 (some 94) (mB 12 63) HT_ HW_ hHeld ?_;refine zoh 6 (some 95) (mB 12 127) HT_ fun K hK=>?_;refine goes_ Tryd.func16 zb rfl #[.agg #[.int .i64 L,.int .i64 O,.slice Z J.length aa],.int .u64 (rd I G)] ze rfl rfl (by(try simp only[List.map_toArray,List.map_cons,List.map_nil]);first|done|rfl|(simp only[List.length_drop,List.length_take];rfl)) ?_;with_reducible refine(recoupref07_Span.calls k3 L O _ _ J (rd I G) an cd _ ?side1 ?side2 dr.out).mono ?_
        (case side1=>exact kcB ag HB)
        (case side2=>exact af.out)
        rintro e ln ⟨rfl,hb⟩;have HS4_:=(hb.cell (World.block_lt_of_cell? _ _ (hHeld.2.2.2.2))).trans (hHeld.2.2.2.2);refine⟨_,rfl,?_⟩;replace HO_12:=kdB HO_12 hb;replace D:=bkB D hb;replace HB:=hbB HB hb
        (try clear hb)
        (try clear d5)
        (try clear hk)
        (try clear hi)
        refine hK.out _ _ (z3k D ⟨(blk_cell D.out 3).trans rfl,HS4_⟩) (fun hHeld=>?_);clear hK K;refine znm (some 95) ?_;refine pu 7 (some 88) (mB 12 255) HT_ ?_;refine pu 8 (some 96) (mB 12 511) HT_ ?_;refine pu 9 (some 97) (mB 12 1023) HT_ ?_;refine pu 10 (some 15) (mB 12 2047) HT_ ?_;refine pu 11 (some 16) (mB 12 4095) HT_ ?_;refine done_ (done_of HT_.out zb) ?_
        try go_wp2_with (first|((with_reducible refine gC 18 rfl ?_);refine cG (some 100) Tryd.func18 #[.int .u64 an,.int .i64 a1] ?_;(with_reducible refine(recoupref06_Has.calls an a1 true _ dt.out).mono ?_);rintro e w' ⟨rfl,⟨nd,rfl⟩⟩;refine⟨_,rfl,?_⟩;have ak:0<=(G:Int):=of_decide_eq_true asE;have al:G<(I.length:Int):=of_decide_eq_true asE;obtain⟨aw,a4,a5⟩:=Kd.at_int (Kd.R_reads' HO_12.out).2.2 G ak al;obtain rfl:ab=aw:=zp;replace ak:=eq_true ak;replace al:=eq_true al)|(go_at_call 18;(with_reducible refine(recoupref06_Has.calls (rd I G) a1 false _ dz.out).mono ?_);rintro e w' ⟨rfl,⟨nd,rfl⟩⟩;have aq:0<=(G:Int):=of_decide_eq_true asE;have ar:G<(I.length:Int):=of_decide_eq_true asE;obtain⟨a3,ba,b8⟩:=Kd.at_int (Kd.R_reads' HO_12.out).2.2 G aq ar;obtain rfl:ab=a3:=zz;replace aq:=eq_true aq;replace ar:=eq_true ar)|(go_at_call 23;(with_reducible refine(recoupref06_List.calls k3 (rd I G) az _ en.out).mono ?_);rintro e lp ⟨el,rfl,ac,hb⟩;replace HO_12:=kdB HO_12 hb;have ae:=aK (Kd.R_lower ac (below_size (hbA HB.out)));replace D:=bkB D hb;replace HB:=hbB HB hb;(try clear hb);(try clear ac);obtain⟨jq,j8,gx⟩:=Kd.R_slice ae.out;subst gx)|(go_at_call 23;(with_reducible refine(recoupref06_List.calls k3 av a0 _ eo.out).mono ?_);rintro e lq ⟨em,rfl,ac,hb⟩;replace HO_12:=kdB HO_12 hb;have a2:=aK (Kd.R_lower (Kd.R_new' ac (Kd.R_lt (kdA ae.out))) (below_size (hbA HB.out)));replace ae:=aK (Kd.R_elder' (kdA ae.out) (Kd.R_base ac) hb);replace D:=bkB D hb;replace HB:=hbB HB hb;(try clear hb);(try clear ac);obtain⟨jr,j9,gy⟩:=Kd.R_slice a2.out;subst gy))
        go_roundg k3
        case measure=>have:=dk.out;have:=dq.out;have:=ep.out;omega
        case rel=>exact⟨(wrap64 (G+1)),rsE,H',⟨by have:=dk.out;have:=dq.out;have:=ep.out;omega⟩,⟨kdA HO_12.out⟩,⟨bkA D.out⟩,⟨hbA HB.out⟩⟩
       rw[if_pos dn]at H
       have c53b0:(G==0)=true:=beq_iff_eq.mpr dn;have c53b1:(G !=0)=false:=bne_eq_false_iff_eq.mpr dn;clear dn;by_cases dp:(rd I G)=av
       case neg=>
        rw[if_neg dp]at H
        have c54b0:((rd I G)==av)=false:=beq_eq_false_iff_ne.mpr dp;have c54b1:((rd I G)!=av)=true:=bne_iff_ne.mpr dp;obtain rfl:=Option.some.inj H;obtain⟨jm,j4,gt⟩:=Kd.R_slice HO_12.out;subst gt
        try go_wp2
        replace HO_12:=aK (Kd.R_drew HO_12.out);replace D:=aK (blk_drew D.out);replace HB:=aK (below_drew1 HB.out);have ah:0<=(G:Int):=of_decide_eq_true asE;have ai:G<(I.length:Int):=of_decide_eq_true asE;obtain⟨ab,ay,X⟩:=Kd.at_int (Kd.R_reads' HO_12.out).2.2 G ah ai
        cases ay
        replace ah:=eq_true ah;replace ai:=eq_true ai;refine start_ (n:=12) (S:=fun w'=>w'.cell? ⟨U,0,none⟩=some (.int .i64 L)/\w'.cell? ⟨U,1,none⟩=some (.int .i64 O)/\w'.cell? ⟨U,2,none⟩=some (.slice Z J.length aa)/\w'.cell? ⟨U,3,none⟩=some (.slice ao Y.length ap)/\w'.cell? (ab.add (G).toNat)=some (.int .u64 (rd I G))) (ds:= []) (.replicate 12 false) zb rfl rfl (z3k D ⟨(blk_cell D.out 3).trans rfl,X⟩) (fun hHeld=>?_);refine with_tabW recouplaw19_LocalWithin.tab11 recouplaw19_LocalWithin.bits11 (fun HT_ HW_=>?_);generalize wr.drew=lg at HO_12 D HB X hHeld⊢;refine pu 0 (some 89) (mB 12 1) HT_ ?_;refine pu 2 (some 91) (mB 12 5) HT_ ?_;refine pu 3 (some 92) (mB 12 13) HT_ ?_;refine pu 4 (some 93) (mB 12 29) HT_ ?_;refine tk5 1 (some 90) (mB 12 31) HT_ HW_ hHeld ?_;refine tk5 5 (some 94) (mB 12 63) HT_ HW_ hHeld ?_;refine zoh 6 (some 95) (mB 12 127) HT_ fun K hK=>?_;refine goes_ Tryd.func16 zb rfl #[.agg #[.int .i64 L,.int .i64 O,.slice Z J.length aa],.int .u64 (rd I G)] ze rfl rfl (by(try simp only[List.map_toArray,List.map_cons,List.map_nil]);first|done|rfl|(simp only[List.length_drop,List.length_take];rfl)) ?_;with_reducible refine(recoupref07_Span.calls k3 L O _ _ J (rd I G) an cd _ ?side1 ?side2 dr.out).mono ?_
        (case side1=>exact kcB ag HB)
        (case side2=>exact af.out)
        rintro e w64 ⟨rfl,hb⟩;have HS4_:=(hb.cell (World.block_lt_of_cell? _ _ (hHeld.2.2.2.2))).trans (hHeld.2.2.2.2);refine⟨_,rfl,?_⟩;replace HO_12:=kdB HO_12 hb;replace D:=bkB D hb;replace HB:=hbB HB hb
        (try clear hb)
        (try clear d5)
        (try clear hk)
        (try clear hi)
        refine hK.out _ _ (z3k D ⟨(blk_cell D.out 3).trans rfl,HS4_⟩) (fun hHeld=>?_);clear hK K;refine znm (some 95) ?_;refine pu 7 (some 88) (mB 12 255) HT_ ?_;refine pu 8 (some 96) (mB 12 511) HT_ ?_;refine pu 9 (some 97) (mB 12 1023) HT_ ?_;refine pu 10 (some 15) (mB 12 2047) HT_ ?_;refine pu 11 (some 16) (mB 12 4095) HT_ ?_;refine done_ (done_of HT_.out zb) ?_
        try go_wp2_with (first|((with_reducible refine gC 18 rfl ?_);refine cG (some 100) Tryd.func18 #[.int .u64 an,.int .i64 a1] ?_;(with_reducible refine(recoupref06_Has.calls an a1 true _ dt.out).mono ?_);rintro e w' ⟨rfl,⟨nd,rfl⟩⟩;refine⟨_,rfl,?_⟩;have ak:0<=(G:Int):=of_decide_eq_true asE;have al:G<(I.length:Int):=of_decide_eq_true asE;obtain⟨aw,a4,a5⟩:=Kd.at_int (Kd.R_reads' HO_12.out).2.2 G ak al;obtain rfl:ab=aw:=zp;replace ak:=eq_true ak;replace al:=eq_true al)|(go_at_call 18;(with_reducible refine(recoupref06_Has.calls (rd I G) a1 false _ dz.out).mono ?_);rintro e w' ⟨rfl,⟨nd,rfl⟩⟩;have aq:0<=(G:Int):=of_decide_eq_true asE;have ar:G<(I.length:Int):=of_decide_eq_true asE;obtain⟨a3,ba,b8⟩:=Kd.at_int (Kd.R_reads' HO_12.out).2.2 G aq ar;obtain rfl:ab=a3:=zz;replace aq:=eq_true aq;replace ar:=eq_true ar)|(go_at_call 23;(with_reducible refine(recoupref06_List.calls k3 (rd I G) az _ en.out).mono ?_);rintro e lh ⟨el,rfl,ac,hb⟩;replace HO_12:=kdB HO_12 hb;have ae:=aK (Kd.R_lower ac (below_size (hbA HB.out)));replace D:=bkB D hb;replace HB:=hbB HB hb;(try clear hb);(try clear ac);obtain⟨jn,j5,gu⟩:=Kd.R_slice ae.out;subst gu)|(go_at_call 23;(with_reducible refine(recoupref06_List.calls k3 av a0 _ eo.out).mono ?_);rintro e ll ⟨em,rfl,ac,hb⟩;replace HO_12:=kdB HO_12 hb;have a2:=aK (Kd.R_lower (Kd.R_new' ac (Kd.R_lt (kdA ae.out))) (below_size (hbA HB.out)));replace ae:=aK (Kd.R_elder' (kdA ae.out) (Kd.R_base ac) hb);replace D:=bkB D hb;replace HB:=hbB HB hb;(try clear hb);(try clear ac);obtain⟨jo,j6,gv⟩:=Kd.R_slice a2.out;subst gv;have b9:0<=(G:Int):=of_decide_eq_true asE;have ca:G<(I.length:Int):=of_decide_eq_true asE;obtain⟨dm,d4,ei⟩:=Kd.at_int (Kd.R_reads' HO_12.out).2.2 G b9 ca;obtain rfl:ab=dm:=(by injection d4);replace b9:=eq_true b9;replace ca:=eq_true ca))
        go_ret
        exact⟨rfE,hbA HB.out⟩
       rw[if_pos dp]at H
       have c54b0:((rd I G)==av)=true:=beq_iff_eq.mpr dp;have c54b1:((rd I G)!=av)=false:=bne_eq_false_iff_eq.mpr dp;clear dp;have H':=aK H;clear H;obtain⟨jj,jz,gq⟩:=Kd.R_slice HO_12.out;subst gq
       try go_wp2
       replace HO_12:=aK (Kd.R_drew HO_12.out);replace D:=aK (blk_drew D.out);replace HB:=aK (below_drew1 HB.out);have ah:0<=(G:Int):=of_decide_eq_true asE;have ai:G<(I.length:Int):=of_decide_eq_true asE;obtain⟨ab,ay,X⟩:=Kd.at_int (Kd.R_reads' HO_12.out).2.2 G ah ai
       cases ay
       replace ah:=eq_true ah;replace ai:=eq_true ai;refine start_ (n:=12) (S:=fun w'=>w'.cell? ⟨U,0,none⟩=some (.int .i64 L)/\w'.cell? ⟨U,1,none⟩=some (.int .i64 O)/\w'.cell? ⟨U,2,none⟩=some (.slice Z J.length aa)/\w'.cell? ⟨U,3,none⟩=some (.slice ao Y.length ap)/\w'.cell? (ab.add (G).toNat)=some (.int .u64 (rd I G))) (ds:= []) (.replicate 12 false) zb rfl rfl (z3k D ⟨(blk_cell D.out 3).trans rfl,X⟩) (fun hHeld=>?_);refine with_tabW recouplaw19_LocalWithin.tab11 recouplaw19_LocalWithin.bits11 (fun HT_ HW_=>?_);generalize wr.drew=lc at HO_12 D HB X hHeld⊢;refine pu 0 (some 89) (mB 12 1) HT_ ?_;refine pu 2 (some 91) (mB 12 5) HT_ ?_;refine pu 3 (some 92) (mB 12 13) HT_ ?_;refine pu 4 (some 93) (mB 12 29) HT_ ?_;refine tk5 1 (some 90) (mB 12 31) HT_ HW_ hHeld ?_;refine tk5 5 (some 94) (mB 12 63) HT_ HW_ hHeld ?_;refine zoh 6 (some 95) (mB 12 127) HT_ fun K hK=>?_;refine goes_ Tryd.func16 zb rfl #[.agg #[.int .i64 L,.int .i64 O,.slice Z J.length aa],.int .u64 (rd I G)] ze rfl rfl (by(try simp only[List.map_toArray,List.map_cons,List.map_nil]);first|done|rfl|(simp only[List.length_drop,List.length_take];rfl)) ?_;with_reducible refine(recoupref07_Span.calls k3 L O _ _ J (rd I G) an cd _ ?side1 ?side2 dr.out).mono ?_
       (case side1=>exact kcB ag HB)
       (case side2=>exact af.out)
       rintro e ld ⟨rfl,hb⟩;have HS4_:=(hb.cell (World.block_lt_of_cell? _ _ (hHeld.2.2.2.2))).trans (hHeld.2.2.2.2);refine⟨_,rfl,?_⟩;replace HO_12:=kdB HO_12 hb;replace D:=bkB D hb;replace HB:=hbB HB hb
       (try clear hb)
       (try clear d5)
       (try clear hk)
       (try clear hi)
       refine hK.out _ _ (z3k D ⟨(blk_cell D.out 3).trans rfl,HS4_⟩) (fun hHeld=>?_);clear hK K;refine znm (some 95) ?_;refine pu 7 (some 88) (mB 12 255) HT_ ?_;refine pu 8 (some 96) (mB 12 511) HT_ ?_;refine pu 9 (some 97) (mB 12 1023) HT_ ?_;refine pu 10 (some 15) (mB 12 2047) HT_ ?_;refine pu 11 (some 16) (mB 12 4095) HT_ ?_;refine done_ (done_of HT_.out zb) ?_
       try go_wp2_with (first|((with_reducible refine gC 18 rfl ?_);refine cG (some 100) Tryd.func18 #[.int .u64 an,.int .i64 a1] ?_;(with_reducible refine(recoupref06_Has.calls an a1 true _ dt.out).mono ?_);rintro e w' ⟨rfl,⟨nd,rfl⟩⟩;refine⟨_,rfl,?_⟩;have ak:0<=(G:Int):=of_decide_eq_true asE;have al:G<(I.length:Int):=of_decide_eq_true asE;obtain⟨aw,a4,a5⟩:=Kd.at_int (Kd.R_reads' HO_12.out).2.2 G ak al;obtain rfl:ab=aw:=zp;replace ak:=eq_true ak;replace al:=eq_true al)|(go_at_call 18;(with_reducible refine(recoupref06_Has.calls (rd I G) a1 false _ dz.out).mono ?_);rintro e w' ⟨rfl,⟨nd,rfl⟩⟩;have aq:0<=(G:Int):=of_decide_eq_true asE;have ar:G<(I.length:Int):=of_decide_eq_true asE;obtain⟨a3,ba,b8⟩:=Kd.at_int (Kd.R_reads' HO_12.out).2.2 G aq ar;obtain rfl:ab=a3:=zz;replace aq:=eq_true aq;replace ar:=eq_true ar)|(go_at_call 23;(with_reducible refine(recoupref06_List.calls k3 (rd I G) az _ en.out).mono ?_);rintro e le ⟨el,rfl,ac,hb⟩;replace HO_12:=kdB HO_12 hb;have ae:=aK (Kd.R_lower ac (below_size (hbA HB.out)));replace D:=bkB D hb;replace HB:=hbB HB hb;(try clear hb);(try clear ac);obtain⟨jk,j2,gr⟩:=Kd.R_slice ae.out;subst gr)|(go_at_call 23;(with_reducible refine(recoupref06_List.calls k3 av a0 _ eo.out).mono ?_);rintro e lf ⟨em,rfl,ac,hb⟩;replace HO_12:=kdB HO_12 hb;have a2:=aK (Kd.R_lower (Kd.R_new' ac (Kd.R_lt (kdA ae.out))) (below_size (hbA HB.out)));replace ae:=aK (Kd.R_elder' (kdA ae.out) (Kd.R_base ac) hb);replace D:=bkB D hb;replace HB:=hbB HB hb;(try clear hb);(try clear ac);obtain⟨jl,j3,gs⟩:=Kd.R_slice a2.out;subst gs;have b9:0<=(G:Int):=of_decide_eq_true asE;have ca:G<(I.length:Int):=of_decide_eq_true asE;obtain⟨dm,d4,ei⟩:=Kd.at_int (Kd.R_reads' HO_12.out).2.2 G b9 ca;obtain rfl:ab=dm:=(by injection d4);replace b9:=eq_true b9;replace ca:=eq_true ca))
       go_roundg k3
       case measure=>have:=dk.out;have:=dq.out;have:=ep.out;omega
       case rel=>exact⟨(wrap64 (G+1)),rsE,H',⟨by have:=dk.out;have:=dq.out;have:=ep.out;omega⟩,⟨kdA HO_12.out⟩,⟨bkA D.out⟩,⟨hbA HB.out⟩⟩
end Go.Proofs.YtjgcocfnilhggaaDoor.Q
