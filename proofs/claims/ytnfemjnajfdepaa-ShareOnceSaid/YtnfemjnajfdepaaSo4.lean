/- Texts of the proof of ShareOnce: what each Go function answers, and what the answers mean; no condition beyond each theorem's own. -/
import Derived.Laws.Bits64
import Derived.Laws.Bits64b
import GoSem.Claim
import Derived.Lib.TrailingZeros
import Derived.Test.YtnfemjnajfdepaaSo3
set_option maxHeartbeats 16000000
set_option maxRecDepth 100000
set_option linter.unusedVariables false
set_option linter.unusedSimpArgs false
namespace Go.Proofs.Ytnfemjnajfdepaa.Q
open RowKit YtnfemjnajfdepaaW.PrintWords YtnfemjnajfdepaaW.PrintLast YtnfemjnajfdepaaW.PrintMore
attribute [local go_sem] max2_int min2_int max_two min_two max_three min_three max_four min_four
mutual
def recoupref22_Once.l0:Nat->Int->List Int->List (List (S61))->List Int->Int->Int->Int->Int->Option (List Int×(List (List (S61)))×List Int×Bool×Int)
 |0,_,_,_,_,_,_,_,_=>none
 |k+1,x8,D,G,O,I,J,L,U=>if 0<=x8 then(if x8<(G.length:Int)then((recoupref22_in.f k (rd_L5 G x8) I J L).bind fun Y=>(if Y=true then((some (([]:List Int):List Int)).bind fun X=>(if X.length+D.length<17592186044416 then(recoupref22_Once.l1 k x8 (wrap64 ((D.length:Int)+x8)) 0 D G O I J L U (X++D) ([]:List (List (S61))))else(none)))else(recoupref22_Once.l0 k (wrap64 (x8+1)) D G O I J L U)))else(none))else(none)
def recoupref22_Once.l1:Nat->Int->Int->Int->List Int->List (List (S61))->List Int->Int->Int->Int->Int->List Int->List (List (S61))->Option (List Int×(List (List (S61)))×List Int×Bool×Int)
 |0,_,_,_,_,_,_,_,_,_,_,_,_=>none
 |k+1,x8,x9,Z,I,D,J,L,O,U,Y,X,G=>if Z<(D.length:Int)then(if Z=x8 then(if G.length<5864062014805 then(recoupref22_Once.j2 k x8 x9 Z I D J L O U Y X (G++ [(([(⟨L,1⟩:S61),(⟨O,U⟩:S61)]:List (S61)))]))else(none))else(recoupref22_Once.j2 k x8 x9 Z I D J L O U Y X G))else(recoupref22_Once.l3 k x9 0 I D J X G ([]:List Int))
def recoupref22_Once.j2:Nat->Int->Int->Int->List Int->List (List (S61))->List Int->Int->Int->Int->Int->List Int->List (List (S61))->Option (List Int×(List (List (S61)))×List Int×Bool×Int)
 |0,_,_,_,_,_,_,_,_,_,_,_,_=>none
 |k+1,x8,x9,Z,L,D,O,G,I,J,U,X,Y=>if 0<=Z then(if Z<(D.length:Int)then((recoupref22_in.f k (rd_L5 D Z) G I J).bind fun aa=>(recoupref22_Once.l2 k x8 x9 Z aa ([]:List (S61)) (!aa) 0 L D O G I J U X Y))else(none))else(none)
def recoupref22_Once.l2:Nat->Int->Int->Int->Bool->List (S61)->Bool->Int->List Int->List (List (S61))->List Int->Int->Int->Int->Int->List Int->List (List (S61))->Option (List Int×(List (List (S61)))×List Int×Bool×Int)
 |0,_,_,_,_,_,_,_,_,_,_,_,_,_,_,_,_=>none
 |k+1,x8,x9,L,ac,ab,ae,aa,O,D,U,G,J,X,Y,Z,I=>if 0<=L then(if L<(D.length:Int)then(if aa<((rd_L5 D L).length:Int)then(if 0<=aa then(if ac=true then(if((rd_T61 (rd_L5 D L) aa).f0)=G then(recoupref22_Once.j4 k x8 x9 L ac ab ae aa true O D U G J X Y Z I ((rd_T61 (rd_L5 D L) aa).f0) ((rd_T61 (rd_L5 D L) aa).f1))else(recoupref22_Once.j4 k x8 x9 L ac ab ae aa (((rd_T61 (rd_L5 D L) aa).f0)==J) O D U G J X Y Z I ((rd_T61 (rd_L5 D L) aa).f0) ((rd_T61 (rd_L5 D L) aa).f1)))else(recoupref22_Once.j4 k x8 x9 L ac ab ae aa false O D U G J X Y Z I ((rd_T61 (rd_L5 D L) aa).f0) ((rd_T61 (rd_L5 D L) aa).f1)))else(none))else(if ae=true then(if I.length<5864062014805 then(recoupref22_Once.l1 k x8 x9 (wrap64 (L+1)) O D U G J X Y Z (I++ [ab]))else(none))else((recoupref22_by.f k (rd_L5 D L) G).bind fun af=>(if ab.length<8796093022208 then(if I.length<5864062014805 then(recoupref22_Once.l1 k x8 x9 (wrap64 (L+1)) O D U G J X Y Z (I++ [(ab++ [(⟨x9,af⟩:S61)])]))else(none))else(none)))))else(none))else(none)
def recoupref22_Once.j4:Nat->Int->Int->Int->Bool->List (S61)->Bool->Int->Bool->List Int->List (List (S61))->List Int->Int->Int->Int->Int->List Int->List (List (S61))->Int->Int->Option (List Int×(List (List (S61)))×List Int×Bool×Int)
 |0,_,_,_,_,_,_,_,_,_,_,_,_,_,_,_,_,_,_,_=>none
 |k+1,x8,x9,ab,ae,ac,af,ag,al,J,D,L,G,O,U,X,Y,Z,I,aa=>if al=true then(recoupref22_Once.l2 k x8 x9 ab ae ac af (wrap64 (ag+1)) J D L G O U X Y Z)else(if I>=x9 then(if af=true then(if ac.length<8796093022208 then(recoupref22_Once.l2 k x8 x9 ab ae (ac++ [(⟨wrap64 (I+1),aa⟩:S61)]) af (wrap64 (ag+1)) J D L G O U X Y Z)else(none))else(if(wrap64 (I+1))>x9 then(if 0<=ab then(if ab<(D.length:Int)then((recoupref22_by.f k (rd_L5 D ab) G).bind fun aj=>(if ac.length<8796093022208 then((some (ac++ [(⟨x9,aj⟩:S61)]:List (S61))).bind fun ah=>(if ah.length<8796093022208 then(recoupref22_Once.l2 k x8 x9 ab ae (ah++ [(⟨wrap64 (I+1),aa⟩:S61)]) true (wrap64 (ag+1)) J D L G O U X Y Z)else(none)))else(none)))else(none))else(none))else(if ac.length<8796093022208 then(recoupref22_Once.l2 k x8 x9 ab ae (ac++ [(⟨wrap64 (I+1),aa⟩:S61)]) af (wrap64 (ag+1)) J D L G O U X Y Z)else(none))))else(if af=true then(if ac.length<8796093022208 then(recoupref22_Once.l2 k x8 x9 ab ae (ac++ [(⟨I,aa⟩:S61)]) af (wrap64 (ag+1)) J D L G O U X Y Z)else(none))else(if I>x9 then(if 0<=ab then(if ab<(D.length:Int)then((recoupref22_by.f k (rd_L5 D ab) G).bind fun ak=>(if ac.length<8796093022208 then((some (ac++ [(⟨x9,ak⟩:S61)]:List (S61))).bind fun ai=>(if ai.length<8796093022208 then(recoupref22_Once.l2 k x8 x9 ab ae (ai++ [(⟨I,aa⟩:S61)]) true (wrap64 (ag+1)) J D L G O U X Y Z)else(none)))else(none)))else(none))else(none))else(if ac.length<8796093022208 then(recoupref22_Once.l2 k x8 x9 ab ae (ac++ [(⟨I,aa⟩:S61)]) af (wrap64 (ag+1)) J D L G O U X Y Z)else(none)))))
def recoupref22_Once.l3:Nat->Int->Int->List Int->List (List (S61))->List Int->List Int->List (List (S61))->List Int->Option (List Int×(List (List (S61)))×List Int×Bool×Int)
 |0,_,_,_,_,_,_,_,_=>none
 |k+1,x9,U,L,O,D,I,J,G=>if U<(D.length:Int)then(if 0<=U then(if(rd D U)>=x9 then(if G.length<17592186044416 then(recoupref22_Once.l3 k x9 (wrap64 (U+1)) L O D I J (G++ [wrap64 ((rd D U)+1)]))else(none))else(if G.length<17592186044416 then(recoupref22_Once.l3 k x9 (wrap64 (U+1)) L O D I J (G++ [rd D U]))else(none)))else(none))else(some (I,J,G,true,0))
end
def recoupref22_Once.f(k:Nat)(I:List Int)(J:List (List (S61)))(L:List Int):Option (List Int×(List (List (S61)))×List Int×Bool×Int):=(recoupref22_Best.f k I J L).bind fun D=>(if D.2.2.2.2.2=0 then(if D.2.2.2.2.1=true then(recoupref22_Once.l0 k 0 I J L D.1 D.2.1 D.2.2.1 D.2.2.2.1)else((recoupref21_Copy.f k I J L).bind fun G=>(some (G.1,G.2.1,G.2.2,false,0))))else(some (([]:List Int),([]:List (List (S61))),([]:List Int),false,D.2.2.2.2.2)))
def recoupref22_Once.T7:Bool×List (List Nat×List Nat):=(true,[([],[]),([0],[0]),([],[]),([1,2],[1,2]),([3],[3]),([],[]),([5],[5]),([],[]),([7],[7]),([],[]),([9],[9]),([4,6,8,10],[4,6,8,10]),([11],[11])])
def recoupref22_Once.B7:List Nat:= [0,1,0,7,15,0,32,0,128,0,512,2047,4095]
theorem recoupref22_Once.tab7:rtab .any (opsOf Try.f17 7)=recoupref22_Once.T7:=by kernel_rfl
theorem recoupref22_Once.bits7:waitsOk recoupref22_Once.T7.2 recoupref22_Once.B7=true:=by kernel_rfl
def recoupref22_Once.T16:Bool×List (List Nat×List Nat):=(true,[([],[]),([0],[0]),([],[]),([1,2],[1,2]),([3],[3]),([],[]),([5],[5]),([],[]),([7],[7]),([],[]),([9],[9]),([4,6,8,10],[4,6,8,10]),([11,11,0,1,2,3,4,5,6,7,8,9,10,11],[11])])
def recoupref22_Once.B16:List Nat:= [0,1,0,7,15,0,32,0,128,0,512,2047,4095]
theorem recoupref22_Once.tab16:rtab .any (opsOf Try.f17 16)=recoupref22_Once.T16:=by kernel_rfl
theorem recoupref22_Once.bits16:waitsOk recoupref22_Once.T16.2 recoupref22_Once.B16=true:=by kernel_rfl
def recoupref22_Once.T27:Bool×List (List Nat×List Nat):=(true,[([],[]),([],[]),([],[]),([2],[2]),([],[]),([3,4],[3,4]),([5],[5]),([],[]),([7],[7]),([6,8],[6,8]),([1,9],[1,9]),([10],[10]),([0,11,9],[0,11]),([12,12,0,1,2,3,4,5,6,7,8,9,10,11,12],[0,12])])
def recoupref22_Once.B27:List Nat:= [0,0,0,4,0,28,60,0,128,508,1022,2046,4095,8191]
theorem recoupref22_Once.tab27:rtab .any (opsOf Try.f17 27)=recoupref22_Once.T27:=by kernel_rfl
theorem recoupref22_Once.bits27:waitsOk recoupref22_Once.T27.2 recoupref22_Once.B27=true:=by kernel_rfl
def recoupref22_Once.T31:Bool×List (List Nat×List Nat):=(true,[([],[]),([],[]),([],[]),([2],[2]),([],[]),([3,4],[3,4]),([5],[5]),([],[]),([7],[7]),([6,8],[6,8]),([1,9],[1,9]),([10],[10]),([0,11,9],[0,11]),([12,12,0,1,2,3,4,5,6,7,8,9,10,11,12],[0,12])])
def recoupref22_Once.B31:List Nat:= [0,0,0,4,0,28,60,0,128,508,1022,2046,4095,8191]
theorem recoupref22_Once.tab31:rtab .any (opsOf Try.f17 31)=recoupref22_Once.T31:=by kernel_rfl
theorem recoupref22_Once.bits31:waitsOk recoupref22_Once.T31.2 recoupref22_Once.B31=true:=by kernel_rfl
theorem recoupref22_Once.calls(k:Nat)(a6:Option Addr)(a7:Nat)(Y:List Int)(b8:Option Addr)(a8:Nat)(I:List (List (S61)))(bc:Option Addr)(a9:Nat)(aa:List Int)(r1:List Int)(r2:List (List (S61)))(r3:List Int)(r4:Bool)(r5:Int)(w:World)(n2:Kd.C (Kd.int .i64) w a6 Y.length Y)(my:Y.length<=a7)(n3:Kd.C (Kd.slice 61 k61) w b8 I.length I)(mz:I.length<=a8)(n4:Kd.C (Kd.int .i64) w bc aa.length aa)(m0:aa.length<=a9)(h:recoupref22_Once.f k Y I aa=some (r1,r2,r3,r4,r5)):
 Calls Try.prog 17 #[.agg #[.slice a6 Y.length a7,.slice b8 I.length a8,.slice bc aa.length a9]] w fun e w'=> ∃v0_ v1_ v2_:Value,e= .returned (.tuple #[.agg #[v0_,v1_,v2_],.bool r4,.int .i64 r5])/\Kd.R (Kd.int .i64) 3 w' w.heap.size (fun k_=>some k_≠(v2_:Value).ownBlock) v0_ r1/\Kd.S (Kd.slice 61 k61) 59 w' w.heap.size (fun _=>True) v1_ r2/\Kd.R (Kd.int .i64) 3 w' w.heap.size (fun k_=>some k_≠(v0_:Value).ownBlock) v2_ r3/\Below w.heap.size w w':=by
 have Ci:=Try.underlying25;have Cj:=Try.underlying31;have Ck:=Try.underlying61;have d8:=aK n2;have f6:=aK my;clear n2 my;have bs:=aK n3;have f7:=aK mz;clear n3 mz;have d1:=aK n4;have f8:=aK m0;clear n4 m0;have HB:=aK (Below.refl w.heap.size w);have H:((recoupref22_Best.f k Y I aa).bind fun ct=>(if ct.2.2.2.2.2=0 then(if ct.2.2.2.2.1=true then(recoupref22_Once.l0 k 0 Y I aa ct.1 ct.2.1 ct.2.2.1 ct.2.2.2.1)else((recoupref21_Copy.f k Y I aa).bind fun i3=>(some (i3.1,i3.2.1,i3.2.2,false,0))))else(some (([]:List Int),([]:List (List (S61))),([]:List Int),false,ct.2.2.2.2.2))))=some (r1,r2,r3,r4,r5):=h;clear h;obtain⟨⟨ac,ag,ai,ao,o1,d3⟩,A2,H⟩:=bindO H
 (try dsimp only at H)
 by_cases c3:d3=0
 case neg=>
  rw[if_neg c3]at H
  have c3b0:(d3==0)=false:=beq_eq_false_iff_ne.mpr c3;have c3b1:(d3 !=0)=true:=bne_iff_ne.mpr c3;simp only[Option.some.injEq,Prod.mk.injEq]at H;obtain⟨rfl,rfl,rfl,rfl,rfl⟩:=H
  go_enter Try.func17,Try.ntmps17
  go_wp2_with (first|((with_reducible refine gD 1 rfl ?_);refine bE 1 #[.slice a6 Y.length a7,.slice b8 I.length a8,.slice bc aa.length a9] 25 ?_;intro am hg Dq hbox hb;have G:=aK (hbox);have l6:=hbS HB hg;have lz:=hbS HB hg;replace HB:=hbB HB hb;clear hb hbox hg)|((with_reducible refine gD 2 rfl ?_);refine bE 2 #[.slice none 0 0,.slice none 0 0,.slice none 0 0] 25 ?_;intro ak hg Dr hbox hb;have O:=aK (hbox);have l7:=hbS HB hg;have l4:=hbS HB hg;replace HB:=hbB HB hb;have a4:=neL G hg;have a5:=neG G hg;replace G:=bkB G hb;clear hb hbox hg;have xq:=a4.out;have zc:=a5.out;obtain⟨sg,sh,si,uj,uk,ul⟩:=cell3 G)|((with_reducible refine gC 11 rfl ?_);refine cG (some 21) Try.func11 #[.agg #[.slice a6 Y.length a7,.slice b8 I.length a8,.slice bc aa.length a9]] ?_;(with_reducible refine(recoupref22_Best.calls k _ _ Y _ _ I _ _ aa ac ag ai ao o1 d3 _ ?side1 ?side2 ?side3 ?side4 ?side5 ?side6 A2.out).mono ?_);(case side1=>exact kcB d8 HB);(case side2=>exact f6.out);(case side3=>exact kcB bs HB);(case side4=>exact f7.out);(case side5=>exact kcB d1 HB);(case side6=>exact f8.out);rintro e Ds ⟨rfl,hb⟩;refine⟨_,rfl,?_⟩;replace G:=bkB G hb;replace O:=bkB O hb;replace HB:=hbB HB hb;(try clear hb))|((with_reducible refine gD 5 rfl ?_);refine bE 5 #[.int .i64 0,.int .i64 0,.int .u8 0,.int .i64 0] 31 ?_;intro aj hg Dt hbox hb;have J:=aK (hbox);have l8:=hbS HB hg;have l5:=hbS HB hg;replace HB:=hbB HB hb;have ah:=neL G hg;have ax:=neG G hg;replace G:=bkB G hb;have al:=neL O hg;have bg:=neG O hg;replace O:=bkB O hb;clear hb hbox hg;have xr:=ax.out;have zd:=ah.out;have xt:=bg.out;have ze:=al.out;obtain⟨sj,sk,sl,sm,um,un,uo,uq⟩:=cell4 J;obtain⟨sn,so,sp,ur,us,ut⟩:=cell3 O))
  refine bodyPost_ret (results_ctt rfl _ _ ak 25 #[.slice none 0 0,.slice none 0 0,.slice none 0 0] (0,0) _ rfl (by refine bkR ?_;refine blk_put (cs:= #[.slice none 0 0,.slice none 0 0,.slice none 0 0]) ?_ 2 _ rfl;refine bkR ?_;refine blk_put (cs:= #[.slice none 0 0,.slice none 0 0,.slice none 0 0]) ?_ 1 _ rfl;refine bkR ?_;refine blk_put (cs:= #[.slice none 0 0,.slice none 0 0,.slice none 0 0]) ?_ 0 _ rfl;refine bkR ?_;refine blk_far ?_ al.out _;refine bkR ?_;refine blk_far ?_ al.out _;refine bkR ?_;refine blk_far ?_ al.out _;refine bkR ?_;refine blk_far ?_ al.out _;refine bkR ?_;exact O.out) Try.underlying25 rfl zad) rfl ?_;exact⟨_,_,_,rfE,nilE,by first|exact Kd.S_nil _ _ _ _ _|exact Kd.N_nil _ _ _ _ _|exact Kd.V_nil _ _ _ _ _|exact Kd.Q_nil _ _ _ _ _|exact Kd.R_nil _ _ _ _ _,nilE,hbA HB.out⟩
 rw[if_pos c3]at H
 have c3b0:(d3==0)=true:=beq_iff_eq.mpr c3;have c3b1:(d3 !=0)=false:=bne_eq_false_iff_eq.mpr c3;clear c3;by_cases c4:o1=true
 case neg=>
  replace c4:=Bool.eq_false_iff.mpr c4;subst c4;rw[if_neg nofT]at H
  obtain⟨⟨fo,fx,il⟩,uy,H⟩:=bindO H
  (try dsimp only at H)
  simp only[Option.some.injEq,Prod.mk.injEq]at H;obtain⟨rfl,rfl,rfl,rfl,rfl⟩:=H
  go_enter Try.func17,Try.ntmps17
  go_wp2_with (first|((with_reducible refine gD 1 rfl ?_);refine bE 1 #[.slice a6 Y.length a7,.slice b8 I.length a8,.slice bc aa.length a9] 25 ?_;intro am hg Dl hbox hb;have G:=aK (hbox);have l6:=hbS HB hg;have lz:=hbS HB hg;replace HB:=hbB HB hb;clear hb hbox hg)|((with_reducible refine gD 2 rfl ?_);refine bE 2 #[.slice none 0 0,.slice none 0 0,.slice none 0 0] 25 ?_;intro ak hg Dm hbox hb;have O:=aK (hbox);have l7:=hbS HB hg;have l4:=hbS HB hg;replace HB:=hbB HB hb;have a4:=neL G hg;have a5:=neG G hg;replace G:=bkB G hb;clear hb hbox hg;have xn:=a4.out;have y9:=a5.out;obtain⟨ry,rz,r0,t6,t7,t8⟩:=cell3 G)|((with_reducible refine gC 11 rfl ?_);refine cG (some 21) Try.func11 #[.agg #[.slice a6 Y.length a7,.slice b8 I.length a8,.slice bc aa.length a9]] ?_;(with_reducible refine(recoupref22_Best.calls k _ _ Y _ _ I _ _ aa ac ag ai ao false d3 _ ?side1 ?side2 ?side3 ?side4 ?side5 ?side6 A2.out).mono ?_);(case side1=>exact kcB d8 HB);(case side2=>exact f6.out);(case side3=>exact kcB bs HB);(case side4=>exact f7.out);(case side5=>exact kcB d1 HB);(case side6=>exact f8.out);rintro e Dn ⟨rfl,hb⟩;refine⟨_,rfl,?_⟩;replace G:=bkB G hb;replace O:=bkB O hb;replace HB:=hbB HB hb;(try clear hb))|((with_reducible refine gD 5 rfl ?_);refine bE 5 #[.int .i64 0,.int .i64 0,.int .u8 0,.int .i64 0] 31 ?_;intro aj hg Do hbox hb;have J:=aK (hbox);have l8:=hbS HB hg;have l5:=hbS HB hg;replace HB:=hbB HB hb;have ah:=neL G hg;have ax:=neG G hg;replace G:=bkB G hb;have al:=neL O hg;have bg:=neG O hg;replace O:=bkB O hb;clear hb hbox hg;have xo:=ax.out;have za:=ah.out;have xp:=bg.out;have zb:=al.out;obtain⟨r6,r7,r8,r9,t9,ua,ub,uc⟩:=cell4 J;obtain⟨sa,sb,sc,ud,ue,uf⟩:=cell3 G)|((with_reducible refine gC 21 rfl ?_);refine cG (some 32) Try.func21 #[.agg #[.slice a6 Y.length a7,.slice b8 I.length a8,.slice bc aa.length a9]] ?_;(with_reducible refine(recoupref21_Copy.calls k _ _ Y _ _ I _ _ aa fo fx il _ ?side1 ?side2 ?side3 ?side4 ?side5 ?side6 uy.out).mono ?_);(case side1=>exact Kd.C_below d8.out (hbA HB.out));(case side2=>exact f6.out);(case side3=>exact Kd.C_below bs.out (hbA HB.out));(case side4=>exact f7.out);(case side5=>exact Kd.C_below d1.out (hbA HB.out));(case side6=>exact f8.out);rintro e Dp ⟨Cn,Co,Cp,rfl,vj,vk,vl,hb⟩;refine⟨_,rfl,?_⟩;have mg:=aK (Kd.R_lower vj (below_size (hbA HB.out)));have mh:=aK (Kd.S_lower vk (below_size (hbA HB.out)));have mi:=aK (Kd.R_lower vl (below_size (hbA HB.out)));replace G:=aK (blk_below (g:=am) (o:= .cells #[.slice a6 Y.length a7,.slice b8 I.length a8,.slice bc aa.length a9] 25 (0,0)) (by refine bkR ?_;refine blk_far ?_ ah.out _;refine bkR ?_;refine blk_far ?_ ah.out _;refine bkR ?_;refine blk_far ?_ ah.out _;refine bkR ?_;refine blk_far ?_ ah.out _;refine bkR ?_;exact G.out) hb);replace O:=aK (blk_below (g:=ak) (o:= .cells #[.slice none 0 0,.slice none 0 0,.slice none 0 0] 25 (0,0)) (by refine bkR ?_;refine blk_far ?_ al.out _;refine bkR ?_;refine blk_far ?_ al.out _;refine bkR ?_;refine blk_far ?_ al.out _;refine bkR ?_;refine blk_far ?_ al.out _;refine bkR ?_;exact O.out) hb);replace J:=aK (blk_below (g:=aj) (o:= .cells #[.int .i64 ac,.int .i64 ag,.int .u8 ai,.int .i64 ao] 31 (0,0)) (by refine bkR ?_;refine blk_put (cs:= #[.int .i64 ac,.int .i64 ag,.int .u8 ai,.int .i64 0]) ?_ 3 _ rfl;refine bkR ?_;refine blk_put (cs:= #[.int .i64 ac,.int .i64 ag,.int .u8 0,.int .i64 0]) ?_ 2 _ rfl;refine bkR ?_;refine blk_put (cs:= #[.int .i64 ac,.int .i64 0,.int .u8 0,.int .i64 0]) ?_ 1 _ rfl;refine bkR ?_;refine blk_put (cs:= #[.int .i64 0,.int .i64 0,.int .u8 0,.int .i64 0]) ?_ 0 _ rfl;refine bkR ?_;exact J.out) hb);replace HB:=hbB HB hb;(try clear hb);(try clear vj);(try clear vk);(try clear vl);obtain⟨d0,d2,qm⟩:=Kd.R_slice mg.out;subst qm;obtain⟨sd,se,sf,ug,uh,ui⟩:=cell3 O;obtain⟨d5,ec,qn⟩:=Kd.S_slice mh.out;subst qn;obtain⟨f5,gl,qo⟩:=Kd.R_slice mi.out;subst qo))
  refine bodyPost_ret (results_ctt rfl _ _ ak 25 #[.slice d0 fo.length d2,.slice d5 fx.length ec,.slice f5 il.length gl] (0,0) _ rfl (by refine bkR ?_;refine blk_put (cs:= #[.slice d0 fo.length d2,.slice d5 fx.length ec,.slice none 0 0]) ?_ 2 _ rfl;refine bkR ?_;refine blk_put (cs:= #[.slice d0 fo.length d2,.slice none 0 0,.slice none 0 0]) ?_ 1 _ rfl;refine bkR ?_;refine blk_put (cs:= #[.slice none 0 0,.slice none 0 0,.slice none 0 0]) ?_ 0 _ rfl;refine bkR ?_;exact O.out) Try.underlying25 rfl zad) rfl ?_;exact⟨_,_,_,rfE,by(with_reducible repeat(first|apply Kd.R_alloc|apply Kd.R_drewN|apply Kd.R_drew));exact Kd.R_mono (Kd.R_far (p:=⟨ak,2,none⟩) (Kd.R_far (p:=⟨ak,1,none⟩) (Kd.R_far (p:=⟨ak,0,none⟩) (Kd.R_types mg.out O.out zab) (fun _ hk=>hk.2) (.slice d0 fo.length d2)) (fun _ hk=>hk.2) (.slice d5 fx.length ec)) (fun _ hk=>hk.2) (.slice f5 il.length gl)) (fun _ hk=>hk.1),by(with_reducible repeat(first|apply Kd.S_alloc|apply Kd.S_drewN|apply Kd.S_drew));exact Kd.S_mono (Kd.S_far (p:=⟨ak,2,none⟩) (Kd.S_far (p:=⟨ak,1,none⟩) (Kd.S_far (p:=⟨ak,0,none⟩) (Kd.S_types mh.out O.out zab) (fun _ hk=>hk.2) (.slice d0 fo.length d2)) (fun _ hk=>hk.2) (.slice d5 fx.length ec)) (fun _ hk=>hk.2) (.slice f5 il.length gl)) (fun _ hk=>trivial),by(with_reducible repeat(first|apply Kd.R_alloc|apply Kd.R_drewN|apply Kd.R_drew));exact Kd.R_mono (Kd.R_far (p:=⟨ak,2,none⟩) (Kd.R_far (p:=⟨ak,1,none⟩) (Kd.R_far (p:=⟨ak,0,none⟩) (Kd.R_types mi.out O.out zab) (fun _ hk=>hk.2) (.slice d0 fo.length d2)) (fun _ hk=>hk.2) (.slice d5 fx.length ec)) (fun _ hk=>hk.2) (.slice f5 il.length gl)) (fun _ hk=>hk.1),hbA HB.out⟩
 subst c4;rw[if_pos rfl]at H
 have H':=aK H;clear H
 go_enter Try.func17,Try.ntmps17
 go_wp2_with (first|((with_reducible refine gD 1 rfl ?_);refine bE 1 #[.slice a6 Y.length a7,.slice b8 I.length a8,.slice bc aa.length a9] 25 ?_;intro am hg w5 hbox hb;have G:=aK (hbox);have l6:=hbS HB hg;have lz:=hbS HB hg;replace HB:=hbB HB hb;clear hb hbox hg)|((with_reducible refine gD 2 rfl ?_);refine bE 2 #[.slice none 0 0,.slice none 0 0,.slice none 0 0] 25 ?_;intro ak hg w6 hbox hb;have O:=aK (hbox);have l7:=hbS HB hg;have l4:=hbS HB hg;replace HB:=hbB HB hb;have a4:=neL G hg;have a5:=neG G hg;replace G:=bkB G hb;clear hb hbox hg;have Cg:=a4.out;have Ch:=a5.out;obtain⟨df,dg,dh,dt,du,dv⟩:=cell3 G)|((with_reducible refine gC 11 rfl ?_);refine cG (some 21) Try.func11 #[.agg #[.slice a6 Y.length a7,.slice b8 I.length a8,.slice bc aa.length a9]] ?_;(with_reducible refine(recoupref22_Best.calls k _ _ Y _ _ I _ _ aa ac ag ai ao true d3 _ ?side1 ?side2 ?side3 ?side4 ?side5 ?side6 A2.out).mono ?_);(case side1=>exact kcB d8 HB);(case side2=>exact f6.out);(case side3=>exact kcB bs HB);(case side4=>exact f7.out);(case side5=>exact kcB d1 HB);(case side6=>exact f8.out);rintro e w9 ⟨rfl,hb⟩;refine⟨_,rfl,?_⟩;replace G:=bkB G hb;replace O:=bkB O hb;replace HB:=hbB HB hb;(try clear hb))|((with_reducible refine gD 5 rfl ?_);refine bE 5 #[.int .i64 0,.int .i64 0,.int .u8 0,.int .i64 0] 31 ?_;intro aj hg Ek hbox hb;have J:=aK (hbox);have l8:=hbS HB hg;have l5:=hbS HB hg;replace HB:=hbB HB hb;have ah:=neL G hg;have ax:=neG G hg;replace G:=bkB G hb;have al:=neL O hg;have bg:=neG O hg;replace O:=bkB O hb;clear hb hbox hg;have zm:=ax.out;have Aq:=ah.out;have zn:=bg.out;have Ar:=al.out;obtain⟨cd,ce,cf,cg,ch,ci,cj,ck⟩:=cell4 J))
 go_loopg [8] k (fun kq v8 w'=> ∃(Z:Int),v8= .int .i64 Z/\Aside0 (recoupref22_Once.l0 kq Z Y I aa ac ag ai ao=some (r1,r2,r3,r4,r5))/\Aside0 (kq<=k)/\Aside0 (w'.heap[am]? =some (.cells #[(.slice a6 Y.length a7),(.slice b8 I.length a8),(.slice bc aa.length a9)] 25 (0,0)))/\Aside0 (w'.heap[ak]? =some (.cells #[(.slice none 0 0),(.slice none 0 0),(.slice none 0 0)] 25 (0,0)))/\Aside0 (w'.heap[aj]? =some (.cells #[.int .i64 ac,.int .i64 ag,.int .u8 ai,.int .i64 ao] 31 (0,0)))/\Aside0 (Below w.heap.size w w'))
 case atStart=>exact⟨(0),rsE,H',⟨Nat.le_refl _⟩,⟨by refine bkR ?_;refine blk_far ?_ ah.out _;refine bkR ?_;refine blk_far ?_ ah.out _;refine bkR ?_;refine blk_far ?_ ah.out _;refine bkR ?_;refine blk_far ?_ ah.out _;refine bkR ?_;exact G.out⟩,⟨by refine bkR ?_;refine blk_far ?_ al.out _;refine bkR ?_;refine blk_far ?_ al.out _;refine bkR ?_;refine blk_far ?_ al.out _;refine bkR ?_;refine blk_far ?_ al.out _;refine bkR ?_;exact O.out⟩,⟨by refine bkR ?_;refine blk_put (cs:= #[.int .i64 ac,.int .i64 ag,.int .u8 ai,.int .i64 0]) ?_ 3 _ rfl;refine bkR ?_;refine blk_put (cs:= #[.int .i64 ac,.int .i64 ag,.int .u8 0,.int .i64 0]) ?_ 2 _ rfl;refine bkR ?_;refine blk_put (cs:= #[.int .i64 ac,.int .i64 0,.int .u8 0,.int .i64 0]) ?_ 1 _ rfl;refine bkR ?_;refine blk_put (cs:= #[.int .i64 0,.int .i64 0,.int .u8 0,.int .i64 0]) ?_ 0 _ rfl;refine bkR ?_;exact J.out⟩,⟨hbA HB.out⟩⟩
 case round=>
  clear H'
  (try clear c1);(try clear p2);(try clear c3);(try clear c3b0);(try clear c3b1);(try clear c4);(try clear c7);(try clear oq);(try clear os);(try clear cd ce cf cg ch ci cj ck);(try clear df dg dh dt du dv)
  obtain⟨Z,rfl,HA,br,G,O,J,HB⟩:=hrel
  cases gk with
  |zero=>exact absurd HA.out (by simp[recoupref22_Once.l0])
  |succ k1=>
   have H:=HA.out;clear HA;simp only[recoupref22_Once.l0]at H;by_cases gc:0<=Z
   case neg=>rw[if_neg gc]at H;exact absurd H zac
   rw[if_pos gc]at H
   have c14b0:decide (0<=Z)=true:=decide_eq_true gc;clear gc;by_cases ge:Z<(I.length:Int)
   case neg=>rw[if_neg ge]at H;exact absurd H zac
   rw[if_pos ge]at H
   have c15b0:decide (Z<(I.length:Int))=true:=decide_eq_true ge;clear ge;obtain⟨vp,uw,H⟩:=bindO H
   (try dsimp only at H)
   by_cases gf:vp=true
   case neg=>
    replace gf:=Bool.eq_false_iff.mpr gf;subst gf;rw[if_neg nofT]at H
    have H':=aK H;clear H
    try go_wp2
    replace G:=aK (blk_drew G.out);replace O:=aK (blk_drew O.out);replace J:=aK (blk_drew J.out);replace HB:=aK (below_drew1 HB.out);have cp:0<=(Z:Int):=of_decide_eq_true asE;have cq:Z<(I.length:Int):=of_decide_eq_true asE;obtain⟨an,cu,cv,mw,bd,cm,cl⟩:=at_L5 bs.out Z cp cq;have bt:=bd
    cases mw
    replace bd:=(HB.out.cell (World.block_lt_of_cell? w _ bd)).trans bd;have cb:=aK cl;have d6:=aK cm;clear cl cm;replace cp:=eq_true cp;replace cq:=eq_true cq;refine start_ (n:=13) (S:=fun w'=>w'.cell? ⟨am,0,none⟩=some (.slice a6 Y.length a7)/\w'.cell? ⟨am,1,none⟩=some (.slice (some an) I.length a8)/\w'.cell? ⟨am,2,none⟩=some (.slice bc aa.length a9)/\w'.cell? ⟨aj,0,none⟩=some (.int .i64 ac)/\w'.cell? ⟨aj,1,none⟩=some (.int .i64 ag)/\w'.cell? ⟨aj,2,none⟩=some (.int .u8 ai)/\w'.cell? ⟨aj,3,none⟩=some (.int .i64 ao)/\w'.cell? (an.add (Z).toNat)=some (.slice cu (rd_L5 I Z).length cv)) (ds:= []) (.replicate 13 false) zad rfl rfl (z3k G (z3k J ⟨(blk_cell J.out 3).trans rfl,((HB.out.cell (World.block_lt_of_cell? w _ bt)).trans bt)⟩)) (fun hHeld=>?_);refine with_tabW recoupref22_Once.tab7 recoupref22_Once.bits7 (fun HT_ HW_=>?_);generalize wr.drew=Dk at G O J HB cb bd hHeld⊢;refine pu 0 (some 33) (mB 13 1) HT_ ?_;refine pu 2 (some 35) (mB 13 5) HT_ ?_;refine pu 5 (some 38) (mB 13 37) HT_ ?_;refine pu 7 (some 40) (mB 13 165) HT_ ?_;refine pu 9 (some 42) (mB 13 677) HT_ ?_;refine tk8 1 (some 34) (mB 13 679) HT_ HW_ hHeld ?_;refine pu 3 (some 36) (mB 13 687) HT_ ?_;refine tk8 4 (some 37) (mB 13 703) HT_ HW_ hHeld ?_;refine tk8 6 (some 39) (mB 13 767) HT_ HW_ hHeld ?_;refine tk8 8 (some 41) (mB 13 1023) HT_ HW_ hHeld ?_;refine tk8 10 (some 43) (mB 13 2047) HT_ HW_ hHeld ?_;refine zoh 11 (some 44) (mB 13 4095) HT_ fun K hK=>?_;refine goes_ Try.func28 zad rfl #[.slice cu (rd_L5 I Z).length cv,.int .i64 ac,.int .i64 ag,.int .u8 ai] zae rfl rfl (by(try simp only[List.map_toArray,List.map_cons,List.map_nil]);first|done|rfl|(simp only[List.length_drop,List.length_take];rfl)) ?_;with_reducible refine(recoupref22_in.calls k1 _ _ (rd_L5 I Z) ac ag ai false _ ?side1 ?side2 uw.out).mono ?_
    (case side1=>exact kcB cb HB)
    (case side2=>exact d6.out)
    rintro e w' ⟨rfl,⟨nd,rfl⟩⟩;refine⟨_,rfl,?_⟩;refine hK.out _ _ (z3k G (z3k J ⟨(blk_cell J.out 3).trans rfl,((HB.out.cell (World.block_lt_of_cell? w _ bt)).trans bt)⟩)) (fun hHeld=>?_);clear hK K;refine znm (some 44) ?_;refine pu 12 (some 45) (mB 13 8191) HT_ ?_;refine done_ (done_of HT_.out zad) ?_
    try go_wp2
    go_roundg k1
    case measure=>have:=br.out;omega
    case rel=>exact⟨(wrap64 (Z+1)),rsE,H',⟨by have:=br.out;omega⟩,⟨bkA G.out⟩,⟨bkA O.out⟩,⟨bkA J.out⟩,⟨hbA HB.out⟩⟩
   subst gf;rw[if_pos rfl]at H
   obtain⟨iq,e4⟩: ∃y_:List Int,y_=(([]:List Int)):=⟨_,rfl⟩
   replace H:(if iq.length+Y.length<17592186044416 then(recoupref22_Once.l1 k1 Z (wrap64 ((Y.length:Int)+Z)) 0 Y I aa ac ag ai ao (iq++Y) ([]:List (List (S61))))else(none))=some (r1,r2,r3,r4,r5):=zH e4 H
   have mq:=aK e4;clear e4;by_cases gg:iq.length+Y.length<17592186044416
   case neg=>rw[if_neg gg]at H;exact absurd H zac
   rw[if_pos gg]at H
   have pe:=aK gg;clear gg;obtain⟨af,e5⟩: ∃y_:List Int,y_=(iq++Y):=⟨_,rfl⟩
   replace H:(recoupref22_Once.l1 k1 Z (wrap64 ((Y.length:Int)+Z)) 0 Y I aa ac ag ai ao af ([]:List (List (S61))))=some (r1,r2,r3,r4,r5):=zH e5 H
   have ph:=aK e5;clear e5;have H':=aK H;clear H
   try go_wp2
   replace G:=aK (blk_drew G.out);replace O:=aK (blk_drew O.out);replace J:=aK (blk_drew J.out);replace HB:=aK (below_drew1 HB.out);have cp:0<=(Z:Int):=of_decide_eq_true asE;have cq:Z<(I.length:Int):=of_decide_eq_true asE;obtain⟨an,cu,cv,mw,bd,cm,cl⟩:=at_L5 bs.out Z cp cq;have bt:=bd
   cases mw
   replace bd:=(HB.out.cell (World.block_lt_of_cell? w _ bd)).trans bd;have cb:=aK cl;have d6:=aK cm;clear cl cm;replace cp:=eq_true cp;replace cq:=eq_true cq;refine start_ (n:=13) (S:=fun w'=>w'.cell? ⟨am,0,none⟩=some (.slice a6 Y.length a7)/\w'.cell? ⟨am,1,none⟩=some (.slice (some an) I.length a8)/\w'.cell? ⟨am,2,none⟩=some (.slice bc aa.length a9)/\w'.cell? ⟨aj,0,none⟩=some (.int .i64 ac)/\w'.cell? ⟨aj,1,none⟩=some (.int .i64 ag)/\w'.cell? ⟨aj,2,none⟩=some (.int .u8 ai)/\w'.cell? ⟨aj,3,none⟩=some (.int .i64 ao)/\w'.cell? (an.add (Z).toNat)=some (.slice cu (rd_L5 I Z).length cv)) (ds:= []) (.replicate 13 false) zad rfl rfl (z3k G (z3k J ⟨(blk_cell J.out 3).trans rfl,((HB.out.cell (World.block_lt_of_cell? w _ bt)).trans bt)⟩)) (fun hHeld=>?_);refine with_tabW recoupref22_Once.tab7 recoupref22_Once.bits7 (fun HT_ HW_=>?_);generalize wr.drew=El at G O J HB cb bd hHeld⊢;refine pu 0 (some 33) (mB 13 1) HT_ ?_;refine pu 2 (some 35) (mB 13 5) HT_ ?_;refine pu 5 (some 38) (mB 13 37) HT_ ?_;refine pu 7 (some 40) (mB 13 165) HT_ ?_;refine pu 9 (some 42) (mB 13 677) HT_ ?_;refine tk8 1 (some 34) (mB 13 679) HT_ HW_ hHeld ?_;refine pu 3 (some 36) (mB 13 687) HT_ ?_;refine tk8 4 (some 37) (mB 13 703) HT_ HW_ hHeld ?_;refine tk8 6 (some 39) (mB 13 767) HT_ HW_ hHeld ?_;refine tk8 8 (some 41) (mB 13 1023) HT_ HW_ hHeld ?_;refine tk8 10 (some 43) (mB 13 2047) HT_ HW_ hHeld ?_;refine zoh 11 (some 44) (mB 13 4095) HT_ fun K hK=>?_;refine goes_ Try.func28 zad rfl #[.slice cu (rd_L5 I Z).length cv,.int .i64 ac,.int .i64 ag,.int .u8 ai] zae rfl rfl (by(try simp only[List.map_toArray,List.map_cons,List.map_nil]);first|done|rfl|(simp only[List.length_drop,List.length_take];rfl)) ?_;with_reducible refine(recoupref22_in.calls k1 _ _ (rd_L5 I Z) ac ag ai true _ ?side1 ?side2 uw.out).mono ?_
   (case side1=>exact kcB cb HB)
   (case side2=>exact d6.out)
   rintro e w' ⟨rfl,⟨nd,rfl⟩⟩;refine⟨_,rfl,?_⟩;refine hK.out _ _ (z3k G (z3k J ⟨(blk_cell J.out 3).trans rfl,((HB.out.cell (World.block_lt_of_cell? w _ bt)).trans bt)⟩)) (fun hHeld=>?_);clear hK K;refine znm (some 44) ?_;refine pu 12 (some 45) (mB 13 8191) HT_ ?_;refine done_ (done_of HT_.out zad) ?_;have zo:=a4.out;have As:=a5.out;have zp:=ah.out;have At:=ax.out;obtain⟨cw,cx,cy,di,dj,dk⟩:=cell3 G
   try go_wp2_with (first|((with_reducible refine gate_dst (N:=53) rfl ?_);refine Kd.R_lit (Kd.int .i64) _ 3 ?hg (N:=53) ?hd (xs:=([]:List Int)) (inner:= []) (ok:=fun _=>True) (okp:=fun _=>True) ?hr ?hp (fun _ hk=>hk) trivial (Below.refl _ _) (Nat.le_refl _) zac ?_;(case hd=>rfl);(case hg=>rfl);(case hr=>first|(go_simp;done)|(go_simp;rfl));(case hp=>exact(Reps.none _ _));intro vt Em ii hb hg_ hnew_;clear hg_ hnew_;(first|rw[<-mq.out]at ii|(simp only[Int.reduceToNat]at ii;rw[<-mq.out]at ii));have d7:=aK (Kd.R_lower ii (below_size (hbA HB.out)));replace G:=bkB G hb;replace O:=bkB O hb;replace J:=bkB J hb;replace HB:=hbB HB hb;clear hb ii;obtain⟨cz,da,db,dl,dm,dn⟩:=cell3 G)|((with_reducible refine gate_builtin (b:= .append) (xs:= #[.tmp 53,.tmp 55]) rfl ?_);at_builtin;refine Kd.R_append_rows (Kd.int .i64) (w0:=w) w.heap.size rfl (.tmp 53) (.tmp 55) 22 3 (.int .i64 0) 8 rfl Try.underlying22 info3 rfl zab zaa vt iq Y _ _ _ (fun _=>True) (fun _=>False) rfl rfl ?aO ?aR (fun _ _ h=>h) (fun _ h=>h.elim) ?aF ?aB ?aS ?aL ?_;(case aR=>exact kcB d8 HB);(case aB=>exact(hbA HB.out));(case aF=>exact(fun _ _=>trivial));(case aO=>exact(kdA d7.out));(case aS=>exact(below_size (hbA HB.out)));(case aL=>have:=pe.out;omega);intro Cq En ho hb hg hat;rw[<-ph.out]at ho;have n0_:=aK (blk_grown (g:=am) (o:= .cells #[.slice a6 Y.length a7,.slice (some an) I.length a8,.slice bc aa.length a9] 25 (0,0)) (bkA G.out) hg (Kd.R_ne d7.out G.out zab));have n1_:=aK (blk_grown (g:=ak) (o:= .cells #[.slice none 0 0,.slice none 0 0,.slice none 0 0] 25 (0,0)) (bkA O.out) hg (Kd.R_ne d7.out O.out zab));have n2_:=aK (blk_grown (g:=aj) (o:= .cells #[.int .i64 ac,.int .i64 ag,.int .u8 ai,.int .i64 ao] 31 (0,0)) (bkA J.out) hg (Kd.R_ne d7.out J.out zab));have n3_:=aK (hb);have n4_:=aK (ho);clear G;clear O;clear J;clear HB;clear d7;have G:=n0_;have O:=n1_;have J:=n2_;have HB:=n3_;have f9:=n4_;clear n0_ n1_ n2_ n3_ n4_;clear ho hb hg hat;obtain⟨a0,a1,vg⟩:=Kd.R_slice f9.out;subst vg)|((with_reducible refine gD 10 rfl ?_);refine bE 10 #[.slice none 0 0,.slice none 0 0,.slice none 0 0] 25 ?_;intro az hg Eo hbox hb;replace f9:=kdB f9 hb;have U:=aK (hbox);have zi:=hbS HB hg;have zg:=hbS HB hg;replace HB:=hbB HB hb;have ap:=neL G hg;have bf:=neG G hg;replace G:=bkB G hb;have a3:=neL O hg;have bq:=neG O hg;replace O:=bkB O hb;have ay:=neL J hg;have bh:=neG J hg;replace J:=bkB J hb;clear hb hbox hg;have zq:=bf.out;have Au:=ap.out;have zr:=bq.out;have Av:=a3.out;have zt:=bh.out;have Aw:=ay.out;obtain⟨dc,dd,de,dp,dq,dr⟩:=cell3 U))
   go_loopg [11] k1 (fun kq Bv w'=> ∃(D:Int) (aw:List (List (S61))) (u372001:Value),Bv= .int .i64 D/\Aside0 (recoupref22_Once.l1 kq Z (wrap64 ((Y.length:Int)+Z)) D Y I aa ac ag ai ao af aw=some (r1,r2,r3,r4,r5))/\Aside0 (kq<=k1)/\Aside0 (Kd.R (Kd.int .i64) 3 w' w.heap.size (fun _=>True) (.slice a0 af.length a1) af)/\Aside0 (Kd.S (Kd.slice 61 k61) 59 w' w.heap.size (fun _=>True) u372001 aw)/\Aside0 (w'.heap[am]? =some (.cells #[(.slice a6 Y.length a7),(.slice (some an) I.length a8),(.slice bc aa.length a9)] 25 (0,0)))/\Aside0 (w'.heap[ak]? =some (.cells #[(.slice none 0 0),(.slice none 0 0),(.slice none 0 0)] 25 (0,0)))/\Aside0 (w'.heap[aj]? =some (.cells #[.int .i64 ac,.int .i64 ag,.int .u8 ai,.int .i64 ao] 31 (0,0)))/\Aside0 (w'.heap[az]? =some (.cells #[(.slice a0 af.length a1),u372001,(.slice none 0 0)] 25 (0,0)))/\Aside0 (Below w.heap.size w w'))
   case atStart=>exact⟨(0),(([]:List (List (S61)))),(.slice none 0 0),rsE,H',⟨Nat.le_refl _⟩,⟨by(with_reducible repeat(first|apply Kd.R_alloc|apply Kd.R_drewN|apply Kd.R_drew));exact Kd.R_mono (Kd.R_far (p:=⟨az,2,none⟩) (Kd.R_far (p:=⟨az,1,none⟩) (Kd.R_far (p:=⟨az,0,none⟩) (Kd.R_types f9.out U.out zab) (fun _ hk=>hk.2) (.slice a0 af.length a1)) (fun _ hk=>hk.2) (.slice none 0 0)) (fun _ hk=>hk.2) (.slice none 0 0)) (fun _ hk=>trivial)⟩,⟨by first|exact Kd.S_nil _ _ _ _ _|exact Kd.N_nil _ _ _ _ _|exact Kd.V_nil _ _ _ _ _|exact Kd.Q_nil _ _ _ _ _|exact Kd.R_nil _ _ _ _ _⟩,⟨by refine bkR ?_;refine blk_far ?_ ap.out _;refine bkR ?_;refine blk_far ?_ ap.out _;refine bkR ?_;refine blk_far ?_ ap.out _;refine bkR ?_;exact G.out⟩,⟨by refine bkR ?_;refine blk_far ?_ a3.out _;refine bkR ?_;refine blk_far ?_ a3.out _;refine bkR ?_;refine blk_far ?_ a3.out _;refine bkR ?_;exact O.out⟩,⟨by refine bkR ?_;refine blk_far ?_ ay.out _;refine bkR ?_;refine blk_far ?_ ay.out _;refine bkR ?_;refine blk_far ?_ ay.out _;refine bkR ?_;exact J.out⟩,⟨by refine bkR ?_;refine blk_put (cs:= #[.slice a0 af.length a1,.slice none 0 0,.slice none 0 0]) ?_ 2 _ rfl;refine bkR ?_;refine blk_put (cs:= #[.slice a0 af.length a1,.slice none 0 0,.slice none 0 0]) ?_ 1 _ rfl;refine bkR ?_;refine blk_put (cs:= #[.slice none 0 0,.slice none 0 0,.slice none 0 0]) ?_ 0 _ rfl;refine bkR ?_;exact U.out⟩,⟨hbA HB.out⟩⟩
   case round=>
    clear H'
    (try clear c1);(try clear c2);(try clear p2 p2);(try clear c3);(try clear c3b0);(try clear c3b1);(try clear p3);(try clear q3);(try clear ow);(try clear c4);(try clear p6);(try clear c7);(try clear oq);(try clear os);(try clear gc);(try clear c14b0);(try clear ge);(try clear c15b0);(try clear gf);(try clear gg);(try clear p7);(try clear p8);(try clear p9);(try clear qa);(try clear qb);(try clear qc);(try clear cd ce cf cg ch ci cj ck);(try clear cw cx cy di dj dk);(try clear cz da db dl dm dn);(try clear dc dd de dp dq dr);(try clear df dg dh dt du dv);(try clear bd);(try clear cp);(try clear cq)
    obtain⟨D,aw,u372001,rfl,HA,bu,HO_372000,HO_372001,G,O,J,U,HB⟩:=hrel
    cases gk with
    |zero=>exact absurd HA.out (by simp[recoupref22_Once.l1])
    |succ k2=>
     have H:=HA.out;clear HA;simp only[recoupref22_Once.l1]at H;by_cases fp:D<(I.length:Int)
     case neg=>
      rw[if_neg fp]at H
      have c33b0:decide (D<(I.length:Int))=false:=decide_eq_false fp;clear fp;have H':=aK H;clear H;have wy:=a4.out;have yp:=a5.out;have wz:=ah.out;have yq:=ax.out;have w3:=ap.out;have yr:=bf.out;obtain⟨kw,kx,ky,lt,lu,lv⟩:=cell3 G;go_wp2
      go_loopg [17] k2 (fun kq By w'=> ∃(ba:Int) (bb:List Int) (u372002:Value),By= .int .i64 ba/\Aside0 (recoupref22_Once.l3 kq (wrap64 ((Y.length:Int)+Z)) ba Y I aa af aw bb=some (r1,r2,r3,r4,r5))/\Aside0 (kq<=k2)/\Aside0 (Kd.R (Kd.int .i64) 3 w' w.heap.size (fun k_=>some k_≠(u372002:Value).ownBlock) (.slice a0 af.length a1) af)/\Aside0 (Kd.S (Kd.slice 61 k61) 59 w' w.heap.size (fun _=>True) u372001 aw)/\Aside0 (Kd.R (Kd.int .i64) 3 w' w.heap.size (fun k_=>some k_≠((.slice a0 af.length a1):Value).ownBlock) u372002 bb)/\Aside0 (w'.heap[am]? =some (.cells #[(.slice a6 Y.length a7),(.slice (some an) I.length a8),(.slice bc aa.length a9)] 25 (0,0)))/\Aside0 (w'.heap[ak]? =some (.cells #[(.slice none 0 0),(.slice none 0 0),(.slice none 0 0)] 25 (0,0)))/\Aside0 (w'.heap[aj]? =some (.cells #[.int .i64 ac,.int .i64 ag,.int .u8 ai,.int .i64 ao] 31 (0,0)))/\Aside0 (w'.heap[az]? =some (.cells #[(.slice a0 af.length a1),u372001,u372002] 25 (0,0)))/\Aside0 (Below w.heap.size w w'))
      case atStart=>exact⟨(0),(([]:List Int)),(.slice none 0 0),rsE,H',⟨Nat.le_refl _⟩,⟨by(with_reducible repeat(first|apply Kd.R_alloc|apply Kd.R_drewN|apply Kd.R_drew));exact Kd.R_mono HO_372000.out (fun _ hk=>zbp)⟩,⟨by(with_reducible repeat(first|apply Kd.S_alloc|apply Kd.S_drewN|apply Kd.S_drew));exact HO_372001.out⟩,⟨nilE⟩,⟨bkA G.out⟩,⟨bkA O.out⟩,⟨bkA J.out⟩,⟨bkA U.out⟩,⟨hbA HB.out⟩⟩
      case round=>
       clear H'
       (try clear c1);(try clear p2);(try clear c3);(try clear p3);(try clear q3);(try clear ow);(try clear c4);(try clear p4);(try clear q4);(try clear Eh);(try clear c5);(try clear c6);(try clear p6);(try clear Du);(try clear gc);(try clear ge);(try clear Dv);(try clear gf);(try clear gg);(try clear fp);(try clear c33b0);(try clear zl);(try clear p38);(try clear Bu);(try clear vn);(try clear qd);(try clear p41);(try clear Ej);(try clear Cm);(try clear i5);(try clear i6);(try clear j1);(try clear j3);(try clear g2);(try clear c60b0);(try clear j5);(try clear p64);(try clear ea);(try clear c134b0);(try clear gt);(try clear gu);(try clear gv);(try clear gw);(try clear gx);(try clear Bz);(try clear B0);(try clear B1);(try clear B2);(try clear gy);(try clear gz);(try clear B3);(try clear B4);(try clear B5);(try clear B6);(try clear B7);(try clear g0);(try clear g1);(try clear B8);(try clear B9);(try clear Ca);(try clear Cb);(try clear Cc);(try clear Cd);(try clear Ce);(try clear Cf);(try clear j7 j8 kz k0);(try clear j9 ka k5 k6);(try clear kb kc kd k7 k8 k9);(try clear ke kf kg la lb lc);(try clear ki kj kk ld le lf);(try clear km kn ko lg lh ll);(try clear kp kr ks lm ln lp);(try clear kt ku kv lq lr ls);(try clear kw kx ky lt lu lv);(try clear be);(try clear b3);(try clear b4);(try clear b5);(try clear jt);(try clear jw);(try clear b6);(try clear jx);(try clear j0)
       obtain⟨ba,bb,u372002,rfl,HA,n8,HO_372000,HO_372001,HO_372002,G,O,J,U,HB⟩:=hrel
       cases gk with
       |zero=>exact absurd HA.out (by simp[recoupref22_Once.l3])
       |succ k3=>
        have H:=HA.out;clear HA;simp only[recoupref22_Once.l3]at H;by_cases fu:ba<(aa.length:Int)
        case neg=>
         rw[if_neg fu]at H
         have c189b0:decide (ba<(aa.length:Int))=false:=decide_eq_false fu;clear fu;simp only[Option.some.injEq,Prod.mk.injEq]at H;obtain⟨rfl,rfl,rfl,rfl,rfl⟩:=H;have xh:=a4.out;have y3:=a5.out;have xi:=ah.out;have y4:=ax.out;have xj:=ap.out;have y5:=bf.out;obtain⟨rn,ro,rp,tw,tx,tz⟩:=cell3 G;have xk:=bq.out;have y6:=a3.out;have xl:=bh.out;have y7:=ay.out;obtain⟨rq,rr,rt,t0,t1,t2⟩:=cell3 U;have xm:=al.out;have y8:=bg.out;obtain⟨ru,rv,rx,t3,t4,t5⟩:=cell3 O;obtain⟨d4,eb,qk⟩:=Kd.S_slice HO_372001.out;subst qk;obtain⟨f4,gj,ql⟩:=Kd.R_slice HO_372002.out;subst ql;go_wp2;refine bodyPost_ret (results_ctt rfl _ _ ak 25 #[.slice a0 af.length a1,.slice d4 aw.length eb,.slice f4 bb.length gj] (0,0) _ rfl (by refine bkR ?_;refine blk_put (cs:= #[.slice a0 af.length a1,.slice d4 aw.length eb,.slice none 0 0]) ?_ 2 _ rfl;refine bkR ?_;refine blk_put (cs:= #[.slice a0 af.length a1,.slice none 0 0,.slice none 0 0]) ?_ 1 _ rfl;refine bkR ?_;refine blk_put (cs:= #[.slice none 0 0,.slice none 0 0,.slice none 0 0]) ?_ 0 _ rfl;refine bkR ?_;exact O.out) Try.underlying25 rfl zad) rfl ?_;exact⟨_,_,_,rfE,by(with_reducible repeat(first|apply Kd.R_alloc|apply Kd.R_drewN|apply Kd.R_drew));exact Kd.R_mono (Kd.R_far (p:=⟨ak,2,none⟩) (Kd.R_far (p:=⟨ak,1,none⟩) (Kd.R_far (p:=⟨ak,0,none⟩) (Kd.R_types HO_372000.out O.out zab) (fun _ hk=>hk.2) (.slice a0 af.length a1)) (fun _ hk=>hk.2) (.slice d4 aw.length eb)) (fun _ hk=>hk.2) (.slice f4 bb.length gj)) (fun _ hk=>hk.1),by(with_reducible repeat(first|apply Kd.S_alloc|apply Kd.S_drewN|apply Kd.S_drew));exact Kd.S_mono (Kd.S_far (p:=⟨ak,2,none⟩) (Kd.S_far (p:=⟨ak,1,none⟩) (Kd.S_far (p:=⟨ak,0,none⟩) (Kd.S_types HO_372001.out O.out zab) (fun _ hk=>hk.2) (.slice a0 af.length a1)) (fun _ hk=>hk.2) (.slice d4 aw.length eb)) (fun _ hk=>hk.2) (.slice f4 bb.length gj)) (fun _ hk=>trivial),by(with_reducible repeat(first|apply Kd.R_alloc|apply Kd.R_drewN|apply Kd.R_drew));exact Kd.R_mono (Kd.R_far (p:=⟨ak,2,none⟩) (Kd.R_far (p:=⟨ak,1,none⟩) (Kd.R_far (p:=⟨ak,0,none⟩) (Kd.R_types HO_372002.out O.out zab) (fun _ hk=>hk.2) (.slice a0 af.length a1)) (fun _ hk=>hk.2) (.slice d4 aw.length eb)) (fun _ hk=>hk.2) (.slice f4 bb.length gj)) (fun _ hk=>hk.1),hbA HB.out⟩
        rw[if_pos fu]at H
        have c189b0:decide (ba<(aa.length:Int))=true:=decide_eq_true fu;clear fu;by_cases jl:0<=ba
        case neg=>rw[if_neg jl]at H;exact absurd H zac
        rw[if_pos jl]at H
        have c190b0:decide (0<=ba)=true:=decide_eq_true jl;clear jl;by_cases fv:(rd aa ba)>=(wrap64 ((Y.length:Int)+Z))
        case neg=>
         rw[if_neg fv]at H
         have c191b0:decide ((wrap64 ((Y.length:Int)+Z))<=(rd aa ba))=false:=decide_eq_false fv;clear fv;by_cases jn:bb.length<17592186044416
         case neg=>rw[if_neg jn]at H;exact absurd H zac
         rw[if_pos jn]at H
         have op:=aK jn;clear jn;obtain⟨fz,fk⟩: ∃y_:List Int,y_=(bb++ [rd aa ba]):=⟨_,rfl⟩
         replace H:(recoupref22_Once.l3 k3 (wrap64 ((Y.length:Int)+Z)) (wrap64 (ba+1)) Y I aa af aw fz)=some (r1,r2,r3,r4,r5):=zH fk H
         have px:=aK fk;clear fk;have H':=aK H;clear H;have xc:=a4.out;have yy:=a5.out;have xd:=ah.out;have yz:=ax.out;have xe:=ap.out;have y0:=bf.out;obtain⟨re,rf,rg,tl,tm,tn⟩:=cell3 G;have fl:0<=(ba:Int):=of_decide_eq_true asE;have fm:ba<(aa.length:Int):=of_decide_eq_true asE;obtain⟨i2,mx,b0⟩:=Kd.at_int d1.out ba fl fm
         cases mx
         replace b0:=(HB.out.cell (World.block_lt_of_cell? w _ b0)).trans b0;replace fl:=eq_true fl;replace fm:=eq_true fm;have xf:=bq.out;have y1:=a3.out;have xg:=bh.out;have y2:=ay.out;obtain⟨rh,ri,rj,tp,tq,tr⟩:=cell3 U
         go_wp2_with (first|((with_reducible refine gate_builtin (b:= .append) (xs:= #[.tmp 201,.tmp 203]) rfl ?_);at_builtin;refine Kd.R_append (Kd.int .i64) (w0:=w) w.heap.size rfl (.tmp 201) (.tmp 203) 22 3 (.int .i64 0) 8 rfl Try.underlying22 info3 rfl zab zaa u372002 bb (rd aa ba) [.int .i64 (rd aa ba)] (fun k_=>some k_≠(.slice a0 af.length a1:Value).ownBlock) (fun _=>False) rfl rfl ?aP (fun _ hk=>hk.elim) ?aF ?aO ?aB ?aS ?aL ?_;(case aP=>exact rfl);(case aB=>exact(hbA HB.out));(case aF=>exact(fun k_ hk=>Kd.fresh' (Kd.R_lt (kdA HO_372000.out)) k_ hk));(case aO=>exact(kdA HO_372002.out));(case aS=>exact(below_size (hbA HB.out)));(case aL=>have:=op.out;omega);intro C3 Dj ho hb hg hat;rw[<-px.out]at ho;have n0_:=aK (Kd.R_after (ok:=(fun _=>True)) (by(with_reducible repeat(first|apply Kd.R_alloc|apply Kd.R_drewN|apply Kd.R_drew));exact Kd.R_mono HO_372000.out (fun _ hk=>⟨trivial,hk⟩)) hg hat);have n1_:=aK (Kd.S_over' (by(with_reducible repeat(first|apply Kd.S_alloc|apply Kd.S_drewN|apply Kd.S_drew));exact HO_372001.out) (Kd.R_typed (kdA HO_372002.out)) zab hg);have n2_:=aK (blk_grown (g:=am) (o:= .cells #[.slice a6 Y.length a7,.slice (some an) I.length a8,.slice (some i2) aa.length a9] 25 (0,0)) (bkA G.out) hg (Kd.R_ne HO_372002.out G.out zab));have n3_:=aK (blk_grown (g:=ak) (o:= .cells #[.slice none 0 0,.slice none 0 0,.slice none 0 0] 25 (0,0)) (bkA O.out) hg (Kd.R_ne HO_372002.out O.out zab));have n4_:=aK (blk_grown (g:=aj) (o:= .cells #[.int .i64 ac,.int .i64 ag,.int .u8 ai,.int .i64 ao] 31 (0,0)) (bkA J.out) hg (Kd.R_ne HO_372002.out J.out zab));have n5_:=aK (blk_grown (g:=az) (o:= .cells #[.slice a0 af.length a1,u372001,u372002] 25 (0,0)) (bkA U.out) hg (Kd.R_ne HO_372002.out U.out zab));have n6_:=aK (hb);have n7_:=aK (ho);clear HO_372000;clear HO_372001;clear G;clear O;clear J;clear U;clear HB;clear HO_372002;have HO_372000:=n0_;have HO_372001:=n1_;have G:=n2_;have O:=n3_;have J:=n4_;have U:=n5_;have HB:=n6_;have mo:=n7_;clear n0_ n1_ n2_ n3_ n4_ n5_ n6_ n7_;clear ho hb hg hat;obtain⟨f3,gi,qj⟩:=Kd.R_slice mo.out;subst qj;obtain⟨rk,rl,rm,tt,tu,tv⟩:=cell3 U))
         go_roundg k3
         case measure=>have:=br.out;have:=bu.out;have:=n8.out;omega
         case rel=>exact⟨(wrap64 (ba+1)),(fz),(.slice f3 fz.length gi),rsE,H',⟨by have:=br.out;have:=bu.out;have:=n8.out;omega⟩,⟨by(with_reducible repeat(first|apply Kd.R_alloc|apply Kd.R_drewN|apply Kd.R_drew));exact Kd.R_mono (Kd.R_far (p:=⟨az,2,none⟩) (Kd.R_types HO_372000.out U.out zab) (fun _ hk=>hk.2) (.slice f3 fz.length gi)) (fun _ hk=>hk.1.2)⟩,⟨by(with_reducible repeat(first|apply Kd.S_alloc|apply Kd.S_drewN|apply Kd.S_drew));exact Kd.S_mono (Kd.S_far (p:=⟨az,2,none⟩) (Kd.S_types HO_372001.out U.out zab) (fun _ hk=>hk.2) (.slice f3 fz.length gi)) (fun _ hk=>trivial)⟩,⟨by(with_reducible repeat(first|apply Kd.R_alloc|apply Kd.R_drewN|apply Kd.R_drew));exact Kd.R_mono (Kd.R_far (p:=⟨az,2,none⟩) (Kd.R_types mo.out U.out zab) (fun _ hk=>hk.2) (.slice f3 fz.length gi)) (fun _ hk=>hk.1)⟩,⟨by refine bkR ?_;refine blk_far ?_ ap.out _;refine bkR ?_;exact G.out⟩,⟨by refine bkR ?_;refine blk_far ?_ a3.out _;refine bkR ?_;exact O.out⟩,⟨by refine bkR ?_;refine blk_far ?_ ay.out _;refine bkR ?_;exact J.out⟩,⟨by refine bkR ?_;refine blk_put (cs:= #[.slice a0 af.length a1,u372001,u372002]) ?_ 2 _ rfl;refine bkR ?_;exact U.out⟩,⟨hbA HB.out⟩⟩
        rw[if_pos fv]at H
        have c191b0:decide ((wrap64 ((Y.length:Int)+Z))<=(rd aa ba))=true:=decide_eq_true fv;clear fv;by_cases jm:bb.length<17592186044416
        case neg=>rw[if_neg jm]at H;exact absurd H zac
        rw[if_pos jm]at H
        have oo:=aK jm;clear jm;obtain⟨fy,fj⟩: ∃y_:List Int,y_=(bb++ [wrap64 ((rd aa ba)+1)]):=⟨_,rfl⟩
        replace H:(recoupref22_Once.l3 k3 (wrap64 ((Y.length:Int)+Z)) (wrap64 (ba+1)) Y I aa af aw fy)=some (r1,r2,r3,r4,r5):=zH fj H
        have pw:=aK fj;clear fj;have H':=aK H;clear H;have w4:=a4.out;have yt:=a5.out;have w7:=ah.out;have yu:=ax.out;have w8:=ap.out;have yv:=bf.out;obtain⟨q2,q5,q6,tc,td,te⟩:=cell3 G;have fl:0<=(ba:Int):=of_decide_eq_true asE;have fm:ba<(aa.length:Int):=of_decide_eq_true asE;obtain⟨i2,mx,b0⟩:=Kd.at_int d1.out ba fl fm
        cases mx
        replace b0:=(HB.out.cell (World.block_lt_of_cell? w _ b0)).trans b0;replace fl:=eq_true fl;replace fm:=eq_true fm;have xa:=bq.out;have yw:=a3.out;have xb:=bh.out;have yx:=ay.out;obtain⟨q7,q8,q9,tf,tg,th⟩:=cell3 U
        go_wp2_with (first|((with_reducible refine gate_builtin (b:= .append) (xs:= #[.tmp 201,.tmp 203]) rfl ?_);at_builtin;refine Kd.R_append (Kd.int .i64) (w0:=w) w.heap.size rfl (.tmp 201) (.tmp 203) 22 3 (.int .i64 0) 8 rfl Try.underlying22 info3 rfl zab zaa u372002 bb (wrap64 ((rd aa ba)+1)) [.int .i64 (wrap64 ((rd aa ba)+1))] (fun k_=>some k_≠(.slice a0 af.length a1:Value).ownBlock) (fun _=>False) rfl rfl ?aP (fun _ hk=>hk.elim) ?aF ?aO ?aB ?aS ?aL ?_;(case aP=>exact rfl);(case aB=>exact(hbA HB.out));(case aF=>exact(fun k_ hk=>Kd.fresh' (Kd.R_lt (kdA HO_372000.out)) k_ hk));(case aO=>exact(kdA HO_372002.out));(case aS=>exact(below_size (hbA HB.out)));(case aL=>have:=oo.out;omega);intro C2 Di ho hb hg hat;rw[<-pw.out]at ho;have n0_:=aK (Kd.R_after (ok:=(fun _=>True)) (by(with_reducible repeat(first|apply Kd.R_alloc|apply Kd.R_drewN|apply Kd.R_drew));exact Kd.R_mono HO_372000.out (fun _ hk=>⟨trivial,hk⟩)) hg hat);have n1_:=aK (Kd.S_over' (by(with_reducible repeat(first|apply Kd.S_alloc|apply Kd.S_drewN|apply Kd.S_drew));exact HO_372001.out) (Kd.R_typed (kdA HO_372002.out)) zab hg);have n2_:=aK (blk_grown (g:=am) (o:= .cells #[.slice a6 Y.length a7,.slice (some an) I.length a8,.slice (some i2) aa.length a9] 25 (0,0)) (bkA G.out) hg (Kd.R_ne HO_372002.out G.out zab));have n3_:=aK (blk_grown (g:=ak) (o:= .cells #[.slice none 0 0,.slice none 0 0,.slice none 0 0] 25 (0,0)) (bkA O.out) hg (Kd.R_ne HO_372002.out O.out zab));have n4_:=aK (blk_grown (g:=aj) (o:= .cells #[.int .i64 ac,.int .i64 ag,.int .u8 ai,.int .i64 ao] 31 (0,0)) (bkA J.out) hg (Kd.R_ne HO_372002.out J.out zab));have n5_:=aK (blk_grown (g:=az) (o:= .cells #[.slice a0 af.length a1,u372001,u372002] 25 (0,0)) (bkA U.out) hg (Kd.R_ne HO_372002.out U.out zab));have n6_:=aK (hb);have n7_:=aK (ho);clear HO_372000;clear HO_372001;clear G;clear O;clear J;clear U;clear HB;clear HO_372002;have HO_372000:=n0_;have HO_372001:=n1_;have G:=n2_;have O:=n3_;have J:=n4_;have U:=n5_;have HB:=n6_;have mn:=n7_;clear n0_ n1_ n2_ n3_ n4_ n5_ n6_ n7_;clear ho hb hg hat;obtain⟨f2,gh,qi⟩:=Kd.R_slice mn.out;subst qi;obtain⟨ra,rb,rc,ti,tj,tk⟩:=cell3 U))
        go_roundg k3
        case measure=>have:=br.out;have:=bu.out;have:=n8.out;omega
        case rel=>exact⟨(wrap64 (ba+1)),(fy),(.slice f2 fy.length gh),rsE,H',⟨by have:=br.out;have:=bu.out;have:=n8.out;omega⟩,⟨by(with_reducible repeat(first|apply Kd.R_alloc|apply Kd.R_drewN|apply Kd.R_drew));exact Kd.R_mono (Kd.R_far (p:=⟨az,2,none⟩) (Kd.R_types HO_372000.out U.out zab) (fun _ hk=>hk.2) (.slice f2 fy.length gh)) (fun _ hk=>hk.1.2)⟩,⟨by(with_reducible repeat(first|apply Kd.S_alloc|apply Kd.S_drewN|apply Kd.S_drew));exact Kd.S_mono (Kd.S_far (p:=⟨az,2,none⟩) (Kd.S_types HO_372001.out U.out zab) (fun _ hk=>hk.2) (.slice f2 fy.length gh)) (fun _ hk=>trivial)⟩,⟨by(with_reducible repeat(first|apply Kd.R_alloc|apply Kd.R_drewN|apply Kd.R_drew));exact Kd.R_mono (Kd.R_far (p:=⟨az,2,none⟩) (Kd.R_types mn.out U.out zab) (fun _ hk=>hk.2) (.slice f2 fy.length gh)) (fun _ hk=>hk.1)⟩,⟨by refine bkR ?_;refine blk_far ?_ ap.out _;refine bkR ?_;exact G.out⟩,⟨by refine bkR ?_;refine blk_far ?_ a3.out _;refine bkR ?_;exact O.out⟩,⟨by refine bkR ?_;refine blk_far ?_ ay.out _;refine bkR ?_;exact J.out⟩,⟨by refine bkR ?_;refine blk_put (cs:= #[.slice a0 af.length a1,u372001,u372002]) ?_ 2 _ rfl;refine bkR ?_;exact U.out⟩,⟨hbA HB.out⟩⟩
     rw[if_pos fp]at H
     have c33b0:decide (D<(I.length:Int))=true:=decide_eq_true fp;clear fp;have l9:=aK H;clear H;have zu:=a4.out;have Ax:=a5.out;have zv:=ah.out;have Ay:=ax.out;have zw:=ap.out;have Az:=bf.out;obtain⟨ed,ee,ef,er,es,et⟩:=cell3 G
     go_upto_if 67 with(fail)
     go_cut [] (fun wc=> ∃(kq:Nat) (ae:List (List (S61))) (u372001:Value),Aside0 (recoupref22_Once.j2 kq Z (wrap64 ((Y.length:Int)+Z)) D Y I aa ac ag ai ao af ae=some (r1,r2,r3,r4,r5))/\Aside0 (kq<=k2)/\Aside0 (Kd.R (Kd.int .i64) 3 wc w.heap.size (fun _=>True) (.slice a0 af.length a1) af)/\Aside0 (Kd.S (Kd.slice 61 k61) 59 wc w.heap.size (fun _=>True) u372001 ae)/\Aside0 (wc.heap[am]? =some (.cells #[(.slice a6 Y.length a7),(.slice (some an) I.length a8),(.slice bc aa.length a9)] 25 (0,0)))/\Aside0 (wc.heap[ak]? =some (.cells #[(.slice none 0 0),(.slice none 0 0),(.slice none 0 0)] 25 (0,0)))/\Aside0 (wc.heap[aj]? =some (.cells #[.int .i64 ac,.int .i64 ag,.int .u8 ai,.int .i64 ao] 31 (0,0)))/\Aside0 (wc.heap[az]? =some (.cells #[(.slice a0 af.length a1),u372001,(.slice none 0 0)] 25 (0,0)))/\Aside0 (Below w.heap.size w wc))
     case first=>
      have H:=l9.out;clear l9;by_cases fq:D=Z
      case neg=>
       rw[if_neg fq]at H
       have c39b0:(D==Z)=false:=beq_eq_false_iff_ne.mpr fq;have c39b1:(D !=Z)=true:=bne_iff_ne.mpr fq
       (first|rw[c39b0] |(simp only[i64_w,i32_w];rw[c39b0])|skip)
       have H':=aK H;clear H;go_wp2
       go_meet
       case rel=>exact⟨_,(aw),(u372001),H',⟨by have:=br.out;have:=bu.out;first|omega|exact Nat.le_refl _⟩,⟨kdA HO_372000.out⟩,⟨by(with_reducible repeat(first|apply Kd.S_alloc|apply Kd.S_drewN|apply Kd.S_drew));exact HO_372001.out⟩,⟨bkA G.out⟩,⟨bkA O.out⟩,⟨bkA J.out⟩,⟨bkA U.out⟩,⟨hbA HB.out⟩⟩
      rw[if_pos fq]at H
      have c39b0:(D==Z)=true:=beq_iff_eq.mpr fq;have c39b1:(D !=Z)=false:=bne_eq_false_iff_eq.mpr fq;clear fq
      (first|rw[c39b0] |(simp only[i64_w,i32_w];rw[c39b0])|skip)
      obtain⟨ir,e6⟩: ∃y_:List (S61),y_=(([(⟨ac,1⟩:S61),(⟨ag,ai⟩:S61)]:List (S61))):=⟨_,rfl⟩
      replace H:(if aw.length<5864062014805 then(recoupref22_Once.j2 k2 Z (wrap64 ((Y.length:Int)+Z)) D Y I aa ac ag ai ao af (aw++ [ir]))else(none))=some (r1,r2,r3,r4,r5):=zH e6 H
      have mr:=aK e6;clear e6;by_cases i4:aw.length<5864062014805
      case neg=>rw[if_neg i4]at H;exact absurd H zac
      rw[if_pos i4]at H
      have pf:=aK i4;clear i4;obtain⟨it,e7⟩: ∃y_:List (List (S61)),y_=(aw++ [ir]):=⟨_,rfl⟩
      replace H:(recoupref22_Once.j2 k2 Z (wrap64 ((Y.length:Int)+Z)) D Y I aa ac ag ai ao af it)=some (r1,r2,r3,r4,r5):=zH e7 H
      have pi:=aK e7;clear e7;have H':=aK H;clear H;have zx:=bf.out;have A0:=ap.out;have zy:=bq.out;have A1:=a3.out;have zz:=bh.out;have A3:=ay.out;obtain⟨eg,eh,ei,eu,ev,ew⟩:=cell3 U;have z0:=ax.out;have A4:=ah.out;have z1:=bg.out;have A5:=al.out;obtain⟨ej,ek,el,em,ex,ey,ez,e0⟩:=cell4 J
      go_wp2_with (first|((with_reducible refine gate_dst (N:=78) rfl ?_);refine Kd.R_lit k61 _ 61 ?hg (N:=78) ?hd (xs:=([(⟨ac,1⟩:S61),(⟨ag,ai⟩:S61)]:List (S61))) (inner:= [.int .i64 ac,.int .u8 1,.int .i64 ag,.int .u8 ai]) (ok:=fun _=>True) (okp:=fun _=>True) ?hr ?hp (fun _ hk=>hk) trivial (Below.refl _ _) (Nat.le_refl _) zac ?_;(case hd=>rfl);(case hg=>rfl);(case hr=>first|(go_simp;done)|(go_simp;rfl));(case hp=>exact(Reps.c2 (show Kd.M k61 _ _ _ (⟨ac,1⟩:S61) [.int .i64 ac,.int .u8 1]from(k61_mkM _ _ _ (⟨ac,1⟩:S61))) (Reps.c2 (show Kd.M k61 _ _ _ (⟨ag,ai⟩:S61) [.int .i64 ag,.int .u8 ai]from(k61_mkM _ _ _ (⟨ag,ai⟩:S61))) (Reps.none _ _))));intro Cr Ep fw hb hg_ hnew_;clear hg_ hnew_;(first|rw[<-mr.out]at fw|(simp only[Int.reduceToNat]at fw;rw[<-mr.out]at fw));replace HO_372000:=kdB HO_372000 hb;replace HO_372001:=aK (Kd.S_elder' (by(with_reducible repeat(first|apply Kd.S_alloc|apply Kd.S_drewN|apply Kd.S_drew));exact HO_372001.out) (Kd.R_base fw) hb);have ga:=aK (Kd.R_lower fw (below_size (hbA HB.out)));replace G:=bkB G hb;replace O:=bkB O hb;replace J:=bkB J hb;replace U:=bkB U hb;replace HB:=hbB HB hb;clear hb fw;obtain⟨oy,oz,vh⟩:=Kd.R_slice ga.out;subst vh)|((with_reducible refine gate_builtin (b:= .append) (xs:= #[.tmp 69,.tmp 79]) rfl ?_);at_builtin;refine Kd.S_append (Kd.slice 61 k61) (w0:=w) w.heap.size rfl (.tmp 69) (.tmp 79) 23 59 (.slice none 0 0) 24 rfl Try.underlying23 info59 rfl zab zaa u372001 aw ir [.slice oy ir.length oz] (fun _=>True) (fun k_=>some k_=(.slice oy ir.length oz:Value).ownBlock) rfl rfl ?aP (fun k_ hk_=>((Kd.R_mono (ok':=fun k_=>((fun _=>True)) k_/\some k_≠(u372001:Value).ownBlock) (Kd.R_apart' (ga.out) (Kd.S_typed HO_372001.out) zab) (fun k_ hk=>⟨trivial,hk.2⟩))).1 k_ hk_.symm) ?aF ?aO ?aB ?aS ?aL ?_;(case aP=>exact Kd.M_row (Kd.R_mono (Kd.R_tight rfl (Kd.R_mono (ok':=fun k_=>((fun _=>True)) k_/\some k_≠(u372001:Value).ownBlock) (Kd.R_apart' (ga.out) (Kd.S_typed HO_372001.out) zab) (fun k_ hk=>⟨trivial,hk.2⟩))) (fun _ h_=>h_)));(case aB=>exact(hbA HB.out));(case aF=>exact(fun _ _=>trivial));(case aO=>exact(by(with_reducible repeat(first|apply Kd.S_alloc|apply Kd.S_drewN|apply Kd.S_drew));exact Kd.S_mono HO_372001.out (fun k_ hk=>⟨trivial,fun e_=>hk.2 e_⟩)));(case aS=>exact(below_size (hbA HB.out)));(case aL=>have:=pf.out;omega);intro Cs Eq ho hb hg hat;rw[<-pi.out]at ho;have n0_:=aK (Kd.R_over' (kdA HO_372000.out) (Kd.S_typed (by(with_reducible repeat(first|apply Kd.S_alloc|apply Kd.S_drewN|apply Kd.S_drew));exact HO_372001.out)) zab hg);have n1_:=aK (blk_grown (g:=am) (o:= .cells #[.slice a6 Y.length a7,.slice (some an) I.length a8,.slice bc aa.length a9] 25 (0,0)) (bkA G.out) hg (Kd.S_ne HO_372001.out G.out zab));have n2_:=aK (blk_grown (g:=ak) (o:= .cells #[.slice none 0 0,.slice none 0 0,.slice none 0 0] 25 (0,0)) (bkA O.out) hg (Kd.S_ne HO_372001.out O.out zab));have n3_:=aK (blk_grown (g:=aj) (o:= .cells #[.int .i64 ac,.int .i64 ag,.int .u8 ai,.int .i64 ao] 31 (0,0)) (bkA J.out) hg (Kd.S_ne HO_372001.out J.out zab));have n4_:=aK (blk_grown (g:=az) (o:= .cells #[.slice a0 af.length a1,u372001,.slice none 0 0] 25 (0,0)) (bkA U.out) hg (Kd.S_ne HO_372001.out U.out zab));have n5_:=aK (hb);have n6_:=aK (ho);clear HO_372000;clear G;clear O;clear J;clear U;clear HB;clear HO_372001;clear ga;have HO_372000:=n0_;have G:=n1_;have O:=n2_;have J:=n3_;have U:=n4_;have HB:=n5_;have mj:=n6_;clear n0_ n1_ n2_ n3_ n4_ n5_ n6_;clear ho hb hg hat;obtain⟨ly,mv,vi⟩:=Kd.S_slice mj.out;subst vi;obtain⟨en,eo,ep,e1,e2,e3⟩:=cell3 U))
      go_meet
      case rel=>exact⟨_,(it),(.slice ly it.length mv),H',⟨by have:=br.out;have:=bu.out;first|omega|exact Nat.le_refl _⟩,⟨by(with_reducible repeat(first|apply Kd.R_alloc|apply Kd.R_drewN|apply Kd.R_drew));exact Kd.R_mono (Kd.R_far (p:=⟨az,1,none⟩) (Kd.R_types HO_372000.out U.out zab) (fun _ hk=>hk.2) (.slice ly it.length mv)) (fun _ hk=>trivial)⟩,⟨by(with_reducible repeat(first|apply Kd.S_alloc|apply Kd.S_drewN|apply Kd.S_drew));exact Kd.S_mono (Kd.S_far (p:=⟨az,1,none⟩) (Kd.S_types mj.out U.out zab) (fun _ hk=>hk.2) (.slice ly it.length mv)) (fun _ hk=>trivial)⟩,⟨by refine bkR ?_;refine blk_far ?_ ap.out _;refine bkR ?_;exact G.out⟩,⟨by refine bkR ?_;refine blk_far ?_ a3.out _;refine bkR ?_;exact O.out⟩,⟨by refine bkR ?_;refine blk_far ?_ ay.out _;refine bkR ?_;exact J.out⟩,⟨by refine bkR ?_;refine blk_put (cs:= #[.slice a0 af.length a1,u372001,.slice none 0 0]) ?_ 1 _ rfl;refine bkR ?_;exact U.out⟩,⟨hbA HB.out⟩⟩
     case rest=>
      clear l9
      (try clear c1);(try clear c2);(try clear p2 p2);(try clear c3);(try clear c3b0);(try clear c3b1);(try clear p3 p3);(try clear q3 q3);(try clear ow);(try clear c4);(try clear p6 p6);(try clear c7);(try clear oq);(try clear os);(try clear gc);(try clear c14b0);(try clear ge);(try clear c15b0);(try clear gf);(try clear gg);(try clear p7);(try clear p8);(try clear p9);(try clear qa);(try clear qb);(try clear qc);(try clear fp);(try clear c33b0);(try clear u0);(try clear u1);(try clear p36);(try clear ox);(try clear o0);(try clear u2);(try clear fq);(try clear c39b0);(try clear c39b1);(try clear i4);(try clear qd);(try clear u3);(try clear u4);(try clear u5);(try clear u6);(try clear cd ce cf cg ch ci cj ck);(try clear cw cx cy di dj dk);(try clear cz da db dl dm dn);(try clear dc dd de dp dq dr);(try clear ed ee ef er es et);(try clear eg eh ei eu ev ew);(try clear ej ek el em ex ey ez e0);(try clear en eo ep e1 e2 e3);(try clear df dg dh dt du dv);(try clear bd);(try clear cp);(try clear cq)
      obtain⟨kq,ae,u372001,HA,bm,HO_372000,HO_372001,G,O,J,U,HB⟩:=hcut
      cases kq with
      |zero=>exact absurd HA.out (by simp[recoupref22_Once.j2])
      |succ n5=>
       have H:=HA.out;clear HA;simp only[recoupref22_Once.j2]at H;by_cases i5:0<=D
       case neg=>rw[if_neg i5]at H;exact absurd H zac
       rw[if_pos i5]at H
       have c54b0:decide (0<=D)=true:=decide_eq_true i5;clear i5;by_cases i6:D<(I.length:Int)
       case neg=>rw[if_neg i6]at H;exact absurd H zac
       rw[if_pos i6]at H
       have c55b0:decide (D<(I.length:Int))=true:=decide_eq_true i6;clear i6;obtain⟨b7,zf,H⟩:=bindO H
       (try dsimp only at H)
       have H':=aK H;clear H
       try go_wp2
       replace HO_372000:=aK (Kd.R_drew HO_372000.out);replace HO_372001:=aK (Kd.S_drew HO_372001.out);replace G:=aK (blk_drew G.out);replace O:=aK (blk_drew O.out);replace J:=aK (blk_drew J.out);replace U:=aK (blk_drew U.out);replace HB:=aK (below_drew1 HB.out);have ij:0<=(D:Int):=of_decide_eq_true asE;have ik:D<(I.length:Int):=of_decide_eq_true asE;obtain⟨py,i9,jo,u7,bz,ia,g5⟩:=at_L5 bs.out D ij ik;have dw:=bz;obtain rfl:an=py:=(by injection u7)
       replace bz:=(HB.out.cell (World.block_lt_of_cell? w _ bz)).trans bz;have gn:=aK g5;have ma:=aK ia;clear g5 ia;replace ij:=eq_true ij;replace ik:=eq_true ik;refine start_ (n:=13) (S:=fun w'=>w'.cell? ⟨am,0,none⟩=some (.slice a6 Y.length a7)/\w'.cell? ⟨am,1,none⟩=some (.slice (some an) I.length a8)/\w'.cell? ⟨am,2,none⟩=some (.slice bc aa.length a9)/\w'.cell? ⟨aj,0,none⟩=some (.int .i64 ac)/\w'.cell? ⟨aj,1,none⟩=some (.int .i64 ag)/\w'.cell? ⟨aj,2,none⟩=some (.int .u8 ai)/\w'.cell? ⟨aj,3,none⟩=some (.int .i64 ao)/\w'.cell? (an.add (D).toNat)=some (.slice i9 (rd_L5 I D).length jo)) (ds:= []) (.replicate 13 false) zad rfl rfl (z3k G (z3k J ⟨(blk_cell J.out 3).trans rfl,((HB.out.cell (World.block_lt_of_cell? w _ dw)).trans dw)⟩)) (fun hHeld=>?_);refine with_tabW recoupref22_Once.tab16 recoupref22_Once.bits16 (fun HT_ HW_=>?_);generalize wc.drew=Er at HO_372000 HO_372001 G O J U HB gn bz hHeld⊢;refine pu 0 (some 82) (mB 13 1) HT_ ?_;refine pu 2 (some 84) (mB 13 5) HT_ ?_;refine pu 5 (some 87) (mB 13 37) HT_ ?_;refine pu 7 (some 89) (mB 13 165) HT_ ?_;refine pu 9 (some 91) (mB 13 677) HT_ ?_;refine tk8 1 (some 83) (mB 13 679) HT_ HW_ hHeld ?_;refine pu 3 (some 85) (mB 13 687) HT_ ?_;refine tk8 4 (some 86) (mB 13 703) HT_ HW_ hHeld ?_;refine tk8 6 (some 88) (mB 13 767) HT_ HW_ hHeld ?_;refine tk8 8 (some 90) (mB 13 1023) HT_ HW_ hHeld ?_;refine tk8 10 (some 92) (mB 13 2047) HT_ HW_ hHeld ?_;refine zoh 11 (some 93) (mB 13 4095) HT_ fun K hK=>?_;refine goes_ Try.func28 zad rfl #[.slice i9 (rd_L5 I D).length jo,.int .i64 ac,.int .i64 ag,.int .u8 ai] zae rfl rfl (by(try simp only[List.map_toArray,List.map_cons,List.map_nil]);first|done|rfl|(simp only[List.length_drop,List.length_take];rfl)) ?_;with_reducible refine(recoupref22_in.calls n5 _ _ (rd_L5 I D) ac ag ai b7 _ ?side1 ?side2 zf.out).mono ?_
       (case side1=>exact kcB gn HB)
       (case side2=>exact ma.out)
       rintro e w' ⟨rfl,⟨nd,rfl⟩⟩;refine⟨_,rfl,?_⟩;refine hK.out _ _ (z3k G (z3k J ⟨(blk_cell J.out 3).trans rfl,((HB.out.cell (World.block_lt_of_cell? w _ dw)).trans dw)⟩)) (fun hHeld=>?_);clear hK K;refine znm (some 93) ?_;refine pu 12 (some 12) (mB 13 8191) HT_ ?_;refine done_ (done_of HT_.out zad) ?_
       try go_wp2
       go_loopg [13,14,15] n5 (fun kq vr Bw Bx w'=> ∃(a2:List (S61)) (cr:Bool) (L:Int),Bw= .bool cr/\Bx= .int .i64 L/\Aside0 (recoupref22_Once.l2 kq Z (wrap64 ((Y.length:Int)+Z)) D b7 a2 cr L Y I aa ac ag ai ao af ae=some (r1,r2,r3,r4,r5))/\Aside0 (kq<=n5)/\Aside0 (Kd.R k61 61 w' w.heap.size (fun _=>True) vr a2)/\Aside0 (Kd.R (Kd.int .i64) 3 w' w.heap.size (fun _=>True) (.slice a0 af.length a1) af)/\Aside0 (Kd.S (Kd.slice 61 k61) 59 w' w.heap.size (fun k_=>some k_≠(vr:Value).ownBlock) u372001 ae)/\Aside0 (w'.heap[am]? =some (.cells #[(.slice a6 Y.length a7),(.slice (some an) I.length a8),(.slice bc aa.length a9)] 25 (0,0)))/\Aside0 (w'.heap[ak]? =some (.cells #[(.slice none 0 0),(.slice none 0 0),(.slice none 0 0)] 25 (0,0)))/\Aside0 (w'.heap[aj]? =some (.cells #[.int .i64 ac,.int .i64 ag,.int .u8 ai,.int .i64 ao] 31 (0,0)))/\Aside0 (w'.heap[az]? =some (.cells #[(.slice a0 af.length a1),u372001,(.slice none 0 0)] 25 (0,0)))/\Aside0 (Below w.heap.size w w'))
       case atStart=>exact⟨(([]:List (S61))),(!b7),(0),rsE,rsE,H',⟨Nat.le_refl _⟩,⟨nilE⟩,⟨kdA HO_372000.out⟩,⟨by(with_reducible repeat(first|apply Kd.S_alloc|apply Kd.S_drewN|apply Kd.S_drew));exact Kd.S_mono HO_372001.out (fun _ hk=>zbp)⟩,⟨bkA G.out⟩,⟨bkA O.out⟩,⟨bkA J.out⟩,⟨bkA U.out⟩,⟨hbA HB.out⟩⟩
       case round=>
        clear H'
        (try clear c1);(try clear c2);(try clear p2 p2);(try clear c3);(try clear c3b0);(try clear c3b1);(try clear p3 p3);(try clear q3 q3);(try clear ow);(try clear c4);(try clear c5);(try clear p6 p6);(try clear c7);(try clear oq);(try clear os);(try clear gc);(try clear c14b0);(try clear ge);(try clear c15b0);(try clear gf);(try clear gg);(try clear p7);(try clear p8);(try clear p9);(try clear qa);(try clear qb);(try clear qc);(try clear fp);(try clear c33b0);(try clear u0);(try clear u1);(try clear p36 p36);(try clear ox ox);(try clear o0);(try clear u2);(try clear p37);(try clear vo);(try clear vm);(try clear fq);(try clear c39b0);(try clear c39b1);(try clear i4);(try clear qd);(try clear u3);(try clear u4);(try clear u5);(try clear u6);(try clear i5);(try clear c54b0);(try clear i6);(try clear c55b0);(try clear cd ce cf cg ch ci cj ck);(try clear cw cx cy di dj dk);(try clear cz da db dl dm dn);(try clear dc dd de dp dq dr);(try clear ed ee ef er es et);(try clear eg eh ei eu ev ew);(try clear ej ek el em ex ey ez e0);(try clear en eo ep e1 e2 e3);(try clear df dg dh dt du dv);(try clear bd);(try clear bz);(try clear cp);(try clear ij);(try clear cq);(try clear ik)
        obtain⟨a2,cr,L,rfl,rfl,HA,b2,HO_13,HO_372000,HO_372001,G,O,J,U,HB⟩:=hrel
        cases gk with
        |zero=>exact absurd HA.out (by simp[recoupref22_Once.l2])
        |succ k4=>
         have H:=HA.out;clear HA;simp only[recoupref22_Once.l2]at H;by_cases j1:0<=D
         case neg=>rw[if_neg j1]at H;exact absurd H zac
         rw[if_pos j1]at H
         have c58b0:decide (0<=D)=true:=decide_eq_true j1;clear j1;by_cases j3:D<(I.length:Int)
         case neg=>rw[if_neg j3]at H;exact absurd H zac
         rw[if_pos j3]at H
         have c59b0:decide (D<(I.length:Int))=true:=decide_eq_true j3;clear j3;by_cases g2:L<((rd_L5 I D).length:Int)
         case neg=>
          rw[if_neg g2]at H
          have c60b0:decide (L<((rd_L5 I D).length:Int))=false:=decide_eq_false g2;clear g2;by_cases gy:cr=true
          ·subst gy;rw[if_pos rfl]at H
           by_cases gz:ae.length<5864062014805
           case neg=>rw[if_neg gz]at H;exact absurd H zac
           rw[if_pos gz]at H
           have oh:=aK gz;clear gz;obtain⟨iu,e8⟩: ∃y_:List (List (S61)),y_=(ae++ [a2]):=⟨_,rfl⟩
           replace H:(recoupref22_Once.l1 k4 Z (wrap64 ((Y.length:Int)+Z)) (wrap64 (D+1)) Y I aa ac ag ai ao af iu)=some (r1,r2,r3,r4,r5):=zH e8 H
           have pj:=aK e8;clear e8;have H':=aK H;clear H;have wn:=a4.out;have yf:=a5.out;have wo:=ah.out;have yg:=ax.out;have wp:=ap.out;have yh:=bf.out;obtain⟨kb,kc,kd,k7,k8,k9⟩:=cell3 G;have b5:0<=(D:Int):=of_decide_eq_true asE;have b6:D<(I.length:Int):=of_decide_eq_true asE;obtain⟨d9,ja,jp,g4,be,bw,bv⟩:=at_L5 bs.out D b5 b6;obtain rfl:an=d9:=(by injection g4)
           replace be:=(HB.out.cell (World.block_lt_of_cell? w _ be)).trans be;have gp:=aK bv;have gm:=aK bw;clear bv bw;replace b5:=eq_true b5;replace b6:=eq_true b6;have wq:=bq.out;have yi:=a3.out;have ws:=bh.out;have yj:=ay.out;obtain⟨ke,kf,kg,la,lb,lc⟩:=cell3 U;obtain⟨lw,mt,qe⟩:=Kd.R_slice HO_13.out;subst qe
           go_wp2_with (first|((with_reducible refine gate_builtin (b:= .append) (xs:= #[.tmp 178,.tmp 180]) rfl ?_);at_builtin;refine Kd.S_append (Kd.slice 61 k61) (w0:=w) w.heap.size rfl (.tmp 178) (.tmp 180) 23 59 (.slice none 0 0) 24 rfl Try.underlying23 info59 rfl zab zaa u372001 ae a2 [.slice lw a2.length mt] (fun _=>True) (fun k_=>some k_=(.slice lw a2.length mt:Value).ownBlock) rfl rfl ?aP (fun k_ hk_=>((Kd.R_mono (ok':=fun k_=>((fun _=>True)) k_/\some k_≠(u372001:Value).ownBlock) (Kd.R_apart' (HO_13.out) (Kd.S_typed HO_372001.out) zab) (fun k_ hk=>⟨trivial,hk.2⟩))).1 k_ hk_.symm) ?aF ?aO ?aB ?aS ?aL ?_;(case aP=>exact Kd.M_row (Kd.R_mono (Kd.R_tight rfl (Kd.R_mono (ok':=fun k_=>((fun _=>True)) k_/\some k_≠(u372001:Value).ownBlock) (Kd.R_apart' (HO_13.out) (Kd.S_typed HO_372001.out) zab) (fun k_ hk=>⟨trivial,hk.2⟩))) (fun _ h_=>h_)));(case aB=>exact(hbA HB.out));(case aF=>exact(fun _ _=>trivial));(case aO=>exact(by(with_reducible repeat(first|apply Kd.S_alloc|apply Kd.S_drewN|apply Kd.S_drew));exact Kd.S_mono HO_372001.out (fun k_ hk=>⟨trivial,fun e_=>hk e_⟩)));(case aS=>exact(below_size (hbA HB.out)));(case aL=>have:=oh.out;omega);intro Ct De ho hb hg hat;rw[<-pj.out]at ho;have n0_:=aK (Kd.R_over' (kdA HO_372000.out) (Kd.S_typed (by(with_reducible repeat(first|apply Kd.S_alloc|apply Kd.S_drewN|apply Kd.S_drew));exact HO_372001.out)) zab hg);have n1_:=aK (blk_grown (g:=am) (o:= .cells #[.slice a6 Y.length a7,.slice (some an) I.length a8,.slice bc aa.length a9] 25 (0,0)) (bkA G.out) hg (Kd.S_ne HO_372001.out G.out zab));have n2_:=aK (blk_grown (g:=ak) (o:= .cells #[.slice none 0 0,.slice none 0 0,.slice none 0 0] 25 (0,0)) (bkA O.out) hg (Kd.S_ne HO_372001.out O.out zab));have n3_:=aK (blk_grown (g:=aj) (o:= .cells #[.int .i64 ac,.int .i64 ag,.int .u8 ai,.int .i64 ao] 31 (0,0)) (bkA J.out) hg (Kd.S_ne HO_372001.out J.out zab));have n4_:=aK (blk_grown (g:=az) (o:= .cells #[.slice a0 af.length a1,u372001,.slice none 0 0] 25 (0,0)) (bkA U.out) hg (Kd.S_ne HO_372001.out U.out zab));have n5_:=aK (hb);have n6_:=aK (ho);clear HO_372000;clear G;clear O;clear J;clear U;clear HB;clear HO_372001;clear HO_13;have HO_372000:=n0_;have G:=n1_;have O:=n2_;have J:=n3_;have U:=n4_;have HB:=n5_;have ml:=n6_;clear n0_ n1_ n2_ n3_ n4_ n5_ n6_;clear ho hb hg hat;obtain⟨iz,i7,qf⟩:=Kd.S_slice ml.out;subst qf;obtain⟨ki,kj,kk,ld,le,lf⟩:=cell3 U))
           go_roundg k4
           case measure=>have:=br.out;have:=bu.out;have:=bm.out;have:=b2.out;omega
           case rel=>exact⟨(wrap64 (D+1)),(iu),(.slice iz iu.length i7),rsE,H',⟨by have:=br.out;have:=bu.out;have:=bm.out;have:=b2.out;omega⟩,⟨by(with_reducible repeat(first|apply Kd.R_alloc|apply Kd.R_drewN|apply Kd.R_drew));exact Kd.R_mono (Kd.R_far (p:=⟨az,1,none⟩) (Kd.R_types HO_372000.out U.out zab) (fun _ hk=>hk.2) (.slice iz iu.length i7)) (fun _ hk=>trivial)⟩,⟨by(with_reducible repeat(first|apply Kd.S_alloc|apply Kd.S_drewN|apply Kd.S_drew));exact Kd.S_mono (Kd.S_far (p:=⟨az,1,none⟩) (Kd.S_types ml.out U.out zab) (fun _ hk=>hk.2) (.slice iz iu.length i7)) (fun _ hk=>trivial)⟩,⟨by refine bkR ?_;refine blk_far ?_ ap.out _;refine bkR ?_;exact G.out⟩,⟨by refine bkR ?_;refine blk_far ?_ a3.out _;refine bkR ?_;exact O.out⟩,⟨by refine bkR ?_;refine blk_far ?_ ay.out _;refine bkR ?_;exact J.out⟩,⟨by refine bkR ?_;refine blk_put (cs:= #[.slice a0 af.length a1,u372001,.slice none 0 0]) ?_ 1 _ rfl;refine bkR ?_;exact U.out⟩,⟨hbA HB.out⟩⟩
          replace gy:=Bool.eq_false_iff.mpr gy;subst gy;rw[if_neg nofT]at H
          obtain⟨im,ux,H⟩:=bindO H
          (try dsimp only at H)
          by_cases g0:a2.length<8796093022208
          case neg=>rw[if_neg g0]at H;exact absurd H zac
          rw[if_pos g0]at H
          have ol:=aK g0;clear g0;obtain⟨iv,e9⟩: ∃y_:List (S61),y_=(a2++ [(⟨(wrap64 ((Y.length:Int)+Z)),im⟩:S61)]):=⟨_,rfl⟩
          replace H:(if ae.length<5864062014805 then(recoupref22_Once.l1 k4 Z (wrap64 ((Y.length:Int)+Z)) (wrap64 (D+1)) Y I aa ac ag ai ao af (ae++ [iv]))else(none))=some (r1,r2,r3,r4,r5):=zH e9 H
          have pk:=aK e9;clear e9;by_cases g1:ae.length<5864062014805
          case neg=>rw[if_neg g1]at H;exact absurd H zac
          rw[if_pos g1]at H
          have om:=aK g1;clear g1;obtain⟨iw,fa⟩: ∃y_:List (List (S61)),y_=(ae++ [iv]):=⟨_,rfl⟩
          replace H:(recoupref22_Once.l1 k4 Z (wrap64 ((Y.length:Int)+Z)) (wrap64 (D+1)) Y I aa ac ag ai ao af iw)=some (r1,r2,r3,r4,r5):=zH fa H
          have pl:=aK fa;clear fa;have H':=aK H;clear H;have wt:=a4.out;have yk:=a5.out;have wu:=ah.out;have yl:=ax.out;have wv:=ap.out;have ym:=bf.out;obtain⟨km,kn,ko,lg,lh,ll⟩:=cell3 G;have b5:0<=(D:Int):=of_decide_eq_true asE;have b6:D<(I.length:Int):=of_decide_eq_true asE;obtain⟨d9,ja,jp,g4,be,bw,bv⟩:=at_L5 bs.out D b5 b6;obtain rfl:an=d9:=(by injection g4)
          replace be:=(HB.out.cell (World.block_lt_of_cell? w _ be)).trans be;have gp:=aK bv;have gm:=aK bw;clear bv bw;replace b5:=eq_true b5;replace b6:=eq_true b6
          try go_wp2
          replace HO_13:=aK (Kd.R_drew HO_13.out);replace HO_372000:=aK (Kd.R_drew HO_372000.out);replace HO_372001:=aK (Kd.S_drew HO_372001.out);replace G:=aK (blk_drew G.out);replace O:=aK (blk_drew O.out);replace J:=aK (blk_drew J.out);replace U:=aK (blk_drew U.out);replace HB:=aK (below_drew1 HB.out);have jt:0<=(D:Int):=of_decide_eq_true asE;have jx:D<(I.length:Int):=of_decide_eq_true asE;obtain⟨pz,jb,jq,u9,b3,ib,g6⟩:=at_L5 bs.out D jt jx;have bn:=b3;obtain rfl:an=pz:=(by injection u9)
          replace b3:=(HB.out.cell (World.block_lt_of_cell? w _ b3)).trans b3;have gq:=aK g6;have mb:=aK ib;clear g6 ib;replace jt:=eq_true jt;replace jx:=eq_true jx;refine start_ (n:=14) (S:=fun w'=>w'.cell? ⟨am,0,none⟩=some (.slice a6 Y.length a7)/\w'.cell? ⟨am,1,none⟩=some (.slice (some an) I.length a8)/\w'.cell? ⟨am,2,none⟩=some (.slice bc aa.length a9)/\w'.cell? ⟨aj,0,none⟩=some (.int .i64 ac)/\w'.cell? ⟨aj,1,none⟩=some (.int .i64 ag)/\w'.cell? ⟨aj,2,none⟩=some (.int .u8 ai)/\w'.cell? ⟨aj,3,none⟩=some (.int .i64 ao)/\w'.cell? (an.add (D).toNat)=some (.slice jb (rd_L5 I D).length jq)) (ds:= []) (.replicate 14 false) zad rfl rfl (z3k G (z3k J ⟨(blk_cell J.out 3).trans rfl,((HB.out.cell (World.block_lt_of_cell? w _ bn)).trans bn)⟩)) (fun hHeld=>?_);refine with_tabW recoupref22_Once.tab31 recoupref22_Once.bits31 (fun HT_ HW_=>?_);generalize wr.drew=Df at HO_13 HO_372000 HO_372001 G O J U HB gq b3 hHeld⊢;refine pu 0 (some 164) (mB 14 1) HT_ ?_;refine pu 1 (some 165) (mB 14 3) HT_ ?_;refine pu 2 (some 166) (mB 14 7) HT_ ?_;refine pu 4 (some 168) (mB 14 23) HT_ ?_;refine pu 7 (some 171) (mB 14 151) HT_ ?_;refine tk8 3 (some 167) (mB 14 159) HT_ HW_ hHeld ?_;refine pu 5 (some 169) (mB 14 191) HT_ ?_;refine tk8 6 (some 170) (mB 14 255) HT_ HW_ hHeld ?_;refine tk8 8 (some 172) (mB 14 511) HT_ HW_ hHeld ?_;refine zoh 9 (some 173) (mB 14 1023) HT_ fun K hK=>?_;refine goes_ Try.func33 zad rfl #[.slice jb (rd_L5 I D).length jq,.int .i64 ac] zae rfl rfl (by(try simp only[List.map_toArray,List.map_cons,List.map_nil]);first|done|rfl|(simp only[List.length_drop,List.length_take];rfl)) ?_;with_reducible refine(recoupref22_by.calls k4 _ _ (rd_L5 I D) ac im _ ?side1 ?side2 ux.out).mono ?_
          (case side1=>exact kcB gq HB)
          (case side2=>exact mb.out)
          rintro e w' ⟨rfl,⟨nd,rfl⟩⟩;refine⟨_,rfl,?_⟩;refine hK.out _ _ (z3k G (z3k J ⟨(blk_cell J.out 3).trans rfl,((HB.out.cell (World.block_lt_of_cell? w _ bn)).trans bn)⟩)) (fun hHeld=>?_);clear hK K;refine znm (some 173) ?_;refine pu 10 (some 174) (mB 14 2047) HT_ ?_;refine zoh 11 (some 175) (mB 14 4095) HT_ fun K hK=>?_;refine value_ (w1:=?_) (v:=?_) zae rfl ?_ ?_;rotate_left 2
          ·go_simp;constructor
           ·rfl
           ·rfl
          refine hK.out _ _ ⟨(blk_cell (blk_alloc G.out _) 0).trans rfl,(blk_cell (blk_alloc G.out _) 1).trans rfl,(blk_cell (blk_alloc G.out _) 2).trans rfl,(blk_cell (blk_alloc J.out _) 0).trans rfl,(blk_cell (blk_alloc J.out _) 1).trans rfl,(blk_cell (blk_alloc J.out _) 2).trans rfl,(blk_cell (blk_alloc J.out _) 3).trans rfl,(World.cell?_alloc_lt _ _ _ (World.block_lt_of_cell? _ _ (((HB.out.cell (World.block_lt_of_cell? w _ bn)).trans bn)))).trans (((HB.out.cell (World.block_lt_of_cell? w _ bn)).trans bn))⟩ (fun hHeld=>?_);clear hK K;refine znm (some 175) ?_;refine zoh 12 (some 176) (mB 14 8191) HT_ fun K hK=>?_;refine Kd.R_append_step k61 (w0:=w) w.heap.size zae (.tmp 164) (.tmp 175) 59 61 (.agg #[(.int .i64 0),(.int .u8 0)]) 16 rfl Try.underlying59 info61 rfl zab zaa u13 a2 (⟨(wrap64 ((Y.length:Int)+Z)),im⟩:S61) [.int .i64 (wrap64 ((Y.length:Int)+Z)),.int .u8 im] (fun _=>True) (fun _=>False) rfl rfl ?aP (fun _ hk=>hk.elim) ?aF ?aO ?aB ?aS ?aL ?_
          (case aP=>exact k61_mkM _ _ _ (⟨(wrap64 ((Y.length:Int)+Z)),im⟩:S61))
          (case aB=>exact(hbA HB.out))
          (case aF=>exact(fun _ _=>trivial))
          (case aO=>exact(kdA HO_13.out))
          (case aS=>exact(below_size (hbA HB.out)))
          (case aL=>have:=ol.out;omega)
          intro Cu Dg ho hb hg hat;rw[<-pk.out]at ho
          have n0_:=aK (Kd.R_over' (kdA HO_372000.out) (Kd.R_typed (kdA HO_13.out)) zab hg);have n1_:=aK (Kd.S_after (ok:=(fun _=>True)) (by(with_reducible repeat(first|apply Kd.S_alloc|apply Kd.S_drewN|apply Kd.S_drew));exact Kd.S_mono HO_372001.out (fun _ hk=>⟨trivial,hk⟩)) hg hat);have n2_:=aK (blk_grown (g:=am) (o:= .cells #[.slice a6 Y.length a7,.slice (some an) I.length a8,.slice bc aa.length a9] 25 (0,0)) (bkA G.out) hg (Kd.R_ne HO_13.out G.out zab));have n3_:=aK (blk_grown (g:=ak) (o:= .cells #[.slice none 0 0,.slice none 0 0,.slice none 0 0] 25 (0,0)) (bkA O.out) hg (Kd.R_ne HO_13.out O.out zab));have n4_:=aK (blk_grown (g:=aj) (o:= .cells #[.int .i64 ac,.int .i64 ag,.int .u8 ai,.int .i64 ao] 31 (0,0)) (bkA J.out) hg (Kd.R_ne HO_13.out J.out zab));have n5_:=aK (blk_grown (g:=az) (o:= .cells #[.slice a0 af.length a1,u372001,.slice none 0 0] 25 (0,0)) (bkA U.out) hg (Kd.R_ne HO_13.out U.out zab));have n6_:=aK (hb);have n7_:=aK (ho);clear HO_372000;clear HO_372001;clear G;clear O;clear J;clear U;clear HB;clear HO_13;have HO_372000:=n0_;have HO_372001:=n1_;have G:=n2_;have O:=n3_;have J:=n4_;have U:=n5_;have HB:=n6_;have gb:=n7_;clear n0_ n1_ n2_ n3_ n4_ n5_ n6_ n7_;clear ho hb hg hat;refine hK.out _ _ (z3k G (z3k J ⟨(blk_cell J.out 3).trans rfl,((HB.out.cell (World.block_lt_of_cell? w _ bn)).trans bn)⟩)) (fun hHeld=>?_);clear hK K;refine znm (some 176) ?_;refine pu 13 (some 13) (mB 14 16383) HT_ ?_;refine done_ (done_of HT_.out zad) ?_;have ww:=bq.out;have yn:=a3.out;have wx:=bh.out;have yo:=ay.out;obtain⟨kp,kr,ks,lm,ln,lp⟩:=cell3 U;obtain⟨lx,mu,qg⟩:=Kd.R_slice gb.out;subst qg
          try go_wp2_with (first|((with_reducible refine gate_builtin (b:= .append) (xs:= #[.tmp 178,.tmp 180]) rfl ?_);at_builtin;refine Kd.S_append (Kd.slice 61 k61) (w0:=w) w.heap.size rfl (.tmp 178) (.tmp 180) 23 59 (.slice none 0 0) 24 rfl Try.underlying23 info59 rfl zab zaa u372001 ae iv [.slice lx iv.length mu] (fun _=>True) (fun k_=>some k_=(.slice lx iv.length mu:Value).ownBlock) rfl rfl ?aP (fun k_ hk_=>((Kd.R_mono (ok':=fun k_=>((fun _=>True)) k_/\some k_≠(u372001:Value).ownBlock) (Kd.R_apart' (gb.out) (Kd.S_typed HO_372001.out) zab) (fun k_ hk=>⟨trivial,hk.2⟩))).1 k_ hk_.symm) ?aF ?aO ?aB ?aS ?aL ?_;(case aP=>exact Kd.M_row (Kd.R_mono (Kd.R_tight rfl (Kd.R_mono (ok':=fun k_=>((fun _=>True)) k_/\some k_≠(u372001:Value).ownBlock) (Kd.R_apart' (gb.out) (Kd.S_typed HO_372001.out) zab) (fun k_ hk=>⟨trivial,hk.2⟩))) (fun _ h_=>h_)));(case aB=>exact(hbA HB.out));(case aF=>exact(fun _ _=>trivial));(case aO=>exact(by(with_reducible repeat(first|apply Kd.S_alloc|apply Kd.S_drewN|apply Kd.S_drew));exact Kd.S_mono HO_372001.out (fun k_ hk=>⟨trivial,fun e_=>hk.2 e_⟩)));(case aS=>exact(below_size (hbA HB.out)));(case aL=>have:=om.out;omega);intro Cv Dh ho hb hg hat;rw[<-pl.out]at ho;have n0_:=aK (Kd.R_over' (kdA HO_372000.out) (Kd.S_typed (by(with_reducible repeat(first|apply Kd.S_alloc|apply Kd.S_drewN|apply Kd.S_drew));exact HO_372001.out)) zab hg);have n1_:=aK (blk_grown (g:=am) (o:= .cells #[.slice a6 Y.length a7,.slice (some an) I.length a8,.slice bc aa.length a9] 25 (0,0)) (bkA G.out) hg (Kd.S_ne HO_372001.out G.out zab));have n2_:=aK (blk_grown (g:=ak) (o:= .cells #[.slice none 0 0,.slice none 0 0,.slice none 0 0] 25 (0,0)) (bkA O.out) hg (Kd.S_ne HO_372001.out O.out zab));have n3_:=aK (blk_grown (g:=aj) (o:= .cells #[.int .i64 ac,.int .i64 ag,.int .u8 ai,.int .i64 ao] 31 (0,0)) (bkA J.out) hg (Kd.S_ne HO_372001.out J.out zab));have n4_:=aK (blk_grown (g:=az) (o:= .cells #[.slice a0 af.length a1,u372001,.slice none 0 0] 25 (0,0)) (bkA U.out) hg (Kd.S_ne HO_372001.out U.out zab));have n5_:=aK (hb);have n6_:=aK (ho);clear HO_372000;clear G;clear O;clear J;clear U;clear HB;clear HO_372001;clear gb;have HO_372000:=n0_;have G:=n1_;have O:=n2_;have J:=n3_;have U:=n4_;have HB:=n5_;have mm:=n6_;clear n0_ n1_ n2_ n3_ n4_ n5_ n6_;clear ho hb hg hat;obtain⟨i1,i8,qh⟩:=Kd.S_slice mm.out;subst qh;obtain⟨kt,ku,kv,lq,lr,ls⟩:=cell3 U))
          go_roundg k4
          case measure=>have:=br.out;have:=bu.out;have:=bm.out;have:=b2.out;omega
          case rel=>exact⟨(wrap64 (D+1)),(iw),(.slice i1 iw.length i8),rsE,H',⟨by have:=br.out;have:=bu.out;have:=bm.out;have:=b2.out;omega⟩,⟨by(with_reducible repeat(first|apply Kd.R_alloc|apply Kd.R_drewN|apply Kd.R_drew));exact Kd.R_mono (Kd.R_far (p:=⟨az,1,none⟩) (Kd.R_types HO_372000.out U.out zab) (fun _ hk=>hk.2) (.slice i1 iw.length i8)) (fun _ hk=>trivial)⟩,⟨by(with_reducible repeat(first|apply Kd.S_alloc|apply Kd.S_drewN|apply Kd.S_drew));exact Kd.S_mono (Kd.S_far (p:=⟨az,1,none⟩) (Kd.S_types mm.out U.out zab) (fun _ hk=>hk.2) (.slice i1 iw.length i8)) (fun _ hk=>trivial)⟩,⟨by refine bkR ?_;refine blk_far ?_ ap.out _;refine bkR ?_;exact G.out⟩,⟨by refine bkR ?_;refine blk_far ?_ a3.out _;refine bkR ?_;exact O.out⟩,⟨by refine bkR ?_;refine blk_far ?_ ay.out _;refine bkR ?_;exact J.out⟩,⟨by refine bkR ?_;refine blk_put (cs:= #[.slice a0 af.length a1,u372001,.slice none 0 0]) ?_ 1 _ rfl;refine bkR ?_;exact U.out⟩,⟨hbA HB.out⟩⟩
         rw[if_pos g2]at H
         have c60b0:decide (L<((rd_L5 I D).length:Int))=true:=decide_eq_true g2;clear g2;by_cases j5:0<=L
         case neg=>rw[if_neg j5]at H;exact absurd H zac
         rw[if_pos j5]at H
         have c61b0:decide (0<=L)=true:=decide_eq_true j5;clear j5;have mf:=aK H;clear H;have z2:=a4.out;have A6:=a5.out;have z3:=ah.out;have A7:=ax.out;have z4:=ap.out;have A8:=bf.out;obtain⟨m1,m2,m3,nj,nk,nl⟩:=cell3 G;have b5:0<=(D:Int):=of_decide_eq_true asE;have b6:D<(I.length:Int):=of_decide_eq_true asE;obtain⟨d9,ja,jp,g4,be,bw,bv⟩:=at_L5 bs.out D b5 b6;obtain rfl:an=d9:=(by injection g4)
         replace be:=(HB.out.cell (World.block_lt_of_cell? w _ be)).trans be;have gp:=aK bv;have gm:=aK bw;clear bv bw;replace b5:=eq_true b5;replace b6:=eq_true b6;have ju:0<=(D:Int):=of_decide_eq_true asE;have jy:D<(I.length:Int):=of_decide_eq_true asE;obtain⟨p0,vx,vy,vc,cn,ic,g7⟩:=at_L5 bs.out D ju jy;obtain rfl:an=p0:=(by injection vc)
         replace cn:=(HB.out.cell (World.block_lt_of_cell? w _ cn)).trans cn;have mp:=aK g7;have uz:=aK ic;clear g7 ic;replace ju:=eq_true ju;replace jy:=eq_true jy;have ea_:=Option.some.inj (be.symm.trans cn);injection ea_ with ea_ en_ ec_;subst ea_;subst ec_;clear en_;have jv:0<=(L:Int):=of_decide_eq_true asE;have jz:L<((rd_L5 I D).length:Int):=of_decide_eq_true asE;obtain⟨zk,vd,dx,dy⟩:=at_T61 mp.out L jv jz
         cases vd
         replace dx:=(HB.out.cell (World.block_lt_of_cell? w _ dx)).trans dx;replace dy:=(HB.out.cell (World.block_lt_of_cell? w _ dy)).trans dy;replace jv:=eq_true jv;replace jz:=eq_true jz
         go_upto_region 23 with(first|((with_reducible refine gD 16 rfl ?_);refine bE 16 #[.int .i64 0,.int .u8 0] 61 ?_;intro X hg Es hbox hb;replace HO_13:=aK (Kd.R_below (Kd.R_elderB (kdA HO_13.out) X (Nat.le_of_eq hg.symm)) hb);replace HO_372000:=kdB HO_372000 hb;replace HO_372001:=aK (Kd.S_below (Kd.S_elderB (by(with_reducible repeat(first|apply Kd.S_alloc|apply Kd.S_drewN|apply Kd.S_drew));exact HO_372001.out) X (Nat.le_of_eq hg.symm)) hb);have ab:=aK (hbox);have zj:=hbS HB hg;have zh:=hbS HB hg;replace HB:=hbB HB hb;have aq:=neL G hg;have bi:=neG G hg;replace G:=bkB G hb;have ar:=neL O hg;have bj:=neG O hg;replace O:=bkB O hb;have au:=neL J hg;have bk:=neG J hg;replace J:=bkB J hb;have av:=neL U hg;have bl:=neG U hg;replace U:=bkB U hb;clear hb hbox hg;have z5:=bi.out;have A9:=aq.out;have z6:=bj.out;have Ba:=ar.out;have z7:=bk.out;have Bb:=au.out;have z8:=bl.out;have Bc:=av.out;obtain⟨m4,m5,nm,nn⟩:=cell2 ab))
         (try simp only[Act.put,zL])
         go_cut [128] (fun vq wc=> ∃(kq:Nat) (dz:Bool),vq= .bool dz/\Aside0 (recoupref22_Once.j4 kq Z (wrap64 ((Y.length:Int)+Z)) D b7 a2 cr L dz Y I aa ac ag ai ao af ae ((rd_T61 (rd_L5 I D) L).f0) ((rd_T61 (rd_L5 I D) L).f1)=some (r1,r2,r3,r4,r5))/\Aside0 (kq<=k4)/\Aside0 (Kd.R k61 61 wc w.heap.size (fun k_=>k_≠X) u13 a2)/\Aside0 (Kd.R (Kd.int .i64) 3 wc w.heap.size (fun _=>True) (.slice a0 af.length a1) af)/\Aside0 (Kd.S (Kd.slice 61 k61) 59 wc w.heap.size (fun k_=>some k_≠(u13:Value).ownBlock/\k_≠X) u372001 ae)/\Aside0 (wc.heap[am]? =some (.cells #[(.slice a6 Y.length a7),(.slice (some an) I.length a8),(.slice bc aa.length a9)] 25 (0,0)))/\Aside0 (wc.heap[ak]? =some (.cells #[(.slice none 0 0),(.slice none 0 0),(.slice none 0 0)] 25 (0,0)))/\Aside0 (wc.heap[aj]? =some (.cells #[.int .i64 ac,.int .i64 ag,.int .u8 ai,.int .i64 ao] 31 (0,0)))/\Aside0 (wc.heap[az]? =some (.cells #[(.slice a0 af.length a1),u372001,(.slice none 0 0)] 25 (0,0)))/\Aside0 (wc.heap[X]? =some (.cells #[.int .i64 ((rd_T61 (rd_L5 I D) L).f0),.int .u8 ((rd_T61 (rd_L5 I D) L).f1)] 61 (0,0)))/\Aside0 (Below w.heap.size w wc))
         case first=>
          have H:=mf.out;clear mf;by_cases ms:b7=true
          case neg=>
           replace ms:=Bool.eq_false_iff.mpr ms;subst ms;rw[if_neg nofT]at H
           have H':=aK H;clear H;go_wp2
           go_meet
           case rel=>exact⟨_,(false),rsE,H',⟨by have:=br.out;have:=bu.out;have:=bm.out;have:=b2.out;first|omega|exact Nat.le_refl _⟩,⟨by(with_reducible repeat(first|apply Kd.R_alloc|apply Kd.R_drewN|apply Kd.R_drew));exact Kd.R_mono (Kd.R_far (p:=⟨X,1,none⟩) (Kd.R_far (p:=⟨X,0,none⟩) (Kd.R_mono HO_13.out (fun k_ hk=>(⟨hk,hk.2⟩:_/\k_≠X))) (fun _ hk=>hk.2) (.int .i64 ((rd_T61 (rd_L5 I D) L).f0))) (fun _ hk=>hk.2) (.int .u8 ((rd_T61 (rd_L5 I D) L).f1))) (fun _ hk=>hk.1.2)⟩,⟨by(with_reducible repeat(first|apply Kd.R_alloc|apply Kd.R_drewN|apply Kd.R_drew));exact Kd.R_mono (Kd.R_far (p:=⟨X,1,none⟩) (Kd.R_far (p:=⟨X,0,none⟩) (Kd.R_types HO_372000.out ab.out zab) (fun _ hk=>hk.2) (.int .i64 ((rd_T61 (rd_L5 I D) L).f0))) (fun _ hk=>hk.2) (.int .u8 ((rd_T61 (rd_L5 I D) L).f1))) (fun _ hk=>trivial)⟩,⟨by(with_reducible repeat(first|apply Kd.S_alloc|apply Kd.S_drewN|apply Kd.S_drew));exact Kd.S_mono (Kd.S_far (p:=⟨X,1,none⟩) (Kd.S_far (p:=⟨X,0,none⟩) (Kd.S_mono HO_372001.out (fun k_ hk=>(⟨hk,hk.2⟩:_/\k_≠X))) (fun _ hk=>hk.2) (.int .i64 ((rd_T61 (rd_L5 I D) L).f0))) (fun _ hk=>hk.2) (.int .u8 ((rd_T61 (rd_L5 I D) L).f1))) (fun _ hk=>⟨hk.1.1,hk.1.2⟩)⟩,⟨by refine bkR ?_;refine blk_far ?_ aq.out _;refine bkR ?_;refine blk_far ?_ aq.out _;refine bkR ?_;exact G.out⟩,⟨by refine bkR ?_;refine blk_far ?_ ar.out _;refine bkR ?_;refine blk_far ?_ ar.out _;refine bkR ?_;exact O.out⟩,⟨by refine bkR ?_;refine blk_far ?_ au.out _;refine bkR ?_;refine blk_far ?_ au.out _;refine bkR ?_;exact J.out⟩,⟨by refine bkR ?_;refine blk_far ?_ av.out _;refine bkR ?_;refine blk_far ?_ av.out _;refine bkR ?_;exact U.out⟩,⟨by refine bkR ?_;refine blk_put (cs:= #[.int .i64 ((rd_T61 (rd_L5 I D) L).f0),.int .u8 0]) ?_ 1 _ rfl;refine bkR ?_;refine blk_put (cs:= #[.int .i64 0,.int .u8 0]) ?_ 0 _ rfl;refine bkR ?_;exact ab.out⟩,⟨hbA HB.out⟩⟩
          subst ms;rw[if_pos rfl]at H
          by_cases g3:((rd_T61 (rd_L5 I D) L).f0)=ac
          case neg=>
           rw[if_neg g3]at H
           have c74b0:(((rd_T61 (rd_L5 I D) L).f0)==ac)=false:=beq_eq_false_iff_ne.mpr g3;have c74b1:(((rd_T61 (rd_L5 I D) L).f0)!=ac)=true:=bne_iff_ne.mpr g3
           (first|rw[c74b0] |(simp only[i64_w,i32_w];rw[c74b0])|skip)
           have H':=aK H;clear H;have Ag:=bi.out;have Bk:=aq.out;have Ah:=bj.out;have Bl:=ar.out;have Ai:=bk.out;have Bm:=au.out;have Aj:=bl.out;have Bn:=av.out;obtain⟨nc,ne,nw,nx⟩:=cell2 ab;have Ak:=ax.out;have Bo:=ah.out;have Al:=bg.out;have Bp:=al.out;have Am:=ay.out;have Bq:=bh.out;obtain⟨nf,ng,nh,ni,ny,nz,n0,n1⟩:=cell4 J;go_wp2
           go_meet
           case rel=>exact⟨_,((((rd_T61 (rd_L5 I D) L).f0)==ag)),rsE,H',⟨by have:=br.out;have:=bu.out;have:=bm.out;have:=b2.out;first|omega|exact Nat.le_refl _⟩,⟨by(with_reducible repeat(first|apply Kd.R_alloc|apply Kd.R_drewN|apply Kd.R_drew));exact Kd.R_mono (Kd.R_far (p:=⟨X,1,none⟩) (Kd.R_far (p:=⟨X,0,none⟩) (Kd.R_mono HO_13.out (fun k_ hk=>(⟨hk,hk.2⟩:_/\k_≠X))) (fun _ hk=>hk.2) (.int .i64 ((rd_T61 (rd_L5 I D) L).f0))) (fun _ hk=>hk.2) (.int .u8 ((rd_T61 (rd_L5 I D) L).f1))) (fun _ hk=>hk.1.2)⟩,⟨by(with_reducible repeat(first|apply Kd.R_alloc|apply Kd.R_drewN|apply Kd.R_drew));exact Kd.R_mono (Kd.R_far (p:=⟨X,1,none⟩) (Kd.R_far (p:=⟨X,0,none⟩) (Kd.R_types HO_372000.out ab.out zab) (fun _ hk=>hk.2) (.int .i64 ((rd_T61 (rd_L5 I D) L).f0))) (fun _ hk=>hk.2) (.int .u8 ((rd_T61 (rd_L5 I D) L).f1))) (fun _ hk=>trivial)⟩,⟨by(with_reducible repeat(first|apply Kd.S_alloc|apply Kd.S_drewN|apply Kd.S_drew));exact Kd.S_mono (Kd.S_far (p:=⟨X,1,none⟩) (Kd.S_far (p:=⟨X,0,none⟩) (Kd.S_mono HO_372001.out (fun k_ hk=>(⟨hk,hk.2⟩:_/\k_≠X))) (fun _ hk=>hk.2) (.int .i64 ((rd_T61 (rd_L5 I D) L).f0))) (fun _ hk=>hk.2) (.int .u8 ((rd_T61 (rd_L5 I D) L).f1))) (fun _ hk=>⟨hk.1.1,hk.1.2⟩)⟩,⟨by refine bkR ?_;refine blk_far ?_ aq.out _;refine bkR ?_;refine blk_far ?_ aq.out _;refine bkR ?_;exact G.out⟩,⟨by refine bkR ?_;refine blk_far ?_ ar.out _;refine bkR ?_;refine blk_far ?_ ar.out _;refine bkR ?_;exact O.out⟩,⟨by refine bkR ?_;refine blk_far ?_ au.out _;refine bkR ?_;refine blk_far ?_ au.out _;refine bkR ?_;exact J.out⟩,⟨by refine bkR ?_;refine blk_far ?_ av.out _;refine bkR ?_;refine blk_far ?_ av.out _;refine bkR ?_;exact U.out⟩,⟨by refine bkR ?_;refine blk_put (cs:= #[.int .i64 ((rd_T61 (rd_L5 I D) L).f0),.int .u8 0]) ?_ 1 _ rfl;refine bkR ?_;refine blk_put (cs:= #[.int .i64 0,.int .u8 0]) ?_ 0 _ rfl;refine bkR ?_;exact ab.out⟩,⟨hbA HB.out⟩⟩
          rw[if_pos g3]at H
          have c74b0:(((rd_T61 (rd_L5 I D) L).f0)==ac)=true:=beq_iff_eq.mpr g3;have c74b1:(((rd_T61 (rd_L5 I D) L).f0)!=ac)=false:=bne_eq_false_iff_eq.mpr g3;clear g3
          (first|rw[c74b0] |(simp only[i64_w,i32_w];rw[c74b0])|skip)
          have H':=aK H;clear H;have z9:=bi.out;have Bd:=aq.out;have Aa:=bj.out;have Be:=ar.out;have Ab:=bk.out;have Bf:=au.out;have Ac:=bl.out;have Bg:=av.out;obtain⟨m6,m7,np,nq⟩:=cell2 ab;have Ad:=ax.out;have Bh:=ah.out;have Ae:=bg.out;have Bi:=al.out;have Af:=ay.out;have Bj:=bh.out;obtain⟨m8,m9,na,nb,nr,nt,nu,nv⟩:=cell4 J;go_wp2
          go_meet
          case rel=>exact⟨_,(true),rsE,H',⟨by have:=br.out;have:=bu.out;have:=bm.out;have:=b2.out;first|omega|exact Nat.le_refl _⟩,⟨by(with_reducible repeat(first|apply Kd.R_alloc|apply Kd.R_drewN|apply Kd.R_drew));exact Kd.R_mono (Kd.R_far (p:=⟨X,1,none⟩) (Kd.R_far (p:=⟨X,0,none⟩) (Kd.R_mono HO_13.out (fun k_ hk=>(⟨hk,hk.2⟩:_/\k_≠X))) (fun _ hk=>hk.2) (.int .i64 ((rd_T61 (rd_L5 I D) L).f0))) (fun _ hk=>hk.2) (.int .u8 ((rd_T61 (rd_L5 I D) L).f1))) (fun _ hk=>hk.1.2)⟩,⟨by(with_reducible repeat(first|apply Kd.R_alloc|apply Kd.R_drewN|apply Kd.R_drew));exact Kd.R_mono (Kd.R_far (p:=⟨X,1,none⟩) (Kd.R_far (p:=⟨X,0,none⟩) (Kd.R_types HO_372000.out ab.out zab) (fun _ hk=>hk.2) (.int .i64 ((rd_T61 (rd_L5 I D) L).f0))) (fun _ hk=>hk.2) (.int .u8 ((rd_T61 (rd_L5 I D) L).f1))) (fun _ hk=>trivial)⟩,⟨by(with_reducible repeat(first|apply Kd.S_alloc|apply Kd.S_drewN|apply Kd.S_drew));exact Kd.S_mono (Kd.S_far (p:=⟨X,1,none⟩) (Kd.S_far (p:=⟨X,0,none⟩) (Kd.S_mono HO_372001.out (fun k_ hk=>(⟨hk,hk.2⟩:_/\k_≠X))) (fun _ hk=>hk.2) (.int .i64 ((rd_T61 (rd_L5 I D) L).f0))) (fun _ hk=>hk.2) (.int .u8 ((rd_T61 (rd_L5 I D) L).f1))) (fun _ hk=>⟨hk.1.1,hk.1.2⟩)⟩,⟨by refine bkR ?_;refine blk_far ?_ aq.out _;refine bkR ?_;refine blk_far ?_ aq.out _;refine bkR ?_;exact G.out⟩,⟨by refine bkR ?_;refine blk_far ?_ ar.out _;refine bkR ?_;refine blk_far ?_ ar.out _;refine bkR ?_;exact O.out⟩,⟨by refine bkR ?_;refine blk_far ?_ au.out _;refine bkR ?_;refine blk_far ?_ au.out _;refine bkR ?_;exact J.out⟩,⟨by refine bkR ?_;refine blk_far ?_ av.out _;refine bkR ?_;refine blk_far ?_ av.out _;refine bkR ?_;exact U.out⟩,⟨by refine bkR ?_;refine blk_put (cs:= #[.int .i64 ((rd_T61 (rd_L5 I D) L).f0),.int .u8 0]) ?_ 1 _ rfl;refine bkR ?_;refine blk_put (cs:= #[.int .i64 0,.int .u8 0]) ?_ 0 _ rfl;refine bkR ?_;exact ab.out⟩,⟨hbA HB.out⟩⟩
         case rest=>
          clear mf
          (try clear c1);(try clear c2);(try clear p2 p2);(try clear c3);(try clear c3b0);(try clear c3b1);(try clear p3 p3);(try clear q3 q3);(try clear ow);(try clear c4);(try clear c5);(try clear c6);(try clear p6 p6);(try clear c7);(try clear c8);(try clear c9);(try clear oq);(try clear os);(try clear gc);(try clear c14b0);(try clear ge);(try clear c15b0);(try clear gf);(try clear gg);(try clear p7);(try clear p8);(try clear p9);(try clear qa);(try clear qb);(try clear qc);(try clear fp);(try clear c33b0);(try clear u0);(try clear u1);(try clear p36 p36);(try clear ox ox);(try clear o0);(try clear u2);(try clear p37 p37);(try clear vo vo);(try clear vm);(try clear zl);(try clear p38);(try clear Bu);(try clear vn);(try clear fq);(try clear c39b0);(try clear c39b1);(try clear p39);(try clear Ei);(try clear Cl);(try clear i4);(try clear qd);(try clear u3);(try clear u4);(try clear u5);(try clear u6);(try clear i5);(try clear c54b0);(try clear i6);(try clear c55b0);(try clear j1);(try clear c58b0);(try clear j3);(try clear c59b0);(try clear g2);(try clear c60b0);(try clear j5);(try clear c61b0);(try clear Dw);(try clear Dx);(try clear p64);(try clear Dy);(try clear Dz);(try clear D0);(try clear D1);(try clear D2);(try clear ms);(try clear g3);(try clear c74b0);(try clear c74b1);(try clear D3);(try clear D4);(try clear D5);(try clear D6);(try clear D7);(try clear D8);(try clear D9);(try clear Ea);(try clear Eb);(try clear Ec);(try clear Ed);(try clear Ee);(try clear Ef);(try clear Eg);(try clear cd ce cf cg ch ci cj ck);(try clear cw cx cy di dj dk);(try clear cz da db dl dm dn);(try clear dc dd de dp dq dr);(try clear ed ee ef er es et);(try clear eg eh ei eu ev ew);(try clear ej ek el em ex ey ez e0);(try clear en eo ep e1 e2 e3);(try clear m1 m2 m3 nj nk nl);(try clear m4 m5 nm nn);(try clear m6 m7 np nq);(try clear m8 m9 na nb nr nt nu nv);(try clear nc ne nw nx);(try clear df dg dh dt du dv);(try clear nf ng nh ni ny nz n0 n1);(try clear bd);(try clear bz);(try clear be);(try clear cn);(try clear dx);(try clear dy);(try clear cp);(try clear ij);(try clear b5);(try clear ju);(try clear jv);(try clear cq);(try clear ik);(try clear b6);(try clear jy);(try clear jz)
          obtain⟨kq,dz,rfl,HA,b1,HO_13,HO_372000,HO_372001,G,O,J,U,ab,HB⟩:=hcut
          cases kq with
          |zero=>exact absurd HA.out (by simp[recoupref22_Once.j4])
          |succ bx=>
           have H:=HA.out;clear HA;simp only[recoupref22_Once.j4]at H;by_cases ot:dz=true
           ·subst ot;rw[if_pos rfl]at H
            have H':=aK H;clear H;go_wp2
            go_roundg bx
            case measure=>have:=br.out;have:=bu.out;have:=bm.out;have:=b2.out;have:=b1.out;omega
            case rel=>exact⟨(a2),(cr),(wrap64 (L+1)),rsE,rsE,H',⟨by have:=br.out;have:=bu.out;have:=bm.out;have:=b2.out;have:=b1.out;omega⟩,⟨by(with_reducible repeat(first|apply Kd.R_alloc|apply Kd.R_drewN|apply Kd.R_drew));exact Kd.R_mono HO_13.out (fun _ hk=>trivial)⟩,⟨kdA HO_372000.out⟩,⟨by(with_reducible repeat(first|apply Kd.S_alloc|apply Kd.S_drewN|apply Kd.S_drew));exact Kd.S_mono HO_372001.out (fun _ hk=>hk.1)⟩,⟨bkA G.out⟩,⟨bkA O.out⟩,⟨bkA J.out⟩,⟨bkA U.out⟩,⟨hbA HB.out⟩⟩
           replace ot:=Bool.eq_false_iff.mpr ot;subst ot;rw[if_neg nofT]at H
           by_cases j6:((rd_T61 (rd_L5 I D) L).f0)>=(wrap64 ((Y.length:Int)+Z))
           case neg=>
            rw[if_neg j6]at H
            have c94b0:decide ((wrap64 ((Y.length:Int)+Z))<=((rd_T61 (rd_L5 I D) L).f0))=false:=decide_eq_false j6;clear j6;by_cases jj:cr=true
            ·subst jj;rw[if_pos rfl]at H
             by_cases jk:a2.length<8796093022208
             case neg=>rw[if_neg jk]at H;exact absurd H zac
             rw[if_pos jk]at H
             have oc:=aK jk;clear jk;obtain⟨o5,ff⟩: ∃y_:List (S61),y_=(a2++ [(⟨((rd_T61 (rd_L5 I D) L).f0),((rd_T61 (rd_L5 I D) L).f1)⟩:S61)]):=⟨_,rfl⟩
             replace H:(recoupref22_Once.l2 bx Z (wrap64 ((Y.length:Int)+Z)) D b7 o5 true (wrap64 (L+1)) Y I aa ac ag ai ao af ae)=some (r1,r2,r3,r4,r5):=zH ff H
             have pq:=aK ff;clear ff;have H':=aK H;clear H;have wa:=bi.out;have x3:=aq.out;have wb:=bj.out;have x4:=ar.out;have wd:=bk.out;have x5:=au.out;have we:=bl.out;have x6:=av.out;obtain⟨qy,qz,sy,s9⟩:=cell2 ab
             go_wp2_with (first|((with_reducible refine gate_builtin (b:= .append) (xs:= #[.tmp 158,.tmp 160]) rfl ?_);at_builtin;refine Kd.R_append k61 (w0:=w) w.heap.size rfl (.tmp 158) (.tmp 160) 59 61 (.agg #[(.int .i64 0),(.int .u8 0)]) 16 rfl Try.underlying59 info61 rfl zab zaa u13 a2 (⟨((rd_T61 (rd_L5 I D) L).f0),((rd_T61 (rd_L5 I D) L).f1)⟩:S61) [.int .i64 ((rd_T61 (rd_L5 I D) L).f0),.int .u8 ((rd_T61 (rd_L5 I D) L).f1)] (fun k_=>k_≠X) (fun _=>False) rfl rfl ?aP (fun _ hk=>hk.elim) ?aF ?aO ?aB ?aS ?aL ?_;(case aP=>exact k61_mkM _ _ _ (⟨((rd_T61 (rd_L5 I D) L).f0),((rd_T61 (rd_L5 I D) L).f1)⟩:S61));(case aB=>exact(hbA HB.out));(case aF=>exact(fun k_ hk=>Kd.freshB (g:=X) (o:= .cells #[.int .i64 ((rd_T61 (rd_L5 I D) L).f0),.int .u8 ((rd_T61 (rd_L5 I D) L).f1)] 61 (0,0)) (bkA ab.out) k_ hk));(case aO=>exact(kdA HO_13.out));(case aS=>exact(below_size (hbA HB.out)));(case aL=>have:=oc.out;omega);intro Cz C9 ho hb hg hat;rw[<-pq.out]at ho;have n0_:=aK (Kd.R_over' (kdA HO_372000.out) (Kd.R_typed (kdA HO_13.out)) zab hg);have n1_:=aK (Kd.S_after (ok:=(fun k_=>k_≠X)) (by(with_reducible repeat(first|apply Kd.S_alloc|apply Kd.S_drewN|apply Kd.S_drew));exact Kd.S_mono HO_372001.out (fun _ hk=>⟨hk.2,hk.1⟩)) hg hat);have n2_:=aK (blk_grown (g:=am) (o:= .cells #[.slice a6 Y.length a7,.slice (some an) I.length a8,.slice bc aa.length a9] 25 (0,0)) (bkA G.out) hg (Kd.R_ne HO_13.out G.out zab));have n3_:=aK (blk_grown (g:=ak) (o:= .cells #[.slice none 0 0,.slice none 0 0,.slice none 0 0] 25 (0,0)) (bkA O.out) hg (Kd.R_ne HO_13.out O.out zab));have n4_:=aK (blk_grown (g:=aj) (o:= .cells #[.int .i64 ac,.int .i64 ag,.int .u8 ai,.int .i64 ao] 31 (0,0)) (bkA J.out) hg (Kd.R_ne HO_13.out J.out zab));have n5_:=aK (blk_grown (g:=az) (o:= .cells #[.slice a0 af.length a1,u372001,.slice none 0 0] 25 (0,0)) (bkA U.out) hg (Kd.R_ne HO_13.out U.out zab));have n6_:=aK (blk_grown (g:=X) (o:= .cells #[.int .i64 ((rd_T61 (rd_L5 I D) L).f0),.int .u8 ((rd_T61 (rd_L5 I D) L).f1)] 61 (0,0)) (bkA ab.out) hg (Kd.R_away HO_13.out (fun _ hk=>hk)));have n7_:=aK (hb);have n8_:=aK (ho);clear HO_372000;clear HO_372001;clear G;clear O;clear J;clear U;clear ab;clear HB;clear HO_13;have HO_372000:=n0_;have HO_372001:=n1_;have G:=n2_;have O:=n3_;have J:=n4_;have U:=n5_;have ab:=n6_;have HB:=n7_;have pb:=n8_;clear n0_ n1_ n2_ n3_ n4_ n5_ n6_ n7_ n8_;clear ho hb hg hat))
             go_roundg bx
             case measure=>have:=br.out;have:=bu.out;have:=bm.out;have:=b2.out;have:=b1.out;omega
             case rel=>exact⟨(o5),(true),(wrap64 (L+1)),rsE,rsE,H',⟨by have:=br.out;have:=bu.out;have:=bm.out;have:=b2.out;have:=b1.out;omega⟩,⟨by(with_reducible repeat(first|apply Kd.R_alloc|apply Kd.R_drewN|apply Kd.R_drew));exact Kd.R_mono pb.out (fun _ hk=>trivial)⟩,⟨kdA HO_372000.out⟩,⟨by(with_reducible repeat(first|apply Kd.S_alloc|apply Kd.S_drewN|apply Kd.S_drew));exact Kd.S_mono HO_372001.out (fun _ hk=>hk.2)⟩,⟨bkA G.out⟩,⟨bkA O.out⟩,⟨bkA J.out⟩,⟨bkA U.out⟩,⟨hbA HB.out⟩⟩
            replace jj:=Bool.eq_false_iff.mpr jj;subst jj;rw[if_neg nofT]at H
            by_cases ea:((rd_T61 (rd_L5 I D) L).f0)>(wrap64 ((Y.length:Int)+Z))
            case neg=>
             rw[if_neg ea]at H
             have c134b0:decide ((wrap64 ((Y.length:Int)+Z))<((rd_T61 (rd_L5 I D) L).f0))=false:=decide_eq_false ea;clear ea;by_cases gx:a2.length<8796093022208
             case neg=>rw[if_neg gx]at H;exact absurd H zac
             rw[if_pos gx]at H
             have og:=aK gx;clear gx;obtain⟨o7,fi⟩: ∃y_:List (S61),y_=(a2++ [(⟨((rd_T61 (rd_L5 I D) L).f0),((rd_T61 (rd_L5 I D) L).f1)⟩:S61)]):=⟨_,rfl⟩
             replace H:(recoupref22_Once.l2 bx Z (wrap64 ((Y.length:Int)+Z)) D b7 o7 false (wrap64 (L+1)) Y I aa ac ag ai ao af ae)=some (r1,r2,r3,r4,r5):=zH fi H
             have pv:=aK fi;clear fi;have H':=aK H;clear H;have wj:=bi.out;have yb:=aq.out;have wk:=bj.out;have yc:=ar.out;have wl:=bk.out;have yd:=au.out;have wm:=bl.out;have ye:=av.out;obtain⟨j9,ka,k5,k6⟩:=cell2 ab
             go_wp2_with (first|((with_reducible refine gate_builtin (b:= .append) (xs:= #[.tmp 158,.tmp 160]) rfl ?_);at_builtin;refine Kd.R_append k61 (w0:=w) w.heap.size rfl (.tmp 158) (.tmp 160) 59 61 (.agg #[(.int .i64 0),(.int .u8 0)]) 16 rfl Try.underlying59 info61 rfl zab zaa u13 a2 (⟨((rd_T61 (rd_L5 I D) L).f0),((rd_T61 (rd_L5 I D) L).f1)⟩:S61) [.int .i64 ((rd_T61 (rd_L5 I D) L).f0),.int .u8 ((rd_T61 (rd_L5 I D) L).f1)] (fun k_=>k_≠X) (fun _=>False) rfl rfl ?aP (fun _ hk=>hk.elim) ?aF ?aO ?aB ?aS ?aL ?_;(case aP=>exact k61_mkM _ _ _ (⟨((rd_T61 (rd_L5 I D) L).f0),((rd_T61 (rd_L5 I D) L).f1)⟩:S61));(case aB=>exact(hbA HB.out));(case aF=>exact(fun k_ hk=>Kd.freshB (g:=X) (o:= .cells #[.int .i64 ((rd_T61 (rd_L5 I D) L).f0),.int .u8 ((rd_T61 (rd_L5 I D) L).f1)] 61 (0,0)) (bkA ab.out) k_ hk));(case aO=>exact(kdA HO_13.out));(case aS=>exact(below_size (hbA HB.out)));(case aL=>have:=og.out;omega);intro C1 Dd ho hb hg hat;rw[<-pv.out]at ho;have n0_:=aK (Kd.R_over' (kdA HO_372000.out) (Kd.R_typed (kdA HO_13.out)) zab hg);have n1_:=aK (Kd.S_after (ok:=(fun k_=>k_≠X)) (by(with_reducible repeat(first|apply Kd.S_alloc|apply Kd.S_drewN|apply Kd.S_drew));exact Kd.S_mono HO_372001.out (fun _ hk=>⟨hk.2,hk.1⟩)) hg hat);have n2_:=aK (blk_grown (g:=am) (o:= .cells #[.slice a6 Y.length a7,.slice (some an) I.length a8,.slice bc aa.length a9] 25 (0,0)) (bkA G.out) hg (Kd.R_ne HO_13.out G.out zab));have n3_:=aK (blk_grown (g:=ak) (o:= .cells #[.slice none 0 0,.slice none 0 0,.slice none 0 0] 25 (0,0)) (bkA O.out) hg (Kd.R_ne HO_13.out O.out zab));have n4_:=aK (blk_grown (g:=aj) (o:= .cells #[.int .i64 ac,.int .i64 ag,.int .u8 ai,.int .i64 ao] 31 (0,0)) (bkA J.out) hg (Kd.R_ne HO_13.out J.out zab));have n5_:=aK (blk_grown (g:=az) (o:= .cells #[.slice a0 af.length a1,u372001,.slice none 0 0] 25 (0,0)) (bkA U.out) hg (Kd.R_ne HO_13.out U.out zab));have n6_:=aK (blk_grown (g:=X) (o:= .cells #[.int .i64 ((rd_T61 (rd_L5 I D) L).f0),.int .u8 ((rd_T61 (rd_L5 I D) L).f1)] 61 (0,0)) (bkA ab.out) hg (Kd.R_away HO_13.out (fun _ hk=>hk)));have n7_:=aK (hb);have n8_:=aK (ho);clear HO_372000;clear HO_372001;clear G;clear O;clear J;clear U;clear ab;clear HB;clear HO_13;have HO_372000:=n0_;have HO_372001:=n1_;have G:=n2_;have O:=n3_;have J:=n4_;have U:=n5_;have ab:=n6_;have HB:=n7_;have pd:=n8_;clear n0_ n1_ n2_ n3_ n4_ n5_ n6_ n7_ n8_;clear ho hb hg hat))
             go_roundg bx
             case measure=>have:=br.out;have:=bu.out;have:=bm.out;have:=b2.out;have:=b1.out;omega
             case rel=>exact⟨(o7),(false),(wrap64 (L+1)),rsE,rsE,H',⟨by have:=br.out;have:=bu.out;have:=bm.out;have:=b2.out;have:=b1.out;omega⟩,⟨by(with_reducible repeat(first|apply Kd.R_alloc|apply Kd.R_drewN|apply Kd.R_drew));exact Kd.R_mono pd.out (fun _ hk=>trivial)⟩,⟨kdA HO_372000.out⟩,⟨by(with_reducible repeat(first|apply Kd.S_alloc|apply Kd.S_drewN|apply Kd.S_drew));exact Kd.S_mono HO_372001.out (fun _ hk=>hk.2)⟩,⟨bkA G.out⟩,⟨bkA O.out⟩,⟨bkA J.out⟩,⟨bkA U.out⟩,⟨hbA HB.out⟩⟩
            rw[if_pos ea]at H
            have c134b0:decide ((wrap64 ((Y.length:Int)+Z))<((rd_T61 (rd_L5 I D) L).f0))=true:=decide_eq_true ea;clear ea;by_cases gt:0<=D
            case neg=>rw[if_neg gt]at H;exact absurd H zac
            rw[if_pos gt]at H
            have c135b0:decide (0<=D)=true:=decide_eq_true gt;clear gt;by_cases gu:D<(I.length:Int)
            case neg=>rw[if_neg gu]at H;exact absurd H zac
            rw[if_pos gu]at H
            have c136b0:decide (D<(I.length:Int))=true:=decide_eq_true gu;clear gu;obtain⟨ip,uv,H⟩:=bindO H
            (try dsimp only at H)
            by_cases gv:a2.length<8796093022208
            case neg=>rw[if_neg gv]at H;exact absurd H zac
            rw[if_pos gv]at H
            have od:=aK gv;clear gv;obtain⟨iy,fg⟩: ∃y_:List (S61),y_=(a2++ [(⟨(wrap64 ((Y.length:Int)+Z)),ip⟩:S61)]):=⟨_,rfl⟩
            replace H:(if iy.length<8796093022208 then(recoupref22_Once.l2 bx Z (wrap64 ((Y.length:Int)+Z)) D b7 (iy++ [(⟨((rd_T61 (rd_L5 I D) L).f0),((rd_T61 (rd_L5 I D) L).f1)⟩:S61)]) true (wrap64 (L+1)) Y I aa ac ag ai ao af ae)else(none))=some (r1,r2,r3,r4,r5):=zH fg H
            have pr:=aK fg;clear fg;by_cases gw:iy.length<8796093022208
            case neg=>rw[if_neg gw]at H;exact absurd H zac
            rw[if_pos gw]at H
            have oe:=aK gw;clear gw;obtain⟨o6,fh⟩: ∃y_:List (S61),y_=(iy++ [(⟨((rd_T61 (rd_L5 I D) L).f0),((rd_T61 (rd_L5 I D) L).f1)⟩:S61)]):=⟨_,rfl⟩
            replace H:(recoupref22_Once.l2 bx Z (wrap64 ((Y.length:Int)+Z)) D b7 o6 true (wrap64 (L+1)) Y I aa ac ag ai ao af ae)=some (r1,r2,r3,r4,r5):=zH fh H
            have pt:=aK fh;clear fh;have H':=aK H;clear H;have wf:=bi.out;have x7:=aq.out;have wg:=bj.out;have x8:=ar.out;have wh:=bk.out;have x9:=au.out;have wi:=bl.out;have ya:=av.out;obtain⟨q0,q1,ta,tb⟩:=cell2 ab
            try go_wp2
            replace HO_13:=aK (Kd.R_drew HO_13.out);replace HO_372000:=aK (Kd.R_drew HO_372000.out);replace HO_372001:=aK (Kd.S_drew HO_372001.out);replace G:=aK (blk_drew G.out);replace O:=aK (blk_drew O.out);replace J:=aK (blk_drew J.out);replace U:=aK (blk_drew U.out);replace ab:=aK (blk_drew ab.out);replace HB:=aK (below_drew1 HB.out);have jw:0<=(D:Int):=of_decide_eq_true asE;have j0:D<(I.length:Int):=of_decide_eq_true asE;obtain⟨p5,jd,js,vf,b4,ig,g9⟩:=at_L5 bs.out D jw j0;have bp:=b4;obtain rfl:an=p5:=(by injection vf)
            replace b4:=(HB.out.cell (World.block_lt_of_cell? w _ b4)).trans b4;have gs:=aK g9;have me:=aK ig;clear g9 ig;replace jw:=eq_true jw;replace j0:=eq_true j0;refine start_ (n:=14) (S:=fun w'=>w'.cell? ⟨am,0,none⟩=some (.slice a6 Y.length a7)/\w'.cell? ⟨am,1,none⟩=some (.slice (some an) I.length a8)/\w'.cell? ⟨am,2,none⟩=some (.slice bc aa.length a9)/\w'.cell? ⟨aj,0,none⟩=some (.int .i64 ac)/\w'.cell? ⟨aj,1,none⟩=some (.int .i64 ag)/\w'.cell? ⟨aj,2,none⟩=some (.int .u8 ai)/\w'.cell? ⟨aj,3,none⟩=some (.int .i64 ao)/\w'.cell? (an.add (D).toNat)=some (.slice jd (rd_L5 I D).length js)) (ds:= []) (.replicate 14 false) zad rfl rfl (z3k G (z3k J ⟨(blk_cell J.out 3).trans rfl,((HB.out.cell (World.block_lt_of_cell? w _ bp)).trans bp)⟩)) (fun hHeld=>?_);refine with_tabW recoupref22_Once.tab27 recoupref22_Once.bits27 (fun HT_ HW_=>?_);generalize wc.drew=Da at HO_13 HO_372000 HO_372001 G O J U ab HB gs b4 hHeld⊢;refine pu 0 (some 145) (mB 14 1) HT_ ?_;refine pu 1 (some 146) (mB 14 3) HT_ ?_;refine pu 2 (some 147) (mB 14 7) HT_ ?_;refine pu 4 (some 149) (mB 14 23) HT_ ?_;refine pu 7 (some 152) (mB 14 151) HT_ ?_;refine tk8 3 (some 148) (mB 14 159) HT_ HW_ hHeld ?_;refine pu 5 (some 150) (mB 14 191) HT_ ?_;refine tk8 6 (some 151) (mB 14 255) HT_ HW_ hHeld ?_;refine tk8 8 (some 153) (mB 14 511) HT_ HW_ hHeld ?_;refine zoh 9 (some 154) (mB 14 1023) HT_ fun K hK=>?_;refine goes_ Try.func33 zad rfl #[.slice jd (rd_L5 I D).length js,.int .i64 ac] zae rfl rfl (by(try simp only[List.map_toArray,List.map_cons,List.map_nil]);first|done|rfl|(simp only[List.length_drop,List.length_take];rfl)) ?_;with_reducible refine(recoupref22_by.calls bx _ _ (rd_L5 I D) ac ip _ ?side1 ?side2 uv.out).mono ?_
            (case side1=>exact kcB gs HB)
            (case side2=>exact me.out)
            rintro e w' ⟨rfl,⟨nd,rfl⟩⟩;refine⟨_,rfl,?_⟩;refine hK.out _ _ (z3k G (z3k J ⟨(blk_cell J.out 3).trans rfl,((HB.out.cell (World.block_lt_of_cell? w _ bp)).trans bp)⟩)) (fun hHeld=>?_);clear hK K;refine znm (some 154) ?_;refine pu 10 (some 155) (mB 14 2047) HT_ ?_;refine zoh 11 (some 156) (mB 14 4095) HT_ fun K hK=>?_;refine value_ (w1:=?_) (v:=?_) zae rfl ?_ ?_;rotate_left 2
            ·go_simp;constructor
             ·rfl
             ·rfl
            refine hK.out _ _ ⟨(blk_cell (blk_alloc G.out _) 0).trans rfl,(blk_cell (blk_alloc G.out _) 1).trans rfl,(blk_cell (blk_alloc G.out _) 2).trans rfl,(blk_cell (blk_alloc J.out _) 0).trans rfl,(blk_cell (blk_alloc J.out _) 1).trans rfl,(blk_cell (blk_alloc J.out _) 2).trans rfl,(blk_cell (blk_alloc J.out _) 3).trans rfl,(World.cell?_alloc_lt _ _ _ (World.block_lt_of_cell? _ _ (((HB.out.cell (World.block_lt_of_cell? w _ bp)).trans bp)))).trans (((HB.out.cell (World.block_lt_of_cell? w _ bp)).trans bp))⟩ (fun hHeld=>?_);clear hK K;refine znm (some 156) ?_;refine zoh 12 (some 157) (mB 14 8191) HT_ fun K hK=>?_;refine Kd.R_append_step k61 (w0:=w) w.heap.size zae (.tmp 145) (.tmp 156) 59 61 (.agg #[(.int .i64 0),(.int .u8 0)]) 16 rfl Try.underlying59 info61 rfl zab zaa u13 a2 (⟨(wrap64 ((Y.length:Int)+Z)),ip⟩:S61) [.int .i64 (wrap64 ((Y.length:Int)+Z)),.int .u8 ip] (fun k_=>k_≠X) (fun _=>False) rfl rfl ?aP (fun _ hk=>hk.elim) ?aF ?aO ?aB ?aS ?aL ?_
            (case aP=>exact k61_mkM _ _ _ (⟨(wrap64 ((Y.length:Int)+Z)),ip⟩:S61))
            (case aB=>exact(hbA HB.out))
            (case aF=>exact(fun k_ hk=>Kd.freshB (g:=X) (o:= .cells #[.int .i64 ((rd_T61 (rd_L5 I D) L).f0),.int .u8 ((rd_T61 (rd_L5 I D) L).f1)] 61 (0,0)) (bkA ab.out) k_ hk))
            (case aO=>exact(kdA HO_13.out))
            (case aS=>exact(below_size (hbA HB.out)))
            (case aL=>have:=od.out;omega)
            intro vv Db ho hb hg hat;rw[<-pr.out]at ho
            have n0_:=aK (Kd.R_over' (kdA HO_372000.out) (Kd.R_typed (kdA HO_13.out)) zab hg);have n1_:=aK (Kd.S_after (ok:=(fun k_=>k_≠X)) (by(with_reducible repeat(first|apply Kd.S_alloc|apply Kd.S_drewN|apply Kd.S_drew));exact Kd.S_mono HO_372001.out (fun _ hk=>⟨hk.2,hk.1⟩)) hg hat);have n2_:=aK (blk_grown (g:=am) (o:= .cells #[.slice a6 Y.length a7,.slice (some an) I.length a8,.slice bc aa.length a9] 25 (0,0)) (bkA G.out) hg (Kd.R_ne HO_13.out G.out zab));have n3_:=aK (blk_grown (g:=ak) (o:= .cells #[.slice none 0 0,.slice none 0 0,.slice none 0 0] 25 (0,0)) (bkA O.out) hg (Kd.R_ne HO_13.out O.out zab));have n4_:=aK (blk_grown (g:=aj) (o:= .cells #[.int .i64 ac,.int .i64 ag,.int .u8 ai,.int .i64 ao] 31 (0,0)) (bkA J.out) hg (Kd.R_ne HO_13.out J.out zab));have n5_:=aK (blk_grown (g:=az) (o:= .cells #[.slice a0 af.length a1,u372001,.slice none 0 0] 25 (0,0)) (bkA U.out) hg (Kd.R_ne HO_13.out U.out zab));have n6_:=aK (blk_grown (g:=X) (o:= .cells #[.int .i64 ((rd_T61 (rd_L5 I D) L).f0),.int .u8 ((rd_T61 (rd_L5 I D) L).f1)] 61 (0,0)) (bkA ab.out) hg (Kd.R_away HO_13.out (fun _ hk=>hk)));have n7_:=aK (hb);have n8_:=aK (ho);clear HO_372000;clear HO_372001;clear G;clear O;clear J;clear U;clear ab;clear HB;clear HO_13;have HO_372000:=n0_;have HO_372001:=n1_;have G:=n2_;have O:=n3_;have J:=n4_;have U:=n5_;have ab:=n6_;have HB:=n7_;have ca:=n8_;clear n0_ n1_ n2_ n3_ n4_ n5_ n6_ n7_ n8_;clear ho hb hg hat;refine hK.out _ _ (z3k G (z3k J ⟨(blk_cell J.out 3).trans rfl,((HB.out.cell (World.block_lt_of_cell? w _ bp)).trans bp)⟩)) (fun hHeld=>?_);clear hK K;refine znm (some 157) ?_;refine pu 13 (some 13) (mB 14 16383) HT_ ?_;refine done_ (done_of HT_.out zad) ?_;obtain⟨j7,j8,kz,k0⟩:=cell2 ab
            try go_wp2_with (first|((with_reducible refine gate_builtin (b:= .append) (xs:= #[.tmp 158,.tmp 160]) rfl ?_);at_builtin;refine Kd.R_append k61 (w0:=w) w.heap.size rfl (.tmp 158) (.tmp 160) 59 61 (.agg #[(.int .i64 0),(.int .u8 0)]) 16 rfl Try.underlying59 info61 rfl zab zaa vv iy (⟨((rd_T61 (rd_L5 I D) L).f0),((rd_T61 (rd_L5 I D) L).f1)⟩:S61) [.int .i64 ((rd_T61 (rd_L5 I D) L).f0),.int .u8 ((rd_T61 (rd_L5 I D) L).f1)] (fun k_=>k_≠X) (fun _=>False) rfl rfl ?aP (fun _ hk=>hk.elim) ?aF ?aO ?aB ?aS ?aL ?_;(case aP=>exact k61_mkM _ _ _ (⟨((rd_T61 (rd_L5 I D) L).f0),((rd_T61 (rd_L5 I D) L).f1)⟩:S61));(case aB=>exact(hbA HB.out));(case aF=>exact(fun k_ hk=>Kd.freshB (g:=X) (o:= .cells #[.int .i64 ((rd_T61 (rd_L5 I D) L).f0),.int .u8 ((rd_T61 (rd_L5 I D) L).f1)] 61 (0,0)) (bkA ab.out) k_ hk));(case aO=>exact(kdA ca.out));(case aS=>exact(below_size (hbA HB.out)));(case aL=>have:=oe.out;omega);intro C0 Dc ho hb hg hat;rw[<-pt.out]at ho;have n0_:=aK (Kd.R_over' (kdA HO_372000.out) (Kd.R_typed (kdA ca.out)) zab hg);have n1_:=aK (Kd.S_after (ok:=(fun k_=>k_≠X)) (by(with_reducible repeat(first|apply Kd.S_alloc|apply Kd.S_drewN|apply Kd.S_drew));exact HO_372001.out) hg hat);have n2_:=aK (blk_grown (g:=am) (o:= .cells #[.slice a6 Y.length a7,.slice (some an) I.length a8,.slice bc aa.length a9] 25 (0,0)) (bkA G.out) hg (Kd.R_ne ca.out G.out zab));have n3_:=aK (blk_grown (g:=ak) (o:= .cells #[.slice none 0 0,.slice none 0 0,.slice none 0 0] 25 (0,0)) (bkA O.out) hg (Kd.R_ne ca.out O.out zab));have n4_:=aK (blk_grown (g:=aj) (o:= .cells #[.int .i64 ac,.int .i64 ag,.int .u8 ai,.int .i64 ao] 31 (0,0)) (bkA J.out) hg (Kd.R_ne ca.out J.out zab));have n5_:=aK (blk_grown (g:=az) (o:= .cells #[.slice a0 af.length a1,u372001,.slice none 0 0] 25 (0,0)) (bkA U.out) hg (Kd.R_ne ca.out U.out zab));have n6_:=aK (blk_grown (g:=X) (o:= .cells #[.int .i64 ((rd_T61 (rd_L5 I D) L).f0),.int .u8 ((rd_T61 (rd_L5 I D) L).f1)] 61 (0,0)) (bkA ab.out) hg (Kd.R_away ca.out (fun _ hk=>hk)));have n7_:=aK (hb);have n8_:=aK (ho);clear HO_372000;clear HO_372001;clear G;clear O;clear J;clear U;clear ab;clear HB;clear ca;have HO_372000:=n0_;have HO_372001:=n1_;have G:=n2_;have O:=n3_;have J:=n4_;have U:=n5_;have ab:=n6_;have HB:=n7_;have pc:=n8_;clear n0_ n1_ n2_ n3_ n4_ n5_ n6_ n7_ n8_;clear ho hb hg hat))
            go_roundg bx
            case measure=>have:=br.out;have:=bu.out;have:=bm.out;have:=b2.out;have:=b1.out;omega
            case rel=>exact⟨(o6),(true),(wrap64 (L+1)),rsE,rsE,H',⟨by have:=br.out;have:=bu.out;have:=bm.out;have:=b2.out;have:=b1.out;omega⟩,⟨by(with_reducible repeat(first|apply Kd.R_alloc|apply Kd.R_drewN|apply Kd.R_drew));exact Kd.R_mono pc.out (fun _ hk=>trivial)⟩,⟨kdA HO_372000.out⟩,⟨by(with_reducible repeat(first|apply Kd.S_alloc|apply Kd.S_drewN|apply Kd.S_drew));exact Kd.S_mono HO_372001.out (fun _ hk=>hk.2)⟩,⟨bkA G.out⟩,⟨bkA O.out⟩,⟨bkA J.out⟩,⟨bkA U.out⟩,⟨hbA HB.out⟩⟩
           rw[if_pos j6]at H
           have c94b0:decide ((wrap64 ((Y.length:Int)+Z))<=((rd_T61 (rd_L5 I D) L).f0))=true:=decide_eq_true j6;clear j6;by_cases ou:cr=true
           ·subst ou;rw[if_pos rfl]at H
            by_cases ov:a2.length<8796093022208
            case neg=>rw[if_neg ov]at H;exact absurd H zac
            rw[if_pos ov]at H
            have pg:=aK ov;clear ov;obtain⟨o2,fb⟩: ∃y_:List (S61),y_=(a2++ [(⟨wrap64 (((rd_T61 (rd_L5 I D) L).f0)+1),((rd_T61 (rd_L5 I D) L).f1)⟩:S61)]):=⟨_,rfl⟩
            replace H:(recoupref22_Once.l2 bx Z (wrap64 ((Y.length:Int)+Z)) D b7 o2 true (wrap64 (L+1)) Y I aa ac ag ai ao af ae)=some (r1,r2,r3,r4,r5):=zH fb H
            have pm:=aK fb;clear fb;have H':=aK H;clear H;have An:=bi.out;have Br:=aq.out;have Ao:=bj.out;have Bs:=ar.out;have Ap:=bk.out;have Bt:=au.out;have vz:=bl.out;have xu:=av.out;obtain⟨qp,qq,sq,sr⟩:=cell2 ab
            go_wp2_with (first|((with_reducible refine gate_builtin (b:= .append) (xs:= #[.tmp 158,.tmp 160]) rfl ?_);at_builtin;refine Kd.R_append k61 (w0:=w) w.heap.size rfl (.tmp 158) (.tmp 160) 59 61 (.agg #[(.int .i64 0),(.int .u8 0)]) 16 rfl Try.underlying59 info61 rfl zab zaa u13 a2 (⟨wrap64 (((rd_T61 (rd_L5 I D) L).f0)+1),((rd_T61 (rd_L5 I D) L).f1)⟩:S61) [.int .i64 (wrap64 (((rd_T61 (rd_L5 I D) L).f0)+1)),.int .u8 ((rd_T61 (rd_L5 I D) L).f1)] (fun k_=>k_≠X) (fun _=>False) rfl (by first|(go_simp;done)|(go_simp;rfl)) ?aP (fun _ hk=>hk.elim) ?aF ?aO ?aB ?aS ?aL ?_;(case aP=>exact k61_mkM _ _ _ (⟨wrap64 (((rd_T61 (rd_L5 I D) L).f0)+1),((rd_T61 (rd_L5 I D) L).f1)⟩:S61));(case aB=>exact(hbA HB.out));(case aF=>exact(fun k_ hk=>Kd.freshB (g:=X) (o:= .cells #[.int .i64 (wrap64 (((rd_T61 (rd_L5 I D) L).f0)+1)),.int .u8 ((rd_T61 (rd_L5 I D) L).f1)] 61 (0,0)) za4 k_ hk));(case aO=>exact(by(with_reducible repeat(first|apply Kd.R_alloc|apply Kd.R_drewN|apply Kd.R_drew));exact Kd.R_mono (Kd.R_far (p:=⟨X,0,none⟩) (Kd.R_mono HO_13.out (fun k_ hk=>(⟨hk,hk⟩:_/\k_≠X))) (fun _ hk=>hk.2) (.int .i64 (wrap64 (((rd_T61 (rd_L5 I D) L).f0)+1)))) (fun _ hk=>hk.1)));(case aS=>exact(below_size (hbA HB.out)));(case aL=>have:=pg.out;omega);intro Cw C4 ho hb hg hat;rw[<-pm.out]at ho;have n0_:=aK (Kd.R_over' (by(with_reducible repeat(first|apply Kd.R_alloc|apply Kd.R_drewN|apply Kd.R_drew));exact(Kd.R_mono (Kd.R_far (p:=⟨X,0,none⟩) (Kd.R_types HO_372000.out ab.out zab) (fun _ hk=>hk.2) (.int .i64 (wrap64 (((rd_T61 (rd_L5 I D) L).f0)+1)))) (fun _ h_=>h_.1))) (Kd.R_typed (by(with_reducible repeat(first|apply Kd.R_alloc|apply Kd.R_drewN|apply Kd.R_drew));exact(Kd.R_mono (Kd.R_far (p:=⟨X,0,none⟩) (Kd.R_mono HO_13.out (fun k_ hk=>(⟨hk,hk⟩:_/\k_≠X))) (fun _ hk=>hk.2) (.int .i64 (wrap64 (((rd_T61 (rd_L5 I D) L).f0)+1)))) (fun _ h_=>h_.1)))) zab hg);have n1_:=aK (Kd.S_after (ok:=(fun k_=>k_≠X)) (by(with_reducible repeat(first|apply Kd.S_alloc|apply Kd.S_drewN|apply Kd.S_drew));exact Kd.S_mono (Kd.S_far (p:=⟨X,0,none⟩) (Kd.S_mono HO_372001.out (fun k_ hk=>(⟨hk,hk.2⟩:_/\k_≠X))) (fun _ hk=>hk.2) (.int .i64 (wrap64 (((rd_T61 (rd_L5 I D) L).f0)+1)))) (fun _ hk=>⟨hk.1.2,hk.1.1⟩)) hg hat);have n2_:=aK (blk_grown (g:=am) (o:= .cells #[.slice a6 Y.length a7,.slice (some an) I.length a8,.slice bc aa.length a9] 25 (0,0)) zb7 hg (Kd.R_ne HO_13.out G.out zab));have n3_:=aK (blk_grown (g:=ak) (o:= .cells #[.slice none 0 0,.slice none 0 0,.slice none 0 0] 25 (0,0)) zb6 hg (Kd.R_ne HO_13.out O.out zab));have n4_:=aK (blk_grown (g:=aj) (o:= .cells #[.int .i64 ac,.int .i64 ag,.int .u8 ai,.int .i64 ao] 31 (0,0)) zb5 hg (Kd.R_ne HO_13.out J.out zab));have n5_:=aK (blk_grown (g:=az) (o:= .cells #[.slice a0 af.length a1,u372001,.slice none 0 0] 25 (0,0)) zb4 hg (Kd.R_ne HO_13.out U.out zab));have n6_:=aK (blk_grown (g:=X) (o:= .cells #[.int .i64 (wrap64 (((rd_T61 (rd_L5 I D) L).f0)+1)),.int .u8 ((rd_T61 (rd_L5 I D) L).f1)] 61 (0,0)) za4 hg (Kd.R_away HO_13.out (fun _ hk=>hk)));have n7_:=aK (hb);have n8_:=aK (ho);clear HO_372000;clear HO_372001;clear G;clear O;clear J;clear U;clear ab;clear HB;clear HO_13;have HO_372000:=n0_;have HO_372001:=n1_;have G:=n2_;have O:=n3_;have J:=n4_;have U:=n5_;have ab:=n6_;have HB:=n7_;have o8:=n8_;clear n0_ n1_ n2_ n3_ n4_ n5_ n6_ n7_ n8_;clear ho hb hg hat))
            go_roundg bx
            case measure=>have:=br.out;have:=bu.out;have:=bm.out;have:=b2.out;have:=b1.out;omega
            case rel=>exact⟨(o2),(true),(wrap64 (L+1)),rsE,rsE,H',⟨by have:=br.out;have:=bu.out;have:=bm.out;have:=b2.out;have:=b1.out;omega⟩,⟨by(with_reducible repeat(first|apply Kd.R_alloc|apply Kd.R_drewN|apply Kd.R_drew));exact Kd.R_mono o8.out (fun _ hk=>trivial)⟩,⟨kdA HO_372000.out⟩,⟨by(with_reducible repeat(first|apply Kd.S_alloc|apply Kd.S_drewN|apply Kd.S_drew));exact Kd.S_mono HO_372001.out (fun _ hk=>hk.2)⟩,⟨bkA G.out⟩,⟨bkA O.out⟩,⟨bkA J.out⟩,⟨bkA U.out⟩,⟨hbA HB.out⟩⟩
           replace ou:=Bool.eq_false_iff.mpr ou;subst ou;rw[if_neg nofT]at H
           by_cases ft:(wrap64 (((rd_T61 (rd_L5 I D) L).f0)+1))>(wrap64 ((Y.length:Int)+Z))
           case neg=>
            rw[if_neg ft]at H
            have c103b0:decide ((wrap64 ((Y.length:Int)+Z))<(wrap64 (((rd_T61 (rd_L5 I D) L).f0)+1)))=false:=decide_eq_false ft;clear ft;by_cases ji:a2.length<8796093022208
            case neg=>rw[if_neg ji]at H;exact absurd H zac
            rw[if_pos ji]at H
            have ob:=aK ji;clear ji;obtain⟨o4,fe⟩: ∃y_:List (S61),y_=(a2++ [(⟨wrap64 (((rd_T61 (rd_L5 I D) L).f0)+1),((rd_T61 (rd_L5 I D) L).f1)⟩:S61)]):=⟨_,rfl⟩
            replace H:(recoupref22_Once.l2 bx Z (wrap64 ((Y.length:Int)+Z)) D b7 o4 false (wrap64 (L+1)) Y I aa ac ag ai ao af ae)=some (r1,r2,r3,r4,r5):=zH fe H
            have pp:=aK fe;clear fe;have H':=aK H;clear H;have v5:=bi.out;have xz:=aq.out;have v6:=bj.out;have x0:=ar.out;have v7:=bk.out;have x1:=au.out;have v9:=bl.out;have x2:=av.out;obtain⟨qw,qx,sw,sx⟩:=cell2 ab
            go_wp2_with (first|((with_reducible refine gate_builtin (b:= .append) (xs:= #[.tmp 158,.tmp 160]) rfl ?_);at_builtin;refine Kd.R_append k61 (w0:=w) w.heap.size rfl (.tmp 158) (.tmp 160) 59 61 (.agg #[(.int .i64 0),(.int .u8 0)]) 16 rfl Try.underlying59 info61 rfl zab zaa u13 a2 (⟨wrap64 (((rd_T61 (rd_L5 I D) L).f0)+1),((rd_T61 (rd_L5 I D) L).f1)⟩:S61) [.int .i64 (wrap64 (((rd_T61 (rd_L5 I D) L).f0)+1)),.int .u8 ((rd_T61 (rd_L5 I D) L).f1)] (fun k_=>k_≠X) (fun _=>False) rfl (by first|(go_simp;done)|(go_simp;rfl)) ?aP (fun _ hk=>hk.elim) ?aF ?aO ?aB ?aS ?aL ?_;(case aP=>exact k61_mkM _ _ _ (⟨wrap64 (((rd_T61 (rd_L5 I D) L).f0)+1),((rd_T61 (rd_L5 I D) L).f1)⟩:S61));(case aB=>exact(hbA HB.out));(case aF=>exact(fun k_ hk=>Kd.freshB (g:=X) (o:= .cells #[.int .i64 (wrap64 (((rd_T61 (rd_L5 I D) L).f0)+1)),.int .u8 ((rd_T61 (rd_L5 I D) L).f1)] 61 (0,0)) za4 k_ hk));(case aO=>exact(by(with_reducible repeat(first|apply Kd.R_alloc|apply Kd.R_drewN|apply Kd.R_drew));exact Kd.R_mono (Kd.R_far (p:=⟨X,0,none⟩) (Kd.R_mono HO_13.out (fun k_ hk=>(⟨hk,hk⟩:_/\k_≠X))) (fun _ hk=>hk.2) (.int .i64 (wrap64 (((rd_T61 (rd_L5 I D) L).f0)+1)))) (fun _ hk=>hk.1)));(case aS=>exact(below_size (hbA HB.out)));(case aL=>have:=ob.out;omega);intro Cy C8 ho hb hg hat;rw[<-pp.out]at ho;have n0_:=aK (Kd.R_over' (by(with_reducible repeat(first|apply Kd.R_alloc|apply Kd.R_drewN|apply Kd.R_drew));exact(Kd.R_mono (Kd.R_far (p:=⟨X,0,none⟩) (Kd.R_types HO_372000.out ab.out zab) (fun _ hk=>hk.2) (.int .i64 (wrap64 (((rd_T61 (rd_L5 I D) L).f0)+1)))) (fun _ h_=>h_.1))) (Kd.R_typed (by(with_reducible repeat(first|apply Kd.R_alloc|apply Kd.R_drewN|apply Kd.R_drew));exact(Kd.R_mono (Kd.R_far (p:=⟨X,0,none⟩) (Kd.R_mono HO_13.out (fun k_ hk=>(⟨hk,hk⟩:_/\k_≠X))) (fun _ hk=>hk.2) (.int .i64 (wrap64 (((rd_T61 (rd_L5 I D) L).f0)+1)))) (fun _ h_=>h_.1)))) zab hg);have n1_:=aK (Kd.S_after (ok:=(fun k_=>k_≠X)) (by(with_reducible repeat(first|apply Kd.S_alloc|apply Kd.S_drewN|apply Kd.S_drew));exact Kd.S_mono (Kd.S_far (p:=⟨X,0,none⟩) (Kd.S_mono HO_372001.out (fun k_ hk=>(⟨hk,hk.2⟩:_/\k_≠X))) (fun _ hk=>hk.2) (.int .i64 (wrap64 (((rd_T61 (rd_L5 I D) L).f0)+1)))) (fun _ hk=>⟨hk.1.2,hk.1.1⟩)) hg hat);have n2_:=aK (blk_grown (g:=am) (o:= .cells #[.slice a6 Y.length a7,.slice (some an) I.length a8,.slice bc aa.length a9] 25 (0,0)) zb7 hg (Kd.R_ne HO_13.out G.out zab));have n3_:=aK (blk_grown (g:=ak) (o:= .cells #[.slice none 0 0,.slice none 0 0,.slice none 0 0] 25 (0,0)) zb6 hg (Kd.R_ne HO_13.out O.out zab));have n4_:=aK (blk_grown (g:=aj) (o:= .cells #[.int .i64 ac,.int .i64 ag,.int .u8 ai,.int .i64 ao] 31 (0,0)) zb5 hg (Kd.R_ne HO_13.out J.out zab));have n5_:=aK (blk_grown (g:=az) (o:= .cells #[.slice a0 af.length a1,u372001,.slice none 0 0] 25 (0,0)) zb4 hg (Kd.R_ne HO_13.out U.out zab));have n6_:=aK (blk_grown (g:=X) (o:= .cells #[.int .i64 (wrap64 (((rd_T61 (rd_L5 I D) L).f0)+1)),.int .u8 ((rd_T61 (rd_L5 I D) L).f1)] 61 (0,0)) za4 hg (Kd.R_away HO_13.out (fun _ hk=>hk)));have n7_:=aK (hb);have n8_:=aK (ho);clear HO_372000;clear HO_372001;clear G;clear O;clear J;clear U;clear ab;clear HB;clear HO_13;have HO_372000:=n0_;have HO_372001:=n1_;have G:=n2_;have O:=n3_;have J:=n4_;have U:=n5_;have ab:=n6_;have HB:=n7_;have pa:=n8_;clear n0_ n1_ n2_ n3_ n4_ n5_ n6_ n7_ n8_;clear ho hb hg hat))
            go_roundg bx
            case measure=>have:=br.out;have:=bu.out;have:=bm.out;have:=b2.out;have:=b1.out;omega
            case rel=>exact⟨(o4),(false),(wrap64 (L+1)),rsE,rsE,H',⟨by have:=br.out;have:=bu.out;have:=bm.out;have:=b2.out;have:=b1.out;omega⟩,⟨by(with_reducible repeat(first|apply Kd.R_alloc|apply Kd.R_drewN|apply Kd.R_drew));exact Kd.R_mono pa.out (fun _ hk=>trivial)⟩,⟨kdA HO_372000.out⟩,⟨by(with_reducible repeat(first|apply Kd.S_alloc|apply Kd.S_drewN|apply Kd.S_drew));exact Kd.S_mono HO_372001.out (fun _ hk=>hk.2)⟩,⟨bkA G.out⟩,⟨bkA O.out⟩,⟨bkA J.out⟩,⟨bkA U.out⟩,⟨hbA HB.out⟩⟩
           rw[if_pos ft]at H
           have c103b0:decide ((wrap64 ((Y.length:Int)+Z))<(wrap64 (((rd_T61 (rd_L5 I D) L).f0)+1)))=true:=decide_eq_true ft;clear ft;by_cases je:0<=D
           case neg=>rw[if_neg je]at H;exact absurd H zac
           rw[if_pos je]at H
           have c104b0:decide (0<=D)=true:=decide_eq_true je;clear je;by_cases jf:D<(I.length:Int)
           case neg=>rw[if_neg jf]at H;exact absurd H zac
           rw[if_pos jf]at H
           have c105b0:decide (D<(I.length:Int))=true:=decide_eq_true jf;clear jf;obtain⟨io,uu,H⟩:=bindO H
           (try dsimp only at H)
           by_cases jg:a2.length<8796093022208
           case neg=>rw[if_neg jg]at H;exact absurd H zac
           rw[if_pos jg]at H
           have n9:=aK jg;clear jg;obtain⟨ix,fc⟩: ∃y_:List (S61),y_=(a2++ [(⟨(wrap64 ((Y.length:Int)+Z)),io⟩:S61)]):=⟨_,rfl⟩
           replace H:(if ix.length<8796093022208 then(recoupref22_Once.l2 bx Z (wrap64 ((Y.length:Int)+Z)) D b7 (ix++ [(⟨wrap64 (((rd_T61 (rd_L5 I D) L).f0)+1),((rd_T61 (rd_L5 I D) L).f1)⟩:S61)]) true (wrap64 (L+1)) Y I aa ac ag ai ao af ae)else(none))=some (r1,r2,r3,r4,r5):=zH fc H
           have pn:=aK fc;clear fc;by_cases jh:ix.length<8796093022208
           case neg=>rw[if_neg jh]at H;exact absurd H zac
           rw[if_pos jh]at H
           have oa:=aK jh;clear jh;obtain⟨o3,fd⟩: ∃y_:List (S61),y_=(ix++ [(⟨wrap64 (((rd_T61 (rd_L5 I D) L).f0)+1),((rd_T61 (rd_L5 I D) L).f1)⟩:S61)]):=⟨_,rfl⟩
           replace H:(recoupref22_Once.l2 bx Z (wrap64 ((Y.length:Int)+Z)) D b7 o3 true (wrap64 (L+1)) Y I aa ac ag ai ao af ae)=some (r1,r2,r3,r4,r5):=zH fd H
           have po:=aK fd;clear fd;have H':=aK H;clear H;have v0:=bi.out;have xv:=aq.out;have v2:=bj.out;have xw:=ar.out;have v3:=bk.out;have xx:=au.out;have v4:=bl.out;have xy:=av.out;obtain⟨qr,qt,ss,st⟩:=cell2 ab
           try go_wp2
           have n0_:Aside0 (Kd.R k61 61 (wc.setCell ⟨X,0,none⟩ (.int .i64 (wrap64 (((rd_T61 (rd_L5 I D) L).f0)+1)))) w.heap.size (fun k_=>k_≠X) u13 a2):=⟨by(with_reducible repeat(first|apply Kd.R_alloc|apply Kd.R_drewN|apply Kd.R_drew));exact Kd.R_mono (Kd.R_far (p:=⟨X,0,none⟩) (Kd.R_mono HO_13.out (fun k_ hk=>(⟨hk,hk⟩:_/\k_≠X))) (fun _ hk=>hk.2) (.int .i64 (wrap64 (((rd_T61 (rd_L5 I D) L).f0)+1)))) (fun _ hk=>hk.1)⟩
           have n1_:Aside0 (Kd.R (Kd.int .i64) 3 (wc.setCell ⟨X,0,none⟩ (.int .i64 (wrap64 (((rd_T61 (rd_L5 I D) L).f0)+1)))) w.heap.size (fun _=>True) (.slice a0 af.length a1) af):=⟨by(with_reducible repeat(first|apply Kd.R_alloc|apply Kd.R_drewN|apply Kd.R_drew));exact Kd.R_mono (Kd.R_far (p:=⟨X,0,none⟩) (Kd.R_types HO_372000.out ab.out zab) (fun _ hk=>hk.2) (.int .i64 (wrap64 (((rd_T61 (rd_L5 I D) L).f0)+1)))) (fun _ hk=>trivial)⟩
           have n2_:Aside0 (Kd.S (Kd.slice 61 k61) 59 (wc.setCell ⟨X,0,none⟩ (.int .i64 (wrap64 (((rd_T61 (rd_L5 I D) L).f0)+1)))) w.heap.size (fun k_=>some k_≠(u13:Value).ownBlock/\k_≠X) u372001 ae):=⟨by(with_reducible repeat(first|apply Kd.S_alloc|apply Kd.S_drewN|apply Kd.S_drew));exact Kd.S_mono (Kd.S_far (p:=⟨X,0,none⟩) (Kd.S_mono HO_372001.out (fun k_ hk=>(⟨hk,hk.2⟩:_/\k_≠X))) (fun _ hk=>hk.2) (.int .i64 (wrap64 (((rd_T61 (rd_L5 I D) L).f0)+1)))) (fun _ hk=>⟨hk.1.1,hk.1.2⟩)⟩
           have n3_:Aside0 ((wc.setCell ⟨X,0,none⟩ (.int .i64 (wrap64 (((rd_T61 (rd_L5 I D) L).f0)+1)))).heap[am]? =some (.cells #[.slice a6 Y.length a7,.slice (some an) I.length a8,.slice bc aa.length a9] 25 (0,0))):=⟨by refine bkR ?_;refine blk_far ?_ aq.out _;refine bkR ?_;exact G.out⟩
           have n4_:Aside0 ((wc.setCell ⟨X,0,none⟩ (.int .i64 (wrap64 (((rd_T61 (rd_L5 I D) L).f0)+1)))).heap[ak]? =some (.cells #[.slice none 0 0,.slice none 0 0,.slice none 0 0] 25 (0,0))):=⟨by refine bkR ?_;refine blk_far ?_ ar.out _;refine bkR ?_;exact O.out⟩
           have n5_:Aside0 ((wc.setCell ⟨X,0,none⟩ (.int .i64 (wrap64 (((rd_T61 (rd_L5 I D) L).f0)+1)))).heap[aj]? =some (.cells #[.int .i64 ac,.int .i64 ag,.int .u8 ai,.int .i64 ao] 31 (0,0))):=⟨by refine bkR ?_;refine blk_far ?_ au.out _;refine bkR ?_;exact J.out⟩
           have n6_:Aside0 ((wc.setCell ⟨X,0,none⟩ (.int .i64 (wrap64 (((rd_T61 (rd_L5 I D) L).f0)+1)))).heap[az]? =some (.cells #[.slice a0 af.length a1,u372001,.slice none 0 0] 25 (0,0))):=⟨by refine bkR ?_;refine blk_far ?_ av.out _;refine bkR ?_;exact U.out⟩
           have n7_:Aside0 ((wc.setCell ⟨X,0,none⟩ (.int .i64 (wrap64 (((rd_T61 (rd_L5 I D) L).f0)+1)))).heap[X]? =some (.cells #[.int .i64 (wrap64 (((rd_T61 (rd_L5 I D) L).f0)+1)),.int .u8 ((rd_T61 (rd_L5 I D) L).f1)] 61 (0,0))):=⟨by refine bkR ?_;refine blk_put (cs:= #[.int .i64 ((rd_T61 (rd_L5 I D) L).f0),.int .u8 ((rd_T61 (rd_L5 I D) L).f1)]) ?_ 0 _ rfl;refine bkR ?_;exact ab.out⟩
           have n8_:Aside0 (Below w.heap.size w (wc.setCell ⟨X,0,none⟩ (.int .i64 (wrap64 (((rd_T61 (rd_L5 I D) L).f0)+1))))):=⟨hbA HB.out⟩
           (try clear HO_13)
           (try clear HO_372000)
           (try clear HO_372001)
           (try clear G)
           (try clear O)
           (try clear J)
           (try clear U)
           (try clear ab)
           (try clear HB)
           generalize(wc.setCell ⟨X,0,none⟩ (.int .i64 (wrap64 (((rd_T61 (rd_L5 I D) L).f0)+1))))=vw at n0_ n1_ n2_ n3_ n4_ n5_ n6_ n7_ n8_⊢;have HO_13:=n0_;have HO_372000:=n1_;have HO_372001:=n2_;have G:=n3_;have O:=n4_;have J:=n5_;have U:=n6_;have ab:=n7_;have HB:=n8_;clear n0_ n1_ n2_ n3_ n4_ n5_ n6_ n7_ n8_;replace HO_13:=aK (Kd.R_drew HO_13.out);replace HO_372000:=aK (Kd.R_drew HO_372000.out);replace HO_372001:=aK (Kd.S_drew HO_372001.out);replace G:=aK (blk_drew G.out);replace O:=aK (blk_drew O.out);replace J:=aK (blk_drew J.out);replace U:=aK (blk_drew U.out);replace ab:=aK (blk_drew ab.out);replace HB:=aK (below_drew1 HB.out);have n6:0<=(D:Int):=of_decide_eq_true asE;have n7:D<(I.length:Int):=of_decide_eq_true asE;obtain⟨p1,jc,jr,ve,co,ie,g8⟩:=at_L5 bs.out D n6 n7;have bo:=co;obtain rfl:an=p1:=(by injection ve)
           replace co:=(HB.out.cell (World.block_lt_of_cell? w _ co)).trans co;have gr:=aK g8;have mc:=aK ie;clear g8 ie;replace n6:=eq_true n6;replace n7:=eq_true n7;refine start_ (n:=14) (S:=fun w'=>w'.cell? ⟨am,0,none⟩=some (.slice a6 Y.length a7)/\w'.cell? ⟨am,1,none⟩=some (.slice (some an) I.length a8)/\w'.cell? ⟨am,2,none⟩=some (.slice bc aa.length a9)/\w'.cell? ⟨aj,0,none⟩=some (.int .i64 ac)/\w'.cell? ⟨aj,1,none⟩=some (.int .i64 ag)/\w'.cell? ⟨aj,2,none⟩=some (.int .u8 ai)/\w'.cell? ⟨aj,3,none⟩=some (.int .i64 ao)/\w'.cell? (an.add (D).toNat)=some (.slice jc (rd_L5 I D).length jr)) (ds:= []) (.replicate 14 false) zad rfl rfl (z3k G (z3k J ⟨(blk_cell J.out 3).trans rfl,((HB.out.cell (World.block_lt_of_cell? w _ bo)).trans bo)⟩)) (fun hHeld=>?_);refine with_tabW recoupref22_Once.tab27 recoupref22_Once.bits27 (fun HT_ HW_=>?_);generalize vw.drew=C5 at HO_13 HO_372000 HO_372001 G O J U ab HB gr co hHeld⊢;refine pu 0 (some 145) (mB 14 1) HT_ ?_;refine pu 1 (some 146) (mB 14 3) HT_ ?_;refine pu 2 (some 147) (mB 14 7) HT_ ?_;refine pu 4 (some 149) (mB 14 23) HT_ ?_;refine pu 7 (some 152) (mB 14 151) HT_ ?_;refine tk8 3 (some 148) (mB 14 159) HT_ HW_ hHeld ?_;refine pu 5 (some 150) (mB 14 191) HT_ ?_;refine tk8 6 (some 151) (mB 14 255) HT_ HW_ hHeld ?_;refine tk8 8 (some 153) (mB 14 511) HT_ HW_ hHeld ?_;refine zoh 9 (some 154) (mB 14 1023) HT_ fun K hK=>?_;refine goes_ Try.func33 zad rfl #[.slice jc (rd_L5 I D).length jr,.int .i64 ac] zae rfl rfl (by(try simp only[List.map_toArray,List.map_cons,List.map_nil]);first|done|rfl|(simp only[List.length_drop,List.length_take];rfl)) ?_;with_reducible refine(recoupref22_by.calls bx _ _ (rd_L5 I D) ac io _ ?side1 ?side2 uu.out).mono ?_
           (case side1=>exact kcB gr HB)
           (case side2=>exact mc.out)
           rintro e w' ⟨rfl,⟨nd,rfl⟩⟩;refine⟨_,rfl,?_⟩;refine hK.out _ _ (z3k G (z3k J ⟨(blk_cell J.out 3).trans rfl,((HB.out.cell (World.block_lt_of_cell? w _ bo)).trans bo)⟩)) (fun hHeld=>?_);clear hK K;refine znm (some 154) ?_;refine pu 10 (some 155) (mB 14 2047) HT_ ?_;refine zoh 11 (some 156) (mB 14 4095) HT_ fun K hK=>?_;refine value_ (w1:=?_) (v:=?_) zae rfl ?_ ?_;rotate_left 2
           ·go_simp;constructor
            ·rfl
            ·rfl
           refine hK.out _ _ ⟨(blk_cell (blk_alloc G.out _) 0).trans rfl,(blk_cell (blk_alloc G.out _) 1).trans rfl,(blk_cell (blk_alloc G.out _) 2).trans rfl,(blk_cell (blk_alloc J.out _) 0).trans rfl,(blk_cell (blk_alloc J.out _) 1).trans rfl,(blk_cell (blk_alloc J.out _) 2).trans rfl,(blk_cell (blk_alloc J.out _) 3).trans rfl,(World.cell?_alloc_lt _ _ _ (World.block_lt_of_cell? _ _ (((HB.out.cell (World.block_lt_of_cell? w _ bo)).trans bo)))).trans (((HB.out.cell (World.block_lt_of_cell? w _ bo)).trans bo))⟩ (fun hHeld=>?_);clear hK K;refine znm (some 156) ?_;refine zoh 12 (some 157) (mB 14 8191) HT_ fun K hK=>?_;refine Kd.R_append_step k61 (w0:=w) w.heap.size zae (.tmp 145) (.tmp 156) 59 61 (.agg #[(.int .i64 0),(.int .u8 0)]) 16 rfl Try.underlying59 info61 rfl zab zaa u13 a2 (⟨(wrap64 ((Y.length:Int)+Z)),io⟩:S61) [.int .i64 (wrap64 ((Y.length:Int)+Z)),.int .u8 io] (fun k_=>k_≠X) (fun _=>False) rfl rfl ?aP (fun _ hk=>hk.elim) ?aF ?aO ?aB ?aS ?aL ?_
           (case aP=>exact k61_mkM _ _ _ (⟨(wrap64 ((Y.length:Int)+Z)),io⟩:S61))
           (case aB=>exact(hbA HB.out))
           (case aF=>exact(fun k_ hk=>Kd.freshB (g:=X) (o:= .cells #[.int .i64 (wrap64 (((rd_T61 (rd_L5 I D) L).f0)+1)),.int .u8 ((rd_T61 (rd_L5 I D) L).f1)] 61 (0,0)) (bkA ab.out) k_ hk))
           (case aO=>exact(kdA HO_13.out))
           (case aS=>exact(below_size (hbA HB.out)))
           (case aL=>have:=n9.out;omega)
           intro vu C6 ho hb hg hat;rw[<-pn.out]at ho
           have n0_:=aK (Kd.R_over' (kdA HO_372000.out) (Kd.R_typed (kdA HO_13.out)) zab hg);have n1_:=aK (Kd.S_after (ok:=(fun k_=>k_≠X)) (by(with_reducible repeat(first|apply Kd.S_alloc|apply Kd.S_drewN|apply Kd.S_drew));exact Kd.S_mono HO_372001.out (fun _ hk=>⟨hk.2,hk.1⟩)) hg hat);have n2_:=aK (blk_grown (g:=am) (o:= .cells #[.slice a6 Y.length a7,.slice (some an) I.length a8,.slice bc aa.length a9] 25 (0,0)) (bkA G.out) hg (Kd.R_ne HO_13.out G.out zab));have n3_:=aK (blk_grown (g:=ak) (o:= .cells #[.slice none 0 0,.slice none 0 0,.slice none 0 0] 25 (0,0)) (bkA O.out) hg (Kd.R_ne HO_13.out O.out zab));have n4_:=aK (blk_grown (g:=aj) (o:= .cells #[.int .i64 ac,.int .i64 ag,.int .u8 ai,.int .i64 ao] 31 (0,0)) (bkA J.out) hg (Kd.R_ne HO_13.out J.out zab));have n5_:=aK (blk_grown (g:=az) (o:= .cells #[.slice a0 af.length a1,u372001,.slice none 0 0] 25 (0,0)) (bkA U.out) hg (Kd.R_ne HO_13.out U.out zab));have n6_:=aK (blk_grown (g:=X) (o:= .cells #[.int .i64 (wrap64 (((rd_T61 (rd_L5 I D) L).f0)+1)),.int .u8 ((rd_T61 (rd_L5 I D) L).f1)] 61 (0,0)) (bkA ab.out) hg (Kd.R_away HO_13.out (fun _ hk=>hk)));have n7_:=aK (hb);have n8_:=aK (ho);clear HO_372000;clear HO_372001;clear G;clear O;clear J;clear U;clear ab;clear HB;clear HO_13;have HO_372000:=n0_;have HO_372001:=n1_;have G:=n2_;have O:=n3_;have J:=n4_;have U:=n5_;have ab:=n6_;have HB:=n7_;have b9:=n8_;clear n0_ n1_ n2_ n3_ n4_ n5_ n6_ n7_ n8_;clear ho hb hg hat;refine hK.out _ _ (z3k G (z3k J ⟨(blk_cell J.out 3).trans rfl,((HB.out.cell (World.block_lt_of_cell? w _ bo)).trans bo)⟩)) (fun hHeld=>?_);clear hK K;refine znm (some 157) ?_;refine pu 13 (some 13) (mB 14 16383) HT_ ?_;refine done_ (done_of HT_.out zad) ?_;obtain⟨qu,qv,su,sv⟩:=cell2 ab
           try go_wp2_with (first|((with_reducible refine gate_builtin (b:= .append) (xs:= #[.tmp 158,.tmp 160]) rfl ?_);at_builtin;refine Kd.R_append k61 (w0:=w) w.heap.size rfl (.tmp 158) (.tmp 160) 59 61 (.agg #[(.int .i64 0),(.int .u8 0)]) 16 rfl Try.underlying59 info61 rfl zab zaa vu ix (⟨wrap64 (((rd_T61 (rd_L5 I D) L).f0)+1),((rd_T61 (rd_L5 I D) L).f1)⟩:S61) [.int .i64 (wrap64 (((rd_T61 (rd_L5 I D) L).f0)+1)),.int .u8 ((rd_T61 (rd_L5 I D) L).f1)] (fun k_=>k_≠X) (fun _=>False) rfl rfl ?aP (fun _ hk=>hk.elim) ?aF ?aO ?aB ?aS ?aL ?_;(case aP=>exact k61_mkM _ _ _ (⟨wrap64 (((rd_T61 (rd_L5 I D) L).f0)+1),((rd_T61 (rd_L5 I D) L).f1)⟩:S61));(case aB=>exact(hbA HB.out));(case aF=>exact(fun k_ hk=>Kd.freshB (g:=X) (o:= .cells #[.int .i64 (wrap64 (((rd_T61 (rd_L5 I D) L).f0)+1)),.int .u8 ((rd_T61 (rd_L5 I D) L).f1)] 61 (0,0)) (bkA ab.out) k_ hk));(case aO=>exact(kdA b9.out));(case aS=>exact(below_size (hbA HB.out)));(case aL=>have:=oa.out;omega);intro Cx C7 ho hb hg hat;rw[<-po.out]at ho;have n0_:=aK (Kd.R_over' (kdA HO_372000.out) (Kd.R_typed (kdA b9.out)) zab hg);have n1_:=aK (Kd.S_after (ok:=(fun k_=>k_≠X)) (by(with_reducible repeat(first|apply Kd.S_alloc|apply Kd.S_drewN|apply Kd.S_drew));exact HO_372001.out) hg hat);have n2_:=aK (blk_grown (g:=am) (o:= .cells #[.slice a6 Y.length a7,.slice (some an) I.length a8,.slice bc aa.length a9] 25 (0,0)) (bkA G.out) hg (Kd.R_ne b9.out G.out zab));have n3_:=aK (blk_grown (g:=ak) (o:= .cells #[.slice none 0 0,.slice none 0 0,.slice none 0 0] 25 (0,0)) (bkA O.out) hg (Kd.R_ne b9.out O.out zab));have n4_:=aK (blk_grown (g:=aj) (o:= .cells #[.int .i64 ac,.int .i64 ag,.int .u8 ai,.int .i64 ao] 31 (0,0)) (bkA J.out) hg (Kd.R_ne b9.out J.out zab));have n5_:=aK (blk_grown (g:=az) (o:= .cells #[.slice a0 af.length a1,u372001,.slice none 0 0] 25 (0,0)) (bkA U.out) hg (Kd.R_ne b9.out U.out zab));have n6_:=aK (blk_grown (g:=X) (o:= .cells #[.int .i64 (wrap64 (((rd_T61 (rd_L5 I D) L).f0)+1)),.int .u8 ((rd_T61 (rd_L5 I D) L).f1)] 61 (0,0)) (bkA ab.out) hg (Kd.R_away b9.out (fun _ hk=>hk)));have n7_:=aK (hb);have n8_:=aK (ho);clear HO_372000;clear HO_372001;clear G;clear O;clear J;clear U;clear ab;clear HB;clear b9;have HO_372000:=n0_;have HO_372001:=n1_;have G:=n2_;have O:=n3_;have J:=n4_;have U:=n5_;have ab:=n6_;have HB:=n7_;have o9:=n8_;clear n0_ n1_ n2_ n3_ n4_ n5_ n6_ n7_ n8_;clear ho hb hg hat))
           go_roundg bx
           case measure=>have:=br.out;have:=bu.out;have:=bm.out;have:=b2.out;have:=b1.out;omega
           case rel=>exact⟨(o3),(true),(wrap64 (L+1)),rsE,rsE,H',⟨by have:=br.out;have:=bu.out;have:=bm.out;have:=b2.out;have:=b1.out;omega⟩,⟨by(with_reducible repeat(first|apply Kd.R_alloc|apply Kd.R_drewN|apply Kd.R_drew));exact Kd.R_mono o9.out (fun _ hk=>trivial)⟩,⟨kdA HO_372000.out⟩,⟨by(with_reducible repeat(first|apply Kd.S_alloc|apply Kd.S_drewN|apply Kd.S_drew));exact Kd.S_mono HO_372001.out (fun _ hk=>hk.2)⟩,⟨bkA G.out⟩,⟨bkA O.out⟩,⟨bkA J.out⟩,⟨bkA U.out⟩,⟨hbA HB.out⟩⟩
def recouplaw22_ShareOnce.f(k:Nat)(I:List Int)(J:List (List (S61)))(L:List Int):Option (Bool):=(share_Once.f k I J L).bind fun D=>((recoupref22_Once.f k I J L).bind fun G=>((recoupref21_Same.f k D.1 D.2.1 D.2.2.1 G.1 G.2.1 G.2.2.1).bind fun O=>(if O=true then(if(D.2.2.2.1==G.2.2.2.1)=true then(some (D.2.2.2.2==G.2.2.2.2))else(some false))else(some false))))
theorem recouplaw22_ShareOnce.calls(k:Nat)(az:Option Addr)(a5:Nat)(al:List Int)(a0:Option Addr)(a6:Nat)(am:List (List (S61)))(a1:Option Addr)(a7:Nat)(an:List Int)(r:Bool)(w:World)(co:Kd.C (Kd.int .i64) w az al.length al)(cl:al.length<=a5)(cp:Kd.C (Kd.slice 61 k61) w a0 am.length am)(cm:am.length<=a6)(cq:Kd.C (Kd.int .i64) w a1 an.length an)(cn:an.length<=a7)(h:recouplaw22_ShareOnce.f k al am an=some r):
 Calls Try.prog 5 #[.agg #[.slice az al.length a5,.slice a0 am.length a6,.slice a1 an.length a7]] w fun e w'=>e= .returned (.bool r)/\Below w.heap.size w w':=by
 have gv:=Try.underlying25;have b9:=aK co;have b6:=aK cl;clear co cl;have ca:=aK cp;have b7:=aK cm;clear cp cm;have cb:=aK cq;have b8:=aK cn;clear cq cn;have HB:=aK (Below.refl w.heap.size w);have H:((share_Once.f k al am an).bind fun cd=>((recoupref22_Once.f k al am an).bind fun ce=>((recoupref21_Same.f k cd.1 cd.2.1 cd.2.2.1 ce.1 ce.2.1 ce.2.2.1).bind fun cu=>(if cu=true then(if(cd.2.2.2.1==ce.2.2.2.1)=true then(some (cd.2.2.2.2==ce.2.2.2.2))else(some false))else(some false)))))=some r:=h;clear h;obtain⟨⟨O,ac,ab,b4,cr⟩,A2,H⟩:=bindO H
 (try dsimp only at H)
 obtain⟨⟨I,U,L,b5,ct⟩,A3,H⟩:=bindO H
 (try dsimp only at H)
 obtain⟨cu,A4,H⟩:=bindO H
 (try dsimp only at H)
 by_cases c5:cu=true
 ·subst c5;rw[if_pos rfl]at H
  by_cases c6:(b4==b5)=true
  ·rw[if_pos c6]at H
   have c6b0:(b4==b5)=true:=c6
   (try(have c6b1:decide (b4=b5)=true:=by simpa using c6))
   (try(have c6b2:(b4==b5)=true:=by simpa using c6))
   clear c6;obtain rfl:=Option.some.inj H
   go_enter Try.func5,Try.ntmps5
   go_wp2_with (first|((with_reducible refine gD 1 rfl ?_);refine bE 1 #[.slice az al.length a5,.slice a0 am.length a6,.slice a1 an.length a7] 25 ?_;intro b3 hg w7 hbox hb;have G:=aK (hbox);have ci:=hbS HB hg;have cf:=hbS HB hg;replace HB:=hbB HB hb;clear hb hbox hg;obtain⟨f5,f6,f7,f8,f9,ga⟩:=cell3 G)|((with_reducible refine gC 16 rfl ?_);refine cG (some 11) Try.func16 #[.agg #[.slice az al.length a5,.slice a0 am.length a6,.slice a1 an.length a7]] ?_;(with_reducible refine(share_Once.calls k _ _ al _ _ am _ _ an O ac ab b4 cr _ ?side1 ?side2 ?side3 ?side4 ?side5 ?side6 A2.out).mono ?_);(case side1=>exact kcB b9 HB);(case side2=>exact b6.out);(case side3=>exact kcB ca HB);(case side4=>exact b7.out);(case side5=>exact kcB cb HB);(case side6=>exact b8.out);rintro e w9 ⟨cv,cw,cx,rfl,bq,b2,br,hb⟩;refine⟨_,rfl,?_⟩;have X:=aK (Kd.R_lower bq (below_size (hbA HB.out)));have aa:=aK (Kd.S_lower b2 (below_size (hbA HB.out)));have Y:=aK (Kd.R_lower br (below_size (hbA HB.out)));replace G:=bkB G hb;replace HB:=hbB HB hb;(try clear hb);(try clear bq);(try clear b2);(try clear br))|((with_reducible refine gD 3 rfl ?_);refine bE 3 #[.slice none 0 0,.slice none 0 0,.slice none 0 0] 25 ?_;intro ah hg gw hbox hb;replace X:=kdB X hb;replace aa:=aK (Kd.S_below (by(with_reducible repeat(first|apply Kd.S_alloc|apply Kd.S_drewN|apply Kd.S_drew));exact aa.out) hb);replace Y:=kdB Y hb;have D:=aK (hbox);have cj:=hbS HB hg;have cg:=hbS HB hg;replace HB:=hbB HB hb;have ae:=neL G hg;have bk:=neG G hg;replace G:=bkB G hb;clear hb hbox hg;obtain⟨be,a8,c3⟩:=Kd.R_slice X.out;subst c3;have gb:=bk.out;have gl:=ae.out;obtain⟨dn,dp,dq,ew,ex,ey⟩:=cell3 D;obtain⟨bz,bv,c4⟩:=Kd.S_slice aa.out;subst c4;obtain⟨bs,bn,c7⟩:=Kd.R_slice Y.out;subst c7;obtain⟨dr,dt,du,ez,e0,e1⟩:=cell3 G)|((with_reducible refine gC 17 rfl ?_);refine cG (some 17) Try.func17 #[.agg #[.slice az al.length a5,.slice a0 am.length a6,.slice a1 an.length a7]] ?_;(with_reducible refine(recoupref22_Once.calls k _ _ al _ _ am _ _ an I U L b5 ct _ ?side1 ?side2 ?side3 ?side4 ?side5 ?side6 A3.out).mono ?_);(case side1=>exact Kd.C_below b9.out (hbA HB.out));(case side2=>exact b6.out);(case side3=>exact Kd.C_below ca.out (hbA HB.out));(case side4=>exact b7.out);(case side5=>exact Kd.C_below cb.out (hbA HB.out));(case side6=>exact b8.out);rintro e gx ⟨cy,cz,c2,rfl,bq,b2,br,hb⟩;refine⟨_,rfl,?_⟩;have ai:=aK (Kd.R_lower (Kd.R_new' (Kd.R_new' bq (Kd.R_lt (by(with_reducible repeat(first|apply Kd.R_alloc|apply Kd.R_drewN|apply Kd.R_drew));exact(zF X.out D.out  (.slice be O.length a8)  (.slice bz ac.length bv)  (.slice bs ab.length bn))))) (Kd.R_lt (by(with_reducible repeat(first|apply Kd.R_alloc|apply Kd.R_drewN|apply Kd.R_drew));exact(zF Y.out D.out  (.slice be O.length a8)  (.slice bz ac.length bv)  (.slice bs ab.length bn))))) (below_size (hbA HB.out)));have aj:=aK (Kd.S_lower (Kd.S_new' b2 (Kd.S_lt (by(with_reducible repeat(first|apply Kd.S_alloc|apply Kd.S_drewN|apply Kd.S_drew));exact(Kd.S_mono (Kd.S_far (p:=⟨ah,2,none⟩) (Kd.S_far (p:=⟨ah,1,none⟩) (Kd.S_far (p:=⟨ah,0,none⟩) (Kd.S_types aa.out D.out zab) (fun _ hk=>hk.2) (.slice be O.length a8)) (fun _ hk=>hk.2) (.slice bz ac.length bv)) (fun _ hk=>hk.2) (.slice bs ab.length bn)) (fun _ h_=>h_.1))))) (below_size (hbA HB.out)));replace aa:=aK (Kd.S_elder' (by(with_reducible repeat(first|apply Kd.S_alloc|apply Kd.S_drewN|apply Kd.S_drew));exact(Kd.S_mono (Kd.S_far (p:=⟨ah,2,none⟩) (Kd.S_far (p:=⟨ah,1,none⟩) (Kd.S_far (p:=⟨ah,0,none⟩) (Kd.S_types aa.out D.out zab) (fun _ hk=>hk.2) (.slice be O.length a8)) (fun _ hk=>hk.2) (.slice bz ac.length bv)) (fun _ hk=>hk.2) (.slice bs ab.length bn)) (fun _ h_=>h_.1))) (Kd.S_base b2) hb);have ak:=aK (Kd.R_lower (Kd.R_new' (Kd.R_new' br (Kd.R_lt (by(with_reducible repeat(first|apply Kd.R_alloc|apply Kd.R_drewN|apply Kd.R_drew));exact(zF X.out D.out  (.slice be O.length a8)  (.slice bz ac.length bv)  (.slice bs ab.length bn))))) (Kd.R_lt (by(with_reducible repeat(first|apply Kd.R_alloc|apply Kd.R_drewN|apply Kd.R_drew));exact(zF Y.out D.out  (.slice be O.length a8)  (.slice bz ac.length bv)  (.slice bs ab.length bn))))) (below_size (hbA HB.out)));replace X:=aK (Kd.R_mono (Kd.R_told (Kd.R_told (Kd.R_old (by(with_reducible repeat(first|apply Kd.R_alloc|apply Kd.R_drewN|apply Kd.R_drew));exact(zF X.out D.out  (.slice be O.length a8)  (.slice bz ac.length bv)  (.slice bs ab.length bn))) hb) (Kd.R_base bq)) (Kd.R_base br)) (fun _ h_=>h_.1));replace Y:=aK (Kd.R_mono (Kd.R_told (Kd.R_told (Kd.R_old (by(with_reducible repeat(first|apply Kd.R_alloc|apply Kd.R_drewN|apply Kd.R_drew));exact(zF Y.out D.out  (.slice be O.length a8)  (.slice bz ac.length bv)  (.slice bs ab.length bn))) hb) (Kd.R_base bq)) (Kd.R_base br)) (fun _ h_=>h_.1));replace G:=aK (blk_below (g:=b3) (o:= .cells #[.slice az al.length a5,.slice a0 am.length a6,.slice a1 an.length a7] 25 (0,0)) zbl hb);replace D:=aK (blk_below (g:=ah) (o:= .cells #[.slice be O.length a8,.slice bz ac.length bv,.slice bs ab.length bn] 25 (0,0)) (by refine bkR ?_;refine blk_put (cs:= #[.slice be O.length a8,.slice bz ac.length bv,.slice none 0 0]) ?_ 2 _ rfl;refine bkR ?_;refine blk_put (cs:= #[.slice be O.length a8,.slice none 0 0,.slice none 0 0]) ?_ 1 _ rfl;refine bkR ?_;refine blk_put (cs:= #[.slice none 0 0,.slice none 0 0,.slice none 0 0]) ?_ 0 _ rfl;refine bkR ?_;exact D.out) hb);replace HB:=hbB HB hb;(try clear hb);(try clear hk);(try clear bq);(try clear b2);(try clear br))|((with_reducible refine gD 6 rfl ?_);refine bE 6 #[.slice none 0 0,.slice none 0 0,.slice none 0 0] 25 ?_;intro Z hg gy hbox hb;replace X:=kdB X hb;replace aa:=aK (Kd.S_below (by(with_reducible repeat(first|apply Kd.S_alloc|apply Kd.S_drewN|apply Kd.S_drew));exact aa.out) hb);replace Y:=kdB Y hb;replace ai:=kdB ai hb;replace aj:=aK (Kd.S_below (by(with_reducible repeat(first|apply Kd.S_alloc|apply Kd.S_drewN|apply Kd.S_drew));exact aj.out) hb);replace ak:=kdB ak hb;have J:=aK (hbox);have ck:=hbS HB hg;have ch:=hbS HB hg;replace HB:=hbB HB hb;have af:=neL G hg;have bl:=neG G hg;replace G:=bkB G hb;have ag:=neL D hg;have bm:=neG D hg;replace D:=bkB D hb;clear hb hbox hg;obtain⟨ar,ao,c8⟩:=Kd.R_slice ai.out;subst c8;have gc:=bl.out;have gm:=af.out;have ge:=bm.out;have gn:=ag.out;obtain⟨dv,dw,dx,e2,e3,e4⟩:=cell3 J;obtain⟨bf,a9,c9⟩:=Kd.S_slice aj.out;subst c9;obtain⟨a2,aw,da⟩:=Kd.R_slice ak.out;subst da;obtain⟨dy,dz,d0,e5,e6,e7⟩:=cell3 D)|((with_reducible refine gC 15 rfl ?_);refine cG (some 23) Try.func15 #[.agg #[.slice be O.length a8,.slice bz ac.length bv,.slice bs ab.length bn],.agg #[.slice ar I.length ao,.slice bf U.length a9,.slice a2 L.length aw]] ?_;(with_reducible refine(recoupref21_Same.calls k _ _ O _ _ ac _ _ ab _ _ I _ _ U _ _ L true _ ?side1 ?side2 ?side3 ?side4 ?side5 ?side6 ?side7 ?side8 ?side9 ?side10 ?side11 ?side12 A4.out).mono ?_);(case side1=>refine(Kd.R_reads' (e:=3) (base:=w.heap.size) (ok:=fun k_=>((some k_≠(.slice bs ab.length bn:Value).ownBlock/\some k_≠(.slice ar I.length ao:Value).ownBlock)/\some k_≠(.slice a2 L.length aw:Value).ownBlock)) (n:=O.length) (c:=a8) ?_).2.2;exact(by(with_reducible repeat(first|apply Kd.R_alloc|apply Kd.R_drewN|apply Kd.R_drew));exact(zF X.out J.out  (.slice ar I.length ao)  (.slice bf U.length a9)  (.slice a2 L.length aw))));(case side2=>exact(Kd.R_reads' X.out).2.1);(case side3=>refine(Kd.S_reads' (e:=59) (base:=w.heap.size) (ok:=fun k_=>(True/\some k_≠(.slice bf U.length a9:Value).ownBlock)) (n:=ac.length) (c:=bv) ?_).2.2;exact(by(with_reducible repeat(first|apply Kd.S_alloc|apply Kd.S_drewN|apply Kd.S_drew));exact(Kd.S_mono (Kd.S_far (p:=⟨Z,2,none⟩) (Kd.S_far (p:=⟨Z,1,none⟩) (Kd.S_far (p:=⟨Z,0,none⟩) (Kd.S_types aa.out J.out zab) (fun _ hk=>hk.2) (.slice ar I.length ao)) (fun _ hk=>hk.2) (.slice bf U.length a9)) (fun _ hk=>hk.2) (.slice a2 L.length aw)) (fun _ h_=>h_.1))));(case side4=>exact(Kd.S_reads' aa.out).2.1);(case side5=>refine(Kd.R_reads' (e:=3) (base:=w.heap.size) (ok:=fun k_=>((some k_≠(.slice be O.length a8:Value).ownBlock/\some k_≠(.slice ar I.length ao:Value).ownBlock)/\some k_≠(.slice a2 L.length aw:Value).ownBlock)) (n:=ab.length) (c:=bn) ?_).2.2;exact(by(with_reducible repeat(first|apply Kd.R_alloc|apply Kd.R_drewN|apply Kd.R_drew));exact(zF Y.out J.out  (.slice ar I.length ao)  (.slice bf U.length a9)  (.slice a2 L.length aw))));(case side6=>exact(Kd.R_reads' Y.out).2.1);(case side7=>refine(Kd.R_reads' (e:=3) (base:=w.heap.size) (ok:=fun k_=>((some k_≠(.slice a2 L.length aw:Value).ownBlock/\some k_≠(.slice be O.length a8:Value).ownBlock)/\some k_≠(.slice bs ab.length bn:Value).ownBlock)) (n:=I.length) (c:=ao) ?_).2.2;exact(by(with_reducible repeat(first|apply Kd.R_alloc|apply Kd.R_drewN|apply Kd.R_drew));exact(zF ai.out J.out  (.slice ar I.length ao)  (.slice bf U.length a9)  (.slice a2 L.length aw))));(case side8=>exact(Kd.R_reads' ai.out).2.1);(case side9=>refine(Kd.S_reads' (e:=59) (base:=w.heap.size) (ok:=fun k_=>(True/\some k_≠(.slice bz ac.length bv:Value).ownBlock)) (n:=U.length) (c:=a9) ?_).2.2;exact(by(with_reducible repeat(first|apply Kd.S_alloc|apply Kd.S_drewN|apply Kd.S_drew));exact(Kd.S_mono (Kd.S_far (p:=⟨Z,2,none⟩) (Kd.S_far (p:=⟨Z,1,none⟩) (Kd.S_far (p:=⟨Z,0,none⟩) (Kd.S_types aj.out J.out zab) (fun _ hk=>hk.2) (.slice ar I.length ao)) (fun _ hk=>hk.2) (.slice bf U.length a9)) (fun _ hk=>hk.2) (.slice a2 L.length aw)) (fun _ h_=>h_.1))));(case side10=>exact(Kd.S_reads' aj.out).2.1);(case side11=>refine(Kd.R_reads' (e:=3) (base:=w.heap.size) (ok:=fun k_=>((some k_≠(.slice ar I.length ao:Value).ownBlock/\some k_≠(.slice be O.length a8:Value).ownBlock)/\some k_≠(.slice bs ab.length bn:Value).ownBlock)) (n:=L.length) (c:=aw) ?_).2.2;exact(by(with_reducible repeat(first|apply Kd.R_alloc|apply Kd.R_drewN|apply Kd.R_drew));exact(zF ak.out J.out  (.slice ar I.length ao)  (.slice bf U.length a9)  (.slice a2 L.length aw))));(case side12=>exact(Kd.R_reads' ak.out).2.1);rintro e gz ⟨rfl,hb⟩;refine⟨_,rfl,?_⟩;replace X:=aK (Kd.R_below (by(with_reducible repeat(first|apply Kd.R_alloc|apply Kd.R_drewN|apply Kd.R_drew));exact(zF X.out J.out  (.slice ar I.length ao)  (.slice bf U.length a9)  (.slice a2 L.length aw))) hb);replace aa:=aK (Kd.S_below (by(with_reducible repeat(first|apply Kd.S_alloc|apply Kd.S_drewN|apply Kd.S_drew));exact(Kd.S_mono (Kd.S_far (p:=⟨Z,2,none⟩) (Kd.S_far (p:=⟨Z,1,none⟩) (Kd.S_far (p:=⟨Z,0,none⟩) (Kd.S_types aa.out J.out zab) (fun _ hk=>hk.2) (.slice ar I.length ao)) (fun _ hk=>hk.2) (.slice bf U.length a9)) (fun _ hk=>hk.2) (.slice a2 L.length aw)) (fun _ h_=>h_.1))) hb);replace Y:=aK (Kd.R_below (by(with_reducible repeat(first|apply Kd.R_alloc|apply Kd.R_drewN|apply Kd.R_drew));exact(zF Y.out J.out  (.slice ar I.length ao)  (.slice bf U.length a9)  (.slice a2 L.length aw))) hb);replace ai:=aK (Kd.R_below (by(with_reducible repeat(first|apply Kd.R_alloc|apply Kd.R_drewN|apply Kd.R_drew));exact(zF ai.out J.out  (.slice ar I.length ao)  (.slice bf U.length a9)  (.slice a2 L.length aw))) hb);replace aj:=aK (Kd.S_below (by(with_reducible repeat(first|apply Kd.S_alloc|apply Kd.S_drewN|apply Kd.S_drew));exact(Kd.S_mono (Kd.S_far (p:=⟨Z,2,none⟩) (Kd.S_far (p:=⟨Z,1,none⟩) (Kd.S_far (p:=⟨Z,0,none⟩) (Kd.S_types aj.out J.out zab) (fun _ hk=>hk.2) (.slice ar I.length ao)) (fun _ hk=>hk.2) (.slice bf U.length a9)) (fun _ hk=>hk.2) (.slice a2 L.length aw)) (fun _ h_=>h_.1))) hb);replace ak:=aK (Kd.R_below (by(with_reducible repeat(first|apply Kd.R_alloc|apply Kd.R_drewN|apply Kd.R_drew));exact(zF ak.out J.out  (.slice ar I.length ao)  (.slice bf U.length a9)  (.slice a2 L.length aw))) hb);replace G:=aK (blk_below (g:=b3) (o:= .cells #[.slice az al.length a5,.slice a0 am.length a6,.slice a1 an.length a7] 25 (0,0)) zbk hb);replace D:=aK (blk_below (g:=ah) (o:= .cells #[.slice be O.length a8,.slice bz ac.length bv,.slice bs ab.length bn] 25 (0,0)) zbj hb);replace J:=aK (blk_below (g:=Z) (o:= .cells #[.slice ar I.length ao,.slice bf U.length a9,.slice a2 L.length aw] 25 (0,0)) (by refine bkR ?_;refine blk_put (cs:= #[.slice ar I.length ao,.slice bf U.length a9,.slice none 0 0]) ?_ 2 _ rfl;refine bkR ?_;refine blk_put (cs:= #[.slice ar I.length ao,.slice none 0 0,.slice none 0 0]) ?_ 1 _ rfl;refine bkR ?_;refine blk_put (cs:= #[.slice none 0 0,.slice none 0 0,.slice none 0 0]) ?_ 0 _ rfl;refine bkR ?_;exact J.out) hb);replace HB:=hbB HB hb;(try clear hb);(try clear hk)))
   go_ret
   exact⟨rfE,hbA HB.out⟩
  ·rw[if_neg c6]at H
   have c6b0:(b4==b5)=false:=by simpa using c6
   (try(have c6b1:decide (b4=b5)=false:=by simpa using c6))
   (try(have c6b2:(b4==b5)=false:=by simpa using c6))
   (try(have c6b3: ¬(b4=b5):=by simpa using c6))
   clear c6;obtain rfl:=Option.some.inj H
   go_enter Try.func5,Try.ntmps5
   go_wp2_with (first|((with_reducible refine gD 1 rfl ?_);refine bE 1 #[.slice az al.length a5,.slice a0 am.length a6,.slice a1 an.length a7] 25 ?_;intro b3 hg g0 hbox hb;have G:=aK (hbox);have ci:=hbS HB hg;have cf:=hbS HB hg;replace HB:=hbB HB hb;clear hb hbox hg;obtain⟨d1,d2,d3,e8,e9,fa⟩:=cell3 G)|((with_reducible refine gC 16 rfl ?_);refine cG (some 11) Try.func16 #[.agg #[.slice az al.length a5,.slice a0 am.length a6,.slice a1 an.length a7]] ?_;(with_reducible refine(share_Once.calls k _ _ al _ _ am _ _ an O ac ab b4 cr _ ?side1 ?side2 ?side3 ?side4 ?side5 ?side6 A2.out).mono ?_);(case side1=>exact kcB b9 HB);(case side2=>exact b6.out);(case side3=>exact kcB ca HB);(case side4=>exact b7.out);(case side5=>exact kcB cb HB);(case side6=>exact b8.out);rintro e g1 ⟨cv,cw,cx,rfl,bq,b2,br,hb⟩;refine⟨_,rfl,?_⟩;have X:=aK (Kd.R_lower bq (below_size (hbA HB.out)));have aa:=aK (Kd.S_lower b2 (below_size (hbA HB.out)));have Y:=aK (Kd.R_lower br (below_size (hbA HB.out)));replace G:=bkB G hb;replace HB:=hbB HB hb;(try clear hb);(try clear bq);(try clear b2);(try clear br))|((with_reducible refine gD 3 rfl ?_);refine bE 3 #[.slice none 0 0,.slice none 0 0,.slice none 0 0] 25 ?_;intro ah hg g2 hbox hb;replace X:=kdB X hb;replace aa:=aK (Kd.S_below (by(with_reducible repeat(first|apply Kd.S_alloc|apply Kd.S_drewN|apply Kd.S_drew));exact aa.out) hb);replace Y:=kdB Y hb;have D:=aK (hbox);have cj:=hbS HB hg;have cg:=hbS HB hg;replace HB:=hbB HB hb;have ae:=neL G hg;have bk:=neG G hg;replace G:=bkB G hb;clear hb hbox hg;obtain⟨bg,ba,db⟩:=Kd.R_slice X.out;subst db;have gf:=bk.out;have gp:=ae.out;obtain⟨d4,d5,d6,fb,fc,fd⟩:=cell3 D;obtain⟨b0,bw,dc⟩:=Kd.S_slice aa.out;subst dc;obtain⟨bt,bo,dd⟩:=Kd.R_slice Y.out;subst dd;obtain⟨d7,d8,d9,fe,ff,fg⟩:=cell3 G)|((with_reducible refine gC 17 rfl ?_);refine cG (some 17) Try.func17 #[.agg #[.slice az al.length a5,.slice a0 am.length a6,.slice a1 an.length a7]] ?_;(with_reducible refine(recoupref22_Once.calls k _ _ al _ _ am _ _ an I U L b5 ct _ ?side1 ?side2 ?side3 ?side4 ?side5 ?side6 A3.out).mono ?_);(case side1=>exact Kd.C_below b9.out (hbA HB.out));(case side2=>exact b6.out);(case side3=>exact Kd.C_below ca.out (hbA HB.out));(case side4=>exact b7.out);(case side5=>exact Kd.C_below cb.out (hbA HB.out));(case side6=>exact b8.out);rintro e g3 ⟨cy,cz,c2,rfl,bq,b2,br,hb⟩;refine⟨_,rfl,?_⟩;have ai:=aK (Kd.R_lower (Kd.R_new' (Kd.R_new' bq (Kd.R_lt (by(with_reducible repeat(first|apply Kd.R_alloc|apply Kd.R_drewN|apply Kd.R_drew));exact(zF X.out D.out  (.slice bg O.length ba)  (.slice b0 ac.length bw)  (.slice bt ab.length bo))))) (Kd.R_lt (by(with_reducible repeat(first|apply Kd.R_alloc|apply Kd.R_drewN|apply Kd.R_drew));exact(zF Y.out D.out  (.slice bg O.length ba)  (.slice b0 ac.length bw)  (.slice bt ab.length bo))))) (below_size (hbA HB.out)));have aj:=aK (Kd.S_lower (Kd.S_new' b2 (Kd.S_lt (by(with_reducible repeat(first|apply Kd.S_alloc|apply Kd.S_drewN|apply Kd.S_drew));exact(Kd.S_mono (Kd.S_far (p:=⟨ah,2,none⟩) (Kd.S_far (p:=⟨ah,1,none⟩) (Kd.S_far (p:=⟨ah,0,none⟩) (Kd.S_types aa.out D.out zab) (fun _ hk=>hk.2) (.slice bg O.length ba)) (fun _ hk=>hk.2) (.slice b0 ac.length bw)) (fun _ hk=>hk.2) (.slice bt ab.length bo)) (fun _ h_=>h_.1))))) (below_size (hbA HB.out)));replace aa:=aK (Kd.S_elder' (by(with_reducible repeat(first|apply Kd.S_alloc|apply Kd.S_drewN|apply Kd.S_drew));exact(Kd.S_mono (Kd.S_far (p:=⟨ah,2,none⟩) (Kd.S_far (p:=⟨ah,1,none⟩) (Kd.S_far (p:=⟨ah,0,none⟩) (Kd.S_types aa.out D.out zab) (fun _ hk=>hk.2) (.slice bg O.length ba)) (fun _ hk=>hk.2) (.slice b0 ac.length bw)) (fun _ hk=>hk.2) (.slice bt ab.length bo)) (fun _ h_=>h_.1))) (Kd.S_base b2) hb);have ak:=aK (Kd.R_lower (Kd.R_new' (Kd.R_new' br (Kd.R_lt (by(with_reducible repeat(first|apply Kd.R_alloc|apply Kd.R_drewN|apply Kd.R_drew));exact(zF X.out D.out  (.slice bg O.length ba)  (.slice b0 ac.length bw)  (.slice bt ab.length bo))))) (Kd.R_lt (by(with_reducible repeat(first|apply Kd.R_alloc|apply Kd.R_drewN|apply Kd.R_drew));exact(zF Y.out D.out  (.slice bg O.length ba)  (.slice b0 ac.length bw)  (.slice bt ab.length bo))))) (below_size (hbA HB.out)));replace X:=aK (Kd.R_mono (Kd.R_told (Kd.R_told (Kd.R_old (by(with_reducible repeat(first|apply Kd.R_alloc|apply Kd.R_drewN|apply Kd.R_drew));exact(zF X.out D.out  (.slice bg O.length ba)  (.slice b0 ac.length bw)  (.slice bt ab.length bo))) hb) (Kd.R_base bq)) (Kd.R_base br)) (fun _ h_=>h_.1));replace Y:=aK (Kd.R_mono (Kd.R_told (Kd.R_told (Kd.R_old (by(with_reducible repeat(first|apply Kd.R_alloc|apply Kd.R_drewN|apply Kd.R_drew));exact(zF Y.out D.out  (.slice bg O.length ba)  (.slice b0 ac.length bw)  (.slice bt ab.length bo))) hb) (Kd.R_base bq)) (Kd.R_base br)) (fun _ h_=>h_.1));replace G:=aK (blk_below (g:=b3) (o:= .cells #[.slice az al.length a5,.slice a0 am.length a6,.slice a1 an.length a7] 25 (0,0)) zbl hb);replace D:=aK (blk_below (g:=ah) (o:= .cells #[.slice bg O.length ba,.slice b0 ac.length bw,.slice bt ab.length bo] 25 (0,0)) (by refine bkR ?_;refine blk_put (cs:= #[.slice bg O.length ba,.slice b0 ac.length bw,.slice none 0 0]) ?_ 2 _ rfl;refine bkR ?_;refine blk_put (cs:= #[.slice bg O.length ba,.slice none 0 0,.slice none 0 0]) ?_ 1 _ rfl;refine bkR ?_;refine blk_put (cs:= #[.slice none 0 0,.slice none 0 0,.slice none 0 0]) ?_ 0 _ rfl;refine bkR ?_;exact D.out) hb);replace HB:=hbB HB hb;(try clear hb);(try clear hk);(try clear bq);(try clear b2);(try clear br))|((with_reducible refine gD 6 rfl ?_);refine bE 6 #[.slice none 0 0,.slice none 0 0,.slice none 0 0] 25 ?_;intro Z hg g4 hbox hb;replace X:=kdB X hb;replace aa:=aK (Kd.S_below (by(with_reducible repeat(first|apply Kd.S_alloc|apply Kd.S_drewN|apply Kd.S_drew));exact aa.out) hb);replace Y:=kdB Y hb;replace ai:=kdB ai hb;replace aj:=aK (Kd.S_below (by(with_reducible repeat(first|apply Kd.S_alloc|apply Kd.S_drewN|apply Kd.S_drew));exact aj.out) hb);replace ak:=kdB ak hb;have J:=aK (hbox);have ck:=hbS HB hg;have ch:=hbS HB hg;replace HB:=hbB HB hb;have af:=neL G hg;have bl:=neG G hg;replace G:=bkB G hb;have ag:=neL D hg;have bm:=neG D hg;replace D:=bkB D hb;clear hb hbox hg;obtain⟨au,ap,de⟩:=Kd.R_slice ai.out;subst de;have gg:=bl.out;have gq:=af.out;have gh:=bm.out;have gr:=ag.out;obtain⟨ea,eb,ec,fh,fi,fj⟩:=cell3 J;obtain⟨bh,bb,df⟩:=Kd.S_slice aj.out;subst df;obtain⟨a3,ax,dg⟩:=Kd.R_slice ak.out;subst dg;obtain⟨ed,ee,ef,fk,fl,fm⟩:=cell3 D)|((with_reducible refine gC 15 rfl ?_);refine cG (some 23) Try.func15 #[.agg #[.slice bg O.length ba,.slice b0 ac.length bw,.slice bt ab.length bo],.agg #[.slice au I.length ap,.slice bh U.length bb,.slice a3 L.length ax]] ?_;(with_reducible refine(recoupref21_Same.calls k _ _ O _ _ ac _ _ ab _ _ I _ _ U _ _ L true _ ?side1 ?side2 ?side3 ?side4 ?side5 ?side6 ?side7 ?side8 ?side9 ?side10 ?side11 ?side12 A4.out).mono ?_);(case side1=>refine(Kd.R_reads' (e:=3) (base:=w.heap.size) (ok:=fun k_=>((some k_≠(.slice bt ab.length bo:Value).ownBlock/\some k_≠(.slice au I.length ap:Value).ownBlock)/\some k_≠(.slice a3 L.length ax:Value).ownBlock)) (n:=O.length) (c:=ba) ?_).2.2;exact(by(with_reducible repeat(first|apply Kd.R_alloc|apply Kd.R_drewN|apply Kd.R_drew));exact(zF X.out J.out  (.slice au I.length ap)  (.slice bh U.length bb)  (.slice a3 L.length ax))));(case side2=>exact(Kd.R_reads' X.out).2.1);(case side3=>refine(Kd.S_reads' (e:=59) (base:=w.heap.size) (ok:=fun k_=>(True/\some k_≠(.slice bh U.length bb:Value).ownBlock)) (n:=ac.length) (c:=bw) ?_).2.2;exact(by(with_reducible repeat(first|apply Kd.S_alloc|apply Kd.S_drewN|apply Kd.S_drew));exact(Kd.S_mono (Kd.S_far (p:=⟨Z,2,none⟩) (Kd.S_far (p:=⟨Z,1,none⟩) (Kd.S_far (p:=⟨Z,0,none⟩) (Kd.S_types aa.out J.out zab) (fun _ hk=>hk.2) (.slice au I.length ap)) (fun _ hk=>hk.2) (.slice bh U.length bb)) (fun _ hk=>hk.2) (.slice a3 L.length ax)) (fun _ h_=>h_.1))));(case side4=>exact(Kd.S_reads' aa.out).2.1);(case side5=>refine(Kd.R_reads' (e:=3) (base:=w.heap.size) (ok:=fun k_=>((some k_≠(.slice bg O.length ba:Value).ownBlock/\some k_≠(.slice au I.length ap:Value).ownBlock)/\some k_≠(.slice a3 L.length ax:Value).ownBlock)) (n:=ab.length) (c:=bo) ?_).2.2;exact(by(with_reducible repeat(first|apply Kd.R_alloc|apply Kd.R_drewN|apply Kd.R_drew));exact(zF Y.out J.out  (.slice au I.length ap)  (.slice bh U.length bb)  (.slice a3 L.length ax))));(case side6=>exact(Kd.R_reads' Y.out).2.1);(case side7=>refine(Kd.R_reads' (e:=3) (base:=w.heap.size) (ok:=fun k_=>((some k_≠(.slice a3 L.length ax:Value).ownBlock/\some k_≠(.slice bg O.length ba:Value).ownBlock)/\some k_≠(.slice bt ab.length bo:Value).ownBlock)) (n:=I.length) (c:=ap) ?_).2.2;exact(by(with_reducible repeat(first|apply Kd.R_alloc|apply Kd.R_drewN|apply Kd.R_drew));exact(zF ai.out J.out  (.slice au I.length ap)  (.slice bh U.length bb)  (.slice a3 L.length ax))));(case side8=>exact(Kd.R_reads' ai.out).2.1);(case side9=>refine(Kd.S_reads' (e:=59) (base:=w.heap.size) (ok:=fun k_=>(True/\some k_≠(.slice b0 ac.length bw:Value).ownBlock)) (n:=U.length) (c:=bb) ?_).2.2;exact(by(with_reducible repeat(first|apply Kd.S_alloc|apply Kd.S_drewN|apply Kd.S_drew));exact(Kd.S_mono (Kd.S_far (p:=⟨Z,2,none⟩) (Kd.S_far (p:=⟨Z,1,none⟩) (Kd.S_far (p:=⟨Z,0,none⟩) (Kd.S_types aj.out J.out zab) (fun _ hk=>hk.2) (.slice au I.length ap)) (fun _ hk=>hk.2) (.slice bh U.length bb)) (fun _ hk=>hk.2) (.slice a3 L.length ax)) (fun _ h_=>h_.1))));(case side10=>exact(Kd.S_reads' aj.out).2.1);(case side11=>refine(Kd.R_reads' (e:=3) (base:=w.heap.size) (ok:=fun k_=>((some k_≠(.slice au I.length ap:Value).ownBlock/\some k_≠(.slice bg O.length ba:Value).ownBlock)/\some k_≠(.slice bt ab.length bo:Value).ownBlock)) (n:=L.length) (c:=ax) ?_).2.2;exact(by(with_reducible repeat(first|apply Kd.R_alloc|apply Kd.R_drewN|apply Kd.R_drew));exact(zF ak.out J.out  (.slice au I.length ap)  (.slice bh U.length bb)  (.slice a3 L.length ax))));(case side12=>exact(Kd.R_reads' ak.out).2.1);rintro e g5 ⟨rfl,hb⟩;refine⟨_,rfl,?_⟩;replace X:=aK (Kd.R_below (by(with_reducible repeat(first|apply Kd.R_alloc|apply Kd.R_drewN|apply Kd.R_drew));exact(zF X.out J.out  (.slice au I.length ap)  (.slice bh U.length bb)  (.slice a3 L.length ax))) hb);replace aa:=aK (Kd.S_below (by(with_reducible repeat(first|apply Kd.S_alloc|apply Kd.S_drewN|apply Kd.S_drew));exact(Kd.S_mono (Kd.S_far (p:=⟨Z,2,none⟩) (Kd.S_far (p:=⟨Z,1,none⟩) (Kd.S_far (p:=⟨Z,0,none⟩) (Kd.S_types aa.out J.out zab) (fun _ hk=>hk.2) (.slice au I.length ap)) (fun _ hk=>hk.2) (.slice bh U.length bb)) (fun _ hk=>hk.2) (.slice a3 L.length ax)) (fun _ h_=>h_.1))) hb);replace Y:=aK (Kd.R_below (by(with_reducible repeat(first|apply Kd.R_alloc|apply Kd.R_drewN|apply Kd.R_drew));exact(zF Y.out J.out  (.slice au I.length ap)  (.slice bh U.length bb)  (.slice a3 L.length ax))) hb);replace ai:=aK (Kd.R_below (by(with_reducible repeat(first|apply Kd.R_alloc|apply Kd.R_drewN|apply Kd.R_drew));exact(zF ai.out J.out  (.slice au I.length ap)  (.slice bh U.length bb)  (.slice a3 L.length ax))) hb);replace aj:=aK (Kd.S_below (by(with_reducible repeat(first|apply Kd.S_alloc|apply Kd.S_drewN|apply Kd.S_drew));exact(Kd.S_mono (Kd.S_far (p:=⟨Z,2,none⟩) (Kd.S_far (p:=⟨Z,1,none⟩) (Kd.S_far (p:=⟨Z,0,none⟩) (Kd.S_types aj.out J.out zab) (fun _ hk=>hk.2) (.slice au I.length ap)) (fun _ hk=>hk.2) (.slice bh U.length bb)) (fun _ hk=>hk.2) (.slice a3 L.length ax)) (fun _ h_=>h_.1))) hb);replace ak:=aK (Kd.R_below (by(with_reducible repeat(first|apply Kd.R_alloc|apply Kd.R_drewN|apply Kd.R_drew));exact(zF ak.out J.out  (.slice au I.length ap)  (.slice bh U.length bb)  (.slice a3 L.length ax))) hb);replace G:=aK (blk_below (g:=b3) (o:= .cells #[.slice az al.length a5,.slice a0 am.length a6,.slice a1 an.length a7] 25 (0,0)) zbk hb);replace D:=aK (blk_below (g:=ah) (o:= .cells #[.slice bg O.length ba,.slice b0 ac.length bw,.slice bt ab.length bo] 25 (0,0)) zbj hb);replace J:=aK (blk_below (g:=Z) (o:= .cells #[.slice au I.length ap,.slice bh U.length bb,.slice a3 L.length ax] 25 (0,0)) (by refine bkR ?_;refine blk_put (cs:= #[.slice au I.length ap,.slice bh U.length bb,.slice none 0 0]) ?_ 2 _ rfl;refine bkR ?_;refine blk_put (cs:= #[.slice au I.length ap,.slice none 0 0,.slice none 0 0]) ?_ 1 _ rfl;refine bkR ?_;refine blk_put (cs:= #[.slice none 0 0,.slice none 0 0,.slice none 0 0]) ?_ 0 _ rfl;refine bkR ?_;exact J.out) hb);replace HB:=hbB HB hb;(try clear hb);(try clear hk)))
   go_ret
   exact⟨rfE,hbA HB.out⟩
 ·replace c5:=Bool.eq_false_iff.mpr c5;subst c5;rw[if_neg nofT]at H
  obtain rfl:=Option.some.inj H
  go_enter Try.func5,Try.ntmps5
  go_wp2_with (first|((with_reducible refine gD 1 rfl ?_);refine bE 1 #[.slice az al.length a5,.slice a0 am.length a6,.slice a1 an.length a7] 25 ?_;intro b3 hg g6 hbox hb;have G:=aK (hbox);have ci:=hbS HB hg;have cf:=hbS HB hg;replace HB:=hbB HB hb;clear hb hbox hg;obtain⟨eg,eh,ei,fo,fp,fq⟩:=cell3 G)|((with_reducible refine gC 16 rfl ?_);refine cG (some 11) Try.func16 #[.agg #[.slice az al.length a5,.slice a0 am.length a6,.slice a1 an.length a7]] ?_;(with_reducible refine(share_Once.calls k _ _ al _ _ am _ _ an O ac ab b4 cr _ ?side1 ?side2 ?side3 ?side4 ?side5 ?side6 A2.out).mono ?_);(case side1=>exact kcB b9 HB);(case side2=>exact b6.out);(case side3=>exact kcB ca HB);(case side4=>exact b7.out);(case side5=>exact kcB cb HB);(case side6=>exact b8.out);rintro e g7 ⟨cv,cw,cx,rfl,bq,b2,br,hb⟩;refine⟨_,rfl,?_⟩;have X:=aK (Kd.R_lower bq (below_size (hbA HB.out)));have aa:=aK (Kd.S_lower b2 (below_size (hbA HB.out)));have Y:=aK (Kd.R_lower br (below_size (hbA HB.out)));replace G:=bkB G hb;replace HB:=hbB HB hb;(try clear hb);(try clear bq);(try clear b2);(try clear br))|((with_reducible refine gD 3 rfl ?_);refine bE 3 #[.slice none 0 0,.slice none 0 0,.slice none 0 0] 25 ?_;intro ah hg g8 hbox hb;replace X:=kdB X hb;replace aa:=aK (Kd.S_below (by(with_reducible repeat(first|apply Kd.S_alloc|apply Kd.S_drewN|apply Kd.S_drew));exact aa.out) hb);replace Y:=kdB Y hb;have D:=aK (hbox);have cj:=hbS HB hg;have cg:=hbS HB hg;replace HB:=hbB HB hb;have ae:=neL G hg;have bk:=neG G hg;replace G:=bkB G hb;clear hb hbox hg;obtain⟨bi,bc,dh⟩:=Kd.R_slice X.out;subst dh;have gi:=bk.out;have gs:=ae.out;obtain⟨ej,ek,el,ft,fu,fv⟩:=cell3 D;obtain⟨b1,bx,di⟩:=Kd.S_slice aa.out;subst di;obtain⟨bu,bp,dj⟩:=Kd.R_slice Y.out;subst dj;obtain⟨em,en,eo,fw,fx,fy⟩:=cell3 G)|((with_reducible refine gC 17 rfl ?_);refine cG (some 17) Try.func17 #[.agg #[.slice az al.length a5,.slice a0 am.length a6,.slice a1 an.length a7]] ?_;(with_reducible refine(recoupref22_Once.calls k _ _ al _ _ am _ _ an I U L b5 ct _ ?side1 ?side2 ?side3 ?side4 ?side5 ?side6 A3.out).mono ?_);(case side1=>exact Kd.C_below b9.out (hbA HB.out));(case side2=>exact b6.out);(case side3=>exact Kd.C_below ca.out (hbA HB.out));(case side4=>exact b7.out);(case side5=>exact Kd.C_below cb.out (hbA HB.out));(case side6=>exact b8.out);rintro e g9 ⟨cy,cz,c2,rfl,bq,b2,br,hb⟩;refine⟨_,rfl,?_⟩;have ai:=aK (Kd.R_lower (Kd.R_new' (Kd.R_new' bq (Kd.R_lt (by(with_reducible repeat(first|apply Kd.R_alloc|apply Kd.R_drewN|apply Kd.R_drew));exact(zF X.out D.out  (.slice bi O.length bc)  (.slice b1 ac.length bx)  (.slice bu ab.length bp))))) (Kd.R_lt (by(with_reducible repeat(first|apply Kd.R_alloc|apply Kd.R_drewN|apply Kd.R_drew));exact(zF Y.out D.out  (.slice bi O.length bc)  (.slice b1 ac.length bx)  (.slice bu ab.length bp))))) (below_size (hbA HB.out)));have aj:=aK (Kd.S_lower (Kd.S_new' b2 (Kd.S_lt (by(with_reducible repeat(first|apply Kd.S_alloc|apply Kd.S_drewN|apply Kd.S_drew));exact(Kd.S_mono (Kd.S_far (p:=⟨ah,2,none⟩) (Kd.S_far (p:=⟨ah,1,none⟩) (Kd.S_far (p:=⟨ah,0,none⟩) (Kd.S_types aa.out D.out zab) (fun _ hk=>hk.2) (.slice bi O.length bc)) (fun _ hk=>hk.2) (.slice b1 ac.length bx)) (fun _ hk=>hk.2) (.slice bu ab.length bp)) (fun _ h_=>h_.1))))) (below_size (hbA HB.out)));replace aa:=aK (Kd.S_elder' (by(with_reducible repeat(first|apply Kd.S_alloc|apply Kd.S_drewN|apply Kd.S_drew));exact(Kd.S_mono (Kd.S_far (p:=⟨ah,2,none⟩) (Kd.S_far (p:=⟨ah,1,none⟩) (Kd.S_far (p:=⟨ah,0,none⟩) (Kd.S_types aa.out D.out zab) (fun _ hk=>hk.2) (.slice bi O.length bc)) (fun _ hk=>hk.2) (.slice b1 ac.length bx)) (fun _ hk=>hk.2) (.slice bu ab.length bp)) (fun _ h_=>h_.1))) (Kd.S_base b2) hb);have ak:=aK (Kd.R_lower (Kd.R_new' (Kd.R_new' br (Kd.R_lt (by(with_reducible repeat(first|apply Kd.R_alloc|apply Kd.R_drewN|apply Kd.R_drew));exact(zF X.out D.out  (.slice bi O.length bc)  (.slice b1 ac.length bx)  (.slice bu ab.length bp))))) (Kd.R_lt (by(with_reducible repeat(first|apply Kd.R_alloc|apply Kd.R_drewN|apply Kd.R_drew));exact(zF Y.out D.out  (.slice bi O.length bc)  (.slice b1 ac.length bx)  (.slice bu ab.length bp))))) (below_size (hbA HB.out)));replace X:=aK (Kd.R_mono (Kd.R_told (Kd.R_told (Kd.R_old (by(with_reducible repeat(first|apply Kd.R_alloc|apply Kd.R_drewN|apply Kd.R_drew));exact(zF X.out D.out  (.slice bi O.length bc)  (.slice b1 ac.length bx)  (.slice bu ab.length bp))) hb) (Kd.R_base bq)) (Kd.R_base br)) (fun _ h_=>h_.1));replace Y:=aK (Kd.R_mono (Kd.R_told (Kd.R_told (Kd.R_old (by(with_reducible repeat(first|apply Kd.R_alloc|apply Kd.R_drewN|apply Kd.R_drew));exact(zF Y.out D.out  (.slice bi O.length bc)  (.slice b1 ac.length bx)  (.slice bu ab.length bp))) hb) (Kd.R_base bq)) (Kd.R_base br)) (fun _ h_=>h_.1));replace G:=aK (blk_below (g:=b3) (o:= .cells #[.slice az al.length a5,.slice a0 am.length a6,.slice a1 an.length a7] 25 (0,0)) zbl hb);replace D:=aK (blk_below (g:=ah) (o:= .cells #[.slice bi O.length bc,.slice b1 ac.length bx,.slice bu ab.length bp] 25 (0,0)) (by refine bkR ?_;refine blk_put (cs:= #[.slice bi O.length bc,.slice b1 ac.length bx,.slice none 0 0]) ?_ 2 _ rfl;refine bkR ?_;refine blk_put (cs:= #[.slice bi O.length bc,.slice none 0 0,.slice none 0 0]) ?_ 1 _ rfl;refine bkR ?_;refine blk_put (cs:= #[.slice none 0 0,.slice none 0 0,.slice none 0 0]) ?_ 0 _ rfl;refine bkR ?_;exact D.out) hb);replace HB:=hbB HB hb;(try clear hb);(try clear hk);(try clear bq);(try clear b2);(try clear br))|((with_reducible refine gD 6 rfl ?_);refine bE 6 #[.slice none 0 0,.slice none 0 0,.slice none 0 0] 25 ?_;intro Z hg ia hbox hb;replace X:=kdB X hb;replace aa:=aK (Kd.S_below (by(with_reducible repeat(first|apply Kd.S_alloc|apply Kd.S_drewN|apply Kd.S_drew));exact aa.out) hb);replace Y:=kdB Y hb;replace ai:=kdB ai hb;replace aj:=aK (Kd.S_below (by(with_reducible repeat(first|apply Kd.S_alloc|apply Kd.S_drewN|apply Kd.S_drew));exact aj.out) hb);replace ak:=kdB ak hb;have J:=aK (hbox);have ck:=hbS HB hg;have ch:=hbS HB hg;replace HB:=hbB HB hb;have af:=neL G hg;have bl:=neG G hg;replace G:=bkB G hb;have ag:=neL D hg;have bm:=neG D hg;replace D:=bkB D hb;clear hb hbox hg;obtain⟨av,aq,dk⟩:=Kd.R_slice ai.out;subst dk;have gj:=bl.out;have gt:=af.out;have gk:=bm.out;have gu:=ag.out;obtain⟨ep,er,es,fz,f0,f1⟩:=cell3 J;obtain⟨bj,bd,dl⟩:=Kd.S_slice aj.out;subst dl;obtain⟨a4,ay,dm⟩:=Kd.R_slice ak.out;subst dm;obtain⟨et,eu,ev,f2,f3,f4⟩:=cell3 D)|((with_reducible refine gC 15 rfl ?_);refine cG (some 23) Try.func15 #[.agg #[.slice bi O.length bc,.slice b1 ac.length bx,.slice bu ab.length bp],.agg #[.slice av I.length aq,.slice bj U.length bd,.slice a4 L.length ay]] ?_;(with_reducible refine(recoupref21_Same.calls k _ _ O _ _ ac _ _ ab _ _ I _ _ U _ _ L false _ ?side1 ?side2 ?side3 ?side4 ?side5 ?side6 ?side7 ?side8 ?side9 ?side10 ?side11 ?side12 A4.out).mono ?_);(case side1=>refine(Kd.R_reads' (e:=3) (base:=w.heap.size) (ok:=fun k_=>((some k_≠(.slice bu ab.length bp:Value).ownBlock/\some k_≠(.slice av I.length aq:Value).ownBlock)/\some k_≠(.slice a4 L.length ay:Value).ownBlock)) (n:=O.length) (c:=bc) ?_).2.2;exact(by(with_reducible repeat(first|apply Kd.R_alloc|apply Kd.R_drewN|apply Kd.R_drew));exact(zF X.out J.out  (.slice av I.length aq)  (.slice bj U.length bd)  (.slice a4 L.length ay))));(case side2=>exact(Kd.R_reads' X.out).2.1);(case side3=>refine(Kd.S_reads' (e:=59) (base:=w.heap.size) (ok:=fun k_=>(True/\some k_≠(.slice bj U.length bd:Value).ownBlock)) (n:=ac.length) (c:=bx) ?_).2.2;exact(by(with_reducible repeat(first|apply Kd.S_alloc|apply Kd.S_drewN|apply Kd.S_drew));exact(Kd.S_mono (Kd.S_far (p:=⟨Z,2,none⟩) (Kd.S_far (p:=⟨Z,1,none⟩) (Kd.S_far (p:=⟨Z,0,none⟩) (Kd.S_types aa.out J.out zab) (fun _ hk=>hk.2) (.slice av I.length aq)) (fun _ hk=>hk.2) (.slice bj U.length bd)) (fun _ hk=>hk.2) (.slice a4 L.length ay)) (fun _ h_=>h_.1))));(case side4=>exact(Kd.S_reads' aa.out).2.1);(case side5=>refine(Kd.R_reads' (e:=3) (base:=w.heap.size) (ok:=fun k_=>((some k_≠(.slice bi O.length bc:Value).ownBlock/\some k_≠(.slice av I.length aq:Value).ownBlock)/\some k_≠(.slice a4 L.length ay:Value).ownBlock)) (n:=ab.length) (c:=bp) ?_).2.2;exact(by(with_reducible repeat(first|apply Kd.R_alloc|apply Kd.R_drewN|apply Kd.R_drew));exact(zF Y.out J.out  (.slice av I.length aq)  (.slice bj U.length bd)  (.slice a4 L.length ay))));(case side6=>exact(Kd.R_reads' Y.out).2.1);(case side7=>refine(Kd.R_reads' (e:=3) (base:=w.heap.size) (ok:=fun k_=>((some k_≠(.slice a4 L.length ay:Value).ownBlock/\some k_≠(.slice bi O.length bc:Value).ownBlock)/\some k_≠(.slice bu ab.length bp:Value).ownBlock)) (n:=I.length) (c:=aq) ?_).2.2;exact(by(with_reducible repeat(first|apply Kd.R_alloc|apply Kd.R_drewN|apply Kd.R_drew));exact(zF ai.out J.out  (.slice av I.length aq)  (.slice bj U.length bd)  (.slice a4 L.length ay))));(case side8=>exact(Kd.R_reads' ai.out).2.1);(case side9=>refine(Kd.S_reads' (e:=59) (base:=w.heap.size) (ok:=fun k_=>(True/\some k_≠(.slice b1 ac.length bx:Value).ownBlock)) (n:=U.length) (c:=bd) ?_).2.2;exact(by(with_reducible repeat(first|apply Kd.S_alloc|apply Kd.S_drewN|apply Kd.S_drew));exact(Kd.S_mono (Kd.S_far (p:=⟨Z,2,none⟩) (Kd.S_far (p:=⟨Z,1,none⟩) (Kd.S_far (p:=⟨Z,0,none⟩) (Kd.S_types aj.out J.out zab) (fun _ hk=>hk.2) (.slice av I.length aq)) (fun _ hk=>hk.2) (.slice bj U.length bd)) (fun _ hk=>hk.2) (.slice a4 L.length ay)) (fun _ h_=>h_.1))));(case side10=>exact(Kd.S_reads' aj.out).2.1);(case side11=>refine(Kd.R_reads' (e:=3) (base:=w.heap.size) (ok:=fun k_=>((some k_≠(.slice av I.length aq:Value).ownBlock/\some k_≠(.slice bi O.length bc:Value).ownBlock)/\some k_≠(.slice bu ab.length bp:Value).ownBlock)) (n:=L.length) (c:=ay) ?_).2.2;exact(by(with_reducible repeat(first|apply Kd.R_alloc|apply Kd.R_drewN|apply Kd.R_drew));exact(zF ak.out J.out  (.slice av I.length aq)  (.slice bj U.length bd)  (.slice a4 L.length ay))));(case side12=>exact(Kd.R_reads' ak.out).2.1);rintro e ib ⟨rfl,hb⟩;refine⟨_,rfl,?_⟩;replace X:=aK (Kd.R_below (by(with_reducible repeat(first|apply Kd.R_alloc|apply Kd.R_drewN|apply Kd.R_drew));exact(zF X.out J.out  (.slice av I.length aq)  (.slice bj U.length bd)  (.slice a4 L.length ay))) hb);replace aa:=aK (Kd.S_below (by(with_reducible repeat(first|apply Kd.S_alloc|apply Kd.S_drewN|apply Kd.S_drew));exact(Kd.S_mono (Kd.S_far (p:=⟨Z,2,none⟩) (Kd.S_far (p:=⟨Z,1,none⟩) (Kd.S_far (p:=⟨Z,0,none⟩) (Kd.S_types aa.out J.out zab) (fun _ hk=>hk.2) (.slice av I.length aq)) (fun _ hk=>hk.2) (.slice bj U.length bd)) (fun _ hk=>hk.2) (.slice a4 L.length ay)) (fun _ h_=>h_.1))) hb);replace Y:=aK (Kd.R_below (by(with_reducible repeat(first|apply Kd.R_alloc|apply Kd.R_drewN|apply Kd.R_drew));exact(zF Y.out J.out  (.slice av I.length aq)  (.slice bj U.length bd)  (.slice a4 L.length ay))) hb);replace ai:=aK (Kd.R_below (by(with_reducible repeat(first|apply Kd.R_alloc|apply Kd.R_drewN|apply Kd.R_drew));exact(zF ai.out J.out  (.slice av I.length aq)  (.slice bj U.length bd)  (.slice a4 L.length ay))) hb);replace aj:=aK (Kd.S_below (by(with_reducible repeat(first|apply Kd.S_alloc|apply Kd.S_drewN|apply Kd.S_drew));exact(Kd.S_mono (Kd.S_far (p:=⟨Z,2,none⟩) (Kd.S_far (p:=⟨Z,1,none⟩) (Kd.S_far (p:=⟨Z,0,none⟩) (Kd.S_types aj.out J.out zab) (fun _ hk=>hk.2) (.slice av I.length aq)) (fun _ hk=>hk.2) (.slice bj U.length bd)) (fun _ hk=>hk.2) (.slice a4 L.length ay)) (fun _ h_=>h_.1))) hb);replace ak:=aK (Kd.R_below (by(with_reducible repeat(first|apply Kd.R_alloc|apply Kd.R_drewN|apply Kd.R_drew));exact(zF ak.out J.out  (.slice av I.length aq)  (.slice bj U.length bd)  (.slice a4 L.length ay))) hb);replace G:=aK (blk_below (g:=b3) (o:= .cells #[.slice az al.length a5,.slice a0 am.length a6,.slice a1 an.length a7] 25 (0,0)) zbk hb);replace D:=aK (blk_below (g:=ah) (o:= .cells #[.slice bi O.length bc,.slice b1 ac.length bx,.slice bu ab.length bp] 25 (0,0)) zbj hb);replace J:=aK (blk_below (g:=Z) (o:= .cells #[.slice av I.length aq,.slice bj U.length bd,.slice a4 L.length ay] 25 (0,0)) (by refine bkR ?_;refine blk_put (cs:= #[.slice av I.length aq,.slice bj U.length bd,.slice none 0 0]) ?_ 2 _ rfl;refine bkR ?_;refine blk_put (cs:= #[.slice av I.length aq,.slice none 0 0,.slice none 0 0]) ?_ 1 _ rfl;refine bkR ?_;refine blk_put (cs:= #[.slice none 0 0,.slice none 0 0,.slice none 0 0]) ?_ 0 _ rfl;refine bkR ?_;exact J.out) hb);replace HB:=hbB HB hb;(try clear hb);(try clear hk)))
  go_ret
  exact⟨rfE,hbA HB.out⟩
end Go.Proofs.Ytnfemjnajfdepaa.Q
namespace Go.Proofs.Ytnfemjnajfdepaa.M
open RowKit YtnfemjnajfdepaaW.PrintWords YtnfemjnajfdepaaW.PrintMore
def Ends{α:Type}(g:Nat->Option α)(r:α):Prop:= ∃K,∀k,K<=k->g k=some r
theorem Ends.const{α:Type}{x:Option α}{r:α}(h:x=some r):Ends (fun _=>x) r:=⟨0,fun _ _=>h⟩
theorem Ends.exists{α:Type}{g:Nat->Option α}{r:α}(h:Ends g r): ∃k,g k=some r:=by
 obtain⟨K,h⟩:=h;exact⟨K,h K (Nat.le_refl _)⟩
theorem Ends.bind{α β:Type}{f:Nat->Option α}{h:Nat->α->Option β}{x:α}{r:β}(hf:Ends f x)(hh:Ends (fun k=>h k x) r):Ends (fun k=>(f k).bind (h k)) r:=by
 obtain⟨K,hf⟩:=hf;obtain⟨L,hh⟩:=hh;refine⟨max K L,fun k hk=>?_⟩;show(f k).bind (h k)=some r;rw[hf k zaa];exact hh k zaa
theorem Ends.bind1{α β:Type}{x:Option α}{h:Nat->α->Option β}{a:α}{r:β}(hx:x=some a)(hh:Ends (fun k=>h k a) r):Ends (fun k=>x.bind (h k)) r:=by
 subst hx;exact hh
theorem Ends.pos{α:Type}{f g:Nat->Option α}{c:Prop} [Decidable c]{r:α}(hc:c)(hf:Ends f r):Ends (fun k=>if c then f k else g k) r:=by
 simp only[if_pos hc];exact hf
theorem Ends.neg{α:Type}{f g:Nat->Option α}{c:Prop} [Decidable c]{r:α}(hc: ¬c)(hg:Ends g r):Ends (fun k=>if c then f k else g k) r:=by
 simp only[if_neg hc];exact hg
theorem Ends.succ{α:Type}{l body:Nat->Option α}{r:α}(hs: ∀k,l (k+1)=body k)(hb:Ends body r):Ends l r:=by
 obtain⟨K,hb⟩:=hb;refine⟨K+1,fun k hk=>?_⟩;obtain⟨j,rfl⟩: ∃j,k=j+1:=⟨k-1,by omega⟩
 rw[hs];exact hb j zaa
theorem Ends.congr{α:Type}{f g:Nat->Option α}{r:α}(h: ∀k,f k=g k)(hg:Ends g r):Ends f r:=by
 obtain⟨K,hg⟩:=hg;exact⟨K,fun k hk=>by rw[h,hg k hk]⟩
theorem Ends.eq{α:Type}{g:Nat->Option α}{r r':α}(h:Ends g r)(e:r=r'):Ends g r':=e▸h
theorem w64{x:Int}(h0: -9223372036854775808<=x)(h1:x<=9223372036854775807):wrap64 x=x:=by unfold wrap64;omega
theorem wu64{x:Int}(h0:0<=x)(h1:x<18446744073709551616):IntKind.u64.wrap x=x:=by rw[IntKind.wrap_u64];omega
theorem rd_nat(l:List Int)(i:Nat):rd l (i:Int)=l.getD i 0:=by simp[rd]
end Go.Proofs.Ytnfemjnajfdepaa.M
namespace Go.Proofs.Ytnfemjnajfdepaa.M
structure El where
 v:BitVec 8
deriving DecidableEq
theorem El.eq{a b:El}(h:a.v=b.v):a=b:=by cases a;cases b;cases h;rfl
instance:Add El:=⟨fun a b=>⟨a.v ^^^ b.v⟩⟩
instance:Zero El:=⟨⟨0⟩⟩
instance:OfNat El 0:=⟨⟨0⟩⟩
instance:OfNat El 1:=⟨⟨1⟩⟩
theorem add_comm(a b:El):a+b=b+a:=El.eq (BitVec.xor_comm _ _)
theorem add_assoc(a b c:El):a+b+c=a+(b+c):=El.eq (BitVec.xor_assoc _ _ _)
theorem add_zero(a:El):a+0=a:=El.eq BitVec.xor_zero
theorem zero_add(a:El):0+a=a:=El.eq BitVec.zero_xor
instance:Std.Commutative (α:=El) (· + ·):=⟨add_comm⟩
instance:Std.Associative (α:=El) (· + ·):=⟨add_assoc⟩
def xt(a:BitVec 8):BitVec 8:=(a <<< 1) ^^^ (if a.getLsbD 7 then 0x1d#8 else 0#8)
theorem xt_xor(a b:BitVec 8):xt (a ^^^ b)=xt a ^^^ xt b:=by
 unfold xt;rw[BitVec.shiftLeft_xor_distrib,BitVec.getLsbD_xor]
 cases a.getLsbD 7<;>cases b.getLsbD 7<;>simp<;>first|ac_rfl|skip
 ·rw[show a <<< 1 ^^^ 29#8 ^^^ (b <<< 1 ^^^ 29#8)=(a <<< 1 ^^^ b <<< 1) ^^^ (29#8 ^^^ 29#8)from by ac_rfl];simp
def xtn:Nat->BitVec 8->BitVec 8
 |0,a=>a
 |n+1,a=>xt (xtn n a)
theorem xtn_xor: ∀n a b,xtn n (a ^^^ b)=xtn n a ^^^ xtn n b
 |0,_,_=>rfl
 |n+1,a,b=>by
  show xt (xtn n (a ^^^ b))=_;rw[xtn_xor n,xt_xor];rfl
theorem xtn_xt: ∀n a,xtn n (xt a)=xt (xtn n a)
 |0,_=>rfl
 |n+1,a=>by
  show xt (xtn n (xt a))=_;rw[xtn_xt n];rfl
theorem xtn_add: ∀m n a,xtn (m+n) a=xtn m (xtn n a)
 |0,n,a=>by rw[Nat.zero_add];rfl
 |m+1,n,a=>by
  rw[show m+1+n=(m+n)+1 from by omega];show xt (xtn (m+n) a)=xt (xtn m (xtn n a));rw[xtn_add m]
def gmN(a b:BitVec 8):Nat->BitVec 8
 |0=>0
 |n+1=>gmN a b n ^^^ (if b.getLsbD n then xtn n a else 0)
def gm(a b:BitVec 8):BitVec 8:=gmN a b 8
theorem gmN_xor_right(a b c:BitVec 8): ∀n,gmN a (b ^^^ c) n=gmN a b n ^^^ gmN a c n
 |0=>by simp[gmN]
 |n+1=>by
  show gmN a (b ^^^ c) n ^^^ _=(gmN a b n ^^^ _) ^^^ (gmN a c n ^^^ _);rw[gmN_xor_right a b c n,BitVec.getLsbD_xor,show(gmN a b n ^^^ if b.getLsbD n=true then xtn n a else 0) ^^^ (gmN a c n ^^^ if c.getLsbD n=true then xtn n a else 0)=(gmN a b n ^^^ gmN a c n) ^^^ ((if b.getLsbD n=true then xtn n a else 0) ^^^ (if c.getLsbD n=true then xtn n a else 0))from by ac_rfl]
  cases b.getLsbD n<;>cases c.getLsbD n<;>simp
theorem gmN_xor_left(a b c:BitVec 8): ∀n,gmN (a ^^^ b) c n=gmN a c n ^^^ gmN b c n
 |0=>by simp[gmN]
 |n+1=>by
  show gmN (a ^^^ b) c n ^^^ _=(gmN a c n ^^^ _) ^^^ (gmN b c n ^^^ _);rw[gmN_xor_left a b c n,show(gmN a c n ^^^ if c.getLsbD n=true then xtn n a else 0) ^^^ (gmN b c n ^^^ if c.getLsbD n=true then xtn n b else 0)=(gmN a c n ^^^ gmN b c n) ^^^ ((if c.getLsbD n=true then xtn n a else 0) ^^^ (if c.getLsbD n=true then xtn n b else 0))from by ac_rfl,xtn_xor]
  cases c.getLsbD n<;>simp
theorem gmN_xt(a b:BitVec 8): ∀n,gmN (xt a) b n=xt (gmN a b n)
 |0=>show(0:BitVec 8)=xt 0 by decide
 |n+1=>by
  show gmN (xt a) b n ^^^ _=xt (gmN a b n ^^^ _);rw[gmN_xt a b n,xt_xor,xtn_xt]
  cases b.getLsbD n
  ·have:xt (0:BitVec 8)=0:=by decide
   simp only[Bool.false_eq_true,if_false];rw[this]
  ·simp
theorem gm_one_left: ∀b:BitVec 8,gm 1 b=b:=by decide+kernel
theorem gm_one_right: ∀a:BitVec 8,gm a 1=a:=by decide+kernel
def pw(n:Nat):BitVec 8:=xtn n 1
theorem gm_pw: ∀i b,gm (pw i) b=xtn i b
 |0,b=>gm_one_left b
 |i+1,b=>by
  show gmN (xt (pw i)) b 8=_;rw[gmN_xt];show xt (gm (pw i) b)=_;rw[gm_pw i b];rfl
theorem gm_pw_pw(i j:Nat):gm (pw i) (pw j)=pw (i+j):=by
 rw[gm_pw];unfold pw;rw[xtn_add]
theorem pw_255:pw 255=1:=by decide+kernel
theorem pw_add_255(n:Nat):pw (n+255)=pw n:=by
 unfold pw;rw[xtn_add];exact congrArg _ pw_255
def lgFrom(a:BitVec 8):Nat->Nat->BitVec 8->Nat
 |0,i,_=>i
 |f+1,i,p=>if p=a then i else lgFrom a f (i+1) (xt p)
def lg(a:BitVec 8):Nat:=lgFrom a 254 0 1
theorem lgFrom_le(a:BitVec 8): ∀f i p,lgFrom a f i p<=i+f
 |0,i,p=>Nat.le_refl _
 |f+1,i,p=>by
  unfold lgFrom
  split
  ·omega
  ·have:=lgFrom_le a f (i+1) (xt p);omega
theorem lg_le(a:BitVec 8):lg a<=254:=by have:=lgFrom_le a 254 0 1;unfold lg;omega
theorem pw_lg: ∀a:BitVec 8,a≠0->pw (lg a)=a:=by decide+kernel
theorem gm_zero_right(a:BitVec 8):gm a 0=0:=by
 have:=gmN_xor_right a 0 0 8;simpa[gm]using this
theorem gm_zero_left(b:BitVec 8):gm 0 b=0:=by
 have:=gmN_xor_left 0 0 b 8;simpa[gm]using this
theorem gm_comm(a b:BitVec 8):gm a b=gm b a:=by
 by_cases ha:a=0
 ·subst ha;rw[gm_zero_left,gm_zero_right]
 ·by_cases hb:b=0
  ·subst hb;rw[gm_zero_left,gm_zero_right]
  ·rw[<-pw_lg a ha,<-pw_lg b hb,gm_pw_pw,gm_pw_pw,Nat.add_comm]
theorem gm_assoc(a b c:BitVec 8):gm (gm a b) c=gm a (gm b c):=by
 by_cases ha:a=0
 ·subst ha;rw[gm_zero_left,gm_zero_left,gm_zero_left]
 ·by_cases hb:b=0
  ·subst hb;rw[gm_zero_right,gm_zero_left,gm_zero_right]
  ·by_cases hc:c=0
   ·subst hc;rw[gm_zero_right,gm_zero_right,gm_zero_right]
   ·rw[<-pw_lg a ha,<-pw_lg b hb,<-pw_lg c hc,gm_pw_pw,gm_pw_pw,gm_pw_pw,gm_pw_pw,Nat.add_assoc]
def ginv(a:BitVec 8):BitVec 8:=if a=0 then 0 else pw (255-lg a)
theorem gm_inv(a:BitVec 8)(h:a≠0):gm a (ginv a)=1:=by
 unfold ginv;have hl:=lg_le a;rw[if_neg h]
 conv=>lhs;arg 1;rw[<-pw_lg a h]
 rw[gm_pw_pw,show lg a+(255-lg a)=255 from by omega,pw_255]
instance:Mul El:=⟨fun a b=>⟨gm a.v b.v⟩⟩
def El.inv(a:El):El:=⟨ginv a.v⟩
theorem mul_comm(a b:El):a*b=b*a:=El.eq (gm_comm _ _)
theorem mul_assoc(a b c:El):a*b*c=a*(b*c):=El.eq (gm_assoc _ _ _)
instance:Std.Commutative (α:=El) (· * ·):=⟨mul_comm⟩
instance:Std.Associative (α:=El) (· * ·):=⟨mul_assoc⟩
theorem mul_left_comm(a b c:El):a*(b*c)=b*(a*c):=by ac_rfl
theorem mul_one(a:El):a*1=a:=El.eq (gm_one_right _)
theorem one_mul(a:El):1*a=a:=El.eq (gm_one_left _)
theorem mul_zero(a:El):a*0=0:=El.eq (gm_zero_right _)
theorem zero_mul(a:El):0*a=0:=El.eq (gm_zero_left _)
theorem mul_add(a b c:El):a*(b+c)=a*b+a*c:=El.eq (gmN_xor_right _ _ _ 8)
theorem one_ne_zero:(1:El)≠0:=by decide
theorem v_ne{a:El}(h:a≠0):a.v≠0:=fun e=>h (El.eq e)
theorem mul_inv{a:El}(h:a≠0):a*a.inv=1:=El.eq (gm_inv _ (v_ne h))
theorem inv_mul{a:El}(h:a≠0):a.inv*a=1:=by rw[mul_comm,mul_inv h]
theorem inv_ne{a:El}(h:a≠0):a.inv≠0:=fun e=>by
 have:=mul_inv h;rw[e,mul_zero]at this
 exact one_ne_zero this.symm
theorem inv_unique{a b:El}(h:a*b=1):b=a.inv:=by
 have ha:a≠0:=fun e=>by rw[e,zero_mul]at h;exact one_ne_zero h.symm
 rw[<-one_mul b,<-inv_mul ha,mul_assoc,h,mul_one]
end Go.Proofs.Ytnfemjnajfdepaa.M
namespace Go.Proofs.Ytnfemjnajfdepaa.M
open RowKit YtnfemjnajfdepaaW.PrintWords YtnfemjnajfdepaaW.PrintLast YtnfemjnajfdepaaW.PrintMore Q
theorem wi64{x:Nat}(h:x<2^63):IntKind.i64.wrap (x:Int)=(x:Int):=by
 rw[show IntKind.i64.wrap (x:Int)=wrap64 (x:Int)from i64_w _];exact w64 zaa zaa
theorem toNat64{a:Nat}(h:a<2^63):(BitVec.ofInt 64 (a:Int)).toNat=a:=by
 rw[BitVec.ofInt_natCast,BitVec.toNat_ofNat];exact Nat.mod_eq_of_lt zaa
theorem band64{a b:Nat}(ha:a<2^63)(hb:b<2^63):Go.bits .and .i64 (a:Int) (b:Int)=((a &&& b:Nat):Int):=by
 show IntKind.i64.wrap ((BitVec.ofInt 64 (a:Int) &&& BitVec.ofInt 64 (b:Int)).toNat:Int)=_;rw[BitVec.toNat_and,toNat64 ha,toNat64 hb];exact wi64 (Nat.lt_of_le_of_lt Nat.and_le_left ha)
theorem bxor64{a b:Nat}(ha:a<2^63)(hb:b<2^63):Go.bits .xor .i64 (a:Int) (b:Int)=((a ^^^ b:Nat):Int):=by
 show IntKind.i64.wrap ((BitVec.ofInt 64 (a:Int) ^^^ BitVec.ofInt 64 (b:Int)).toNat:Int)=_;rw[BitVec.toNat_xor,toNat64 ha,toNat64 hb];exact wi64 (Nat.xor_lt_two_pow ha hb)
theorem shr64{n i:Nat}(hi:i<=64):shr .i64 (n:Int) (i:Int)=((n >>> i:Nat):Int):=by
 unfold shr;have e:min (i:Int).toNat IntKind.i64.bits=i:=by simp[IntKind.bits];omega
 rw[e,Nat.shiftRight_eq_div_pow];simp
theorem shr8{n i:Nat}(hi:i<=8):shr .u8 (n:Int) (i:Int)=((n >>> i:Nat):Int):=by
 unfold shr;have e:min (i:Int).toNat IntKind.u8.bits=i:=by simp[IntKind.bits];omega
 rw[e,Nat.shiftRight_eq_div_pow];simp
theorem shl64{n i:Nat}(hn:n<2^16)(hi:i<=16):shl .i64 (n:Int) (i:Int)=((n <<< i:Nat):Int):=by
 unfold shl;have e:min (i:Int).toNat IntKind.i64.bits=i:=by simp[IntKind.bits];omega
 rw[e,Nat.shiftLeft_eq];have h:n*2^i<2^63:=Nat.lt_of_lt_of_le (Nat.mul_lt_mul_of_lt_of_le hn (Nat.pow_le_pow_right zab hi) zab) zab;rw[show((n:Int)*2^i)=((n*2^i:Nat):Int)from by simp];exact wi64 h
theorem and_one(n i:Nat):(((n >>> i) &&& 1:Nat):Int)=1↔n.testBit i=true:=by
 unfold Nat.testBit;rw[Nat.and_comm 1 (n >>> i),bne_iff_ne,Nat.and_one_is_mod];omega
theorem bit64{n i:Nat}(hn:n<2^63)(hi:i<=64):(Go.bits .and .i64 (shr .i64 (n:Int) (i:Int)) 1=1)↔n.testBit i=true:=by
 rw[shr64 hi,show(1:Int)=((1:Nat):Int)from rfl,band64 (Nat.lt_of_le_of_lt (Nat.shiftRight_le _ _) hn) zab];exact and_one n i
theorem bit8{n i:Nat}(hn:n<256)(hi:i<=8):(Go.bits .and .u8 (shr .u8 (n:Int) (i:Int)) 1=1)↔n.testBit i=true:=by
 rw[shr8 hi];have h1:n >>> i<256:=Nat.lt_of_le_of_lt (Nat.shiftRight_le _ _) hn;have e:Go.bits .and .u8 ((n >>> i:Nat):Int) 1=(((n >>> i) &&& 1:Nat):Int):=by
  show IntKind.u8.wrap ((BitVec.ofInt 8 ((n >>> i:Nat):Int) &&& BitVec.ofInt 8 ((1:Nat):Int)).toNat:Int)=_;rw[BitVec.toNat_and,BitVec.ofInt_natCast,BitVec.ofInt_natCast,BitVec.toNat_ofNat,BitVec.toNat_ofNat,Nat.mod_eq_of_lt (by omega:n >>> i<2^8),show 1 % 2^8=1 from rfl];have:(n >>> i) &&& 1<=1:=Nat.and_le_right;rw[IntKind.wrap_u8];omega
 rw[e];exact and_one n i
def acc(a b:Nat):Nat->Nat
 |0=>0
 |i+1=>if b.testBit i then acc a b i ^^^ (a <<< i)else acc a b i
def rst(i p:Nat):Nat:=if p.testBit (i+8)then p ^^^ (285 <<< i)else p
def red:Nat->Nat->Nat
 |0,p=>p
 |i+1,p=>red i (rst i p)
theorem rst_xor(i x y:Nat):rst i (x ^^^ y)=rst i x ^^^ rst i y:=by
 unfold rst;rw[Nat.testBit_xor]
 cases x.testBit (i+8)<;>cases y.testBit (i+8)<;>simp
 ·rw[Nat.xor_assoc]
 ·rw[Nat.xor_assoc,Nat.xor_comm y,Nat.xor_assoc]
 ·rw[Nat.xor_assoc,Nat.xor_comm (285 <<< i),Nat.xor_assoc,Nat.xor_self,Nat.xor_zero]
theorem red_xor: ∀i x y,red i (x ^^^ y)=red i x ^^^ red i y
 |0,_,_=>rfl
 |i+1,x,y=>by unfold red;rw[rst_xor,red_xor i]
theorem red_zero: ∀i,red i 0=0
 |0=>rfl
 |i+1=>by unfold red rst;simp[red_zero i]
theorem red_shl: ∀a:BitVec 8,∀i:Fin 8,red 7 (a.toNat <<< i.val)=(xtn i.val a).toNat:=by decide+kernel
theorem acc_lt{a b:Nat}(ha:a<256): ∀i,i<=8->acc a b i<2^16
 |0,_=>by unfold acc;decide
 |i+1,h=>by
  unfold acc
  split
  ·refine Nat.xor_lt_two_pow (acc_lt ha i zaa) ?_;rw[Nat.shiftLeft_eq];exact Nat.lt_of_lt_of_le (Nat.mul_lt_mul_of_lt_of_le ha (Nat.pow_le_pow_right zab (by omega:i<=8)) zab) zab
  ·exact acc_lt ha i zaa
theorem red_acc(a b:BitVec 8): ∀i,i<=8->red 7 (acc a.toNat b.toNat i)=(gmN a b i).toNat
 |0,_=>by unfold acc gmN;rw[red_zero];rfl
 |i+1,h=>by
  unfold acc gmN;have e:b.getLsbD i=b.toNat.testBit i:=rfl;rw[e]
  split
  ·rw[red_xor,red_acc a b i zaa,red_shl a ⟨i,by omega⟩];simp
  ·rw[red_acc a b i zaa];simp
theorem rst_lt{i p:Nat}(hp:p<2^16)(hi:i<=7):rst i p<2^16:=by
 unfold rst
 split
 ·refine Nat.xor_lt_two_pow hp ?_;rw[Nat.shiftLeft_eq];exact Nat.lt_of_lt_of_le (Nat.mul_lt_mul_of_lt_of_le (by decide:285<512) (Nat.pow_le_pow_right zab hi) zab) zab
 ·exact hp
theorem Mul_l1: ∀i p:Nat,i<=7->p<2^16->Ends (fun k=>recoupref01_Mul.l1 k (p:Int) ((i:Int)+7)) (((red i p) % 256:Nat):Int)
 |0,p,_,_=>Ends.succ (fun k=>by rw[recoupref01_Mul.l1]) (Ends.neg zaa (Ends.const (by unfold red;simp)))
 |i+1,p,hi,hp=>by
  refine Ends.succ (fun k=>by rw[recoupref01_Mul.l1]) (Ends.pos zaa ?_);have e0:((i+1:Nat):Int)+7=((i+8:Nat):Int):=by omega
  have e1:IntKind.u64.wrap (((i+1:Nat):Int)+7)=((i+8:Nat):Int):=by rw[e0];exact wu64 zaa zaa
  have e2:wrap64 (((i+1:Nat):Int)+7-1)=(i:Int)+7:=by rw[w64 zaa zaa];omega
  have e3:IntKind.u64.wrap (wrap64 (((i+1:Nat):Int)+7-8))=(i:Int):=by rw[w64 zaa zaa,wu64 zaa zaa];omega
  rw[e1,e2,e3];refine Ends.pos (Int.natCast_nonneg _) ?_;have hb:=bit64 (n:=p) (i:=i+8) zaa zaa;by_cases h:p.testBit (i+8)=true
  case neg=>
   refine Ends.neg (fun e=>h (hb.1 e)) ?_;have e4:rst i p=p:=by unfold rst;rw[if_neg h]
   have:=Mul_l1 i p zaa hp;unfold red;rw[e4];exact this
  refine Ends.pos (hb.2 h) (Ends.pos (Int.natCast_nonneg _) ?_);have e4:Go.bits .xor .i64 (p:Int) (shl .i64 285 (i:Int))=((rst i p:Nat):Int):=by
   rw[show(285:Int)=((285:Nat):Int)from rfl,shl64 zab zaa,bxor64 zaa (by
    rw[Nat.shiftLeft_eq];exact Nat.lt_of_lt_of_le (Nat.mul_lt_mul_of_lt_of_le (by decide:285<512) (Nat.pow_le_pow_right zab (by omega:i<=7)) zab) zab)]
   unfold rst;rw[if_pos h]
  rw[e4];exact Mul_l1 i (rst i p) zaa (rst_lt hp zaa)
theorem Mul_l0{a b:Nat}(ha:a<256)(hb:b<256): ∀n i:Nat,i+n=8->Ends (fun k=>recoupref01_Mul.l0 k (a:Int) (b:Int) ((acc a b i:Nat):Int) (i:Int)) (((red 7 (acc a b 8)) % 256:Nat):Int)
 |0,i,h=>by
  obtain rfl:i=8:=by omega
  refine Ends.succ (fun k=>by rw[recoupref01_Mul.l0]) (Ends.neg zab ?_);exact Mul_l1 7 _ zaa (acc_lt ha 8 (Nat.le_refl _))
 |n+1,i,h=>by
  refine Ends.succ (fun k=>by rw[recoupref01_Mul.l0]) (Ends.pos zaa ?_);have e1:IntKind.u64.wrap (i:Int)=(i:Int):=wu64 zaa zaa;have e2:wrap64 ((i:Int)+1)=((i+1:Nat):Int):=by rw[w64 zaa zaa];omega
  rw[e1,e2];refine Ends.pos (Int.natCast_nonneg _) ?_;have hbt:=bit8 (n:=b) (i:=i) hb zaa;have ih:=Mul_l0 ha hb n (i+1) zaa;by_cases h1:b.testBit i=true
  case neg=>
   refine Ends.neg (fun e=>h1 (hbt.1 e)) ?_
   have e4:acc a b (i+1)=acc a b i:=by conv=>lhs;rw[acc]
                                       rw[if_neg h1]
   rw[e4]at ih
   exact ih
  refine Ends.pos (hbt.2 h1) ?_;have e4:Go.bits .xor .i64 ((acc a b i:Nat):Int) (shl .i64 (wrap64 (a:Int)) (i:Int))=((acc a b (i+1):Nat):Int):=by
   rw[w64 zaa zaa,shl64 zaa zaa,bxor64 (by have:=acc_lt (b:=b) ha i zaa;omega) (by
    rw[Nat.shiftLeft_eq];exact Nat.lt_of_lt_of_le (Nat.mul_lt_mul_of_lt_of_le ha (Nat.pow_le_pow_right zab (by omega:i<=8)) zab) zab)]
   conv=>rhs;rw[acc]
   rw[if_pos h1]
  rw[e4];exact ih
def toE(x:Int):El:=⟨BitVec.ofInt 8 x⟩
def ofE(e:El):Int:=((e.v.toNat:Nat):Int)
theorem ofE_toE{x:Int}(h:0<=x/\x<256):ofE (toE x)=x:=by
 obtain⟨n,rfl⟩:=Int.eq_ofNat_of_zero_le h.1;unfold ofE toE;rw[BitVec.ofInt_natCast,BitVec.toNat_ofNat,Nat.mod_eq_of_lt zaa]
theorem toE_inj{x y:Int}(hx:0<=x/\x<256)(hy:0<=y/\y<256)(h:toE x=toE y):x=y:=by rw[<-ofE_toE hx,<-ofE_toE hy,h]
theorem Mul_ends{a b:Int}(ha:0<=a/\a<256)(hb:0<=b/\b<256):Ends (fun k=>recoupref01_Mul.f k a b) (ofE (toE a*toE b)):=by
 obtain⟨x,rfl⟩:=Int.eq_ofNat_of_zero_le ha.1;obtain⟨y,rfl⟩:=Int.eq_ofNat_of_zero_le hb.1;have hx:x<256:=by omega
 have hy:y<256:=by omega
 have h:=Mul_l0 hx hy 8 0 rfl;have e:=red_acc (BitVec.ofNat 8 x) (BitVec.ofNat 8 y) 8 (Nat.le_refl _);rw[BitVec.toNat_ofNat,BitVec.toNat_ofNat,Nat.mod_eq_of_lt (by omega:x<2^8),Nat.mod_eq_of_lt (by omega:y<2^8)]at e
 refine Ends.eq h ?_;rw[e,Nat.mod_eq_of_lt (gmN _ _ 8).isLt];unfold ofE toE;rw[BitVec.ofInt_natCast,BitVec.ofInt_natCast];rfl
theorem xor_el{a b:Int} :toE (Go.bits .xor .u8 a b)=toE a+toE b:=by
 refine El.eq ?_;show BitVec.ofInt 8 (IntKind.u8.wrap ((BitVec.ofInt 8 a ^^^ BitVec.ofInt 8 b).toNat:Int))=BitVec.ofInt 8 a ^^^ BitVec.ofInt 8 b;have h:=(BitVec.ofInt 8 a ^^^ BitVec.ofInt 8 b).isLt;rw[IntKind.wrap_u8,Int.emod_eq_of_lt zaa zaa,BitVec.ofInt_natCast,BitVec.ofNat_toNat,BitVec.setWidth_eq]
def el2:El:=⟨2#8⟩
theorem dbl_all: ∀a:Fin 256,toE (field_build.dbl (a.val:Int))=el2*toE (a.val:Int)/\0<=field_build.dbl (a.val:Int)/\field_build.dbl (a.val:Int)<256:=by decide+kernel
theorem half_all: ∀b:Fin 256,toE (b.val:Int)=el2*toE ((b.val:Int) / 2)+(if Go.bits .and .u8 (b.val:Int) 1=0 then 0 else 1):=by decide+kernel
theorem dbl_el{a:Int}(h:0<=a/\a<256):toE (field_build.dbl a)=el2*toE a/\0<=field_build.dbl a/\field_build.dbl a<256:=by
 obtain⟨n,rfl⟩:=Int.eq_ofNat_of_zero_le h.1;exact dbl_all ⟨n,by omega⟩
theorem half_el{b:Int}(h:0<=b/\b<256):toE b=el2*toE (b / 2)+(if Go.bits .and .u8 b 1=0 then 0 else 1):=by
 obtain⟨n,rfl⟩:=Int.eq_ofNat_of_zero_le h.1;exact half_all ⟨n,by omega⟩
theorem toE_zero:toE 0=0:=rfl
theorem toE_ne{a:Int}(h:0<=a/\a<256)(h0:a≠0):toE a≠0:=fun e=>h0 (toE_inj h zaa (e.trans toE_zero.symm))
theorem Mul_l0_el: ∀(k:Nat) (a b p r:Int),0<=a/\a<256->0<=b/\b<256->field_Mul.l0 k a b p=some r->toE r=toE p+toE a*toE b
 |0,a,b,p,r,_,_,h=>by unfold field_Mul.l0 at h;cases h
 |k+1,a,b,p,r,ha,hb,h=>by
  unfold field_Mul.l0 at h;by_cases e:b=0
  ·rw[if_pos e]at h
   obtain rfl:p=r:=by simpa using h
   rw[e,toE_zero,mul_zero,add_zero]
  rw[if_neg e,field_build.dbl_call,Option.bind_some,Option.bind_some]at h
  obtain⟨hd,G,I⟩:=dbl_el ha;have hh:=half_el hb;have D:0<=b / 2/\b / 2<256:=by omega
  by_cases e2:Go.bits .and .u8 b 1=0
  case neg=>rw[if_neg e2]at h hh;have ih:=Mul_l0_el k _ _ _ _ ⟨G,I⟩ D h;rw[ih,hd,hh,xor_el,mul_add,mul_one,mul_comm el2 (toE a),mul_assoc,add_assoc,add_comm (toE a) (toE a*_)]
  rw[if_pos e2]at h hh
  have ih:=Mul_l0_el k _ _ _ _ ⟨G,I⟩ D h;rw[ih,hd,hh,add_zero,mul_comm el2 (toE a),mul_assoc]
theorem mulB_el{a b:Int}(ha:0<=a/\a<256)(hb:0<=b/\b<256):toE (mulB a b)=toE a*toE b:=by
 have:=Mul_l0_el 9 a b 0 (mulB a b) ha hb (mulB_some hb).1;rw[this,toE_zero,zero_add]
theorem mulB_ends{a b:Int}(ha:0<=a/\a<256)(hb:0<=b/\b<256):Ends (fun k=>recoupref01_Mul.f k a b) (mulB a b):=by
 refine Ends.eq (Mul_ends ha hb) ?_;rw[<-mulB_el ha hb,ofE_toE (mulB_some hb).2]
theorem exps_ok:(field_build.st 255).1=(List.range 510).map fun i=>((pw i).toNat:Int):=by decide+kernel
theorem logs_ok:((List.zip (field_build.st 255).2.1 (List.range 256)).all fun x=>x.2==0||(pw x.1.toNat).toNat==x.2)=true:=by decide+kernel
theorem exp_el{n:Nat}(h:n<510):toE (field_build.exp n)=⟨pw n⟩:=by
 unfold field_build.exp;rw[exps_ok,List.getD_eq_getElem?_getD,List.getElem?_map,List.getElem?_range h];refine El.eq ?_;unfold toE;simp[BitVec.ofInt_natCast]
theorem log_el{a:Int}(h:0<=a/\a<256)(h0:a≠0):(⟨pw (field_build.log a.toNat).toNat⟩:El)=toE a:=by
 obtain⟨n,rfl⟩:=Int.eq_ofNat_of_zero_le h.1;have hn:n<256:=by omega
 have hl:n<(field_build.st 255).2.1.length:=by rw[(field_build.st_length 255).2];exact hn
 have hz:n<(List.zip (field_build.st 255).2.1 (List.range 256)).length:=by rw[List.length_zip,List.length_range];omega
 have:=List.all_eq_true.1 logs_ok _ (List.getElem_mem hz);rw[List.getElem_zip,List.getElem_range]at this
 simp only[Bool.or_eq_true,beq_iff_eq]at this;rcases this with e|e
 ·exact absurd (by rw[e];rfl) h0
 ·refine El.eq ?_;unfold field_build.log toE;rw[Int.toNat_natCast,List.getD_eq_getElem?_getD,List.getElem?_eq_getElem hl,Option.getD_some,BitVec.ofInt_natCast];refine BitVec.eq_of_toNat_eq ?_;rw[e,BitVec.toNat_ofNat,Nat.mod_eq_of_lt zaa]
theorem pw_255k: ∀k,pw (255*k)=1
 |0=>rfl
 |k+1=>by rw[Nat.mul_succ,pw_add_255,pw_255k k]
theorem invT_el{a:Int}(ha:0<=a/\a<256)(h0:a≠0):toE (invT a)=(toE a).inv:=by
 have e:field_bounded.f (-1)=some 254:=by kernel_rfl
 have e2:field_Inv.f a=some (field_build.exp ((field_build.log a.toNat*254) % 255).toNat,0):=by
  unfold field_Inv.f field_Pow.f;rw[if_neg zaa,if_neg h0,if_pos ha,e];simp
 have e3:invT a=field_build.exp ((field_build.log a.toNat*254) % 255).toNat:=by unfold invT;rw[e2,Option.getD_some]
 rw[e3];obtain⟨x0,x1⟩:=field_build.log_range (i:=a.toNat) zaa;rw[exp_el zaa,<-log_el ha h0];obtain⟨n,hn⟩:=Int.eq_ofNat_of_zero_le x0;rw[hn,Int.toNat_natCast];refine inv_unique (El.eq ?_);show gm (pw n) (pw _)=1;rw[gm_pw_pw];have:n+(((n:Int)*254) % 255).toNat=255*((n+(((n:Int)*254) % 255).toNat) / 255):=by omega
 rw[this];exact pw_255k _
theorem invT_range{a:Int}(ha:0<=a/\a<256)(h0:a≠0):0<=invT a/\invT a<256:=(inv_some ha h0).2
theorem invAt_eq{a:Int}(ha:0<=a/\a<256)(h0:a≠0):invAt a=invT a:=by
 obtain⟨n,rfl⟩:=Int.eq_ofNat_of_zero_le ha.1;have hn:n<256:=by omega
 unfold invAt;rw[Int.toNat_natCast,List.getD_eq_getElem?_getD,List.getElem?_eq_getElem (by rw[invTo_length];exact hn),Option.getD_some];rw[invTo_get hn,if_pos zaa]
theorem Inv_from{a:Int}(ha:0<=a/\a<256)(h0:a≠0): ∀n x:Nat,x+n=(invT a).toNat->1<=x->Ends (fun k=>recoupref01_Inv.l0 k a (x:Int)) (invT a,0)
 |n,x,h,hx=>by
  obtain⟨r0,r1⟩:=invT_range ha h0;have hlt:x<256:=by omega
  refine Ends.succ (fun k=>by rw[recoupref01_Inv.l0]) (Ends.pos zaa ?_);have e1:(x:Int) % 256=(x:Int):=by omega
  rw[e1];refine Ends.bind (mulB_ends ha (b:=(x:Int)) zaa) ?_
  cases n with
  |zero=>
   have hxi:(x:Int)=invT a:=by omega
   refine Ends.pos ?_ (Ends.const (by rw[hxi]));rw[hxi];refine toE_inj (mulB_some ⟨r0,r1⟩).2 zaa ?_;rw[mulB_el ha ⟨r0,r1⟩,invT_el ha h0,mul_inv (toE_ne ha h0)];rfl
  |succ n=>
   refine Ends.neg ?_ ?_
   ·intro e;have hb:0<=(x:Int)/\(x:Int)<256:=by omega
    have:=mulB_el ha hb;rw[e]at this
    have h2:=inv_unique this.symm;rw[<-invT_el ha h0]at h2
    have:=toE_inj hb ⟨r0,r1⟩ h2;omega
   ·have e2:wrap64 ((x:Int)+1)=((x+1:Nat):Int):=by rw[w64 zaa zaa];omega
    rw[e2];exact Inv_from ha h0 n (x+1) zaa zaa
theorem Inv_ends{a:Int}(ha:0<=a/\a<256)(h0:a≠0):Ends (fun k=>recoupref01_Inv.f k a) (invT a,0):=by
 have hr:=invT_range ha h0;have hn:invT a≠0:=by
  intro e;have:=invT_el ha h0;rw[e,toE_zero]at this
  exact inv_ne (toE_ne ha h0) this.symm
 have:=Inv_from ha h0 ((invT a).toNat-1) 1 zaa (Nat.le_refl _);exact this
theorem ratio_iff{a b r:Int}(ha:0<=a/\a<256)(h0:a≠0)(hb:0<=b/\b<256)(hr:0<=r/\r<256):mulB b (invAt a)=r↔mulB a r=b:=by
 have hi:=invT_range ha h0;rw[invAt_eq ha h0];constructor
 ·rintro rfl;refine toE_inj (mulB_some hr).2 hb ?_;rw[mulB_el ha hr,mulB_el hb hi,invT_el ha h0,mul_left_comm,mul_inv (toE_ne ha h0),mul_one]
 ·rintro rfl;refine toE_inj (mulB_some hi).2 hr ?_;rw[mulB_el (mulB_some hr).2 hi,mulB_el ha hr,invT_el ha h0,mul_comm (toE a) (toE r),mul_assoc,mul_inv (toE_ne ha h0),mul_one]
def insOk:Int->List Int->Bool
 |_,[]=>true
 |last,b::r=>(decide (last<b)&&decide (b<64))&&insOk b r
def termsOk(own:Int):Int->List S61->Bool
 |_,[]=>true
 |last,t::r=>((decide (last<t.f0)&&decide (t.f0<own))&&decide (t.f1≠0))&&termsOk own t.f0 r
def nodesOk:Int->List (List S61)->Bool
 |_,[]=>true
 |n,l::r=>termsOk n (-1) l&&nodesOk (n+1) r
def outsOk(m:Int)(l:List Int):Bool:=l.all fun v=>decide (0<=v)&&decide (v<m)
def sizeOk(L:List (List S61))(outs:List Int):Bool:=decide (L.length<=4096)&&decide (outs.length<=64)
def mayB(ins:List Int)(L:List (List S61))(outs:List Int):Bool:=insOk (-1) ins&&(sizeOk L outs&&(nodesOk ins.length L&&outsOk (ins.length+L.length) outs))
theorem rd_at{l:List Int}{i:Nat}(h:i<l.length):rd l (i:Int)=l[i]:=by rw[rd_nat];simp[List.getD_eq_getElem?_getD,h]
theorem rdL_at{L:List (List S61)}{i:Nat}(h:i<L.length):rd_L5 L (i:Int)=L[i]:=by simp[rd_L5,List.getD_eq_getElem?_getD,h]
theorem step64{i:Nat}(h:i<4611686018427387904):wrap64 ((i:Int)+1)=((i+1:Nat):Int):=by rw[w64 zaa zaa];omega
theorem terms_l0{l:List S61}{own:Int}(hl:l.length<=140737488355328): ∀n i:Nat,i+n=l.length-> ∀last:Int,Ends (fun k=>flow_terms.l0 k own last l (l.length:Int) (i:Int)) (termsOk own last (l.drop i))
 |0,i,h,last=>by
  refine Ends.succ (fun k=>by rw[flow_terms.l0]) (Ends.neg zaa (Ends.const ?_));rw[List.drop_eq_nil_of_le zaa];rfl
 |n+1,i,h,last=>by
  have hi:i<l.length:=by omega
  refine Ends.succ (fun k=>by rw[flow_terms.l0]) (Ends.pos zaa (Ends.pos zaa (Ends.pos zaa ?_)));rw[rd_T61_eq hi,step64 zaa,List.drop_eq_getElem_cons hi];unfold termsOk;by_cases h1:l[i].f0<=last
  ·exact Ends.pos h1 (Ends.const (by rw[decide_eq_false (by omega: ¬last<l[i].f0)];rfl))
  ·refine Ends.neg h1 ?_;by_cases h2:l[i].f0>=own
   ·exact Ends.pos h2 (Ends.const (by rw[decide_eq_false (by omega: ¬l[i].f0<own),Bool.and_false];rfl))
   ·refine Ends.neg h2 ?_;by_cases h3:l[i].f1=0
    ·exact Ends.pos h3 (Ends.const (by rw[decide_eq_false (fun e=>e h3: ¬l[i].f1≠0),Bool.and_false];rfl))
    ·refine Ends.neg h3 (Ends.eq (terms_l0 hl n (i+1) zaa _) ?_);rw[decide_eq_true (by omega:last<l[i].f0),decide_eq_true (by omega:l[i].f0<own),decide_eq_true h3];rfl
theorem any_all{p q:Int->Bool}(h: ∀v,(!p v)=q v): ∀l:List Int,(!l.any p)=l.all q
 | []=>rfl
 |x::l=>by rw[List.any_cons,List.all_cons,Bool.not_or,h,any_all h l]
theorem flow_l1{ins outs:List Int}{L:List (List S61)}(hi:ins.length<=140737488355328)(ho:outs.length<=140737488355328)(hL:L.length<=4096)(hl: ∀l∈L,l.length<=140737488355328): ∀n i:Nat,i+n=L.length->Ends (fun k=>flow_May.l1 k (ins.length:Int) L (L.length:Int) (i:Int) ins L outs) (nodesOk ((ins.length:Int)+(i:Int)) (L.drop i)&&outsOk (ins.length+L.length) outs)
 |0,i,h=>by
  refine Ends.succ (fun k=>by rw[flow_May.l1]) (Ends.neg zaa (Ends.const ?_));rw[List.drop_eq_nil_of_le zaa];unfold slices_ContainsFunc_int_int.f;rw[if_pos ho,Option.bind_some,w64 zaa zaa];unfold nodesOk outsOk;rw[Bool.true_and];refine congrArg some (any_all (fun v=>?_) outs);by_cases h1:v<0
  ·rw[decide_eq_true h1,decide_eq_false (by omega: ¬0<=v)];rfl
  ·rw[decide_eq_false h1,decide_eq_true (by omega:0<=v)];by_cases h2:(ins.length:Int)+(L.length:Int)<=v
   ·rw[decide_eq_true h2,decide_eq_false (by omega: ¬v<(ins.length:Int)+(L.length:Int))];rfl
   ·rw[decide_eq_false h2,decide_eq_true (by omega:v<(ins.length:Int)+(L.length:Int))];rfl
 |n+1,i,h=>by
  have D:i<L.length:=by omega
  refine Ends.succ (fun k=>by rw[flow_May.l1]) (Ends.pos zaa (Ends.pos zaa (Ends.pos zaa ?_)));rw[rdL_at D,step64 zaa,List.drop_eq_getElem_cons D,w64 zaa zaa];unfold nodesOk;have ht:=terms_l0 (own:=(ins.length:Int)+(i:Int)) (hl L[i] (List.getElem_mem D)) _ 0 (Nat.zero_add _) (-1);rw[List.drop_zero]at ht
  refine Ends.bind ht ?_
  cases e:termsOk ((ins.length:Int)+(i:Int)) (-1) L[i]
  ·exact Ends.neg zab (Ends.const rfl)
  ·refine Ends.pos rfl (Ends.eq (flow_l1 hi ho hL hl n (i+1) zaa) ?_);rw[Bool.true_and,show(ins.length:Int)+((i+1:Nat):Int)=(ins.length:Int)+(i:Int)+1 from by omega]
theorem flow_j1{ins outs:List Int}{L:List (List S61)}(hi:ins.length<=140737488355328)(ho:outs.length<=140737488355328)(hl: ∀l∈L,l.length<=140737488355328):
 Ends (fun k=>if(L.length:Int)>4096 then flow_May.j1 k (ins.length:Int) true ins L outs else flow_May.j1 k (ins.length:Int) (decide ((outs.length:Int)>64)) ins L outs) (sizeOk L outs&&(nodesOk ins.length L&&outsOk (ins.length+L.length) outs)):=by
 unfold sizeOk;by_cases h:L.length<=4096
 ·refine Ends.neg zaa (Ends.succ (fun k=>by rw[flow_May.j1]) ?_);rw[decide_eq_true h];by_cases h2:outs.length<=64
  ·rw[decide_eq_true h2,decide_eq_false (by omega: ¬(outs.length:Int)>64)];refine Ends.neg zab (Ends.eq (flow_l1 hi ho h hl _ 0 (Nat.zero_add _)) ?_);rw[List.drop_zero,Int.natCast_zero,Int.add_zero];rfl
  ·rw[decide_eq_false h2,decide_eq_true (by omega:(outs.length:Int)>64)];exact Ends.pos rfl (Ends.const rfl)
 ·refine Ends.pos zaa (Ends.succ (fun k=>by rw[flow_May.j1]) ?_);rw[decide_eq_false h];exact Ends.pos rfl (Ends.const rfl)
theorem flow_l0{ins outs:List Int}{L:List (List S61)}(hi:ins.length<=140737488355328)(ho:outs.length<=140737488355328)(hl: ∀l∈L,l.length<=140737488355328): ∀n i:Nat,i+n=ins.length-> ∀last:Int,Ends (fun k=>flow_May.l0 k last ins (ins.length:Int) (i:Int) ins L outs) (insOk last (ins.drop i)&&(sizeOk L outs&&(nodesOk ins.length L&&outsOk (ins.length+L.length) outs)))
 |0,i,h,last=>by
  refine Ends.succ (fun k=>by rw[flow_May.l0]) (Ends.neg zaa (Ends.eq (flow_j1 hi ho hl) ?_));rw[List.drop_eq_nil_of_le zaa];rfl
 |n+1,i,h,last=>by
  have D:i<ins.length:=by omega
  refine Ends.succ (fun k=>by rw[flow_May.l0]) (Ends.pos zaa (Ends.pos zaa (Ends.pos zaa ?_)));rw[rd_at D,step64 zaa,List.drop_eq_getElem_cons D];unfold insOk;by_cases h1:ins[i]<=last
  ·exact Ends.pos h1 (Ends.const (by rw[decide_eq_false (by omega: ¬last<ins[i])];rfl))
  ·refine Ends.neg h1 ?_;by_cases h2:ins[i]>=64
   ·exact Ends.pos h2 (Ends.const zb8)
   ·refine Ends.neg h2 (Ends.eq (flow_l0 hi ho hl n (i+1) zaa _) ?_);rw[decide_eq_true (by omega:last<ins[i]),decide_eq_true (by omega:ins[i]<64)];rfl
theorem flow_May_ends{ins outs:List Int}{L:List (List S61)}(hi:ins.length<=140737488355328)(ho:outs.length<=140737488355328)(hl: ∀l∈L,l.length<=140737488355328):Ends (fun k=>flow_May.f k ins L outs) (mayB ins L outs):=
 flow_l0 hi ho hl _ 0 (Nat.zero_add _) (-1)
theorem ref_l3{ins outs:List Int}{L:List (List S61)}(hi:ins.length<=140737488355328)(ho:outs.length<=140737488355328)(hL:L.length<=4096): ∀n i:Nat,i+n=outs.length->Ends (fun k=>recoupref21_May.l3 k (i:Int) ins L outs) (outsOk (ins.length+L.length) (outs.drop i))
 |0,i,h=>by
  refine Ends.succ (fun k=>by rw[recoupref21_May.l3]) (Ends.neg zaa (Ends.const ?_));rw[List.drop_eq_nil_of_le zaa];rfl
 |n+1,i,h=>by
  have D:i<outs.length:=by omega
  refine Ends.succ (fun k=>by rw[recoupref21_May.l3]) (Ends.pos zaa (Ends.pos zaa ?_));rw[rd_at D,step64 zaa,List.drop_eq_getElem_cons D,w64 zaa zaa];unfold outsOk;rw[List.all_cons];by_cases h1:outs[i]<0
  ·exact Ends.pos h1 (Ends.const (by rw[decide_eq_false (by omega: ¬0<=outs[i])];rfl))
  ·refine Ends.neg h1 ?_;by_cases h2:outs[i]>=(ins.length:Int)+(L.length:Int)
   ·exact Ends.pos h2 (Ends.const (by rw[decide_eq_false (by omega: ¬outs[i]<(ins.length:Int)+(L.length:Int)),Bool.and_false];rfl))
   ·refine Ends.neg h2 (Ends.eq (ref_l3 hi ho hL n (i+1) zaa) ?_);rw[decide_eq_true (by omega:0<=outs[i]),decide_eq_true (by omega:outs[i]<(ins.length:Int)+(L.length:Int))];rfl
theorem ref_l2{ins outs:List Int}{L:List (List S61)}(hi:ins.length<=140737488355328)(hL:L.length<=4096)(hl: ∀l∈L,l.length<=140737488355328){m:Nat}(hm:m<L.length){X:Bool}(hX:Ends (fun k=>recoupref21_May.l1 k ((m+1:Nat):Int) ins L outs) X): ∀n i:Nat,i+n=L[m].length-> ∀last:Int,((i=0/\last= -1)∨ ∃h:i-1<L[m].length,0<i/\last=L[m][i-1].f0/\0<=last)->Ends (fun k=>recoupref21_May.l2 k (m:Int) (i:Int) ins L outs) (termsOk ((ins.length:Int)+(m:Int)) last (L[m].drop i)&&X)
 |0,i,h,last,hlast=>by
  refine Ends.succ (fun k=>by rw[recoupref21_May.l2]) (Ends.pos zaa (Ends.pos zaa ?_));rw[rdL_at hm];refine Ends.neg zaa ?_;rw[List.drop_eq_nil_of_le zaa,step64 zaa];exact hX
 |n+1,i,h,last,hlast=>by
  have D:i<L[m].length:=by omega
  have hlm:=hl L[m] (List.getElem_mem hm);refine Ends.succ (fun k=>by rw[recoupref21_May.l2]) (Ends.pos zaa (Ends.pos zaa ?_));rw[rdL_at hm];refine Ends.pos zaa (Ends.pos zaa ?_);rw[rd_T61_eq D,step64 zaa,List.drop_eq_getElem_cons D,w64 (x:=(ins.length:Int)+(m:Int)) zaa zaa];unfold termsOk;by_cases h3:L[m][i].f1=0
  ·exact Ends.pos h3 (Ends.const (by rw[decide_eq_false (fun e=>e h3: ¬L[m][i].f1≠0),Bool.and_false];rfl))
  ·refine Ends.neg h3 ?_;by_cases h4:L[m][i].f0<0
   ·refine Ends.pos h4 (Ends.const ?_);have hge: -1<=last:=by rcases hlast with⟨_,h⟩|⟨_,_,_,h⟩<;>omega
    clear hlast;rw[decide_eq_false (by omega: ¬last<L[m][i].f0)];rfl
   ·refine Ends.neg h4 ?_;by_cases h2:L[m][i].f0>=(ins.length:Int)+(m:Int)
    ·exact Ends.pos h2 (Ends.const (by rw[decide_eq_false (by omega: ¬L[m][i].f0<(ins.length:Int)+(m:Int)),Bool.and_false];rfl))
    ·refine Ends.neg h2 ?_;rw[decide_eq_true (by omega:L[m][i].f0<(ins.length:Int)+(m:Int)),decide_eq_true h3];have ih:=ref_l2 hi hL hl hm hX n (i+1) zaa L[m][i].f0 (.inr ⟨D,by omega,rfl,by omega⟩);rcases hlast with⟨rfl,rfl⟩|⟨hp,h0,rfl,hge⟩
     ·refine Ends.neg zaa (Ends.eq ih ?_);rw[decide_eq_true (by omega:(-1:Int)<L[m][0].f0)];rfl
     ·refine Ends.pos zaa ?_;have e:wrap64 ((i:Int)-1)=((i-1:Nat):Int):=by rw[w64 zaa zaa];omega
      rw[e];refine Ends.pos zaa (Ends.pos zaa ?_);rw[rd_T61_eq hp];by_cases h1:L[m][i].f0<=L[m][i-1].f0
      ·exact Ends.pos h1 (Ends.const (by rw[decide_eq_false (by omega: ¬L[m][i-1].f0<L[m][i].f0)];rfl))
      ·refine Ends.neg h1 (Ends.eq ih ?_);rw[decide_eq_true (by omega:L[m][i-1].f0<L[m][i].f0)];rfl
theorem ref_l1{ins outs:List Int}{L:List (List S61)}(hi:ins.length<=140737488355328)(ho:outs.length<=140737488355328)(hL:L.length<=4096)(hl: ∀l∈L,l.length<=140737488355328): ∀n i:Nat,i+n=L.length->Ends (fun k=>recoupref21_May.l1 k (i:Int) ins L outs) (nodesOk ((ins.length:Int)+(i:Int)) (L.drop i)&&outsOk (ins.length+L.length) outs)
 |0,i,h=>by
  refine Ends.succ (fun k=>by rw[recoupref21_May.l1]) ?_;refine Ends.neg zaa ?_;refine Ends.eq (ref_l3 hi ho hL _ 0 (Nat.zero_add _)) ?_;rw[List.drop_zero,List.drop_eq_nil_of_le (by omega:L.length<=i)];rfl
 |n+1,i,h=>by
  have D:i<L.length:=by omega
  have ih:=ref_l1 hi ho hL hl n (i+1) zaa;refine Ends.succ (fun k=>by rw[recoupref21_May.l1]) ?_;refine Ends.pos zaa ?_;refine Ends.eq (ref_l2 hi hL hl D ih _ 0 (Nat.zero_add _) (-1) (.inl ⟨rfl,rfl⟩)) ?_;rw[List.drop_eq_getElem_cons D,List.drop_zero]
  conv=>rhs;unfold nodesOk
  rw[Bool.and_assoc,show(ins.length:Int)+((i+1:Nat):Int)=(ins.length:Int)+(i:Int)+1 from by omega]
theorem ref_l0{ins outs:List Int}{L:List (List S61)}(hi:ins.length<=140737488355328)(ho:outs.length<=140737488355328)(hL:L.length<=4096)(hl: ∀l∈L,l.length<=140737488355328): ∀n i:Nat,i+n=ins.length-> ∀last:Int,((i=0/\last= -1)∨ ∃h:i-1<ins.length,0<i/\last=ins[i-1]/\0<=last)->Ends (fun k=>recoupref21_May.l0 k (i:Int) ins L outs) (insOk last (ins.drop i)&&(nodesOk ins.length L&&outsOk (ins.length+L.length) outs))
 |0,i,h,last,hlast=>by
  refine Ends.succ (fun k=>by rw[recoupref21_May.l0]) ?_;refine Ends.neg zaa ?_;refine Ends.eq (ref_l1 hi ho hL hl _ 0 (Nat.zero_add _)) ?_;rw[List.drop_zero,List.drop_eq_nil_of_le (by omega:ins.length<=i),Int.natCast_zero,Int.add_zero];rfl
 |n+1,i,h,last,hlast=>by
  have D:i<ins.length:=by omega
  refine Ends.succ (fun k=>by rw[recoupref21_May.l0]) (Ends.pos zaa (Ends.pos zaa ?_));rw[rd_at D,step64 zaa,List.drop_eq_getElem_cons D];unfold insOk;by_cases h4:ins[i]<0
  ·refine Ends.pos h4 (Ends.const ?_);have hge: -1<=last:=by rcases hlast with⟨_,h⟩|⟨_,_,_,h⟩<;>omega
   clear hlast;rw[decide_eq_false (by omega: ¬last<ins[i])];rfl
  ·refine Ends.neg h4 ?_;by_cases h2:ins[i]>=64
   ·exact Ends.pos h2 (Ends.const zb8)
   ·refine Ends.neg h2 ?_;rw[decide_eq_true (by omega:ins[i]<64)];have ih:=ref_l0 hi ho hL hl n (i+1) zaa ins[i] (.inr ⟨D,by omega,rfl,by omega⟩);rcases hlast with⟨rfl,rfl⟩|⟨hp,h0,rfl,hge⟩
    ·refine Ends.neg zaa (Ends.eq ih ?_);rw[decide_eq_true (by omega:(-1:Int)<ins[0])];rfl
    ·refine Ends.pos zaa ?_;have e:wrap64 ((i:Int)-1)=((i-1:Nat):Int):=by rw[w64 zaa zaa];omega
     rw[e];refine Ends.pos zaa (Ends.pos zaa ?_);rw[rd_at hp];by_cases h1:ins[i]<=ins[i-1]
     ·exact Ends.pos h1 (Ends.const (by rw[decide_eq_false (by omega: ¬ins[i-1]<ins[i])];rfl))
     ·refine Ends.neg h1 (Ends.eq ih ?_);rw[decide_eq_true (by omega:ins[i-1]<ins[i])];rfl
theorem ref_May_ends{ins outs:List Int}{L:List (List S61)}(hi:ins.length<=140737488355328)(ho:outs.length<=140737488355328)(hl: ∀l∈L,l.length<=140737488355328):Ends (fun k=>recoupref21_May.f k ins L outs) (mayB ins L outs):=by
 unfold mayB sizeOk;by_cases h:L.length<=4096
 ·refine Ends.congr (fun k=>by unfold recoupref21_May.f;rw[if_neg zaa]) (Ends.succ (fun k=>by rw[recoupref21_May.j0]) ?_);rw[decide_eq_true h];by_cases h2:outs.length<=64
  ·rw[decide_eq_true h2,decide_eq_false (by omega: ¬(outs.length:Int)>64)];refine Ends.neg zab (Ends.eq (ref_l0 hi ho h hl _ 0 (Nat.zero_add _) (-1) (.inl ⟨rfl,rfl⟩)) ?_);rw[List.drop_zero];rfl
  ·rw[decide_eq_false h2,decide_eq_true (by omega:(outs.length:Int)>64)];refine Ends.pos rfl (Ends.const ?_);rw[Bool.and_false,Bool.false_and,Bool.and_false]
 ·refine Ends.congr (fun k=>by unfold recoupref21_May.f;rw[if_pos zaa]) (Ends.succ (fun k=>by rw[recoupref21_May.j0]) ?_);rw[decide_eq_false h];refine Ends.pos rfl (Ends.const ?_);rw[Bool.false_and,Bool.false_and,Bool.and_false]
def byF:List S61->Int->Int
 | [],_=>0
 |t::r,v=>if t.f0=v then t.f1 else byF r v
theorem byF_cons(t:S61)(r:List S61)(v:Int):byF (t::r) v=if t.f0=v then t.f1 else byF r v:=by rw[byF]
def inB(q:Key)(l:List S61):Bool:=(decide (byF l q.1≠0)&&decide (byF l q.2.1≠0))&&(mulB (byF l q.1) q.2.2==byF l q.2.1)
def okS(t:S61):Prop:=0<t.f1/\t.f1<256
structure okN (l:List S61):Prop where
 up:l.Pairwise fun a b=>a.f0<b.f0
 ok: ∀t∈l,okS t
 len:l.length<=140737488355328
theorem okN.tail{t:S61}{l:List S61}(h:okN (t::l)):okN l:=⟨(List.pairwise_cons.1 h.up).2,fun x hx=>h.ok x (List.mem_cons_of_mem _ hx),by have:=h.len;rw[List.length_cons]at this;omega⟩
theorem byF_range: ∀ {l:List S61},(∀t∈l,okS t)-> ∀v,0<=byF l v/\byF l v<256
 | [],_,v=>by unfold byF;decide
 |t::r,h,v=>by
  unfold byF
  split
  ·have:=h t List.mem_cons_self;exact⟨Int.le_of_lt this.1,this.2⟩
  ·exact byF_range (fun x hx=>h x (List.mem_cons_of_mem _ hx)) v
theorem byF_zero: ∀ {l:List S61} {v:Int},(∀t∈l,v<t.f0)->byF l v=0
 | [],_,_=>rfl
 |t::r,v,h=>by
  unfold byF;rw[if_neg (by have:=h t List.mem_cons_self;omega)];exact byF_zero fun x hx=>h x (List.mem_cons_of_mem _ hx)
theorem by_l0{l:List S61}(hl:l.length<=140737488355328)(v:Int): ∀n i:Nat,i+n=l.length->Ends (fun k=>recoupref22_by.l0 k l v (i:Int)) (byF (l.drop i) v)
 |0,i,h=>by
  refine Ends.succ (fun k=>by rw[recoupref22_by.l0]) (Ends.neg zaa (Ends.const ?_));rw[List.drop_eq_nil_of_le zaa];rfl
 |n+1,i,h=>by
  have hi:i<l.length:=by omega
  refine Ends.succ (fun k=>by rw[recoupref22_by.l0]) (Ends.pos zaa (Ends.pos zaa ?_));rw[rd_T61_eq hi,step64 zaa,List.drop_eq_getElem_cons hi];unfold byF;by_cases e:l[i].f0=v
  ·refine Ends.pos e (Ends.const ?_);rw[if_pos e]
  ·refine Ends.neg e (Ends.eq (by_l0 hl v n (i+1) zaa) ?_);rw[if_neg e]
theorem by_ends{l:List S61}(hl:l.length<=140737488355328)(v:Int):Ends (fun k=>recoupref22_by.f k l v) (byF l v):=by
 have:=by_l0 hl v _ 0 (Nat.zero_add _)
 rwa [List.drop_zero]at this
theorem in_ends{l:List S61}(h:okN l)(q:Key)(hr:0<=q.2.2/\q.2.2<256):Ends (fun k=>recoupref22_in.f k l q.1 q.2.1 q.2.2) (inB q l):=by
 unfold recoupref22_in.f inB;refine Ends.bind (by_ends h.len q.1) (Ends.bind (by_ends h.len q.2.1) ?_);by_cases h1:byF l q.1=0
 ·refine Ends.pos h1 (Ends.const ?_);rw[decide_eq_false (fun e=>e h1: ¬byF l q.1≠0)];rfl
 ·refine Ends.neg h1 ?_;rw[decide_eq_true h1];by_cases h2:byF l q.2.1=0
  ·refine Ends.pos h2 (Ends.const ?_);rw[decide_eq_false (fun e=>e h2: ¬byF l q.2.1≠0)];rfl
  ·refine Ends.neg h2 ?_;rw[decide_eq_true h2];exact Ends.bind (mulB_ends (byF_range h.ok _) hr) (Ends.const rfl)
theorem pairs_count{t:S61}(ht:okS t)(q:Key)(hr:0<=q.2.2/\q.2.2<256): ∀ {l:List S61},l.Pairwise (fun a b=>a.f0<b.f0)->(∀x∈l,okS x)->(pairsF t l).count q=if t.f0=q.1/\byF l q.2.1≠0/\mulB t.f1 q.2.2=byF l q.2.1 then 1 else 0
 | [],_,_=>by
  rw[if_neg (fun h=>h.2.1 rfl)];rfl
 |s::r,hp,ho=>by
  have hs:=ho s List.mem_cons_self;have ih:=pairs_count ht q hr (List.pairwise_cons.1 hp).2 (fun x hx=>ho x (List.mem_cons_of_mem _ hx));have e:pairsF t (s::r)=keyQ t s::pairsF t r:=rfl;rw[e,List.count_cons,ih];have O:0<=t.f1/\t.f1<256:=⟨Int.le_of_lt ht.1,ht.2⟩
  have G:0<=s.f1/\s.f1<256:=⟨Int.le_of_lt hs.1,hs.2⟩
  have I:t.f1≠0:=by have:=ht.1;omega
  have D:s.f1≠0:=by have:=hs.1;omega
  have hri:=ratio_iff O I G hr;have hk:(keyQ t s==q)=true↔t.f0=q.1/\s.f0=q.2.1/\mulB t.f1 q.2.2=s.f1:=by
   rw[beq_iff_eq,<-hri];obtain⟨q1,q2,q3⟩:=q;unfold keyQ;simp
  rw[byF_cons];by_cases hv:s.f0=q.2.1
  ·rw[if_pos hv];have hz:byF r q.2.1=0:=byF_zero fun x hx=>by have:=(List.pairwise_cons.1 hp).1 x hx;omega
   rw[hz,if_neg (fun h=>h.2.1 rfl),Nat.zero_add];by_cases hq:(keyQ t s==q)=true
   ·rw[if_pos hq,if_pos ⟨(hk.1 hq).1,D,(hk.1 hq).2.2⟩]
   ·rw[if_neg hq,if_neg (fun h=>hq (hk.2 ⟨h.1,hv,h.2.2⟩))]
  ·rw[if_neg hv,if_neg (fun h=>hv (hk.1 h).2.1),Nat.add_zero]
theorem keysN_count(q:Key)(hq:q.1<q.2.1)(hr:0<=q.2.2/\q.2.2<256): ∀ {l:List S61},okN l->(keysN l).count q=if inB q l=true then 1 else 0
 | [],_=>rfl
 |t::r,h=>by
  have hp:=List.pairwise_cons.1 h.up;have ih:=keysN_count q hq hr h.tail;have ht:=h.ok t List.mem_cons_self;have D:t.f1≠0:=by have:=ht.1;omega
  unfold keysN;rw[List.count_append,pairs_count ht q hr hp.2 h.tail.ok,ih];unfold inB;rw[byF_cons,byF_cons];by_cases hu:t.f0=q.1
  ·have hz:byF r q.1=0:=byF_zero fun x hx=>by have:=hp.1 x hx;omega
   rw[if_pos hu,if_neg (show¬t.f0=q.2.1 by omega),hz];have hf:((decide ((0:Int)≠0)&&decide (byF r q.2.1≠0))&&(mulB 0 q.2.2==byF r q.2.1))=false:=rfl;rw[hf,if_neg (by decide: ¬false=true),Nat.add_zero,decide_eq_true D];by_cases hv:byF r q.2.1=0
   ·rw[if_neg (fun h=>h.2.1 hv),decide_eq_false (fun e=>e hv: ¬byF r q.2.1≠0)];rfl
   ·rw[decide_eq_true hv];by_cases hm:mulB t.f1 q.2.2=byF r q.2.1
    ·rw[if_pos ⟨hu,hv,hm⟩,beq_iff_eq.2 hm];rfl
    ·rw[if_neg (fun h=>hm h.2.2),beq_eq_false_iff_ne.2 hm];rfl
  ·rw[if_neg hu,if_neg (fun h=>hu h.1),Nat.zero_add];by_cases hv:t.f0=q.2.1
   ·have hz:byF r q.1=0:=byF_zero fun x hx=>by have:=hp.1 x hx;omega
    rw[hz];rfl
   ·rw[if_neg hv]
theorem keysL_count(q:Key)(hq:q.1<q.2.1)(hr:0<=q.2.2/\q.2.2<256): ∀ {L:List (List S61)},(∀l∈L,okN l)->(keysL L).count q=L.countP (inB q)
 | [],_=>rfl
 |l::L,h=>by
  have e:keysL (l::L)=keysN l++keysL L:=rfl;rw[e,List.count_append,List.countP_cons,keysN_count q hq hr (h l List.mem_cons_self),keysL_count q hq hr (fun x hx=>h x (List.mem_cons_of_mem _ hx)),Nat.add_comm]
theorem terms_ok{own:Int} : ∀ {l:List S61} {last:Int},termsOk own last l=true->(∀t∈l,0<=t.f1/\t.f1<256)->(l.Pairwise fun a b=>a.f0<b.f0)/\(∀t∈l,last<t.f0)/\ ∀t∈l,okS t
 | [],last,_,_=>⟨List.Pairwise.nil,fun t h=>absurd h zac,fun t h=>absurd h zac⟩
 |t::r,last,h,hb=>by
  unfold termsOk at h;simp only[Bool.and_eq_true,decide_eq_true_eq]at h;obtain⟨⟨⟨h1,h2⟩,h3⟩,h4⟩:=h;obtain⟨i1,i2,i3⟩:=terms_ok h4 fun x hx=>hb x (List.mem_cons_of_mem _ hx);have D:=hb t List.mem_cons_self;refine⟨List.pairwise_cons.2 ⟨i2,i1⟩,fun x hx=>?_,fun x hx=>?_⟩
  ·rcases List.mem_cons.1 hx with rfl|hx
   ·exact h1
   ·have:=i2 x hx;omega
  ·rcases List.mem_cons.1 hx with rfl|hx
   ·exact⟨by omega,D.2⟩
   ·exact i3 x hx
theorem nodes_ok: ∀ {L:List (List S61)} {n:Int},nodesOk n L=true->(∀l∈L,l.length<=140737488355328)->(∀l∈L,∀t∈l,0<=t.f1/\t.f1<256)-> ∀l∈L,okN l
 | [],_,_,_,_,l,hl=>absurd hl zac
 |l::L,n,h,hn,hb,x,hx=>by
  unfold nodesOk at h;rw[Bool.and_eq_true]at h
  rcases List.mem_cons.1 hx with rfl|hx
  ·obtain⟨i1,_,i3⟩:=terms_ok h.1 (hb x List.mem_cons_self);exact⟨i1,i3,hn x List.mem_cons_self⟩
  ·exact nodes_ok h.2 (fun y hy=>hn y (List.mem_cons_of_mem _ hy)) (fun y hy=>hb y (List.mem_cons_of_mem _ hy)) x hx
def emb(P:Key×Int):Key×Int:=if P.2=0 then((0,0,0),1)else P
def goodP(P:Key×Int):Prop:=P=((0,0,0),0)∨P.2>1
theorem good_step{ks:List Key}{P:Key×Int}{q:Key}(h:goodP P):goodP (stepQ ks P q):=by
 unfold stepQ
 split
 ·rename_i hc
  exact .inr hc.1
 ·exact h
def ansB(P:Key×Int):Int×Int×Int×Int×Bool×Int:=if P.2>1 then(P.1.1,P.1.2.1,P.1.2.2,P.2,true,0)else(0,0,0,0,false,0)
theorem less_f(q p:Key)(c d:Int):recoupref22_less.f q.1 q.2.1 q.2.2 c p.1 p.2.1 p.2.2 d=some (aheadQ (q,c) (p,c)):=by
 unfold recoupref22_less.f aheadQ;simp only[ne_eq,not_true_eq_false,if_false];by_cases h1:q.1=p.1
 ·by_cases h2:q.2.1=p.2.1
  ·simp[h1,h2]
  ·simp[h1,h2]
 ·simp[h1]
section
variable {ins outs:List Int} {L:List (List S61)} (hL:L.length<4096) (hN: ∀l∈L,okN l)
abbrev runL3(ins outs:List Int)(L:List (List S61))(n i j:Nat)(P:Key×Int)(k:Nat):=recoupref22_Best.l3 k (n:Int) (i:Int) (j:Int) ins L outs (emb P).1.1 (emb P).1.2.1 (emb P).1.2.2 (emb P).2
abbrev runL2(ins outs:List Int)(L:List (List S61))(n i:Nat)(P:Key×Int)(k:Nat):=recoupref22_Best.l2 k (n:Int) (i:Int) ins L outs (emb P).1.1 (emb P).1.2.1 (emb P).1.2.2 (emb P).2
abbrev runL1(ins outs:List Int)(L:List (List S61))(n:Nat)(P:Key×Int)(k:Nat):=recoupref22_Best.l1 k (n:Int) ins L outs (emb P).1.1 (emb P).1.2.1 (emb P).1.2.2 (emb P).2
include hL hN in
theorem best_l4{n i j:Nat}{P:Key×Int}(hP:goodP P)(hj:j<4611686018427387904)(q:Key)(hr:0<=q.2.2/\q.2.2<256)(hc:cntQ (keysL L) q=(L.countP (inB q):Int)){X:Int×Int×Int×Int×Bool×Int}(hX:Ends (runL3 ins outs L n i (j+1) (stepQ (keysL L) P q)) X):
 ∀d m:Nat,m+d=L.length->Ends (fun k=>recoupref22_Best.l4 k (n:Int) (i:Int) (j:Int) (m:Int) ins L outs (emb P).1.1 (emb P).1.2.1 (emb P).1.2.2 (emb P).2 q.1 q.2.1 q.2.2 ((L.take m).countP (inB q):Int)) X
 |0,m,h=>by
  refine Ends.succ (fun k=>by rw[recoupref22_Best.l4]) (Ends.neg zaa ?_);rw[List.take_of_length_le zaa,step64 hj,<-hc];unfold stepQ at hX;rcases hP with rfl|hP
  ·have e:emb ((0,0,0),0)=((0,0,0),1):=rfl;unfold runL3 at hX;rw[e];by_cases h1:cntQ (keysL L) q>1
   ·have ha:aheadQ (q,cntQ (keysL L) q) ((0,0,0),0)=true:=(aheadQ_iff _ _).2 (.inl (show cntQ (keysL L) q>0 by omega));rw[if_pos ⟨h1,ha⟩]at hX
    have e2:emb (q,cntQ (keysL L) q)=(q,cntQ (keysL L) q):=by unfold emb;rw[if_neg (show¬cntQ (keysL L) q=0 by omega)]
    rw[e2]at hX
    exact Ends.pos h1 hX
   ·rw[if_neg (fun e=>h1 e.1),e]at hX
    refine Ends.neg h1 ?_;by_cases h2:cntQ (keysL L) q=1
    ·exact Ends.pos h2 (Ends.neg h1 hX)
    ·exact Ends.neg h2 hX
  ·have e:emb P=P:=by unfold emb;rw[if_neg (show¬P.2=0 by omega)]
   unfold runL3 at hX;rw[e];by_cases h1:cntQ (keysL L) q>P.2
   ·have ha:aheadQ (q,cntQ (keysL L) q) P=true:=(aheadQ_iff _ _).2 (.inl h1);rw[if_pos ⟨by omega,ha⟩]at hX
    have e2:emb (q,cntQ (keysL L) q)=(q,cntQ (keysL L) q):=by unfold emb;rw[if_neg (show¬cntQ (keysL L) q=0 by omega)]
    rw[e2]at hX
    exact Ends.pos h1 hX
   ·refine Ends.neg h1 ?_;by_cases h2:cntQ (keysL L) q=P.2
    ·refine Ends.pos h2 (Ends.pos zaa ?_);rw[less_f q P.1 (cntQ (keysL L) q) P.2];refine Ends.bind1 rfl ?_;have ep:((P.1,cntQ (keysL L) q):Key×Int)=P:=by rw[h2]
     rw[ep];by_cases ha:aheadQ (q,cntQ (keysL L) q) P=true
     ·rw[if_pos ⟨by omega,ha⟩]at hX
      have e2:emb (q,cntQ (keysL L) q)=(q,cntQ (keysL L) q):=by unfold emb;rw[if_neg (show¬cntQ (keysL L) q=0 by omega)]
      rw[e2]at hX
      exact Ends.pos ha hX
     ·rw[if_neg (fun e=>ha e.2),e]at hX
      exact Ends.neg ha hX
    ·have ha: ¬aheadQ (q,cntQ (keysL L) q) P=true:=fun ha=>by
      rcases(aheadQ_iff _ _).1 ha with h3|h3
      ·exact h1 h3
      ·exact h2 h3.1
     rw[if_neg (fun e=>ha e.2),e]at hX
     exact Ends.neg h2 hX
 |d+1,m,h=>by
  have hm:m<L.length:=by omega
  refine Ends.succ (fun k=>by rw[recoupref22_Best.l4]) (Ends.pos zaa (Ends.pos zaa ?_));rw[rdL_at hm,step64 (i:=m) zaa];have ih:=best_l4 hP hj q hr hc hX d (m+1) zaa;rw[List.take_succ_eq_append_getElem hm,List.countP_append,List.countP_singleton]at ih
  have hle:(L.take m).countP (inB q)<=m:=Nat.le_trans List.countP_le_length (by rw[List.length_take];omega);refine Ends.bind (in_ends (hN _ (List.getElem_mem hm)) q hr) ?_
  cases e:inB q L[m]
  ·refine Ends.neg zab ?_;rw[e,if_neg (by decide: ¬false=true),Nat.add_zero]at ih
   exact ih
  ·refine Ends.pos rfl ?_;rw[e,if_pos rfl]at ih
   rw[step64 zaa];exact ih
include hL hN in
theorem best_l3{n i:Nat}(hn:n<L.length)(hi:i<L[n].length){f:Key×Int->Int×Int×Int×Int×Bool×Int}(hX: ∀P,goodP P->Ends (runL2 ins outs L n (i+1) P) (f P)):
 ∀d j:Nat,j+d=L[n].length->i<j-> ∀P,goodP P->Ends (runL3 ins outs L n i j P) (f ((pairsF L[n][i] (L[n].drop j)).foldl (stepQ (keysL L)) P))
 |0,j,h,hij,P,hP=>by
  have hlen:=(hN _ (List.getElem_mem hn)).len;refine Ends.succ (fun k=>by unfold runL3;rw[recoupref22_Best.l3]) (Ends.pos zaa (Ends.pos zaa ?_));rw[rdL_at hn];refine Ends.neg zaa ?_;rw[step64 zaa,List.drop_eq_nil_of_le zaa];exact hX P hP
 |d+1,j,h,hij,P,hP=>by
  have hj:j<L[n].length:=by omega
  have hok:=hN _ (List.getElem_mem hn);have hlen:=hok.len;refine Ends.succ (fun k=>by unfold runL3;rw[recoupref22_Best.l3]) (Ends.pos zaa (Ends.pos zaa ?_));rw[rdL_at hn];refine Ends.pos zaa (Ends.pos zaa (Ends.pos zaa (Ends.pos zaa ?_)));rw[rd_T61_eq hi,rd_T61_eq hj];have hti:=hok.ok _ (List.getElem_mem hi);have htj:=hok.ok _ (List.getElem_mem hj);have G:0<=L[n][i].f1/\L[n][i].f1<256:=⟨Int.le_of_lt hti.1,hti.2⟩
  have I:0<=L[n][j].f1/\L[n][j].f1<256:=⟨Int.le_of_lt htj.1,htj.2⟩
  have D:L[n][i].f1≠0:=by have:=hti.1;omega
  refine Ends.bind (Inv_ends G D) ?_;refine Ends.bind (mulB_ends I (invT_range G D)) ?_;rw[List.drop_eq_getElem_cons hj];have ec:pairsF L[n][i] (L[n][j]::L[n].drop (j+1))=keyQ L[n][i] L[n][j]::pairsF L[n][i] (L[n].drop (j+1)):=rfl;rw[ec,List.foldl_cons];have eq:keyQ L[n][i] L[n][j] =(L[n][i].f0,L[n][j].f0,mulB L[n][j].f1 (invT L[n][i].f1)):=by unfold keyQ;rw[invAt_eq G D]
  have hr:0<=(keyQ L[n][i] L[n][j]).2.2/\(keyQ L[n][i] L[n][j]).2.2<256:=by rw[eq];exact(mulB_some (invT_range G D)).2
  have hlt:(keyQ L[n][i] L[n][j]).1<(keyQ L[n][i] L[n][j]).2.1:=by rw[eq];exact List.pairwise_iff_getElem.1 hok.up i j hi hj hij
  have ih:=best_l3 hn hi hX d (j+1) zaa zaa (stepQ (keysL L) P (keyQ L[n][i] L[n][j])) (good_step hP);have h4:=best_l4 hL hN hP (i:=i) (n:=n) zaa (keyQ L[n][i] L[n][j]) hr (by unfold cntQ;rw[keysL_count _ hlt hr hN]) ih _ 0 (Nat.zero_add _);rw[eq]at h4⊢
  rw[List.take_zero]at h4
  exact h4
include hL hN in
theorem best_l2{n:Nat}(hn:n<L.length){f:Key×Int->Int×Int×Int×Int×Bool×Int}(hX: ∀P,goodP P->Ends (runL1 ins outs L (n+1) P) (f P)):
 ∀d i:Nat,i+d=L[n].length-> ∀P,goodP P->Ends (runL2 ins outs L n i P) (f ((keysN (L[n].drop i)).foldl (stepQ (keysL L)) P))
 |0,i,h,P,hP=>by
  have hlen:=(hN _ (List.getElem_mem hn)).len;refine Ends.succ (fun k=>by unfold runL2;rw[recoupref22_Best.l2]) (Ends.pos zaa (Ends.pos zaa ?_));rw[rdL_at hn];refine Ends.neg zaa ?_;rw[step64 zaa,List.drop_eq_nil_of_le zaa];exact hX P hP
 |d+1,i,h,P,hP=>by
  have hi:i<L[n].length:=by omega
  have hlen:=(hN _ (List.getElem_mem hn)).len;refine Ends.succ (fun k=>by unfold runL2;rw[recoupref22_Best.l2]) (Ends.pos zaa (Ends.pos zaa ?_));rw[rdL_at hn];refine Ends.pos zaa ?_;rw[step64 zaa,List.drop_eq_getElem_cons hi];have ec:keysN (L[n][i]::L[n].drop (i+1))=pairsF L[n][i] (L[n].drop (i+1))++keysN (L[n].drop (i+1)):=rfl;rw[ec,List.foldl_append];exact best_l3 hL hN hn hi (f:=fun P=>f ((keysN (L[n].drop (i+1))).foldl (stepQ (keysL L)) P)) (fun P hP=>best_l2 hn hX d (i+1) zaa P hP) _ (i+1) (Nat.add_sub_cancel' zaa) zaa P hP
include hL hN in
theorem best_l1: ∀d n:Nat,n+d=L.length-> ∀P,goodP P->Ends (runL1 ins outs L n P) (ansB ((keysL (L.drop n)).foldl (stepQ (keysL L)) P))
 |0,n,h,P,hP=>by
  refine Ends.succ (fun k=>by unfold runL1;rw[recoupref22_Best.l1]) (Ends.neg zaa ?_);rw[List.drop_eq_nil_of_le zaa];show Ends _ (ansB P);unfold ansB emb;rcases hP with rfl|hP
  ·exact Ends.pos zab (Ends.const rfl)
  ·rw[if_neg (show¬P.2=0 by omega),if_pos hP];exact Ends.neg zaa (Ends.const rfl)
 |d+1,n,h,P,hP=>by
  have hn:n<L.length:=by omega
  refine Ends.succ (fun k=>by unfold runL1;rw[recoupref22_Best.l1]) ?_;refine Ends.pos zaa ?_;have h2:=best_l2 hL hN hn (f:=fun P=>ansB ((keysL (L.drop (n+1))).foldl (stepQ (keysL L)) P)) (fun P hP=>best_l1 d (n+1) zaa P hP) _ 0 (Nat.zero_add _) P hP;rw[List.drop_eq_getElem_cons hn];have ec:keysL (L[n]::L.drop (n+1))=keysN L[n]++keysL (L.drop (n+1)):=rfl;rw[ec,List.foldl_append];rw[List.drop_zero]at h2
  exact h2
end
def sumL:List (List S61)->Nat
 | []=>0
 |l::L=>l.length+sumL L
theorem sumL_le{m:Nat} : ∀ {L:List (List S61)},(∀l∈L,l.length<=m)->sumL L<=L.length*m
 | [],_=>Nat.zero_le _
 |l::L,h=>by
  have h1:=h l List.mem_cons_self;have h2:=sumL_le (fun x hx=>h x (List.mem_cons_of_mem _ hx));unfold sumL;rw[List.length_cons,Nat.succ_mul];omega
theorem sumL_snoc: ∀(L:List (List S61)) (l:List S61),sumL (L++ [l])=sumL L+l.length
 | [],l=>by simp[sumL]
 |x::L,l=>by
  show x.length+sumL (L++ [l])=x.length+sumL L+l.length;rw[sumL_snoc L l,Nat.add_assoc]
theorem pairsF_length(t:S61)(l:List S61):(pairsF t l).length=l.length:=List.length_map _
theorem keysN_length: ∀l:List S61,(keysN l).length<=l.length*l.length
 | []=>Nat.zero_le _
 |t::r=>by
  unfold keysN;have:=keysN_length r;rw[List.length_append,pairsF_length,List.length_cons,Nat.succ_mul,Nat.mul_succ];omega
theorem keysL_length: ∀L:List (List S61),(keysL L).length<=sumL L*sumL L
 | []=>Nat.zero_le _
 |l::L=>by
  have e:keysL (l::L)=keysN l++keysL L:=rfl;have h1:=keysN_length l;have h2:=keysL_length L;unfold sumL;rw[e,List.length_append,Nat.add_mul,Nat.mul_add,Nat.mul_add];omega
theorem totT_eq{L:List (List S61)}(hL:L.length<4096)(hl: ∀l∈L,l.length<=140737488355328): ∀i,i<=L.length->totT L i=((sumL (L.take i):Nat):Int)
 |0,_=>rfl
 |i+1,h=>by
  have hi:i<L.length:=by omega
  have hle:=sumL_le (L:=L.take (i+1)) fun l hx=>hl l (List.mem_of_mem_take hx);have h2:(L.take (i+1)).length<=4096:=by rw[List.length_take];omega
  have h3:sumL (L.take (i+1))<=4096*140737488355328:=Nat.le_trans hle (Nat.mul_le_mul_right _ h2);rw[List.take_succ_eq_append_getElem hi,sumL_snoc]at h3⊢
  unfold totT;rw[totT_eq hL hl i zaa,rdL_at hi,w64 zaa zaa];omega
theorem best_j1{ins outs:List Int}{L:List (List S61)}(hN: ∀l∈L,okN l){b:Bool}(hb:b=false->L.length<4096):
 Ends (fun k=>recoupref22_Best.j1 k b ins L outs) (if b=true then(0,0,0,0,false,0)else ansB (bestQ (keysL L))):=by
 refine Ends.succ (fun k=>by rw[recoupref22_Best.j1]) ?_
 cases b
 ·refine Ends.neg zab ?_;rw[if_neg zab];have h:=best_l1 (ins:=ins) (outs:=outs) (hb rfl) hN _ 0 (Nat.zero_add _) ((0,0,0),0) (.inl rfl);rw[List.drop_zero]at h
  exact h
 ·exact Ends.pos rfl (Ends.const rfl)
theorem best_l0{ins outs:List Int}{L:List (List S61)}(hN: ∀l∈L,okN l)(hL:L.length<=4096): ∀n i:Nat,i+n=L.length->Ends (fun k=>recoupref22_Best.l0 k (totT L i) (i:Int) ins L outs) (if totT L L.length>512∨4096<=L.length then(0,0,0,0,false,0)else ansB (bestQ (keysL L)))
 |0,i,h=>by
  obtain rfl:i=L.length:=by omega
  refine Ends.succ (fun k=>by rw[recoupref22_Best.l0]) ?_;refine Ends.neg zaa ?_;by_cases h1:totT L L.length>512
  ·rw[if_pos (.inl h1)];refine Ends.pos h1 ?_;exact best_j1 hN (b:=true) (fun e=>nomatch e)
  ·refine Ends.neg h1 ?_;by_cases h2:4096<=L.length
   ·rw[if_pos (.inr h2),decide_eq_true (by omega:(L.length:Int)>=4096)];exact best_j1 hN (b:=true) (fun e=>nomatch e)
   ·rw[if_neg (fun h=>h.elim h1 h2),decide_eq_false (by omega: ¬(L.length:Int)>=4096)];exact best_j1 hN (b:=false) (fun _=>by omega)
 |n+1,i,h=>by
  have hi:i<L.length:=by omega
  refine Ends.succ (fun k=>by rw[recoupref22_Best.l0]) ?_;refine Ends.pos zaa (Ends.pos zaa ?_);rw[step64 zaa];have ih:=best_l0 (ins:=ins) (outs:=outs) hN hL n (i+1) zaa
  conv at ih=>lhs;intro k;unfold totT
  exact ih
def bestV(ins:List Int)(L:List (List S61))(outs:List Int):Int×Int×Int×Int×Bool×Int:=
 if mayB ins L outs=true then(if totT L L.length>512∨4096<=L.length then(0,0,0,0,false,0)else ansB (bestQ (keysL L)))else(0,0,0,0,false,2)
theorem best_both{ins outs:List Int}{L:List (List S61)}(hi:ins.length<=140737488355328)(ho:outs.length<=140737488355328)(hL:L.length<=140737488355328)(hl: ∀l∈L,l.length<=140737488355328)(hw: ∀l∈L,∀t∈l,okT t=true):Ends (fun k=>share_Best.f k ins L outs) (bestV ins L outs)/\Ends (fun k=>recoupref22_Best.f k ins L outs) (bestV ins L outs):=by
 cases e:mayB ins L outs
 ·have ev:bestV ins L outs=(0,0,0,0,false,2):=by unfold bestV;rw[e];rfl
  rw[ev];refine⟨?_,?_⟩
  ·refine Ends.bind (flow_May_ends hi ho hl) ?_;rw[e];exact Ends.neg zab (Ends.const rfl)
  ·refine Ends.bind (ref_May_ends hi ho hl) ?_;rw[e];exact Ends.neg zab (Ends.const rfl)
 ·have h:=e;unfold mayB sizeOk at h;simp only[Bool.and_eq_true,decide_eq_true_eq]at h;obtain⟨_,⟨hsz,_⟩,hnd,_⟩:=h;have hN:=nodes_ok hnd hl fun l hx t ht=>(okT_wf (hw l hx t ht)).2;have ev:bestV ins L outs=if totT L L.length>512∨4096<=L.length then(0,0,0,0,false,0)else ansB (bestQ (keysL L)):=by unfold bestV;rw[e,if_pos rfl]
  rw[ev];refine⟨?_,?_⟩
  ·refine Ends.bind (flow_May_ends hi ho hl) ?_;rw[e];refine Ends.pos rfl (Ends.pos hL ?_);unfold share_best.f;by_cases h1:totT L L.length>512∨4096<=L.length
   ·rw[if_pos h1,if_pos h1];exact Ends.const rfl
   ·have hlt:L.length<4096:=by omega
    have hs:=totT_eq hlt hl L.length (Nat.le_refl _);rw[List.take_length]at hs
    have D:sumL L<=512:=by omega
    have hk:=keysL_length L;have G:sumL L*sumL L<=512*512:=Nat.mul_le_mul D D;have hok:okB L=true:=by
     unfold okB;rw[Bool.and_eq_true];exact⟨List.all_eq_true.2 fun l hx=>List.all_eq_true.2 fun t ht=>hw l hx t ht,decide_eq_true zaa⟩
    rw[if_neg h1,if_neg h1,if_pos hok];refine Ends.const (congrArg some ?_);unfold ansB;rcases bestQ_is (keysL L)with⟨h2,_⟩|⟨_,h2,h3,_⟩
    ·rw[h2];rfl
    ·rw[<-h2]at h3
     rw[if_pos h3,decide_eq_true h3]
  ·refine Ends.bind (ref_May_ends hi ho hl) ?_;rw[e];exact Ends.pos rfl (best_l0 hN hsz _ 0 (Nat.zero_add _))
def sh1(own v:Int):Int:=if v>=own then v+1 else v
def shT(own:Int)(t:S61):S61:=⟨sh1 own t.f0,t.f1⟩
def dropP(q:Key)(l:List S61):List S61:=l.filter fun t=>decide (t.f0≠q.1)&&decide (t.f0≠q.2.1)
def insT(own b:Int):List S61->List S61
 | []=> [⟨own,b⟩]
 |t::r=>if own<t.f0 then⟨own,b⟩::t::r else t::insT own b r
def nodeT(own:Int)(q:Key)(l:List S61):List S61:=if inB q l=true then insT own (byF l q.1) ((dropP q l).map (shT own))else l.map (shT own)
def pairT(q:Key):List S61:= [⟨q.1,1⟩,⟨q.2.1,q.2.2⟩]
theorem clone_ends{l:List S61}(hl:l.length<=8796093021952):api_Term_42.f l=some l:=by
 unfold api_Term_42.f;rw[Option.bind_some,if_pos zaf];rfl
theorem cloneI_ends{l:List Int}(hl:l.length<=17592186043904):slices_Clone_int_int.f l=some l:=by
 unfold slices_Clone_int_int.f;rw[Option.bind_some,if_pos zaf];rfl
theorem mid_get{α:Type}(A B:List α)(x:α)(d:α):(A++x::B).getD A.length d=x:=by simp[List.getD_eq_getElem?_getD]
theorem shifted_l0{own:Int} : ∀(B A:List S61),(A++B).length<=140737488355328->(∀t∈B,t.f0<4611686018427387904/\ -4611686018427387904<t.f0)->Ends (fun k=>share_shifted.l0 k own (A++B) ((A++B).length:Int) (A.length:Int)) (A++B.map (shT own))
 | [],A,_,_=>by
  refine Ends.succ (fun k=>by rw[share_shifted.l0]) (Ends.neg zac (Ends.const ?_));simp
 |t::B,A,hl,hb=>by
  have hA:A.length<(A++t::B).length:=by simp
  have ht:=hb t List.mem_cons_self;have hr:rd_T61 (A++t::B) (A.length:Int)=t:=by
   unfold rd_T61;rw[Int.toNat_natCast];exact mid_get A B t _
  have D:A.length<4611686018427387904:=by omega
  refine Ends.succ (fun k=>by rw[share_shifted.l0]) (Ends.pos zaa (Ends.pos zaa (Ends.pos zaa ?_)));rw[hr,step64 D,Int.toNat_natCast];by_cases h:t.f0>=own
  ·refine Ends.pos h ?_;have e:(A++t::B).set A.length (⟨wrap64 (t.f0+1),t.f1⟩:S61)=(A++ [shT own t])++B:=by
    rw[List.set_append_right _ _ (Nat.le_refl _),Nat.sub_self,List.set_cons_zero,w64 zaa zaa];unfold shT sh1;rw[if_pos h];simp
   have ih:=shifted_l0 (own:=own) B (A++ [shT own t]) zaw (fun x hx=>hb x (List.mem_cons_of_mem _ hx));have el:(A++t::B).length=((A++ [shT own t])++B).length:=by simp
   have ea:A.length+1=(A++ [shT own t]).length:=by simp
   rw[e,el,ea];refine Ends.eq ih ?_;simp
  ·refine Ends.neg h ?_;have e:A++t::B=(A++ [shT own t])++B:=by
    unfold shT sh1;rw[if_neg h];simp
   have ih:=shifted_l0 (own:=own) B (A++ [shT own t]) (by rw[<-e];exact hl) (fun x hx=>hb x (List.mem_cons_of_mem _ hx));have ea:A.length+1=(A++ [shT own t]).length:=by simp
   rw[e,ea];refine Ends.eq ih ?_;simp
theorem shifted_ends{l:List S61}{own:Int}(hl:l.length<=8796093021952)(hb: ∀t∈l,t.f0<4611686018427387904/\ -4611686018427387904<t.f0):Ends (fun k=>share_shifted.f k l own) (l.map (shT own)):=by
 unfold share_shifted.f;refine Ends.bind1 (clone_ends hl) ?_;have:=shifted_l0 (own:=own) l [] zaf hb;simpa using this
theorem copied_l0{ins outs:List Int} : ∀(B A:List (List S61)),(A++B).length<=5864062014634->(∀l∈B,l.length<=8796093021952)->Ends (fun k=>share_copied.l0 k (A++B) ((A++B).length:Int) (A.length:Int) ins A outs) (ins,A++B,outs)
 | [],A,_,_=>by
  refine Ends.succ (fun k=>by rw[share_copied.l0]) (Ends.neg zac (Ends.const ?_));simp
 |l::B,A,hl,hb=>by
  have hA:A.length<(A++l::B).length:=by simp
  have hr:rd_L5 (A++l::B) (A.length:Int)=l:=by
   unfold rd_L5;rw[Int.toNat_natCast];exact mid_get A B l _
  refine Ends.succ (fun k=>by rw[share_copied.l0]) (Ends.pos zaa (Ends.pos zaa (Ends.pos zaa ?_)));rw[hr,step64 zaa];refine Ends.bind1 (clone_ends (hb l List.mem_cons_self)) (Ends.pos zaa ?_);have ih:=copied_l0 (ins:=ins) (outs:=outs) B (A++ [l]) zaw (fun x hx=>hb x (List.mem_cons_of_mem _ hx));have e:A++l::B=(A++ [l])++B:=by simp
  have ea:A.length+1=(A++ [l]).length:=by simp
  rw[e,ea];exact ih
theorem copied_ends{ins outs:List Int}{L:List (List S61)}(hi:ins.length<=17592186043904)(ho:outs.length<=17592186043904)(hL:L.length<=5864062014634)(hl: ∀l∈L,l.length<=8796093021952):Ends (fun k=>share_copied.f k ins L outs) (ins,L,outs):=by
 unfold share_copied.f;refine Ends.bind1 (cloneI_ends hi) (Ends.bind1 (cloneI_ends ho) ?_);have:=copied_l0 (ins:=ins) (outs:=outs) L [] (by simpa using hL) hl;simpa using this
theorem copy_l0{ins outs:List Int}(hi:ins.length<=17592186043904)(ho:outs.length<=17592186043904): ∀(B A:List (List S61)),(A++B).length<=5864062014634->(∀l∈B,l.length<=8796093021952)->Ends (fun k=>recoupref21_Copy.l0 k A (A.length:Int) ins (A++B) outs) (ins,A++B,outs)
 | [],A,_,_=>by
  refine Ends.succ (fun k=>by rw[recoupref21_Copy.l0]) (Ends.neg zac ?_);refine Ends.bind1 rfl (Ends.pos zaf (Ends.bind1 rfl (Ends.pos zaf (Ends.const ?_))));simp
 |l::B,A,hl,hb=>by
  have hA:A.length<(A++l::B).length:=by simp
  have hr:rd_L5 (A++l::B) (A.length:Int)=l:=by
   unfold rd_L5;rw[Int.toNat_natCast];exact mid_get A B l _
  have D:=hb l List.mem_cons_self;refine Ends.succ (fun k=>by rw[recoupref21_Copy.l0]) ?_;refine Ends.pos zaa ?_;refine Ends.bind1 rfl ?_;refine Ends.pos zaa ?_;rw[hr,step64 zaa];refine Ends.pos zaf ?_;refine Ends.pos zaa ?_;have ih:=copy_l0 hi ho B (A++ [l]) zaw (fun x hx=>hb x (List.mem_cons_of_mem _ hx));have e:A++l::B=(A++ [l])++B:=by simp
  have ea:A.length+1=(A++ [l]).length:=by simp
  rw[e,ea,List.nil_append];exact ih
theorem copy_ends{ins outs:List Int}{L:List (List S61)}(hi:ins.length<=17592186043904)(ho:outs.length<=17592186043904)(hL:L.length<=5864062014634)(hl: ∀l∈L,l.length<=8796093021952):Ends (fun k=>recoupref21_Copy.f k ins L outs) (ins,L,outs):=by
 unfold recoupref21_Copy.f;have:=copy_l0 (ins:=ins) (outs:=outs) hi ho L [] (by simpa using hL) hl;simpa using this
theorem ints_l0{l:List Int}(hl:l.length<=140737488355328): ∀n i:Nat,i+n=l.length->Ends (fun k=>recoupref11_Ints.l0 k l l (i:Int)) true
 |0,i,h=>Ends.succ (fun k=>by rw[recoupref11_Ints.l0]) (Ends.neg zaa (Ends.const rfl))
 |n+1,i,h=>by
  refine Ends.succ (fun k=>by rw[recoupref11_Ints.l0]) (Ends.pos zaa (Ends.pos zaa (Ends.pos zaa (Ends.pos rfl ?_))));rw[step64 zaa];exact ints_l0 hl n (i+1) zaa
theorem ints_ends{l:List Int}(hl:l.length<=140737488355328):Ends (fun k=>recoupref11_Ints.f k l l) true:=by
 unfold recoupref11_Ints.f;exact Ends.pos rfl (ints_l0 hl _ 0 (Nat.zero_add _))
theorem same_l1{ins outs ins' outs':List Int}{L:List (List S61)}{i:Nat}(hi:i<L.length)(hl:L[i].length<=140737488355328)(D:i<4611686018427387904)(hX:Ends (fun k=>recoupref21_Same.l0 k ((i+1:Nat):Int) ins L outs ins' L outs') true): ∀n j:Nat,j+n=L[i].length->Ends (fun k=>recoupref21_Same.l1 k (i:Int) (j:Int) ins L outs ins' L outs') true
 |0,j,h=>by
  refine Ends.succ (fun k=>by rw[recoupref21_Same.l1]) (Ends.pos zaa (Ends.pos zaa ?_));rw[rdL_at hi,step64 D];exact Ends.neg zaa hX
 |n+1,j,h=>by
  refine Ends.succ (fun k=>by rw[recoupref21_Same.l1]) (Ends.pos zaa (Ends.pos zaa ?_));rw[rdL_at hi,step64 (by omega:j<4611686018427387904)];refine Ends.pos zaa (Ends.pos zaa (Ends.pos zaa (Ends.pos zaa (Ends.neg zac ?_))));exact same_l1 hi hl D hX n (j+1) zaa
theorem same_l0{ins outs ins' outs':List Int}{L:List (List S61)}(hL:L.length<=140737488355328)(hl: ∀l∈L,l.length<=140737488355328): ∀n i:Nat,i+n=L.length->Ends (fun k=>recoupref21_Same.l0 k (i:Int) ins L outs ins' L outs') true
 |0,i,h=>Ends.succ (fun k=>by rw[recoupref21_Same.l0]) (Ends.neg zaa (Ends.const rfl))
 |n+1,i,h=>by
  have hi:i<L.length:=by omega
  refine Ends.succ (fun k=>by rw[recoupref21_Same.l0]) (Ends.pos zaa (Ends.pos zaa (Ends.pos zaa (Ends.pos rfl ?_))));exact same_l1 hi (hl _ (List.getElem_mem hi)) zaa (same_l0 hL hl n (i+1) zaa) _ 0 (Nat.zero_add _)
theorem same_ends{ins outs:List Int}{L:List (List S61)}(hi:ins.length<=140737488355328)(ho:outs.length<=140737488355328)(hL:L.length<=140737488355328)(hl: ∀l∈L,l.length<=140737488355328):Ends (fun k=>recoupref21_Same.f k ins L outs ins L outs) true:=by
 unfold recoupref21_Same.f;refine Ends.bind (ints_ends hi) (Ends.pos rfl (Ends.bind (ints_ends ho) (Ends.pos rfl ?_)));refine Ends.succ (fun k=>by rw[recoupref21_Same.j0]) (Ends.neg zac ?_);exact same_l0 hL hl _ 0 (Nat.zero_add _)
theorem idx_split(v:Int): ∀(l:List S61) (i:Int),(idxT (fun t=>t.f0==v) l i= -1/\ ∀t∈l,t.f0≠v)∨ ∃A t B,l=A++t::B/\t.f0=v/\(∀x∈A,x.f0≠v)/\idxT (fun t=>t.f0==v) l i=i+(A.length:Int)
 | [],i=> .inl ⟨rfl,fun t h=>absurd h zac⟩
 |x::r,i=>by
  by_cases h:x.f0=v
  ·refine .inr ⟨[],x,r,rfl,h,fun y hy=>absurd hy zac,?_⟩;unfold idxT;rw[if_pos zax];simp
  ·have hs:idxT (fun t=>t.f0==v) (x::r) i=idxT (fun t=>t.f0==v) r (i+1):=by
    conv=>lhs;unfold idxT
    rw[if_neg zax]
   rw[hs];rcases idx_split v r (i+1)with⟨h1,h2⟩|⟨A,t,B,rfl,h2,h3,h4⟩
   ·refine .inl ⟨h1,fun t ht=>?_⟩;rcases List.mem_cons.1 ht with rfl|ht
    ·exact h
    ·exact h2 t ht
   ·refine .inr ⟨x::A,t,B,rfl,h2,fun y hy=>?_,by rw[h4,List.length_cons];omega⟩;rcases List.mem_cons.1 hy with rfl|hy
    ·exact h
    ·exact h3 y hy
theorem byF_none{v:Int} : ∀ {l:List S61},(∀t∈l,t.f0≠v)->byF l v=0
 | [],_=>rfl
 |t::r,h=>by
  rw[byF_cons,if_neg (h t List.mem_cons_self)];exact byF_none fun x hx=>h x (List.mem_cons_of_mem _ hx)
theorem byF_at{v:Int} : ∀ {A:List S61} {t:S61} {B:List S61},(∀x∈A,x.f0≠v)->t.f0=v->byF (A++t::B) v=t.f1
 | [],t,B,_,h=>by rw[List.nil_append,byF_cons,if_pos h]
 |x::A,t,B,hA,h=>by
  rw[List.cons_append,byF_cons,if_neg (hA x List.mem_cons_self)];exact byF_at (fun y hy=>hA y (List.mem_cons_of_mem _ hy)) h
theorem at_mid(A B:List S61)(t:S61):rd_T61 (A++t::B) (A.length:Int)=t:=by
 unfold rd_T61;rw[Int.toNat_natCast];exact mid_get A B t _
theorem filter_all{p:S61->Bool}{l:List S61}(h: ∀t∈l,p t=true):l.filter p=l:=List.filter_eq_self.2 h
theorem without_eq{l:List S61}(h:okN l)(hlen:l.length<=1000000)(hall:l.all okT=true)(q:Key)(hq:q.1<q.2.1)(hr:0<=q.2.2/\q.2.2<256)(c:Int):
 share_without.f l q.1 q.2.1 q.2.2 c 0=some (if inB q l=true then(dropP q l,byF l q.1,true)else(l,0,false)):=by
 unfold share_without.f;rw[if_pos ⟨hlen,hall⟩];rcases idx_split q.1 l 0 with⟨e1,n1⟩|⟨A,t,B,el,ht,hA,e1⟩
 ·have hin:inB q l=false:=by
   unfold inB;rw[byF_none n1];rfl
  rw[e1,if_pos (.inl zab),hin];rfl
 ·rcases idx_split q.2.1 l 0 with⟨e2,n2⟩|⟨A',s,B',el',hs,hA',e2⟩
  ·have hin:inB q l=false:=by
    unfold inB;rw[byF_none n2];simp
   rw[e2,if_pos (.inr (.inl zab)),hin];rfl
  ·rw[Int.zero_add]at e1 e2
   have O:byF l q.1=t.f1:=by rw[el];exact byF_at hA ht
   have aa:byF l q.2.1=s.f1:=by rw[el'];exact byF_at hA' hs
   have G:rd_T61 l (A.length:Int)=t:=by rw[el];exact at_mid A B t
   have I:rd_T61 l (A'.length:Int)=s:=by rw[el'];exact at_mid A' B' s
   have okt:okS t:=h.ok t (by rw[el];simp);have oks:okS s:=h.ok s (by rw[el'];simp);have hrat:=ratio_iff (a:=t.f1) (b:=s.f1) (r:=q.2.2) ⟨by have:=okt.1;omega,okt.2⟩ (by have:=okt.1;omega) ⟨by have:=oks.1;omega,oks.2⟩ hr;have hin:inB q l=true↔mulB s.f1 (invAt t.f1)=q.2.2:=by
    unfold inB;rw[O,aa,decide_eq_true (show t.f1≠0 from by have:=okt.1;omega),decide_eq_true (show s.f1≠0 from by have:=oks.1;omega),Bool.true_and,Bool.true_and,beq_iff_eq];exact hrat.symm
   rw[e1,e2,G,I];by_cases hm:mulB s.f1 (invAt t.f1)=q.2.2
   ·rw[if_neg zaa,if_pos (hin.2 hm),O];have up:=h.up;have hlt:A.length<A'.length:=by
     rcases Nat.lt_trichotomy A.length A'.length with h1|h1|h1
     ·exact h1
     ·exfalso;have:t=s:=by rw[<-G,<-I,h1]
      rw[this,hs]at ht
      omega
     ·exfalso;have g1:A.length<l.length:=by rw[el];simp
      have g2:A'.length<l.length:=by omega
      have:=(List.pairwise_iff_getElem.1 up) A'.length A.length g2 g1 h1;have x1:l[A.length] =t:=by rw[<-G,rd_T61_eq g1]
      have x2:l[A'.length] =s:=by rw[<-I,rd_T61_eq g2]
      rw[x1,x2]at this
      omega
    rw[if_pos zaa];simp only[Int.toNat_natCast]
    congr 2
    obtain⟨M,hM⟩: ∃M,A'=A++t::M:=by
     have e3:A'=l.take A'.length:=by rw[el',List.take_left]
     have e4:l.take A'.length=A++t::(B.take (A'.length-(A.length+1))):=by
      rw[el,List.take_append,List.take_of_length_le zaa];obtain⟨d,hd⟩: ∃d,A'.length-A.length=d+1:=⟨A'.length-A.length-1,by omega⟩
      rw[hd,List.take_succ_cons,show A'.length-(A.length+1)=d from by omega]
     exact⟨_,e3.trans e4⟩
    have D:l=A++t::(M++s::B'):=by rw[el',hM];simp
    have U:=up;rw[D]at U
    obtain⟨_,af,hx⟩:=List.pairwise_append.1 U;obtain⟨ac,ag⟩:=List.pairwise_cons.1 af;obtain⟨_,ah,ae⟩:=List.pairwise_append.1 ag;obtain⟨ab,_⟩:=List.pairwise_cons.1 ah;have X: ∀x∈A,x.f0<q.1:=fun x hxA=>by rw[<-ht];exact hx x hxA t List.mem_cons_self
    have Z: ∀x∈M,q.1<x.f0/\x.f0<q.2.1:=fun x hxM=>⟨by rw[<-ht];exact ac x (by simp[hxM]),by rw[<-hs];exact ae x hxM s List.mem_cons_self⟩
    have Y: ∀x∈B',q.2.1<x.f0:=fun x hxB=>by rw[<-hs];exact ab x hxB
    have hd:dropP q l=A++(M++B'):=by
     rw[D];unfold dropP
     rw[List.filter_append,List.filter_cons_of_neg (by simp[ht]),List.filter_append,List.filter_cons_of_neg (by simp[hs]),
      filter_all (fun x hxA=>by have:=X x hxA;simp;omega),filter_all (fun x hxM=>by have:=Z x hxM;simp;omega),filter_all (fun x hxB=>by have:=Y x hxB;simp;omega)]
    rw[hd];have t1:l.take A.length=A:=by rw[D,List.take_left]
    have t2:(l.take A'.length).drop (A.length+1)=M:=by
     have:l.take A'.length=A++t::M:=by rw[<-hM,el',List.take_left]
     rw[this,<-List.drop_drop,List.drop_left];rfl
    have t3:l.drop (A'.length+1)=B':=by rw[el',<-List.drop_drop,List.drop_left];rfl
    rw[t1,t2,t3]
   ·rw[if_pos (.inr (.inr hm)),if_neg (fun h=>hm (hin.1 h))]
theorem ins_idx(own b:Int): ∀(l:List S61) (i:Nat),(idxT (fun t=>decide (own<t.f0)) l (i:Int)= -1/\insT own b l=l++ [⟨own,b⟩])∨ ∃j:Nat,j<=l.length/\idxT (fun t=>decide (own<t.f0)) l (i:Int)=((i+j:Nat):Int)/\insT own b l=insN j ⟨own,b⟩ l
 | [],i=> .inl ⟨rfl,rfl⟩
 |x::r,i=>by
  by_cases h:own<x.f0
  ·refine .inr ⟨0,Nat.zero_le _,?_,?_⟩
   ·unfold idxT;rw[if_pos zax];simp
   ·unfold insT;rw[if_pos h];rfl
  ·have hs:idxT (fun t=>decide (own<t.f0)) (x::r) (i:Int)=idxT (fun t=>decide (own<t.f0)) r ((i+1:Nat):Int):=by
    conv=>lhs;unfold idxT
    rw[if_neg zax];rfl
   have ht:insT own b (x::r)=x::insT own b r:=by
    conv=>lhs;unfold insT
    rw[if_neg h]
   rw[hs,ht];rcases ins_idx own b r (i+1)with⟨h1,h2⟩|⟨j,h1,h2,h3⟩
   ·exact .inl ⟨h1,by rw[h2];rfl⟩
   ·refine .inr ⟨j+1,by rw[List.length_cons];omega,by rw[h2];congr 1;omega,?_⟩;rw[h3];rfl
structure nodeOk (l:List S61):Prop where
 ok:okN l
 len:l.length<=1000
 wf:l.all okT=true
 lo: ∀t∈l,0<=t.f0
 hi: ∀t∈l,t.f0<4611686018427387904
theorem drop_len(q:Key)(l:List S61):(dropP q l).length<=l.length:=List.length_filter_le _ _
theorem drop_mem{q:Key}{l:List S61}{t:S61}(h:t∈dropP q l):t∈l:=(List.mem_filter.1 h).1
theorem insT_len(own b:Int): ∀l:List S61,(insT own b l).length=l.length+1
 | []=>rfl
 |x::r=>by
  unfold insT
  split
  ·rfl
  ·rw[List.length_cons,insT_len own b r,List.length_cons]
section
variable {ins outs:List Int} {L:List (List S61)} {q:Key} {c:Int}
theorem tk_j3{l:List S61}{b own:Int}{is:Bool}{i:Nat}{Acc:List (List S61)}{X:List Int×List (List S61)×List Int}(hl:l.length<=1000000)(hA:Acc.length<5864062014805)(hi:i<4611686018427387904)
 (hX:Ends (fun k=>share_taken.l0 k 0 L (L.length:Int) ((i+1:Nat):Int) ins L outs q.1 q.2.1 q.2.2 c ins (Acc++ [if is=true then insT own b l else l]) own 0) X):
 Ends (fun k=>share_taken.j3 k 0 l b is L (L.length:Int) (i:Int) ins L outs q.1 q.2.1 q.2.2 c ins Acc own 0) X:=by
 refine Ends.succ (fun k=>by rw[share_taken.j3]) ?_
 cases is
 ·refine Ends.neg zab ?_;refine Ends.pos hA ?_;rw[step64 hi];exact hX
 ·refine Ends.pos rfl ?_;rw[if_pos rfl]at hX
  have hidx:api_Term_45.f l own=some (idxT (fun t=>decide (own<t.f0)) l 0):=by unfold api_Term_45.f;rw[if_pos zaa]
  refine Ends.bind1 hidx ?_;rcases ins_idx own b l 0 with⟨h1,h2⟩|⟨j,h1,h2,h3⟩
  ·have h1':idxT (fun t=>decide (own<t.f0)) l 0= -1:=h1;rw[h1'];refine Ends.pos zab ?_;refine Ends.pos zaa ?_;refine Ends.pos hA ?_;rw[step64 hi];rw[h2]at hX
   have e:insN l.length (⟨own,b⟩:S61) l=l++ [⟨own,b⟩]:=by simp[insN]
   rw[e];exact hX
  ·have h2':idxT (fun t=>decide (own<t.f0)) l 0=((j:Nat):Int):=by
    rw[<-Int.natCast_zero,h2,Nat.zero_add]
   rw[h2'];refine Ends.neg zaa ?_;refine Ends.pos ⟨by omega,by omega⟩ ?_;refine Ends.pos hA ?_;rw[step64 hi,Int.toNat_natCast];rw[h3]at hX
   exact hX
theorem tk_j2{l:List S61}{b own:Int}{is:Bool}{i:Nat}{Acc:List (List S61)}{X:List Int×List (List S61)×List Int}(hl:l.length<=1000000)(hb: ∀t∈l,t.f0<4611686018427387904/\ -4611686018427387904<t.f0)(hA:Acc.length<5864062014805)(hi:i<4611686018427387904)
 (hX:Ends (fun k=>share_taken.l0 k 0 L (L.length:Int) ((i+1:Nat):Int) ins L outs q.1 q.2.1 q.2.2 c ins (Acc++ [if is=true then insT own b (if own>=0 then l.map (shT own)else l)else(if own>=0 then l.map (shT own)else l)]) own 0) X):
 Ends (fun k=>share_taken.j2 k 0 l b is L (L.length:Int) (i:Int) ins L outs q.1 q.2.1 q.2.2 c ins Acc own 0) X:=by
 refine Ends.succ (fun k=>by rw[share_taken.j2]) ?_;by_cases h:own>=0
 ·refine Ends.pos h ?_;rw[if_pos h]at hX
  exact Ends.bind (shifted_ends zaa hb) (tk_j3 zaw hA hi hX)
 ·refine Ends.neg h ?_;rw[if_neg h]at hX
  exact Ends.bind1 (clone_ends zaa) (tk_j3 hl hA hi hX)
theorem tk_step{A B:List (List S61)}{l:List S61}{own:Int}{Acc:List (List S61)}{X:List Int×List (List S61)×List Int}(hLe:L=A++l::B)(hn:nodeOk l)(hq:q.1<q.2.1)(hr:0<=q.2.2/\q.2.2<256)(hLl:L.length<=10000)(hA:Acc.length<=20000)(ho:0<=own∨inB q l=false)
 (hX:Ends (fun k=>share_taken.l0 k 0 L (L.length:Int) ((A.length+1:Nat):Int) ins L outs q.1 q.2.1 q.2.2 c ins (Acc++ [if own>=0 then nodeT own q l else l]) own 0) X):
 Ends (fun k=>share_taken.l0 k 0 L (L.length:Int) (A.length:Int) ins L outs q.1 q.2.1 q.2.2 c ins Acc own 0) X:=by
 have hAl:A.length<L.length:=by rw[hLe];simp
 have hrd:rd_L5 L (A.length:Int)=l:=by
  rw[hLe];unfold rd_L5;rw[Int.toNat_natCast];exact mid_get A B l _
 refine Ends.succ (fun k=>by rw[share_taken.l0]) ?_;refine Ends.pos zaa ?_;refine Ends.pos zaa ?_;refine Ends.pos zaa ?_;rw[hrd];have hw:=without_eq hn.ok (by have:=hn.len;omega) hn.wf q hq hr c;refine Ends.bind1 hw ?_;have hdl:=drop_len q l;have hlen:=hn.len
 cases hin:inB q l
 ·rw[if_neg zab]
  dsimp only
  refine Ends.neg zab ?_;refine Ends.succ (fun k=>by rw[share_taken.j1]) ?_;refine Ends.neg zab ?_;refine tk_j2 zaa (fun t ht=>⟨hn.hi t ht,by have:=hn.lo t ht;omega⟩) zaa zaa ?_;rw[if_neg zab];have e:(if own>=0 then nodeT own q l else l)=if own>=0 then l.map (shT own)else l:=by
   unfold nodeT;rw[hin];rfl
  rw[<-e];exact hX
 ·have ho':0<=own:=ho.resolve_right (by rw[hin];decide);rw[if_pos rfl]
  dsimp only
  refine Ends.pos rfl ?_;refine Ends.succ (fun k=>by rw[share_taken.j1]) ?_;refine Ends.neg (by simpa using ho') ?_;refine tk_j2 zaa (fun t ht=>⟨hn.hi t (drop_mem ht),by have:=hn.lo t (drop_mem ht);omega⟩) zaa zaa ?_;rw[if_pos rfl,if_pos ho'];rw[if_pos ho']at hX
  have e:nodeT own q l=insT own (byF l q.1) ((dropP q l).map (shT own)):=by unfold nodeT;rw[if_pos hin]
  rw[<-e];exact hX
theorem tk_l1{own:Int}{N:List (List S61)} : ∀(B A:List Int),(A++B).length<=17592186043904->(∀v∈B,v<4611686018427387904/\ -4611686018427387904<v)-> ∀A':List Int,A'.length=A.length->Ends (fun k=>share_taken.l1 k (A++B) ((A++B).length:Int) (A.length:Int) ins N A' own 0) (ins,N,A'++B.map (sh1 own))
 | [],A,_,_,A',_=>by
  refine Ends.succ (fun k=>by rw[share_taken.l1]) (Ends.neg zac (Ends.const ?_));simp
 |v::B,A,hl,hb,A',hA'=>by
  have hA:A.length<(A++v::B).length:=by simp
  have hv:=hb v List.mem_cons_self;have hr:rd (A++v::B) (A.length:Int)=v:=by rw[rd_nat];exact mid_get A B v _
  have e:A++v::B=(A++ [v])++B:=by simp
  have ea:A.length+1=(A++ [v]).length:=by simp
  refine Ends.succ (fun k=>by rw[share_taken.l1]) ?_;refine Ends.pos zaa ?_;refine Ends.pos zaa ?_;refine Ends.pos zaa ?_;rw[hr,step64 zaa,w64 zaa zaa];have ih:=fun A'' (h:A''.length=(A++ [v]).length)=>tk_l1 (own:=own) (N:=N) B (A++ [v]) (by rw[<-e];exact hl) (fun x hx=>hb x (List.mem_cons_of_mem _ hx)) A'' h;by_cases h:v>=own
  ·refine Ends.pos h ?_;refine Ends.pos zaa ?_;rw[e,ea];refine Ends.eq (ih (A'++ [v+1]) (by simp[hA'])) ?_;simp[sh1,h]
  ·refine Ends.neg h ?_;refine Ends.pos zaa ?_;rw[e,ea];refine Ends.eq (ih (A'++ [v]) (by simp[hA'])) ?_;simp[sh1,h]
theorem tk_post{own:Int}(ho:0<=own)(hq:q.1<q.2.1)(hr:0<=q.2.2/\q.2.2<256)(hLl:L.length<=10000)(hout:outs.length<=17592186043904)(hov: ∀v∈outs,v<4611686018427387904/\ -4611686018427387904<v): ∀(B A Acc:List (List S61)),L=A++B->(∀l∈B,nodeOk l)->Acc.length+B.length<=20000->
 Ends (fun k=>share_taken.l0 k 0 L (L.length:Int) (A.length:Int) ins L outs q.1 q.2.1 q.2.2 c ins Acc own 0) (ins,Acc++B.map (nodeT own q),outs.map (sh1 own))
 | [],A,Acc,hLe,_,_=>by
  have hAl:A.length=L.length:=by rw[hLe];simp
  refine Ends.succ (fun k=>by rw[share_taken.l0]) ?_;refine Ends.neg zaa ?_;have:=tk_l1 (ins:=ins) (own:=own) (N:=Acc) outs [] (by simpa using hout) hov [] rfl;simpa using this
 |l::B,A,Acc,hLe,hB,hlen=>by
  refine tk_step (own:=own) hLe (hB l List.mem_cons_self) hq hr hLl zaa (.inl ho) ?_;rw[if_pos ho];have ea:A.length+1=(A++ [l]).length:=by simp
  rw[ea];have ih:=tk_post ho hq hr hLl hout hov B (A++ [l]) (Acc++ [nodeT own q l]) zbf (fun x hx=>hB x (List.mem_cons_of_mem _ hx)) (by simp at hlen⊢;omega);refine Ends.eq ih ?_;simp
theorem tk_pre(hq:q.1<q.2.1)(hr:0<=q.2.2/\q.2.2<256)(hLl:L.length<=10000){X:List Int×List (List S61)×List Int}{A0 R0:List (List S61)}(hLe:L=A0++R0)(hok: ∀l∈A0,nodeOk l/\inB q l=false)
 (hX:Ends (fun k=>share_taken.l0 k 0 L (L.length:Int) (A0.length:Int) ins L outs q.1 q.2.1 q.2.2 c ins A0 (-1) 0) X): ∀(B A:List (List S61)),A0=A++B->Ends (fun k=>share_taken.l0 k 0 L (L.length:Int) (A.length:Int) ins L outs q.1 q.2.1 q.2.2 c ins A (-1) 0) X
 | [],A,e=>by
  rw[List.append_nil]at e
  rw[<-e];exact hX
 |l::B,A,e=>by
  have hm:l∈A0:=by rw[e];simp
  have hAl:A.length<L.length:=by rw[hLe,e];simp
  refine tk_step (A:=A) (B:=B++R0) (own:= -1) (by rw[hLe,e];simp) (hok l hm).1 hq hr hLl zaa (.inr (hok l hm).2) ?_;rw[if_neg zab];have ea:A.length+1=(A++ [l]).length:=by simp
  rw[ea];exact tk_pre hq hr hLl hLe hok hX B (A++ [l]) (by rw[e];simp)
theorem taken_ends(hq:q.1<q.2.1)(hr:0<=q.2.2/\q.2.2<256)(hLl:L.length<=10000)(hi:ins.length<=17592186043904)(hout:outs.length<=17592186043904)(hov: ∀v∈outs,v<4611686018427387904/\ -4611686018427387904<v){A B:List (List S61)}{l:List S61}(hLe:L=A++l::B)(hok: ∀x∈L,nodeOk x)(hA: ∀x∈A,inB q x=false)(hin:inB q l=true):
 Ends (fun k=>share_taken.f k ins L outs q.1 q.2.1 q.2.2 c 0) (ins,A++pairT q::(l::B).map (nodeT ((ins.length:Int)+(A.length:Int)) q),outs.map (sh1 ((ins.length:Int)+(A.length:Int)))):=by
 obtain⟨own,hown⟩: ∃x,x=(ins.length:Int)+(A.length:Int):=⟨_,rfl⟩
 rw[<-hown];have ho:0<=own:=by omega
 have hAl:A.length<L.length:=by rw[hLe];simp
 have hn:=hok l zbf;unfold share_taken.f;refine Ends.bind1 (cloneI_ends zaa) ?_;have hpost:=tk_post (ins:=ins) (outs:=outs) (q:=q) (c:=c) (L:=L) ho hq hr hLl hout hov B (A++ [l]) (A++ [pairT q]++ [nodeT own q l]) zbf (fun x hx=>hok x (by rw[hLe];simp[hx])) (by rw[hLe]at hLl;simp at hLl⊢;omega);have hmid:Ends (fun k=>share_taken.l0 k 0 L (L.length:Int) (A.length:Int) ins L outs q.1 q.2.1 q.2.2 c ins A (-1) 0) (ins,A++pairT q::(l::B).map (nodeT own q),outs.map (sh1 own)):=by
  have hrd:rd_L5 L (A.length:Int)=l:=by
   rw[hLe];unfold rd_L5;rw[Int.toNat_natCast];exact mid_get A B l _
  refine Ends.succ (fun k=>by rw[share_taken.l0]) ?_;refine Ends.pos zaa ?_;refine Ends.pos zaa ?_;refine Ends.pos zaa ?_;rw[hrd];have hw:=without_eq hn.ok (by have:=hn.len;omega) hn.wf q hq hr c;rw[if_pos hin]at hw
  refine Ends.bind1 hw ?_;have hdl:=drop_len q l;have hlen:=hn.len
  dsimp only
  refine Ends.pos rfl ?_;refine Ends.succ (fun k=>by rw[share_taken.j1]) ?_;refine Ends.pos zab ?_;refine Ends.pos ⟨by omega,rfl⟩ ?_;rw[w64 zaa zaa,<-hown];refine tk_j2 zaa (fun t ht=>⟨hn.hi t (drop_mem ht),by have:=hn.lo t (drop_mem ht);omega⟩) zaf zaa ?_;rw[if_pos rfl,if_pos ho];have e:nodeT own q l=insT own (byF l q.1) ((dropP q l).map (shT own)):=by unfold nodeT;rw[if_pos hin]
  rw[<-e];have ea:A.length+1=(A++ [l]).length:=by simp
  rw[ea];refine Ends.eq hpost ?_;simp
 have hpre:=tk_pre (ins:=ins) (outs:=outs) (q:=q) (c:=c) (L:=L) hq hr hLl (A0:=A) (R0:=l::B) hLe (fun x hx=>⟨hok x (by rw[hLe];simp[hx]),hA x hx⟩) hmid A [] rfl;simpa using hpre
end
def filB(is:Bool)(q:Key)(S:List S61):List S61:=if is=true then dropP q S else S
def tailB(is put:Bool)(q:Key)(own b:Int)(S:List S61):List S61:=if put=true then(filB is q S).map (shT own)else insT own b ((filB is q S).map (shT own))
theorem tailB_nil(is:Bool)(q:Key)(own b:Int)(put:Bool):tailB is put q own b [] =if put=true then []else [⟨own,b⟩]:=by
 cases is<;>cases put<;>rfl
theorem filB_skip{is:Bool}{q:Key}{t:S61}{S:List S61}(h:is=true/\(t.f0=q.1∨t.f0=q.2.1)):filB is q (t::S)=filB is q S:=by
 unfold filB;rw[if_pos h.1,if_pos h.1];unfold dropP;rw[List.filter_cons_of_neg];rcases h.2 with e|e<;>simp[e]
theorem filB_keep{is:Bool}{q:Key}{t:S61}{S:List S61}(h: ¬(is=true/\(t.f0=q.1∨t.f0=q.2.1))):filB is q (t::S)=t::filB is q S:=by
 unfold filB
 cases is
 ·rfl
 ·rw[if_pos rfl,if_pos rfl];unfold dropP;rw[List.filter_cons_of_pos];have h2: ¬(t.f0=q.1∨t.f0=q.2.1):=fun e=>h ⟨rfl,e⟩;simp only[Bool.and_eq_true,decide_eq_true_eq];exact⟨fun e=>h2 (.inl e),fun e=>h2 (.inr e)⟩
section
variable {ins outs J:List Int} {L:List (List S61)} {q:Key} {c:Int} {a own:Int}
abbrev runR2(ins outs J:List Int)(L:List (List S61))(q:Key)(c a own:Int)(n:Nat)(is:Bool)(acc:List S61)(put:Bool)(i:Nat)(Acc:List (List S61))(k:Nat):=recoupref22_Once.l2 k a own (n:Int) is acc put (i:Int) ins L outs q.1 q.2.1 q.2.2 c J Acc
abbrev runR1(ins outs J:List Int)(L:List (List S61))(q:Key)(c a own:Int)(n:Nat)(Acc:List (List S61))(k:Nat):=recoupref22_Once.l1 k a own (n:Int) ins L outs q.1 q.2.1 q.2.2 c J Acc
theorem rf_l2{n:Nat}(hn:n<L.length)(hLl:L.length<=10000){l:List S61}(hl:rd_L5 L (n:Int)=l)(hno:nodeOk l){is:Bool}{Acc:List (List S61)}(hA:Acc.length<=20000){X:List Int×List (List S61)×List Int×Bool×Int} : ∀(S P:List S61) (acc:List S61) (put:Bool),l=P++S->acc.length+2*S.length<=5000->(is=false->put=true)->
 Ends (runR1 ins outs J L q c a own (n+1) (Acc++ [acc++tailB is put q own (byF l q.1) S])) X->Ends (runR2 ins outs J L q c a own n is acc put P.length Acc) X
 | [],P,acc,put,e,hacc,hput,hX=>by
  have hPl:P.length=l.length:=by rw[e];simp
  have hll:=hno.len;rw[tailB_nil]at hX
  refine Ends.succ (fun k=>by unfold runR2;rw[recoupref22_Once.l2]) ?_;refine Ends.pos zaa ?_;refine Ends.pos zaa ?_;rw[hl];refine Ends.neg zaa ?_
  cases put
  ·refine Ends.neg zab ?_;refine Ends.bind (by_ends zaa q.1) ?_;refine Ends.pos (by simp at hacc;omega) ?_;refine Ends.pos zaa ?_;rw[step64 zaa];exact hX
  ·refine Ends.pos rfl ?_;refine Ends.pos zaa ?_;rw[step64 zaa];rw[if_pos rfl,List.append_nil]at hX
   exact hX
 |t::S,P,acc,put,e,hacc,hput,hX=>by
  have hPl:P.length<l.length:=by rw[e];simp
  have hll:=hno.len;have ht:rd_T61 l (P.length:Int)=t:=by rw[e];exact at_mid P S t
  have hm:t∈l:=by rw[e];simp
  have hlo:=hno.lo t hm;have hhi:=hno.hi t hm;have e2:l=(P++ [t])++S:=by rw[e];simp
  have ep:P.length+1=(P++ [t]).length:=by simp
  have hacc':acc.length+2*(S.length+1)<=5000:=by simpa using hacc
  have D: ∀skip:Bool,(skip=true↔(is=true/\(t.f0=q.1∨t.f0=q.2.1)))->Ends (fun k=>recoupref22_Once.j4 k a own (n:Int) is acc put (P.length:Int) skip ins L outs q.1 q.2.1 q.2.2 c J Acc t.f0 t.f1) X:=by
   intro skip hskip;refine Ends.succ (fun k=>by rw[recoupref22_Once.j4]) ?_;rw[step64 (by omega:P.length<4611686018427387904),hl,ep]
   cases skip
   ·refine Ends.neg zab ?_;have hk:=filB_keep (S:=S) (fun h=>absurd (hskip.2 h) zab: ¬(is=true/\(t.f0=q.1∨t.f0=q.2.1)));by_cases hg:t.f0>=own
    ·have hs:shT own t=⟨t.f0+1,t.f1⟩:=by unfold shT sh1;rw[if_pos hg]
     refine Ends.pos hg ?_;rw[w64 zaa zaa]
     cases put
     ·refine Ends.neg zab ?_;refine Ends.pos zaa ?_;refine Ends.pos zaa ?_;refine Ends.pos zaa ?_;refine Ends.bind (by_ends zaa q.1) ?_;refine Ends.pos zaa ?_;refine Ends.bind1 rfl ?_;refine Ends.pos zaf ?_;refine rf_l2 hn hLl hl hno hA S (P++ [t]) _ true e2 zaf (fun _=>rfl) ?_;have et:tailB is false q own (byF l q.1) (t::S)=⟨own,byF l q.1⟩::⟨t.f0+1,t.f1⟩::tailB is true q own (byF l q.1) S:=by
       unfold tailB;rw[hk,if_neg zab,if_pos rfl,List.map_cons,hs]
       conv=>lhs;unfold insT
       rw[if_pos (show own<t.f0+1 by omega)]
      rw[et]at hX
      simpa using hX
     ·refine Ends.pos rfl ?_;refine Ends.pos zaa ?_;refine rf_l2 hn hLl hl hno hA S (P++ [t]) _ true e2 zaf (fun _=>rfl) ?_;have et:tailB is true q own (byF l q.1) (t::S)=⟨t.f0+1,t.f1⟩::tailB is true q own (byF l q.1) S:=by
       unfold tailB;rw[hk,if_pos rfl,if_pos rfl,List.map_cons,hs]
      rw[et]at hX
      simpa using hX
    ·have hs:shT own t=t:=by unfold shT sh1;rw[if_neg hg]
     refine Ends.neg hg ?_
     cases put
     ·refine Ends.neg zab ?_;refine Ends.neg zaa ?_;refine Ends.pos zaa ?_;refine rf_l2 hn hLl hl hno hA S (P++ [t]) _ false e2 zaf hput ?_;have et:tailB is false q own (byF l q.1) (t::S)=t::tailB is false q own (byF l q.1) S:=by
       unfold tailB;rw[hk,if_neg zab,if_neg zab,List.map_cons,hs]
       conv=>lhs;unfold insT
       rw[if_neg (show¬own<t.f0 by omega)]
      rw[et]at hX
      simpa using hX
     ·refine Ends.pos rfl ?_;refine Ends.pos zaa ?_;refine rf_l2 hn hLl hl hno hA S (P++ [t]) _ true e2 zaf (fun _=>rfl) ?_;have et:tailB is true q own (byF l q.1) (t::S)=t::tailB is true q own (byF l q.1) S:=by
       unfold tailB;rw[hk,if_pos rfl,if_pos rfl,List.map_cons,hs]
      rw[et]at hX
      simpa using hX
   ·refine Ends.pos rfl ?_;refine rf_l2 hn hLl hl hno hA S (P++ [t]) acc put e2 zaa hput ?_;have et:tailB is put q own (byF l q.1) (t::S)=tailB is put q own (byF l q.1) S:=by
     unfold tailB;rw[filB_skip (hskip.1 rfl)]
    rw[et]at hX
    exact hX
  refine Ends.succ (fun k=>by unfold runR2;rw[recoupref22_Once.l2]) ?_;refine Ends.pos zaa ?_;refine Ends.pos zaa ?_;rw[hl,ht];refine Ends.pos zaa ?_;refine Ends.pos zaa ?_
  cases is
  ·refine Ends.neg zab ?_;exact D false zac
  ·refine Ends.pos rfl ?_;by_cases h1:t.f0=q.1
   ·refine Ends.pos h1 ?_;exact D true (by simp[h1])
   ·refine Ends.neg h1 ?_;exact D _ (by simp[h1])
theorem rf_node{n:Nat}(hn:n<L.length)(hLl:L.length<=10000){l:List S61}(hl:rd_L5 L (n:Int)=l)(hno:nodeOk l)(hr:0<=q.2.2/\q.2.2<256){Acc:List (List S61)}(hA:Acc.length<=20000){X:List Int×List (List S61)×List Int×Bool×Int}
 (hX:Ends (runR1 ins outs J L q c a own (n+1) (Acc++ [nodeT own q l])) X):Ends (fun k=>recoupref22_Once.j2 k a own (n:Int) ins L outs q.1 q.2.1 q.2.2 c J Acc) X:=by
 refine Ends.succ (fun k=>by rw[recoupref22_Once.j2]) ?_;refine Ends.pos zaa ?_;refine Ends.pos zaa ?_;rw[hl];refine Ends.bind (in_ends hno.ok q hr) ?_;have hll:=hno.len;refine rf_l2 (ins:=ins) (outs:=outs) (J:=J) (c:=c) (a:=a) (own:=own) hn hLl hl hno hA l [] [] (!inB q l) rfl zaf (fun h=>by rw[h];rfl) ?_;have e:tailB (inB q l) (!inB q l) q own (byF l q.1) l=nodeT own q l:=by
  unfold tailB nodeT filB
  cases inB q l<;>rfl
 rw[e];exact hX
theorem rf_l3{N:List (List S61)} : ∀(B A:List Int),(A++B).length<=17592186043904->(∀v∈B,v<4611686018427387904/\ -4611686018427387904<v)-> ∀A':List Int,A'.length=A.length->Ends (fun k=>recoupref22_Once.l3 k own (A.length:Int) ins L (A++B) J N A') (J,N,A'++B.map (sh1 own),true,0)
 | [],A,_,_,A',_=>by
  refine Ends.succ (fun k=>by rw[recoupref22_Once.l3]) (Ends.neg zac (Ends.const ?_));simp
 |v::B,A,hl,hb,A',hA'=>by
  have hA:A.length<(A++v::B).length:=by simp
  have hv:=hb v List.mem_cons_self;have hr:rd (A++v::B) (A.length:Int)=v:=by rw[rd_nat];exact mid_get A B v _
  have e:A++v::B=(A++ [v])++B:=by simp
  have ea:A.length+1=(A++ [v]).length:=by simp
  refine Ends.succ (fun k=>by rw[recoupref22_Once.l3]) ?_;refine Ends.pos zaa ?_;refine Ends.pos zaa ?_;rw[hr,step64 zaa,w64 zaa zaa];have ih:=fun A'' (h:A''.length=(A++ [v]).length)=>rf_l3 (N:=N) B (A++ [v]) (by rw[<-e];exact hl) (fun x hx=>hb x (List.mem_cons_of_mem _ hx)) A'' h;by_cases h:v>=own
  ·refine Ends.pos h ?_;refine Ends.pos zaa ?_;rw[e,ea];refine Ends.eq (ih (A'++ [v+1]) (by simp[hA'])) ?_;simp[sh1,h]
  ·refine Ends.neg h ?_;refine Ends.pos zaa ?_;rw[e,ea];refine Ends.eq (ih (A'++ [v]) (by simp[hA'])) ?_;simp[sh1,h]
def nodesR(own:Int)(q:Key)(a:Nat):Nat->List (List S61)->List (List S61)
 |_,[]=> []
 |n,l::B=>(if n=a then [pairT q]else [])++nodeT own q l::nodesR own q a (n+1) B
theorem rf_l1{a:Nat}(hLl:L.length<=10000)(hr:0<=q.2.2/\q.2.2<256)(hout:outs.length<=17592186043904)(hov: ∀v∈outs,v<4611686018427387904/\ -4611686018427387904<v): ∀(B A Acc:List (List S61)),L=A++B->(∀l∈B,nodeOk l)->Acc.length+2*B.length<=20000->
 Ends (runR1 ins outs J L q c (a:Int) own A.length Acc) (J,Acc++nodesR own q a A.length B,outs.map (sh1 own),true,0)
 | [],A,Acc,e,_,_=>by
  have hAl:A.length=L.length:=by rw[e];simp
  refine Ends.succ (fun k=>by unfold runR1;rw[recoupref22_Once.l1]) ?_;refine Ends.neg zaa ?_;have:=rf_l3 (ins:=ins) (L:=L) (J:=J) (own:=own) (N:=Acc) outs [] (by simpa using hout) hov [] rfl;simpa[nodesR]using this
 |l::B,A,Acc,e,hB,hlen=>by
  have hAl:A.length<L.length:=by rw[e];simp
  have hrd:rd_L5 L (A.length:Int)=l:=by
   rw[e];unfold rd_L5;rw[Int.toNat_natCast];exact mid_get A B l _
  have ea:A.length+1=(A++ [l]).length:=by simp
  have hlen':Acc.length+2*(B.length+1)<=20000:=by simpa using hlen
  have e2:L=(A++ [l])++B:=by rw[e];simp
  refine Ends.succ (fun k=>by unfold runR1;rw[recoupref22_Once.l1]) ?_;refine Ends.pos zaa ?_;by_cases h:A.length=a
  ·refine Ends.pos zaa ?_;refine Ends.pos zaa ?_;refine rf_node hAl hLl hrd (hB l List.mem_cons_self) hr zaf ?_;have ih:=rf_l1 (a:=a) hLl hr hout hov B (A++ [l]) (Acc++ [pairT q]++ [nodeT own q l]) e2 (fun x hx=>hB x (List.mem_cons_of_mem _ hx)) zaf;rw[ea];refine Ends.eq ih ?_;rw[<-ea]
   conv=>rhs;unfold nodesR
   rw[if_pos h];simp
  ·refine Ends.neg zaa ?_;refine rf_node hAl hLl hrd (hB l List.mem_cons_self) hr zaa ?_;have ih:=rf_l1 (a:=a) hLl hr hout hov B (A++ [l]) (Acc++ [nodeT own q l]) e2 (fun x hx=>hB x (List.mem_cons_of_mem _ hx)) zaf;rw[ea];refine Ends.eq ih ?_;rw[<-ea]
   conv=>rhs;unfold nodesR
   rw[if_neg h];simp
theorem rf_l0(hLl:L.length<=10000)(hi:ins.length<=17592186043904)(hr:0<=q.2.2/\q.2.2<256)(hok: ∀l∈L,nodeOk l){X:List Int×List (List S61)×List Int×Bool×Int}{A0:List (List S61)}{l:List S61}{R0:List (List S61)}(hLe:L=A0++l::R0)(hA: ∀x∈A0,inB q x=false)(hin:inB q l=true)
 (hX:Ends (runR1 ins outs ins L q c (A0.length:Int) ((ins.length:Int)+(A0.length:Int)) 0 []) X): ∀(B A:List (List S61)),A0=A++B->Ends (fun k=>recoupref22_Once.l0 k (A.length:Int) ins L outs q.1 q.2.1 q.2.2 c) X
 | [],A,e=>by
  rw[List.append_nil]at e
  subst e;have hAl:A0.length<L.length:=by rw[hLe];simp
  have hrd:rd_L5 L (A0.length:Int)=l:=by
   rw[hLe];unfold rd_L5;rw[Int.toNat_natCast];exact mid_get A0 R0 l _
  refine Ends.succ (fun k=>by rw[recoupref22_Once.l0]) ?_;refine Ends.pos zaa ?_;refine Ends.pos zaa ?_;rw[hrd];refine Ends.bind (in_ends (hok l zbf).ok q hr) ?_;rw[hin];refine Ends.pos rfl ?_;refine Ends.bind1 rfl ?_;refine Ends.pos zaf ?_;rw[w64 zaa zaa,List.nil_append];exact hX
 |b::B,A,e=>by
  have hAl:A.length<L.length:=by rw[hLe,e];simp
  have hrd:rd_L5 L (A.length:Int)=b:=by
   rw[hLe,e];unfold rd_L5;rw[Int.toNat_natCast,List.append_assoc,List.cons_append];exact mid_get A _ b _
  have hm:b∈A0:=by rw[e];simp
  have ea:A.length+1=(A++ [b]).length:=by simp
  refine Ends.succ (fun k=>by rw[recoupref22_Once.l0]) ?_;refine Ends.pos zaa ?_;refine Ends.pos zaa ?_;rw[hrd];refine Ends.bind (in_ends (hok b (by rw[hLe];simp[hm])).ok q hr) ?_;rw[hA b hm];refine Ends.neg zab ?_;rw[step64 zaa,ea];exact rf_l0 hLl hi hr hok hLe hA hin hX B (A++ [b]) (by rw[e];simp)
end
theorem nodeT_id{own:Int}{q:Key}{l:List S61}(h:inB q l=false)(hb: ∀t∈l,t.f0<own):nodeT own q l=l:=by
 unfold nodeT;rw[h,if_neg zab];have: ∀t∈l,shT own t=t:=fun t ht=>by
  have:=hb t ht;unfold shT sh1;rw[if_neg zaa]
 rw[List.map_congr_left this];simp
theorem nodesR_behind(own:Int)(q:Key)(a:Nat): ∀(B:List (List S61)) (n:Nat),a<n->nodesR own q a n B=B.map (nodeT own q)
 | [],_,_=>rfl
 |l::B,n,h=>by
  unfold nodesR;rw[if_neg zaa,nodesR_behind own q a B (n+1) zaa];rfl
theorem nodesR_eq{own:Int}{q:Key}{l:List S61}{R0:List (List S61)} : ∀(A:List (List S61)) (n a:Nat),a=n+A.length->(∀x∈A,nodeT own q x=x)->nodesR own q a n (A++l::R0)=A++pairT q::(l::R0).map (nodeT own q)
 | [],n,a,h,_=>by
  simp only[List.length_nil,Nat.add_zero]at h;subst h;rw[List.nil_append];unfold nodesR;rw[if_pos rfl,nodesR_behind own q a R0 (a+1) zaa];rfl
 |x::A,n,a,h,hx=>by
  rw[List.cons_append];unfold nodesR;rw[List.length_cons]at h
  rw[if_neg zaa,hx x List.mem_cons_self,nodesR_eq A (n+1) a zaa (fun y hy=>hx y (List.mem_cons_of_mem _ hy))];rfl
def aheadL(q:Key)(L:List (List S61)):List (List S61):=L.takeWhile fun l=> !inB q l
def behindL(q:Key)(L:List (List S61)):List (List S61):=L.dropWhile fun l=> !inB q l
def ownV(ins:List Int)(q:Key)(L:List (List S61)):Int:=(ins.length:Int)+((aheadL q L).length:Int)
def takL(ins:List Int)(q:Key)(L:List (List S61)):List (List S61):=aheadL q L++pairT q::(behindL q L).map (nodeT (ownV ins q L) q)
def takO(ins:List Int)(q:Key)(L:List (List S61))(outs:List Int):List Int:=outs.map (sh1 (ownV ins q L))
theorem ahead_behind(q:Key)(L:List (List S61)):L=aheadL q L++behindL q L:=List.takeWhile_append_dropWhile.symm
theorem ahead_not{q:Key} : ∀ {L:List (List S61)},∀x∈aheadL q L,inB q x=false
 | [],x,h=>absurd h (by simp[aheadL])
 |l::L,x,h=>by
  unfold aheadL at h;rw[List.takeWhile_cons]at h
  cases e:inB q l
  ·rw[e]at h
   simp only[Bool.not_false,if_true]at h;rcases List.mem_cons.1 h with rfl|h
   ·exact e
   ·exact ahead_not x h
  ·rw[e]at h
   simp at h
theorem behind_cons{q:Key} : ∀ {L:List (List S61)},(∃x∈L,inB q x=true)-> ∃l B,behindL q L=l::B/\inB q l=true
 | [],h=>by obtain⟨x,hx,_⟩:=h;exact absurd hx zac
 |l::L,h=>by
  unfold behindL;rw[List.dropWhile_cons]
  cases e:inB q l
  ·obtain⟨x,hx,hin⟩:=h;have hx':x∈L:=by
    rcases List.mem_cons.1 hx with rfl|hx
    ·rw[e]at hin;cases hin
    ·exact hx
   obtain⟨l',B,h1,h2⟩:=behind_cons ⟨x,hx',hin⟩;exact⟨l',B,by simpa[behindL]using h1,h2⟩
  ·exact⟨l,L,by simp,e⟩
theorem keysN_mem{q:Key} : ∀ {l:List S61},(l.Pairwise fun a b=>a.f0<b.f0)->q∈keysN l->q.1<q.2.1/\0<=q.2.2/\q.2.2<256
 | [],_,h=>absurd h (by simp[keysN])
 |t::r,hp,h=>by
  unfold keysN at h;obtain⟨h1,h2⟩:=List.pairwise_cons.1 hp;rcases List.mem_append.1 h with h|h
  ·unfold pairsF at h;obtain⟨s,hs,rfl⟩:=List.mem_map.1 h;exact⟨h1 s hs,(mulB_some (a:=s.f1) (invAt_range t.f1)).2⟩
  ·exact keysN_mem h2 h
theorem keysL_mem{q:Key}{L:List (List S61)}(hN: ∀l∈L,okN l)(h:q∈keysL L):q.1<q.2.1/\0<=q.2.2/\q.2.2<256:=by
 unfold keysL at h;obtain⟨l,hl,hq⟩:=List.mem_flatMap.1 h;exact keysN_mem (hN l hl).up hq
theorem terms_hi{own:Int} : ∀ {l:List S61} {last:Int},termsOk own last l=true-> ∀t∈l,last<t.f0/\t.f0<own
 | [],_,_,t,h=>absurd h zac
 |t::r,last,h,x,hx=>by
  unfold termsOk at h;simp only[Bool.and_eq_true,decide_eq_true_eq]at h;obtain⟨⟨⟨h1,h2⟩,_⟩,h4⟩:=h;rcases List.mem_cons.1 hx with rfl|hx
  ·exact⟨h1,h2⟩
  ·have:=terms_hi h4 x hx;exact⟨by omega,this.2⟩
theorem nodes_hi: ∀ {L:List (List S61)} {n:Int},nodesOk n L=true-> ∀l∈L,∀t∈l, -1<t.f0/\t.f0<n+(L.length:Int)
 | [],_,_,l,h,_,_=>absurd h zac
 |l::L,n,h,x,hx,t,ht=>by
  unfold nodesOk at h;rw[Bool.and_eq_true]at h
  rw[List.length_cons];rcases List.mem_cons.1 hx with rfl|hx
  ·have:=terms_hi h.1 t ht;omega
  ·have:=nodes_hi h.2 x hx t ht;omega
theorem nodes_split: ∀ {A B:List (List S61)} {n:Int},nodesOk n (A++B)=true->nodesOk n A=true/\nodesOk (n+(A.length:Int)) B=true
 | [],B,n,h=>⟨rfl,by simpa using h⟩
 |l::A,B,n,h=>by
  rw[List.cons_append]at h
  unfold nodesOk at h;rw[Bool.and_eq_true]at h
  obtain⟨h1,h2⟩:=nodes_split h.2;refine⟨by unfold nodesOk;rw[h.1,h1];rfl,?_⟩;rw[List.length_cons];rw[show n+((A.length+1:Nat):Int)=n+1+(A.length:Int)from by omega];exact h2
theorem len_sum{L:List (List S61)} : ∀ {l:List S61},l∈L->l.length<=sumL L:=by
 induction L with
 |nil=>intro l h;exact absurd h zac
 |cons x L ih=>
  intro l h;unfold sumL;rcases List.mem_cons.1 h with rfl|h
  ·omega
  ·have:=ih h;omega
structure Small (ins:List Int) (L:List (List S61)) (outs:List Int):Prop where
 may:mayB ins L outs=true
 ins:ins.length<=17592186043904
 len:L.length<4096
 sum:sumL L<=512
 wf: ∀l∈L,∀t∈l,okT t=true
theorem Small.parts{ins outs:List Int}{L:List (List S61)}(h:Small ins L outs):nodesOk ins.length L=true/\outs.length<=64/\(∀v∈outs,0<=v/\v<(ins.length:Int)+(L.length:Int))/\insOk (-1) ins=true:=by
 have h1:=h.may;unfold mayB sizeOk outsOk at h1;simp only[Bool.and_eq_true,decide_eq_true_eq,List.all_eq_true]at h1;exact⟨h1.2.2.1,h1.2.1.2,h1.2.2.2,h1.1⟩
theorem Small.nodes{ins outs:List Int}{L:List (List S61)}(h:Small ins L outs): ∀l∈L,nodeOk l:=by
 have hp:=h.parts.1;have hlen: ∀l∈L,l.length<=512:=fun l hl=>Nat.le_trans (len_sum hl) h.sum;have hN:=nodes_ok hp (fun l hl=>by have:=hlen l hl;omega) (fun l hl t ht=>(okT_wf (h.wf l hl t ht)).2);intro l hl;have hh:=nodes_hi hp l hl;have h1:=h.ins;have h2:=h.len;exact⟨hN l hl,by have:=hlen l hl;omega,List.all_eq_true.2 (h.wf l hl),fun t ht=>by have:=(hh t ht).1;omega,fun t ht=>by have:=(hh t ht).2;omega⟩
theorem take_both{ins outs:List Int}{L:List (List S61)}(h:Small ins L outs){q:Key}(hq:q.1<q.2.1)(hr:0<=q.2.2/\q.2.2<256)(hin: ∃x∈L,inB q x=true)(c:Int):
 Ends (fun k=>share_taken.f k ins L outs q.1 q.2.1 q.2.2 c 0) (ins,takL ins q L,takO ins q L outs)/\Ends (fun k=>recoupref22_Once.l0 k 0 ins L outs q.1 q.2.1 q.2.2 c) (ins,takL ins q L,takO ins q L outs,true,0):=by
 obtain⟨l,B,hb,hl⟩:=behind_cons hin;have hLe:=ahead_behind q L;rw[hb]at hLe
 obtain⟨hnd,hol,hov,_⟩:=h.parts;have hok:=h.nodes;have hLl:L.length<=10000:=by have:=h.len;omega
 have hil:=h.ins;have D: ∀v∈outs,v<4611686018427387904/\ -4611686018427387904<v:=fun v hv=>by
  have:=hov v hv;have:=h.len;omega
 have hA:=ahead_not (q:=q) (L:=L);have htl:takL ins q L=aheadL q L++pairT q::(l::B).map (nodeT (ownV ins q L) q):=by unfold takL;rw[hb]
 constructor
 ·have:=taken_ends (ins:=ins) (outs:=outs) (L:=L) (q:=q) (c:=c) hq hr hLl hil zaa D hLe hok hA hl;rw[htl];exact this
 ·refine rf_l0 (ins:=ins) (outs:=outs) (L:=L) (q:=q) (c:=c) hLl hil hr hok hLe hA hl ?_ (aheadL q L) [] rfl;have hnid: ∀x∈aheadL q L,nodeT (ownV ins q L) q x=x:=fun x hx=>by
   refine nodeT_id (hA x hx) fun t ht=>?_;rw[hLe]at hnd
   exact(nodes_hi (nodes_split hnd).1 x hx t ht).2
  have:=rf_l1 (ins:=ins) (outs:=outs) (J:=ins) (L:=L) (q:=q) (c:=c) (own:=ownV ins q L) (a:=(aheadL q L).length) hLl hr zaa D L [] [] rfl hok (by have:=h.len;simp;omega);refine Ends.eq this ?_;have e:=nodesR_eq (own:=ownV ins q L) (q:=q) (l:=l) (R0:=B) (aheadL q L) 0 (aheadL q L).length zaa hnid;rw[<-hLe]at e
  rw[htl];show(ins,[]++nodesR (ownV ins q L) q (aheadL q L).length 0 L,_,true,0)=_;rw[List.nil_append,e];rfl
def okV(ins:List Int)(L:List (List S61))(outs:List Int):Bool:=(bestV ins L outs).2.2.2.2.1
def keyV(L:List (List S61)):Key:=(bestQ (keysL L)).1
theorem okV_small{ins outs:List Int}{L:List (List S61)}(hi:ins.length<=17592186043904)(hl: ∀l∈L,l.length<=140737488355328)(hw: ∀l∈L,∀t∈l,okT t=true)(h:okV ins L outs=true):
 Small ins L outs/\bestV ins L outs=((keyV L).1,(keyV L).2.1,(keyV L).2.2,(bestQ (keysL L)).2,true,0)/\(keyV L).1<(keyV L).2.1/\(0<=(keyV L).2.2/\(keyV L).2.2<256)/\(bestQ (keysL L)).2=(L.countP (inB (keyV L)):Int)/\(bestQ (keysL L)).2>1:=by
 unfold okV at h
 cases e:mayB ins L outs
 ·unfold bestV at h;rw[e]at h
  cases h
 ·have hv:bestV ins L outs=if totT L L.length>512∨4096<=L.length then(0,0,0,0,false,0)else ansB (bestQ (keysL L)):=by unfold bestV;rw[e,if_pos rfl]
  rw[hv]at h⊢
  by_cases h1:totT L L.length>512∨4096<=L.length
  ·rw[if_pos h1]at h
   cases h
  ·rw[if_neg h1]at h⊢
   have hlt:L.length<4096:=by omega
   have hs:=totT_eq hlt hl L.length (Nat.le_refl _);rw[List.take_length]at hs
   have hsm:Small ins L outs:=⟨e,hi,hlt,by omega,hw⟩
   have hN: ∀l∈L,okN l:=fun l hx=>(hsm.nodes l hx).ok;unfold ansB at h⊢;by_cases h2:(bestQ (keysL L)).2>1
   ·rw[if_pos h2];rcases bestQ_is (keysL L)with⟨h3,_⟩|⟨h3,h4,_,_⟩
    ·rw[h3]at h2
     exact absurd h2 zab
    ·obtain⟨g1,g2⟩:=keysL_mem hN h3;refine⟨hsm,rfl,g1,g2,?_,h2⟩;rw[h4];unfold cntQ;rw[keysL_count _ g1 g2 hN];rfl
   ·rw[if_neg h2]at h
    cases h
def onceV(ins:List Int)(L:List (List S61))(outs:List Int):List Int×List (List S61)×List Int×Bool×Int:=
 if mayB ins L outs=true then(if okV ins L outs=true then(ins,takL ins (keyV L) L,takO ins (keyV L) L outs,true,0)else(ins,L,outs,false,0))else([],[],[],false,2)
theorem once_both{ins outs:List Int}{L:List (List S61)}(hi:ins.length<=17592186043904)(ho:outs.length<=17592186043904)(hL:L.length<=5864062014634)(hl: ∀l∈L,l.length<=8796093021952)(hw: ∀l∈L,∀t∈l,okT t=true):
 Ends (fun k=>share_Once.f k ins L outs) (onceV ins L outs)/\Ends (fun k=>recoupref22_Once.f k ins L outs) (onceV ins L outs):=by
 obtain⟨b1,b2⟩:=best_both (ins:=ins) (outs:=outs) (L:=L) zaa zaa zaa (fun l hx=>by have:=hl l hx;omega) hw;unfold onceV
 cases e:mayB ins L outs
 ·have ev:bestV ins L outs=(0,0,0,0,false,2):=by unfold bestV;rw[e];rfl
  rw[ev]at b1 b2
  rw[if_neg zab];exact⟨Ends.bind b1 (Ends.neg zab (Ends.const rfl)),Ends.bind b2 (Ends.neg zab (Ends.const rfl))⟩
 ·rw[if_pos rfl]
  cases ek:okV ins L outs
  ·rw[if_neg zab];have ev:(bestV ins L outs).2.2.2.2.1=false/\(bestV ins L outs).2.2.2.2.2=0:=by
    refine⟨ek,?_⟩;unfold bestV;rw[e,if_pos rfl]
    split
    ·rfl
    ·unfold ansB
     split<;>rfl
   refine⟨Ends.bind b1 ?_,Ends.bind b2 ?_⟩
   ·refine Ends.pos ev.2 ?_;rw[ev.1];refine Ends.neg zab ?_;exact Ends.bind (copied_ends hi ho hL hl) (Ends.const rfl)
   ·refine Ends.pos ev.2 ?_;rw[ev.1];refine Ends.neg zab ?_;exact Ends.bind (copy_ends hi ho hL hl) (Ends.const rfl)
  ·rw[if_pos rfl];obtain⟨hsm,hb,hq,hr,hc,hg⟩:=okV_small hi (fun l hx=>by have:=hl l hx;omega) hw ek;have hin: ∃x∈L,inB (keyV L) x=true:=List.countP_pos_iff.1 zaa;obtain⟨t1,t2⟩:=take_both hsm hq hr hin (bestQ (keysL L)).2;rw[hb]at b1 b2
   refine⟨Ends.bind b1 ?_,Ends.bind b2 ?_⟩
   ·refine Ends.pos rfl ?_;refine Ends.pos rfl ?_;exact Ends.bind t1 (Ends.const rfl)
   ·refine Ends.pos rfl ?_;refine Ends.pos rfl ?_;exact t2
end Go.Proofs.Ytnfemjnajfdepaa.M
