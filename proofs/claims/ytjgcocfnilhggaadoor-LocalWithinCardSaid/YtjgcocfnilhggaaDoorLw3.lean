/- Texts of the proof of LocalWithin: what each Go function answers, and what the answers mean; no condition beyond each theorem's own. -/
import Derived.Shelf.Abstract
import Derived.RangeFuncNested
import Derived.RangeFuncBound
import Derived.RangeFuncCalls
import Derived.RangeFuncLeaves
import Derived.RangeFuncWrites
import Derived.RangeFuncIn
import Derived.Shelf.RegionOpen
import Derived.LoopNIn
import Derived.LoopIn
import Derived.Test.YtjgcocfnilhggaaDoorLw2
set_option maxHeartbeats 16000000
set_option maxRecDepth 100000
set_option linter.unusedVariables false
set_option linter.unusedSimpArgs false
namespace Go.Proofs.YtjgcocfnilhggaaDoor.Q
open RowKit YtjgcocfnilhggaaDoorW.PrintWords YtjgcocfnilhggaaDoorW.PrintLast YtjgcocfnilhggaaDoorW.PrintMore
attribute [local go_sem] max2_int min2_int max_two min_two max_three min_three max_four min_four
def shape_rows_hangs.f(k:Nat)(I:Int)(J:Int)(L:List Int)(a1:Int)(a2:Int):Option (Bool):=(subset_List.f k a2).bind fun O=>((matrix_Pick.f I J L O).bind fun D=>(if D.2.2.2=0 then((shape_rows_row.f I J L a1).bind fun U=>((gauss_Combine.f k D.1 D.2.1 D.2.2.1 U).bind fun G=>(if G.2.2=0 then(some G.2.1)else(some false))))else(some false)))
def shape_rows_hangs.T1:Bool×List (List Nat×List Nat):=(true,[([],[]),([0],[0]),([],[]),([2],[2]),([1,3,3],[1,3]),([4],[4]),([5],[5]),([5],[5]),([],[]),([8,6,4,0,1,2,3,4,5,6,8],[6,8]),([7,9,0,1,2,3,4,5,6,7,8,9],[7])])
def shape_rows_hangs.B1:List Nat:= [0,1,0,4,15,31,63,63,0,383,1023]
theorem shape_rows_hangs.tab1:rtab .any (opsOf Tryd.f87 1)=shape_rows_hangs.T1:=by kernel_rfl
theorem shape_rows_hangs.bits1:waitsOk shape_rows_hangs.T1.2 shape_rows_hangs.B1=true:=by kernel_rfl
def shape_rows_hangs.T4:Bool×List (List Nat×List Nat):=(true,[([],[]),([],[]),([],[]),([1,2],[1,2]),([0,3,3],[0,3]),([4],[4]),([5],[5]),([5],[5]),([5],[5]),([6,4,0,1,2,3,4,5,6],[6]),([7,9,0,1,2,3,4,5,6,7,9],[7]),([8,10,0,1,2,3,4,5,6,7,8,9,10],[8])])
def shape_rows_hangs.B4:List Nat:= [0,0,0,6,15,31,63,63,63,127,767,2047]
theorem shape_rows_hangs.tab4:rtab .any (opsOf Tryd.f87 4)=shape_rows_hangs.T4:=by kernel_rfl
theorem shape_rows_hangs.bits4:waitsOk shape_rows_hangs.T4.2 shape_rows_hangs.B4=true:=by kernel_rfl
theorem shape_rows_hangs.calls(k:Nat)(Z:Int)(aa:Int)(ah:Option Addr)(ai:Nat)(Y:List Int)(a1:Int)(a2:Int)(r:Bool)(w:World)(bj:Kd.C (Kd.int .u8) w ah Y.length Y)(bi:Y.length<=ai)(h:shape_rows_hangs.f k Z aa Y a1 a2=some r)(hT:TabAt 0 Lib.deBruijn64tab w):
 Calls Tryd.prog 87 #[.agg #[.int .i64 Z,.int .i64 aa,.slice ah Y.length ai],.int .i64 a1,.int .u64 a2] w fun e w'=>e= .returned (.bool r)/\Below w.heap.size w w':=by
 have HT:=aK hT;clear hT;have dp:=Tryd.underlying99;have dn:=Tryd.underlying24;have ao:=aK bj;have an:=aK bi;clear bj bi;have HB:=aK (Below.refl w.heap.size w);have H:((subset_List.f k a2).bind fun ae=>((matrix_Pick.f Z aa Y ae).bind fun a5=>(if a5.2.2.2=0 then((shape_rows_row.f Z aa Y a1).bind fun az=>((gauss_Combine.f k a5.1 a5.2.1 a5.2.2.1 az).bind fun bh=>(if bh.2.2=0 then(some bh.2.1)else(some false))))else(some false))))=some r:=h;clear h;obtain⟨ae,A4,H⟩:=bindO H
 (try dsimp only at H)
 obtain⟨⟨ab,ac,af,al⟩,A5,H⟩:=bindO H
 (try dsimp only at H)
 by_cases c6:al=0
 ·rw[if_pos c6]at H
  have c6b0:(al==0)=true:=beq_iff_eq.mpr c6;have c6b1:(al !=0)=false:=bne_eq_false_iff_eq.mpr c6;clear c6;obtain⟨az,A7,H⟩:=bindO H
  (try dsimp only at H)
  obtain⟨⟨bw,bx,a3⟩,A8,H⟩:=bindO H
  (try dsimp only at H)
  by_cases c9:a3=0
  ·rw[if_pos c9]at H
   have c9b0:(a3==0)=true:=beq_iff_eq.mpr c9;have c9b1:(a3 !=0)=false:=bne_eq_false_iff_eq.mpr c9;clear c9;obtain rfl:=Option.some.inj H
   go_enter Tryd.func87,Tryd.ntmps87
   try go_wp2_with (first|((with_reducible refine gD 3 rfl ?_);refine bE 3 #[.int .i64 Z,.int .i64 aa,.slice ah Y.length ai] 99 ?_;intro X hg cx hbox hb;have D:=aK (hbox);have bg:=hbS HB hg;have bf:=hbS HB hg;replace HB:=hbB HB hb;clear hb hbox hg))
   replace D:=aK (blk_drew D.out);replace HB:=aK (below_drew1 HB.out);refine start_ (n:=11) (S:=fun w'=>w'.cell? ⟨X,0,none⟩=some (.int .i64 Z)/\w'.cell? ⟨X,1,none⟩=some (.int .i64 aa)/\w'.cell? ⟨X,2,none⟩=some (.slice ah Y.length ai)) (ds:= []) (.replicate 11 false) zb rfl rfl (z3c D) (fun hHeld=>?_);refine with_tabW shape_rows_hangs.tab1 shape_rows_hangs.bits1 (fun HT_ HW_=>?_);generalize cx.drew=dq at D HB hHeld⊢;refine pu 0 (some 12) (mB 11 1) HT_ ?_;refine pu 2 (some 14) (mB 11 5) HT_ ?_;refine tk3 1 (some 13) (mB 11 7) HT_ HW_ hHeld ?_;refine join_ (σ:=Value×Value×Nat) 2 (mB 11 511) (fun s_=> [(15,s_.1),(16,.tuple #[.agg #[.int .i64 ab,.int .i64 ac,s_.2.1],.int .i64 al]),(7,.pointer (some ⟨s_.2.2,0,none⟩)),(11,.tuple #[.agg #[.int .i64 ab,.int .i64 ac,s_.2.1],.int .i64 al]),(17,.agg #[.int .i64 ab,.int .i64 ac,s_.2.1]),(18,.int .i64 al)]) (fun s_ w'=>(w'.cell? ⟨X,0,none⟩=some (.int .i64 Z)/\w'.cell? ⟨X,1,none⟩=some (.int .i64 aa)/\w'.cell? ⟨X,2,none⟩=some (.slice ah Y.length ai))/\(Kd.R (Kd.int .i64) 3 w' w.heap.size (fun _=>True) s_.1 ae)/\(Kd.R (Kd.int .u8) 5 w' w.heap.size (fun _=>True) s_.2.1 af)/\(w'.heap[X]? =some (.cells #[.int .i64 Z,.int .i64 aa,.slice ah Y.length ai] 99 (0,0)))/\(w'.heap[s_.2.2]? =some (.cells #[.int .i64 0,.int .i64 0,.slice none 0 0] 24 (0,0)))/\(w.heap.size<=s_.2.2)/\(w.heap.size<=s_.2.2)/\(X≠s_.2.2)/\(s_.2.2≠X)/\(Below w.heap.size w w')) ?_ ?_;rotate_left
   ·intro hCont;refine two_ (i:=3) (j:=8) (Ni:=some 15) (Nj:=some 7) (mB 11 15) (mB 11 263) rfl rfl rfl rfl (two_of HT_.out zb) zc zc (fun K hK=>?_) (fun K hK=>?_)
    ·skip
     refine goes_ Tryd.func35 zb rfl #[.int .u64 a2] ze rfl rfl (by(try simp only[List.map_toArray,List.map_cons,List.map_nil]);first|done|rfl|(simp only[List.length_drop,List.length_take];rfl)) ?_;with_reducible refine(subset_List.calls k a2 ae _ A4.out (tab_below HT.out zf)).mono ?_
     rintro e cy ⟨ap,rfl,ag,hb⟩;refine⟨_,rfl,?_⟩;have L:=aK (Kd.R_lower ag (below_size (hbA HB.out)));replace D:=bkB D hb;replace HB:=hbB HB hb
     (try clear hb)
     (try clear aw)
     (try clear hk)
     (try clear hi)
     (try clear ag)
     obtain⟨bk,bn,bq⟩:=Kd.R_slice L.out
     (first|subst bq|(injection bq with f1_ f2_ f3_;have f4_:=f1_.symm;have f5_:=f3_.symm;clear f1_ f2_ f3_;subst f4_;subst f5_))
     refine hK.out _ _ (z3c D) (fun hHeld=>?_);clear hK K;refine znm (some 15) ?_;refine two_ (i:=4) (j:=8) (Ni:=some 16) (Nj:=some 7) (mB 11 31) (mB 11 271) rfl rfl rfl rfl (two_of HT_.out zb) zc zc (fun K hK=>?_) (fun K hK=>?_)
     ·skip
      refine goes_ Tryd.func34 zb rfl #[.agg #[.int .i64 Z,.int .i64 aa,.slice ah Y.length ai],.slice bk ae.length bn] ze rfl rfl (by(try simp only[List.map_toArray,List.map_cons,List.map_nil]);first|done|rfl|(simp only[List.length_drop,List.length_take];rfl)) ?_;with_reducible refine(matrix_Pick.calls Z aa _ _ Y _ _ ae ab ac af al _ ?side1 ?side2 ?side3 ?side4 A5.out).mono ?_
      (case side1=>exact kcB ao HB)
      (case side2=>exact an.out)
      (case side3=>exact kcA (Kd.R_reads' L.out).2.2)
      (case side4=>exact(Kd.R_reads' L.out).2.1)
      rintro e dr ⟨am,rfl,ag,hb⟩;refine⟨_,rfl,?_⟩;replace L:=kdB L hb;have U:=aK (Kd.R_lower ag (below_size (hbA HB.out)));replace D:=bkB D hb;replace HB:=hbB HB hb
      (try clear hb)
      (try clear aw)
      (try clear hk)
      (try clear hi)
      (try clear ag)
      refine hK.out _ _ (z3c D) (fun hHeld=>?_);clear hK K;refine znm (some 16) ?_;refine pu 5 (some 11) (mB 11 63) HT_ ?_;refine pu 6 (some 17) (mB 11 127) HT_ ?_;refine pu 7 (some 18) (mB 11 255) HT_ ?_;refine zoh 8 (some 7) (mB 11 511) HT_ fun K hK=>?_;refine box_step ?hg (N:=7) ?hd (cs:= #[.int .i64 0,.int .i64 0,.slice none 0 0]) (t:=24) ?hr ?_;(case hd=>rfl);(case hg=>rfl);(case hr=>first|(go_simp;done)|(go_simp;rfl))
      intro G hg ck hbox hb;replace L:=kdB L hb;replace U:=kdB U hb;have J:=aK (hbox);have ak:=hbS HB hg;have aj:=hbS HB hg;replace HB:=hbB HB hb;have I:=neL D hg;have O:=neG D hg;replace D:=bkB D hb;clear hb hbox hg;refine hK.out _ _ (z3c D) (fun hHeld=>?_);clear hK K;refine znm (some 7) ?_;exact norm_ zk (hCont (.slice bk ae.length bn,am,G) _ ⟨hHeld,(kdA L.out),(kdA U.out),(bkA D.out),(bkA J.out),ak.out,aj.out,I.out,O.out,(hbA HB.out)⟩)
     ·skip
      refine box_step ?hg (N:=7) ?hd (cs:= #[.int .i64 0,.int .i64 0,.slice none 0 0]) (t:=24) ?hr ?_;(case hd=>rfl);(case hg=>rfl);(case hr=>first|(go_simp;done)|(go_simp;rfl))
      intro G hg cz hbox hb;replace L:=kdB L hb;have J:=aK (hbox);have ak:=hbS HB hg;have aj:=hbS HB hg;replace HB:=hbB HB hb;have I:=neL D hg;have O:=neG D hg;replace D:=bkB D hb;clear hb hbox hg;obtain⟨a6,a9,bc⟩:=Kd.R_slice L.out
      (first|subst bc|(injection bc with f1_ f2_ f3_;have f4_:=f1_.symm;have f5_:=f3_.symm;clear f1_ f2_ f3_;subst f4_;subst f5_))
      refine hK.out _ _ (z3c D) (fun hHeld=>?_);clear hK K;refine znm (some 7) ?_;refine zoh 4 (some 16) (mB 11 287) HT_ fun K hK=>?_;refine goes_ Tryd.func34 zb rfl #[.agg #[.int .i64 Z,.int .i64 aa,.slice ah Y.length ai],.slice a6 ae.length a9] ze rfl rfl (by(try simp only[List.map_toArray,List.map_cons,List.map_nil]);first|done|rfl|(simp only[List.length_drop,List.length_take];rfl)) ?_;with_reducible refine(matrix_Pick.calls Z aa _ _ Y _ _ ae ab ac af al _ ?side1 ?side2 ?side3 ?side4 A5.out).mono ?_
      (case side1=>exact kcB ao HB)
      (case side2=>exact an.out)
      (case side3=>exact kcA (Kd.R_reads' L.out).2.2)
      (case side4=>exact(Kd.R_reads' L.out).2.1)
      rintro e ck ⟨am,rfl,ag,hb⟩;refine⟨_,rfl,?_⟩;replace L:=kdB L hb;have U:=aK (Kd.R_lower ag (below_size (hbA HB.out)));replace D:=bkB D hb;replace J:=bkB J hb;replace HB:=hbB HB hb
      (try clear hb)
      (try clear aw)
      (try clear hk)
      (try clear hi)
      (try clear ag)
      refine hK.out _ _ (z3c D) (fun hHeld=>?_);clear hK K;refine znm (some 16) ?_;refine pu 5 (some 11) (mB 11 319) HT_ ?_;refine pu 6 (some 17) (mB 11 383) HT_ ?_;refine pu 7 (some 18) (mB 11 511) HT_ ?_;exact norm_ zk (hCont (.slice a6 ae.length a9,am,G) _ ⟨hHeld,(kdA L.out),(kdA U.out),(bkA D.out),(bkA J.out),ak.out,aj.out,I.out,O.out,(hbA HB.out)⟩)
    ·skip
     refine box_step ?hg (N:=7) ?hd (cs:= #[.int .i64 0,.int .i64 0,.slice none 0 0]) (t:=24) ?hr ?_;(case hd=>rfl);(case hg=>rfl);(case hr=>first|(go_simp;done)|(go_simp;rfl))
     intro G hg cy hbox hb;have J:=aK (hbox);have ak:=hbS HB hg;have aj:=hbS HB hg;replace HB:=hbB HB hb;have I:=neL D hg;have O:=neG D hg;replace D:=bkB D hb;clear hb hbox hg;refine hK.out _ _ (z3c D) (fun hHeld=>?_);clear hK K;refine znm (some 7) ?_;refine zoh 3 (some 15) (mB 11 271) HT_ fun K hK=>?_;refine goes_ Tryd.func35 zb rfl #[.int .u64 a2] ze rfl rfl (by(try simp only[List.map_toArray,List.map_cons,List.map_nil]);first|done|rfl|(simp only[List.length_drop,List.length_take];rfl)) ?_;with_reducible refine(subset_List.calls k a2 ae _ A4.out (tab_below HT.out zf)).mono ?_
     rintro e cz ⟨ap,rfl,ag,hb⟩;refine⟨_,rfl,?_⟩;have L:=aK (Kd.R_lower ag (below_size (hbA HB.out)));replace D:=bkB D hb;replace J:=bkB J hb;replace HB:=hbB HB hb
     (try clear hb)
     (try clear aw)
     (try clear hk)
     (try clear hi)
     (try clear ag)
     obtain⟨a6,a9,bc⟩:=Kd.R_slice L.out
     (first|subst bc|(injection bc with f1_ f2_ f3_;have f4_:=f1_.symm;have f5_:=f3_.symm;clear f1_ f2_ f3_;subst f4_;subst f5_))
     refine hK.out _ _ (z3c D) (fun hHeld=>?_);clear hK K;refine znm (some 15) ?_;refine zoh 4 (some 16) (mB 11 287) HT_ fun K hK=>?_;refine goes_ Tryd.func34 zb rfl #[.agg #[.int .i64 Z,.int .i64 aa,.slice ah Y.length ai],.slice a6 ae.length a9] ze rfl rfl (by(try simp only[List.map_toArray,List.map_cons,List.map_nil]);first|done|rfl|(simp only[List.length_drop,List.length_take];rfl)) ?_;with_reducible refine(matrix_Pick.calls Z aa _ _ Y _ _ ae ab ac af al _ ?side1 ?side2 ?side3 ?side4 A5.out).mono ?_
     (case side1=>exact kcB ao HB)
     (case side2=>exact an.out)
     (case side3=>exact kcA (Kd.R_reads' L.out).2.2)
     (case side4=>exact(Kd.R_reads' L.out).2.1)
     rintro e ck ⟨am,rfl,ag,hb⟩;refine⟨_,rfl,?_⟩;replace L:=kdB L hb;have U:=aK (Kd.R_lower ag (below_size (hbA HB.out)));replace D:=bkB D hb;replace J:=bkB J hb;replace HB:=hbB HB hb
     (try clear hb)
     (try clear aw)
     (try clear hk)
     (try clear hi)
     (try clear ag)
     refine hK.out _ _ (z3c D) (fun hHeld=>?_);clear hK K;refine znm (some 16) ?_;refine pu 5 (some 11) (mB 11 319) HT_ ?_;refine pu 6 (some 17) (mB 11 383) HT_ ?_;refine pu 7 (some 18) (mB 11 511) HT_ ?_;exact norm_ zk (hCont (.slice a6 ae.length a9,am,G) _ ⟨hHeld,(kdA L.out),(kdA U.out),(bkA D.out),(bkA J.out),ak.out,aj.out,I.out,O.out,(hbA HB.out)⟩)
   rintro⟨ap,am,G⟩ ax ⟨hS_,h0_,h1_,h2_,h3_,h4_,h5_,h6_,h7_,h8_⟩;have n0_:Aside0 (Kd.R (Kd.int .i64) 3 ax w.heap.size (fun _=>True) ap ae):=⟨h0_⟩
   have n1_:Aside0 (Kd.R (Kd.int .u8) 5 ax w.heap.size (fun _=>True) am af):=⟨h1_⟩
   have n2_:Aside0 (ax.heap[X]? =some (.cells #[.int .i64 Z,.int .i64 aa,.slice ah Y.length ai] 99 (0,0))):=⟨h2_⟩
   have n3_:Aside0 (ax.heap[G]? =some (.cells #[.int .i64 0,.int .i64 0,.slice none 0 0] 24 (0,0))):=⟨h3_⟩
   have n4_:Aside0 (w.heap.size<=G):=⟨h4_⟩
   have n5_:Aside0 (w.heap.size<=G):=⟨h5_⟩
   have n6_:Aside0 (X≠G):=⟨h6_⟩
   have n7_:Aside0 (G≠X):=⟨h7_⟩
   have n8_:Aside0 (Below w.heap.size w ax):=⟨h8_⟩
   clear D;clear HB;clear h0_ h1_ h2_ h3_ h4_ h5_ h6_ h7_ h8_;have L:=n0_;have U:=n1_;have D:=n2_;have J:=n3_;have ak:=n4_;have aj:=n5_;have I:=n6_;have O:=n7_;have HB:=n8_;clear n0_ n1_ n2_ n3_ n4_ n5_ n6_ n7_ n8_;have hHeld:ax.cell? ⟨X,0,none⟩=some (.int .i64 Z)/\ax.cell? ⟨X,1,none⟩=some (.int .i64 aa)/\ax.cell? ⟨X,2,none⟩=some (.slice ah Y.length ai):=hS_;obtain⟨aq,au,br⟩:=Kd.R_slice U.out
   (first|subst br|(injection br with f1_ f2_ f3_;have f4_:=f1_.symm;have f5_:=f3_.symm;clear f1_ f2_ f3_;subst f4_;subst f5_))
   refine znq ?_;refine zoh 9 (none) (mB 11 1023) HT_ fun K hK=>?_;have de:ax.cell? ⟨G,0,none⟩=some (.int .i64 0):=(blk_cell J.out 0).trans rfl;have cn:=blk_frozen J.out 0;have b9:=I.out;have b0:=O.out;have df:ax.cell? ⟨G,1,none⟩=some (.int .i64 0):=(blk_cell J.out 1).trans rfl;have co:=blk_frozen J.out 1;have ca:=I.out;have b1:=O.out;have dg:ax.cell? ⟨G,2,none⟩=some (.slice none 0 0):=(blk_cell J.out 2).trans rfl;have cp:=blk_frozen J.out 2;have cb:=I.out;have b2:=O.out;refine zsk ?_;refine hK.out _ _ ⟨((cell_far (p:=⟨G,_,none⟩) I.out _).trans (((cell_far (p:=⟨G,_,none⟩) I.out _).trans (((cell_far (p:=⟨G,_,none⟩) I.out _).trans (hHeld.1)))))),((cell_far (p:=⟨G,_,none⟩) I.out _).trans (((cell_far (p:=⟨G,_,none⟩) I.out _).trans (((cell_far (p:=⟨G,_,none⟩) I.out _).trans (hHeld.2.1)))))),((cell_far (p:=⟨G,_,none⟩) I.out _).trans (((cell_far (p:=⟨G,_,none⟩) I.out _).trans (((cell_far (p:=⟨G,_,none⟩) I.out _).trans (hHeld.2.2))))))⟩ (fun hHeld=>?_);clear hK K;refine pu 10 (some 8) (mB 11 2047) HT_ ?_;refine done_ (done_of HT_.out zb) ?_
   try go_wp2
   have n0_:Aside0 (Kd.R (Kd.int .i64) 3 (((ax.setCell ⟨G,0,none⟩ (.int .i64 ab)).setCell ⟨G,1,none⟩ (.int .i64 ac)).setCell ⟨G,2,none⟩ (.slice aq af.length au)) w.heap.size (fun _=>True) ap ae):=⟨by(with_reducible repeat(first|apply Kd.R_alloc|apply Kd.R_drewN|apply Kd.R_drew));exact Kd.R_mono (Kd.R_far (p:=⟨G,2,none⟩) (Kd.R_far (p:=⟨G,1,none⟩) (Kd.R_far (p:=⟨G,0,none⟩) (Kd.R_types L.out J.out zc) (fun _ hk=>hk.2) (.int .i64 ab)) (fun _ hk=>hk.2) (.int .i64 ac)) (fun _ hk=>hk.2) (.slice aq af.length au)) (fun _ hk=>trivial)⟩
   have n1_:Aside0 (Kd.R (Kd.int .u8) 5 (((ax.setCell ⟨G,0,none⟩ (.int .i64 ab)).setCell ⟨G,1,none⟩ (.int .i64 ac)).setCell ⟨G,2,none⟩ (.slice aq af.length au)) w.heap.size (fun _=>True) (.slice aq af.length au) af):=⟨by(with_reducible repeat(first|apply Kd.R_alloc|apply Kd.R_drewN|apply Kd.R_drew));exact Kd.R_mono (Kd.R_far (p:=⟨G,2,none⟩) (Kd.R_far (p:=⟨G,1,none⟩) (Kd.R_far (p:=⟨G,0,none⟩) (Kd.R_types U.out J.out zc) (fun _ hk=>hk.2) (.int .i64 ab)) (fun _ hk=>hk.2) (.int .i64 ac)) (fun _ hk=>hk.2) (.slice aq af.length au)) (fun _ hk=>trivial)⟩
   have n2_:Aside0 ((((ax.setCell ⟨G,0,none⟩ (.int .i64 ab)).setCell ⟨G,1,none⟩ (.int .i64 ac)).setCell ⟨G,2,none⟩ (.slice aq af.length au)).heap[X]? =some (.cells #[.int .i64 Z,.int .i64 aa,.slice ah Y.length ai] 99 (0,0))):=⟨by refine bkR ?_;refine blk_far ?_ I.out _;refine bkR ?_;refine blk_far ?_ I.out _;refine bkR ?_;refine blk_far ?_ I.out _;refine bkR ?_;exact D.out⟩
   have n3_:Aside0 ((((ax.setCell ⟨G,0,none⟩ (.int .i64 ab)).setCell ⟨G,1,none⟩ (.int .i64 ac)).setCell ⟨G,2,none⟩ (.slice aq af.length au)).heap[G]? =some (.cells #[.int .i64 ab,.int .i64 ac,.slice aq af.length au] 24 (0,0))):=⟨by refine bkR ?_;refine blk_put (cs:= #[.int .i64 ab,.int .i64 ac,.slice none 0 0]) ?_ 2 _ rfl;refine bkR ?_;refine blk_put (cs:= #[.int .i64 ab,.int .i64 0,.slice none 0 0]) ?_ 1 _ rfl;refine bkR ?_;refine blk_put (cs:= #[.int .i64 0,.int .i64 0,.slice none 0 0]) ?_ 0 _ rfl;refine bkR ?_;exact J.out⟩
   have n4_:Aside0 (Below w.heap.size w (((ax.setCell ⟨G,0,none⟩ (.int .i64 ab)).setCell ⟨G,1,none⟩ (.int .i64 ac)).setCell ⟨G,2,none⟩ (.slice aq af.length au))):=⟨hbA HB.out⟩
   (try clear L)
   (try clear U)
   (try clear D)
   (try clear J)
   (try clear HB)
   generalize(((ax.setCell ⟨G,0,none⟩ (.int .i64 ab)).setCell ⟨G,1,none⟩ (.int .i64 ac)).setCell ⟨G,2,none⟩ (.slice aq af.length au))=c2 at n0_ n1_ n2_ n3_ n4_⊢;have L:=n0_;have U:=n1_;have D:=n2_;have J:=n3_;have HB:=n4_;clear n0_ n1_ n2_ n3_ n4_;replace L:=aK (Kd.R_drew L.out);replace U:=aK (Kd.R_drew U.out);replace D:=aK (blk_drew D.out);replace J:=aK (blk_drew J.out);replace HB:=aK (below_drew1 HB.out);refine start_ (n:=12) (S:=fun w'=>w'.cell? ⟨G,0,none⟩=some (.int .i64 ab)/\w'.cell? ⟨G,1,none⟩=some (.int .i64 ac)/\w'.cell? ⟨G,2,none⟩=some (.slice aq af.length au)/\w'.cell? ⟨X,0,none⟩=some (.int .i64 Z)/\w'.cell? ⟨X,1,none⟩=some (.int .i64 aa)/\w'.cell? ⟨X,2,none⟩=some (.slice ah Y.length ai)) (ds:= []) (.replicate 12 false) zb rfl rfl (z3k J (z3c D)) (fun hHeld=>?_);refine with_tabW shape_rows_hangs.tab4 shape_rows_hangs.bits4 (fun HT_ HW_=>?_);generalize c2.drew=dt at L U D J HB hHeld⊢;refine pu 2 (some 24) (mB 12 4) HT_ ?_;refine tk6 0 (some 22) (mB 12 5) HT_ HW_ hHeld ?_;refine tk6 1 (some 23) (mB 12 7) HT_ HW_ hHeld ?_;refine zoh 3 (some 25) (mB 12 15) HT_ fun K hK=>?_;refine goes_ Tryd.func101 zb rfl #[.agg #[.int .i64 Z,.int .i64 aa,.slice ah Y.length ai],.int .i64 a1] ze rfl rfl (by(try simp only[List.map_toArray,List.map_cons,List.map_nil]);first|done|rfl|(simp only[List.length_drop,List.length_take];rfl)) ?_;with_reducible refine(shape_rows_row.calls Z aa _ _ Y a1 az _ ?side1 ?side2 A7.out).mono ?_
   (case side1=>exact kcB ao HB)
   (case side2=>exact an.out)
   rintro e du ⟨Ar_,cr_,rfl,ag,hcr_,hb⟩;refine⟨_,rfl,?_⟩;replace L:=kdB L hb;have a0:=aK (And.intro ag hcr_);replace U:=kdB U hb;replace D:=bkB D hb;replace J:=bkB J hb;replace HB:=hbB HB hb
   (try clear hb)
   (try clear aw)
   (try clear hk)
   (try clear hi)
   (try clear ag)
   refine hK.out _ _ (z3k J (z3c D)) (fun hHeld=>?_);clear hK K;refine znm (some 25) ?_;refine zoh 4 (some 26) (mB 12 31) HT_ fun K hK=>?_;refine goes_ Tryd.func36 zb rfl #[.agg #[.int .i64 ab,.int .i64 ac,.slice aq af.length au],.slice Ar_ az.length cr_] ze rfl rfl (by(try simp only[List.map_toArray,List.map_cons,List.map_nil]);first|done|rfl|(simp only[List.length_drop,List.length_take];rfl)) ?_;with_reducible refine(gauss_Combine.calls k ab ac _ _ af _ _ az bw bx a3 _ ?side1 ?side2 ?side3 ?side4 A8.out).mono ?_
   (case side1=>exact kcA (Kd.R_reads' U.out).2.2)
   (case side2=>exact(Kd.R_reads' U.out).2.1)
   (case side3=>exact a0.out.1)
   (case side4=>exact a0.out.2)
   rintro e dv ⟨cj,rfl,ag,hb⟩;refine⟨_,rfl,?_⟩;replace L:=kdB L hb;have bz:=aK (Kd.R_lower (Kd.R_new' ag (Kd.R_lt (kdA U.out))) (below_size (hbA HB.out)));replace U:=aK (Kd.R_elder' (kdA U.out) (Kd.R_base ag) hb);replace D:=bkB D hb;replace J:=bkB J hb;replace HB:=hbB HB hb
   (try clear hb)
   (try clear aw)
   (try clear hk)
   (try clear hi)
   (try clear ag)
   refine hK.out _ _ (z3k J (z3c D)) (fun hHeld=>?_);clear hK K;refine znm (some 26) ?_;refine pu 5 (some 21) (mB 12 63) HT_ ?_;refine pu 6 (some 27) (mB 12 127) HT_ ?_;refine pu 7 (some 28) (mB 12 255) HT_ ?_;refine pu 8 (some 29) (mB 12 511) HT_ ?_;refine pu 9 (some 9) (mB 12 1023) HT_ ?_;refine pu 10 (some 10) (mB 12 2047) HT_ ?_;refine pu 11 (some 8) (mB 12 4095) HT_ ?_;refine done_ (done_of HT_.out zb) ?_
   try go_wp2
   go_ret
   exact⟨rfE,hbA HB.out⟩
  ·rw[if_neg c9]at H
   have c9b0:(a3==0)=false:=beq_eq_false_iff_ne.mpr c9;have c9b1:(a3 !=0)=true:=bne_iff_ne.mpr c9;obtain rfl:=Option.some.inj H
   go_enter Tryd.func87,Tryd.ntmps87
   try go_wp2_with (first|((with_reducible refine gD 3 rfl ?_);refine bE 3 #[.int .i64 Z,.int .i64 aa,.slice ah Y.length ai] 99 ?_;intro X hg c3 hbox hb;have D:=aK (hbox);have bg:=hbS HB hg;have bf:=hbS HB hg;replace HB:=hbB HB hb;clear hb hbox hg))
   replace D:=aK (blk_drew D.out);replace HB:=aK (below_drew1 HB.out);refine start_ (n:=11) (S:=fun w'=>w'.cell? ⟨X,0,none⟩=some (.int .i64 Z)/\w'.cell? ⟨X,1,none⟩=some (.int .i64 aa)/\w'.cell? ⟨X,2,none⟩=some (.slice ah Y.length ai)) (ds:= []) (.replicate 11 false) zb rfl rfl (z3c D) (fun hHeld=>?_);refine with_tabW shape_rows_hangs.tab1 shape_rows_hangs.bits1 (fun HT_ HW_=>?_);generalize c3.drew=dw at D HB hHeld⊢;refine pu 0 (some 12) (mB 11 1) HT_ ?_;refine pu 2 (some 14) (mB 11 5) HT_ ?_;refine tk3 1 (some 13) (mB 11 7) HT_ HW_ hHeld ?_;refine join_ (σ:=Value×Value×Nat) 2 (mB 11 511) (fun s_=> [(15,s_.1),(16,.tuple #[.agg #[.int .i64 ab,.int .i64 ac,s_.2.1],.int .i64 al]),(7,.pointer (some ⟨s_.2.2,0,none⟩)),(11,.tuple #[.agg #[.int .i64 ab,.int .i64 ac,s_.2.1],.int .i64 al]),(17,.agg #[.int .i64 ab,.int .i64 ac,s_.2.1]),(18,.int .i64 al)]) (fun s_ w'=>(w'.cell? ⟨X,0,none⟩=some (.int .i64 Z)/\w'.cell? ⟨X,1,none⟩=some (.int .i64 aa)/\w'.cell? ⟨X,2,none⟩=some (.slice ah Y.length ai))/\(Kd.R (Kd.int .i64) 3 w' w.heap.size (fun _=>True) s_.1 ae)/\(Kd.R (Kd.int .u8) 5 w' w.heap.size (fun _=>True) s_.2.1 af)/\(w'.heap[X]? =some (.cells #[.int .i64 Z,.int .i64 aa,.slice ah Y.length ai] 99 (0,0)))/\(w'.heap[s_.2.2]? =some (.cells #[.int .i64 0,.int .i64 0,.slice none 0 0] 24 (0,0)))/\(w.heap.size<=s_.2.2)/\(w.heap.size<=s_.2.2)/\(X≠s_.2.2)/\(s_.2.2≠X)/\(Below w.heap.size w w')) ?_ ?_;rotate_left
   ·intro hCont;refine two_ (i:=3) (j:=8) (Ni:=some 15) (Nj:=some 7) (mB 11 15) (mB 11 263) rfl rfl rfl rfl (two_of HT_.out zb) zc zc (fun K hK=>?_) (fun K hK=>?_)
    ·skip
     refine goes_ Tryd.func35 zb rfl #[.int .u64 a2] ze rfl rfl (by(try simp only[List.map_toArray,List.map_cons,List.map_nil]);first|done|rfl|(simp only[List.length_drop,List.length_take];rfl)) ?_;with_reducible refine(subset_List.calls k a2 ae _ A4.out (tab_below HT.out zf)).mono ?_
     rintro e c4 ⟨ap,rfl,ag,hb⟩;refine⟨_,rfl,?_⟩;have L:=aK (Kd.R_lower ag (below_size (hbA HB.out)));replace D:=bkB D hb;replace HB:=hbB HB hb
     (try clear hb)
     (try clear aw)
     (try clear hk)
     (try clear hi)
     (try clear ag)
     obtain⟨bl,bo,bs⟩:=Kd.R_slice L.out
     (first|subst bs|(injection bs with f1_ f2_ f3_;have f4_:=f1_.symm;have f5_:=f3_.symm;clear f1_ f2_ f3_;subst f4_;subst f5_))
     refine hK.out _ _ (z3c D) (fun hHeld=>?_);clear hK K;refine znm (some 15) ?_;refine two_ (i:=4) (j:=8) (Ni:=some 16) (Nj:=some 7) (mB 11 31) (mB 11 271) rfl rfl rfl rfl (two_of HT_.out zb) zc zc (fun K hK=>?_) (fun K hK=>?_)
     ·skip
      refine goes_ Tryd.func34 zb rfl #[.agg #[.int .i64 Z,.int .i64 aa,.slice ah Y.length ai],.slice bl ae.length bo] ze rfl rfl (by(try simp only[List.map_toArray,List.map_cons,List.map_nil]);first|done|rfl|(simp only[List.length_drop,List.length_take];rfl)) ?_;with_reducible refine(matrix_Pick.calls Z aa _ _ Y _ _ ae ab ac af al _ ?side1 ?side2 ?side3 ?side4 A5.out).mono ?_
      (case side1=>exact kcB ao HB)
      (case side2=>exact an.out)
      (case side3=>exact kcA (Kd.R_reads' L.out).2.2)
      (case side4=>exact(Kd.R_reads' L.out).2.1)
      rintro e dx ⟨am,rfl,ag,hb⟩;refine⟨_,rfl,?_⟩;replace L:=kdB L hb;have U:=aK (Kd.R_lower ag (below_size (hbA HB.out)));replace D:=bkB D hb;replace HB:=hbB HB hb
      (try clear hb)
      (try clear aw)
      (try clear hk)
      (try clear hi)
      (try clear ag)
      refine hK.out _ _ (z3c D) (fun hHeld=>?_);clear hK K;refine znm (some 16) ?_;refine pu 5 (some 11) (mB 11 63) HT_ ?_;refine pu 6 (some 17) (mB 11 127) HT_ ?_;refine pu 7 (some 18) (mB 11 255) HT_ ?_;refine zoh 8 (some 7) (mB 11 511) HT_ fun K hK=>?_;refine box_step ?hg (N:=7) ?hd (cs:= #[.int .i64 0,.int .i64 0,.slice none 0 0]) (t:=24) ?hr ?_;(case hd=>rfl);(case hg=>rfl);(case hr=>first|(go_simp;done)|(go_simp;rfl))
      intro G hg cl hbox hb;replace L:=kdB L hb;replace U:=kdB U hb;have J:=aK (hbox);have ak:=hbS HB hg;have aj:=hbS HB hg;replace HB:=hbB HB hb;have I:=neL D hg;have O:=neG D hg;replace D:=bkB D hb;clear hb hbox hg;refine hK.out _ _ (z3c D) (fun hHeld=>?_);clear hK K;refine znm (some 7) ?_;exact norm_ zk (hCont (.slice bl ae.length bo,am,G) _ ⟨hHeld,(kdA L.out),(kdA U.out),(bkA D.out),(bkA J.out),ak.out,aj.out,I.out,O.out,(hbA HB.out)⟩)
     ·skip
      refine box_step ?hg (N:=7) ?hd (cs:= #[.int .i64 0,.int .i64 0,.slice none 0 0]) (t:=24) ?hr ?_;(case hd=>rfl);(case hg=>rfl);(case hr=>first|(go_simp;done)|(go_simp;rfl))
      intro G hg c5 hbox hb;replace L:=kdB L hb;have J:=aK (hbox);have ak:=hbS HB hg;have aj:=hbS HB hg;replace HB:=hbB HB hb;have I:=neL D hg;have O:=neG D hg;replace D:=bkB D hb;clear hb hbox hg;obtain⟨a7,ba,bd⟩:=Kd.R_slice L.out
      (first|subst bd|(injection bd with f1_ f2_ f3_;have f4_:=f1_.symm;have f5_:=f3_.symm;clear f1_ f2_ f3_;subst f4_;subst f5_))
      refine hK.out _ _ (z3c D) (fun hHeld=>?_);clear hK K;refine znm (some 7) ?_;refine zoh 4 (some 16) (mB 11 287) HT_ fun K hK=>?_;refine goes_ Tryd.func34 zb rfl #[.agg #[.int .i64 Z,.int .i64 aa,.slice ah Y.length ai],.slice a7 ae.length ba] ze rfl rfl (by(try simp only[List.map_toArray,List.map_cons,List.map_nil]);first|done|rfl|(simp only[List.length_drop,List.length_take];rfl)) ?_;with_reducible refine(matrix_Pick.calls Z aa _ _ Y _ _ ae ab ac af al _ ?side1 ?side2 ?side3 ?side4 A5.out).mono ?_
      (case side1=>exact kcB ao HB)
      (case side2=>exact an.out)
      (case side3=>exact kcA (Kd.R_reads' L.out).2.2)
      (case side4=>exact(Kd.R_reads' L.out).2.1)
      rintro e cl ⟨am,rfl,ag,hb⟩;refine⟨_,rfl,?_⟩;replace L:=kdB L hb;have U:=aK (Kd.R_lower ag (below_size (hbA HB.out)));replace D:=bkB D hb;replace J:=bkB J hb;replace HB:=hbB HB hb
      (try clear hb)
      (try clear aw)
      (try clear hk)
      (try clear hi)
      (try clear ag)
      refine hK.out _ _ (z3c D) (fun hHeld=>?_);clear hK K;refine znm (some 16) ?_;refine pu 5 (some 11) (mB 11 319) HT_ ?_;refine pu 6 (some 17) (mB 11 383) HT_ ?_;refine pu 7 (some 18) (mB 11 511) HT_ ?_;exact norm_ zk (hCont (.slice a7 ae.length ba,am,G) _ ⟨hHeld,(kdA L.out),(kdA U.out),(bkA D.out),(bkA J.out),ak.out,aj.out,I.out,O.out,(hbA HB.out)⟩)
    ·skip
     refine box_step ?hg (N:=7) ?hd (cs:= #[.int .i64 0,.int .i64 0,.slice none 0 0]) (t:=24) ?hr ?_;(case hd=>rfl);(case hg=>rfl);(case hr=>first|(go_simp;done)|(go_simp;rfl))
     intro G hg c4 hbox hb;have J:=aK (hbox);have ak:=hbS HB hg;have aj:=hbS HB hg;replace HB:=hbB HB hb;have I:=neL D hg;have O:=neG D hg;replace D:=bkB D hb;clear hb hbox hg;refine hK.out _ _ (z3c D) (fun hHeld=>?_);clear hK K;refine znm (some 7) ?_;refine zoh 3 (some 15) (mB 11 271) HT_ fun K hK=>?_;refine goes_ Tryd.func35 zb rfl #[.int .u64 a2] ze rfl rfl (by(try simp only[List.map_toArray,List.map_cons,List.map_nil]);first|done|rfl|(simp only[List.length_drop,List.length_take];rfl)) ?_;with_reducible refine(subset_List.calls k a2 ae _ A4.out (tab_below HT.out zf)).mono ?_
     rintro e c5 ⟨ap,rfl,ag,hb⟩;refine⟨_,rfl,?_⟩;have L:=aK (Kd.R_lower ag (below_size (hbA HB.out)));replace D:=bkB D hb;replace J:=bkB J hb;replace HB:=hbB HB hb
     (try clear hb)
     (try clear aw)
     (try clear hk)
     (try clear hi)
     (try clear ag)
     obtain⟨a7,ba,bd⟩:=Kd.R_slice L.out
     (first|subst bd|(injection bd with f1_ f2_ f3_;have f4_:=f1_.symm;have f5_:=f3_.symm;clear f1_ f2_ f3_;subst f4_;subst f5_))
     refine hK.out _ _ (z3c D) (fun hHeld=>?_);clear hK K;refine znm (some 15) ?_;refine zoh 4 (some 16) (mB 11 287) HT_ fun K hK=>?_;refine goes_ Tryd.func34 zb rfl #[.agg #[.int .i64 Z,.int .i64 aa,.slice ah Y.length ai],.slice a7 ae.length ba] ze rfl rfl (by(try simp only[List.map_toArray,List.map_cons,List.map_nil]);first|done|rfl|(simp only[List.length_drop,List.length_take];rfl)) ?_;with_reducible refine(matrix_Pick.calls Z aa _ _ Y _ _ ae ab ac af al _ ?side1 ?side2 ?side3 ?side4 A5.out).mono ?_
     (case side1=>exact kcB ao HB)
     (case side2=>exact an.out)
     (case side3=>exact kcA (Kd.R_reads' L.out).2.2)
     (case side4=>exact(Kd.R_reads' L.out).2.1)
     rintro e cl ⟨am,rfl,ag,hb⟩;refine⟨_,rfl,?_⟩;replace L:=kdB L hb;have U:=aK (Kd.R_lower ag (below_size (hbA HB.out)));replace D:=bkB D hb;replace J:=bkB J hb;replace HB:=hbB HB hb
     (try clear hb)
     (try clear aw)
     (try clear hk)
     (try clear hi)
     (try clear ag)
     refine hK.out _ _ (z3c D) (fun hHeld=>?_);clear hK K;refine znm (some 16) ?_;refine pu 5 (some 11) (mB 11 319) HT_ ?_;refine pu 6 (some 17) (mB 11 383) HT_ ?_;refine pu 7 (some 18) (mB 11 511) HT_ ?_;exact norm_ zk (hCont (.slice a7 ae.length ba,am,G) _ ⟨hHeld,(kdA L.out),(kdA U.out),(bkA D.out),(bkA J.out),ak.out,aj.out,I.out,O.out,(hbA HB.out)⟩)
   rintro⟨ap,am,G⟩ ay ⟨hS_,h0_,h1_,h2_,h3_,h4_,h5_,h6_,h7_,h8_⟩;have n0_:Aside0 (Kd.R (Kd.int .i64) 3 ay w.heap.size (fun _=>True) ap ae):=⟨h0_⟩
   have n1_:Aside0 (Kd.R (Kd.int .u8) 5 ay w.heap.size (fun _=>True) am af):=⟨h1_⟩
   have n2_:Aside0 (ay.heap[X]? =some (.cells #[.int .i64 Z,.int .i64 aa,.slice ah Y.length ai] 99 (0,0))):=⟨h2_⟩
   have n3_:Aside0 (ay.heap[G]? =some (.cells #[.int .i64 0,.int .i64 0,.slice none 0 0] 24 (0,0))):=⟨h3_⟩
   have n4_:Aside0 (w.heap.size<=G):=⟨h4_⟩
   have n5_:Aside0 (w.heap.size<=G):=⟨h5_⟩
   have n6_:Aside0 (X≠G):=⟨h6_⟩
   have n7_:Aside0 (G≠X):=⟨h7_⟩
   have n8_:Aside0 (Below w.heap.size w ay):=⟨h8_⟩
   clear D;clear HB;clear h0_ h1_ h2_ h3_ h4_ h5_ h6_ h7_ h8_;have L:=n0_;have U:=n1_;have D:=n2_;have J:=n3_;have ak:=n4_;have aj:=n5_;have I:=n6_;have O:=n7_;have HB:=n8_;clear n0_ n1_ n2_ n3_ n4_ n5_ n6_ n7_ n8_;have hHeld:ay.cell? ⟨X,0,none⟩=some (.int .i64 Z)/\ay.cell? ⟨X,1,none⟩=some (.int .i64 aa)/\ay.cell? ⟨X,2,none⟩=some (.slice ah Y.length ai):=hS_;obtain⟨ar,av,bt⟩:=Kd.R_slice U.out
   (first|subst bt|(injection bt with f1_ f2_ f3_;have f4_:=f1_.symm;have f5_:=f3_.symm;clear f1_ f2_ f3_;subst f4_;subst f5_))
   refine znq ?_;refine zoh 9 (none) (mB 11 1023) HT_ fun K hK=>?_;have dh:ay.cell? ⟨G,0,none⟩=some (.int .i64 0):=(blk_cell J.out 0).trans rfl;have cq:=blk_frozen J.out 0;have cd:=I.out;have b3:=O.out;have di:ay.cell? ⟨G,1,none⟩=some (.int .i64 0):=(blk_cell J.out 1).trans rfl;have cr:=blk_frozen J.out 1;have ce:=I.out;have b4:=O.out;have dj:ay.cell? ⟨G,2,none⟩=some (.slice none 0 0):=(blk_cell J.out 2).trans rfl;have ct:=blk_frozen J.out 2;have cf:=I.out;have b5:=O.out;refine zsk ?_;refine hK.out _ _ ⟨((cell_far (p:=⟨G,_,none⟩) I.out _).trans (((cell_far (p:=⟨G,_,none⟩) I.out _).trans (((cell_far (p:=⟨G,_,none⟩) I.out _).trans (hHeld.1)))))),((cell_far (p:=⟨G,_,none⟩) I.out _).trans (((cell_far (p:=⟨G,_,none⟩) I.out _).trans (((cell_far (p:=⟨G,_,none⟩) I.out _).trans (hHeld.2.1)))))),((cell_far (p:=⟨G,_,none⟩) I.out _).trans (((cell_far (p:=⟨G,_,none⟩) I.out _).trans (((cell_far (p:=⟨G,_,none⟩) I.out _).trans (hHeld.2.2))))))⟩ (fun hHeld=>?_);clear hK K;refine pu 10 (some 8) (mB 11 2047) HT_ ?_;refine done_ (done_of HT_.out zb) ?_
   try go_wp2
   have n0_:Aside0 (Kd.R (Kd.int .i64) 3 (((ay.setCell ⟨G,0,none⟩ (.int .i64 ab)).setCell ⟨G,1,none⟩ (.int .i64 ac)).setCell ⟨G,2,none⟩ (.slice ar af.length av)) w.heap.size (fun _=>True) ap ae):=⟨by(with_reducible repeat(first|apply Kd.R_alloc|apply Kd.R_drewN|apply Kd.R_drew));exact Kd.R_mono (Kd.R_far (p:=⟨G,2,none⟩) (Kd.R_far (p:=⟨G,1,none⟩) (Kd.R_far (p:=⟨G,0,none⟩) (Kd.R_types L.out J.out zc) (fun _ hk=>hk.2) (.int .i64 ab)) (fun _ hk=>hk.2) (.int .i64 ac)) (fun _ hk=>hk.2) (.slice ar af.length av)) (fun _ hk=>trivial)⟩
   have n1_:Aside0 (Kd.R (Kd.int .u8) 5 (((ay.setCell ⟨G,0,none⟩ (.int .i64 ab)).setCell ⟨G,1,none⟩ (.int .i64 ac)).setCell ⟨G,2,none⟩ (.slice ar af.length av)) w.heap.size (fun _=>True) (.slice ar af.length av) af):=⟨by(with_reducible repeat(first|apply Kd.R_alloc|apply Kd.R_drewN|apply Kd.R_drew));exact Kd.R_mono (Kd.R_far (p:=⟨G,2,none⟩) (Kd.R_far (p:=⟨G,1,none⟩) (Kd.R_far (p:=⟨G,0,none⟩) (Kd.R_types U.out J.out zc) (fun _ hk=>hk.2) (.int .i64 ab)) (fun _ hk=>hk.2) (.int .i64 ac)) (fun _ hk=>hk.2) (.slice ar af.length av)) (fun _ hk=>trivial)⟩
   have n2_:Aside0 ((((ay.setCell ⟨G,0,none⟩ (.int .i64 ab)).setCell ⟨G,1,none⟩ (.int .i64 ac)).setCell ⟨G,2,none⟩ (.slice ar af.length av)).heap[X]? =some (.cells #[.int .i64 Z,.int .i64 aa,.slice ah Y.length ai] 99 (0,0))):=⟨by refine bkR ?_;refine blk_far ?_ I.out _;refine bkR ?_;refine blk_far ?_ I.out _;refine bkR ?_;refine blk_far ?_ I.out _;refine bkR ?_;exact D.out⟩
   have n3_:Aside0 ((((ay.setCell ⟨G,0,none⟩ (.int .i64 ab)).setCell ⟨G,1,none⟩ (.int .i64 ac)).setCell ⟨G,2,none⟩ (.slice ar af.length av)).heap[G]? =some (.cells #[.int .i64 ab,.int .i64 ac,.slice ar af.length av] 24 (0,0))):=⟨by refine bkR ?_;refine blk_put (cs:= #[.int .i64 ab,.int .i64 ac,.slice none 0 0]) ?_ 2 _ rfl;refine bkR ?_;refine blk_put (cs:= #[.int .i64 ab,.int .i64 0,.slice none 0 0]) ?_ 1 _ rfl;refine bkR ?_;refine blk_put (cs:= #[.int .i64 0,.int .i64 0,.slice none 0 0]) ?_ 0 _ rfl;refine bkR ?_;exact J.out⟩
   have n4_:Aside0 (Below w.heap.size w (((ay.setCell ⟨G,0,none⟩ (.int .i64 ab)).setCell ⟨G,1,none⟩ (.int .i64 ac)).setCell ⟨G,2,none⟩ (.slice ar af.length av))):=⟨hbA HB.out⟩
   (try clear L)
   (try clear U)
   (try clear D)
   (try clear J)
   (try clear HB)
   generalize(((ay.setCell ⟨G,0,none⟩ (.int .i64 ab)).setCell ⟨G,1,none⟩ (.int .i64 ac)).setCell ⟨G,2,none⟩ (.slice ar af.length av))=c7 at n0_ n1_ n2_ n3_ n4_⊢;have L:=n0_;have U:=n1_;have D:=n2_;have J:=n3_;have HB:=n4_;clear n0_ n1_ n2_ n3_ n4_;replace L:=aK (Kd.R_drew L.out);replace U:=aK (Kd.R_drew U.out);replace D:=aK (blk_drew D.out);replace J:=aK (blk_drew J.out);replace HB:=aK (below_drew1 HB.out);refine start_ (n:=12) (S:=fun w'=>w'.cell? ⟨G,0,none⟩=some (.int .i64 ab)/\w'.cell? ⟨G,1,none⟩=some (.int .i64 ac)/\w'.cell? ⟨G,2,none⟩=some (.slice ar af.length av)/\w'.cell? ⟨X,0,none⟩=some (.int .i64 Z)/\w'.cell? ⟨X,1,none⟩=some (.int .i64 aa)/\w'.cell? ⟨X,2,none⟩=some (.slice ah Y.length ai)) (ds:= []) (.replicate 12 false) zb rfl rfl (z3k J (z3c D)) (fun hHeld=>?_);refine with_tabW shape_rows_hangs.tab4 shape_rows_hangs.bits4 (fun HT_ HW_=>?_);generalize c7.drew=dy at L U D J HB hHeld⊢;refine pu 2 (some 24) (mB 12 4) HT_ ?_;refine tk6 0 (some 22) (mB 12 5) HT_ HW_ hHeld ?_;refine tk6 1 (some 23) (mB 12 7) HT_ HW_ hHeld ?_;refine zoh 3 (some 25) (mB 12 15) HT_ fun K hK=>?_;refine goes_ Tryd.func101 zb rfl #[.agg #[.int .i64 Z,.int .i64 aa,.slice ah Y.length ai],.int .i64 a1] ze rfl rfl (by(try simp only[List.map_toArray,List.map_cons,List.map_nil]);first|done|rfl|(simp only[List.length_drop,List.length_take];rfl)) ?_;with_reducible refine(shape_rows_row.calls Z aa _ _ Y a1 az _ ?side1 ?side2 A7.out).mono ?_
   (case side1=>exact kcB ao HB)
   (case side2=>exact an.out)
   rintro e dz ⟨Ar_,cr_,rfl,ag,hcr_,hb⟩;refine⟨_,rfl,?_⟩;replace L:=kdB L hb;have a0:=aK (And.intro ag hcr_);replace U:=kdB U hb;replace D:=bkB D hb;replace J:=bkB J hb;replace HB:=hbB HB hb
   (try clear hb)
   (try clear aw)
   (try clear hk)
   (try clear hi)
   (try clear ag)
   refine hK.out _ _ (z3k J (z3c D)) (fun hHeld=>?_);clear hK K;refine znm (some 25) ?_;refine zoh 4 (some 26) (mB 12 31) HT_ fun K hK=>?_;refine goes_ Tryd.func36 zb rfl #[.agg #[.int .i64 ab,.int .i64 ac,.slice ar af.length av],.slice Ar_ az.length cr_] ze rfl rfl (by(try simp only[List.map_toArray,List.map_cons,List.map_nil]);first|done|rfl|(simp only[List.length_drop,List.length_take];rfl)) ?_;with_reducible refine(gauss_Combine.calls k ab ac _ _ af _ _ az bw bx a3 _ ?side1 ?side2 ?side3 ?side4 A8.out).mono ?_
   (case side1=>exact kcA (Kd.R_reads' U.out).2.2)
   (case side2=>exact(Kd.R_reads' U.out).2.1)
   (case side3=>exact a0.out.1)
   (case side4=>exact a0.out.2)
   rintro e d0 ⟨cj,rfl,ag,hb⟩;refine⟨_,rfl,?_⟩;replace L:=kdB L hb;have bz:=aK (Kd.R_lower (Kd.R_new' ag (Kd.R_lt (kdA U.out))) (below_size (hbA HB.out)));replace U:=aK (Kd.R_elder' (kdA U.out) (Kd.R_base ag) hb);replace D:=bkB D hb;replace J:=bkB J hb;replace HB:=hbB HB hb
   (try clear hb)
   (try clear aw)
   (try clear hk)
   (try clear hi)
   (try clear ag)
   refine hK.out _ _ (z3k J (z3c D)) (fun hHeld=>?_);clear hK K;refine znm (some 26) ?_;refine pu 5 (some 21) (mB 12 63) HT_ ?_;refine pu 6 (some 27) (mB 12 127) HT_ ?_;refine pu 7 (some 28) (mB 12 255) HT_ ?_;refine pu 8 (some 29) (mB 12 511) HT_ ?_;refine pu 9 (some 9) (mB 12 1023) HT_ ?_;refine pu 10 (some 10) (mB 12 2047) HT_ ?_;refine pu 11 (some 8) (mB 12 4095) HT_ ?_;refine done_ (done_of HT_.out zb) ?_
   try go_wp2
   go_ret
   exact⟨rfE,hbA HB.out⟩
 ·rw[if_neg c6]at H
  have c6b0:(al==0)=false:=beq_eq_false_iff_ne.mpr c6;have c6b1:(al !=0)=true:=bne_iff_ne.mpr c6;obtain rfl:=Option.some.inj H
  go_enter Tryd.func87,Tryd.ntmps87
  try go_wp2_with (first|((with_reducible refine gD 3 rfl ?_);refine bE 3 #[.int .i64 Z,.int .i64 aa,.slice ah Y.length ai] 99 ?_;intro X hg c8 hbox hb;have D:=aK (hbox);have bg:=hbS HB hg;have bf:=hbS HB hg;replace HB:=hbB HB hb;clear hb hbox hg))
  replace D:=aK (blk_drew D.out);replace HB:=aK (below_drew1 HB.out);refine start_ (n:=11) (S:=fun w'=>w'.cell? ⟨X,0,none⟩=some (.int .i64 Z)/\w'.cell? ⟨X,1,none⟩=some (.int .i64 aa)/\w'.cell? ⟨X,2,none⟩=some (.slice ah Y.length ai)) (ds:= []) (.replicate 11 false) zb rfl rfl (z3c D) (fun hHeld=>?_);refine with_tabW shape_rows_hangs.tab1 shape_rows_hangs.bits1 (fun HT_ HW_=>?_);generalize c8.drew=d1 at D HB hHeld⊢;refine pu 0 (some 12) (mB 11 1) HT_ ?_;refine pu 2 (some 14) (mB 11 5) HT_ ?_;refine tk3 1 (some 13) (mB 11 7) HT_ HW_ hHeld ?_;refine join_ (σ:=Value×Value×Nat) 2 (mB 11 511) (fun s_=> [(15,s_.1),(16,.tuple #[.agg #[.int .i64 ab,.int .i64 ac,s_.2.1],.int .i64 al]),(7,.pointer (some ⟨s_.2.2,0,none⟩)),(11,.tuple #[.agg #[.int .i64 ab,.int .i64 ac,s_.2.1],.int .i64 al]),(17,.agg #[.int .i64 ab,.int .i64 ac,s_.2.1]),(18,.int .i64 al)]) (fun s_ w'=>(w'.cell? ⟨X,0,none⟩=some (.int .i64 Z)/\w'.cell? ⟨X,1,none⟩=some (.int .i64 aa)/\w'.cell? ⟨X,2,none⟩=some (.slice ah Y.length ai))/\(Kd.R (Kd.int .i64) 3 w' w.heap.size (fun _=>True) s_.1 ae)/\(Kd.R (Kd.int .u8) 5 w' w.heap.size (fun _=>True) s_.2.1 af)/\(w'.heap[X]? =some (.cells #[.int .i64 Z,.int .i64 aa,.slice ah Y.length ai] 99 (0,0)))/\(w'.heap[s_.2.2]? =some (.cells #[.int .i64 0,.int .i64 0,.slice none 0 0] 24 (0,0)))/\(w.heap.size<=s_.2.2)/\(w.heap.size<=s_.2.2)/\(X≠s_.2.2)/\(s_.2.2≠X)/\(Below w.heap.size w w')) ?_ ?_;rotate_left
  ·intro hCont;refine two_ (i:=3) (j:=8) (Ni:=some 15) (Nj:=some 7) (mB 11 15) (mB 11 263) rfl rfl rfl rfl (two_of HT_.out zb) zc zc (fun K hK=>?_) (fun K hK=>?_)
   ·skip
    refine goes_ Tryd.func35 zb rfl #[.int .u64 a2] ze rfl rfl (by(try simp only[List.map_toArray,List.map_cons,List.map_nil]);first|done|rfl|(simp only[List.length_drop,List.length_take];rfl)) ?_;with_reducible refine(subset_List.calls k a2 ae _ A4.out (tab_below HT.out zf)).mono ?_
    rintro e da ⟨ap,rfl,ag,hb⟩;refine⟨_,rfl,?_⟩;have L:=aK (Kd.R_lower ag (below_size (hbA HB.out)));replace D:=bkB D hb;replace HB:=hbB HB hb
    (try clear hb)
    (try clear aw)
    (try clear hk)
    (try clear hi)
    (try clear ag)
    obtain⟨bm,bp,bu⟩:=Kd.R_slice L.out
    (first|subst bu|(injection bu with f1_ f2_ f3_;have f4_:=f1_.symm;have f5_:=f3_.symm;clear f1_ f2_ f3_;subst f4_;subst f5_))
    refine hK.out _ _ (z3c D) (fun hHeld=>?_);clear hK K;refine znm (some 15) ?_;refine two_ (i:=4) (j:=8) (Ni:=some 16) (Nj:=some 7) (mB 11 31) (mB 11 271) rfl rfl rfl rfl (two_of HT_.out zb) zc zc (fun K hK=>?_) (fun K hK=>?_)
    ·skip
     refine goes_ Tryd.func34 zb rfl #[.agg #[.int .i64 Z,.int .i64 aa,.slice ah Y.length ai],.slice bm ae.length bp] ze rfl rfl (by(try simp only[List.map_toArray,List.map_cons,List.map_nil]);first|done|rfl|(simp only[List.length_drop,List.length_take];rfl)) ?_;with_reducible refine(matrix_Pick.calls Z aa _ _ Y _ _ ae ab ac af al _ ?side1 ?side2 ?side3 ?side4 A5.out).mono ?_
     (case side1=>exact kcB ao HB)
     (case side2=>exact an.out)
     (case side3=>exact kcA (Kd.R_reads' L.out).2.2)
     (case side4=>exact(Kd.R_reads' L.out).2.1)
     rintro e d2 ⟨am,rfl,ag,hb⟩;refine⟨_,rfl,?_⟩;replace L:=kdB L hb;have U:=aK (Kd.R_lower ag (below_size (hbA HB.out)));replace D:=bkB D hb;replace HB:=hbB HB hb
     (try clear hb)
     (try clear aw)
     (try clear hk)
     (try clear hi)
     (try clear ag)
     refine hK.out _ _ (z3c D) (fun hHeld=>?_);clear hK K;refine znm (some 16) ?_;refine pu 5 (some 11) (mB 11 63) HT_ ?_;refine pu 6 (some 17) (mB 11 127) HT_ ?_;refine pu 7 (some 18) (mB 11 255) HT_ ?_;refine zoh 8 (some 7) (mB 11 511) HT_ fun K hK=>?_;refine box_step ?hg (N:=7) ?hd (cs:= #[.int .i64 0,.int .i64 0,.slice none 0 0]) (t:=24) ?hr ?_;(case hd=>rfl);(case hg=>rfl);(case hr=>first|(go_simp;done)|(go_simp;rfl))
     intro G hg cm hbox hb;replace L:=kdB L hb;replace U:=kdB U hb;have J:=aK (hbox);have ak:=hbS HB hg;have aj:=hbS HB hg;replace HB:=hbB HB hb;have I:=neL D hg;have O:=neG D hg;replace D:=bkB D hb;clear hb hbox hg;refine hK.out _ _ (z3c D) (fun hHeld=>?_);clear hK K;refine znm (some 7) ?_;exact norm_ zk (hCont (.slice bm ae.length bp,am,G) _ ⟨hHeld,(kdA L.out),(kdA U.out),(bkA D.out),(bkA J.out),ak.out,aj.out,I.out,O.out,(hbA HB.out)⟩)
    ·skip
     refine box_step ?hg (N:=7) ?hd (cs:= #[.int .i64 0,.int .i64 0,.slice none 0 0]) (t:=24) ?hr ?_;(case hd=>rfl);(case hg=>rfl);(case hr=>first|(go_simp;done)|(go_simp;rfl))
     intro G hg db hbox hb;replace L:=kdB L hb;have J:=aK (hbox);have ak:=hbS HB hg;have aj:=hbS HB hg;replace HB:=hbB HB hb;have I:=neL D hg;have O:=neG D hg;replace D:=bkB D hb;clear hb hbox hg;obtain⟨a8,bb,be⟩:=Kd.R_slice L.out
     (first|subst be|(injection be with f1_ f2_ f3_;have f4_:=f1_.symm;have f5_:=f3_.symm;clear f1_ f2_ f3_;subst f4_;subst f5_))
     refine hK.out _ _ (z3c D) (fun hHeld=>?_);clear hK K;refine znm (some 7) ?_;refine zoh 4 (some 16) (mB 11 287) HT_ fun K hK=>?_;refine goes_ Tryd.func34 zb rfl #[.agg #[.int .i64 Z,.int .i64 aa,.slice ah Y.length ai],.slice a8 ae.length bb] ze rfl rfl (by(try simp only[List.map_toArray,List.map_cons,List.map_nil]);first|done|rfl|(simp only[List.length_drop,List.length_take];rfl)) ?_;with_reducible refine(matrix_Pick.calls Z aa _ _ Y _ _ ae ab ac af al _ ?side1 ?side2 ?side3 ?side4 A5.out).mono ?_
     (case side1=>exact kcB ao HB)
     (case side2=>exact an.out)
     (case side3=>exact kcA (Kd.R_reads' L.out).2.2)
     (case side4=>exact(Kd.R_reads' L.out).2.1)
     rintro e cm ⟨am,rfl,ag,hb⟩;refine⟨_,rfl,?_⟩;replace L:=kdB L hb;have U:=aK (Kd.R_lower ag (below_size (hbA HB.out)));replace D:=bkB D hb;replace J:=bkB J hb;replace HB:=hbB HB hb
     (try clear hb)
     (try clear aw)
     (try clear hk)
     (try clear hi)
     (try clear ag)
     refine hK.out _ _ (z3c D) (fun hHeld=>?_);clear hK K;refine znm (some 16) ?_;refine pu 5 (some 11) (mB 11 319) HT_ ?_;refine pu 6 (some 17) (mB 11 383) HT_ ?_;refine pu 7 (some 18) (mB 11 511) HT_ ?_;exact norm_ zk (hCont (.slice a8 ae.length bb,am,G) _ ⟨hHeld,(kdA L.out),(kdA U.out),(bkA D.out),(bkA J.out),ak.out,aj.out,I.out,O.out,(hbA HB.out)⟩)
   ·skip
    refine box_step ?hg (N:=7) ?hd (cs:= #[.int .i64 0,.int .i64 0,.slice none 0 0]) (t:=24) ?hr ?_;(case hd=>rfl);(case hg=>rfl);(case hr=>first|(go_simp;done)|(go_simp;rfl))
    intro G hg da hbox hb;have J:=aK (hbox);have ak:=hbS HB hg;have aj:=hbS HB hg;replace HB:=hbB HB hb;have I:=neL D hg;have O:=neG D hg;replace D:=bkB D hb;clear hb hbox hg;refine hK.out _ _ (z3c D) (fun hHeld=>?_);clear hK K;refine znm (some 7) ?_;refine zoh 3 (some 15) (mB 11 271) HT_ fun K hK=>?_;refine goes_ Tryd.func35 zb rfl #[.int .u64 a2] ze rfl rfl (by(try simp only[List.map_toArray,List.map_cons,List.map_nil]);first|done|rfl|(simp only[List.length_drop,List.length_take];rfl)) ?_;with_reducible refine(subset_List.calls k a2 ae _ A4.out (tab_below HT.out zf)).mono ?_
    rintro e db ⟨ap,rfl,ag,hb⟩;refine⟨_,rfl,?_⟩;have L:=aK (Kd.R_lower ag (below_size (hbA HB.out)));replace D:=bkB D hb;replace J:=bkB J hb;replace HB:=hbB HB hb
    (try clear hb)
    (try clear aw)
    (try clear hk)
    (try clear hi)
    (try clear ag)
    obtain⟨a8,bb,be⟩:=Kd.R_slice L.out
    (first|subst be|(injection be with f1_ f2_ f3_;have f4_:=f1_.symm;have f5_:=f3_.symm;clear f1_ f2_ f3_;subst f4_;subst f5_))
    refine hK.out _ _ (z3c D) (fun hHeld=>?_);clear hK K;refine znm (some 15) ?_;refine zoh 4 (some 16) (mB 11 287) HT_ fun K hK=>?_;refine goes_ Tryd.func34 zb rfl #[.agg #[.int .i64 Z,.int .i64 aa,.slice ah Y.length ai],.slice a8 ae.length bb] ze rfl rfl (by(try simp only[List.map_toArray,List.map_cons,List.map_nil]);first|done|rfl|(simp only[List.length_drop,List.length_take];rfl)) ?_;with_reducible refine(matrix_Pick.calls Z aa _ _ Y _ _ ae ab ac af al _ ?side1 ?side2 ?side3 ?side4 A5.out).mono ?_
    (case side1=>exact kcB ao HB)
    (case side2=>exact an.out)
    (case side3=>exact kcA (Kd.R_reads' L.out).2.2)
    (case side4=>exact(Kd.R_reads' L.out).2.1)
    rintro e cm ⟨am,rfl,ag,hb⟩;refine⟨_,rfl,?_⟩;replace L:=kdB L hb;have U:=aK (Kd.R_lower ag (below_size (hbA HB.out)));replace D:=bkB D hb;replace J:=bkB J hb;replace HB:=hbB HB hb
    (try clear hb)
    (try clear aw)
    (try clear hk)
    (try clear hi)
    (try clear ag)
    refine hK.out _ _ (z3c D) (fun hHeld=>?_);clear hK K;refine znm (some 16) ?_;refine pu 5 (some 11) (mB 11 319) HT_ ?_;refine pu 6 (some 17) (mB 11 383) HT_ ?_;refine pu 7 (some 18) (mB 11 511) HT_ ?_;exact norm_ zk (hCont (.slice a8 ae.length bb,am,G) _ ⟨hHeld,(kdA L.out),(kdA U.out),(bkA D.out),(bkA J.out),ak.out,aj.out,I.out,O.out,(hbA HB.out)⟩)
  rintro⟨ap,am,G⟩ a4 ⟨hS_,h0_,h1_,h2_,h3_,h4_,h5_,h6_,h7_,h8_⟩;have n0_:Aside0 (Kd.R (Kd.int .i64) 3 a4 w.heap.size (fun _=>True) ap ae):=⟨h0_⟩
  have n1_:Aside0 (Kd.R (Kd.int .u8) 5 a4 w.heap.size (fun _=>True) am af):=⟨h1_⟩
  have n2_:Aside0 (a4.heap[X]? =some (.cells #[.int .i64 Z,.int .i64 aa,.slice ah Y.length ai] 99 (0,0))):=⟨h2_⟩
  have n3_:Aside0 (a4.heap[G]? =some (.cells #[.int .i64 0,.int .i64 0,.slice none 0 0] 24 (0,0))):=⟨h3_⟩
  have n4_:Aside0 (w.heap.size<=G):=⟨h4_⟩
  have n5_:Aside0 (w.heap.size<=G):=⟨h5_⟩
  have n6_:Aside0 (X≠G):=⟨h6_⟩
  have n7_:Aside0 (G≠X):=⟨h7_⟩
  have n8_:Aside0 (Below w.heap.size w a4):=⟨h8_⟩
  clear D;clear HB;clear h0_ h1_ h2_ h3_ h4_ h5_ h6_ h7_ h8_;have L:=n0_;have U:=n1_;have D:=n2_;have J:=n3_;have ak:=n4_;have aj:=n5_;have I:=n6_;have O:=n7_;have HB:=n8_;clear n0_ n1_ n2_ n3_ n4_ n5_ n6_ n7_ n8_;have hHeld:a4.cell? ⟨X,0,none⟩=some (.int .i64 Z)/\a4.cell? ⟨X,1,none⟩=some (.int .i64 aa)/\a4.cell? ⟨X,2,none⟩=some (.slice ah Y.length ai):=hS_;obtain⟨dc,dd,bv⟩:=Kd.R_slice U.out
  (first|subst bv|(injection bv with f1_ f2_ f3_;have f4_:=f1_.symm;have f5_:=f3_.symm;clear f1_ f2_ f3_;subst f4_;subst f5_))
  refine znq ?_;refine zoh 9 (none) (mB 11 1023) HT_ fun K hK=>?_;have dk:a4.cell? ⟨G,0,none⟩=some (.int .i64 0):=(blk_cell J.out 0).trans rfl;have cu:=blk_frozen J.out 0;have cg:=I.out;have b6:=O.out;have dl:a4.cell? ⟨G,1,none⟩=some (.int .i64 0):=(blk_cell J.out 1).trans rfl;have cv:=blk_frozen J.out 1;have ch:=I.out;have b7:=O.out;have dm:a4.cell? ⟨G,2,none⟩=some (.slice none 0 0):=(blk_cell J.out 2).trans rfl;have cw:=blk_frozen J.out 2;have ci:=I.out;have b8:=O.out;refine zsk ?_;refine hK.out _ _ ⟨((cell_far (p:=⟨G,_,none⟩) I.out _).trans (((cell_far (p:=⟨G,_,none⟩) I.out _).trans (((cell_far (p:=⟨G,_,none⟩) I.out _).trans (hHeld.1)))))),((cell_far (p:=⟨G,_,none⟩) I.out _).trans (((cell_far (p:=⟨G,_,none⟩) I.out _).trans (((cell_far (p:=⟨G,_,none⟩) I.out _).trans (hHeld.2.1)))))),((cell_far (p:=⟨G,_,none⟩) I.out _).trans (((cell_far (p:=⟨G,_,none⟩) I.out _).trans (((cell_far (p:=⟨G,_,none⟩) I.out _).trans (hHeld.2.2))))))⟩ (fun hHeld=>?_);clear hK K;refine pu 10 (some 8) (mB 11 2047) HT_ ?_;refine done_ (done_of HT_.out zb) ?_
  try go_wp2
  go_ret
  exact⟨rfE,hbA HB.out⟩
def shape_rows_group.l0:Nat->Int->List Int->Int->Int->Int->Int->List Int->Option (Bool)
 |0,_,_,_,_,_,_,_=>none
 |k+1,x1,x8,x9,G,D,I,J=>if G<x9 then(if 0<=G then(if G<(x8.length:Int)then(if(rd x8 G)>=D then(some false)else(if 0<=(rd x8 G)then((shape_rows_hangs.f k D I J (rd x8 G) (Go.bits .andNot .u64 x1 (shl .u64 1 (rd x8 G)))).bind fun L=>(if L=true then(shape_rows_group.l0 k x1 x8 x9 (wrap64 (G+1)) D I J)else(some false)))else(none)))else(none))else(none))else(some true)
def shape_rows_group.f(k:Nat)(G:Int)(I:Int)(J:List Int)(a1:Int):Option (Bool):=(subset_List.f k a1).bind fun D=>(shape_rows_group.l0 k a1 D (D.length:Int) 0 G I J)
def shape_rows_group.T4:Bool×List (List Nat×List Nat):=(true,[([],[]),([],[]),([1],[1]),([2],[2]),([0,3],[0,3]),([4],[4]),([5],[5]),([5],[5]),([5],[5]),([5],[5]),([9,5],[5,9]),([8,10,5],[5,8,10]),([6,7,11,5,5],[5,6,7,11]),([12,5],[5,12]),([5,13],[5,13])])
def shape_rows_group.B4:List Nat:= [0,0,2,6,15,31,63,63,63,63,575,1855,4095,8191,16383]
theorem shape_rows_group.tab4:rtab .any (opsOf Tryd.f61 4)=shape_rows_group.T4:=by kernel_rfl
theorem shape_rows_group.bits4:waitsOk shape_rows_group.T4.2 shape_rows_group.B4=true:=by kernel_rfl
theorem shape_rows_group.calls(k:Nat)(J:Int)(O:Int)(aa:Option Addr)(ab:Nat)(L:List Int)(a1:Int)(r:Bool)(w:World)(an:Kd.C (Kd.int .u8) w aa L.length L)(am:L.length<=ab)(h:shape_rows_group.f k J O L a1=some r)(hT:TabAt 0 Lib.deBruijn64tab w):
 Calls Tryd.prog 61 #[.agg #[.int .i64 J,.int .i64 O,.slice aa L.length ab],.int .u64 a1] w fun e w'=>e= .returned (.bool r)/\Below w.heap.size w w':=by
 have HT:=aK hT;clear hT;have a3:=Tryd.underlying99;have aj:=aK an;have ah:=aK am;clear an am;have HB:=aK (Below.refl w.heap.size w);have H:((subset_List.f k a1).bind fun I=>(shape_rows_group.l0 k a1 I (I.length:Int) 0 J O L))=some r:=h;clear h;obtain⟨I,A3,H⟩:=bindO H
 (try dsimp only at H)
 have H':=aK H;clear H
 go_enter Tryd.func61,Tryd.ntmps61
 go_wp2_with (first|((with_reducible refine gD 2 rfl ?_);refine bE 2 #[.int .i64 J,.int .i64 O,.slice aa L.length ab] 99 ?_;intro U hg w4 hbox hb;have G:=aK (hbox);have ax:=hbS HB hg;have aw:=hbS HB hg;replace HB:=hbB HB hb;clear hb hbox hg)|((with_reducible refine gC 35 rfl ?_);refine cG (some 8) Tryd.func35 #[.int .u64 a1] ?_;(with_reducible refine(subset_List.calls k a1 I _ A3.out (tab_below HT.out zf)).mono ?_);rintro e w5 ⟨a4,rfl,au,hb⟩;refine⟨_,rfl,?_⟩;have ai:=aK (Kd.R_lower au (below_size (hbA HB.out)));replace G:=bkB G hb;replace HB:=hbB HB hb;(try clear hb);(try clear au);obtain⟨av,ay,az⟩:=Kd.R_slice ai.out;subst az))
 go_loopg [10] k (fun kq a2 w'=> ∃(D:Int),a2= .int .i64 D/\Aside0 (shape_rows_group.l0 kq a1 I (I.length:Int) D J O L=some r)/\Aside0 (kq<=k)/\Aside0 (Kd.R (Kd.int .i64) 3 w' w.heap.size (fun _=>True) (.slice av I.length ay) I)/\Aside0 (w'.heap[U]? =some (.cells #[.int .i64 J,.int .i64 O,(.slice aa L.length ab)] 99 (0,0)))/\Aside0 (Below w.heap.size w w'))
 case atStart=>exact⟨(0),rsE,H',⟨Nat.le_refl _⟩,⟨kdA ai.out⟩,⟨bkA G.out⟩,⟨hbA HB.out⟩⟩
 case round=>
  clear H'
  (try clear p2);(try clear c3);(try clear c6)
  obtain⟨D,rfl,HA,ar,HO_8,G,HB⟩:=hrel
  cases gk with
  |zero=>exact absurd HA.out (by simp[shape_rows_group.l0])
  |succ k1=>
   have H:=HA.out;clear HA;simp only[shape_rows_group.l0]at H;by_cases c7:D<(I.length:Int)
   case neg=>
    rw[if_neg c7]at H
    have c7b0:decide (D<(I.length:Int))=false:=decide_eq_false c7;clear c7;obtain rfl:=Option.some.inj H;go_wp2
    go_ret
    exact⟨rfE,hbA HB.out⟩
   rw[if_pos c7]at H
   have c7b0:decide (D<(I.length:Int))=true:=decide_eq_true c7;clear c7;by_cases c8:0<=D
   case neg=>rw[if_neg c8]at H;exact absurd H zd
   rw[if_pos c8]at H
   have c8b0:decide (0<=D)=true:=decide_eq_true c8;clear c8;by_cases c9:D<(I.length:Int)
   case neg=>rw[if_neg c9]at H;exact absurd H zd
   rw[if_pos c9]at H
   have c9b0:decide (D<(I.length:Int))=true:=decide_eq_true c9;clear c9;by_cases ag:(rd I D)>=J
   ·rw[if_pos ag]at H
    have c10b0:decide (J<=(rd I D))=true:=decide_eq_true ag;clear ag;obtain rfl:=Option.some.inj H;have X:0<=(D:Int):=of_decide_eq_true asE;have Y:D<(I.length:Int):=of_decide_eq_true asE;obtain⟨ak,ae,af⟩:=Kd.at_int (Kd.R_reads' HO_8.out).2.2 D X Y
    cases ae
    replace X:=eq_true X;replace Y:=eq_true Y
    try go_wp2
    replace HO_8:=aK (Kd.R_drew HO_8.out);replace G:=aK (blk_drew G.out);replace HB:=aK (below_drew1 HB.out);refine start_ (n:=15) (S:=fun w'=>w'.cell? ⟨U,0,none⟩=some (.int .i64 J)/\w'.cell? ⟨U,1,none⟩=some (.int .i64 O)/\w'.cell? ⟨U,2,none⟩=some (.slice aa L.length ab)) (ds:= []) (.replicate 15 false) zb rfl rfl (z3c G) (fun hHeld=>?_);refine with_tabW shape_rows_group.tab4 shape_rows_group.bits4 (fun HT_ HW_=>?_);generalize wr.drew=a5 at HO_8 G HB hHeld⊢;refine pu 0 (some 14) (mB 15 1) HT_ ?_;refine pu 1 (some 15) (mB 15 3) HT_ ?_;refine pu 2 (some 16) (mB 15 7) HT_ ?_;refine tk3 3 (some 17) (mB 15 15) HT_ HW_ hHeld ?_;refine pu 4 (some 18) (mB 15 31) HT_ ?_;refine pu 5 (some 19) (mB 15 63) HT_ ?_;refine zpo 6 (some 20) (mB 15 127) HT_ ?_;refine zpo 7 (some 21) (mB 15 255) HT_ ?_;refine zpo 8 (some 22) (mB 15 511) HT_ ?_;refine zpo 9 (some 23) (mB 15 1023) HT_ ?_;refine zpo 10 (some 24) (mB 15 2047) HT_ ?_;refine zpo 11 (some 25) (mB 15 4095) HT_ ?_;refine zpo 12 (some 26) (mB 15 8191) HT_ ?_;refine zpo 13 (some 27) (mB 15 16383) HT_ ?_;refine pu 14 (some 28) (mB 15 32767) HT_ ?_;refine done_ (done_of HT_.out zb) ?_
    try go_wp2
    go_ret
    exact⟨rfE,hbA HB.out⟩
   rw[if_neg ag]at H
   have c10b0:decide (J<=(rd I D))=false:=decide_eq_false ag;clear ag;by_cases al:0<=(rd I D)
   case neg=>rw[if_neg al]at H;exact absurd H zd
   rw[if_pos al]at H
   have c12b0:=eq_true al;have c12b1:decide (0<=(rd I D))=true:=decide_eq_true al;clear al;obtain⟨ac,Z⟩: ∃j_:Int,(shl .u64 1 (rd I D))=j_:=⟨_,rfl⟩
   replace H:((shape_rows_hangs.f k1 J O L (rd I D) (Go.bits .andNot .u64 a1 (ac))).bind fun ao=>(if ao=true then(shape_rows_group.l0 k1 a1 I (I.length:Int) (wrap64 (D+1)) J O L)else(some false)))=some r:=by first|(rw[Z]at H;exact H)|(simp only[Z]at H⊢;exact H)
   have hji13_:(IntKind.u64.wrap (1*2^min (rd I D).toNat 64))=ac:=Z;have hji13z:(rd I D)<=64->(IntKind.u64.wrap (1*2^(rd I D).toNat))=ac:=shl_small Z;have hji13u:(IntKind.u64.wrap (2^min (rd I D).toNat 64))=ac:=by have h_:=hji13_;rw[Int.one_mul]at h_;exact h_
   have hji13v:(rd I D)<=64->(IntKind.u64.wrap (2^(rd I D).toNat))=ac:=fun hle_=>by have h_:=hji13z hle_;rw[Int.one_mul]at h_;exact h_
   obtain⟨ao,aq,H⟩:=bindO H
   (try dsimp only at H)
   by_cases ap:ao=true
   case neg=>
    replace ap:=Bool.eq_false_iff.mpr ap;subst ap;rw[if_neg nofT]at H
    obtain rfl:=Option.some.inj H;have X:0<=(D:Int):=of_decide_eq_true asE;have Y:D<(I.length:Int):=of_decide_eq_true asE;obtain⟨ak,ae,af⟩:=Kd.at_int (Kd.R_reads' HO_8.out).2.2 D X Y
    cases ae
    replace X:=eq_true X;replace Y:=eq_true Y
    try go_wp2
    replace HO_8:=aK (Kd.R_drew HO_8.out);replace G:=aK (blk_drew G.out);replace HB:=aK (below_drew1 HB.out);refine start_ (n:=15) (S:=fun w'=>w'.cell? ⟨U,0,none⟩=some (.int .i64 J)/\w'.cell? ⟨U,1,none⟩=some (.int .i64 O)/\w'.cell? ⟨U,2,none⟩=some (.slice aa L.length ab)) (ds:= []) (.replicate 15 false) zb rfl rfl (z3c G) (fun hHeld=>?_);refine with_tabW shape_rows_group.tab4 shape_rows_group.bits4 (fun HT_ HW_=>?_);generalize wr.drew=a8 at HO_8 G HB hHeld⊢;refine pu 0 (some 14) (mB 15 1) HT_ ?_;refine pu 1 (some 15) (mB 15 3) HT_ ?_;refine pu 2 (some 16) (mB 15 7) HT_ ?_;refine tk3 3 (some 17) (mB 15 15) HT_ HW_ hHeld ?_;refine pu 4 (some 18) (mB 15 31) HT_ ?_;refine pu 5 (some 19) (mB 15 63) HT_ ?_;refine pu 7 (some 21) (mB 15 191) HT_ ?_;refine pu 8 (some 22) (mB 15 447) HT_ ?_;refine pu 9 (some 23) (mB 15 959) HT_ ?_;refine pu 10 (some 24) (mB 15 1983) HT_ ?_;refine pu 11 (some 25) (mB 15 4031) HT_ ?_;refine tk3 6 (some 20) (mB 15 4095) HT_ HW_ hHeld ?_;refine zoh 12 (some 26) (mB 15 8191) HT_ fun K hK=>?_;refine goes_ Tryd.func87 zb rfl #[.agg #[.int .i64 J,.int .i64 O,.slice aa L.length ab],.int .i64 (rd I D),.int .u64 (Go.bits .andNot .u64 a1 (ac))] ze rfl rfl (by(try simp only[List.map_toArray,List.map_cons,List.map_nil]);first|done|(simp only[Z];rfl)|rfl|(simp only[List.length_drop,List.length_take];rfl)) ?_;with_reducible refine(shape_rows_hangs.calls k1 J O _ _ L (rd I D) (Go.bits .andNot .u64 a1 (ac)) false _ ?side1 ?side2 aq.out (tab_below HT.out zf)).mono ?_
    (case side1=>exact kcB aj HB)
    (case side2=>exact ah.out)
    rintro e a9 ⟨rfl,hb⟩;refine⟨_,rfl,?_⟩;replace HO_8:=kdB HO_8 hb;replace G:=bkB G hb;replace HB:=hbB HB hb
    (try clear hb)
    (try clear a0)
    (try clear hk)
    (try clear hi)
    refine hK.out _ _ (z3c G) (fun hHeld=>?_);clear hK K;refine znm (some 26) ?_;refine pu 13 (some 27) (mB 15 16383) HT_ ?_;refine pu 14 (some 28) (mB 15 32767) HT_ ?_;refine done_ (done_of HT_.out zb) ?_
    try go_wp2
    go_ret
    exact⟨by first|rfl|(simp[errW_none,errW_some]<;>rfl)|(simp only[<-Z];first|rfl|(simp[errW_none,errW_some]<;>rfl))|(simp[*,errW_none,errW_some]<;>rfl),hbA HB.out⟩
   subst ap;rw[if_pos rfl]at H
   have H':=aK H;clear H;have X:0<=(D:Int):=of_decide_eq_true asE;have Y:D<(I.length:Int):=of_decide_eq_true asE;obtain⟨ak,ae,af⟩:=Kd.at_int (Kd.R_reads' HO_8.out).2.2 D X Y
   cases ae
   replace X:=eq_true X;replace Y:=eq_true Y
   try go_wp2
   replace HO_8:=aK (Kd.R_drew HO_8.out);replace G:=aK (blk_drew G.out);replace HB:=aK (below_drew1 HB.out);refine start_ (n:=15) (S:=fun w'=>w'.cell? ⟨U,0,none⟩=some (.int .i64 J)/\w'.cell? ⟨U,1,none⟩=some (.int .i64 O)/\w'.cell? ⟨U,2,none⟩=some (.slice aa L.length ab)) (ds:= []) (.replicate 15 false) zb rfl rfl (z3c G) (fun hHeld=>?_);refine with_tabW shape_rows_group.tab4 shape_rows_group.bits4 (fun HT_ HW_=>?_);generalize wr.drew=a6 at HO_8 G HB hHeld⊢;refine pu 0 (some 14) (mB 15 1) HT_ ?_;refine pu 1 (some 15) (mB 15 3) HT_ ?_;refine pu 2 (some 16) (mB 15 7) HT_ ?_;refine tk3 3 (some 17) (mB 15 15) HT_ HW_ hHeld ?_;refine pu 4 (some 18) (mB 15 31) HT_ ?_;refine pu 5 (some 19) (mB 15 63) HT_ ?_;refine pu 7 (some 21) (mB 15 191) HT_ ?_;refine pu 8 (some 22) (mB 15 447) HT_ ?_;refine pu 9 (some 23) (mB 15 959) HT_ ?_;refine pu 10 (some 24) (mB 15 1983) HT_ ?_;refine pu 11 (some 25) (mB 15 4031) HT_ ?_;refine tk3 6 (some 20) (mB 15 4095) HT_ HW_ hHeld ?_;refine zoh 12 (some 26) (mB 15 8191) HT_ fun K hK=>?_;refine goes_ Tryd.func87 zb rfl #[.agg #[.int .i64 J,.int .i64 O,.slice aa L.length ab],.int .i64 (rd I D),.int .u64 (Go.bits .andNot .u64 a1 (ac))] ze rfl rfl (by(try simp only[List.map_toArray,List.map_cons,List.map_nil]);first|done|(simp only[Z];rfl)|rfl|(simp only[List.length_drop,List.length_take];rfl)) ?_;with_reducible refine(shape_rows_hangs.calls k1 J O _ _ L (rd I D) (Go.bits .andNot .u64 a1 (ac)) true _ ?side1 ?side2 aq.out (tab_below HT.out zf)).mono ?_
   (case side1=>exact kcB aj HB)
   (case side2=>exact ah.out)
   rintro e a7 ⟨rfl,hb⟩;refine⟨_,rfl,?_⟩;replace HO_8:=kdB HO_8 hb;replace G:=bkB G hb;replace HB:=hbB HB hb
   (try clear hb)
   (try clear a0)
   (try clear hk)
   (try clear hi)
   refine hK.out _ _ (z3c G) (fun hHeld=>?_);clear hK K;refine znm (some 26) ?_;refine pu 13 (some 27) (mB 15 16383) HT_ ?_;refine pu 14 (some 28) (mB 15 32767) HT_ ?_;refine done_ (done_of HT_.out zb) ?_
   try go_wp2
   go_roundg k1
   case measure=>have:=ar.out;omega
   case rel=>exact⟨(wrap64 (D+1)),rsE,H',⟨by have:=ar.out;omega⟩,⟨kdA HO_8.out⟩,⟨bkA G.out⟩,⟨hbA HB.out⟩⟩
def idxP(p:Int->Bool):List Int->Int->Int
 | [],_=> -1
 |x::r,i=>if p x=true then i else idxP p r (i+1)
theorem idxP_any(p:Int->Bool): ∀(l:List Int) (i:Int),0<=i->decide (idxP p l i>=0)=l.any p
 | [],i,_=>rfl
 |x::r,i,hi=>by
  unfold idxP
  cases h:p x
  ·rw[if_neg zd,List.any_cons,h,Bool.false_or];exact idxP_any p r (i+1) za
  ·rw[if_pos rfl,List.any_cons,h,Bool.true_or];exact decide_eq_true hi
theorem idxf.calls(l:List Int)(A:Option Addr)(c:Nat)(p:Int->Bool)(tf:Nat)(caps:Array Value)(w:World)(hr:Kd.C (Kd.int .u64) w A l.length l)(hlen:l.length<=140737488355328)
 (het: ∀args W,(callFunc tf args).run Tryd.prog W= .ok (.enter tf args) W)
 (hp: ∀x∈l,∀W,Below w.heap.size w W->Calls Tryd.prog tf (#[.int .u64 x]++caps) W fun e W'=>e= .returned (.bool (p x))/\Below W.heap.size W W'):
 Calls Tryd.prog 86 #[.slice A l.length c,.func (.func tf) #[] caps] w fun e w'=>e= .returned (.int .i64 (idxP p l 0))/\Below w.heap.size w w':=by
 have HC:=aK hr;have HP:=aK hp;clear hr hp;obtain⟨len,hl⟩: ∃n,n=l.length:=⟨_,rfl⟩
 rw[<-hl]at hlen⊢
 have HL:=aK hl;clear hl
 go_enter Tryd.func86,Tryd.ntmps86
 go_wp2
 go_loopw [8] (fun v wr=> ∃i:Nat,i<=len/\v= .int .i64 i/\Aside0 (idxP p (l.drop i) i=idxP p l 0)/\Aside0 (Below w.heap.size w wr)) (fun v _=>len-(intOf v).toNat)
 case atStart=>exact⟨0,by omega,rfl,⟨rfl⟩,⟨Below.refl _ _⟩⟩
 case round=>
  obtain⟨i,hi,rfl,HI,HB⟩:=hrel;by_cases hlt:i<len
  ·obtain⟨ad,eA,G⟩:=Kd.at_int HC.out (i:Int) za (by have:=HL.out;omega);subst eA;have I:=pw_cell_below HB.out G;have hil:i<l.length:=by have:=HL.out;omega
   have hx:wr.cell? (ad.add i)=some (.int .u64 l[i]):=by
    rw[show l[i] =rd l (i:Int)from by simp[rd,hil]];simpa using I
   have HM:=aK (List.getElem_mem hil);have D:=aK (show(if p l[i] =true then(i:Int)else idxP p (l.drop (i+1)) ((i:Int)+1))=idxP p l 0 by
    have:=HI.out;rw[List.drop_eq_getElem_cons hil]at this
    exact this)
   obtain⟨x,ex⟩: ∃x:Int,x=l[i]:=⟨_,rfl⟩
   rw[<-ex]at hx HM D
   clear ex G I HI hil;have HCall:=aK (fun W hW=>HP.out x HM.out W hW)
   cases hpx:p x
   ·rw[hpx]at HCall D
    go_wp2;refine(HCall.out _ HB.out).mono ?_;rintro e w' ⟨rfl,hb⟩;replace HB:=aK (HB.out.trans (hb.mono HB.out.size));go_wp2
    go_roundw
    case rel=>
     refine⟨i+1,by omega,by go_num,⟨?_⟩,HB⟩;have:=D.out;rw[if_neg zd]at this
     simpa using this
    case measure=>
     simp[intOf];omega
   ·rw[hpx]at HCall D
    go_wp2;refine(HCall.out _ HB.out).mono ?_;rintro e w' ⟨rfl,hb⟩;replace HB:=aK (HB.out.trans (hb.mono HB.out.size));go_wp2
    go_ret
    have:=D.out;rw[if_pos trivial]at this
    exact⟨by rw[<-this];rfl,HB.out⟩
  ·go_wp2
   go_ret
   have:=HI.out;rw[List.drop_eq_nil_of_le (by have:=HL.out;omega)]at this
   exact⟨by rw[<-this];rfl,HB.out⟩
theorem contf.calls(l:List Int)(A:Option Addr)(c:Nat)(p:Int->Bool)(tf:Nat)(caps:Array Value)(w:World)(hr:Kd.C (Kd.int .u64) w A l.length l)(hlen:l.length<=140737488355328)
 (het: ∀args W,(callFunc tf args).run Tryd.prog W= .ok (.enter tf args) W)
 (hp: ∀x∈l,∀W,Below w.heap.size w W->Calls Tryd.prog tf (#[.int .u64 x]++caps) W fun e W'=>e= .returned (.bool (p x))/\Below W.heap.size W W'):
 Calls Tryd.prog 59 #[.slice A l.length c,.func (.func tf) #[] caps] w fun e w'=>e= .returned (.bool (l.any p))/\Below w.heap.size w w':=by
 have HA:=aK (idxP_any p l 0 (Int.le_refl 0));have HI:=aK (idxf.calls l A c p tf caps w hr hlen het hp);clear hp hr
 go_enter Tryd.func59,Tryd.ntmps59
 go_wp2_with (go_at_call 86;refine HI.out.mono ?_;rintro e w' ⟨rfl,hb⟩)
 go_ret
 exact⟨by rw[<-HA.out];rfl,hb⟩
def anyNo(p:Int->Option Bool):List Int->Option Bool
 | []=>some false
 |x::r=>(p x).bind fun t=>(anyNo p r).bind fun u=>some (!t||u)
theorem anyNo_some(p:Int->Option Bool): ∀(l:List Int) (v:Bool),anyNo p l=some v->(∀x∈l,∃t,p x=some t)/\v=l.any (fun x=>p x==some false)
 | [],v,h=>by
  have:v=false:=(Option.some.inj h).symm;subst this;exact⟨fun x hx=>(by cases hx),rfl⟩
 |x::r,v,h=>by
  unfold anyNo at h;obtain⟨t,h1,h⟩:=Option.bind_eq_some_iff.mp h;obtain⟨u,h2,h⟩:=Option.bind_eq_some_iff.mp h;obtain⟨h3,h4⟩:=anyNo_some p r u h2;have h5:=Option.some.inj h;refine⟨fun y hy=>?_,?_⟩
  ·rcases List.mem_cons.1 hy with rfl|hy
   ·exact⟨t,h1⟩
   ·exact h3 y hy
  ·rw[List.any_cons,h1,<-h4,<-h5]
   cases t<;>rfl
theorem shape_fn60.calls(k:Nat)(a b:Int)(A0 A1:Option Addr)(c0 n1 c1:Nat)(l:List Int)(x:Int)(r:Bool)(g:Nat)(w:World)(hb:w.heap[g]? =some (.cells #[.int .i64 a,.int .i64 b,.slice A0 l.length c0,.slice A1 n1 c1] 27 (0,0)))
 (hr:Kd.C (Kd.int .u8) w A0 l.length l) (hc:l.length<=c0) (h:shape_rows_group.f k a b l x=some r) (hT:TabAt 0 Lib.deBruijn64tab w):
 Calls Tryd.prog 60 #[.int .u64 x,.pointer (some ⟨g,0,none⟩)] w fun e w'=>e= .returned (.bool (!r))/\Below w.heap.size w w':=by
 have G:=Tryd.underlying27;have D:=Tryd.underlying24;have I:=Tryd.underlying99;have HR:=aK hr;have HC:=aK hc;have HH:=aK h;have HT:=aK hT;have BK:=aK hb;have HB:=aK (Below.refl w.heap.size w);obtain⟨hcz_0,hcz_1,hcz_2,hcz_3,hfz_0,hfz_1,hfz_2,hfz_3⟩:=cell4 BK;clear hb hr hc h hT
 go_enter Tryd.func60,Tryd.ntmps60
 go_wp2_with (go_at_call 61;refine(shape_rows_group.calls k a b A0 c0 l x r _ (kcB HR HB) HC.out HH.out (tab_below HT.out (hbA HB.out))).mono ?_;rintro e w1 ⟨rfl,hb⟩;replace HB:=hbB HB hb)
 go_ret
 exact⟨rfl,hbA HB.out⟩
def api_Set.f(k:Nat)(l:List Int)(a b:Int)(lg:List Int):Option Bool:=if l.length<=140737488355328 then anyNo (fun x=>shape_rows_group.f k a b lg x) l else none
theorem api_Set.calls(g:Nat)(k:Nat)(A:Option Addr)(c:Nat)(l:List Int)(a b:Int)(A0:Option Addr)(c0:Nat)(lg:List Int)(r:Bool)(w:World)(A1:Option Addr)(n1 c1:Nat)(hb:w.heap[g]? =some (.cells #[.int .i64 a,.int .i64 b,.slice A0 lg.length c0,.slice A1 n1 c1] 27 (0,0)))
 (hr:Kd.C (Kd.int .u64) w A l.length l) (hc:l.length<=c) (hrg:Kd.C (Kd.int .u8) w A0 lg.length lg) (hcg:lg.length<=c0) (h:api_Set.f k l a b lg=some r) (hT:TabAt 0 Lib.deBruijn64tab w):
 Calls Tryd.prog 59 #[.slice A l.length c,.func (.func 60) #[] #[.pointer (some ⟨g,0,none⟩)]] w fun e w'=>e= .returned (.bool r)/\Below w.heap.size w w':=by
 unfold api_Set.f at h;by_cases hl:l.length<=140737488355328
 ·rw[if_pos hl]at h
  obtain⟨h1,h2⟩:=anyNo_some _ l r h;have hlt:g<w.heap.size:=(Array.getElem?_eq_some_iff.1 hb).1;rw[h2];refine contf.calls l A c (fun x=>shape_rows_group.f k a b lg x==some false) 60 #[.pointer (some ⟨g,0,none⟩)] w hr hl (enters_of Tryd.func60 zb rfl) fun x hx W hW=>?_;obtain⟨t,ht⟩:=h1 x hx;rw[show(shape_rows_group.f k a b lg x==some false)= !t from by rw[ht];cases t<;>rfl];exact shape_fn60.calls k a b A0 A1 c0 n1 c1 lg x t g W ((hW.block _ hlt).trans hb) (Kd.C_below hrg hW) hcg ht (tab_below hT hW)
 ·rw[if_neg hl]at h
  cases h
def shape_May.f(k:Nat)(D:Int)(G:Int)(I:List Int)(J:List Int):Option (Bool):=(shape_tall.f D G I).bind fun L=>(if L=true then((api_Set.f k J D G I).bind fun O=>(some (!O)))else(some false))
theorem shape_May.calls(k:Nat)(I:Int)(J:Int)(O:Option Addr)(U:Nat)(G:List Int)(Z:Option Addr)(aa:Nat)(L:List Int)(r:Bool)(w:World)(af:Kd.C (Kd.int .u8) w O G.length G)(ac:G.length<=U)(ag:Kd.C (Kd.int .u64) w Z L.length L)(ae:L.length<=aa)(h:shape_May.f k I J G L=some r)(hT:TabAt 0 Lib.deBruijn64tab w):
 Calls Tryd.prog 30 #[.agg #[.int .i64 I,.int .i64 J,.slice O G.length U,.slice Z L.length aa]] w fun e w'=>e= .returned (.bool r)/\Below w.heap.size w w':=by
 have HT:=aK hT;clear hT;have be:=Tryd.underlying27;have bd:=Tryd.underlying24;have Y:=aK af;have X:=aK ac;clear af ac;have am:=aK ag;have al:=aK ae;clear ag ae;have HB:=aK (Below.refl w.heap.size w);have H:((shape_tall.f I J G).bind fun ah=>(if ah=true then((api_Set.f k L I J G).bind fun ai=>(some (!ai)))else(some false)))=some r:=h;clear h;obtain⟨ah,A2,H⟩:=bindO H
 (try dsimp only at H)
 by_cases c3:ah=true
 ·subst c3;rw[if_pos rfl]at H
  obtain⟨ai,A4,H⟩:=bindO H
  (try dsimp only at H)
  obtain rfl:=Option.some.inj H
  go_enter Tryd.func30,Tryd.ntmps30
  go_wp2_with (first|((with_reducible refine gD 1 rfl ?_);refine bE 1 #[.int .i64 I,.int .i64 J,.slice O G.length U,.slice Z L.length aa] 27 ?_;intro ab hg w5 hbox hb;have D:=aK (hbox);have ak:=hbS HB hg;have aj:=hbS HB hg;replace HB:=hbB HB hb;clear hb hbox hg;obtain⟨ax,ay,az,a0,a5,a6,a7,a8⟩:=cell4 D)|((with_reducible refine gC 58 rfl ?_);refine cG (some 5) Tryd.func58 #[.agg #[.int .i64 I,.int .i64 J,.slice O G.length U]] ?_;(with_reducible refine(shape_tall.calls I J _ _ G true _ ?side1 ?side2 A2.out).mono ?_);(case side1=>exact kcB Y HB);(case side2=>exact X.out);rintro e w7 ⟨rfl,hb⟩;refine⟨_,rfl,?_⟩;replace D:=bkB D hb;replace HB:=hbB HB hb;(try clear hb);obtain⟨a1,a2,a3,a4,a9,ba,bb,bc⟩:=cell4 D)|(go_at_call 59;(with_reducible refine(api_Set.calls ab k _ _ L I J _ _ G ai _ _ _ _ (bkA D.out) ?side1 ?side2 ?side3 ?side4 A4.out (tab_below HT.out zf)).mono ?_);(case side1=>exact kcB am HB);(case side2=>exact al.out);(case side3=>exact kcB Y HB);(case side4=>exact X.out);rintro e w9 ⟨rfl,hb⟩;replace D:=bkB D hb;replace HB:=hbB HB hb;(try clear hb)))
  go_ret
  exact⟨rfE,hbA HB.out⟩
 ·replace c3:=Bool.eq_false_iff.mpr c3;subst c3;rw[if_neg nofT]at H
  obtain rfl:=Option.some.inj H
  go_enter Tryd.func30,Tryd.ntmps30
  go_wp2_with (first|((with_reducible refine gD 1 rfl ?_);refine bE 1 #[.int .i64 I,.int .i64 J,.slice O G.length U,.slice Z L.length aa] 27 ?_;intro ab hg bf hbox hb;have D:=aK (hbox);have ak:=hbS HB hg;have aj:=hbS HB hg;replace HB:=hbB HB hb;clear hb hbox hg;obtain⟨an,ao,ap,aq,ar,au,av,aw⟩:=cell4 D)|((with_reducible refine gC 58 rfl ?_);refine cG (some 5) Tryd.func58 #[.agg #[.int .i64 I,.int .i64 J,.slice O G.length U]] ?_;(with_reducible refine(shape_tall.calls I J _ _ G false _ ?side1 ?side2 A2.out).mono ?_);(case side1=>exact kcB Y HB);(case side2=>exact X.out);rintro e bg ⟨rfl,hb⟩;refine⟨_,rfl,?_⟩;replace D:=bkB D hb;replace HB:=hbB HB hb;(try clear hb)))
  go_ret
  exact⟨rfE,hbA HB.out⟩
def subset_Has.f(a0:Int)(a1:Int):Option (Bool):=if a1>=0 then(if a1<64 then(if 0<=a1 then(some ((Go.bits .and .u64 (shr .u64 a0 a1) 1)==1))else(none))else(some false))else(some false)
theorem subset_Has.calls(a0:Int)(a1:Int)(r:Bool)(w:World)(h:subset_Has.f a0 a1=some r):
 Calls Tryd.prog 31 #[.int .u64 a0,.int .i64 a1] w fun e w'=>e= .returned (.bool r)/\Drawn0 w w':=by
 have H:(if a1>=0 then(if a1<64 then(if 0<=a1 then(some ((Go.bits .and .u64 (shr .u64 a0 a1) 1)==1))else(none))else(some false))else(some false))=some r:=h;clear h;by_cases c3:a1>=0
 ·rw[if_pos c3]at H
  have c3b0:decide (0<=a1)=true:=decide_eq_true c3;clear c3;by_cases c4:a1<64
  ·rw[if_pos c4]at H
   have c4b0:decide (a1<64)=true:=decide_eq_true c4;clear c4;by_cases c5:0<=a1
   ·rw[if_pos c5]at H
    have c5b0:=eq_true c5;have c5b1:decide (0<=a1)=true:=decide_eq_true c5;clear c5;obtain⟨G,D⟩: ∃j_:Int,(shr .u64 a0 a1)=j_:=⟨_,rfl⟩
    replace H:(some ((Go.bits .and .u64 (G) 1)==1))=some r:=by first|(rw[D]at H;exact H)|(simp only[D]at H⊢;exact H)
    have hji6_:(a0 / 2^min a1.toNat 64)=G:=D;have hji6z:a1<=64->(a0 / 2^a1.toNat)=G:=shr_small D;obtain rfl:=Option.some.inj H
    go_enter Tryd.func31,Tryd.ntmps31
    go_wp2
    go_ret
    exact⟨by first|rfl|(simp;done)|(simp only[<-D]<;>(first|rfl|simp))|(simp[*];done),by repeat(first|exact Drawn0.refl _|apply Drawn0.step)⟩
   ·rw[if_neg c5]at H
    exact absurd H zd
  ·rw[if_neg c4]at H
   have c4b0:decide (a1<64)=false:=decide_eq_false c4;clear c4;obtain rfl:=Option.some.inj H
   go_enter Tryd.func31,Tryd.ntmps31
   go_wp2
   go_ret
   exact zD
 ·rw[if_neg c3]at H
  have c3b0:decide (0<=a1)=false:=decide_eq_false c3;clear c3;obtain rfl:=Option.some.inj H
  go_enter Tryd.func31,Tryd.ntmps31
  go_wp2
  go_ret
  exact zD
def local_Group.l0:Nat->Int->List Int->Int->Int->Option (Int×Bool×Int)
 |0,_,_,_,_=>none
 |k+1,x1,G,J,D=>if D<J then(if 0<=D then(if D<(G.length:Int)then((subset_Has.f (rd G D) x1).bind fun I=>(if I=true then(if 0<=x1 then(some (Go.bits .andNot .u64 (rd G D) (shl .u64 1 x1),true,0))else(none))else(local_Group.l0 k x1 G J (wrap64 (D+1)))))else(none))else(none))else(some (0,false,0))
def local_Group.f(k:Nat)(G:Int)(I:Int)(J:List Int)(D:List Int)(a1:Int):Option (Int×Bool×Int):=(shape_May.f k G I J D).bind fun L=>(if L=true then(if a1<0 then(some (0,false,2))else(if a1>=G then(some (0,false,2))else(local_Group.l0 k a1 D (D.length:Int) 0)))else(some (0,false,3)))
theorem local_Group.calls(k:Nat)(J:Int)(O:Int)(X:Option Addr)(Z:Nat)(L:List Int)(Y:Option Addr)(aa:Nat)(D:List Int)(a1:Int)(r1:Int)(r2:Bool)(r3:Int)(w:World)(br:Kd.C (Kd.int .u8) w X L.length L)(aq:L.length<=Z)(bs:Kd.C (Kd.int .u64) w Y D.length D)(ar:D.length<=aa)(h:local_Group.f k J O L D a1=some (r1,r2,r3))(hT:TabAt 0 Lib.deBruijn64tab w):
 Calls Tryd.prog 9 #[.agg #[.int .i64 J,.int .i64 O,.slice X L.length Z,.slice Y D.length aa],.int .i64 a1] w fun e w'=>e= .returned (.tuple #[.int .u64 r1,.bool r2,.int .i64 r3])/\Below w.heap.size w w':=by
 have HT:=aK hT;clear hT;have ck:=Tryd.underlying27;have ai:=aK br;have ag:=aK aq;clear br aq;have ab:=aK bs;have ah:=aK ar;clear bs ar;have HB:=aK (Below.refl w.heap.size w);have H:((shape_May.f k J O L D).bind fun bt=>(if bt=true then(if a1<0 then(some (0,false,2))else(if a1>=J then(some (0,false,2))else(local_Group.l0 k a1 D (D.length:Int) 0)))else(some (0,false,3))))=some (r1,r2,r3):=h;clear h;obtain⟨bt,A3,H⟩:=bindO H
 (try dsimp only at H)
 by_cases c4:bt=true
 case neg=>
  replace c4:=Bool.eq_false_iff.mpr c4;subst c4;rw[if_neg nofT]at H
  obtain⟨rfl,rfl,rfl⟩:=zP3 H
  go_enter Tryd.func9,Tryd.ntmps9
  go_wp2_with (first|((with_reducible refine gD 2 rfl ?_);refine bE 2 #[.int .i64 J,.int .i64 O,.slice X L.length Z,.slice Y D.length aa] 27 ?_;intro aj hg cp hbox hb;have I:=aK (hbox);have am:=hbS HB hg;have al:=hbS HB hg;replace HB:=hbB HB hb;clear hb hbox hg;obtain⟨b9,ca,cb,cd,ce,cf,cg,ch⟩:=cell4 I)|((with_reducible refine gC 30 rfl ?_);refine cG (some 11) Tryd.func30 #[.agg #[.int .i64 J,.int .i64 O,.slice X L.length Z,.slice Y D.length aa]] ?_;(with_reducible refine(shape_May.calls k J O _ _ L _ _ D false _ ?side1 ?side2 ?side3 ?side4 A3.out (tab_below HT.out zf)).mono ?_);(case side1=>exact kcB ai HB);(case side2=>exact ag.out);(case side3=>exact kcB ab HB);(case side4=>exact ah.out);rintro e cq ⟨rfl,hb⟩;refine⟨_,rfl,?_⟩;replace I:=bkB I hb;replace HB:=hbB HB hb;(try clear hb)))
  go_ret3
  exact⟨rfE,hbA HB.out⟩
 subst c4;rw[if_pos rfl]at H
 by_cases c5:a1<0
 ·rw[if_pos c5]at H
  have c5b0:decide (a1<0)=true:=decide_eq_true c5;clear c5;obtain⟨rfl,rfl,rfl⟩:=zP3 H
  go_enter Tryd.func9,Tryd.ntmps9
  go_wp2_with (first|((with_reducible refine gD 2 rfl ?_);refine bE 2 #[.int .i64 J,.int .i64 O,.slice X L.length Z,.slice Y D.length aa] 27 ?_;intro aj hg w6 hbox hb;have I:=aK (hbox);have am:=hbS HB hg;have al:=hbS HB hg;replace HB:=hbB HB hb;clear hb hbox hg;obtain⟨bx,bz,b0,b1,b2,b3,b4,b5⟩:=cell4 I)|((with_reducible refine gC 30 rfl ?_);refine cG (some 11) Tryd.func30 #[.agg #[.int .i64 J,.int .i64 O,.slice X L.length Z,.slice Y D.length aa]] ?_;(with_reducible refine(shape_May.calls k J O _ _ L _ _ D true _ ?side1 ?side2 ?side3 ?side4 A3.out (tab_below HT.out zf)).mono ?_);(case side1=>exact kcB ai HB);(case side2=>exact ag.out);(case side3=>exact kcB ab HB);(case side4=>exact ah.out);rintro e w8 ⟨rfl,hb⟩;refine⟨_,rfl,?_⟩;replace I:=bkB I hb;replace HB:=hbB HB hb;(try clear hb)))
  go_ret3
  exact⟨rfE,hbA HB.out⟩
 rw[if_neg c5]at H
 have c5b0:decide (a1<0)=false:=decide_eq_false c5;clear c5;by_cases c9:a1>=J
 ·rw[if_pos c9]at H
  have c9b0:decide (J<=a1)=true:=decide_eq_true c9;clear c9;obtain⟨rfl,rfl,rfl⟩:=zP3 H
  go_enter Tryd.func9,Tryd.ntmps9
  go_wp2_with (first|((with_reducible refine gD 2 rfl ?_);refine bE 2 #[.int .i64 J,.int .i64 O,.slice X L.length Z,.slice Y D.length aa] 27 ?_;intro aj hg cl hbox hb;have I:=aK (hbox);have am:=hbS HB hg;have al:=hbS HB hg;replace HB:=hbB HB hb;clear hb hbox hg;obtain⟨au,av,aw,ax,bb,bc,bd,be⟩:=cell4 I)|((with_reducible refine gC 30 rfl ?_);refine cG (some 11) Tryd.func30 #[.agg #[.int .i64 J,.int .i64 O,.slice X L.length Z,.slice Y D.length aa]] ?_;(with_reducible refine(shape_May.calls k J O _ _ L _ _ D true _ ?side1 ?side2 ?side3 ?side4 A3.out (tab_below HT.out zf)).mono ?_);(case side1=>exact kcB ai HB);(case side2=>exact ag.out);(case side3=>exact kcB ab HB);(case side4=>exact ah.out);rintro e cm ⟨rfl,hb⟩;refine⟨_,rfl,?_⟩;replace I:=bkB I hb;replace HB:=hbB HB hb;(try clear hb);obtain⟨ay,az,a0,a2,bf,bg,bh,bi⟩:=cell4 I))
  go_ret3
  exact⟨rfE,hbA HB.out⟩
 rw[if_neg c9]at H
 have c9b0:decide (J<=a1)=false:=decide_eq_false c9;clear c9;have H':=aK H;clear H
 go_enter Tryd.func9,Tryd.ntmps9
 go_wp2_with (first|((with_reducible refine gD 2 rfl ?_);refine bE 2 #[.int .i64 J,.int .i64 O,.slice X L.length Z,.slice Y D.length aa] 27 ?_;intro aj hg cn hbox hb;have I:=aK (hbox);have am:=hbS HB hg;have al:=hbS HB hg;replace HB:=hbB HB hb;clear hb hbox hg;obtain⟨a3,a4,a5,a6,bj,bk,bl,bm⟩:=cell4 I)|((with_reducible refine gC 30 rfl ?_);refine cG (some 11) Tryd.func30 #[.agg #[.int .i64 J,.int .i64 O,.slice X L.length Z,.slice Y D.length aa]] ?_;(with_reducible refine(shape_May.calls k J O _ _ L _ _ D true _ ?side1 ?side2 ?side3 ?side4 A3.out (tab_below HT.out zf)).mono ?_);(case side1=>exact kcB ai HB);(case side2=>exact ag.out);(case side3=>exact kcB ab HB);(case side4=>exact ah.out);rintro e co ⟨rfl,hb⟩;refine⟨_,rfl,?_⟩;replace I:=bkB I hb;replace HB:=hbB HB hb;(try clear hb);obtain⟨a7,a8,a9,ba,bn,bo,bp,bq⟩:=cell4 I))
 go_loopg [26] k (fun kq cj w'=> ∃(G:Int),cj= .int .i64 G/\Aside0 (local_Group.l0 kq a1 D (D.length:Int) G=some (r1,r2,r3))/\Aside0 (kq<=k)/\Aside0 (w'.heap[aj]? =some (.cells #[.int .i64 J,.int .i64 O,(.slice X L.length Z),(.slice Y D.length aa)] 27 (0,0)))/\Aside0 (Below w.heap.size w w'))
 case atStart=>exact⟨(0),rsE,H',⟨Nat.le_refl _⟩,⟨bkA I.out⟩,⟨hbA HB.out⟩⟩
 case round=>
  clear H'
  (try clear p2);(try clear c3);(try clear c4);(try clear c5);(try clear c5b0);(try clear c9);(try clear c9b0);(try clear au av aw ax bb bc bd be);(try clear ay az a0 a2 bf bg bh bi);(try clear a3 a4 a5 a6 bj bk bl bm);(try clear a7 a8 a9 ba bn bo bp bq);(try clear bx bz b0 b1 b2 b3 b4 b5)
  obtain⟨G,rfl,HA,b8,I,HB⟩:=hrel
  cases gk with
  |zero=>exact absurd HA.out (by simp[local_Group.l0])
  |succ k1=>
   have H:=HA.out;clear HA;simp only[local_Group.l0]at H;by_cases an:G<(D.length:Int)
   case neg=>
    rw[if_neg an]at H
    have c18b0:decide (G<(D.length:Int))=false:=decide_eq_false an;clear an;obtain⟨rfl,rfl,rfl⟩:=zP3 H;go_wp2
    go_ret3
    exact⟨rfE,hbA HB.out⟩
   rw[if_pos an]at H
   have c18b0:decide (G<(D.length:Int))=true:=decide_eq_true an;clear an;by_cases bu:0<=G
   case neg=>rw[if_neg bu]at H;exact absurd H zd
   rw[if_pos bu]at H
   have c19b0:decide (0<=G)=true:=decide_eq_true bu;clear bu;by_cases bv:G<(D.length:Int)
   case neg=>rw[if_neg bv]at H;exact absurd H zd
   rw[if_pos bv]at H
   have c20b0:decide (G<(D.length:Int))=true:=decide_eq_true bv;clear bv;obtain⟨ci,b6,H⟩:=bindO H
   (try dsimp only at H)
   by_cases bw:ci=true
   case neg=>
    replace bw:=Bool.eq_false_iff.mpr bw;subst bw;rw[if_neg nofT]at H
    have H':=aK H;clear H;have ae:0<=(G:Int):=of_decide_eq_true asE;have af:G<(D.length:Int):=of_decide_eq_true asE;obtain⟨b7,ap,U⟩:=Kd.at_int ab.out G ae af
    cases ap
    replace U:=(HB.out.cell (World.block_lt_of_cell? w _ U)).trans U;replace ae:=eq_true ae;replace af:=eq_true af
    go_wp2_with (first|((with_reducible refine gC 31 rfl ?_);refine cG (some 32) Tryd.func31 #[.int .u64 (rd D G),.int .i64 a1] ?_;(with_reducible refine(subset_Has.calls (rd D G) a1 false _ b6.out).mono ?_);rintro e w' ⟨rfl,⟨nd,rfl⟩⟩;refine⟨_,rfl,?_⟩))
    go_roundg k1
    case measure=>have:=b8.out;omega
    case rel=>exact⟨(wrap64 (G+1)),rsE,H',⟨by have:=b8.out;omega⟩,⟨bkA I.out⟩,⟨hbA HB.out⟩⟩
   subst bw;rw[if_pos rfl]at H
   by_cases ao:0<=a1
   case neg=>rw[if_neg ao]at H;exact absurd H zd
   rw[if_pos ao]at H
   have c23b0:=eq_true ao;have c23b1:decide (0<=a1)=true:=decide_eq_true ao;clear ao;obtain⟨ak,ac⟩: ∃j_:Int,(shl .u64 1 a1)=j_:=⟨_,rfl⟩
   replace H:(some (Go.bits .andNot .u64 (rd D G) (ak),true,0))=some (r1,r2,r3):=by first|(rw[ac]at H;exact H)|(simp only[ac]at H⊢;exact H)
   (try rw[ac]at b6)
   have hji24_:(IntKind.u64.wrap (1*2^min a1.toNat 64))=ak:=ac;have hji24z:a1<=64->(IntKind.u64.wrap (1*2^a1.toNat))=ak:=shl_small ac;have hji24u:(IntKind.u64.wrap (2^min a1.toNat 64))=ak:=by have h_:=hji24_;rw[Int.one_mul]at h_;exact h_
   have hji24v:a1<=64->(IntKind.u64.wrap (2^a1.toNat))=ak:=fun hle_=>by have h_:=hji24z hle_;rw[Int.one_mul]at h_;exact h_
   obtain⟨rfl,rfl,rfl⟩:=zP3 H;have ae:0<=(G:Int):=of_decide_eq_true asE;have af:G<(D.length:Int):=of_decide_eq_true asE;obtain⟨b7,ap,U⟩:=Kd.at_int ab.out G ae af
   cases ap
   replace U:=(HB.out.cell (World.block_lt_of_cell? w _ U)).trans U;replace ae:=eq_true ae;replace af:=eq_true af
   go_wp2_with (first|((with_reducible refine gC 31 rfl ?_);refine cG (some 32) Tryd.func31 #[.int .u64 (rd D G),.int .i64 a1] ?_;(with_reducible refine(subset_Has.calls (rd D G) a1 true _ b6.out).mono ?_);rintro e w' ⟨rfl,⟨nd,rfl⟩⟩;refine⟨_,rfl,?_⟩))
   go_ret3
   exact⟨by first|rfl|(simp[errW_none,errW_some]<;>rfl)|(simp only[<-ac];first|rfl|(simp[errW_none,errW_some]<;>rfl))|(simp[*,errW_none,errW_some]<;>rfl),hbA HB.out⟩
def matroid_pick.f(k:Nat)(G:Int)(I:Int)(J:List Int)(a1:Int):Option (Int×Int×List Int×Int):=(matrix_Right.f G I J).bind fun L=>(if L=true then((subset_List.f k a1).bind fun O=>((matrix_Pick.f G I J O).bind fun D=>(some (D.1,D.2.1,D.2.2.1,D.2.2.2))))else(some (0,0,([]:List Int),3)))
theorem matroid_pick.mono: ∀a0 a1 a2 a3 k,LeO (matroid_pick.f k a0 a1 a2 a3) (matroid_pick.f (k+1) a0 a1 a2 a3):=by
 intro a0 a1 a2 a3 k;unfold matroid_pick.f
 with_reducible repeat' first|exact subset_List.mono _ _|exact LeO.refl _|exact LeO.none _|refine LeO.ite ?_ ?_|refine LeO.bind ?_ (fun _=>?_)
def matroid_pick.T3:Bool×List (List Nat×List Nat):=(true,[([],[]),([],[]),([1],[1]),([0,2,2],[0,2]),([3],[3]),([3],[3]),([4,3,0,1,2,3,4,5],[4]),([5,6,0,1,2,3,4,5,6],[5])])
def matroid_pick.B3:List Nat:= [0,0,2,7,15,15,63,127]
theorem matroid_pick.tab3:rtab .any (opsOf Tryd.f102 3)=matroid_pick.T3:=by kernel_rfl
theorem matroid_pick.bits3:waitsOk matroid_pick.T3.2 matroid_pick.B3=true:=by kernel_rfl
theorem matroid_pick.calls(k:Nat)(U:Int)(X:Int)(Y:Option Addr)(Z:Nat)(O:List Int)(a1:Int)(r1:Int)(r2:Int)(r3:List Int)(r4:Int)(w:World)(am:Kd.C (Kd.int .u8) w Y O.length O)(ak:O.length<=Z)(h:matroid_pick.f k U X O a1=some (r1,r2,r3,r4))(hT:TabAt 0 Lib.deBruijn64tab w):
 Calls Tryd.prog 102 #[.agg #[.int .i64 U,.int .i64 X,.slice Y O.length Z],.int .u64 a1] w fun e w'=> ∃v2_:Value,e= .returned (.tuple #[.agg #[.int .i64 r1,.int .i64 r2,v2_],.int .i64 r4])/\Kd.R (Kd.int .u8) 5 w' w.heap.size (fun _=>True) v2_ r3/\Below w.heap.size w w':=by
 have HT:=aK hT;clear hT;have b5:=Tryd.underlying24;have ah:=aK am;have ag:=aK ak;clear am ak;have HB:=aK (Below.refl w.heap.size w);have H:((matrix_Right.f U X O).bind fun an=>(if an=true then((subset_List.f k a1).bind fun ae=>((matrix_Pick.f U X O ae).bind fun ab=>(some (ab.1,ab.2.1,ab.2.2.1,ab.2.2.2))))else(some (0,0,([]:List Int),3))))=some (r1,r2,r3,r4):=h;clear h;obtain⟨an,A3,H⟩:=bindO H
 (try dsimp only at H)
 by_cases c4:an=true
 ·subst c4;rw[if_pos rfl]at H
  obtain⟨ae,A5,H⟩:=bindO H
  (try dsimp only at H)
  obtain⟨⟨af,ai,ao,br⟩,A6,H⟩:=bindO H
  (try dsimp only at H)
  obtain⟨rfl,rfl,rfl,rfl⟩:=zP4 H
  go_enter Tryd.func102,Tryd.ntmps102
  try go_wp2_with (first|((with_reducible refine gD 2 rfl ?_);refine bE 2 #[.int .i64 U,.int .i64 X,.slice Y O.length Z] 24 ?_;intro ac hg w7 hbox hb;have D:=aK (hbox);have ax:=hbS HB hg;have av:=hbS HB hg;replace HB:=hbB HB hb;clear hb hbox hg)|((with_reducible refine gD 4 rfl ?_);refine bE 4 #[.int .i64 0,.int .i64 0,.slice none 0 0] 24 ?_;intro J hg w8 hbox hb;have I:=aK (hbox);have ay:=hbS HB hg;have aw:=hbS HB hg;replace HB:=hbB HB hb;have G:=neL D hg;have L:=neG D hg;replace D:=bkB D hb;clear hb hbox hg;have b0:=G.out;have b1:=L.out;obtain⟨a3,a4,a5,bc,bd,be⟩:=cell3 D)|((with_reducible refine gC 56 rfl ?_);refine cG (some 7) Tryd.func56 #[.agg #[.int .i64 U,.int .i64 X,.slice Y O.length Z]] ?_;(with_reducible refine(matrix_Right.calls U X _ _ O true _ ?side1 ?side2 A3.out).mono ?_);(case side1=>exact kcB ah HB);(case side2=>exact ag.out);rintro e bz ⟨rfl,hb⟩;refine⟨_,rfl,?_⟩;replace D:=bkB D hb;replace I:=bkB I hb;replace HB:=hbB HB hb;(try clear hb)))
  replace D:=aK (blk_drew D.out);replace I:=aK (blk_drew I.out);replace HB:=aK (below_drew1 HB.out);refine start_ (n:=8) (S:=fun w'=>w'.cell? ⟨ac,0,none⟩=some (.int .i64 U)/\w'.cell? ⟨ac,1,none⟩=some (.int .i64 X)/\w'.cell? ⟨ac,2,none⟩=some (.slice Y O.length Z)) (ds:= []) (.replicate 8 false) zb rfl rfl (z3c D) (fun hHeld=>?_);refine with_tabW matroid_pick.tab3 matroid_pick.bits3 (fun HT_ HW_=>?_);generalize bz.drew=b8 at D I HB hHeld⊢;refine pu 1 (some 11) (mB 8 2) HT_ ?_;refine tk3 0 (some 10) (mB 8 3) HT_ HW_ hHeld ?_;refine zoh 2 (some 12) (mB 8 7) HT_ fun K hK=>?_;refine goes_ Tryd.func35 zb rfl #[.int .u64 a1] ze rfl rfl (by(try simp only[List.map_toArray,List.map_cons,List.map_nil]);first|done|rfl|(simp only[List.length_drop,List.length_take];rfl)) ?_;with_reducible refine(subset_List.calls k a1 ae _ A5.out (tab_below HT.out zf)).mono ?_
  rintro e b9 ⟨b6,rfl,al,hb⟩;refine⟨_,rfl,?_⟩;have aa:=aK (Kd.R_lower al (below_size (hbA HB.out)));replace D:=bkB D hb;replace I:=bkB I hb;replace HB:=hbB HB hb
  (try clear hb)
  (try clear bs)
  (try clear hk)
  (try clear hi)
  (try clear al)
  obtain⟨a0,a2,ar⟩:=Kd.R_slice aa.out
  (first|subst ar|(injection ar with f1_ f2_ f3_;have f4_:=f1_.symm;have f5_:=f3_.symm;clear f1_ f2_ f3_;subst f4_;subst f5_))
  refine hK.out _ _ (z3c D) (fun hHeld=>?_);clear hK K;refine znm (some 12) ?_;refine zoh 3 (some 13) (mB 8 15) HT_ fun K hK=>?_;refine goes_ Tryd.func34 zb rfl #[.agg #[.int .i64 U,.int .i64 X,.slice Y O.length Z],.slice a0 ae.length a2] ze rfl rfl (by(try simp only[List.map_toArray,List.map_cons,List.map_nil]);first|done|rfl|(simp only[List.length_drop,List.length_take];rfl)) ?_;with_reducible refine(matrix_Pick.calls U X _ _ O _ _ ae af ai ao br _ ?side1 ?side2 ?side3 ?side4 A6.out).mono ?_
  (case side1=>exact kcB ah HB)
  (case side2=>exact ag.out)
  (case side3=>exact kcA (Kd.R_reads' aa.out).2.2)
  (case side4=>exact(Kd.R_reads' aa.out).2.1)
  rintro e az ⟨b7,rfl,al,hb⟩;refine⟨_,rfl,?_⟩;replace aa:=kdB aa hb;have aj:=aK (Kd.R_lower al (below_size (hbA HB.out)));replace D:=bkB D hb;replace I:=bkB I hb;replace HB:=hbB HB hb
  (try clear hb)
  (try clear bs)
  (try clear hk)
  (try clear hi)
  (try clear al)
  obtain⟨ap,aq,au⟩:=Kd.R_slice aj.out
  (first|subst au|(injection au with f1_ f2_ f3_;have f4_:=f1_.symm;have f5_:=f3_.symm;clear f1_ f2_ f3_;subst f4_;subst f5_))
  refine hK.out _ _ (z3c D) (fun hHeld=>?_);clear hK K;refine znm (some 13) ?_;refine pu 4 (some 14) (mB 8 31) HT_ ?_;refine pu 5 (some 15) (mB 8 63) HT_ ?_;refine zoh 6 (none) (mB 8 127) HT_ fun K hK=>?_;have b2:az.cell? ⟨J,0,none⟩=some (.int .i64 0):=(blk_cell I.out 0).trans rfl;have bt:=blk_frozen I.out 0;have bo:=G.out;have bl:=L.out;have b3:az.cell? ⟨J,1,none⟩=some (.int .i64 0):=(blk_cell I.out 1).trans rfl;have bu:=blk_frozen I.out 1;have bp:=G.out;have bm:=L.out;have b4:az.cell? ⟨J,2,none⟩=some (.slice none 0 0):=(blk_cell I.out 2).trans rfl;have bv:=blk_frozen I.out 2;have bq:=G.out;have bn:=L.out;refine zsk ?_;refine hK.out _ _ ⟨((cell_far (p:=⟨J,_,none⟩) G.out _).trans (((cell_far (p:=⟨J,_,none⟩) G.out _).trans (((cell_far (p:=⟨J,_,none⟩) G.out _).trans (hHeld.1)))))),((cell_far (p:=⟨J,_,none⟩) G.out _).trans (((cell_far (p:=⟨J,_,none⟩) G.out _).trans (((cell_far (p:=⟨J,_,none⟩) G.out _).trans (hHeld.2.1)))))),((cell_far (p:=⟨J,_,none⟩) G.out _).trans (((cell_far (p:=⟨J,_,none⟩) G.out _).trans (((cell_far (p:=⟨J,_,none⟩) G.out _).trans (hHeld.2.2))))))⟩ (fun hHeld=>?_);clear hK K;refine pu 7 (some 5) (mB 8 255) HT_ ?_;refine done_ (done_of HT_.out zb) ?_
  try go_wp2
  refine bodyPost_ret (results_ct rfl _ _ J 24 #[.int .i64 af,.int .i64 ai,.slice ap ao.length aq] (0,0) _ rfl (by refine bkR ?_;refine blk_put (cs:= #[.int .i64 af,.int .i64 ai,.slice none 0 0]) ?_ 2 _ rfl;refine bkR ?_;refine blk_put (cs:= #[.int .i64 af,.int .i64 0,.slice none 0 0]) ?_ 1 _ rfl;refine bkR ?_;refine blk_put (cs:= #[.int .i64 0,.int .i64 0,.slice none 0 0]) ?_ 0 _ rfl;refine bkR ?_;exact I.out) Tryd.underlying24 rfl zb) rfl ?_;exact⟨_,rfE,by(with_reducible repeat(first|apply Kd.R_alloc|apply Kd.R_drewN|apply Kd.R_drew));exact Kd.R_mono (Kd.R_far (p:=⟨J,2,none⟩) (Kd.R_far (p:=⟨J,1,none⟩) (Kd.R_far (p:=⟨J,0,none⟩) (Kd.R_types aj.out I.out zc) (fun _ hk=>hk.2) (.int .i64 af)) (fun _ hk=>hk.2) (.int .i64 ai)) (fun _ hk=>hk.2) (.slice ap ao.length aq)) (fun _ hk=>trivial),hbA HB.out⟩
 ·replace c4:=Bool.eq_false_iff.mpr c4;subst c4;rw[if_neg nofT]at H
  obtain⟨rfl,rfl,rfl,rfl⟩:=zP4 H
  go_enter Tryd.func102,Tryd.ntmps102
  go_wp2_with (first|((with_reducible refine gD 2 rfl ?_);refine bE 2 #[.int .i64 U,.int .i64 X,.slice Y O.length Z] 24 ?_;intro ac hg ca hbox hb;have D:=aK (hbox);have ax:=hbS HB hg;have av:=hbS HB hg;replace HB:=hbB HB hb;clear hb hbox hg)|((with_reducible refine gD 4 rfl ?_);refine bE 4 #[.int .i64 0,.int .i64 0,.slice none 0 0] 24 ?_;intro J hg cb hbox hb;have I:=aK (hbox);have ay:=hbS HB hg;have aw:=hbS HB hg;replace HB:=hbB HB hb;have G:=neL D hg;have L:=neG D hg;replace D:=bkB D hb;clear hb hbox hg;have bw:=G.out;have bx:=L.out;obtain⟨a6,a7,a8,bf,bg,bh⟩:=cell3 D)|((with_reducible refine gC 56 rfl ?_);refine cG (some 7) Tryd.func56 #[.agg #[.int .i64 U,.int .i64 X,.slice Y O.length Z]] ?_;(with_reducible refine(matrix_Right.calls U X _ _ O false _ ?side1 ?side2 A3.out).mono ?_);(case side1=>exact kcB ah HB);(case side2=>exact ag.out);rintro e cd ⟨rfl,hb⟩;refine⟨_,rfl,?_⟩;replace D:=bkB D hb;replace I:=bkB I hb;replace HB:=hbB HB hb;(try clear hb);obtain⟨a9,ba,bb,bi,bj,bk⟩:=cell3 I))
  refine bodyPost_ret (results_ct rfl _ _ J 24 #[.int .i64 0,.int .i64 0,.slice none 0 0] (0,0) _ rfl (by refine bkR ?_;refine blk_put (cs:= #[.int .i64 0,.int .i64 0,.slice none 0 0]) ?_ 2 _ rfl;refine bkR ?_;refine blk_put (cs:= #[.int .i64 0,.int .i64 0,.slice none 0 0]) ?_ 1 _ rfl;refine bkR ?_;refine blk_put (cs:= #[.int .i64 0,.int .i64 0,.slice none 0 0]) ?_ 0 _ rfl;refine bkR ?_;exact I.out) Tryd.underlying24 rfl zb) rfl ?_;exact⟨_,rfE,nilE,hbA HB.out⟩
def gauss_Rank.f(G:Int)(I:Int)(J:List Int):Option (Int×Int):=(gauss_Reduce.f G I J).bind fun D=>(some ((D.2.2.2.1.length:Int),D.2.2.2.2))
theorem gauss_Rank.calls(I:Int)(J:Int)(L:Option Addr)(O:Nat)(G:List Int)(r1:Int)(r2:Int)(w:World)(ae:Kd.C (Kd.int .u8) w L G.length G)(ac:G.length<=O)(h:gauss_Rank.f I J G=some (r1,r2)):
 Calls Tryd.prog 103 #[.agg #[.int .i64 I,.int .i64 J,.slice L G.length O]] w fun e w'=>e= .returned (.tuple #[.int .i64 r1,.int .i64 r2])/\Below w.heap.size w w':=by
 have bf:=Tryd.underlying24;have ah:=aK ae;have ag:=aK ac;clear ae ac;have HB:=aK (Below.refl w.heap.size w);have H:((gauss_Reduce.f I J G).bind fun aa=>(some ((aa.2.2.2.1.length:Int),aa.2.2.2.2)))=some (r1,r2):=h;clear h;obtain⟨⟨am,an,ao,ap,aq⟩,A2,H⟩:=bindO H
 (try dsimp only at H)
 obtain⟨rfl,rfl⟩:=zP2 H
 go_enter Tryd.func103,Tryd.ntmps103
 go_wp2_with (first|((with_reducible refine gD 1 rfl ?_);refine bE 1 #[.int .i64 I,.int .i64 J,.slice L G.length O] 24 ?_;intro ab hg w3 hbox hb;have D:=aK (hbox);have a8:=hbS HB hg;have a6:=hbS HB hg;replace HB:=hbB HB hb;clear hb hbox hg;obtain⟨au,av,aw,a0,a1,a2⟩:=cell3 D)|((with_reducible refine gC 90 rfl ?_);refine cG (some 9) Tryd.func90 #[.agg #[.int .i64 I,.int .i64 J,.slice L G.length O]] ?_;(with_reducible refine(gauss_Reduce.calls I J _ _ G am an ao ap aq _ ?side1 ?side2 A2.out).mono ?_);(case side1=>exact kcB ah HB);(case side2=>exact ag.out);rintro e w5 ⟨bg,ar,rfl,ak,al,hb⟩;refine⟨_,rfl,?_⟩;have U:=aK (Kd.V_lower (Kd.V_mono (ok':=fun k_=>some k_≠(ar:Value).ownBlock/\k_≠ab) ak (fun k_ hk_=>⟨hk_.2,(Kd.freshB (g:=ab) (o:= .cells #[.int .i64 I,.int .i64 J,.slice L G.length O] 24 (0,0)) (bkA D.out) k_ hk_.1)⟩)) (below_size (hbA HB.out)));have X:=aK (Kd.R_lower (Kd.R_mono (ok':=fun k_=>True) al (fun _ hk_=>trivial)) (below_size (hbA HB.out)));replace D:=bkB D hb;replace HB:=hbB HB hb;(try clear hb);(try clear ak);(try clear al))|((with_reducible refine gD 4 rfl ?_);refine bE 4 #[.int .i64 0,.int .i64 0,.slice none 0 0] 24 ?_;intro ai hg w6 hbox hb;replace U:=aK (Kd.V_below (Kd.V_elderB (by(with_reducible repeat(first|apply Kd.V_alloc|apply Kd.V_drewN|apply Kd.V_drew));exact U.out) ai (Nat.le_of_eq hg.symm)) hb);replace X:=kdB X hb;have af:=aK (hbox);have a9:=hbS HB hg;have a7:=hbS HB hg;replace HB:=hbB HB hb;have Y:=neL D hg;have Z:=neG D hg;replace D:=bkB D hb;clear hb hbox hg;have bd:=Z.out;have be:=Y.out;obtain⟨ax,ay,az,a3,a4,a5⟩:=cell3 af;obtain⟨bh,bi,ba⟩:=Kd.V_slice U.out;subst ba;obtain⟨bb,bc,aj⟩:=Kd.R_slice X.out;subst aj))
 go_ret2
 exact⟨rfE,hbA HB.out⟩
def matroid_Rank.f(k:Nat)(I:Int)(J:Int)(L:List Int)(a1:Int):Option (Int×Int):=(matroid_pick.f k I J L a1).bind fun D=>(if D.2.2.2=0 then((gauss_Rank.f D.1 D.2.1 D.2.2.1).bind fun G=>(some (G.1,G.2)))else(some (0,D.2.2.2)))
theorem matroid_Rank.mono: ∀a0 a1 a2 a3 k,LeO (matroid_Rank.f k a0 a1 a2 a3) (matroid_Rank.f (k+1) a0 a1 a2 a3):=by
 intro a0 a1 a2 a3 k;unfold matroid_Rank.f
 with_reducible repeat' first|exact matroid_pick.mono _ _ _ _ _|exact LeO.refl _|exact LeO.none _|refine LeO.ite ?_ ?_|refine LeO.bind ?_ (fun _=>?_)
theorem matroid_Rank.calls(k:Nat)(L:Int)(O:Int)(ab:Option Addr)(ae:Nat)(J:List Int)(a1:Int)(r1:Int)(r2:Int)(w:World)(ap:Kd.C (Kd.int .u8) w ab J.length J)(an:J.length<=ae)(h:matroid_Rank.f k L O J a1=some (r1,r2))(hT:TabAt 0 Lib.deBruijn64tab w):
 Calls Tryd.prog 89 #[.agg #[.int .i64 L,.int .i64 O,.slice ab J.length ae],.int .u64 a1] w fun e w'=>e= .returned (.tuple #[.int .i64 r1,.int .i64 r2])/\Below w.heap.size w w':=by
 have HT:=aK hT;clear hT;have bw:=Tryd.underlying24;have aj:=aK ap;have ai:=aK an;clear ap an;have HB:=aK (Below.refl w.heap.size w);have H:((matroid_pick.f k L O J a1).bind fun ac=>(if ac.2.2.2=0 then((gauss_Rank.f ac.1 ac.2.1 ac.2.2.1).bind fun ak=>(some (ak.1,ak.2)))else(some (0,ac.2.2.2))))=some (r1,r2):=h;clear h;obtain⟨⟨Y,Z,aa,af⟩,A3,H⟩:=bindO H
 (try dsimp only at H)
 by_cases c4:af=0
 ·rw[if_pos c4]at H
  have c4b0:(af==0)=true:=beq_iff_eq.mpr c4;have c4b1:(af !=0)=false:=bne_eq_false_iff_eq.mpr c4;clear c4;obtain⟨⟨bh,bi⟩,A5,H⟩:=bindO H
  (try dsimp only at H)
  obtain⟨rfl,rfl⟩:=zP2 H
  go_enter Tryd.func89,Tryd.ntmps89
  go_wp2_with (first|((with_reducible refine gD 2 rfl ?_);refine bE 2 #[.int .i64 L,.int .i64 O,.slice ab J.length ae] 24 ?_;intro al hg w6 hbox hb;have D:=aK (hbox);have au:=hbS HB hg;have aq:=hbS HB hg;replace HB:=hbB HB hb;clear hb hbox hg;obtain⟨bk,bl,bm,bn,bo,bp⟩:=cell3 D)|((with_reducible refine gC 102 rfl ?_);refine cG (some 11) Tryd.func102 #[.agg #[.int .i64 L,.int .i64 O,.slice ab J.length ae],.int .u64 a1] ?_;(with_reducible refine(matroid_pick.calls k L O _ _ J a1 Y Z aa af _ ?side1 ?side2 A3.out (tab_below HT.out zf)).mono ?_);(case side1=>exact kcB aj HB);(case side2=>exact ai.out);rintro e w8 ⟨bj,rfl,ao,hb⟩;refine⟨_,rfl,?_⟩;have I:=aK (Kd.R_lower ao (below_size (hbA HB.out)));replace D:=bkB D hb;replace HB:=hbB HB hb;(try clear hb);(try clear ao))|((with_reducible refine gD 6 rfl ?_);refine bE 6 #[.int .i64 0,.int .i64 0,.slice none 0 0] 24 ?_;intro am hg w9 hbox hb;replace I:=kdB I hb;have U:=aK (hbox);have av:=hbS HB hg;have ar:=hbS HB hg;replace HB:=hbB HB hb;have G:=neL D hg;have X:=neG D hg;replace D:=bkB D hb;clear hb hbox hg;have bq:=X.out;have bs:=G.out;obtain⟨ay,az,a0,a8,a9,ba⟩:=cell3 U;obtain⟨ah,ag,aw⟩:=Kd.R_slice I.out;subst aw)|((with_reducible refine gC 103 rfl ?_);refine cG (some 18) Tryd.func103 #[.agg #[.int .i64 Y,.int .i64 Z,.slice ah aa.length ag]] ?_;(with_reducible refine(gauss_Rank.calls Y Z _ _ aa bh bi _ ?side1 ?side2 A5.out).mono ?_);(case side1=>refine(Kd.R_reads' (e:=5) (base:=w.heap.size) (ok:=fun k_=>True) (n:=aa.length) (c:=ag) ?_).2.2;exact(by(with_reducible repeat(first|apply Kd.R_alloc|apply Kd.R_drewN|apply Kd.R_drew));exact(zF I.out U.out  (.int .i64 Y)  (.int .i64 Z)  (.slice ah aa.length ag))));(case side2=>exact(Kd.R_reads' I.out).2.1);rintro e bx ⟨rfl,hb⟩;refine⟨_,rfl,?_⟩;replace I:=aK (Kd.R_below (by(with_reducible repeat(first|apply Kd.R_alloc|apply Kd.R_drewN|apply Kd.R_drew));exact(zF I.out U.out  (.int .i64 Y)  (.int .i64 Z)  (.slice ah aa.length ag))) hb);replace D:=aK (blk_below (g:=al) (o:= .cells #[.int .i64 L,.int .i64 O,.slice ab J.length ae] 24 (0,0)) zt hb);replace U:=aK (blk_below (g:=am) (o:= .cells #[.int .i64 Y,.int .i64 Z,.slice ah aa.length ag] 24 (0,0)) (by refine bkR ?_;refine blk_put (cs:= #[.int .i64 Y,.int .i64 Z,.slice none 0 0]) ?_ 2 _ rfl;refine bkR ?_;refine blk_put (cs:= #[.int .i64 Y,.int .i64 0,.slice none 0 0]) ?_ 1 _ rfl;refine bkR ?_;refine blk_put (cs:= #[.int .i64 0,.int .i64 0,.slice none 0 0]) ?_ 0 _ rfl;refine bkR ?_;exact U.out) hb);replace HB:=hbB HB hb;(try clear hb)))
  go_ret2
  exact⟨rfE,hbA HB.out⟩
 ·rw[if_neg c4]at H
  have c4b0:(af==0)=false:=beq_eq_false_iff_ne.mpr c4;have c4b1:(af !=0)=true:=bne_iff_ne.mpr c4;obtain⟨rfl,rfl⟩:=zP2 H
  go_enter Tryd.func89,Tryd.ntmps89
  go_wp2_with (first|((with_reducible refine gD 2 rfl ?_);refine bE 2 #[.int .i64 L,.int .i64 O,.slice ab J.length ae] 24 ?_;intro al hg bz hbox hb;have D:=aK (hbox);have au:=hbS HB hg;have aq:=hbS HB hg;replace HB:=hbB HB hb;clear hb hbox hg;obtain⟨a2,a3,a4,bb,bc,bd⟩:=cell3 D)|((with_reducible refine gC 102 rfl ?_);refine cG (some 11) Tryd.func102 #[.agg #[.int .i64 L,.int .i64 O,.slice ab J.length ae],.int .u64 a1] ?_;(with_reducible refine(matroid_pick.calls k L O _ _ J a1 Y Z aa af _ ?side1 ?side2 A3.out (tab_below HT.out zf)).mono ?_);(case side1=>exact kcB aj HB);(case side2=>exact ai.out);rintro e b0 ⟨bj,rfl,ao,hb⟩;refine⟨_,rfl,?_⟩;have I:=aK (Kd.R_lower ao (below_size (hbA HB.out)));replace D:=bkB D hb;replace HB:=hbB HB hb;(try clear hb);(try clear ao))|((with_reducible refine gD 6 rfl ?_);refine bE 6 #[.int .i64 0,.int .i64 0,.slice none 0 0] 24 ?_;intro am hg b1 hbox hb;replace I:=kdB I hb;have U:=aK (hbox);have av:=hbS HB hg;have ar:=hbS HB hg;replace HB:=hbB HB hb;have G:=neL D hg;have X:=neG D hg;replace D:=bkB D hb;clear hb hbox hg;have br:=X.out;have bt:=G.out;obtain⟨a5,a6,a7,be,bf,bg⟩:=cell3 U;obtain⟨bu,bv,ax⟩:=Kd.R_slice I.out;subst ax))
  go_ret2
  exact⟨rfE,hbA HB.out⟩
def matroid_Span.l0:Nat->Int->Int->Int->Int->Int->Int->Int->List Int->Option (Int×Int)
 |0,_,_,_,_,_,_,_,_=>none
 |k+1,x1,x6,x8,L,J,D,G,I=>if J<L then((subset_Has.f x1 J).bind fun U=>(if U=true then(matroid_Span.l0 k x1 x6 x8 L (wrap64 (J+1)) D G I)else(if 0<=J then((matroid_Rank.f k D G I (Go.bits .or .u64 x1 (shl .u64 1 J))).bind fun O=>(if O.1=x6 then(matroid_Span.l0 k x1 x6 (Go.bits .or .u64 x8 (shl .u64 1 J)) L (wrap64 (J+1)) D G I)else(matroid_Span.l0 k x1 x6 x8 L (wrap64 (J+1)) D G I)))else(none))))else(some (x8,0))
def matroid_Span.f(k:Nat)(G:Int)(I:Int)(J:List Int)(a1:Int):Option (Int×Int):=(matroid_Rank.f k G I J a1).bind fun D=>(if D.2=0 then(matroid_Span.l0 k a1 D.1 a1 G 0 G I J)else(some (0,D.2)))
theorem matroid_Span.mono_l: ∀k,(∀y0 y1 y2 y3 y4 y5 y6 y7,LeO (matroid_Span.l0 k y0 y1 y2 y3 y4 y5 y6 y7) (matroid_Span.l0 (k+1) y0 y1 y2 y3 y4 y5 y6 y7))
 |0=>fun _ _ _ _ _ _ _ _ r h=>by simp[matroid_Span.l0]at h
 |k+1=>by
  have D:=matroid_Span.mono_l k
  ·intro y0 y1 y2 y3 y4 y5 y6 y7;unfold matroid_Span.l0
   with_reducible repeat' first|exact D _ _ _ _ _ _ _ _|exact matroid_Rank.mono _ _ _ _ _|exact LeO.refl _|exact LeO.none _|refine LeO.ite ?_ ?_|refine LeO.bind ?_ (fun _=>?_)
theorem matroid_Span.mono: ∀a0 a1 a2 a3 k,LeO (matroid_Span.f k a0 a1 a2 a3) (matroid_Span.f (k+1) a0 a1 a2 a3):=by
 intro a0 a1 a2 a3 k;have D:=matroid_Span.mono_l k;unfold matroid_Span.f
 with_reducible repeat' first|exact D _ _ _ _ _ _ _ _|exact matroid_Rank.mono _ _ _ _ _|exact LeO.refl _|exact LeO.none _|refine LeO.ite ?_ ?_|refine LeO.bind ?_ (fun _=>?_)
def matroid_Span.T9:Bool×List (List Nat×List Nat):=(true,[([],[]),([],[]),([],[]),([2],[2]),([1,3],[1,3]),([0,4],[0,4]),([5],[5]),([6],[6]),([6],[6]),([7,5,0,1,2,3,4,5,6,7],[7]),([8,9,0,1,2,3,4,5,6,7,8,9],[8])])
def matroid_Span.B9:List Nat:= [0,0,0,4,14,31,63,127,127,255,1023]
theorem matroid_Span.tab9:rtab .any (opsOf Tryd.f63 9)=matroid_Span.T9:=by kernel_rfl
theorem matroid_Span.bits9:waitsOk matroid_Span.T9.2 matroid_Span.B9=true:=by kernel_rfl
theorem matroid_Span.calls(k:Nat)(I:Int)(L:Int)(O:Option Addr)(U:Nat)(J:List Int)(a1:Int)(r1:Int)(r2:Int)(w:World)(a9:Kd.C (Kd.int .u8) w O J.length J)(a2:J.length<=U)(h:matroid_Span.f k I L J a1=some (r1,r2))(hT:TabAt 0 Lib.deBruijn64tab w):
 Calls Tryd.prog 63 #[.agg #[.int .i64 I,.int .i64 L,.slice O J.length U],.int .u64 a1] w fun e w'=>e= .returned (.tuple #[.int .u64 r1,.int .i64 r2])/\Below w.heap.size w w':=by
 have HT:=aK hT;clear hT;have bj:=Tryd.underlying24;have af:=aK a9;have ae:=aK a2;clear a9 a2;have HB:=aK (Below.refl w.heap.size w);have H:((matroid_Rank.f k I L J a1).bind fun aj=>(if aj.2=0 then(matroid_Span.l0 k a1 aj.1 a1 I 0 I L J)else(some (0,aj.2))))=some (r1,r2):=h;clear h;obtain⟨⟨X,ab⟩,A3,H⟩:=bindO H
 (try dsimp only at H)
 by_cases c4:ab=0
 case neg=>
  rw[if_neg c4]at H
  have c4b0:(ab==0)=false:=beq_eq_false_iff_ne.mpr c4;have c4b1:(ab !=0)=true:=bne_iff_ne.mpr c4;obtain⟨rfl,rfl⟩:=zP2 H
  go_enter Tryd.func63,Tryd.ntmps63
  go_wp2_with (first|((with_reducible refine gD 2 rfl ?_);refine bE 2 #[.int .i64 I,.int .i64 L,.slice O J.length U] 24 ?_;intro Y hg bh hbox hb;have D:=aK (hbox);have ai:=hbS HB hg;have ah:=hbS HB hg;replace HB:=hbB HB hb;clear hb hbox hg;obtain⟨a3,a4,a5,a6,a7,a8⟩:=cell3 D)|((with_reducible refine gC 89 rfl ?_);refine cG (some 15) Tryd.func89 #[.agg #[.int .i64 I,.int .i64 L,.slice O J.length U],.int .u64 a1] ?_;(with_reducible refine(matroid_Rank.calls k I L _ _ J a1 X ab _ ?side1 ?side2 A3.out (tab_below HT.out zf)).mono ?_);(case side1=>exact kcB af HB);(case side2=>exact ae.out);rintro e bi ⟨rfl,hb⟩;refine⟨_,rfl,?_⟩;replace D:=bkB D hb;replace HB:=hbB HB hb;(try clear hb)))
  refine wp_scope_straight ?_
  go_wp2_with (first|((with_reducible refine gD 2 rfl ?_);refine bE 2 #[.int .i64 I,.int .i64 L,.slice O J.length U] 24 ?_;intro Y hg bh hbox hb;have D:=aK (hbox);have ai:=hbS HB hg;have ah:=hbS HB hg;replace HB:=hbB HB hb;clear hb hbox hg;obtain⟨a3,a4,a5,a6,a7,a8⟩:=cell3 D)|((with_reducible refine gC 89 rfl ?_);refine cG (some 15) Tryd.func89 #[.agg #[.int .i64 I,.int .i64 L,.slice O J.length U],.int .u64 a1] ?_;(with_reducible refine(matroid_Rank.calls k I L _ _ J a1 X ab _ ?side1 ?side2 A3.out (tab_below HT.out zf)).mono ?_);(case side1=>exact kcB af HB);(case side2=>exact ae.out);rintro e bi ⟨rfl,hb⟩;refine⟨_,rfl,?_⟩;replace D:=bkB D hb;replace HB:=hbB HB hb;(try clear hb)))
  (try simp only[Exit.noGoto])
  go_ret2
  exact⟨rfE,hbA HB.out⟩
 rw[if_pos c4]at H
 have c4b0:(ab==0)=true:=beq_iff_eq.mpr c4;have c4b1:(ab !=0)=false:=bne_eq_false_iff_eq.mpr c4;clear c4;have H':=aK H;clear H
 go_enter Tryd.func63,Tryd.ntmps63
 go_wp2_with (first|((with_reducible refine gD 2 rfl ?_);refine bE 2 #[.int .i64 I,.int .i64 L,.slice O J.length U] 24 ?_;intro Y hg w5 hbox hb;have D:=aK (hbox);have ai:=hbS HB hg;have ah:=hbS HB hg;replace HB:=hbB HB hb;clear hb hbox hg;obtain⟨al,am,an,ar,au,av⟩:=cell3 D)|((with_reducible refine gC 89 rfl ?_);refine cG (some 15) Tryd.func89 #[.agg #[.int .i64 I,.int .i64 L,.slice O J.length U],.int .u64 a1] ?_;(with_reducible refine(matroid_Rank.calls k I L _ _ J a1 X ab _ ?side1 ?side2 A3.out (tab_below HT.out zf)).mono ?_);(case side1=>exact kcB af HB);(case side2=>exact ae.out);rintro e w7 ⟨rfl,hb⟩;refine⟨_,rfl,?_⟩;replace D:=bkB D hb;replace HB:=hbB HB hb;(try clear hb);obtain⟨ao,ap,aq,aw,ax,ay⟩:=cell3 D))
 refine wp_scope_straight ?_
 go_wp2_with (first|((with_reducible refine gD 2 rfl ?_);refine bE 2 #[.int .i64 I,.int .i64 L,.slice O J.length U] 24 ?_;intro Y hg w5 hbox hb;have D:=aK (hbox);have ai:=hbS HB hg;have ah:=hbS HB hg;replace HB:=hbB HB hb;clear hb hbox hg;obtain⟨al,am,an,ar,au,av⟩:=cell3 D)|((with_reducible refine gC 89 rfl ?_);refine cG (some 15) Tryd.func89 #[.agg #[.int .i64 I,.int .i64 L,.slice O J.length U],.int .u64 a1] ?_;(with_reducible refine(matroid_Rank.calls k I L _ _ J a1 X ab _ ?side1 ?side2 A3.out (tab_below HT.out zf)).mono ?_);(case side1=>exact kcB af HB);(case side2=>exact ae.out);rintro e w7 ⟨rfl,hb⟩;refine⟨_,rfl,?_⟩;replace D:=bkB D hb;replace HB:=hbB HB hb;(try clear hb);obtain⟨ao,ap,aq,aw,ax,ay⟩:=cell3 D))
 go_step3
 go_wp2
 go_loopg [8,24] k (fun kq v8 bg w'=> ∃(ac:Int) (G:Int),v8= .int .u64 ac/\bg= .int .i64 G/\Aside0 (matroid_Span.l0 kq a1 X ac I G I L J=some (r1,r2))/\Aside0 (kq<=k)/\Aside0 (w'.heap[Y]? =some (.cells #[.int .i64 I,.int .i64 L,(.slice O J.length U)] 24 (0,0)))/\Aside0 (Below w.heap.size w w'))
 case atStart=>exact⟨(a1),(0),rsE,rsE,H',⟨Nat.le_refl _⟩,⟨bkA D.out⟩,⟨hbA HB.out⟩⟩
 case round=>
  clear H'
  (try clear p2);(try clear c4);(try clear c4b0);(try clear c4b1);(try clear c6);(try clear c8);(try clear al am an ar au av);(try clear ao ap aq aw ax ay)
  obtain⟨ac,G,rfl,rfl,HA,az,D,HB⟩:=hrel
  cases gk with
  |zero=>exact absurd HA.out (by simp[matroid_Span.l0])
  |succ k1=>
   have H:=HA.out;clear HA;simp only[matroid_Span.l0]at H;by_cases c9:G<I
   case neg=>
    rw[if_neg c9]at H
    have c9b0:decide (G<I)=false:=decide_eq_false c9;clear c9;obtain⟨rfl,rfl⟩:=zP2 H;go_wp2
    (try simp only[Exit.noGoto])
    go_ret2
    exact⟨rfE,hbA HB.out⟩
   rw[if_pos c9]at H
   have c9b0:decide (G<I)=true:=decide_eq_true c9;clear c9;obtain⟨bd,bb,H⟩:=bindO H
   (try dsimp only at H)
   by_cases ba:bd=true
   ·subst ba;rw[if_pos rfl]at H
    have H':=aK H;clear H
    go_wp2_with (first|((with_reducible refine gC 31 rfl ?_);refine cG (some 29) Tryd.func31 #[.int .u64 a1,.int .i64 G] ?_;(with_reducible refine(subset_Has.calls a1 G true _ bb.out).mono ?_);rintro e w' ⟨rfl,⟨nd,rfl⟩⟩;refine⟨_,rfl,?_⟩))
    go_roundg k1
    case measure=>have:=az.out;omega
    case rel=>exact⟨(ac),(wrap64 (G+1)),rsE,rsE,H',⟨by have:=az.out;omega⟩,⟨bkA D.out⟩,⟨hbA HB.out⟩⟩
   replace ba:=Bool.eq_false_iff.mpr ba;subst ba;rw[if_neg nofT]at H
   by_cases a0:0<=G
   case neg=>rw[if_neg a0]at H;exact absurd H zd
   rw[if_pos a0]at H
   have c12b0:=eq_true a0;have c12b1:decide (0<=G)=true:=decide_eq_true a0;clear a0;obtain⟨aa,Z⟩: ∃j_:Int,(shl .u64 1 G)=j_:=⟨_,rfl⟩
   replace H:((matroid_Rank.f k1 I L J (Go.bits .or .u64 a1 (aa))).bind fun bc=>(if bc.1=X then(matroid_Span.l0 k1 a1 X (Go.bits .or .u64 ac (aa)) I (wrap64 (G+1)) I L J)else(matroid_Span.l0 k1 a1 X ac I (wrap64 (G+1)) I L J)))=some (r1,r2):=by first|(rw[Z]at H;exact H)|(simp only[Z]at H⊢;exact H)
   (try rw[Z]at bb)
   have hji13_:(IntKind.u64.wrap (1*2^min G.toNat 64))=aa:=Z;have hji13z:G<=64->(IntKind.u64.wrap (1*2^G.toNat))=aa:=shl_small Z;have hji13u:(IntKind.u64.wrap (2^min G.toNat 64))=aa:=by have h_:=hji13_;rw[Int.one_mul]at h_;exact h_
   have hji13v:G<=64->(IntKind.u64.wrap (2^G.toNat))=aa:=fun hle_=>by have h_:=hji13z hle_;rw[Int.one_mul]at h_;exact h_
   obtain⟨⟨ag,be⟩,bf,H⟩:=bindO H
   (try dsimp only at H)
   try go_wp2_with (first|((with_reducible refine gC 31 rfl ?_);refine cG (some 29) Tryd.func31 #[.int .u64 a1,.int .i64 G] ?_;(with_reducible refine(subset_Has.calls a1 G false _ bb.out).mono ?_);rintro e w' ⟨rfl,⟨nd,rfl⟩⟩;refine⟨_,rfl,?_⟩))
   (try(rw[drewN_self wr];generalize hq_:World.drewN wr _=wr;have n0_:Aside0 (wr.heap[Y]? =some (.cells #[.int .i64 I,.int .i64 L,.slice O J.length U] 24 (0,0))):=⟨by rw[<-hq_];exact(bkA D.out)⟩;have n1_:Aside0 (Below w.heap.size w wr):=⟨by rw[<-hq_];exact(hbA HB.out)⟩;clear D HB hq_;have D:=n0_;have HB:=n1_;clear n0_ n1_))
   replace D:=aK (blk_drew D.out);replace HB:=aK (below_drew1 HB.out);refine start_ (n:=11) (S:=fun w'=>w'.cell? ⟨Y,0,none⟩=some (.int .i64 I)/\w'.cell? ⟨Y,1,none⟩=some (.int .i64 L)/\w'.cell? ⟨Y,2,none⟩=some (.slice O J.length U)) (ds:= []) (.replicate 11 false) zb rfl rfl (z3c D) (fun hHeld=>?_);refine with_tabW matroid_Span.tab9 matroid_Span.bits9 (fun HT_ HW_=>?_);generalize wr.drew=bl at D HB hHeld⊢;refine pu 1 (some 32) (mB 11 2) HT_ ?_;refine pu 2 (some 33) (mB 11 6) HT_ ?_;refine pu 3 (some 34) (mB 11 14) HT_ ?_;refine pu 4 (some 35) (mB 11 30) HT_ ?_;refine tk3 0 (some 31) (mB 11 31) HT_ HW_ hHeld ?_;refine zoh 5 (some 36) (mB 11 63) HT_ fun K hK=>?_;refine goes_ Tryd.func89 zb rfl #[.agg #[.int .i64 I,.int .i64 L,.slice O J.length U],.int .u64 (Go.bits .or .u64 a1 (aa))] ze rfl rfl (by(try simp only[List.map_toArray,List.map_cons,List.map_nil]);first|done|(simp only[Z];rfl)|rfl|(simp only[List.length_drop,List.length_take];rfl)) ?_;with_reducible refine(matroid_Rank.calls k1 I L _ _ J (Go.bits .or .u64 a1 (aa)) ag be _ ?side1 ?side2 bf.out (tab_below HT.out zf)).mono ?_
   (case side1=>exact kcB af HB)
   (case side2=>exact ae.out)
   rintro e bm ⟨rfl,hb⟩;refine⟨_,rfl,?_⟩;replace D:=bkB D hb;replace HB:=hbB HB hb
   (try clear hb)
   (try clear bk)
   (try clear hk)
   (try clear hi)
   refine hK.out _ _ (z3c D) (fun hHeld=>?_);clear hK K;refine znm (some 36) ?_;refine pu 6 (some 30) (mB 11 127) HT_ ?_;refine pu 7 (some 37) (mB 11 255) HT_ ?_;refine pu 8 (some 38) (mB 11 511) HT_ ?_;refine pu 9 (some 10) (mB 11 1023) HT_ ?_;refine pu 10 (some 11) (mB 11 2047) HT_ ?_;refine done_ (done_of HT_.out zb) ?_;by_cases ak:ag=X
   case neg=>
    rw[if_neg ak]at H
    have c15b0:(ag==X)=false:=beq_eq_false_iff_ne.mpr ak;have c15b1:(ag !=X)=true:=bne_iff_ne.mpr ak;have H':=aK H;clear H
    try go_wp2
    go_roundg k1
    case measure=>have:=az.out;omega
    case rel=>exact⟨(ac),(wrap64 (G+1)),rsE,rsE,H',⟨by have:=az.out;omega⟩,⟨bkA D.out⟩,⟨hbA HB.out⟩⟩
   rw[if_pos ak]at H
   have c15b0:(ag==X)=true:=beq_iff_eq.mpr ak;have c15b1:(ag !=X)=false:=bne_eq_false_iff_eq.mpr ak;clear ak;have c16b0:=eq_true (of_decide_eq_true asE:0<=G);have H':=aK H;clear H
   try go_wp2
   go_roundg k1
   case measure=>have:=az.out;omega
   case rel=>exact⟨(Go.bits .or .u64 ac (aa)),(wrap64 (G+1)),(by first|rfl|(simp;done)|(simp only[<-Z]<;>(first|rfl|simp))|(simp[*];done)),rsE,H',⟨by have:=az.out;omega⟩,⟨bkA D.out⟩,⟨hbA HB.out⟩⟩
def subset_may.f(a0:Int):Option (Bool):=if a0>=0 then(some (decide (a0<=64)))else(some false)
theorem subset_may.calls(a0:Int)(r:Bool)(w:World)(h:subset_may.f a0=some r):
 Calls Tryd.prog 80 #[.int .i64 a0] w fun e w'=>e= .returned (.bool r)/\Drawn0 w w':=by
 have H:(if a0>=0 then(some (decide (a0<=64)))else(some false))=some r:=h;clear h;by_cases c2:a0>=0
 ·rw[if_pos c2]at H
  have c2b0:decide (0<=a0)=true:=decide_eq_true c2;clear c2;obtain rfl:=Option.some.inj H
  go_enter Tryd.func80,Tryd.ntmps80
  go_wp2
  go_ret
  exact zD
 ·rw[if_neg c2]at H
  have c2b0:decide (0<=a0)=false:=decide_eq_false c2;clear c2;obtain rfl:=Option.some.inj H
  go_enter Tryd.func80,Tryd.ntmps80
  go_wp2
  go_ret
  exact zD
def subset_low.f(a0:Int):Option (Int):=if 0<=a0 then(some (IntKind.u64.wrap ((shl .u64 1 a0)-1)))else(none)
theorem subset_low.calls(a0:Int)(r:Int)(w:World)(h:subset_low.f a0=some r):
 Calls Tryd.prog 88 #[.int .i64 a0] w fun e w'=>e= .returned (.int .u64 r)/\Drawn0 w w':=by
 have H:(if 0<=a0 then(some (IntKind.u64.wrap ((shl .u64 1 a0)-1)))else(none))=some r:=h;clear h;by_cases c2:0<=a0
 ·rw[if_pos c2]at H
  have c2b0:=eq_true c2;have c2b1:decide (0<=a0)=true:=decide_eq_true c2;clear c2;obtain⟨G,D⟩: ∃j_:Int,(shl .u64 1 a0)=j_:=⟨_,rfl⟩
  replace H:(some (IntKind.u64.wrap ((G)-1)))=some r:=by first|(rw[D]at H;exact H)|(simp only[D]at H⊢;exact H)
  have hji3_:(IntKind.u64.wrap (1*2^min a0.toNat 64))=G:=D;have hji3z:a0<=64->(IntKind.u64.wrap (1*2^a0.toNat))=G:=shl_small D;have hji3u:(IntKind.u64.wrap (2^min a0.toNat 64))=G:=by have h_:=hji3_;rw[Int.one_mul]at h_;exact h_
  have hji3v:a0<=64->(IntKind.u64.wrap (2^a0.toNat))=G:=fun hle_=>by have h_:=hji3z hle_;rw[Int.one_mul]at h_;exact h_
  obtain rfl:=Option.some.inj H
  go_enter Tryd.func88,Tryd.ntmps88
  go_wp2
  go_ret
  exact⟨by first|rfl|(simp;done)|(simp only[<-D]<;>(first|rfl|simp))|(simp[*];done),by repeat(first|exact Drawn0.refl _|apply Drawn0.step)⟩
 ·rw[if_neg c2]at H
  exact absurd H zd
def subset_Full.f(a0:Int):Option (Int×Int):=(subset_may.f a0).bind fun D=>(if D=true then((subset_low.f a0).bind fun G=>(some (G,0)))else(some (0,2)))
theorem subset_Full.calls(a0:Int)(r1:Int)(r2:Int)(w:World)(h:subset_Full.f a0=some (r1,r2)):
 Calls Tryd.prog 62 #[.int .i64 a0] w fun e w'=>e= .returned (.tuple #[.int .u64 r1,.int .i64 r2])/\Drawn0 w w':=by
 have H:((subset_may.f a0).bind fun D=>(if D=true then((subset_low.f a0).bind fun G=>(some (G,0)))else(some (0,2))))=some (r1,r2):=h;clear h;obtain⟨D,A2,H⟩:=bindO H
 (try dsimp only at H)
 by_cases c3:D=true
 ·subst c3;rw[if_pos rfl]at H
  obtain⟨G,A4,H⟩:=bindO H
  (try dsimp only at H)
  obtain⟨rfl,rfl⟩:=zP2 H
  go_enter Tryd.func62,Tryd.ntmps62
  go_wp2_with (first|((with_reducible refine gC 80 rfl ?_);refine cG (some 5) Tryd.func80 #[.int .i64 a0] ?_;(with_reducible refine(subset_may.calls a0 true _ A2.out).mono ?_);rintro e w' ⟨rfl,⟨nd,rfl⟩⟩;refine⟨_,rfl,?_⟩)|((with_reducible refine gC 88 rfl ?_);refine cG (some 8) Tryd.func88 #[.int .i64 a0] ?_;(with_reducible refine(subset_low.calls a0 G _ A4.out).mono ?_);rintro e w' ⟨rfl,⟨nd,rfl⟩⟩;refine⟨_,rfl,?_⟩))
  go_ret2
  exact zD
 ·replace c3:=Bool.eq_false_iff.mpr c3;subst c3;rw[if_neg nofT]at H
  obtain⟨rfl,rfl⟩:=zP2 H
  go_enter Tryd.func62,Tryd.ntmps62
  go_wp2_with (first|((with_reducible refine gC 80 rfl ?_);refine cG (some 5) Tryd.func80 #[.int .i64 a0] ?_;(with_reducible refine(subset_may.calls a0 false _ A2.out).mono ?_);rintro e w' ⟨rfl,⟨nd,rfl⟩⟩;refine⟨_,rfl,?_⟩))
  go_ret2
  exact zD
def local_may.j0:Nat->Int->Bool->Int->Int->List Int->Option (Bool×Int)
 |0,_,_,_,_,_=>none
 |k+1,x1,x9,D,J,L=>if x9=true then(some (false,3))else(if x1<0 then(some (false,2))else(if x1>=D then(some (false,2))else((subset_Full.f D).bind fun G=>(if G.2=0 then(if 0<=x1 then((matroid_Span.f k D J L (Go.bits .andNot .u64 G.1 (shl .u64 1 x1))).bind fun I=>((subset_Has.f I.1 x1).bind fun O=>(some (O,I.2))))else(none))else(some (false,G.2))))))
def local_may.f(k:Nat)(G:Int)(D:Int)(I:List Int)(a1:Int):Option (Bool×Int):=(matrix_Right.f G D I).bind fun J=>(if J=true then(if D<1 then(local_may.j0 k a1 true G D I)else(local_may.j0 k a1 (decide (G<D)) G D I))else(local_may.j0 k a1 true G D I))
theorem local_may.mono_l: ∀k,(∀y0 y1 y2 y3 y4,LeO (local_may.j0 k y0 y1 y2 y3 y4) (local_may.j0 (k+1) y0 y1 y2 y3 y4))
 |0=>fun _ _ _ _ _ r h=>by simp[local_may.j0]at h
 |k+1=>by
  have D:=local_may.mono_l k
  ·intro y0 y1 y2 y3 y4;unfold local_may.j0
   with_reducible repeat' first|exact D _ _ _ _ _|exact matroid_Span.mono _ _ _ _ _|exact LeO.refl _|exact LeO.none _|refine LeO.ite ?_ ?_|refine LeO.bind ?_ (fun _=>?_)
theorem local_may.mono: ∀a0 a1 a2 a3 k,LeO (local_may.f k a0 a1 a2 a3) (local_may.f (k+1) a0 a1 a2 a3):=by
 intro a0 a1 a2 a3 k;have D:=local_may.mono_l k;unfold local_may.f
 with_reducible repeat' first|exact D _ _ _ _ _|exact matroid_Span.mono _ _ _ _ _|exact LeO.refl _|exact LeO.none _|refine LeO.ite ?_ ?_|refine LeO.bind ?_ (fun _=>?_)
def local_may.T8:Bool×List (List Nat×List Nat):=(true,[([],[]),([],[]),([],[]),([2],[2]),([1,3],[1,3]),([0,4],[0,4]),([5],[5]),([6],[6]),([6],[6]),([7,5,0,1,2,3,4,5,6,7],[7]),([8,9,0,1,2,3,4,5,6,7,8,9],[8])])
def local_may.B8:List Nat:= [0,0,0,4,14,31,63,127,127,255,1023]
theorem local_may.tab8:rtab .any (opsOf Tryd.f32 8)=local_may.T8:=by kernel_rfl
theorem local_may.bits8:waitsOk local_may.T8.2 local_may.B8=true:=by kernel_rfl
theorem local_may.calls(k:Nat)(G:Int)(I:Int)(L:Option Addr)(O:Nat)(J:List Int)(a1:Int)(r1:Bool)(r2:Int)(w:World)(bc:Kd.C (Kd.int .u8) w L J.length J)(ak:J.length<=O)(h:local_may.f k G I J a1=some (r1,r2))(hT:TabAt 0 Lib.deBruijn64tab w):
 Calls Tryd.prog 32 #[.agg #[.int .i64 G,.int .i64 I,.slice L J.length O],.int .i64 a1] w fun e w'=>e= .returned (.tuple #[.bool r1,.int .i64 r2])/\Below w.heap.size w w':=by
 have HT:=aK hT;clear hT;have cf:=Tryd.underlying24;have ab:=aK bc;have aa:=aK ak;clear bc ak;have HB:=aK (Below.refl w.heap.size w);have H:((matrix_Right.f G I J).bind fun bd=>(if bd=true then(if I<1 then(local_may.j0 k a1 true G I J)else(local_may.j0 k a1 (decide (G<I)) G I J))else(local_may.j0 k a1 true G I J)))=some (r1,r2):=h;clear h;have bo:=aK H;clear H
 go_enter Tryd.func32,Tryd.ntmps32
 go_upto_region 1 with(first|((with_reducible refine gD 2 rfl ?_);refine bE 2 #[.int .i64 G,.int .i64 I,.slice L J.length O] 24 ?_;intro X hg w4 hbox hb;have D:=aK (hbox);have ce:=hbS HB hg;have cd:=hbS HB hg;replace HB:=hbB HB hb;clear hb hbox hg))
 (try simp only[Act.put,zL])
 go_cut [9] (fun v9 wc=> ∃(kq:Nat) (af:Bool),v9= .bool af/\Aside0 (local_may.j0 kq a1 af G I J=some (r1,r2))/\Aside0 (kq<=k)/\Aside0 (wc.heap[X]? =some (.cells #[.int .i64 G,.int .i64 I,(.slice L J.length O)] 24 (0,0)))/\Aside0 (Below w.heap.size w wc))
 case first=>
  have H:=bo.out;clear bo;obtain⟨bd,A5,H⟩:=bindO H
  (try dsimp only at H)
  by_cases c6:bd=true
  case neg=>
   replace c6:=Bool.eq_false_iff.mpr c6;subst c6;rw[if_neg nofT]at H
   have H':=aK H;clear H;obtain⟨aw,ax,ay,a9,ba,bb⟩:=cell3 D
   go_wp2_with (first|((with_reducible refine gC 56 rfl ?_);refine cG (some 11) Tryd.func56 #[.agg #[.int .i64 G,.int .i64 I,.slice L J.length O]] ?_;(with_reducible refine(matrix_Right.calls G I _ _ J false _ ?side1 ?side2 A5.out).mono ?_);(case side1=>exact kcB ab HB);(case side2=>exact aa.out);rintro e cj ⟨rfl,hb⟩;refine⟨_,rfl,?_⟩;replace D:=bkB D hb;replace HB:=hbB HB hb;(try clear hb)))
   go_meet
   case rel=>exact⟨_,(true),rsE,H',⟨leE⟩,⟨bkA D.out⟩,⟨hbA HB.out⟩⟩
  subst c6;rw[if_pos rfl]at H
  by_cases c7:I<1
  case neg=>
   rw[if_neg c7]at H
   have c7b0:decide (I<1)=false:=decide_eq_false c7;clear c7
   (first|rw[c7b0] |(simp only[i64_w,i32_w];rw[c7b0])|skip)
   have H':=aK H;clear H;obtain⟨ao,ap,aq,a3,a4,a5⟩:=cell3 D
   go_wp2_with (first|((with_reducible refine gC 56 rfl ?_);refine cG (some 11) Tryd.func56 #[.agg #[.int .i64 G,.int .i64 I,.slice L J.length O]] ?_;(with_reducible refine(matrix_Right.calls G I _ _ J true _ ?side1 ?side2 A5.out).mono ?_);(case side1=>exact kcB ab HB);(case side2=>exact aa.out);rintro e ci ⟨rfl,hb⟩;refine⟨_,rfl,?_⟩;replace D:=bkB D hb;replace HB:=hbB HB hb;(try clear hb);obtain⟨ar,au,av,a6,a7,a8⟩:=cell3 D))
   go_meet
   case rel=>exact⟨_,(decide (G<I)),rsE,H',⟨leE⟩,⟨bkA D.out⟩,⟨hbA HB.out⟩⟩
  rw[if_pos c7]at H
  have c7b0:decide (I<1)=true:=decide_eq_true c7;clear c7
  (first|rw[c7b0] |(simp only[i64_w,i32_w];rw[c7b0])|skip)
  have H':=aK H;clear H;obtain⟨bh,bi,bj,bk,bl,bm⟩:=cell3 D
  go_wp2_with (first|((with_reducible refine gC 56 rfl ?_);refine cG (some 11) Tryd.func56 #[.agg #[.int .i64 G,.int .i64 I,.slice L J.length O]] ?_;(with_reducible refine(matrix_Right.calls G I _ _ J true _ ?side1 ?side2 A5.out).mono ?_);(case side1=>exact kcB ab HB);(case side2=>exact aa.out);rintro e w9 ⟨rfl,hb⟩;refine⟨_,rfl,?_⟩;replace D:=bkB D hb;replace HB:=hbB HB hb;(try clear hb);obtain⟨al,am,an,az,a0,a2⟩:=cell3 D))
  go_meet
  case rel=>exact⟨_,(true),rsE,H',⟨leE⟩,⟨bkA D.out⟩,⟨hbA HB.out⟩⟩
 case rest=>
  clear bo
  (try clear p2);(try clear c3);(try clear c5);(try clear c6);(try clear c7);(try clear c7b0);(try clear al am an az a0 a2);(try clear ao ap aq a3 a4 a5);(try clear ar au av a6 a7 a8);(try clear aw ax ay a9 ba bb);(try clear bh bi bj bk bl bm)
  obtain⟨kq,af,rfl,HA,cg,D,HB⟩:=hcut
  cases kq with
  |zero=>exact absurd HA.out (by simp[local_may.j0])
  |succ b8=>
   have H:=HA.out;clear HA;simp only[local_may.j0]at H;by_cases bg:af=true
   ·subst bg;rw[if_pos rfl]at H
    obtain⟨rfl,rfl⟩:=zP2 H;go_wp2
    go_ret2
    exact⟨rfE,hbA HB.out⟩
   replace bg:=Bool.eq_false_iff.mpr bg;subst bg;rw[if_neg nofT]at H
   by_cases ag:a1<0
   ·rw[if_pos ag]at H
    have c17b0:decide (a1<0)=true:=decide_eq_true ag;clear ag;obtain⟨rfl,rfl⟩:=zP2 H;go_wp2
    go_ret2
    exact⟨rfE,hbA HB.out⟩
   rw[if_neg ag]at H
   have c17b0:decide (a1<0)=false:=decide_eq_false ag;clear ag;by_cases ah:a1>=G
   ·rw[if_pos ah]at H
    have c18b0:decide (G<=a1)=true:=decide_eq_true ah;clear ah;obtain⟨rfl,rfl⟩:=zP2 H;obtain⟨bp,bq,br,bz,b0,b1⟩:=cell3 D;go_wp2
    go_ret2
    exact⟨rfE,hbA HB.out⟩
   rw[if_neg ah]at H
   have c18b0:decide (G<=a1)=false:=decide_eq_false ah;clear ah;obtain⟨⟨ac,Z⟩,bn,H⟩:=bindO H
   (try dsimp only at H)
   by_cases ae:Z=0
   case neg=>
    rw[if_neg ae]at H
    have c21b0:(Z==0)=false:=beq_eq_false_iff_ne.mpr ae;have c21b1:(Z !=0)=true:=bne_iff_ne.mpr ae;obtain⟨rfl,rfl⟩:=zP2 H;obtain⟨bv,bw,bx,b5,b6,b7⟩:=cell3 D
    go_wp2_with (first|((with_reducible refine gC 62 rfl ?_);refine cG (some 37) Tryd.func62 #[.int .i64 G] ?_;(with_reducible refine(subset_Full.calls G ac Z _ bn.out).mono ?_);rintro e w' ⟨rfl,⟨nd,rfl⟩⟩;refine⟨_,rfl,?_⟩))
    go_ret2
    exact⟨rfE,hbA HB.out⟩
   rw[if_pos ae]at H
   have c21b0:(Z==0)=true:=beq_iff_eq.mpr ae;have c21b1:(Z !=0)=false:=bne_eq_false_iff_eq.mpr ae;clear ae;by_cases aj:0<=a1
   case neg=>rw[if_neg aj]at H;exact absurd H zd
   rw[if_pos aj]at H
   have c22b0:=eq_true aj;have c22b1:decide (0<=a1)=true:=decide_eq_true aj;clear aj;obtain⟨Y,U⟩: ∃j_:Int,(shl .u64 1 a1)=j_:=⟨_,rfl⟩
   replace H:((matroid_Span.f b8 G I J (Go.bits .andNot .u64 ac (Y))).bind fun ai=>((subset_Has.f ai.1 a1).bind fun bf=>(some (bf,ai.2))))=some (r1,r2):=by first|(rw[U]at H;exact H)|(simp only[U]at H⊢;exact H)
   (try rw[U]at bn)
   have hji23_:(IntKind.u64.wrap (1*2^min a1.toNat 64))=Y:=U;have hji23z:a1<=64->(IntKind.u64.wrap (1*2^a1.toNat))=Y:=shl_small U;have hji23u:(IntKind.u64.wrap (2^min a1.toNat 64))=Y:=by have h_:=hji23_;rw[Int.one_mul]at h_;exact h_
   have hji23v:a1<=64->(IntKind.u64.wrap (2^a1.toNat))=Y:=fun hle_=>by have h_:=hji23z hle_;rw[Int.one_mul]at h_;exact h_
   obtain⟨⟨be,b9⟩,ca,H⟩:=bindO H
   (try dsimp only at H)
   obtain⟨bf,cb,H⟩:=bindO H
   (try dsimp only at H)
   obtain⟨rfl,rfl⟩:=zP2 H;obtain⟨bs,bt,bu,b2,b3,b4⟩:=cell3 D
   try go_wp2_with (first|((with_reducible refine gC 62 rfl ?_);refine cG (some 37) Tryd.func62 #[.int .i64 G] ?_;(with_reducible refine(subset_Full.calls G ac Z _ bn.out).mono ?_);rintro e w' ⟨rfl,⟨nd,rfl⟩⟩;refine⟨_,rfl,?_⟩))
   (try(rw[drewN_self wc];generalize hq_:World.drewN wc _=wc;have n0_:Aside0 (wc.heap[X]? =some (.cells #[.int .i64 G,.int .i64 I,.slice L J.length O] 24 (0,0))):=⟨by rw[<-hq_];exact(bkA D.out)⟩;have n1_:Aside0 (Below w.heap.size w wc):=⟨by rw[<-hq_];exact(hbA HB.out)⟩;clear D HB hq_;have D:=n0_;have HB:=n1_;clear n0_ n1_))
   replace D:=aK (blk_drew D.out);replace HB:=aK (below_drew1 HB.out);refine start_ (n:=11) (S:=fun w'=>w'.cell? ⟨X,0,none⟩=some (.int .i64 G)/\w'.cell? ⟨X,1,none⟩=some (.int .i64 I)/\w'.cell? ⟨X,2,none⟩=some (.slice L J.length O)) (ds:= []) (.replicate 11 false) zb rfl rfl (z3c D) (fun hHeld=>?_);refine with_tabW local_may.tab8 local_may.bits8 (fun HT_ HW_=>?_);generalize wc.drew=ck at D HB hHeld⊢;refine pu 1 (some 45) (mB 11 2) HT_ ?_;refine pu 2 (some 46) (mB 11 6) HT_ ?_;refine pu 3 (some 47) (mB 11 14) HT_ ?_;refine pu 4 (some 48) (mB 11 30) HT_ ?_;refine tk3 0 (some 44) (mB 11 31) HT_ HW_ hHeld ?_;refine zoh 5 (some 49) (mB 11 63) HT_ fun K hK=>?_;refine goes_ Tryd.func63 zb rfl #[.agg #[.int .i64 G,.int .i64 I,.slice L J.length O],.int .u64 (Go.bits .andNot .u64 ac (Y))] ze rfl rfl (by(try simp only[List.map_toArray,List.map_cons,List.map_nil]);first|done|(simp only[U];rfl)|rfl|(simp only[List.length_drop,List.length_take];rfl)) ?_;with_reducible refine(matroid_Span.calls b8 G I _ _ J (Go.bits .andNot .u64 ac (Y)) be b9 _ ?side1 ?side2 ca.out (tab_below HT.out zf)).mono ?_
   (case side1=>exact kcB ab HB)
   (case side2=>exact aa.out)
   rintro e cl ⟨rfl,hb⟩;refine⟨_,rfl,?_⟩;replace D:=bkB D hb;replace HB:=hbB HB hb
   (try clear hb)
   (try clear ch)
   (try clear hk)
   (try clear hi)
   refine hK.out _ _ (z3c D) (fun hHeld=>?_);clear hK K;refine znm (some 49) ?_;refine pu 6 (some 43) (mB 11 127) HT_ ?_;refine pu 7 (some 50) (mB 11 255) HT_ ?_;refine pu 8 (some 51) (mB 11 511) HT_ ?_;refine pu 9 (some 8) (mB 11 1023) HT_ ?_;refine pu 10 (some 7) (mB 11 2047) HT_ ?_;refine done_ (done_of HT_.out zb) ?_
   try go_wp2_with (first|((with_reducible refine gC 31 rfl ?_);refine cG (some 54) Tryd.func31 #[.int .u64 be,.int .i64 a1] ?_;(with_reducible refine(subset_Has.calls be a1 bf _ cb.out).mono ?_);rintro e w' ⟨rfl,⟨nd,rfl⟩⟩;refine⟨_,rfl,?_⟩))
   go_ret2
   exact⟨by first|rfl|(simp[errW_none,errW_some]<;>rfl)|(simp only[<-U];first|rfl|(simp[errW_none,errW_some]<;>rfl))|(simp[*,errW_none,errW_some]<;>rfl),hbA HB.out⟩
def local_row.f(a b:Int)(l:List Int)(i:Int):Option (List Int):=shape_rows_row.f a b l i
theorem C_nil8(w:World)(A:Option Addr):Kd.C (Kd.int .u8) w A ([]:List Int).length []:=
 Kd.C_of_reads (enc:=Value.int .u8) (d:=(0:Int)) (h1:=fun _=>rfl) ⟨rfl,by decide,fun hn=>absurd hn (Nat.lt_irrefl 0)⟩
theorem local_row.goes(ra:Int)(cols i n c f f2:Nat)(A:Option Addr)(w:World)(hf:f=i*cols)(D:f2=(i+1)*cols)(hc:f2<=c)(hi:i<=64)(I:cols<=64):
 Calls Tryd.prog 37 #[.agg #[.int .i64 ra,.int .i64 cols,.slice A n c],.int .i64 i] w fun e w'=>e= .returned (.slice (if c=f then A else A.map (·.add f)) cols (c-f))/\Below w.heap.size w w':=by
 have O:=Tryd.underlying24;have hff:f2=f+cols:=by rw[D,hf,Nat.add_mul,Nat.one_mul]
 have hfs:f<=4096:=by rw[hf];exact Nat.mul_le_mul hi I
 have m1:=mul_small hf (by clear hf D;omega);have m2:=mul_small D zaj;clear hf D;obtain⟨w1b,w1a⟩:=m1;obtain⟨w2b,w2a⟩:=m2;rw[show((i+1:Nat):Int)=(i:Int)+1 from by omega]at w2a w2b
 have HFF:=aK hff;have L:(f:Int)<=(f2:Int):=by clear w1a w1b w2a w2b;omega
 have hf2c:(f2:Int)<=(c:Int):=by clear w1a w1b w2a w2b;omega
 have hfi:(0:Int)<=(f:Int):=by clear w1a w1b w2a w2b;omega
 have w3a:IntKind.i64.wrap ((i:Int)+1)=(i:Int)+1:=by clear w1a w1b w2a w2b;exact iwrap_small za za
 have w3b:wrap64 ((i:Int)+1)=(i:Int)+1:=by clear w1a w1b w2a w2b;unfold wrap64;omega
 clear hff
 go_enter Tryd.func37,Tryd.ntmps37
 go_upto_region 1 with(fail)
 have J:=below_alloc (Below.refl w.heap.size w) (.cells #[.int .i64 ra,.int .i64 cols,.slice A n c] 24);have G:=blk_new w (.cells #[.int .i64 ra,.int .i64 cols,.slice A n c] 24);generalize w.alloc (.cells #[.int .i64 ra,.int .i64 cols,.slice A n c] 24)=w1 at*;have z1:w1.cell? ⟨w.heap.size,1,none⟩=some (.int .i64 cols):=(blk_cell G 1).trans rfl;have z2:w1.cell? ⟨w.heap.size,2,none⟩=some (.slice A n c):=(blk_cell G 2).trans rfl;have hsub:f2-f=cols:=by have:=HFF.out;omega
 go_wp2_with fail
 all_goals
  go_ret
  exact⟨rfl,J⟩
theorem local_row.calls(a b:Int)(P:Nat->Prop)(A:Option Addr)(c:Nat)(l:List Int)(i:Int)(r:List Int)(w:World)(hs:Kd.V (Kd.int .u8) 5 w w.heap.size (fun k_=>P k_) (.slice A l.length c) l)(h:local_row.f a b l i=some r):
 Calls Tryd.prog 37 #[.agg #[.int .i64 a,.int .i64 b,.slice A l.length c],.int .i64 i] w fun e w'=> ∃v:Value,e= .returned v/\Kd.V (Kd.int .u8) 5 w' w.heap.size (fun k_=>(P k_∨w.heap.size<=k_)) v r/\Below w.heap.size w w':=by
 obtain⟨_,hc,hf⟩:=Kd.V_at hs;unfold local_row.f shape_rows_row.f at h;by_cases hg:0<=i/\i<a/\a<=64/\0<=b/\b<=64/\l.length=a.toNat*b.toNat
 ·rw[if_pos hg]at h
  obtain rfl:=Option.some.inj h;obtain⟨h0,h1,h2,h3,h4,h5⟩:=hg;obtain⟨i,rfl⟩:=Int.eq_ofNat_of_zero_le h0;obtain⟨b,rfl⟩:=Int.eq_ofNat_of_zero_le h3;obtain⟨f,hf'⟩: ∃f:Nat,f=i*b:=⟨_,rfl⟩
  obtain⟨f2,D⟩: ∃f2:Nat,f2=(i+1)*b:=⟨_,rfl⟩
  have G:f2=f+b:=by rw[D,hf',Nat.add_mul,Nat.one_mul]
  have hfl:f2<=l.length:=by rw[D,h5,Int.toNat_natCast];exact Nat.mul_le_mul_right _ za
  have hsg:Kd.F (Kd.int .u8) w P (if c=f then A else A.map (·.add f)) ((l.drop f).take b).length ((l.drop f).take b):=fun W' hW=>by
   have hC:=C_seg (hf W' hW) G hfl;by_cases e:f2=f
   ·have e0:(l.drop f).take b= []:=by rw[show b=0 from by omega,List.take_zero]
    rw[e0];exact C_nil8 _ _
   ·rw[if_neg e]at hC
    rw[if_neg za];exact hC
  have hseg:rowSeg (b:Int) l (i:Int)=(l.drop f).take b:=by unfold rowSeg;rw[Int.toNat_natCast,Int.toNat_natCast,hf']
  have hsl:((l.drop f).take b).length=b:=by rw[List.length_take,List.length_drop];omega
  rw[hseg];refine(local_row.goes a b i l.length c f f2 A w hf' D (Nat.le_trans hfl hc) za za).mono ?_;rintro e w' ⟨rfl,hb⟩;refine⟨_,rfl,?_,hb⟩;have:=Kd.V_mk (e:=5) (base:=w.heap.size) (c:=c-f) (by rw[hsl];omega) (Kd.F_mono (Kd.F_below hsg hb) (ok':=fun k_=>(P k_∨w.heap.size<=k_)) fun k hk=> .inl hk);rw[hsl]at this
  exact this
 ·rw[if_neg hg]at h
  cases h
def local_lead.l0:Nat->List Int->Int->Int->Option (Int)
 |0,_,_,_=>none
 |k+1,x5,x6,x7=>if x7<x6 then(if 0<=x7 then(if x7<(x5.length:Int)then(if(rd x5 x7)=0 then(local_lead.l0 k x5 x6 (wrap64 (x7+1)))else(some x7))else(none))else(none))else(some (-1))
def local_lead.f(k:Nat)(l0:List Int):Option (Int):=local_lead.l0 k l0 (l0.length:Int) 0
theorem local_lead.mono_l: ∀k,(∀y0 y1 y2,LeO (local_lead.l0 k y0 y1 y2) (local_lead.l0 (k+1) y0 y1 y2))
 |0=>fun _ _ _ r h=>by simp[local_lead.l0]at h
 |k+1=>by
  have D:=local_lead.mono_l k
  ·intro y0 y1 y2;unfold local_lead.l0
   with_reducible repeat' first|exact D _ _ _|exact LeO.refl _|exact LeO.none _|refine LeO.ite ?_ ?_|refine LeO.bind ?_ (fun _=>?_)
theorem local_lead.mono: ∀a0 k,LeO (local_lead.f k a0) (local_lead.f (k+1) a0):=by
 intro a0 k;have D:=local_lead.mono_l k;unfold local_lead.f
 with_reducible repeat' first|exact D _ _ _|exact LeO.refl _|exact LeO.none _|refine LeO.ite ?_ ?_|refine LeO.bind ?_ (fun _=>?_)
theorem local_lead.calls(k:Nat)(A0:Option Addr)(c0:Nat)(l0:List Int)(r:Int)(w:World)(Z:Kd.C (Kd.int .u8) w A0 l0.length l0)(Y:l0.length<=c0)(h:local_lead.f k l0=some r):
 Calls Tryd.prog 85 #[.slice A0 l0.length c0] w fun e w'=>e= .returned (.int .i64 r)/\Drawn0 w w':=by
 have X:=aK Z;have aa:=aK Y;clear Z Y;have H:(local_lead.l0 k l0 (l0.length:Int) 0)=some r:=h;clear h;have H':=aK H;clear H
 go_enter Tryd.func85,Tryd.ntmps85
 go_wp2
 go_loopg [7] k (fun kq v7 w'=> ∃(D:Int),v7= .int .i64 D/\Aside0 (local_lead.l0 kq l0 (l0.length:Int) D=some r)/\Aside0 (kq<=k)/\Drawn0 w w')
 case atStart=>exact⟨(0),rsE,H',⟨Nat.le_refl _⟩,by repeat(first|exact Drawn0.refl _|apply Drawn0.step)⟩
 case round=>
  clear H';obtain⟨D,rfl,HA,U,⟨m1,rfl⟩⟩:=hrel
  cases gk with
  |zero=>exact absurd HA.out (by simp[local_lead.l0])
  |succ k1=>
   have H:=HA.out;clear HA;simp only[local_lead.l0]at H;by_cases c2:D<(l0.length:Int)
   case neg=>
    rw[if_neg c2]at H
    have c2b0:decide (D<(l0.length:Int))=false:=decide_eq_false c2;clear c2;obtain rfl:=Option.some.inj H;go_wp2
    go_ret
    exact zD
   rw[if_pos c2]at H
   have c2b0:decide (D<(l0.length:Int))=true:=decide_eq_true c2;clear c2;by_cases c3:0<=D
   case neg=>rw[if_neg c3]at H;exact absurd H zd
   rw[if_pos c3]at H
   have c3b0:decide (0<=D)=true:=decide_eq_true c3;clear c3;by_cases c4:D<(l0.length:Int)
   case neg=>rw[if_neg c4]at H;exact absurd H zd
   rw[if_pos c4]at H
   have c4b0:decide (D<(l0.length:Int))=true:=decide_eq_true c4;clear c4;by_cases c5:(rd l0 D)=0
   case neg=>
    rw[if_neg c5]at H
    have c5b0:((rd l0 D)==0)=false:=beq_eq_false_iff_ne.mpr c5;have c5b1:((rd l0 D)!=0)=true:=bne_iff_ne.mpr c5;obtain rfl:=Option.some.inj H;have G:0<=(D:Int):=of_decide_eq_true asE;have I:D<(l0.length:Int):=of_decide_eq_true asE;obtain⟨O,J,L⟩:=Kd.at_int X.out D G I
    cases J
    replace G:=eq_true G;replace I:=eq_true I;go_wp2
    go_ret
    exact zD
   rw[if_pos c5]at H
   have c5b0:((rd l0 D)==0)=true:=beq_iff_eq.mpr c5;have c5b1:((rd l0 D)!=0)=false:=bne_eq_false_iff_eq.mpr c5;clear c5;have H':=aK H;clear H;have G:0<=(D:Int):=of_decide_eq_true asE;have I:D<(l0.length:Int):=of_decide_eq_true asE;obtain⟨O,J,L⟩:=Kd.at_int X.out D G I
   cases J
   replace G:=eq_true G;replace I:=eq_true I;go_wp2
   go_roundg k1
   case measure=>have:=U.out;omega
   case rel=>exact⟨(wrap64 (D+1)),rsE,H',⟨by have:=U.out;omega⟩,by repeat(first|exact Drawn0.refl _|apply Drawn0.step)⟩
def field_Mul.l0:Nat->Int->Int->Int->Option (Int)
 |0,_,_,_=>none
 |k+1,x0,x1,x5=>if x1=0 then(some x5)else(if(Go.bits .and .u8 x1 1)=0 then((field_double.f x0).bind fun D=>(field_Mul.l0 k D (x1 / 2) x5))else((field_double.f x0).bind fun G=>(field_Mul.l0 k G (x1 / 2) (Go.bits .xor .u8 x5 x0))))
def field_Mul.f(k:Nat)(a0:Int)(a1:Int):Option (Int):=field_Mul.l0 k a0 a1 0
theorem field_Mul.mono_l: ∀k,(∀y0 y1 y2,LeO (field_Mul.l0 k y0 y1 y2) (field_Mul.l0 (k+1) y0 y1 y2))
 |0=>fun _ _ _ r h=>by simp[field_Mul.l0]at h
 |k+1=>by
  have D:=field_Mul.mono_l k
  ·intro y0 y1 y2;unfold field_Mul.l0
   with_reducible repeat' first|exact D _ _ _|exact LeO.refl _|exact LeO.none _|refine LeO.ite ?_ ?_|refine LeO.bind ?_ (fun _=>?_)
theorem field_Mul.mono: ∀a0 a1 k,LeO (field_Mul.f k a0 a1) (field_Mul.f (k+1) a0 a1):=by
 intro a0 a1 k;have D:=field_Mul.mono_l k;unfold field_Mul.f
 with_reducible repeat' first|exact D _ _ _|exact LeO.refl _|exact LeO.none _|refine LeO.ite ?_ ?_|refine LeO.bind ?_ (fun _=>?_)
theorem field_Mul.calls(k:Nat)(a0:Int)(a1:Int)(r:Int)(w:World)(h:field_Mul.f k a0 a1=some r):
 Calls Tryd.prog 115 #[.int .u8 a0,.int .u8 a1] w fun e w'=>e= .returned (.int .u8 r)/\Drawn0 w w':=by
 have H:(field_Mul.l0 k a0 a1 0)=some r:=h;clear h;have H':=aK H;clear H
 go_enter Tryd.func115,Tryd.ntmps115
 go_wp2
 go_loopg [0,1,5] k (fun kq v0 v1 v5 w'=> ∃(G:Int) (D:Int) (I:Int),v0= .int .u8 G/\v1= .int .u8 D/\v5= .int .u8 I/\Aside0 (field_Mul.l0 kq G D I=some r)/\Aside0 (kq<=k)/\Drawn0 w w')
 case atStart=>exact⟨(a0),(a1),(0),rsE,rsE,rsE,H',⟨Nat.le_refl _⟩,by repeat(first|exact Drawn0.refl _|apply Drawn0.step)⟩
 case round=>
  clear H'
  (try clear c1);(try clear p2)
  obtain⟨G,D,I,rfl,rfl,rfl,HA,J,⟨m1,rfl⟩⟩:=hrel
  cases gk with
  |zero=>exact absurd HA.out (by simp[field_Mul.l0])
  |succ k1=>
   have H:=HA.out;clear HA;simp only[field_Mul.l0]at H;by_cases c3:D=0
   ·rw[if_pos c3]at H
    have c3b0:(D==0)=true:=beq_iff_eq.mpr c3;have c3b1:(D !=0)=false:=bne_eq_false_iff_eq.mpr c3;clear c3;obtain rfl:=Option.some.inj H;go_wp2
    go_ret
    exact zD
   rw[if_neg c3]at H
   have c3b0:(D==0)=false:=beq_eq_false_iff_ne.mpr c3;have c3b1:(D !=0)=true:=bne_iff_ne.mpr c3;by_cases c4:(Go.bits .and .u8 D 1)=0
   case neg=>
    rw[if_neg c4]at H
    have c4b0:((Go.bits .and .u8 D 1)==0)=false:=beq_eq_false_iff_ne.mpr c4;have c4b1:((Go.bits .and .u8 D 1)!=0)=true:=bne_iff_ne.mpr c4;obtain⟨O,A6,H⟩:=bindO H
    (try dsimp only at H)
    have H':=aK H;clear H
    go_wp2_with (first|((with_reducible refine gC 120 rfl ?_);refine cG (some 17) Tryd.func120 #[.int .u8 G] ?_;(with_reducible refine(field_double.calls G O _ A6.out).mono ?_);rintro e w' ⟨rfl,⟨nd,rfl⟩⟩;refine⟨_,rfl,?_⟩))
    go_roundg k1
    case measure=>have:=J.out;omega
    case rel=>exact⟨(O),(D / 2),(Go.bits .xor .u8 I G),rsE,rsE,rsE,H',⟨by have:=J.out;omega⟩,by repeat(first|exact Drawn0.refl _|apply Drawn0.step)⟩
   rw[if_pos c4]at H
   have c4b0:((Go.bits .and .u8 D 1)==0)=true:=beq_iff_eq.mpr c4;have c4b1:((Go.bits .and .u8 D 1)!=0)=false:=bne_eq_false_iff_eq.mpr c4;clear c4;obtain⟨L,A5,H⟩:=bindO H
   (try dsimp only at H)
   have H':=aK H;clear H
   go_wp2_with (first|((with_reducible refine gC 120 rfl ?_);refine cG (some 17) Tryd.func120 #[.int .u8 G] ?_;(with_reducible refine(field_double.calls G L _ A5.out).mono ?_);rintro e w' ⟨rfl,⟨nd,rfl⟩⟩;refine⟨_,rfl,?_⟩))
   go_roundg k1
   case measure=>have:=J.out;omega
   case rel=>exact⟨(L),(D / 2),(I),rsE,rsE,rsE,H',⟨by have:=J.out;omega⟩,by repeat(first|exact Drawn0.refl _|apply Drawn0.step)⟩
def field_Div.f(k:Nat)(a0:Int)(a1:Int):Option (Int×Int):=(field_Inv.f a1).bind fun D=>(if D.2=0 then((field_Mul.f k a0 D.1).bind fun G=>(some (G,0)))else(some (0,D.2)))
theorem field_Div.mono: ∀a0 a1 k,LeO (field_Div.f k a0 a1) (field_Div.f (k+1) a0 a1):=by
 intro a0 a1 k;unfold field_Div.f
 with_reducible repeat' first|exact field_Mul.mono _ _ _|exact LeO.refl _|exact LeO.none _|refine LeO.ite ?_ ?_|refine LeO.bind ?_ (fun _=>?_)
theorem field_Div.calls(k:Nat)(a0:Int)(a1:Int)(r1:Int)(r2:Int)(w:World)(h:field_Div.f k a0 a1=some (r1,r2)):
 Calls Tryd.prog 99 #[.int .u8 a0,.int .u8 a1] w fun e w'=>e= .returned (.tuple #[.int .u8 r1,.int .i64 r2])/\Below w.heap.size w w':=by
 have HB:=aK (Below.refl w.heap.size w);have H:((field_Inv.f a1).bind fun G=>(if G.2=0 then((field_Mul.f k a0 G.1).bind fun J=>(some (J,0)))else(some (0,G.2))))=some (r1,r2):=h;clear h;obtain⟨⟨I,D⟩,A3,H⟩:=bindO H
 (try dsimp only at H)
 by_cases c4:D=0
 ·rw[if_pos c4]at H
  have c4b0:(D==0)=true:=beq_iff_eq.mpr c4;have c4b1:(D !=0)=false:=bne_eq_false_iff_eq.mpr c4;clear c4;obtain⟨J,A5,H⟩:=bindO H
  (try dsimp only at H)
  obtain⟨rfl,rfl⟩:=zP2 H
  go_enter Tryd.func99,Tryd.ntmps99
  go_wp2_with (first|((with_reducible refine gC 108 rfl ?_);refine cG (some 10) Tryd.func108 #[.int .u8 a1] ?_;(with_reducible refine(field_Inv.calls a1 I D _ A3.out).mono ?_);rintro e w6 ⟨rfl,hb⟩;refine⟨_,rfl,?_⟩;replace HB:=hbB HB hb;(try clear hb))|((with_reducible refine gC 115 rfl ?_);refine cG (some 18) Tryd.func115 #[.int .u8 a0,.int .u8 I] ?_;(with_reducible refine(field_Mul.calls k a0 I J _ A5.out).mono ?_);rintro e w' ⟨rfl,⟨nd,rfl⟩⟩;refine⟨_,rfl,?_⟩))
  go_ret2
  exact⟨rfE,hbA HB.out⟩
 ·rw[if_neg c4]at H
  have c4b0:(D==0)=false:=beq_eq_false_iff_ne.mpr c4;have c4b1:(D !=0)=true:=bne_iff_ne.mpr c4;obtain⟨rfl,rfl⟩:=zP2 H
  go_enter Tryd.func99,Tryd.ntmps99
  go_wp2_with (first|((with_reducible refine gC 108 rfl ?_);refine cG (some 10) Tryd.func108 #[.int .u8 a1] ?_;(with_reducible refine(field_Inv.calls a1 I D _ A3.out).mono ?_);rintro e w7 ⟨rfl,hb⟩;refine⟨_,rfl,?_⟩;replace HB:=hbB HB hb;(try clear hb)))
  go_ret2
  exact⟨rfE,hbA HB.out⟩
def local_basis_left.l0:Nat->List Int->List (List Int)->Int->Int->Option (List Int)
 |0,_,_,_,_=>none
 |k+1,x1,I,O,D=>if D<O then(if 0<=D then(if D<(I.length:Int)then((local_lead.f k (rd_L3 I D)).bind fun G=>(if 0<=G then(if G<(x1.length:Int)then(if G<((rd_L3 I D).length:Int)then((field_Div.f k (rd x1 G) (rd (rd_L3 I D) G)).bind fun J=>(if J.1=0 then(local_basis_left.l0 k x1 I O (wrap64 (D+1)))else((field_Mac.f k x1 J.1 (rd_L3 I D)).bind fun L=>(local_basis_left.l0 k L.1 I O (wrap64 (D+1))))))else(none))else(none))else(none)))else(none))else(none))else(some x1)
def local_basis_left.f(k:Nat)(l0:List (List Int))(l1:List Int):Option (List Int):=local_basis_left.l0 k l1 l0 (l0.length:Int) 0
theorem local_basis_left.mono_l: ∀k,(∀y0 y1 y2 y3,LeO (local_basis_left.l0 k y0 y1 y2 y3) (local_basis_left.l0 (k+1) y0 y1 y2 y3))
 |0=>fun _ _ _ _ r h=>by simp[local_basis_left.l0]at h
 |k+1=>by
  have D:=local_basis_left.mono_l k
  ·intro y0 y1 y2 y3;unfold local_basis_left.l0
   with_reducible repeat' first|exact D _ _ _ _|exact field_Div.mono _ _ _|exact field_Mac.mono _ _ _ _|exact local_lead.mono _ _|exact LeO.refl _|exact LeO.none _|refine LeO.ite ?_ ?_|refine LeO.bind ?_ (fun _=>?_)
theorem local_basis_left.mono: ∀a0 a1 k,LeO (local_basis_left.f k a0 a1) (local_basis_left.f (k+1) a0 a1):=by
 intro a0 a1 k;have D:=local_basis_left.mono_l k;unfold local_basis_left.f
 with_reducible repeat' first|exact D _ _ _ _|exact field_Div.mono _ _ _|exact field_Mac.mono _ _ _ _|exact local_lead.mono _ _|exact LeO.refl _|exact LeO.none _|refine LeO.ite ?_ ?_|refine LeO.bind ?_ (fun _=>?_)
def local_basis_left.T5:Bool×List (List Nat×List Nat):=(true,[([],[]),([],[]),([0,1],[0,1]),([2],[2]),([],[]),([],[]),([4,5],[4,5]),([6],[6]),([3,7],[3,7]),([8],[8]),([9],[9]),([9],[9]),([10,8,0,1,2,3,4,5,6,7,8,9,10],[10]),([11,12,0,1,2,3,4,5,6,7,8,9,10,11,12],[11])])
def local_basis_left.B5:List Nat:= [0,0,3,7,0,0,48,112,255,511,1023,1023,2047,8191]
theorem local_basis_left.tab5:rtab .any (opsOf Tryd.f84 5)=local_basis_left.T5:=by kernel_rfl
theorem local_basis_left.bits5:waitsOk local_basis_left.T5.2 local_basis_left.B5=true:=by kernel_rfl
theorem local_basis_left.calls(k:Nat)(A0:Option Addr)(c0:Nat)(l0:List (List Int))(P1_:Nat->Prop)(A1:Option Addr)(c1:Nat)(l1:List Int)(r:List Int)(w:World)(a5:Kd.C (Kd.slice 5 (Kd.int .u8)) w A0 l0.length l0)(a4:l0.length<=c0)(ba:Kd.V (Kd.int .u8) 5 w w.heap.size (fun k_=>P1_ k_) (.slice A1 l1.length c1) l1)(h:local_basis_left.f k l0 l1=some r):
 Calls Tryd.prog 84 #[.slice A0 l0.length c0,.slice A1 l1.length c1] w fun e w'=> ∃v0_:Value,e= .returned (v0_)/\Kd.V (Kd.int .u8) 5 w' w.heap.size (fun k_=>(P1_ k_∨w.heap.size<=k_)) v0_ r/\Below w.heap.size w w':=by
 have a2:=aK a5;have bg:=aK a4;clear a5 a4;have a8:=aK (show Kd.V (Kd.int .u8) 5 w w.heap.size (fun k_=>(P1_ k_∨w.heap.size<=k_)) (.slice A1 l1.length c1) l1 from Kd.V_mono ba (fun k_ hk=> .inl hk));have HB:=aK (Below.refl w.heap.size w);have H:(local_basis_left.l0 k l1 l0 (l0.length:Int) 0)=some r:=h;clear h;have H':=aK H;clear H
 go_enter Tryd.func84,Tryd.ntmps84
 go_wp2
 go_loopg [1,12] k (fun kq v1 bb w'=> ∃(L:List Int) (D:Int),bb= .int .i64 D/\Aside0 (local_basis_left.l0 kq L l0 (l0.length:Int) D=some r)/\Aside0 (kq<=k)/\Aside0 (Kd.V (Kd.int .u8) 5 w' w.heap.size (fun k_=>(P1_ k_∨w.heap.size<=k_)) v1 L)/\Aside0 (Below w.heap.size w w'))
 case atStart=>exact⟨(l1),(0),rsE,H',⟨Nat.le_refl _⟩,⟨by(with_reducible repeat(first|apply Kd.V_alloc|apply Kd.V_drewN|apply Kd.V_drew));exact a8.out⟩,⟨hbA HB.out⟩⟩
 case round=>
  clear H'
  (try clear c1);(try clear p2)
  obtain⟨L,D,rfl,HA,ar,HO_1,HB⟩:=hrel
  cases gk with
  |zero=>exact absurd HA.out (by simp[local_basis_left.l0])
  |succ k1=>
   have H:=HA.out;clear HA;simp only[local_basis_left.l0]at H;by_cases c3:D<(l0.length:Int)
   case neg=>
    rw[if_neg c3]at H
    have c3b0:decide (D<(l0.length:Int))=false:=decide_eq_false c3;clear c3;obtain rfl:=Option.some.inj H;go_wp2
    go_ret
    exact⟨_,rfE,by(with_reducible repeat(first|apply Kd.V_alloc|apply Kd.V_drewN|apply Kd.V_drew));exact HO_1.out,hbA HB.out⟩
   rw[if_pos c3]at H
   have c3b0:decide (D<(l0.length:Int))=true:=decide_eq_true c3;clear c3;by_cases c4:0<=D
   case neg=>rw[if_neg c4]at H;exact absurd H zd
   rw[if_pos c4]at H
   have c4b0:decide (0<=D)=true:=decide_eq_true c4;clear c4;by_cases c5:D<(l0.length:Int)
   case neg=>rw[if_neg c5]at H;exact absurd H zd
   rw[if_pos c5]at H
   have c5b0:decide (D<(l0.length:Int))=true:=decide_eq_true c5;clear c5;obtain⟨G,A6,H⟩:=bindO H
   (try dsimp only at H)
   by_cases c7:0<=G
   case neg=>rw[if_neg c7]at H;exact absurd H zd
   rw[if_pos c7]at H
   have c7b0:decide (0<=G)=true:=decide_eq_true c7;clear c7;by_cases c8:G<(L.length:Int)
   case neg=>rw[if_neg c8]at H;exact absurd H zd
   rw[if_pos c8]at H
   have c8b0:decide (G<(L.length:Int))=true:=decide_eq_true c8;clear c8;by_cases c9:G<((rd_L3 l0 D).length:Int)
   case neg=>rw[if_neg c9]at H;exact absurd H zd
   rw[if_pos c9]at H
   have c9b0:decide (G<((rd_L3 l0 D).length:Int))=true:=decide_eq_true c9;clear c9;obtain⟨⟨ab,aw⟩,a1,H⟩:=bindO H
   (try dsimp only at H)
   by_cases an:ab=0
   ·rw[if_pos an]at H
    have c11b0:(ab==0)=true:=beq_iff_eq.mpr an;have c11b1:(ab !=0)=false:=bne_eq_false_iff_eq.mpr an;clear an;have H':=aK H;clear H;have ae:0<=(D:Int):=of_decide_eq_true asE;have ah:D<(l0.length:Int):=of_decide_eq_true asE;obtain⟨az,ak,ac,ao,O,Y,X⟩:=at_L3 a2.out D ae ah
    cases ao
    replace O:=(HB.out.cell (World.block_lt_of_cell? w _ O)).trans O;have U:=aK X;have aa:=aK Y;clear X Y;replace ae:=eq_true ae;replace ah:=eq_true ah
    try go_wp2_with (first|((with_reducible refine gC 85 rfl ?_);refine cG (some 17) Tryd.func85 #[.slice ak (rd_L3 l0 D).length ac] ?_;(with_reducible refine(local_lead.calls k1 _ _ (rd_L3 l0 D) G _ ?side1 ?side2 A6.out).mono ?_);(case side1=>exact kcB U HB);(case side2=>exact aa.out);rintro e w' ⟨rfl,⟨nd,rfl⟩⟩;refine⟨_,rfl,?_⟩))
    (try(rw[drewN_self wr];generalize hq_:World.drewN wr _=wr;have n0_:Aside0 (Kd.V (Kd.int .u8) 5 wr w.heap.size (fun k_=>(P1_ k_∨w.heap.size<=k_)) u1 L):=⟨by rw[<-hq_];exact(by(with_reducible repeat(first|apply Kd.V_alloc|apply Kd.V_drewN|apply Kd.V_drew));exact HO_1.out)⟩;have n1_:Aside0 (Below w.heap.size w wr):=⟨by rw[<-hq_];exact(hbA HB.out)⟩;clear HO_1 HB hq_;have HO_1:=n0_;have HB:=n1_;clear n0_ n1_))
    replace HO_1:=aK (Kd.V_drew HO_1.out);replace HB:=aK (below_drew1 HB.out);obtain⟨bc,be,au⟩:=Kd.V_slice HO_1.out
    (first|subst au|(injection au with f1_ f2_ f3_;have f4_:=f1_.symm;have f5_:=f3_.symm;clear f1_ f2_ f3_;subst f4_;subst f5_))
    have af:0<=(G:Int):=of_decide_eq_true asE;have ai:G<(L.length:Int):=of_decide_eq_true asE;obtain⟨al,ap,Z⟩:=Kd.at_int (Kd.V_reads' HO_1.out).2.2 G af ai
    cases ap
    replace af:=eq_true af;replace ai:=eq_true ai;have ag:0<=(G:Int):=of_decide_eq_true asE;have aj:G<((rd_L3 l0 D).length:Int):=of_decide_eq_true asE;obtain⟨am,aq,I⟩:=Kd.at_int U.out G ag aj;have J:=I
    cases aq
    replace I:=(HB.out.cell (World.block_lt_of_cell? w _ I)).trans I;replace ag:=eq_true ag;replace aj:=eq_true aj;refine start_ (n:=14) (S:=fun w'=>w'.cell? (al.add (G).toNat)=some (.int .u8 (rd L G))/\w'.cell? (am.add (G).toNat)=some (.int .u8 (rd (rd_L3 l0 D) G))) (ds:= []) (.replicate 14 false) zb rfl rfl ⟨Z,((HB.out.cell (World.block_lt_of_cell? w _ J)).trans J)⟩ (fun hHeld=>?_);refine with_tabW local_basis_left.tab5 local_basis_left.bits5 (fun HT_ HW_=>?_);generalize wr.drew=bh at HO_1 HB Z I hHeld⊢;refine pu 0 (some 19) (mB 14 1) HT_ ?_;refine pu 1 (some 20) (mB 14 3) HT_ ?_;refine pu 2 (some 21) (mB 14 7) HT_ ?_;refine pu 4 (some 23) (mB 14 23) HT_ ?_;refine pu 5 (some 24) (mB 14 55) HT_ ?_;refine pu 6 (some 25) (mB 14 119) HT_ ?_;refine tk2 3 (some 22) (mB 14 127) HT_ HW_ hHeld ?_;refine tk2 7 (some 26) (mB 14 255) HT_ HW_ hHeld ?_;refine zoh 8 (some 27) (mB 14 511) HT_ fun K hK=>?_;refine goes_ Tryd.func99 zb rfl #[.int .u8 (rd L G),.int .u8 (rd (rd_L3 l0 D) G)] ze rfl rfl (by(try simp only[List.map_toArray,List.map_cons,List.map_nil]);first|done|rfl|(simp only[List.length_drop,List.length_take];rfl)) ?_;with_reducible refine(field_Div.calls k1 (rd L G) (rd (rd_L3 l0 D) G) ab aw _ a1.out).mono ?_
    rintro e bi ⟨rfl,hb⟩;have HS0_:=(hb.cell (World.block_lt_of_cell? _ _ (hHeld.1))).trans (hHeld.1);refine⟨_,rfl,?_⟩;replace HO_1:=aK (Kd.V_below (by(with_reducible repeat(first|apply Kd.V_alloc|apply Kd.V_drewN|apply Kd.V_drew));exact HO_1.out) hb);replace HB:=hbB HB hb
    (try clear hb)
    (try clear a9)
    (try clear hk)
    (try clear hi)
    refine hK.out _ _ ⟨HS0_,((HB.out.cell (World.block_lt_of_cell? w _ J)).trans J)⟩ (fun hHeld=>?_);clear hK K;refine znm (some 27) ?_;refine pu 9 (some 18) (mB 14 1023) HT_ ?_;refine pu 10 (some 28) (mB 14 2047) HT_ ?_;refine pu 11 (some 29) (mB 14 4095) HT_ ?_;refine pu 12 (some 8) (mB 14 8191) HT_ ?_;refine pu 13 (some 9) (mB 14 16383) HT_ ?_;refine done_ (done_of HT_.out zb) ?_
    try go_wp2
    go_roundg k1
    case measure=>have:=ar.out;omega
    case rel=>exact⟨(L),(wrap64 (D+1)),rsE,H',⟨by have:=ar.out;omega⟩,⟨by(with_reducible repeat(first|apply Kd.V_alloc|apply Kd.V_drewN|apply Kd.V_drew));exact HO_1.out⟩,⟨hbA HB.out⟩⟩
   rw[if_neg an]at H
   have c11b0:(ab==0)=false:=beq_eq_false_iff_ne.mpr an;have c11b1:(ab !=0)=true:=bne_iff_ne.mpr an;obtain⟨⟨ax,a6⟩,a7,H⟩:=bindO H
   (try dsimp only at H)
   have H':=aK H;clear H;have ae:0<=(D:Int):=of_decide_eq_true asE;have ah:D<(l0.length:Int):=of_decide_eq_true asE;obtain⟨az,ak,ac,ao,O,Y,X⟩:=at_L3 a2.out D ae ah
   cases ao
   replace O:=(HB.out.cell (World.block_lt_of_cell? w _ O)).trans O;have U:=aK X;have aa:=aK Y;clear X Y;replace ae:=eq_true ae;replace ah:=eq_true ah
   try go_wp2_with (first|((with_reducible refine gC 85 rfl ?_);refine cG (some 17) Tryd.func85 #[.slice ak (rd_L3 l0 D).length ac] ?_;(with_reducible refine(local_lead.calls k1 _ _ (rd_L3 l0 D) G _ ?side1 ?side2 A6.out).mono ?_);(case side1=>exact kcB U HB);(case side2=>exact aa.out);rintro e w' ⟨rfl,⟨nd,rfl⟩⟩;refine⟨_,rfl,?_⟩))
   (try(rw[drewN_self wr];generalize hq_:World.drewN wr _=wr;have n0_:Aside0 (Kd.V (Kd.int .u8) 5 wr w.heap.size (fun k_=>(P1_ k_∨w.heap.size<=k_)) u1 L):=⟨by rw[<-hq_];exact(by(with_reducible repeat(first|apply Kd.V_alloc|apply Kd.V_drewN|apply Kd.V_drew));exact HO_1.out)⟩;have n1_:Aside0 (Below w.heap.size w wr):=⟨by rw[<-hq_];exact(hbA HB.out)⟩;clear HO_1 HB hq_;have HO_1:=n0_;have HB:=n1_;clear n0_ n1_))
   replace HO_1:=aK (Kd.V_drew HO_1.out);replace HB:=aK (below_drew1 HB.out);obtain⟨bd,a3,av⟩:=Kd.V_slice HO_1.out
   (first|subst av|(injection av with f1_ f2_ f3_;have f4_:=f1_.symm;have f5_:=f3_.symm;clear f1_ f2_ f3_;subst f4_;subst f5_))
   have af:0<=(G:Int):=of_decide_eq_true asE;have ai:G<(L.length:Int):=of_decide_eq_true asE;obtain⟨al,ap,Z⟩:=Kd.at_int (Kd.V_reads' HO_1.out).2.2 G af ai
   cases ap
   replace af:=eq_true af;replace ai:=eq_true ai;have ag:0<=(G:Int):=of_decide_eq_true asE;have aj:G<((rd_L3 l0 D).length:Int):=of_decide_eq_true asE;obtain⟨am,aq,I⟩:=Kd.at_int U.out G ag aj;have J:=I
   cases aq
   replace I:=(HB.out.cell (World.block_lt_of_cell? w _ I)).trans I;replace ag:=eq_true ag;replace aj:=eq_true aj;refine start_ (n:=14) (S:=fun w'=>w'.cell? (al.add (G).toNat)=some (.int .u8 (rd L G))/\w'.cell? (am.add (G).toNat)=some (.int .u8 (rd (rd_L3 l0 D) G))) (ds:= []) (.replicate 14 false) zb rfl rfl ⟨Z,((HB.out.cell (World.block_lt_of_cell? w _ J)).trans J)⟩ (fun hHeld=>?_);refine with_tabW local_basis_left.tab5 local_basis_left.bits5 (fun HT_ HW_=>?_);generalize wr.drew=bj at HO_1 HB Z I hHeld⊢;refine pu 0 (some 19) (mB 14 1) HT_ ?_;refine pu 1 (some 20) (mB 14 3) HT_ ?_;refine pu 2 (some 21) (mB 14 7) HT_ ?_;refine pu 4 (some 23) (mB 14 23) HT_ ?_;refine pu 5 (some 24) (mB 14 55) HT_ ?_;refine pu 6 (some 25) (mB 14 119) HT_ ?_;refine tk2 3 (some 22) (mB 14 127) HT_ HW_ hHeld ?_;refine tk2 7 (some 26) (mB 14 255) HT_ HW_ hHeld ?_;refine zoh 8 (some 27) (mB 14 511) HT_ fun K hK=>?_;refine goes_ Tryd.func99 zb rfl #[.int .u8 (rd L G),.int .u8 (rd (rd_L3 l0 D) G)] ze rfl rfl (by(try simp only[List.map_toArray,List.map_cons,List.map_nil]);first|done|rfl|(simp only[List.length_drop,List.length_take];rfl)) ?_;with_reducible refine(field_Div.calls k1 (rd L G) (rd (rd_L3 l0 D) G) ab aw _ a1.out).mono ?_
   rintro e bk ⟨rfl,hb⟩;have HS0_:=(hb.cell (World.block_lt_of_cell? _ _ (hHeld.1))).trans (hHeld.1);refine⟨_,rfl,?_⟩;replace HO_1:=aK (Kd.V_below (by(with_reducible repeat(first|apply Kd.V_alloc|apply Kd.V_drewN|apply Kd.V_drew));exact HO_1.out) hb);replace HB:=hbB HB hb
   (try clear hb)
   (try clear a9)
   (try clear hk)
   (try clear hi)
   refine hK.out _ _ ⟨HS0_,((HB.out.cell (World.block_lt_of_cell? w _ J)).trans J)⟩ (fun hHeld=>?_);clear hK K;refine znm (some 27) ?_;refine pu 9 (some 18) (mB 14 1023) HT_ ?_;refine pu 10 (some 28) (mB 14 2047) HT_ ?_;refine pu 11 (some 29) (mB 14 4095) HT_ ?_;refine pu 12 (some 8) (mB 14 8191) HT_ ?_;refine pu 13 (some 9) (mB 14 16383) HT_ ?_;refine done_ (done_of HT_.out zb) ?_
   try go_wp2_with (first|((with_reducible refine gC 100 rfl ?_);refine cG (some 36) Tryd.func100 #[.slice (some al) L.length a3,.int .u8 ab,.slice (some am) (rd_L3 l0 D).length ac] ?_;(with_reducible refine(field_Mac.calls k1 _ _ L ab _ _ (rd_L3 l0 D) ax a6 _ ?side1 ?side2 ?side3 ?side4 a7.out).mono ?_);(case side1=>repeat(first|exact(Kd.V_reads' HO_1.out).2.2|(with_reducible refine Kd.C_alloc ?_ _)|(with_reducible refine Kd.C_drewN ?_ _)|(with_reducible refine Kd.C_drew ?_)));(case side2=>exact(Kd.V_reads' HO_1.out).2.1);(case side3=>exact kcB U HB);(case side4=>exact aa.out);rintro e bl ⟨bf,rfl,a0,hb⟩;refine⟨_,rfl,?_⟩;replace HO_1:=aK (Kd.V_elder' (by(with_reducible repeat(first|apply Kd.V_alloc|apply Kd.V_drewN|apply Kd.V_drew));exact HO_1.out) (Kd.R_base a0) hb);have ay:=aK (Kd.R_lower (Kd.R_newM (M:=fun k_=>(w.heap.size<=k_)) a0 (below_size (hbA HB.out)) (fun k_ h_=>h_)) (below_size (hbA HB.out)));replace HB:=hbB HB hb;(try clear hb);(try clear a0)))
   go_roundg k1
   case measure=>have:=ar.out;omega
   case rel=>exact⟨(ax),(wrap64 (D+1)),rsE,H',⟨by have:=ar.out;omega⟩,⟨Kd.V_mono (Kd.R_V (by(with_reducible repeat(first|apply Kd.R_alloc|apply Kd.R_drewN|apply Kd.R_drew));exact Kd.R_mono ay.out (fun _ hk=>hk.1))) (fun k_ hk=>by first|exact⟨(.inr (hk.1)),hk.2⟩|exact(.inr (hk)))⟩,⟨hbA HB.out⟩⟩
def local_repairs.l0:Nat->Int->List (List Int)->List Int->Int->Int->Int->Int->List Int->Option (Bool)
 |0,_,_,_,_,_,_,_,_=>none
 |k+1,x1,x7,L,U,J,D,G,I=>if J<U then(if 0<=J then(if J<(L.length:Int)then((local_row.f D G I (rd L J)).bind fun aa=>((local_basis_left.f k x7 aa).bind fun O=>((local_lead.f k O).bind fun ab=>(if ab>=0 then(if x7.length<5864062014805 then(local_repairs.l0 k x1 (x7++ [O]) L U (wrap64 (J+1)) D G I)else(none))else(local_repairs.l0 k x1 x7 L U (wrap64 (J+1)) D G I)))))else(none))else(none))else((local_row.f D G I x1).bind fun X=>((local_basis_left.f k x7 X).bind fun Y=>((local_lead.f k Y).bind fun Z=>(some (decide (Z<0))))))
def local_repairs.f(k:Nat)(G:Int)(I:Int)(J:List Int)(a1:Int)(a2:Int):Option (Bool):=(subset_List.f k a2).bind fun D=>(local_repairs.l0 k a1 ([]:List (List Int)) D (D.length:Int) 0 G I J)
theorem local_repairs.mono_l: ∀k,(∀y0 y1 y2 y3 y4 y5 y6 y7,LeO (local_repairs.l0 k y0 y1 y2 y3 y4 y5 y6 y7) (local_repairs.l0 (k+1) y0 y1 y2 y3 y4 y5 y6 y7))
 |0=>fun _ _ _ _ _ _ _ _ r h=>by simp[local_repairs.l0]at h
 |k+1=>by
  have D:=local_repairs.mono_l k
  ·intro y0 y1 y2 y3 y4 y5 y6 y7;unfold local_repairs.l0
   with_reducible repeat' first|exact D _ _ _ _ _ _ _ _|exact local_basis_left.mono _ _ _|exact local_lead.mono _ _|exact subset_List.mono _ _|exact LeO.refl _|exact LeO.none _|refine LeO.ite ?_ ?_|refine LeO.bind ?_ (fun _=>?_)
theorem local_repairs.mono: ∀a0 a1 a2 a3 a4 k,LeO (local_repairs.f k a0 a1 a2 a3 a4) (local_repairs.f (k+1) a0 a1 a2 a3 a4):=by
 intro a0 a1 a2 a3 a4 k;have D:=local_repairs.mono_l k;unfold local_repairs.f
 with_reducible repeat' first|exact D _ _ _ _ _ _ _ _|exact local_basis_left.mono _ _ _|exact local_lead.mono _ _|exact subset_List.mono _ _|exact LeO.refl _|exact LeO.none _|refine LeO.ite ?_ ?_|refine LeO.bind ?_ (fun _=>?_)
theorem local_repairs.calls(k:Nat)(U:Int)(X:Int)(ab:Option Addr)(ac:Nat)(L:List Int)(a1:Int)(a2:Int)(r:Bool)(w:World)(a6:Kd.C (Kd.int .u8) w ab L.length L)(a5:L.length<=ac)(h:local_repairs.f k U X L a1 a2=some r)(hT:TabAt 0 Lib.deBruijn64tab w):
 Calls Tryd.prog 55 #[.agg #[.int .i64 U,.int .i64 X,.slice ab L.length ac],.int .i64 a1,.int .u64 a2] w fun e w'=>e= .returned (.bool r)/\Below w.heap.size w w':=by
 have HT:=aK hT;clear hT;have cz:=Tryd.underlying24;have au:=aK a6;have aq:=aK a5;clear a6 a5;have HB:=aK (Below.refl w.heap.size w);have H:((subset_List.f k a2).bind fun G=>(local_repairs.l0 k a1 ([]:List (List Int)) G (G.length:Int) 0 U X L))=some r:=h;clear h;obtain⟨G,A4,H⟩:=bindO H
 (try dsimp only at H)
 have H':=aK H;clear H
 go_enter Tryd.func55,Tryd.ntmps55
 go_wp2_with (first|((with_reducible refine gD 3 rfl ?_);refine bE 3 #[.int .i64 U,.int .i64 X,.slice ab L.length ac] 24 ?_;intro I hg w5 hbox hb;have D:=aK (hbox);have ap:=hbS HB hg;have cw:=hbS HB hg;replace HB:=hbB HB hb;clear hb hbox hg)|((with_reducible refine gC 35 rfl ?_);refine cG (some 12) Tryd.func35 #[.int .u64 a2] ?_;(with_reducible refine(subset_List.calls k a2 G _ A4.out (tab_below HT.out zf)).mono ?_);rintro e w6 ⟨c2,rfl,ae,hb⟩;refine⟨_,rfl,?_⟩;have az:=aK (Kd.R_lower ae (below_size (hbA HB.out)));replace D:=bkB D hb;replace HB:=hbB HB hb;(try clear hb);(try clear ae);obtain⟨ay,af,cx⟩:=Kd.R_slice az.out;subst cx))
 go_loopg [7,14] k (fun kq v7 cy w'=> ∃(O:List (List Int)) (J:Int),cy= .int .i64 J/\Aside0 (local_repairs.l0 kq a1 O G (G.length:Int) J U X L=some r)/\Aside0 (kq<=k)/\Aside0 (Kd.N (Kd.slice 5 (Kd.int .u8)) 22 w' w.heap.size (fun k_=>some k_≠((.slice ay G.length af):Value).ownBlock/\k_≠I) v7 O)/\Aside0 (Kd.R (Kd.int .i64) 3 w' w.heap.size (fun _=>True) (.slice ay G.length af) G)/\Aside0 (w'.heap[I]? =some (.cells #[.int .i64 U,.int .i64 X,(.slice ab L.length ac)] 24 (0,0)))/\Aside0 (Below w.heap.size w w'))
 case atStart=>exact⟨(([]:List (List Int))),(0),rsE,H',⟨Nat.le_refl _⟩,⟨by first|exact Kd.S_nil _ _ _ _ _|exact Kd.N_nil _ _ _ _ _|exact Kd.V_nil _ _ _ _ _|exact Kd.Q_nil _ _ _ _ _|exact Kd.R_nil _ _ _ _ _⟩,⟨kdA az.out⟩,⟨bkA D.out⟩,⟨hbA HB.out⟩⟩
 case round=>
  clear H'
  (try clear p2);(try clear c3);(try clear c5)
  obtain⟨O,J,rfl,HA,ba,HO_7,HO_12,D,HB⟩:=hrel
  cases gk with
  |zero=>exact absurd HA.out (by simp[local_repairs.l0])
  |succ k1=>
   have H:=HA.out;clear HA;simp only[local_repairs.l0]at H;by_cases c8:J<(G.length:Int)
   case neg=>
    rw[if_neg c8]at H
    have c8b0:decide (J<(G.length:Int))=false:=decide_eq_false c8;clear c8;obtain⟨a8,ct,H⟩:=bindO H
    (try dsimp only at H)
    obtain⟨a9,cu,H⟩:=bindO H
    (try dsimp only at H)
    obtain⟨cp,cv,H⟩:=bindO H
    (try dsimp only at H)
    obtain rfl:=Option.some.inj H;obtain⟨cd,ce,cf,cm,cn,co⟩:=cell3 D
    go_wp2_with (first|((with_reducible refine gC 37 rfl ?_);refine cG (some 34) Tryd.func37 #[.agg #[.int .i64 U,.int .i64 X,.slice ab L.length ac],.int .i64 a1] ?_;(with_reducible refine(local_row.calls U X (fun k_=>k_<w.heap.size) _ _ L a1 a8 _ ?side1 ct.out).mono ?_);(case side1=>exact Kd.V_mk aq.out (Kd.F_below (Kd.C_F (Kd.heap_int .u8) au.out) (hbA HB.out)));rintro e df ⟨c4,rfl,ae,hb⟩;refine⟨_,rfl,?_⟩;have an:=aK (Kd.V_lower (Kd.V_mono (ok':=fun k_=>some k_≠(u7:Value).ownBlock/\some k_≠(.slice ay G.length af:Value).ownBlock/\k_≠I) ae (fun k_ hk_=>⟨Or.elim hk_ (fun hs_=>fun e_=>Nat.not_le.2 hs_ (Kd.N_base HO_7.out k_ e_.symm)) (fun hn_=>(Kd.fresh' (Kd.N_lt (by(with_reducible repeat(first|apply Kd.N_alloc|apply Kd.N_drewN|apply Kd.N_drew));exact HO_7.out)) k_ hn_)),Or.elim hk_ (fun hs_=>fun e_=>Nat.not_le.2 hs_ (Kd.R_base HO_12.out k_ e_.symm)) (fun hn_=>(Kd.fresh' (Kd.R_lt (kdA HO_12.out)) k_ hn_)),Or.elim hk_ (fun hs_=>fun e_=>Nat.not_le.2 hs_ zag) (fun hn_=>(Kd.freshB (g:=I) (o:= .cells #[.int .i64 U,.int .i64 X,.slice ab L.length ac] 24 (0,0)) (bkA D.out) k_ hn_))⟩)) (below_size (hbA HB.out)));replace HO_7:=aK (Kd.N_below (by(with_reducible repeat(first|apply Kd.N_alloc|apply Kd.N_drewN|apply Kd.N_drew));exact HO_7.out) hb);replace HO_12:=kdB HO_12 hb;replace D:=bkB D hb;replace HB:=hbB HB hb;(try clear hb);(try clear ae);obtain⟨ax,a3,b3⟩:=Kd.N_slice HO_7.out;subst b3;obtain⟨bp,bu,b4⟩:=Kd.V_slice an.out;subst b4)|((with_reducible refine gC 84 rfl ?_);refine cG (some 35) Tryd.func84 #[.slice ax O.length a3,.slice bp a8.length bu] ?_;(with_reducible refine(local_basis_left.calls k1 _ _ O (fun k_=>(some k_≠(.slice ax O.length a3:Value).ownBlock/\(some k_≠(.slice ay G.length af:Value).ownBlock/\k_≠I))) _ _ a8 a9 _ ?side1 ?side2 ?side3 cu.out).mono ?_);(case side1=>repeat(first|exact(Kd.N_reads' HO_7.out).2.2|(with_reducible refine Kd.C_alloc ?_ _)|(with_reducible refine Kd.C_drewN ?_ _)|(with_reducible refine Kd.C_drew ?_)));(case side2=>exact(Kd.N_reads' HO_7.out).2.1);(case side3=>exact an.out);rintro e dg ⟨c6,rfl,ae,hb⟩;refine⟨_,rfl,?_⟩;replace an:=aK (Kd.V_below (by(with_reducible repeat(first|apply Kd.V_alloc|apply Kd.V_drewN|apply Kd.V_drew));exact an.out) hb);have ar:=aK (Kd.V_lower (Kd.V_mono (ok':=fun k_=>some k_≠(.slice ax O.length a3:Value).ownBlock/\some k_≠(.slice ay G.length af:Value).ownBlock/\k_≠I) ae (fun k_ hk_=>⟨Or.elim hk_ (fun hs_=>hs_.1) (fun hn_=>(Kd.fresh' (Kd.N_lt (by(with_reducible repeat(first|apply Kd.N_alloc|apply Kd.N_drewN|apply Kd.N_drew));exact HO_7.out)) k_ hn_)),Or.elim hk_ (fun hs_=>hs_.2.1) (fun hn_=>(Kd.fresh' (Kd.R_lt (kdA HO_12.out)) k_ hn_)),Or.elim hk_ (fun hs_=>hs_.2.2) (fun hn_=>(Kd.freshB (g:=I) (o:= .cells #[.int .i64 U,.int .i64 X,.slice ab L.length ac] 24 (0,0)) (bkA D.out) k_ hn_))⟩)) (below_size (hbA HB.out)));replace HO_7:=aK (Kd.N_below (by(with_reducible repeat(first|apply Kd.N_alloc|apply Kd.N_drewN|apply Kd.N_drew));exact HO_7.out) hb);replace HO_12:=kdB HO_12 hb;replace D:=bkB D hb;replace HB:=hbB HB hb;(try clear hb);(try clear ae);obtain⟨bq,bv,b5⟩:=Kd.V_slice ar.out;subst b5)|((with_reducible refine gC 85 rfl ?_);refine cG (some 36) Tryd.func85 #[.slice bq a9.length bv] ?_;(with_reducible refine(local_lead.calls k1 _ _ a9 cp _ ?side1 ?side2 cv.out).mono ?_);(case side1=>repeat(first|exact(Kd.V_reads' ar.out).2.2|(with_reducible refine Kd.C_alloc ?_ _)|(with_reducible refine Kd.C_drewN ?_ _)|(with_reducible refine Kd.C_drew ?_)));(case side2=>exact(Kd.V_reads' ar.out).2.1);rintro e w' ⟨rfl,⟨nd,rfl⟩⟩;refine⟨_,rfl,?_⟩))
    go_ret
    exact⟨rfE,hbA HB.out⟩
   rw[if_pos c8]at H
   have c8b0:decide (J<(G.length:Int))=true:=decide_eq_true c8;clear c8;by_cases c9:0<=J
   case neg=>rw[if_neg c9]at H;exact absurd H zd
   rw[if_pos c9]at H
   have c9b0:decide (0<=J)=true:=decide_eq_true c9;clear c9;by_cases bb:J<(G.length:Int)
   case neg=>rw[if_neg bb]at H;exact absurd H zd
   rw[if_pos bb]at H
   have c10b0:decide (J<(G.length:Int))=true:=decide_eq_true bb;clear bb;obtain⟨am,bj,H⟩:=bindO H
   (try dsimp only at H)
   obtain⟨ag,bk,H⟩:=bindO H
   (try dsimp only at H)
   obtain⟨ao,bl,H⟩:=bindO H
   (try dsimp only at H)
   by_cases av:ao>=0
   case neg=>
    rw[if_neg av]at H
    have c14b0:decide (0<=ao)=false:=decide_eq_false av;clear av;have H':=aK H;clear H;have ak:0<=(J:Int):=of_decide_eq_true asE;have al:J<(G.length:Int):=of_decide_eq_true asE;obtain⟨Y,a4,a7⟩:=Kd.at_int (Kd.R_reads' HO_12.out).2.2 J ak al
    cases a4
    replace ak:=eq_true ak;replace al:=eq_true al;obtain⟨b9,ca,cb,cj,ck,cl⟩:=cell3 D
    go_wp2_with (first|((with_reducible refine gC 37 rfl ?_);refine cG (some 21) Tryd.func37 #[.agg #[.int .i64 U,.int .i64 X,.slice ab L.length ac],.int .i64 (rd G J)] ?_;(with_reducible refine(local_row.calls U X (fun k_=>k_<w.heap.size) _ _ L (rd G J) am _ ?side1 bj.out).mono ?_);(case side1=>exact Kd.V_mk aq.out (Kd.F_below (Kd.C_F (Kd.heap_int .u8) au.out) (hbA HB.out)));rintro e dd ⟨cq,rfl,ae,hb⟩;refine⟨_,rfl,?_⟩;have Z:=aK (Kd.V_lower (Kd.V_mono (ok':=fun k_=>some k_≠(u7:Value).ownBlock/\some k_≠(.slice (some Y) G.length af:Value).ownBlock/\k_≠I) ae (fun k_ hk_=>⟨Or.elim hk_ (fun hs_=>fun e_=>Nat.not_le.2 hs_ (Kd.N_base HO_7.out k_ e_.symm)) (fun hn_=>(Kd.fresh' (Kd.N_lt (by(with_reducible repeat(first|apply Kd.N_alloc|apply Kd.N_drewN|apply Kd.N_drew));exact HO_7.out)) k_ hn_)),Or.elim hk_ (fun hs_=>fun e_=>Nat.not_le.2 hs_ (Kd.R_base HO_12.out k_ e_.symm)) (fun hn_=>(Kd.fresh' (Kd.R_lt (kdA HO_12.out)) k_ hn_)),Or.elim hk_ (fun hs_=>fun e_=>Nat.not_le.2 hs_ zag) (fun hn_=>(Kd.freshB (g:=I) (o:= .cells #[.int .i64 U,.int .i64 X,.slice ab L.length ac] 24 (0,0)) (bkA D.out) k_ hn_))⟩)) (below_size (hbA HB.out)));replace HO_7:=aK (Kd.N_below (by(with_reducible repeat(first|apply Kd.N_alloc|apply Kd.N_drewN|apply Kd.N_drew));exact HO_7.out) hb);replace HO_12:=kdB HO_12 hb;replace D:=bkB D hb;replace HB:=hbB HB hb;(try clear hb);(try clear ae);obtain⟨aw,a0,b0⟩:=Kd.N_slice HO_7.out;subst b0;obtain⟨bn,bs,b1⟩:=Kd.V_slice Z.out;subst b1)|((with_reducible refine gC 84 rfl ?_);refine cG (some 22) Tryd.func84 #[.slice aw O.length a0,.slice bn am.length bs] ?_;(with_reducible refine(local_basis_left.calls k1 _ _ O (fun k_=>(some k_≠(.slice aw O.length a0:Value).ownBlock/\(some k_≠(.slice (some Y) G.length af:Value).ownBlock/\k_≠I))) _ _ am ag _ ?side1 ?side2 ?side3 bk.out).mono ?_);(case side1=>repeat(first|exact(Kd.N_reads' HO_7.out).2.2|(with_reducible refine Kd.C_alloc ?_ _)|(with_reducible refine Kd.C_drewN ?_ _)|(with_reducible refine Kd.C_drew ?_)));(case side2=>exact(Kd.N_reads' HO_7.out).2.1);(case side3=>exact Z.out);rintro e de ⟨cr,rfl,ae,hb⟩;refine⟨_,rfl,?_⟩;replace Z:=aK (Kd.V_below (by(with_reducible repeat(first|apply Kd.V_alloc|apply Kd.V_drewN|apply Kd.V_drew));exact Z.out) hb);have aa:=aK (Kd.V_lower (Kd.V_mono (ok':=fun k_=>some k_≠(.slice aw O.length a0:Value).ownBlock/\some k_≠(.slice (some Y) G.length af:Value).ownBlock/\k_≠I) ae (fun k_ hk_=>⟨Or.elim hk_ (fun hs_=>hs_.1) (fun hn_=>(Kd.fresh' (Kd.N_lt (by(with_reducible repeat(first|apply Kd.N_alloc|apply Kd.N_drewN|apply Kd.N_drew));exact HO_7.out)) k_ hn_)),Or.elim hk_ (fun hs_=>hs_.2.1) (fun hn_=>(Kd.fresh' (Kd.R_lt (kdA HO_12.out)) k_ hn_)),Or.elim hk_ (fun hs_=>hs_.2.2) (fun hn_=>(Kd.freshB (g:=I) (o:= .cells #[.int .i64 U,.int .i64 X,.slice ab L.length ac] 24 (0,0)) (bkA D.out) k_ hn_))⟩)) (below_size (hbA HB.out)));replace HO_7:=aK (Kd.N_below (by(with_reducible repeat(first|apply Kd.N_alloc|apply Kd.N_drewN|apply Kd.N_drew));exact HO_7.out) hb);replace HO_12:=kdB HO_12 hb;replace D:=bkB D hb;replace HB:=hbB HB hb;(try clear hb);(try clear ae);obtain⟨bo,bt,b2⟩:=Kd.V_slice aa.out;subst b2)|((with_reducible refine gC 85 rfl ?_);refine cG (some 24) Tryd.func85 #[.slice bo ag.length bt] ?_;(with_reducible refine(local_lead.calls k1 _ _ ag ao _ ?side1 ?side2 bl.out).mono ?_);(case side1=>repeat(first|exact(Kd.V_reads' aa.out).2.2|(with_reducible refine Kd.C_alloc ?_ _)|(with_reducible refine Kd.C_drewN ?_ _)|(with_reducible refine Kd.C_drew ?_)));(case side2=>exact(Kd.V_reads' aa.out).2.1);rintro e w' ⟨rfl,⟨nd,rfl⟩⟩;refine⟨_,rfl,?_⟩))
    go_roundg k1
    case measure=>have:=ba.out;omega
    case rel=>exact⟨(O),(wrap64 (J+1)),rsE,H',⟨by have:=ba.out;omega⟩,⟨by(with_reducible repeat(first|apply Kd.N_alloc|apply Kd.N_drewN|apply Kd.N_drew));exact HO_7.out⟩,⟨kdA HO_12.out⟩,⟨bkA D.out⟩,⟨hbA HB.out⟩⟩
   rw[if_pos av]at H
   have c14b0:decide (0<=ao)=true:=decide_eq_true av;clear av;by_cases bc:O.length<5864062014805
   case neg=>rw[if_neg bc]at H;exact absurd H zd
   rw[if_pos bc]at H
   have bh:=aK bc;clear bc;obtain⟨bf,aj⟩: ∃y_:List (List Int),y_=(O++ [ag]):=⟨_,rfl⟩
   replace H:(local_repairs.l0 k1 a1 bf G (G.length:Int) (wrap64 (J+1)) U X L)=some r:=zH aj H
   have bi:=aK aj;clear aj;have H':=aK H;clear H;have ak:0<=(J:Int):=of_decide_eq_true asE;have al:J<(G.length:Int):=of_decide_eq_true asE;obtain⟨Y,a4,a7⟩:=Kd.at_int (Kd.R_reads' HO_12.out).2.2 J ak al
   cases a4
   replace ak:=eq_true ak;replace al:=eq_true al;obtain⟨b6,b7,b8,cg,ch,ci⟩:=cell3 D
   go_wp2_with (first|((with_reducible refine gC 37 rfl ?_);refine cG (some 21) Tryd.func37 #[.agg #[.int .i64 U,.int .i64 X,.slice ab L.length ac],.int .i64 (rd G J)] ?_;(with_reducible refine(local_row.calls U X (fun k_=>k_<w.heap.size) _ _ L (rd G J) am _ ?side1 bj.out).mono ?_);(case side1=>exact Kd.V_mk aq.out (Kd.F_below (Kd.C_F (Kd.heap_int .u8) au.out) (hbA HB.out)));rintro e da ⟨cq,rfl,ae,hb⟩;refine⟨_,rfl,?_⟩;have Z:=aK (Kd.V_lower (Kd.V_mono (ok':=fun k_=>some k_≠(u7:Value).ownBlock/\some k_≠(.slice (some Y) G.length af:Value).ownBlock/\k_≠I) ae (fun k_ hk_=>⟨Or.elim hk_ (fun hs_=>fun e_=>Nat.not_le.2 hs_ (Kd.N_base HO_7.out k_ e_.symm)) (fun hn_=>(Kd.fresh' (Kd.N_lt (by(with_reducible repeat(first|apply Kd.N_alloc|apply Kd.N_drewN|apply Kd.N_drew));exact HO_7.out)) k_ hn_)),Or.elim hk_ (fun hs_=>fun e_=>Nat.not_le.2 hs_ (Kd.R_base HO_12.out k_ e_.symm)) (fun hn_=>(Kd.fresh' (Kd.R_lt (kdA HO_12.out)) k_ hn_)),Or.elim hk_ (fun hs_=>fun e_=>Nat.not_le.2 hs_ zag) (fun hn_=>(Kd.freshB (g:=I) (o:= .cells #[.int .i64 U,.int .i64 X,.slice ab L.length ac] 24 (0,0)) (bkA D.out) k_ hn_))⟩)) (below_size (hbA HB.out)));replace HO_7:=aK (Kd.N_below (by(with_reducible repeat(first|apply Kd.N_alloc|apply Kd.N_drewN|apply Kd.N_drew));exact HO_7.out) hb);replace HO_12:=kdB HO_12 hb;replace D:=bkB D hb;replace HB:=hbB HB hb;(try clear hb);(try clear ae);obtain⟨ah,ai,bw⟩:=Kd.N_slice HO_7.out;subst bw;obtain⟨bm,br,bx⟩:=Kd.V_slice Z.out;subst bx)|((with_reducible refine gC 84 rfl ?_);refine cG (some 22) Tryd.func84 #[.slice ah O.length ai,.slice bm am.length br] ?_;(with_reducible refine(local_basis_left.calls k1 _ _ O (fun k_=>(some k_≠(.slice ah O.length ai:Value).ownBlock/\(some k_≠(.slice (some Y) G.length af:Value).ownBlock/\k_≠I))) _ _ am ag _ ?side1 ?side2 ?side3 bk.out).mono ?_);(case side1=>repeat(first|exact(Kd.N_reads' HO_7.out).2.2|(with_reducible refine Kd.C_alloc ?_ _)|(with_reducible refine Kd.C_drewN ?_ _)|(with_reducible refine Kd.C_drew ?_)));(case side2=>exact(Kd.N_reads' HO_7.out).2.1);(case side3=>exact Z.out);rintro e db ⟨cr,rfl,ae,hb⟩;refine⟨_,rfl,?_⟩;replace Z:=aK (Kd.V_below (by(with_reducible repeat(first|apply Kd.V_alloc|apply Kd.V_drewN|apply Kd.V_drew));exact Z.out) hb);have aa:=aK (Kd.V_lower (Kd.V_mono (ok':=fun k_=>some k_≠(.slice ah O.length ai:Value).ownBlock/\some k_≠(.slice (some Y) G.length af:Value).ownBlock/\k_≠I) ae (fun k_ hk_=>⟨Or.elim hk_ (fun hs_=>hs_.1) (fun hn_=>(Kd.fresh' (Kd.N_lt (by(with_reducible repeat(first|apply Kd.N_alloc|apply Kd.N_drewN|apply Kd.N_drew));exact HO_7.out)) k_ hn_)),Or.elim hk_ (fun hs_=>hs_.2.1) (fun hn_=>(Kd.fresh' (Kd.R_lt (kdA HO_12.out)) k_ hn_)),Or.elim hk_ (fun hs_=>hs_.2.2) (fun hn_=>(Kd.freshB (g:=I) (o:= .cells #[.int .i64 U,.int .i64 X,.slice ab L.length ac] 24 (0,0)) (bkA D.out) k_ hn_))⟩)) (below_size (hbA HB.out)));replace HO_7:=aK (Kd.N_below (by(with_reducible repeat(first|apply Kd.N_alloc|apply Kd.N_drewN|apply Kd.N_drew));exact HO_7.out) hb);replace HO_12:=kdB HO_12 hb;replace D:=bkB D hb;replace HB:=hbB HB hb;(try clear hb);(try clear ae);obtain⟨bd,be,bz⟩:=Kd.V_slice aa.out;subst bz)|((with_reducible refine gC 85 rfl ?_);refine cG (some 24) Tryd.func85 #[.slice bd ag.length be] ?_;(with_reducible refine(local_lead.calls k1 _ _ ag ao _ ?side1 ?side2 bl.out).mono ?_);(case side1=>repeat(first|exact(Kd.V_reads' aa.out).2.2|(with_reducible refine Kd.C_alloc ?_ _)|(with_reducible refine Kd.C_drewN ?_ _)|(with_reducible refine Kd.C_drew ?_)));(case side2=>exact(Kd.V_reads' aa.out).2.1);rintro e w' ⟨rfl,⟨nd,rfl⟩⟩;refine⟨_,rfl,?_⟩)|((with_reducible refine gate_builtin (b:= .append) (xs:= #[.tmp 26,.tmp 28]) rfl ?_);at_builtin;refine Kd.N_append (Kd.slice 5 (Kd.int .u8)) (w0:=w) w.heap.size rfl (.tmp 26) (.tmp 28) 115 22 (.slice none 0 0) 24 rfl Tryd.underlying115 info22 rfl zc za (.slice ah O.length ai) O ag [.slice bd ag.length be] (fun k_=>some k_≠(.slice (some Y) G.length af:Value).ownBlock/\k_≠I) (fun k_=>((fun k_=>some k_≠(.slice (some Y) G.length af:Value).ownBlock/\k_≠I)) k_/\some k_≠(.slice ah O.length ai:Value).ownBlock) rfl rfl ?aP (fun _ hk=>hk) ?aF ?aO ?aB ?aS ?aL ?_;(case aP=>exact(Kd.FK_slice_mk (Kd.V_reads' (Kd.V_mono (ok':=(fun k_=>((fun k_=>some k_≠(.slice (some Y) G.length af:Value).ownBlock/\k_≠I)) k_/\some k_≠(.slice ah O.length ai:Value).ownBlock)) (aa.out) (fun k_ hk=>⟨⟨hk.2.1,hk.2.2⟩,hk.1⟩))).2.1 (Kd.V_F (Kd.V_mono (ok':=(fun k_=>((fun k_=>some k_≠(.slice (some Y) G.length af:Value).ownBlock/\k_≠I)) k_/\some k_≠(.slice ah O.length ai:Value).ownBlock)) (Kd.V_drewN (aa.out) _) (fun k_ hk=>⟨⟨hk.2.1,hk.2.2⟩,hk.1⟩)))));(case aB=>exact(hbA HB.out));(case aF=>exact(fun k_ hk=>⟨Kd.fresh' (Kd.R_lt (kdA HO_12.out)) k_ hk,Kd.freshB (g:=I) (o:= .cells #[.int .i64 U,.int .i64 X,.slice ab L.length ac] 24 (0,0)) (bkA D.out) k_ hk⟩));(case aO=>exact(by(with_reducible repeat(first|apply Kd.N_alloc|apply Kd.N_drewN|apply Kd.N_drew));exact HO_7.out));(case aS=>exact(below_size (hbA HB.out)));(case aL=>have:=bh.out;omega);intro c7 dc ho hb hg hat;rw[<-bi.out]at ho;have n0_:=aK (Kd.R_over' (kdA HO_12.out) (Kd.N_typed (by(with_reducible repeat(first|apply Kd.N_alloc|apply Kd.N_drewN|apply Kd.N_drew));exact HO_7.out)) zc hg);have n1_:=aK (blk_grown (g:=I) (o:= .cells #[.int .i64 U,.int .i64 X,.slice ab L.length ac] 24 (0,0)) (bkA D.out) hg (Kd.N_ne HO_7.out D.out zc));have n2_:=aK (Kd.V_afterv (ok:=(fun k_=>some k_≠(.slice (some Y) G.length af:Value).ownBlock/\k_≠I)) (by(with_reducible repeat(first|apply Kd.V_alloc|apply Kd.V_drewN|apply Kd.V_drew));exact Kd.V_mono Z.out (fun _ hk=>⟨⟨hk.2.1,hk.2.2⟩,hk.1⟩)) hg hat);have n3_:=aK (Kd.V_afterv (ok:=(fun k_=>some k_≠(.slice (some Y) G.length af:Value).ownBlock/\k_≠I)) (by(with_reducible repeat(first|apply Kd.V_alloc|apply Kd.V_drewN|apply Kd.V_drew));exact Kd.V_mono aa.out (fun _ hk=>⟨⟨hk.2.1,hk.2.2⟩,hk.1⟩)) hg hat);have n4_:=aK (hb);have n5_:=aK (ho);clear HO_12;clear D;clear Z;clear aa;clear HB;clear HO_7;have HO_12:=n0_;have D:=n1_;have Z:=n2_;have aa:=n3_;have HB:=n4_;have bg:=n5_;clear n0_ n1_ n2_ n3_ n4_ n5_;clear ho hb hg hat))
   go_roundg k1
   case measure=>have:=ba.out;omega
   case rel=>exact⟨(bf),(wrap64 (J+1)),rsE,H',⟨by have:=ba.out;omega⟩,⟨by(with_reducible repeat(first|apply Kd.N_alloc|apply Kd.N_drewN|apply Kd.N_drew));exact bg.out⟩,⟨kdA HO_12.out⟩,⟨bkA D.out⟩,⟨hbA HB.out⟩⟩
def subset_Next.down(l:List Int)(n:Int):Nat->Option Nat
 |0=>none
 |i+1=>if l.getD i 0<n-(l.length:Int)+(i:Int)then some i else subset_Next.down l n i
def subset_Next.fill:Nat->Int->Int->Int
 |0,out,_=>out
 |c+1,out,x=>subset_Next.fill c (Go.bits .or .u64 out (shl .u64 1 x)) (x+1)
def subset_Next.okB(n:Int)(l:List Int):Bool:=decide (0<=n)&&decide (n<=64)&&decide (l.length<=64)&&l.all fun x=>decide (0<=x)&&decide (x<64)
def subset_Next.tail(s:Int)(l:List Int):Option Nat->Option (Int×Bool)
 |none=>some (0,false)
 |some i=>(subset_low.f (l.getD i 0)).bind fun b=>some (subset_Next.fill (l.length-i) (Go.bits .and .u64 s b) (l.getD i 0+1),true)
def subset_Next.behind(n s:Int)(l:List Int):Option (Int×Bool):=
 if subset_Next.okB n l=true then subset_Next.tail s l (subset_Next.down l n l.length)else none
def subset_Next.f(k:Nat)(n s:Int):Option (Int×Bool):=
 (subset_may.f n).bind fun t=>if t=true then((subset_low.f n).bind fun b=>if Go.bits .andNot .u64 s b=0 then((subset_List.f k s).bind fun l=>subset_Next.behind n s l)else some (0,false))else some (0,false)
theorem subset_Next.mono: ∀a0 a1 k,LeO (subset_Next.f k a0 a1) (subset_Next.f (k+1) a0 a1):=by
 intro a0 a1 k;unfold subset_Next.f
 with_reducible repeat' first|exact subset_List.mono _ _|exact LeO.refl _|refine LeO.ite ?_ ?_|refine LeO.bind ?_ (fun _=>?_)
theorem subset_Next.okB_spec{n:Int}{l:List Int}(h:subset_Next.okB n l=true):0<=n/\n<=64/\l.length<=64/\ ∀i,i<l.length->0<=l.getD i 0/\l.getD i 0<64:=by
 unfold subset_Next.okB at h;simp only[Bool.and_eq_true,decide_eq_true_eq,List.all_eq_true]at h;obtain⟨⟨⟨h1,h2⟩,h3⟩,h4⟩:=h;refine⟨h1,h2,h3,fun i hi=>?_⟩;have:=h4 (l[i]) (List.getElem_mem hi);rw[List.getD_eq_getElem?_getD,List.getElem?_eq_getElem hi];exact this
def subset_Next.J(a0 a1:Int)(l:List Int)(w:World)(a':Act)(w':World):Prop:=
 ∃(j:Nat) (ad:Addr) (cp:Nat) (u2 u3 u4 u5 u9 u10 u11 u12 u13 u14 u15 u16 u17 u18 u19 u20 u21 u22 u23 u24 u25 u26 u27 u28 u29 u30 u31 u32 u33 u34 u35 u36 u37 u38 u39 u40 u41 u42 u43 u44 u45 u46 u47 u48 u49 u50 u51 u52 u53 u54 u55 u56 u57 u58 u59 u60 u61 u62 u63 u64:Value),a'= { tmps:= #[.int .i64 a0,.int .u64 a1,u2,u3,u4,u5,.slice (some ad) l.length cp,.int .i64 l.length,.int .i64 (j:Int),u9,u10,u11,u12,u13,u14,u15,u16,u17,u18,u19,u20,u21,u22,u23,u24,u25,u26,u27,u28,u29,u30,u31,u32,u33,u34,u35,u36,u37,u38,u39,u40,u41,u42,u43,u44,u45,u46,u47,u48,u49,u50,u51,u52,u53,u54,u55,u56,u57,u58,u59,u60,u61,u62,u63,u64],defers:= [] } /\j<l.length/\subset_Next.down l a0 l.length=some j/\Kd.C (Kd.int .i64) w' (some ad) l.length l/\Below w.heap.size w w'
theorem subset_Next.calls(k:Nat)(a0 a1:Int)(r1:Int)(r2:Bool)(w:World)(h:subset_Next.f k a0 a1=some (r1,r2))(hT:TabAt 0 Lib.deBruijn64tab w):
 Calls Tryd.prog 98 #[.int .i64 a0,.int .u64 a1] w fun e w'=>e= .returned (.tuple #[.int .u64 r1,.bool r2])/\Below w.heap.size w w':=by
 have HB:=aK (Below.refl w.heap.size w);have HT:=aK hT;clear hT;obtain⟨t,hm,h⟩:=Option.bind_eq_some_iff.mp h
 cases t with
 |false=>
  simp only[Bool.false_eq_true,if_false,Option.some.injEq,Prod.mk.injEq]at h;obtain⟨rfl,rfl⟩:=h;have HM:=aK hm;clear hm
  go_enter Tryd.func98,Tryd.ntmps98
  go_wp2
  go_step3
  go_wp2_with (go_at_call 80;refine(subset_may.calls a0 false _ HM.out).mono ?_;rintro e w' ⟨rfl,⟨nd,rfl⟩⟩)
  rw[Exit.noGoto_ret]
  go_ret2
  exact⟨rfl,pw_below_drewN HB.out _⟩
 |true=>
  simp only[if_true]at h;obtain⟨b,hb,h⟩:=Option.bind_eq_some_iff.mp h;have HM:=aK hm;have HL:=aK hb;clear hm hb;by_cases c:Go.bits .andNot .u64 a1 b=0
  case neg=>
   rw[if_neg c]at h
   have cb:(Go.bits .andNot .u64 a1 b !=0)=true:=bne_iff_ne.mpr c;clear c;obtain⟨rfl,rfl⟩:=Prod.mk.inj (Option.some.inj h);clear h
   go_enter Tryd.func98,Tryd.ntmps98
   go_wp2
   go_step3
   go_wp2_with (first|(go_at_call 80;refine(subset_may.calls a0 true _ HM.out).mono ?_;rintro e w' ⟨rfl,⟨nd,rfl⟩⟩)|(go_at_call 88;refine(subset_low.calls a0 b _ HL.out).mono ?_;rintro e w' ⟨rfl,⟨nd,rfl⟩⟩))
   rw[Exit.noGoto_ret]
   go_ret2
   exact⟨rfl,by repeat(first|exact HB.out|apply pw_below_drewN)⟩
  rw[if_pos c]at h
  have cb:(Go.bits .andNot .u64 a1 b !=0)=false:=bne_eq_false_iff_eq.mpr c;clear c;obtain⟨l,hl,h⟩:=Option.bind_eq_some_iff.mp h;have HQ:=aK hl;clear hl;unfold subset_Next.behind at h;by_cases ok:subset_Next.okB a0 l=true
  case neg=>
   rw[if_neg ok]at h
   cases h
  rw[if_pos ok]at h
  obtain⟨n0,n1,l1,lr⟩:=subset_Next.okB_spec ok;clear ok;have LR:=aK lr;have H:=aK h;clear h lr
  go_enter Tryd.func98,Tryd.ntmps98
  go_wp2;refine wp_scope_jumps 0 (subset_Next.J a0 a1 l w) (fun _ _=>0) rfl ?_ ?_
  ·skip
   go_wp2_with (first|(go_at_call 80;refine(subset_may.calls a0 true _ HM.out).mono ?_;rintro e w' ⟨rfl,⟨nd,rfl⟩⟩)|(go_at_call 88;refine(subset_low.calls a0 b _ HL.out).mono ?_;rintro e w' ⟨rfl,⟨nd,rfl⟩⟩)|(go_at_call 35;refine(subset_List.calls k a1 l _ HQ.out (tab_below HT.out zao)).mono ?_;rintro e w8 ⟨v0,rfl,I,hb⟩;obtain⟨A,cp,eo⟩:=Kd.R_slice I;subst eo;have HR:=aK (Kd.R_reads' I).2.2;have L:=aK (below_step zao hb);clear HB;have HB:=L;clear L I hb))
   obtain⟨D,hD⟩: ∃D,D=subset_Next.down l a0 l.length:=⟨_,rfl⟩
   have H2:subset_Next.tail a1 l D=some (r1,r2):=by rw[hD];exact H.out
   clear H;have HD:=aK hD;have H:=aK H2;clear hD H2;have hlen:(l.length:Int)<=64:=by omega
   go_loop [8] (fun v=> ∃m:Nat,m<=l.length/\v= .int .i64 ((m:Int)-1)/\Aside0 (D=subset_Next.down l a0 m)) (fun v=>(intOf v+1).toNat)
   case atStart=>exact⟨l.length,Nat.le_refl _,rfl,HD⟩
   case round=>
    obtain⟨m,hml,rfl,HM'⟩:=hrel;have HDL:=HD;clear HD
    cases m with
    |zero=>
     have hd:D=none:=HM'.out;subst hd;obtain⟨rfl,rfl⟩:=Prod.mk.inj (Option.some.inj (show some ((0:Int),false)=some (r1,r2)from H.out));go_wp2;simp only[Exit.jump]
     go_ret2
     exact⟨rfl,HB.out⟩
    |succ j=>
     have e1:((j+1:Nat):Int)-1=(j:Int):=by omega
     rw[e1];clear e1;obtain⟨ad,ea,hx⟩:=Kd.at_int HR.out (j:Int) za za;subst ea;have hx':w8.cell? (ad.add j)=some (.int .i64 (l.getD j 0)):=hx;clear hx;obtain⟨x,ex⟩: ∃x:Int,x=l.getD j 0:=⟨_,rfl⟩
     rw[<-ex]at hx'
     have lrj:=LR.out j za;rw[<-ex]at lrj
     obtain⟨x0,x1⟩:=lrj;have EX:=aK ex;clear ex;by_cases ct:x<a0-(l.length:Int)+(j:Int)
     ·have hdl:subset_Next.down l a0 l.length=some j:=by
       rw[<-HDL.out,HM'.out];unfold subset_Next.down;rw[<-EX.out,if_pos ct]
      go_wp2_with fail
      go_step3
      exact⟨rfl,j,ad,cp,_,_,_,_,_,_,_,_,_,_,_,_,_,_,_,_,_,_,_,_,_,_,_,_,_,_,_,_,_,_,_,_,_,_,_,_,_,_,_,_,_,_,_,_,_,_,_,_,_,_,_,_,_,_,_,_,_,_,_,_,rfl,by omega,hdl,HR.out,HB.out⟩
     have hd:D=subset_Next.down l a0 j:=by
      rw[HM'.out]
      conv=>lhs;unfold subset_Next.down
      rw[<-EX.out,if_neg ct]
     have HD':=aK hd;clear hd;go_wp2
     go_round
     case rel=>exact⟨j,by omega,rfl,HD'⟩
     case measure=>simp[intOf]
  ·rintro a' w' ⟨j,ad,cp,u2,u3,u4,u5,u9,u10,u11,u12,u13,u14,u15,u16,u17,u18,u19,u20,u21,u22,u23,u24,u25,u26,u27,u28,u29,u30,u31,u32,u33,u34,u35,u36,u37,u38,u39,u40,u41,u42,u43,u44,u45,u46,u47,u48,u49,u50,u51,u52,u53,u54,u55,u56,u57,u58,u59,u60,u61,u62,u63,u64,rfl,hj,hd,hC,hB⟩;rw[hd]at H
   obtain⟨b2,G,h2⟩:=Option.bind_eq_some_iff.mp (show(subset_low.f (l.getD j 0)).bind (fun b=>some (subset_Next.fill (l.length-j) (Go.bits .and .u64 a1 b) (l.getD j 0+1),true))=some (r1,r2)from H.out);obtain⟨x0,x1⟩:=LR.out j hj;obtain⟨ad',ea,hx⟩:=Kd.at_int hC (j:Int) za za;obtain rfl:ad=ad':=by injection ea
   have hx':w'.cell? (ad.add j)=some (.int .i64 (l.getD j 0)):=hx;clear hx hC hd H ea;obtain⟨x,ex⟩: ∃x:Int,x=l.getD j 0:=⟨_,rfl⟩
   rw[<-ex]at hx' G h2 x0 x1
   obtain⟨O,Z⟩:=Prod.mk.inj (Option.some.inj h2);subst Z;have H2:=aK O;have Y:=aK G;have U:=aK hB;clear O h2 G hB HB ex;have hlen:(l.length:Int)<=64:=by omega
   go_wp2_with (first|(go_at_call 88;refine(subset_low.calls x b2 _ Y.out).mono ?_;rintro e w' ⟨rfl,⟨ae,rfl⟩⟩))
   go_loop [8,9,10] (fun v8 v9 aa=> ∃(i:Nat) (at_ out:Int),j<=i/\i<=l.length/\v8= .int .i64 i/\v9= .int .i64 at_/\aa= .int .u64 out/\0<=at_/\at_<=64+(i:Int)/\Aside0 (subset_Next.fill (l.length-i) out at_=r1)) (fun v _ _=>l.length-(intOf v).toNat)
   case atStart=>exact⟨j,_,_,Nat.le_refl _,by omega,rfl,rfl,rfl,by omega,by omega,H2⟩
   case round=>
    obtain⟨i,at_,out,hij,hil,rfl,rfl,rfl,ab,ac,HF⟩:=hrel;by_cases hlt:i<l.length
    case neg=>
     have hlt': ¬(i:Int)<(l.length:Int):=by omega
     have h3:=HF.out;rw[show l.length-i=0 from by omega]at h3
     obtain rfl:out=r1:=h3;go_wp2;simp only[Exit.jump]
     go_ret2
     exact⟨rfl,by repeat(first|exact U.out|apply pw_below_drewN)⟩
    have hlt':(i:Int)<(l.length:Int):=by omega
    obtain⟨sh,hsh⟩: ∃s_:Int,shl .u64 1 at_=s_:=⟨_,rfl⟩
    have hji3_:(IntKind.u64.wrap (1*2^min at_.toNat 64))=sh:=hsh;have hji3u:(IntKind.u64.wrap (2^min at_.toNat 64))=sh:=by have h_:=hji3_;rw[Int.one_mul]at h_;exact h_
    have X:Aside0 (subset_Next.fill (l.length-(i+1)) (Go.bits .or .u64 out sh) (at_+1)=r1):=by
     refine⟨?_⟩;have h3:=HF.out;rw[show l.length-i=(l.length-(i+1))+1 from by omega]at h3
     unfold subset_Next.fill at h3;rw[hsh]at h3
     exact h3
    clear hsh;go_wp2
    go_round
    case rel=>exact⟨i+1,_,_,by omega,by omega,by go_num,rfl,rfl,by omega,by omega,X⟩
    case measure=>simp[intOf];omega
structure Stays (B C m:Nat) (W W':World):Prop where
 size:W.heap.size<=W'.heap.size
 same: ∀k,C<=k->k<C+m->k<W.heap.size->W'.heap[k]? =W.heap[k]?
 objs: ∀(k:Nat) (o:Obj),B<=k->W.heap[k]? =some o->o.isCells=false->W'.heap[k]? =some o
theorem Stays.refl(B C m:Nat)(W:World):Stays B C m W W:=⟨Nat.le_refl _,fun _ _ _ _=>rfl,fun _ _ _ h _=>h⟩
theorem Stays.trans{B C m:Nat}{X Y Z:World}(h:Stays B C m X Y)(k:Stays B C m Y Z):Stays B C m X Z:=
 ⟨Nat.le_trans h.size k.size,fun i hB hm hi=>(k.same i hB hm (Nat.lt_of_lt_of_le hi h.size)).trans (h.same i hB hm hi),fun i o hB hi ho=>k.objs i o hB (h.objs i o hB hi ho) ho⟩
theorem Stays.le{B C m B' C' m':Nat}{W W':World}(h:Stays B C m W W')(hB:B<=B')(hC:m'=0∨(C<=C'/\C'+m'<=C+m)):Stays B' C' m' W W':=⟨h.size,fun k hk D=>h.same k za za,fun k o hk=>h.objs k o (Nat.le_trans hB hk)⟩
theorem Stays.put{B C m l:Nat}(W:World)(o:Obj)(h:l<B)(h2:l<C):Stays B C m W (W.putObj l o):=⟨by simp,fun k hB _ _=>World.putObj_heap_other za,fun k o' hB hk _=>(World.putObj_heap_other za).trans hk⟩
theorem Stays.set{B C m:Nat}(W:World)(p:Addr)(v:Value)(h:p.block<B)(h2:p.block<C):Stays B C m W (W.setCell p v):=
 ⟨by show W.heap.size<=(W.heap.modify _ _).size;rw[Array.size_modify];exact Nat.le_refl _,fun k hB _ _=>Below.heap_setCell W p v k za,fun k o hB hk _=>(Below.heap_setCell W p v k za).trans hk⟩
theorem Stays.any{B C m:Nat}{W W':World}(h:Below W.heap.size W W'):Stays B C m W W':=⟨h.size,fun k _ _ hk=>h.block k hk,fun k o _ hk _=>(h.block k (Array.getElem?_eq_some_iff.1 hk).1).trans hk⟩
theorem yield_any{m m':Nat}{P:Program}{l:Nat}{args:Array Value}{W:World}{R:Ending->World->Prop}(h:YieldAt Fence.wide m P l args W R):YieldAt Fence.wide m' P l args W R:=by
 obtain⟨fn,tmps,assign,body,hy,hR⟩:=h;exact⟨fn,tmps,assign,body,hy,hR.1,fun c cs _=>hR.2 c cs fun d hd=>by cases hd⟩
theorem lies_own{W W':World}{row:Option Nat}{B k:Nat}{o:Obj}(hg:W.grownBy W' row)(hr: ∀r,row=some r->B<=r/\ ∃o:Obj,W.heap[r]? =some o/\o.isCells=false)(hk:k<B)(h:W.heap[k]? =some o):W'.heap[k]? =some o:=
 (hg.block k (Array.getElem?_eq_some_iff.1 h).1 fun e=>by have:=(hr k e.symm).1;omega).trans h
def Tells{α:Type}(P:Program)(gf:Nat)(lb:Array Value)(encs:α->Array Value)(Kp:World->World->Prop)(m:Nat)(xs:List α)(w:World):Prop:=
 ∀(l:Nat) (J Jx:List α->World->Prop) (W:World),Below w.heap.size w W->OwnFrom W.heap.size J->OwnFrom W.heap.size Jx->
  (∀pre x V,W.heap.size+m<=V.heap.size->J pre V->pre++ [x] <+: xs->YieldAt Fence.wide 0 P l (encs x) V fun e V'=>
    (e= .returned (.bool true)/\J (pre++ [x]) V'/\Kp V V'/\Stays W.heap.size W.heap.size m V V')∨(e= .returned (.bool false)/\Jx (pre++ [x]) V'/\Stays W.heap.size W.heap.size m V V'))->
  J [] W->CallsIn Fence.wide 0 P gf (#[.func (.yield l) #[] #[]]++lb) W fun e W'=>(∃v,e= .returned v)/\(J xs W'∨ ∃pre,pre <+: xs/\Jx pre W')
def tellPost{α:Type}(B m:Nat)(Kp:World->World->Prop)(I:List α->World->Prop)(Ix:Code->List α->World->Prop)(pre:List α)(W:World):Exit->Act->World->Prop
 | .normal,_,W'=>Stays B (B+2) m W W'/\Kp W W'/\I pre W'
 | .ret,_,W'=>Stays B (B+2) m W W'/\Ix .ret pre W'
 | .exit id,_,W'=>Stays B (B+2) m W W'/\Ix (.exit id) pre W'
 | .goto _,_,_=>False
 | .panic _,_,_=>False
 | .outgrown,_,_=>False
theorem round_tells{α:Type}{P:Program}{assign body:Code}{rec:LoopState->Option Code->Loop}{encs:α->Array Value}{a₁:α->Act}{Kp:World->World->Prop}{B D m:Nat}{I:List α->World->Prop}{Ix:Code->List α->World->Prop}{pre:List α}{x:α}{V:World}
 (hrec: ∀st pe,(rec st pe).state=st/\(rec st pe).pending=pe/\(rec st pe).assign=assign/\(rec st pe).body=body/\(rec st pe).fn=(rec .ready none).fn/\(rec st pe).params=(rec .ready none).params/\(rec st pe).tmps=(rec .ready none).tmps/\rec st pe= { rec .ready none with state:=st,pending:=pe })
 (hps:(encs x).size=(rec .ready none).params.size) (hD:D=B) (hKt: ∀ {X Y Z:World},Kp X Y->Kp Y Z->Kp X Z) (hKb: ∀(W:World) (l:Nat) (o:Obj),B<=l->Kp W (W.putObj l o)) (hI:OwnFrom B I) (hIx: ∀c,OwnFrom B (Ix c))
 (hVs:B+2+m<=V.heap.size) (hi:I pre V) (hl:V.heap[B+1]? =some (.loop (rec .ready none))) (hd:V.heap[D]? =some (.deferred (some [])))
 (hassign: ∀K:Act->World->Prop,K (a₁ x) V->assign.wpIn (Fence.wide.inRound (B+1)) 9 P (Exit.then K (fun _ _ _=>False)) { tmps:=((rec .ready none).params.zip (encs x)).foldl (fun t (p,v)=>t.setIfInBounds p v) (rec .ready none).tmps,defers:= [] } V)
 (hbody: ∀W,B+2+m<=W.heap.size->I pre W->body.wpIn (Fence.wide.inRound (B+1)) 9 P (tellPost B m Kp I Ix (pre++ [x]) W) (a₁ x) W):
 YieldAt Fence.wide 0 P (B+1) (encs x) V fun e V'=>
  (e= .returned (.bool true)/\(I (pre++ [x]) V'/\V'.heap[B+1]? =some (.loop (rec .ready none))/\V'.heap[D]? =some (.deferred (some [])))/\Kp V V'/\Stays (B+2) (B+2) m V V')∨
  (e= .returned (.bool false)/\(∃c,Ix c (pre++ [x]) V'/\V'.heap[B+1]? =some (.loop (rec .done (some c)))/\V'.heap[D]? =some (.deferred (some [])))/\Stays (B+2) (B+2) m V V'):=by
 subst hD;have hy:=run_yield (P:=P) (args:=encs x) hl hps;rw[(hrec .ready none).2.2.1,(hrec .ready none).2.2.2.1]at hy
 refine yield_any (m:=9) ⟨_,_,_,_,hy,roundIn_of_wpIn trivial (hassign _ ⟨_,run_beginRound hl (hrec _ _).1,?_⟩)⟩;have hlt:=(Array.getElem?_eq_some_iff.1 hl).1;obtain⟨busy,hbusy⟩: ∃b:Loop,b= { rec .ready none with state:= .busy } :=⟨_,rfl⟩
 rw[<-hbusy];have h2l:(V.putObj (D+1) (.loop busy)).heap[D+1]? =some (.loop busy):=World.putObj_heap_same hlt;have h2d:(V.putObj (D+1) (.loop busy)).heap[D]? =some (.deferred (some [])):=(World.putObj_heap_other za).trans hd;have k2:=Stays.put (B:=D+2) (C:=D+2) (m:=m) V (.loop busy) (Nat.lt_succ_self (D+1)) (Nat.lt_succ_self (D+1));have q2:=hKb V (D+1) (.loop busy) (Nat.le_succ _);have i2:=hI.putObj (.loop busy) hi (Nat.le_succ _) hl rfl;refine wpIn_mono (hbody _ (by rw[World.putObj_size];exact hVs) i2) ?_
 have fin: ∀(jump:Option Code) (U:World),Stays D (D+2) m (V.putObj (D+1) (.loop busy)) U->
  ∃U',(Instr.endRound (D+1) jump).run P U= .ok (.bool jump.isNone) U'/\U'=U.putObj (D+1) (.loop (rec (if jump.isNone then .ready else .done) jump))/\U.heap[D+1]? =some (.loop busy)/\
   U'.heap[D+1]? =some (.loop (rec (if jump.isNone then .ready else .done) jump))/\U'.heap[D]? =some (.deferred (some [])):=fun jump U hU=>by
  have h3l:=hU.objs _ _ (Nat.le_succ _) h2l rfl;have h3d:=hU.objs _ _ (Nat.le_refl _) h2d rfl;have he:=run_endRound (P:=P) jump h3l;have eb:({ busy with state:=if jump.isNone then .ready else .done,pending:=jump } :Loop)=rec (if jump.isNone then .ready else .done) jump:=by
   rw[hbusy,(hrec (if jump.isNone then .ready else .done) jump).2.2.2.2.2.2.2]
  rw[eb]at he
  exact⟨_,he,rfl,h3l,World.putObj_heap_same (Array.getElem?_eq_some_iff.1 h3l).1,(World.putObj_heap_other za).trans h3d⟩
 rintro e a' U hp
 cases e with
 |normal=>
  obtain⟨hk,hb,hi'⟩:=hp;obtain⟨U',hr,rfl,h3,h4,h5⟩:=fin none U hk;have k4:=Stays.put (B:=D+2) (C:=D+2) (m:=m) U (.loop (rec .ready none)) (Nat.lt_succ_self (D+1)) (Nat.lt_succ_self (D+1));have q4:=hKb U (D+1) (.loop (rec .ready none)) (Nat.le_succ _);exact⟨_,_,hr,.inl ⟨rfl,⟨hI.putObj _ hi' (Nat.le_succ _) h3 rfl,h4,h5⟩,hKt (hKt q2 hb) q4,(k2.trans (hk.le za (.inr ⟨Nat.le_refl _,Nat.le_refl _⟩))).trans k4⟩⟩
 |ret=>
  obtain⟨hk,hi'⟩:=hp;obtain⟨U',hr,rfl,h3,h4,h5⟩:=fin (some .ret) U hk;exact⟨_,_,hr,.inr ⟨rfl,⟨.ret,(hIx _).putObj _ hi' (Nat.le_succ _) h3 rfl,h4,h5⟩,(k2.trans (hk.le za (.inr ⟨Nat.le_refl _,Nat.le_refl _⟩))).trans (Stays.put (B:=D+2) (C:=D+2) (m:=m) U _ (Nat.lt_succ_self (D+1)) (Nat.lt_succ_self (D+1)))⟩⟩
 |exit id=>
  obtain⟨hk,hi'⟩:=hp;obtain⟨U',hr,rfl,h3,h4,h5⟩:=fin (some (.exit id)) U hk;exact⟨_,_,hr,.inr ⟨rfl,⟨.exit id,(hIx _).putObj _ hi' (Nat.le_succ _) h3 rfl,h4,h5⟩,(k2.trans (hk.le za (.inr ⟨Nat.le_refl _,Nat.le_refl _⟩))).trans (Stays.put (B:=D+2) (C:=D+2) (m:=m) U _ (Nat.lt_succ_self (D+1)) (Nat.lt_succ_self (D+1)))⟩⟩
 |goto t=>exact hp.elim
 |panic c=>exact hp.elim
 |outgrown=>exact hp.elim
theorem rangeFunc_tells{α:Type}{P:Program}{gop:Operand}{ps:Array Tmp}{assign body:Code}{Q:Exit->Act->World->Prop}{a:Act}{w w0:World}{n gf m:Nat}{Kp:World->World->Prop}{lb:Array Value}{encs:α->Array Value}{xs:List α}
 (hg:a.eval gop= .func (.func gf) #[] lb) (eg: ∀args W,(callFunc gf args).run P W= .ok (.enter gf args) W) (ht:Tells P gf lb encs Kp m xs w0) (hKt: ∀ {X Y Z:World},Kp X Y->Kp Y Z->Kp X Z) (hKb: ∀(W:World) (l:Nat) (o:Obj),w.heap.size<=l->Kp W (W.putObj l o)) (G:Below w0.heap.size w0 w) (hps: ∀x,(encs x).size=ps.size)
 (I:List α->World->Prop) (Ix:Code->List α->World->Prop) (hI:OwnFrom w.heap.size I) (hIx: ∀c,OwnFrom w.heap.size (Ix c)) (h0:I [] w) (a₁:α->Act)
 (hassign: ∀(l:Nat) (x:α) (W:World) (K:Act->World->Prop),K (a₁ x) W->assign.wpIn (Fence.wide.inRound l) 9 P (Exit.then K (fun _ _ _=>False)) { tmps:=(ps.zip (encs x)).foldl (fun t (p,v)=>t.setIfInBounds p v) a.tmps,defers:= [] } W)
 (hbody: ∀(l:Nat) (pre:List α) (x:α) (W:World),w.heap.size<l->w.heap.size+2+m<=W.heap.size->I pre W->pre++ [x] <+: xs->body.wpIn (Fence.wide.inRound l) 9 P (tellPost w.heap.size m Kp I Ix (pre++ [x]) W) (a₁ x) W)
 (hdone: ∀(D:Nat) (W:World),w.heap.size<=D->I xs W->W.heap[D]? =some (.deferred (some []))->Q .normal { a with defers:= { target:= .collected D,args:= #[] } ::a.defers } W)
 (hstop: ∀(D:Nat) (c:Code) (pre:List α) (W:World),w.heap.size<=D->pre <+: xs->Ix c pre W->W.heap[D]? =some (.deferred (some []))->c.wpIn Fence.wide n P Q { a with defers:= { target:= .collected D,args:= #[] } ::a.defers } W):
 (Code.rangeFunc gop ps assign body).wpIn Fence.wide n P Q a w:=by
 refine wpIn_rangeFunc fun fn _=>?_;obtain⟨rec,hrec⟩: ∃rec:LoopState->Option Code->Loop,rec=fun st pe=> { state:=st,pending:=pe,fn,tmps:=a.tmps,params:=ps,assign,body,defers:=w.heap.size } :=⟨_,rfl⟩
 obtain⟨V,hV⟩: ∃V,V=(w.alloc (.deferred (some []))).alloc (.loop (rec .ready none)):=⟨_,rfl⟩
 have hs:V.heap.size=w.heap.size+2:=by rw[hV];simp
 have hl:V.heap[w.heap.size+1]? =some (.loop (rec .ready none)):=by
  rw[hV];have:=World.alloc_heap_new (w.alloc (.deferred (some []))) (.loop (rec .ready none))
  rwa [World.size_alloc]at this
 have hd:V.heap[w.heap.size]? =some (.deferred (some [])):=by
  rw[hV];exact(Below.heap_alloc _ _ _ zd).trans (World.alloc_heap_new w _)
 have hi:I [] V:=by rw[hV];exact hI.alloc _ (hI.alloc _ h0)
 have hb:Below w0.heap.size w0 V:=by
  rw[hV];exact G.trans (((Below.refl _ w).alloc G.size _).alloc (by have:=G.size;simp;omega) _)
 refine⟨w.heap.size+1,[{ target:= .collected w.heap.size,args:= #[] }],V,{ target:= .fn (.func gf) lb,args:= #[.func (.yield (w.heap.size+1)) #[] #[]] },V,gf,#[.func (.yield (w.heap.size+1)) #[] #[]]++lb,V,?_,?_,fun _ _=>trivial,?_,fun h=>(by cases h),?_⟩
 ·rw[hV,hrec];exact run_enterLoop_outer _ _ _ _ _
 ·simp only[resolve,hg];simp[go_sem]
 ·simp[invoke,go_sem,eg]
 refine callsIn_wide.2 ((callsIn_wide (n:=0)).1 (ht (w.heap.size+1)
  (fun pre W=>I pre W/\W.heap[w.heap.size+1]? =some (.loop (rec .ready none))/\W.heap[w.heap.size]? =some (.deferred (some [])))
  (fun pre W=> ∃c,Ix c pre W/\W.heap[w.heap.size+1]? =some (.loop (rec .done (some c)))/\W.heap[w.heap.size]? =some (.deferred (some []))) V hb
  (fun s A B row hs' hg' hr=>⟨hI s A B row hs'.1 hg' fun r e=>⟨by have:=(hr r e).1;omega,(hr r e).2⟩,lies_own hg' hr za hs'.2.1,lies_own hg' hr za hs'.2.2⟩)
  (fun s A B row hs' hg' hr=>by
    obtain⟨c,h1,h2,h3⟩:=hs';exact⟨c,hIx c s A B row h1 hg' fun r e=>⟨by have:=(hr r e).1;omega,(hr r e).2⟩,lies_own hg' hr za h2,lies_own hg' hr za h3⟩)
  (fun pre x W hWs hJ hpre=>by
    have:=round_tells (P:=P) (assign:=assign) (body:=body) (rec:=rec) (encs:=encs) (a₁:=a₁) (B:=w.heap.size) (D:=w.heap.size) (m:=m) (Kp:=Kp) (I:=I) (Ix:=Ix) (pre:=pre) (x:=x) (V:=W)
     (fun st pe=>by rw[hrec];exact⟨rfl,rfl,rfl,rfl,rfl,rfl,rfl,rfl⟩) (by rw[hrec];exact hps x) rfl hKt hKb hI hIx (by rw[hs]at hWs;exact hWs) hJ.1 hJ.2.1 hJ.2.2 (fun K hK=>by rw[hrec];exact hassign _ x W K hK) (fun U hU hIU=>hbody _ pre x U (Nat.lt_succ_self _) hU hIU hpre)
    rw[hs];exact this)
  ⟨hi,hl,hd⟩)) |>.mono ?_
 rintro e W ⟨⟨v,rfl⟩,(⟨h1,h2,h3⟩|⟨pre,hp,c,h1,h2,h3⟩)⟩
 ·have he:=run_endLoop (P:=P) h2 (by rw[hrec];simp);rw[hrec]at he
  exact⟨none,_,he,hdone _ _ (Nat.le_refl _) (hI.putObj _ h1 (Nat.le_succ _) h2 rfl) ((World.putObj_heap_other za).trans h3)⟩
 ·have he:=run_endLoop (P:=P) h2 (by rw[hrec];simp);rw[hrec]at he
  exact⟨some c,_,he,hstop _ c pre _ (Nat.le_refl _) hp ((hIx c).putObj _ h1 (Nat.le_succ _) h2 rfl) ((World.putObj_heap_other za).trans h3)⟩
attribute [local go_sem] Oper.semAt_some
theorem subset_All.calls(n k:Int)(w:World):
 Calls Tryd.prog 83 #[.int .i64 n,.int .i64 k] w fun e w'=>e= .returned (.func (.func 97) #[] #[.pointer (some ⟨w.heap.size,0,none⟩),.pointer (some ⟨w.heap.size+1,0,none⟩)])/\w'=(w.alloc (.cells #[.int .i64 n] 3)).alloc (.cells #[.int .i64 k] 3):=by
 go_enter Tryd.func83,Tryd.ntmps83
 go_wp2
 go_ret
 exact⟨rfl,rfl⟩
theorem subset_All.calls'(n k:Int)(w:World):
 Calls Tryd.prog 83 #[.int .i64 n,.int .i64 k] w fun e w'=>e= .returned (.func (.func 97) #[] #[.pointer (some ⟨w.heap.size,0,none⟩),.pointer (some ⟨w.heap.size+1,0,none⟩)])/\
  Boxed w' w.heap.size 3 (.int .i64 n)/\Boxed w' (w.heap.size+1) 3 (.int .i64 k)/\w'.heap.size=w.heap.size+2/\Below w.heap.size w w':=by
 refine(subset_All.calls n k w).mono ?_;rintro e w' ⟨rfl,rfl⟩;refine⟨rfl,(Boxed.new w 3 _).alloc _,?_,by simp,((Below.refl _ w).alloc (Nat.le_refl _) _).alloc zd _⟩;have:=Boxed.new (w.alloc (.cells #[.int .i64 n] 3)) 3 (.int .i64 k)
 rwa [World.size_alloc]at this
def chainN(n:Int):Int->List Int->Prop
 |_,[]=>False
 |s,x::rest=>x=s/\ ∃K t tb,subset_Next.f K n s=some (t,tb)/\(if tb=true then chainN n t rest else rest= [])
def goodN(n k:Int)(xs:List Int):Prop:=if 0<=n/\n<=64/\0<=k/\k<=n then∃s,subset_low.f k=some s/\chainN n s xs else xs= []
theorem next_same{K K':Nat}{n s:Int}{p q:Int×Bool}(h:subset_Next.f K n s=some p)(h':subset_Next.f K' n s=some q):p=q:=by
 have up: ∀(d K:Nat) (p:Int×Bool),subset_Next.f K n s=some p->subset_Next.f (K+d) n s=some p:=fun d=>by
  induction d with
  |zero=>exact fun K p h=>h
  |succ d ih=>exact fun K p h=>subset_Next.mono n s (K+d) p (ih K p h)
 have h1:=up K' K p h;have h2:=up K K' q h';rw[Nat.add_comm]at h2
 exact Option.some.inj (h1.symm.trans h2)
theorem chainN_unique{n:Int} : ∀ {r r':List Int} {s:Int},chainN n s r->chainN n s r'->r=r'
 | [],_,s,h,_=>absurd h (by simp[chainN])
 |_::_,[],s,_,h=>absurd h (by simp[chainN])
 |x::r,y::r',s,h,h'=>by
  unfold chainN at h h';obtain⟨rfl,K,t,tb,h1,h2⟩:=h;obtain⟨rfl,K',t',tb',h1',h2'⟩:=h';have e:=next_same h1 h1';injection e with e1 e2;subst e1 e2
  cases tb with
  |false=>simp only[Bool.false_eq_true,if_false]at h2 h2';rw[h2,h2']
  |true=>simp only[if_true]at h2 h2';rw[chainN_unique h2 h2']
theorem chainN_len(n:Int): ∃len:Int->Nat,∀s r,chainN n s r->len s=r.length:=by
 classical
 refine⟨fun s=>if h: ∃r,chainN n s r then(Classical.choose h).length else 0,fun s r hr=>?_⟩;have h: ∃r,chainN n s r:=⟨r,hr⟩
 simp only[dif_pos h];rw[chainN_unique (Classical.choose_spec h) hr]
theorem grown_of_below19{W W':World}(h:Below W.heap.size W W'):W.grownBy W' none:=⟨h.os,h.tape,h.output,h.size,fun k hk _=>h.block k hk⟩
theorem cell_as19{W W':World}{p:Addr}(h:W'.heap[p.block]? =W.heap[p.block]?):W'.cell? p=W.cell? p:=by simp[World.cell?,h]
theorem subset_All1.tells(bn bk:Nat)(n k:Int)(xs:List Int)(hg:goodN n k xs)(Kp:World->World->Prop)(w:World)(cn:w.cell? ⟨bn,0,none⟩=some (.int .i64 n))(ck:w.cell? ⟨bk,0,none⟩=some (.int .i64 k))(hT:TabAt 0 Lib.deBruijn64tab w)
 (hKn: ∀V V',Kp V V'->bn<V.heap.size->V'.heap[bn]? =V.heap[bn]?) (ah: ∀V V',Kp V V'->0<V.heap.size->V'.heap[0]? =V.heap[0]?) (X:0<w.heap.size):
 Tells Tryd.prog 97 #[.pointer (some ⟨bn,0,none⟩),.pointer (some ⟨bk,0,none⟩)] (fun x:Int=> #[.int .u64 x]) Kp 0 xs w:=by
 intro l J Jx W hW hJ _ hY h0;replace cn:=pw_cell_below hW cn;replace ck:=pw_cell_below hW ck;replace hT:=tab_below hT hW;have h0w:0<W.heap.size:=Nat.lt_of_lt_of_le X hW.size;have hbnW:bn<W.heap.size:=World.block_lt_of_cell? _ _ cn;clear hW X;refine callsIn_wide.2 ((callsIn_wide (n:=9)).1 ?_);refine callsIn_of_wp Tryd.func97 rfl trivial ?_ rfl;simp only[Tryd.ntmps97,List.size_toArray,List.length_cons,List.length_nil,Nat.reduceAdd,Nat.reduceSub,Array.replicate_succ,Array.replicate_zero,List.push_toArray,List.append_toArray,List.nil_append,List.cons_append];by_cases hh:0<=n/\n<=64/\0<=k/\k<=n
 case neg=>
  unfold goodN at hg;rw[if_neg hh]at hg
  subst hg;by_cases hm:0<=n/\n<=64
  case neg=>
   have hmay:subset_may.f n=some false:=by
    unfold subset_may.f;by_cases h:n>=0
    case neg=>rw[if_neg h]
    rw[if_pos h];simp;omega
   have HM:=aK hmay;clear hmay hh hm
   gi_wp2_with (refine⟨trivial,?_⟩;gi_at_call 80;refine(callsIn_wide.2 (subset_may.calls n false _ HM.out)).mono ?_;rintro e w1 ⟨rfl,⟨nd,rfl⟩⟩)
   refine bodyPost_ret (results_none rfl _ _ _) rfl ?_;exact⟨⟨_,rfl⟩,.inl (hJ _ _ _ none h0 (grown_of_below19 (pw_below_drewN (Below.refl _ _) _)) (fun r e=>by cases e))⟩
  have hmay:subset_may.f n=some true:=by unfold subset_may.f;rw[if_pos hm.1];simpa using hm.2
  have HM:=aK hmay;clear hmay;by_cases hk:k<0
  ·have c1:(decide (k<0))=true:=decide_eq_true hk;clear hh hm hk
   gi_wp2_with (refine⟨trivial,?_⟩;gi_at_call 80;refine(callsIn_wide.2 (subset_may.calls n true _ HM.out)).mono ?_;rintro e w1 ⟨rfl,⟨nd,rfl⟩⟩)
   refine bodyPost_ret (results_none rfl _ _ _) rfl ?_;exact⟨⟨_,rfl⟩,.inl (hJ _ _ _ none h0 (grown_of_below19 (pw_below_drewN (Below.refl _ _) _)) (fun r e=>by cases e))⟩
  have c1:(decide (k<0))=false:=decide_eq_false hk;have c2:(decide (k>n))=true:=decide_eq_true za;clear hh hm hk
  gi_wp2_with (refine⟨trivial,?_⟩;gi_at_call 80;refine(callsIn_wide.2 (subset_may.calls n true _ HM.out)).mono ?_;rintro e w1 ⟨rfl,⟨nd,rfl⟩⟩)
  refine bodyPost_ret (results_none rfl _ _ _) rfl ?_;exact⟨⟨_,rfl⟩,.inl (hJ _ _ _ none h0 (grown_of_below19 (pw_below_drewN (Below.refl _ _) _)) (fun r e=>by cases e))⟩
 unfold goodN at hg;rw[if_pos hh]at hg
 obtain⟨n0,n1,k0,k1⟩:=hh;obtain⟨s0,hlow,hch⟩:=hg;have HG:=aK hch;clear hch;have hmay:subset_may.f n=some true:=by unfold subset_may.f;rw[if_pos n0];simpa using n1
 have c1:(decide (k<0))=false:=decide_eq_false za;have c2:(decide (k>n))=false:=decide_eq_false za;have HM:=aK hmay;have HL:=aK hlow;clear hmay hlow
 gi_wp2_with (first|(refine⟨trivial,?_⟩;gi_at_call 80;refine(callsIn_wide.2 (subset_may.calls n true _ HM.out)).mono ?_;rintro e w1 ⟨rfl,⟨nd,rfl⟩⟩)|(refine⟨trivial,?_⟩;gi_at_call 88;refine(callsIn_wide.2 (subset_low.calls k _ _ HL.out)).mono ?_;rintro e w2 ⟨rfl,⟨G,rfl⟩⟩))
 have aa:=grown_of_below19 (W:=W) (W':=W.drewN (nd+G)) (pw_below_drewN (Below.refl _ _) _);have Y:=hJ _ _ _ none h0 aa (fun r e=>by cases e);have L:(W.drewN (nd+G)).cell? ⟨bn,0,none⟩=some (.int .i64 n):=by simpa using cn
 have hTn:TabAt 0 Lib.deBruijn64tab (W.drewN (nd+G)):=tab_below hT (pw_below_drewN (Below.refl _ _) _);have hsz:W.heap.size<=(W.drewN (nd+G)).heap.size:=by simp
 generalize W.drewN (nd+G)=W1 at*;clear cn ck hT h0 aa;obtain⟨len,hlen⟩:=chainN_len n
 gi_loopw [4,5] (fun p q wr=> ∃(pre rest:List Int) (s:Int) (b:Bool),p= .int .u64 s/\q= .bool b/\Aside0 (xs=pre++rest)/\Aside0 (if b then chainN n s rest else rest= [])/\Aside0 (J pre wr)/\Aside0 (TabAt 0 Lib.deBruijn64tab wr)/\W.heap.size<=wr.heap.size/\wr.cell? ⟨bn,0,none⟩=some (.int .i64 n))
  (fun p q _=>match q with| .bool true=>len (intOf p)+1|_=>0)
 case atStart=>
  exact⟨[],xs,s0,true,rfl,rfl,⟨rfl⟩,⟨HG.out⟩,⟨Y⟩,⟨hTn⟩,hsz,L⟩
 case round=>
  obtain⟨pre,rest,s,b,rfl,rfl,hx,hc,hJs,hTs,D,hcn⟩:=hrel;clear Y hTn hsz L
  cases b with
  |false=>
   gi_wp2
   refine⟨fun _ h=>(by cases h),?_⟩
   gi_wp2
   go_end0
   have hr:rest= []:=by simpa using hc.out
   exact⟨⟨_,rfl⟩,.inl (by rw[hx.out,hr,List.append_nil];exact hJs.out)⟩
  |true=>
   obtain⟨x,rest,rfl⟩: ∃x r,rest=x::r:=by
    cases rest with
    |nil=>exact absurd hc.out (by simp[chainN])
    |cons x r=>exact⟨x,r,rfl⟩
   have O:chainN n s (x::rest):=by simpa using hc.out
   have hlx:=hlen s (x::rest) O;unfold chainN at O;obtain⟨hxs,K,t,tb,hnx,hmt⟩:=O;subst hxs;clear hc;have hpre:pre++ [x] <+: xs:=⟨rest,by rw[hx.out];simp⟩
   obtain⟨fn,tmps,assign,body,hy,hR⟩:=yield_any (m':=8) (hY pre x wr D hJs.out hpre);have HNX:=aK hnx;have HMT:=aK hmt;have HLX:=aK hlx;have HPR:=aK hpre;clear hnx hmt hlx hpre
   gi_wp2
   refine hR.mono ?_;rintro e W3 (⟨rfl,af,ac,ai⟩|⟨rfl,Z,_⟩)
   ·have ab:W3.cell? ⟨bn,0,none⟩=some (.int .i64 n):=(cell_as19 (p:=⟨bn,0,none⟩) (hKn _ _ ac (Nat.lt_of_lt_of_le hbnW D))).trans hcn;have ae:W.heap.size<=W3.heap.size:=Nat.le_trans D ai.size;have U:TabAt 0 Lib.deBruijn64tab W3:=fun j hj=>(cell_as19 (p:=⟨0,j,none⟩) (ah _ _ ac (Nat.lt_of_lt_of_le h0w D))).trans (hTs.out j hj);clear hR hy
    gi_wp2_with (refine⟨trivial,?_⟩;gi_at_call 98;refine(callsIn_wide.2 (subset_Next.calls K n x t tb _ HNX.out U)).mono ?_;rintro e W4 ⟨rfl,I⟩)
    have ag:=hJ _ _ _ none af (grown_of_below19 I) (fun r e=>by cases e);refine⟨⟨pre++ [x],rest,t,tb,rfl,rfl,⟨by rw[hx.out];simp⟩,⟨?_⟩,⟨ag⟩,⟨tab_below U I⟩,Nat.le_trans ae I.size,pw_cell_below I ab⟩,?_⟩
    ·cases tb with
     |true=>simpa using HMT.out
     |false=>simpa using HMT.out
    ·cases tb with
     |true=>
      have e2:=hlen t rest (by simpa using HMT.out);simp[intOf,HLX.out,e2]
     |false=>simp
   ·gi_wp2
    go_end0
    exact⟨⟨_,rfl⟩,.inr ⟨pre++ [x],HPR.out,Z⟩⟩
attribute [local go_sem] Oper.semAt_some
theorem local_others.calls(a c:Int)(A:Option Addr)(n cp:Nat)(b size:Int)(w:World):
 Calls Tryd.prog 54 #[.agg #[.int .i64 a,.int .i64 c,.slice A n cp],.int .i64 b,.int .i64 size] w fun e w'=>
  e= .returned (.func (.func 82) #[] #[.pointer (some ⟨w.heap.size,0,none⟩),.pointer (some ⟨w.heap.size+2,0,none⟩),.pointer (some ⟨w.heap.size+1,0,none⟩)])/\
  w'.heap[w.heap.size]? =some (.cells #[.int .i64 a,.int .i64 c,.slice A n cp] 24 (0,0))/\Boxed w' (w.heap.size+1) 3 (.int .i64 b)/\Boxed w' (w.heap.size+2) 3 (.int .i64 size)/\w'.heap.size=w.heap.size+3/\Below w.heap.size w w':=by
 have D:=Tryd.underlying24;have H:Calls Tryd.prog 54 #[.agg #[.int .i64 a,.int .i64 c,.slice A n cp],.int .i64 b,.int .i64 size] w fun e w'=>
  e= .returned (.func (.func 82) #[] #[.pointer (some ⟨w.heap.size,0,none⟩),.pointer (some ⟨w.heap.size+2,0,none⟩),.pointer (some ⟨w.heap.size+1,0,none⟩)])/\
  w'=(((w.alloc (.cells #[.int .i64 a,.int .i64 c,.slice A n cp] 24)).alloc (.cells #[.int .i64 b] 3)).alloc (.cells #[.int .i64 size] 3)):=by
  go_enter Tryd.func54,Tryd.ntmps54
  go_wp2
  go_ret
  exact⟨rfl,rfl⟩
 refine H.mono ?_;rintro e w' ⟨rfl,rfl⟩;refine⟨rfl,(Below.heap_alloc _ _ _ zj).trans ((Below.heap_alloc _ _ _ zd).trans (World.alloc_heap_new w _)),?_,?_,by simp,(((Below.refl _ w).alloc (Nat.le_refl _) _).alloc zd _).alloc zj _⟩
 ·have:=Boxed.new (w.alloc (.cells #[.int .i64 a,.int .i64 c,.slice A n cp] 24)) 3 (.int .i64 b);rw[World.size_alloc]at this
  exact this.alloc _
 ·have:=Boxed.new ((w.alloc (.cells #[.int .i64 a,.int .i64 c,.slice A n cp] 24)).alloc (.cells #[.int .i64 b] 3)) 3 (.int .i64 size)
  rwa [World.size_alloc,World.size_alloc]at this
def oth(b x:Int):Int:=Go.bits .or .u64 (Go.bits .and .u64 x (IntKind.u64.wrap (IntKind.u64.wrap (2^min b.toNat 64)-1))) (IntKind.u64.wrap (Go.bits .andNot .u64 x (Go.bits .and .u64 x (IntKind.u64.wrap (IntKind.u64.wrap (2^min b.toNat 64)-1)))*2))
theorem local_others1.tells(bg bs bb:Nat)(a size b:Int)(xs:List Int)(hg:goodN (wrap64 (a-1)) size xs)(hb:0<=b)(Kp:World->World->Prop)(w:World)
 (cg:w.cell? ⟨bg,0,none⟩=some (.int .i64 a)) (cs:w.cell? ⟨bs,0,none⟩=some (.int .i64 size)) (cb:w.cell? ⟨bb,0,none⟩=some (.int .i64 b)) (hT:TabAt 0 Lib.deBruijn64tab w) (aj:0<w.heap.size)
 (hKt: ∀ {X Y Z:World},Kp X Y->Kp Y Z->Kp X Z) (hKo: ∀(W:World) (l:Nat) (o:Obj),w.heap.size<=l->Kp W (W.putObj l o)) (hKb: ∀V V',Kp V V'->bb<V.heap.size->V'.heap[bb]? =V.heap[bb]?) (al: ∀V V',Kp V V'->0<V.heap.size->V'.heap[0]? =V.heap[0]?):
 Tells Tryd.prog 82 #[.pointer (some ⟨bg,0,none⟩),.pointer (some ⟨bs,0,none⟩),.pointer (some ⟨bb,0,none⟩)] (fun y:Int=> #[.int .u64 y]) Kp 3 (xs.map (oth b)) w:=by
 intro l J Jx W hW hJ hJx hY h0;have an:=Tryd.underlying24;have hwW:=hW.size;replace cg:=pw_cell_below hW cg;replace cs:=pw_cell_below hW cs;replace cb:=pw_cell_below hW cb;replace hT:=tab_below hT hW;have h0W:0<W.heap.size:=Nat.lt_of_lt_of_le aj hwW;have YH:=aK hY;have HT:=aK hT;have HJ:=aK h0;have HG:=aK hg;clear hW hY hT h0 hg;have hWA:Below W.heap.size W (W.alloc (.cells #[.func (.yield l) #[] #[]] 100)):=(Below.refl _ W).alloc (Nat.le_refl _) _;have cgA:=pw_cell_below hWA cg;have csA:=pw_cell_below hWA cs;have cbA:=pw_cell_below hWA cb;have byA:=Boxed.new W 100 (.func (.yield l) #[] #[]);have hsA:(W.alloc (.cells #[.func (.yield l) #[] #[]] 100)).heap.size=W.heap.size+1:=by simp
 have HWA:=aK hWA;clear hWA cg cs cb;refine callsIn_wide.2 ((callsIn_wide (n:=9)).1 ?_);refine callsIn_of_wp_marks Tryd.func82 rfl trivial ?_ rfl;simp only[Tryd.ntmps82,List.size_toArray,List.length_cons,List.length_nil,Nat.reduceAdd,Nat.reduceSub,Array.replicate_succ,Array.replicate_zero,List.push_toArray,List.append_toArray,List.nil_append,List.cons_append]
 gi_wp2_with (refine⟨trivial,?_⟩;gi_at_call 83;refine(callsIn_wide.2 (subset_All.calls' _ _ _)).mono ?_;rintro e w2 ⟨rfl,hbn,hbk,ag,I⟩;have ai:=pw_cell_below I cbA;have ah:Boxed w2 W.heap.size 100 (.func (.yield l) #[] #[]):=(I.block _ byA.lt).trans byA)
 have aa:=hbn.cell;have O:=hbk.cell;rw[hsA]at aa O ag
 have ab:W.heap.size<=w2.heap.size:=by omega
 have ac:Below W.heap.size W w2:=HWA.out.trans (I.mono za);have ak:=hJ [] W w2 none HJ.out (grown_of_below19 ac) (fun r e=>by cases e);have HTW:=aK (tab_below HT.out ac);clear hbn hbk I ac HT byA cgA csA cbA HJ HWA;have hpm: ∀ {p q:List Int},p <+: q->p.map (oth b) <+: q.map (oth b):=fun⟨t,e⟩=>⟨t.map (oth b),by rw[<-e,List.map_append]⟩
 refine rangeFunc_tells (xs:=xs) (w0:=w2) (gf:=97) (lb:= #[.pointer (some ⟨W.heap.size+1,0,none⟩),.pointer (some ⟨W.heap.size+1+1,0,none⟩)]) (encs:=fun x:Int=> #[.int .u64 x])
  (Kp:=fun V V'=>Kp V V'/\ ∀k,W.heap.size<=k->k<w2.heap.size->k<V.heap.size->V'.heap[k]? =V.heap[k]?) (by simp[go_sem]) (enters_of Tryd.func97 zb rfl)
  (subset_All1.tells (W.heap.size+1) (W.heap.size+1+1) (wrap64 (a-1)) size xs HG.out _ w2 aa O HTW.out (fun V V' h hlt=>h.2 _ za za hlt) (fun V V' h hlt=>al _ _ h.1 hlt) za)
  (fun {X Y Z} h1 h2=>⟨hKt h1.1 h2.1,fun k a1 a2 a3=>by
    have e1:=h1.2 k a1 a2 a3;refine(h2.2 k a1 a2 ?_).trans e1;rw[Array.getElem?_eq_getElem a3]at e1
    exact(Array.getElem?_eq_some_iff.1 e1).1⟩)
  (fun U lo o hlo=>⟨hKo U lo o za,fun k a1 a2 a3=>World.putObj_heap_other za⟩) (Below.refl _ _) (fun _=>rfl)
  (fun pre V=>J (pre.map (oth b)) V/\Boxed V W.heap.size 100 (.func (.yield l) #[] #[])/\V.cell? ⟨bb,0,none⟩=some (.int .i64 b)/\w2.heap.size<=V.heap.size)
  (fun c pre V=>c= .ret/\Jx (pre.map (oth b)) V)
  ?own ?ownx ?start ?a1 ?assign ?body ?done ?stop
 case own=>
  rintro pre V V' row ⟨h1,h2,h3,h4⟩ hg hr;exact⟨hJ _ V V' row h1 hg (fun r e=>⟨by have:=(hr r e).1;omega,(hr r e).2⟩),boxed_own W.heap.size 100 (fun _:Unit=>_) () V V' row h2 hg (fun r e=>(hr r e).2),cell_kept h3 hg (fun r e=>(hr r e).2),Nat.le_trans h4 hg.size⟩
 case ownx=>
  rintro c pre V V' row ⟨h1,h2⟩ hg hr;exact⟨h1,hJx _ V V' row h2 hg (fun r e=>⟨by have:=(hr r e).1;omega,(hr r e).2⟩)⟩
 case start=>exact⟨ak,ah,ai,Nat.le_refl _⟩
 case assign=>
  intro lo x V K hK
  gi_wp2
  exact hK
 case body=>
  rintro lo pre x V hlo am ⟨hJV,hby,hcb,hszV⟩ hpre;have cy:=hby.cell;obtain⟨fn,tmps,assign,body,hy,hR⟩:=yield_any (m':=8) (YH.out (pre.map (oth b)) (oth b x) V za hJV (by have:=hpm hpre;rwa [List.map_append]at this))
  dsimp only[oth]at hy
  gi_wp2
  refine hR.mono ?_;have em:pre.map (oth b)++ [oth b x] =(pre++ [x]).map (oth b):=by rw[List.map_append];rfl
  rintro e V3 (⟨rfl,ae,af,G⟩|⟨rfl,L,G⟩)
  ·rw[em]at ae
   clear hR hy
   gi_wp2
   exact⟨G.le ab (.inl rfl),⟨af,fun k a1 a2 a3=>G.same k a1 za a3⟩,ae,(G.same _ (Nat.le_refl _) za hby.lt).trans hby,(cell_as19 (p:=⟨bb,0,none⟩) (hKb _ _ af (World.block_lt_of_cell? _ _ hcb))).trans hcb,Nat.le_trans hszV G.size⟩
  ·rw[em]at L
   clear hR hy
   gi_wp2
   exact⟨G.le ab (.inl rfl),rfl,L⟩
 case done=>
  rintro D V hD ⟨hJV,hby,hcb,hszV⟩ hK;refine⟨by simp,.inl ⟨_,_,rfl,run_takeDeferred hK,?_⟩⟩;refine⟨_,results_none rfl _ _ _,?_⟩;exact⟨⟨_,rfl⟩,.inl (OwnFrom.putObj hJ _ hJV za hK rfl)⟩
 case stop=>
  rintro D c pre V hD hpre ⟨rfl,hJxV⟩ hK
  gi_wp2
  refine⟨by simp,.inl ⟨_,_,rfl,run_takeDeferred hK,?_⟩⟩;refine⟨_,results_none rfl _ _ _,?_⟩;exact⟨⟨_,rfl⟩,.inr ⟨_,hpm hpre,OwnFrom.putObj hJx _ hJxV za hK rfl⟩⟩
def setsN(n:Int):Nat->Int->Option (List Int)
 |0,_=>none
 |j+1,s=>(subset_Next.f j n s).bind fun p=>if p.2=true then(setsN n j p.1).bind fun r=>some (s::r)else some [s]
theorem setsN_chain(n:Int): ∀(j:Nat) (s:Int) (xs:List Int),setsN n j s=some xs->chainN n s xs
 |0,s,xs,h=>by simp[setsN]at h
 |j+1,s,xs,h=>by
  unfold setsN at h;obtain⟨⟨t,tb⟩,h1,h⟩:=Option.bind_eq_some_iff.mp h
  cases tb with
  |false=>
   simp only[Bool.false_eq_true,if_false]at h;obtain rfl:=Option.some.inj h;exact⟨rfl,j,t,false,h1,by simp⟩
  |true=>
   simp only[if_true]at h;obtain⟨r,h2,h⟩:=Option.bind_eq_some_iff.mp h;obtain rfl:=Option.some.inj h;exact⟨rfl,j,t,true,h1,by simpa using setsN_chain n j t r h2⟩
theorem setsN_mono(n:Int): ∀(j:Nat) (s:Int),LeO (setsN n j s) (setsN n (j+1) s)
 |0,s=>LeO.none _
 |j+1,s=>by
  show LeO (Option.bind (subset_Next.f j n s) _) (Option.bind (subset_Next.f (j+1) n s) _);refine LeO.bind (subset_Next.mono _ _ j) fun p=>?_
  split
  ·exact LeO.bind (setsN_mono n j p.1) fun _=>LeO.refl _
  ·exact LeO.refl _
def allN(k:Nat)(n size:Int):Option (List Int):=if 0<=n/\n<=64/\0<=size/\size<=n then(subset_low.f size).bind fun s=>setsN n k s else some []
theorem allN_good{k:Nat}{n size:Int}{xs:List Int}(h:allN k n size=some xs):goodN n size xs:=by
 unfold allN at h;unfold goodN;by_cases hh:0<=n/\n<=64/\0<=size/\size<=n
 case neg=>rw[if_neg hh]at h⊢;exact(Option.some.inj h).symm
 rw[if_pos hh]at h⊢
 obtain⟨s,h1,h2⟩:=Option.bind_eq_some_iff.mp h;exact⟨s,h1,setsN_chain n k s xs h2⟩
theorem allN_mono(k:Nat)(n size:Int):LeO (allN k n size) (allN (k+1) n size):=by
 unfold allN
 split
 ·exact LeO.bind (LeO.refl _) fun s=>setsN_mono n k s
 ·exact LeO.refl _
def scanN(k:Nat)(a b:Int)(l:List Int)(i:Int):List Int->Int->Option (Int×Option (Int×Int))
 | [],c=>some (c,none)
 |y::r,c=>if 16384<wrap64 (c+1)then some (wrap64 (c+1),some (0,4))else(local_repairs.f k a b l i y).bind fun t=>if t=true then some (wrap64 (c+1),some (y,0))else scanN k a b l i r (wrap64 (c+1))
theorem scanN_mono(k:Nat)(a b:Int)(l:List Int)(i:Int): ∀(xs:List Int) (c:Int),LeO (scanN k a b l i xs c) (scanN (k+1) a b l i xs c)
 | [],c=>LeO.refl _
 |y::r,c=>by
  unfold scanN
  split
  ·exact LeO.refl _
  ·refine LeO.bind (local_repairs.mono _ _ _ _ _ k) fun t=>?_
   split
   ·exact LeO.refl _
   ·exact scanN_mono k a b l i r _
def local_search.go(k:Nat)(a b:Int)(l:List Int)(i:Int):Nat->Int->Int->Option (Int×Int)
 |0,_,_=>none
 |d+1,size,c=>if size<a then(allN k (wrap64 (a-1)) size).bind fun xs=>(scanN k a b l i (xs.map (oth i)) c).bind fun p=>p.2.elim (local_search.go k a b l i d (wrap64 (size+1)) p.1) some else some (0,4)
theorem local_search.go_mono(k:Nat)(a b:Int)(l:List Int)(i:Int): ∀(d:Nat) (size c:Int),LeO (local_search.go k a b l i d size c) (local_search.go (k+1) a b l i (d+1) size c)
 |0,size,c=>LeO.none _
 |d+1,size,c=>by
  unfold local_search.go
  split
  ·refine LeO.bind (allN_mono _ _ _) fun xs=>LeO.bind (scanN_mono _ _ _ _ _ _ _) fun p=>?_
   cases p.2 with
   |none=>exact local_search.go_mono k a b l i d _ _
   |some r=>exact LeO.refl _
  ·exact LeO.refl _
def local_search.f(k:Nat)(a b:Int)(l:List Int)(i:Int):Option (Int×Int):=if 0<=i/\0<=a/\a<=64 then local_search.go k a b l i k 0 0 else none
theorem local_search.mono: ∀a b l i k,LeO (local_search.f k a b l i) (local_search.f (k+1) a b l i):=fun a b l i k=>by
 unfold local_search.f
 split
 ·exact local_search.go_mono k a b l i k 0 0
 ·exact LeO.none _
def markOf(D:Nat):Deferred:= { target:= .collected D,args:= #[] }
theorem leaves_marks{F:Fence}{n:Nat}{P:Program}{fn:Func}{tmps:Array Value}{R:Ending->World->Prop} : ∀(Ds:List Nat) (W:World),(∀D∈Ds,W.heap[D]? =some (.deferred (some [])))->Ds.Nodup->
 (∀W',(∀p v,W.cell? p=some v->W'.cell? p=some v)->(∀B,(∀D∈Ds,B<=D)->Below B W W')->LeavesIn F n P fn tmps R [] .returning W')->LeavesInM F n P fn tmps R (Ds.map markOf) .returning W
 | [],W,_,_,h=>h W (fun _ _ h=>h) (fun B _=>Below.refl _ _)
 |D::Ds,W,hD,hN,h=>by
  have h1:=hD D zd;refine⟨by simp,.inl ⟨D,_,rfl,run_takeDeferred h1,leaves_marks Ds _ (fun D' h'=>?_) (List.nodup_cons.1 hN).2 fun W' hc hB=>h W' (fun p v hp=>hc p v ?_) (fun B hb=>?_)⟩⟩
  ·refine(World.putObj_heap_other ?_).trans (hD D' (by simp[h']));rintro rfl;exact(List.nodup_cons.1 hN).1 h'
  ·exact cell_kept hp (grownBy_putObj' _ D (.deferred none)) (fun r e=>by cases e;exact⟨_,h1,rfl⟩)
  ·have hle:=hb D zd;exact((Below.refl B W).grown (grownBy_putObj' W D (.deferred none)) (by have:=(Array.getElem?_eq_some_iff.1 h1).1;omega) (fun k e=>by cases e;exact hle)).trans (hB B fun D' h'=>hb D' (by simp[h']))
structure SBox (w:World) (a b i:Int) (A:Option Addr) (n cp:Nat) (c fd er:Int) (V:World):Prop where
 mat:V.heap[w.heap.size]? =some (.cells #[.int .i64 a,.int .i64 b,.slice A n cp] 24 (0,0))
 blk:Boxed V (w.heap.size+1) 3 (.int .i64 i)
 look:Boxed V (w.heap.size+2) 3 (.int .i64 c)
 fnd:Boxed V (w.heap.size+3) 29 (.int .u64 fd)
 err:Boxed V (w.heap.size+4) 30 (.int .i64 er)
 low:Below w.heap.size w V
section
variable {w V V':World} {a b i c fd er:Int} {A:Option Addr} {n cp:Nat}
theorem SBox.ext(h:SBox w a b i A n cp c fd er V)(hb:Below V.heap.size V V'):SBox w a b i A n cp c fd er V':=
 ⟨(hb.block _ (Array.getElem?_eq_some_iff.1 h.mat).1).trans h.mat,(hb.block _ h.blk.lt).trans h.blk,(hb.block _ h.look.lt).trans h.look,(hb.block _ h.fnd.lt).trans h.fnd,(hb.block _ h.err.lt).trans h.err,below_step h.low hb⟩
theorem SBox.own{B:Nat}{β:Type}(hB:w.heap.size<=B):OwnFrom B (fun(_:β) V=>SBox w a b i A n cp c fd er V):=fun s X Y row h hg hr=>
 ⟨(hg.block _ (Array.getElem?_eq_some_iff.1 h.mat).1 fun e=>by
    obtain⟨_,o,ho,hc⟩:=hr _ e.symm;rw[h.mat]at ho;cases ho;cases hc).trans h.mat,
   boxed_own _ _ (fun _:Unit=>_) () X Y row h.blk hg (fun r e=>(hr r e).2),boxed_own _ _ (fun _:Unit=>_) () X Y row h.look hg (fun r e=>(hr r e).2),boxed_own _ _ (fun _:Unit=>_) () X Y row h.fnd hg (fun r e=>(hr r e).2),boxed_own _ _ (fun _:Unit=>_) () X Y row h.err hg (fun r e=>(hr r e).2),
   ownFrom_below (β:=Unit) (Nat.le_refl _) hB () X Y row h.low hg hr⟩
theorem SBox.setLook(h:SBox w a b i A n cp c fd er V)(c':Int):SBox w a b i A n cp c' fd er (V.setCell ⟨w.heap.size+2,0,none⟩ (.int .i64 c')):=
 ⟨(Below.heap_setCell V ⟨w.heap.size+2,0,none⟩ _ _ zd).trans h.mat,(Below.heap_setCell V ⟨w.heap.size+2,0,none⟩ _ _ zd).trans h.blk,h.look.set _,(Below.heap_setCell V ⟨w.heap.size+2,0,none⟩ _ _ zd).trans h.fnd,(Below.heap_setCell V ⟨w.heap.size+2,0,none⟩ _ _ zd).trans h.err,h.low.setCell (p:=⟨w.heap.size+2,0,none⟩) zd _⟩
theorem SBox.setFnd(h:SBox w a b i A n cp c fd er V)(x:Int):SBox w a b i A n cp c x er (V.setCell ⟨w.heap.size+3,0,none⟩ (.int .u64 x)):=
 ⟨(Below.heap_setCell V ⟨w.heap.size+3,0,none⟩ _ _ zd).trans h.mat,(Below.heap_setCell V ⟨w.heap.size+3,0,none⟩ _ _ zd).trans h.blk,(Below.heap_setCell V ⟨w.heap.size+3,0,none⟩ _ _ zd).trans h.look,h.fnd.set _,(Below.heap_setCell V ⟨w.heap.size+3,0,none⟩ _ _ zd).trans h.err,h.low.setCell (p:=⟨w.heap.size+3,0,none⟩) zd _⟩
theorem SBox.setErr(h:SBox w a b i A n cp c fd er V)(x:Int):SBox w a b i A n cp c fd x (V.setCell ⟨w.heap.size+4,0,none⟩ (.int .i64 x)):=
 ⟨(Below.heap_setCell V ⟨w.heap.size+4,0,none⟩ _ _ zd).trans h.mat,(Below.heap_setCell V ⟨w.heap.size+4,0,none⟩ _ _ zd).trans h.blk,(Below.heap_setCell V ⟨w.heap.size+4,0,none⟩ _ _ zd).trans h.look,(Below.heap_setCell V ⟨w.heap.size+4,0,none⟩ _ _ zd).trans h.fnd,h.err.set _,h.low.setCell (p:=⟨w.heap.size+4,0,none⟩) zd _⟩
end
attribute [local go_sem] Oper.semAt_some
def local_search.J(w:World)(a b i:Int)(A:Option Addr)(n cp k:Nat)(l:List Int)(r:Int×Int)(ag:Value)(z:Act)(W:World):Prop:=
 ∃(d:Nat) (size c:Int) (Ds:List Nat) (u9 u10 u11 u14 u15 u16 u17 u18 u19 u20 u21 u22 u23 u24 u25 u26 u27 u28 u29 u30 u31 u32:Value),z= { tmps:= #[ag,.int .i64 i,.pointer (some ⟨w.heap.size,0,none⟩),.pointer (some ⟨w.heap.size+1,0,none⟩),.int .u64 0,.int .i64 0,.pointer (some ⟨w.heap.size+2,0,none⟩),.pointer (some ⟨w.heap.size+3,0,none⟩),.pointer (some ⟨w.heap.size+4,0,none⟩),u9,u10,u11,.int .i64 a,.int .i64 size,u14,u15,u16,u17,u18,u19,u20,u21,u22,u23,u24,u25,u26,u27,u28,u29,u30,u31,u32],defers:=Ds.map markOf } /\0<=size/\size<=a/\
  Aside0 (local_search.go k a b l i d size c=some r)/\Aside0 (SBox w a b i A n cp c 0 4 W)/\Aside0 (∀D∈Ds,w.heap.size+5<=D/\W.heap[D]? =some (.deferred (some [])))/\Aside0 Ds.Nodup
theorem local_search.calls(k:Nat)(a b:Int)(A:Option Addr)(cp:Nat)(l:List Int)(i:Int)(r1 r2:Int)(w:World)(hr:Kd.C (Kd.int .u8) w A l.length l)(hc:l.length<=cp)(h:local_search.f k a b l i=some (r1,r2))(hT:TabAt 0 Lib.deBruijn64tab w):
 Calls Tryd.prog 33 #[.agg #[.int .i64 a,.int .i64 b,.slice A l.length cp],.int .i64 i] w fun e w'=>e= .returned (.tuple #[.int .u64 r1,.int .i64 r2])/\Below w.heap.size w w':=by
 have a9:=Tryd.underlying24;unfold local_search.f at h;by_cases hi:0<=i/\0<=a/\a<=64
 case neg=>rw[if_neg hi]at h;cases h
 rw[if_pos hi]at h
 have a6:0<w.heap.size:=World.block_lt_of_cell? _ _ (hT 0 zc);have HR:=aK hr;have HC:=aK hc;have HT:=aK hT;have HH:=aK h;clear hr hc hT h;refine(callsIn_wide (n:=9)).1 ?_;refine callsIn_of_wp_marks Tryd.func33 rfl trivial ?_ rfl;simp only[Tryd.ntmps33,List.size_toArray,List.length_cons,List.length_nil,Nat.reduceAdd,Nat.reduceSub,Array.replicate_succ,Array.replicate_zero,List.push_toArray,List.append_toArray,List.nil_append,List.cons_append]
 gi_wp2
 refine(wpIn_wide (n:=9)).2 (wp_scope_straight ((wpIn_wide (n:=9)).1 ?_));have ar:=World.alloc_heap_new w (.cells #[.int .i64 a,.int .i64 b,.slice A l.length cp] 24);have BK:=aK ((Below.heap_alloc (w.alloc (.cells #[.int .i64 a,.int .i64 b,.slice A l.length cp] 24)) (.cells #[.int .i64 i] 3) _ zd).trans ar);have bb0:=Boxed.new (w.alloc (.cells #[.int .i64 a,.int .i64 b,.slice A l.length cp] 24)) 3 (.int .i64 i);rw[World.size_alloc]at bb0
 have au:Below w.heap.size w ((w.alloc (.cells #[.int .i64 a,.int .i64 b,.slice A l.length cp] 24)).alloc (.cells #[.int .i64 i] 3)):=((Below.refl _ w).alloc (Nat.le_refl _) _).alloc zd _;have af:((w.alloc (.cells #[.int .i64 a,.int .i64 b,.slice A l.length cp] 24)).alloc (.cells #[.int .i64 i] 3)).heap.size=w.heap.size+2:=by simp
 generalize((w.alloc (.cells #[.int .i64 a,.int .i64 b,.slice A l.length cp] 24)).alloc (.cells #[.int .i64 i] 3))=w1 at*;clear ar;obtain⟨hcx_0,hcx_1,hcx_2,hfx_0,hfx_1,hfx_2⟩:=cell3 BK
 gi_wp2
 have ah:Below w1.heap.size w1 (((w1.alloc (.cells #[.int .i64 0] 3)).alloc (.cells #[.int .u64 0] 29)).alloc (.cells #[.int .i64 4] 30)):=(((Below.refl _ w1).alloc (Nat.le_refl _) _).alloc zd _).alloc zj _;have bl:=Boxed.new w1 3 (.int .i64 0);have bf:=Boxed.new (w1.alloc (.cells #[.int .i64 0] 3)) 29 (.int .u64 0);have be:=Boxed.new ((w1.alloc (.cells #[.int .i64 0] 3)).alloc (.cells #[.int .u64 0] 29)) 30 (.int .i64 4);rw[World.size_alloc,af]at bf
 rw[World.size_alloc,World.size_alloc,af]at be
 rw[af]at bl
 have al:SBox w a b i A l.length cp 0 0 4 (((w1.alloc (.cells #[.int .i64 0] 3)).alloc (.cells #[.int .u64 0] 29)).alloc (.cells #[.int .i64 4] 30)):=
  ⟨(ah.block _ (Array.getElem?_eq_some_iff.1 BK.out).1).trans BK.out,(ah.block _ bb0.lt).trans bb0,(bl.alloc _).alloc _,bf.alloc _,be,au.trans (ah.mono za)⟩
 have hsz:(((w1.alloc (.cells #[.int .i64 0] 3)).alloc (.cells #[.int .u64 0] 29)).alloc (.cells #[.int .i64 4] 30)).heap.size=w.heap.size+5:=by simp[af]
 generalize(((w1.alloc (.cells #[.int .i64 0] 3)).alloc (.cells #[.int .u64 0] 29)).alloc (.cells #[.int .i64 4] 30))=W1 at*;clear ah bl bf be BK bb0 au af hcx_0 hcx_1 hcx_2 hfx_0 hfx_1 hfx_2;have aq:=aK al;have c0:W1.cell? ⟨w.heap.size,0,none⟩=some (.int .i64 a):=(blk_cell al.mat 0).trans rfl;clear al;refine wpIn_label ?_
 gi_wp2
 refine wpIn_loop (local_search.J w a b i A l.length cp k l (r1,r2) (.agg #[.int .i64 a,.int .i64 b,.slice A l.length cp])) (fun z _=>(a-intOf (z.tmps.getD 13 undef)).toNat) ?_ ?_
 ·exact⟨k,0,0,[],_,_,_,_,_,_,_,_,_,_,_,_,_,_,_,_,_,_,_,_,_,_,rfl,Int.le_refl _,hi.2.1,HH,aq,⟨fun D hD=>(by cases hD)⟩,⟨List.nodup_nil⟩⟩
 ·rintro z W ⟨d,size,c,Ds,u9,u10,u11,u14,u15,u16,u17,u18,u19,u20,u21,u22,u23,u24,u25,u26,u27,u28,u29,u30,u31,u32,rfl,bc,hza,HGO,HS,HD,HN⟩;clear aq c0 hsz HH;by_cases hlt:size<a
  case neg=>
   have c1:decide (size<a)=false:=decide_eq_false hlt
   gi_wp2
   cases d with
   |zero=>exact absurd HGO.out (by simp[local_search.go])
   |succ d=>
   have hgo:=HGO.out;unfold local_search.go at hgo;rw[if_neg za]at hgo
   obtain⟨rfl,rfl⟩:=Prod.mk.inj (Option.some.inj hgo);have cf:=HS.out.fnd.cell;have ce:=HS.out.err.cell
   gi_region
   all_goals gi_wp2
   all_goals
    refine leaves_marks Ds _ (fun D' hD'=>?_) HN.out fun W6 _ ak=>⟨_,results_tmp2 rfl _ _ _,rfl,?_⟩
    ·exact(HD.out D' hD').2
    ·exact(below_drew1 HS.out.low).trans (ak w.heap.size fun D' hD'=>by have:=(HD.out D' hD').1;omega)
  have c1:decide (size<a)=true:=decide_eq_true hlt;have m0:W.cell? ⟨w.heap.size,0,none⟩=some (.int .i64 a):=(blk_cell HS.out.mat 0).trans rfl;have m1:W.cell? ⟨w.heap.size,1,none⟩=some (.int .i64 b):=(blk_cell HS.out.mat 1).trans rfl;have m2:W.cell? ⟨w.heap.size,2,none⟩=some (.slice A l.length cp):=(blk_cell HS.out.mat 2).trans rfl;have mb:=HS.out.blk.cell
  gi_wp2_with (refine⟨trivial,?_⟩;gi_at_call 54;refine(callsIn_wide.2 (local_others.calls a b A l.length cp i size _)).mono ?_;rintro e w3 ⟨rfl,hbg,hbb,hbs,az,an⟩)
  have ba:w.heap.size<W.heap.size:=(Array.getElem?_eq_some_iff.1 HS.out.mat).1;have bb:w.heap.size+4<W.heap.size:=HS.out.err.lt
  cases d with
  |zero=>exact absurd HGO.out (by simp[local_search.go])
  |succ d=>
  have hgo:=HGO.out;unfold local_search.go at hgo;rw[if_pos hlt]at hgo
  obtain⟨xs,hall,hgo⟩:=Option.bind_eq_some_iff.mp hgo;obtain⟨p,hscan,hgo⟩:=Option.bind_eq_some_iff.mp hgo;have HX:=aK (allN_good hall);have HP:=aK hscan;have aj:=aK hgo;clear hall hscan hgo HGO m0 m1 m2 mb;have am:=HS.out.ext an;have av: ∀D∈Ds,w.heap.size+5<=D/\D<W.heap.size/\w3.heap[D]? =some (.deferred (some [])):=fun D hD=>by
   obtain⟨a1,a2⟩:=HD.out D hD;have a3:=(Array.getElem?_eq_some_iff.1 a2).1;exact⟨a1,a3,(an.block _ a3).trans a2⟩
  have a4:=aK am;have I:=aK av;have ccg:w3.cell? ⟨W.heap.size,0,none⟩=some (.int .i64 a):=(blk_cell hbg 0).trans rfl;have ccb:=hbb.cell;have ccs:=hbs.cell;have ay:=tab_below HT.out am.low;have a5:=aK ay;have ybb:=aK hbb;clear am av hbg hbb hbs an HS HD ay;obtain⟨ys,eys⟩: ∃ys,ys=xs.map (oth i):=⟨_,rfl⟩
  have htells:=local_others1.tells W.heap.size (W.heap.size+2) (W.heap.size+1) a size i xs HX.out hi.1 (fun V V'=>Below w.heap.size V V'/\ ∀k,W.heap.size<=k->k<w3.heap.size->k<V.heap.size->V'.heap[k]? =V.heap[k]?) w3 ccg ccs ccb a5.out za
   (fun {X Y Z} h1 h2=>⟨h1.1.trans h2.1,fun k a1 a2 a3=>by
     have e1:=h1.2 k a1 a2 a3;refine(h2.2 k a1 a2 ?_).trans e1;rw[Array.getElem?_eq_getElem a3]at e1
     exact(Array.getElem?_eq_some_iff.1 e1).1⟩)
   (fun U lo o hlo=>⟨by have hg:=grownBy_putObj' U lo o;exact⟨hg.os,hg.tape,hg.output,hg.size,fun k hk=>World.putObj_heap_other za⟩,fun k a1 a2 a3=>World.putObj_heap_other za⟩)
   (fun V V' h hlt=>h.2 _ za za hlt) (fun V V' h hlt=>h.1.block 0 a6)
  rw[<-eys]at htells HP
  have HTL:=aK htells;clear htells ccg ccb ccs eys
  refine rangeFunc_tells (xs:=ys) (w0:=w3) (gf:=82) (lb:= #[.pointer (some ⟨W.heap.size,0,none⟩),.pointer (some ⟨W.heap.size+2,0,none⟩),.pointer (some ⟨W.heap.size+1,0,none⟩)]) (encs:=fun x:Int=> #[.int .u64 x])
   (by simp[go_sem]) (enters_of Tryd.func82 zb rfl) HTL.out
   (fun {X Y Z} h1 h2=>⟨h1.1.trans h2.1,fun k a1 a2 a3=>by
     have e1:=h1.2 k a1 a2 a3;refine(h2.2 k a1 a2 ?_).trans e1;rw[Array.getElem?_eq_getElem a3]at e1
     exact(Array.getElem?_eq_some_iff.1 e1).1⟩)
   (fun U lo o hlo=>⟨by have hg:=grownBy_putObj' U lo o;exact⟨hg.os,hg.tape,hg.output,hg.size,fun k hk=>World.putObj_heap_other za⟩,fun k a1 a2 a3=>World.putObj_heap_other za⟩) (Below.refl _ _) (fun _=>rfl)
   (fun pre V=>(∃c' rest,ys=pre++rest/\scanN k a b l i rest c'=some p/\SBox w a b i A l.length cp c' 0 4 V)/\(∀D∈Ds,V.heap[D]? =some (.deferred (some [])))/\w3.heap.size<=V.heap.size)
   (fun c pre V=>c= .exit 0/\ ∃c' fd er,p.2=some (fd,er)/\SBox w a b i A l.length cp c' fd er V/\(∀D∈Ds,V.heap[D]? =some (.deferred (some []))))
   ?own ?ownx ?start ?a1 ?assign ?body ?done ?stop
  case own=>
   rintro pre V V' row ⟨⟨c',rest,h1,h2,h3⟩,h4,h5⟩ hg hr;exact⟨⟨c',rest,h1,h2,SBox.own (β:=Unit) za () V V' row h3 hg hr⟩,fun D hD=>lies_own hg hr (by have:=(I.out D hD).2.1;omega) (h4 D hD),Nat.le_trans h5 hg.size⟩
  case ownx=>
   rintro c pre V V' row ⟨h1,c',fd,er,h2,h3,h4⟩ hg hr;exact⟨h1,c',fd,er,h2,SBox.own (β:=Unit) za () V V' row h3 hg hr,fun D hD=>lies_own hg hr (by have:=(I.out D hD).2.1;omega) (h4 D hD)⟩
  case start=>exact⟨⟨c,ys,rfl,HP.out,a4.out⟩,fun D hD=>(I.out D hD).2.2,Nat.le_refl _⟩
  case assign=>
   intro lo x V K hK
   gi_wp2
   exact hK
  case body=>
   rintro lo pre x V hlo a8 ⟨⟨c',rest,hys,hsc,hSV⟩,hMV,hVs⟩ hpre;obtain⟨rest,rfl⟩: ∃r,rest=x::r:=by
    obtain⟨t,ht⟩:=hpre;rw[hys,List.append_assoc]at ht
    exact⟨t,(List.append_cancel_left ht).symm⟩
   have HSV:=aK hSV;have HMV:=aK hMV;have HVS:=aK hVs;have HYS:=aK (show ys=(pre++ [x])++rest by rw[hys];simp);have cl:=hSV.look.cell;have fl:=hSV.look.frozen;have G:=aK (hSV.setLook (wrap64 (c'+1)));have m0:(V.setCell ⟨w.heap.size+2,0,none⟩ (.int .i64 (wrap64 (c'+1)))).cell? ⟨w.heap.size,0,none⟩=some (.int .i64 a):=(blk_cell G.out.mat 0).trans rfl;have m1:(V.setCell ⟨w.heap.size+2,0,none⟩ (.int .i64 (wrap64 (c'+1)))).cell? ⟨w.heap.size,1,none⟩=some (.int .i64 b):=(blk_cell G.out.mat 1).trans rfl;have m2:(V.setCell ⟨w.heap.size+2,0,none⟩ (.int .i64 (wrap64 (c'+1)))).cell? ⟨w.heap.size,2,none⟩=some (.slice A l.length cp):=(blk_cell G.out.mat 2).trans rfl;have mb:=G.out.blk.cell;have ai:Stays w3.heap.size (w3.heap.size+2) 3 V (V.setCell ⟨w.heap.size+2,0,none⟩ (.int .i64 (wrap64 (c'+1)))):=Stays.set V ⟨w.heap.size+2,0,none⟩ _ (by show w.heap.size+2<_;omega) (by show w.heap.size+2<_;omega);have ax: ∀D∈Ds,(V.setCell ⟨w.heap.size+2,0,none⟩ (.int .i64 (wrap64 (c'+1)))).heap[D]? =some (.deferred (some [])):=fun D hD=>(Below.heap_setCell V ⟨w.heap.size+2,0,none⟩ _ D (by have:=(I.out D hD).1;show D≠_;simp only;omega)).trans (hMV D hD);have aw:Below w.heap.size V (V.setCell ⟨w.heap.size+2,0,none⟩ (.int .i64 (wrap64 (c'+1))))/\ ∀k,W.heap.size<=k->k<w3.heap.size->k<V.heap.size->(V.setCell ⟨w.heap.size+2,0,none⟩ (.int .i64 (wrap64 (c'+1)))).heap[k]? =V.heap[k]? :=
    ⟨(Below.refl _ V).setCell (p:=⟨w.heap.size+2,0,none⟩) zd _,fun k a1 _ _=>Below.heap_setCell V ⟨w.heap.size+2,0,none⟩ _ k (by show k≠_;simp only;omega)⟩
   have ab:=aK ai;have ag:=aK ax;have ap:=aK aw;unfold scanN at hsc;have HSS:=aK az;clear hSV hMV hys ai ax aw az;by_cases hlim:16384<wrap64 (c'+1)
   ·rw[if_pos hlim]at hsc
    have cc:decide (16384<wrap64 (c'+1))=true:=decide_eq_true hlim;have HPE:=aK (Option.some.inj hsc);clear hsc
    gi_wp2
    exact⟨ab.out,rfl,_,_,_,(congrArg Prod.snd HPE.out).symm,G.out,ag.out⟩
   rw[if_neg hlim]at hsc
   have cc:decide (16384<wrap64 (c'+1))=false:=decide_eq_false hlim;obtain⟨t,ht,hsc⟩:=Option.bind_eq_some_iff.mp hsc;have HTT:=aK ht;have HSC:=aK hsc;clear ht hsc hlim
   cases t with
   |true=>
    gi_wp2_with (refine⟨trivial,?_⟩;gi_at_call 55;refine(callsIn_wide.2 (local_repairs.calls k a b A cp l i x true _ (Kd.C_below HR.out G.out.low) HC.out HTT.out (tab_below HT.out G.out.low))).mono ?_;rintro e w5 ⟨rfl,aa⟩;have O:=aK (G.out.ext aa);have L:=aK aa;clear aa;have ff:=O.out.fnd.cell;have fff:=O.out.fnd.frozen;have fe:=(O.out.setFnd x).err.cell;have ffe:=(O.out.setFnd x).err.frozen)
    have HPE:p=(wrap64 (c'+1),some (x,0)):=(Option.some.inj (by have:=HSC.out;rw[if_pos trivial]at this;exact this)).symm;have ac:Stays w3.heap.size (w3.heap.size+2) 3 V ((w5.setCell ⟨w.heap.size+3,0,none⟩ (.int .u64 x)).setCell ⟨w.heap.size+4,0,none⟩ (.int .i64 0)):=
     ((ab.out.trans (Stays.any L.out)).trans (Stays.set _ ⟨w.heap.size+3,0,none⟩ _ zaq zaq)).trans (Stays.set _ ⟨w.heap.size+4,0,none⟩ _ zap zap)
    refine⟨ac,rfl,_,x,0,by rw[HPE],(O.out.setFnd x).setErr 0,fun D hD=>?_⟩;have hl:=(I.out D hD).1;have h1:=ag.out D hD;exact(Below.heap_setCell _ ⟨w.heap.size+4,0,none⟩ _ D (by show D≠_;simp only;omega)).trans ((Below.heap_setCell _ ⟨w.heap.size+3,0,none⟩ _ D (by show D≠_;simp only;omega)).trans ((L.out.block _ (Array.getElem?_eq_some_iff.1 h1).1).trans h1))
   |false=>
    gi_wp2_with (refine⟨trivial,?_⟩;gi_at_call 55;refine(callsIn_wide.2 (local_repairs.calls k a b A cp l i x false _ (Kd.C_below HR.out G.out.low) HC.out HTT.out (tab_below HT.out G.out.low))).mono ?_;rintro e w5 ⟨rfl,aa⟩;have O:=aK (G.out.ext aa);have L:=aK aa;clear aa)
    have a0:scanN k a b l i rest (wrap64 (c'+1))=some p:=by have:=HSC.out;simpa using this
    have ac:Stays w3.heap.size (w3.heap.size+2) 3 V w5:=ab.out.trans (Stays.any L.out);exact⟨ac,⟨ap.out.1.trans (L.out.mono (by have:=(Array.getElem?_eq_some_iff.1 G.out.mat).1;omega)),fun k a1 a2 a3=>(L.out.block k (by have:=ab.out.size;omega)).trans (ap.out.2 k a1 a2 a3)⟩,⟨_,rest,HYS.out,a0,O.out⟩,fun D hD=>(L.out.block _ (Array.getElem?_eq_some_iff.1 (ag.out D hD)).1).trans (ag.out D hD),Nat.le_trans HVS.out ac.size⟩
  case done=>
   rintro D V hD ⟨⟨c',rest,hys,hsc,hSV⟩,hMV,hVs⟩ hK;obtain rfl:rest= []:=by
    have:=congrArg List.length hys;rw[List.length_append]at this
    exact List.eq_nil_of_length_eq_zero za
   obtain rfl:(c',none)=p:=Option.some.inj hsc;have ae:local_search.go k a b l i d (wrap64 (size+1)) c'=some (r1,r2):=aj.out;have hw:wrap64 (size+1)=size+1:=by unfold wrap64;omega
   rw[hw]at ae
   have ao:=aK ae;have HSV:=aK hSV;have HMV:=aK hMV;have KD:=aK hK;clear ae hSV hMV hK hsc aj HP
   gi_wp2
   refine⟨⟨d,size+1,c',D::Ds,_,_,_,_,_,_,_,_,_,_,_,_,_,_,_,_,_,_,_,_,_,_,rfl,by omega,by omega,ao,HSV,⟨fun D' hD'=>?_⟩,⟨List.nodup_cons.2 ⟨fun h=>by have:=(I.out D h).2.1;omega,HN.out⟩⟩⟩,?_⟩
   ·rcases List.mem_cons.1 hD' with rfl|h
    ·exact⟨by omega,KD.out⟩
    ·exact⟨(I.out D' h).1,HMV.out D' h⟩
   ·simp[intOf];omega
  case stop=>
   rintro D c pre V hD hpre ⟨rfl,c',fd,er,a7,hSV,hMV⟩ hK;have cf:=hSV.fnd.cell;have ce:=hSV.err.cell;have HSV:=aK hSV;have HMV:=aK hMV;have KD:=aK hK;have hres:(fd,er)=(r1,r2):=by have:=aj.out;rw[a7]at this;exact Option.some.inj this
   obtain⟨rfl,rfl⟩:=Prod.mk.inj hres;clear hSV hMV hK
   gi_wp2
   gi_region
   all_goals gi_wp2
   all_goals
    refine leaves_marks (D::Ds) _ (fun D' hD'=>?_) (List.nodup_cons.2 ⟨fun h=>by have:=(I.out D h).2.1;omega,HN.out⟩) fun W6 _ ak=>⟨_,results_tmp2 rfl _ _ _,rfl,?_⟩
    ·rcases List.mem_cons.1 hD' with rfl|h
     ·exact KD.out
     ·exact HMV.out D' h
    ·refine(below_drew1 HSV.out.low).trans (ak w.heap.size fun D' hD'=>?_);rcases List.mem_cons.1 hD' with rfl|h
     ·omega
     ·have:=(I.out D' h).1;omega
def local_put.l0:Nat->List Int->List Int->List Int->Int->Int->Option (List Int)
 |0,_,_,_,_,_=>none
 |k+1,x2,x7,G,I,D=>if D<I then(if 0<=D then(if D<(G.length:Int)then(if D<(x2.length:Int)then(if 0<=(rd G D)then(if(rd G D)<(x7.length:Int)then(local_put.l0 k x2 (x7.set ((rd G D):Int).toNat (rd x2 D)) G I (wrap64 (D+1)))else(none))else(none))else(none))else(none))else(none))else(some x7)
def local_put.f(k:Nat)(a0:Int)(a1:Int)(l2:List Int):Option (List Int):=if 0<=a0 then(if(a0:Int).toNat<=281474976710656 then((subset_List.f k a1).bind fun D=>(local_put.l0 k l2 (List.replicate (a0:Int).toNat 0) D (D.length:Int) 0))else(none))else(none)
theorem local_put.mono_l: ∀k,(∀y0 y1 y2 y3 y4,LeO (local_put.l0 k y0 y1 y2 y3 y4) (local_put.l0 (k+1) y0 y1 y2 y3 y4))
 |0=>fun _ _ _ _ _ r h=>by simp[local_put.l0]at h
 |k+1=>by
  have D:=local_put.mono_l k
  ·intro y0 y1 y2 y3 y4;unfold local_put.l0
   with_reducible repeat' first|exact D _ _ _ _ _|exact subset_List.mono _ _|exact LeO.refl _|exact LeO.none _|refine LeO.ite ?_ ?_|refine LeO.bind ?_ (fun _=>?_)
theorem local_put.mono: ∀a0 a1 a2 k,LeO (local_put.f k a0 a1 a2) (local_put.f (k+1) a0 a1 a2):=by
 intro a0 a1 a2 k;have D:=local_put.mono_l k;unfold local_put.f
 with_reducible repeat' first|exact D _ _ _ _ _|exact subset_List.mono _ _|exact LeO.refl _|exact LeO.none _|refine LeO.ite ?_ ?_|refine LeO.bind ?_ (fun _=>?_)
theorem local_put.calls(k:Nat)(a0:Int)(a1:Int)(A2:Option Addr)(c2:Nat)(l2:List Int)(r:List Int)(w:World)(bb:Kd.C (Kd.int .u8) w A2 l2.length l2)(a9:l2.length<=c2)(h:local_put.f k a0 a1 l2=some r)(hT:TabAt 0 Lib.deBruijn64tab w):
 Calls Tryd.prog 38 #[.int .i64 a0,.int .u64 a1,.slice A2 l2.length c2] w fun e w'=> ∃v0_:Value,e= .returned (v0_)/\Kd.R (Kd.int .u8) 5 w' w.heap.size (fun _=>True) v0_ r/\Below w.heap.size w w':=by
 have HT:=aK hT;clear hT;have bg:=aK bb;have bn:=aK a9;clear bb a9;have HB:=aK (Below.refl w.heap.size w);have H:(if 0<=a0 then(if(a0:Int).toNat<=281474976710656 then((subset_List.f k a1).bind fun G=>(local_put.l0 k l2 (List.replicate (a0:Int).toNat 0) G (G.length:Int) 0))else(none))else(none))=some r:=h;clear h;by_cases c4:0<=a0
 case neg=>rw[if_neg c4]at H;exact absurd H zd
 rw[if_pos c4]at H
 have c4b0:=eq_true c4;have c4b1:decide (0<=a0)=true:=decide_eq_true c4;clear c4;by_cases c5:(a0:Int).toNat<=281474976710656
 case neg=>rw[if_neg c5]at H;exact absurd H zd
 rw[if_pos c5]at H
 have c5b0:=eq_true c5;have c5b1:decide ((a0:Int).toNat<=281474976710656)=true:=decide_eq_true c5;clear c5;obtain⟨au,L⟩: ∃y_:List Int,y_=(List.replicate (a0:Int).toNat 0):=⟨_,rfl⟩
 replace H:((subset_List.f k a1).bind fun G=>(local_put.l0 k l2 au G (G.length:Int) 0))=some r:=zH L H
 have ab:=aK L;clear L;obtain⟨G,A6,H⟩:=bindO H
 (try dsimp only at H)
 have H':=aK H;clear H
 go_enter Tryd.func38,Tryd.ntmps38
 go_wp2_with (first|((with_reducible refine gate_dst (N:=11) rfl ?_);refine Kd.R_make (Kd.int .u8) _ 5 rfl (N:=11) rfl 22 _ _ rfl a0 rfl rfl Tryd.underlying22 (.int .u8 0) 1 info5 rfl zc za 0 (ok:=fun _=>True) (okp:=fun _=>True) rfl (fun _ hk=>hk) trivial (of_decide_eq_true asE) (Nat.le_trans (Nat.mul_le_mul_right _ (of_decide_eq_true asE:a0.toNat<=281474976710656)) za) (Below.refl _ _) (Nat.le_refl _) ?_;intro bd w7 ac hb hg_ hnew_;clear hg_ hnew_;(first|rw[<-ab.out]at ac|(simp only[Int.reduceToNat]at ac;rw[<-ab.out]at ac));have U:=aK (Kd.R_lower ac (below_size (hbA HB.out)));replace HB:=hbB HB hb;clear hb ac)|((with_reducible refine gC 35 rfl ?_);refine cG (some 13) Tryd.func35 #[.int .u64 a1] ?_;(with_reducible refine(subset_List.calls k a1 G _ A6.out (tab_below HT.out zf)).mono ?_);rintro e w9 ⟨bm,rfl,ba,hb⟩;refine⟨_,rfl,?_⟩;replace U:=kdB U hb;have Z:=aK (Kd.R_lower ba (below_size (hbA HB.out)));replace HB:=hbB HB hb;(try clear hb);(try clear ba);obtain⟨az,a4,a7⟩:=Kd.R_slice Z.out;subst a7))
 go_loopg [15] k (fun kq bj w'=> ∃(I:List Int) (D:Int),bj= .int .i64 D/\Aside0 (local_put.l0 kq l2 I G (G.length:Int) D=some r)/\Aside0 (kq<=k)/\Aside0 (Kd.R (Kd.int .u8) 5 w' w.heap.size (fun _=>True) bd I)/\Aside0 (Kd.R (Kd.int .i64) 3 w' w.heap.size (fun _=>True) (.slice az G.length a4) G)/\Aside0 (Below w.heap.size w w'))
 case atStart=>exact⟨(au),(0),rsE,H',⟨Nat.le_refl _⟩,⟨kdA U.out⟩,⟨kdA Z.out⟩,⟨hbA HB.out⟩⟩
 case round=>
  clear H'
  (try clear c2);(try clear p2);(try clear c3);(try clear c4);(try clear c4b0);(try clear c4b1);(try clear c5);(try clear c5b0);(try clear c5b1)
  obtain⟨I,D,rfl,HA,a3,HO_7,HO_13,HB⟩:=hrel
  cases gk with
  |zero=>exact absurd HA.out (by simp[local_put.l0])
  |succ k1=>
   have H:=HA.out;clear HA;simp only[local_put.l0]at H;by_cases Y:D<(G.length:Int)
   case neg=>
    rw[if_neg Y]at H
    have c11b0:decide (D<(G.length:Int))=false:=decide_eq_false Y;clear Y;obtain rfl:=Option.some.inj H;go_wp2
    go_ret
    exact⟨_,rfE,by(with_reducible repeat(first|apply Kd.R_alloc|apply Kd.R_drewN|apply Kd.R_drew));exact HO_7.out,hbA HB.out⟩
   rw[if_pos Y]at H
   have c11b0:decide (D<(G.length:Int))=true:=decide_eq_true Y;clear Y;by_cases aj:0<=D
   case neg=>rw[if_neg aj]at H;exact absurd H zd
   rw[if_pos aj]at H
   have c12b0:decide (0<=D)=true:=decide_eq_true aj;clear aj;by_cases ak:D<(G.length:Int)
   case neg=>rw[if_neg ak]at H;exact absurd H zd
   rw[if_pos ak]at H
   have c13b0:decide (D<(G.length:Int))=true:=decide_eq_true ak;clear ak;by_cases al:D<(l2.length:Int)
   case neg=>rw[if_neg al]at H;exact absurd H zd
   rw[if_pos al]at H
   have c14b0:decide (D<(l2.length:Int))=true:=decide_eq_true al;clear al;by_cases am:0<=(rd G D)
   case neg=>rw[if_neg am]at H;exact absurd H zd
   rw[if_pos am]at H
   have c15b0:decide (0<=(rd G D))=true:=decide_eq_true am;clear am;by_cases an:(rd G D)<(I.length:Int)
   case neg=>rw[if_neg an]at H;exact absurd H zd
   rw[if_pos an]at H
   have c16b0:decide ((rd G D)<(I.length:Int))=true:=decide_eq_true an;clear an;obtain⟨ai,O⟩: ∃y_:List Int,y_=(I.set ((rd G D):Int).toNat (rd l2 D)):=⟨_,rfl⟩
   replace H:(local_put.l0 k1 l2 ai G (G.length:Int) (wrap64 (D+1)))=some r:=zH O H
   have av:=aK O;clear O;have H':=aK H;clear H;have ae:0<=(D:Int):=of_decide_eq_true asE;have ag:D<(G.length:Int):=of_decide_eq_true asE;obtain⟨bh,a5,bc⟩:=Kd.at_int (Kd.R_reads' HO_13.out).2.2 D ae ag
   cases a5
   replace ae:=eq_true ae;replace ag:=eq_true ag;have af:0<=(D:Int):=of_decide_eq_true asE;have ah:D<(l2.length:Int):=of_decide_eq_true asE;obtain⟨bi,a6,J⟩:=Kd.at_int bg.out D af ah
   cases a6
   replace J:=(HB.out.cell (World.block_lt_of_cell? w _ J)).trans J;replace af:=eq_true af;replace ah:=eq_true ah;have aw:0<=((rd G D):Int):=of_decide_eq_true asE;have ax:((rd G D):Int)<((I.length:Int):Int):=of_decide_eq_true asE;obtain⟨X,ap,aq,ar,a8,bl,ao⟩:=Kd.R_form HO_7.out za
   (first|cases aq|(injection aq with ea_ en_ ec_;(first|subst ea_|(injection ea_ with ea_;subst ea_));subst ec_;clear en_))
   have a2:=aK ar;have bk:=aK ao;clear ar a8 ao;obtain⟨bf,be⟩:=Kd.R_celln 0 HO_7.out ((rd G D):Int) aw ax;replace aw:=eq_true aw;replace ax:=eq_true ax;have aa:=Kd.R_putg HO_7.out ((rd G D):Int) (rd l2 D)
   go_wp2_with (first|((with_reducible refine gate_store (t:=5) (p:=26) rfl ?_);refine store_event (t:=5) (p:=26) (v:=?vo_w19) (w1:=(wr.setCell ⟨X,((rd G D):Int).toNat,none⟩ (.int .u8 (rd l2 D)))) ?hg ?ho ?hn ?hr ?_;(case ho=>rfl);(case hg=>rfl);(case hn=>rfl);(case hr=>first|(go_simp;done)|(go_simp;rfl));intro ay hw;have hg:wr.grownBy ay (some X):=(by rw[hw];exact aa.2);have hp_:Kd.R (Kd.int .u8) 5 ay w.heap.size (fun _=>True) (.slice (some ⟨X,0,none⟩) I.length ap) ai:=(by rw[hw,av.out];exact aa.1);clear aa;replace HO_13:=aK (Kd.R_over' (v:=(.slice (some ⟨X,0,none⟩) I.length ap)) (kdA HO_13.out) (Kd.R_typed HO_7.out) zc hg);replace HO_7:=aK (hp_);replace HB:=aK ((by rw[hw];exact below_set (HB.out) a2.out:Below w.heap.size w ay));clear hg hw hp_))
   go_roundg k1
   case measure=>have:=a3.out;omega
   case rel=>exact⟨(ai),(wrap64 (D+1)),rsE,H',⟨by have:=a3.out;omega⟩,⟨kdA HO_7.out⟩,⟨kdA HO_13.out⟩,⟨hbA HB.out⟩⟩
end Go.Proofs.YtjgcocfnilhggaaDoor.Q
