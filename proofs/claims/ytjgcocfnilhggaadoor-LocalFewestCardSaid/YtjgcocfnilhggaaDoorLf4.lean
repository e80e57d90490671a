/- Texts of the proof of LocalFewest: what each Go function answers, and what the answers mean; no condition beyond each theorem's own. -/
import Derived.Test.YtjgcocfnilhggaaDoorLf3
namespace Go.Proofs.YtjgcocfnilhggaaDoor.Q
open Go.RowKit Go.Proofs.YtjgcocfnilhggaaDoorW.PrintWords Go.Proofs.YtjgcocfnilhggaaDoorW.PrintLast Go.Proofs.YtjgcocfnilhggaaDoorW.PrintMore
attribute [local go_sem] max2_int min2_int max_two min_two max_three min_three max_four min_four
set_option linter.unusedVariables false
set_option linter.unusedSimpArgs false
mutual
def recoupref03_Pick.l0:Nat→List Int→Int→Int→Int→List Int→Option (Int×Int×List Int×Int)
 |0,_,_,_,_,_=>none
 |k+1,x1,x6,D,G,I=>if x6<(x1.length:Int)then(if 0≤x6 then(if(rd x1 x6)<0 then(some (0,0,([]:List Int),2))else(if(rd x1 x6)≥D then(some (0,0,([]:List Int),2))else(recoupref03_Pick.l0 k x1 (wrap64 (x6+1)) D G I)))else(none))else(if(x1.length:Int)>64 then(some (0,0,([]:List Int),4))else(recoupref03_Pick.l1 k x1 0 D G I (x1.length:Int) G ([]:List Int)))
def recoupref03_Pick.l1:Nat→List Int→Int→Int→Int→List Int→Int→Int→List Int→Option (Int×Int×List Int×Int)
 |0,_,_,_,_,_,_,_,_=>none
 |k+1,x1,x8,G,I,J,L,O,D=>if x8<(x1.length:Int)then(if 0≤x8 then((recoupref03_Row.f k G I J (rd x1 x8)).bind fun U=>(if D.length+U.1.length<140737488355328 then(recoupref03_Pick.l1 k x1 (wrap64 (x8+1)) G I J L O (D++U.1))else(none)))else(none))else(some (L,O,D,0))
end
def recoupref03_Pick.f(k:Nat)(D:Int)(G:Int)(I:List Int)(l1:List Int):Option (Int×Int×List Int×Int):=(recoupref03_Right.f D G I).bind fun J=>(if J=true then(recoupref03_Pick.l0 k l1 0 D G I)else(some (0,0,([]:List Int),3)))
def recoupref03_Pick.T6:Bool×List (List Nat×List Nat):=(true,[([],[]),([],[]),([0,1],[0,1]),([2],[2]),([3],[3]),([4],[4]),([5],[5]),([5],[5]),([6,7,5],[5,6,7]),([8,5],[5,8]),([5],[5]),([10,5],[5,10]),([9,11,5],[5,9,11]),([5,12],[5,12])])
def recoupref03_Pick.B6:List Nat:= [0,0,3,7,15,31,63,63,255,511,63,1087,4095,8191]
theorem recoupref03_Pick.tab6:rtab .any (opsOf Tryd.f43 6)=recoupref03_Pick.T6:=by kernel_rfl
theorem recoupref03_Pick.bits6:waitsOk recoupref03_Pick.T6.2 recoupref03_Pick.B6=true:=by kernel_rfl
def recoupref03_Pick.T14:Bool×List (List Nat×List Nat):=(true,[([],[]),([],[]),([],[]),([1,2],[1,2]),([3],[3]),([0,4],[0,4]),([5],[5]),([6],[6]),([6],[6]),([7,5,0,1,2,3,4,5,6,7],[7]),([8,9,0,1,2,3,4,5,6,7,8,9],[8])])
def recoupref03_Pick.B14:List Nat:= [0,0,0,6,14,31,63,127,127,255,1023]
theorem recoupref03_Pick.tab14:rtab .any (opsOf Tryd.f43 14)=recoupref03_Pick.T14:=by kernel_rfl
theorem recoupref03_Pick.bits14:waitsOk recoupref03_Pick.T14.2 recoupref03_Pick.B14=true:=by kernel_rfl
set_option maxHeartbeats 8000000 in
set_option maxRecDepth 100000 in
theorem recoupref03_Pick.calls(k:Nat)(Y:Int)(O:Int)(al:Option Addr)(am:Nat)(Z:List Int)(A1:Option Addr)(c1:Nat)(l1:List Int)(r1:Int)(r2:Int)(r3:List Int)(r4:Int)(w:World)(ck:Kd.C (Kd.int .u8) w al Z.length Z)(bn:Z.length≤am)(ej:Kd.C (Kd.int .i64) w A1 l1.length l1)(dg:l1.length≤c1)(h:recoupref03_Pick.f k Y O Z l1=some (r1,r2,r3,r4)):
 Calls Tryd.prog 43 #[.agg #[.int .i64 Y,.int .i64 O,.slice al Z.length am],.slice A1 l1.length c1] w fun e w'=> ∃v2_:Value,e= .returned (.tuple #[.agg #[.int .i64 r1,.int .i64 r2,v2_],.int .i64 r4])∧Kd.R (Kd.int .u8) 5 w' w.heap.size (fun _=>True) v2_ r3∧Below w.heap.size w w':=by
 have ff:=Tryd.underlying24;have a4:=aK ck;have a3:=aK bn;clear ck bn;have bi:=aK ej;have fj:=aK dg;clear ej dg;have HB:=aK (Below.refl w.heap.size w);have H:((recoupref03_Right.f Y O Z).bind fun cn=>(if cn=true then(recoupref03_Pick.l0 k l1 0 Y O Z)else(some (0,0,([]:List Int),3))))=some (r1,r2,r3,r4):=h;clear h;obtain⟨cn,A3,H⟩:=bindO H
 (try dsimp only at H)
 by_cases c4:cn=true
 ·subst c4;rw[if_pos rfl]at H
  have H':=aK H;clear H
  go_enter Tryd.func43,Tryd.ntmps43
  go_wp2_with (first|((with_reducible refine gD 2 rfl ?_);refine bE 2 #[.int .i64 Y,.int .i64 O,.slice al Z.length am] 24 ?_;intro ah hg w5 hbox hb;have D:=aK (hbox);have cy:=hbS HB hg;have cw:=hbS HB hg;replace HB:=hbB HB hb;clear hb hbox hg)|((with_reducible refine gD 4 rfl ?_);refine bE 4 #[.int .i64 0,.int .i64 0,.slice none 0 0] 24 ?_;intro ak hg w6 hbox hb;have G:=aK (hbox);have cz:=hbS HB hg;have cx:=hbS HB hg;replace HB:=hbB HB hb;have ab:=neL D hg;have ac:=neG D hg;replace D:=bkB D hb;clear hb hbox hg;have fd:=ab.out;have fe:=ac.out;obtain⟨bb,bc,bd,be,bf,bg⟩:=cell3 D)|((with_reducible refine gC 45 rfl ?_);refine cG (some 12) Tryd.func45 #[.agg #[.int .i64 Y,.int .i64 O,.slice al Z.length am]] ?_;(with_reducible refine(recoupref03_Right.calls Y O _ _ Z true _ ?side1 ?side2 A3.out).mono ?_);(case side1=>exact kcB a4 HB);(case side2=>exact a3.out);rintro e w9 ⟨rfl,hb⟩;refine⟨_,rfl,?_⟩;replace D:=bkB D hb;replace G:=bkB G hb;replace HB:=hbB HB hb;(try clear hb)))
  go_loopg [6] k (fun kq v6 w'=> ∃(I:Int) (U:Int) (L:Int),v6= .int .i64 I∧Aside0 (recoupref03_Pick.l0 kq l1 I Y O Z=some (r1,r2,r3,r4))∧Aside0 (kq≤k)∧Aside0 (w'.heap[ah]? =some (.cells #[.int .i64 Y,.int .i64 O,(.slice al Z.length am)] 24 (0,0)))∧Aside0 (w'.heap[ak]? =some (.cells #[.int .i64 U,.int .i64 L,(.slice none 0 0)] 24 (0,0)))∧Aside0 (Below w.heap.size w w'))
  case atStart=>exact⟨(0),(0),(0),rsE,H',⟨Nat.le_refl _⟩,⟨bkA D.out⟩,⟨bkA G.out⟩,⟨hbA HB.out⟩⟩
  case round=>
   clear H'
   (try clear c1);(try clear p2);(try clear c4);(try clear c7);(try clear bb bc bd be bf bg)
   obtain⟨I,U,L,rfl,HA,co,D,G,HB⟩:=hrel
   cases gk with
   |zero=>exact absurd HA.out (by simp[recoupref03_Pick.l0])
   |succ k1=>
    have H:=HA.out;clear HA;simp only[recoupref03_Pick.l0]at H;by_cases a6:I<(l1.length:Int)
    ·rw[if_pos a6]at H
     have c10b0:decide (I<(l1.length:Int))=true:=decide_eq_true a6;clear a6;by_cases bl:0≤I
     ·rw[if_pos bl]at H
      have c11b0:decide (0≤I)=true:=decide_eq_true bl;clear bl;by_cases a7:(rd l1 I)<0
      ·rw[if_pos a7]at H
       have c12b0:decide ((rd l1 I)<0)=true:=decide_eq_true a7;clear a7;simp only[Option.some.injEq,Prod.mk.injEq]at H;obtain⟨rfl,rfl,rfl,rfl⟩:=H
       try go_wp2
       replace D:=aK (blk_drew D.out);replace G:=aK (blk_drew G.out);replace HB:=aK (below_drew1 HB.out);have ao:0≤(I:Int):=of_decide_eq_true asE;have ap:I<(l1.length:Int):=of_decide_eq_true asE;obtain⟨an,a1,J⟩:=Kd.at_int bi.out I ao ap;have ai:=J
       cases a1
       replace J:=(HB.out.cell (World.block_lt_of_cell? w _ J)).trans J;replace ao:=eq_true ao;replace ap:=eq_true ap;refine start_ (n:=14) (S:=fun w'=>w'.cell? (an.add (I).toNat)=some (.int .i64 (rd l1 I))) (ds:= []) (.replicate 14 false) zb rfl rfl (((HB.out.cell (World.block_lt_of_cell? w _ ai)).trans ai)) (fun hHeld=>?_);refine with_tabW recoupref03_Pick.tab6 recoupref03_Pick.bits6 (fun HT_ HW_=>?_);generalize wr.drew=fw at D G HB J hHeld⊢;refine pu 0 (some 21) (mB 14 1) HT_ ?_;refine pu 1 (some 22) (mB 14 3) HT_ ?_;refine pu 2 (some 23) (mB 14 7) HT_ ?_;refine tk1 3 (some 24) (mB 14 15) HT_ HW_ hHeld ?_;refine pu 4 (some 25) (mB 14 31) HT_ ?_;refine pu 5 (some 26) (mB 14 63) HT_ ?_;refine zpo 6 (some 27) (mB 14 127) HT_ ?_;refine zpo 7 (some 28) (mB 14 255) HT_ ?_;refine zpo 8 (some 29) (mB 14 511) HT_ ?_;refine zpo 9 (some 30) (mB 14 1023) HT_ ?_;refine zpo 10 (some 31) (mB 14 2047) HT_ ?_;refine zpo 11 (some 32) (mB 14 4095) HT_ ?_;refine zpo 12 (some 33) (mB 14 8191) HT_ ?_;refine pu 13 (some 34) (mB 14 16383) HT_ ?_;refine done_ (done_of HT_.out zb) ?_;have eo:=ac.out;have e1:=ab.out;obtain⟨bo,bp,bq,b4,b5,b6⟩:=cell3 G
       try go_wp2
       refine bodyPost_ret (results_ct rfl _ _ ak 24 #[.int .i64 0,.int .i64 0,.slice none 0 0] (0,0) _ rfl zw Tryd.underlying24 rfl zb) rfl ?_;exact⟨_,rfE,nilE,hbA HB.out⟩
      ·rw[if_neg a7]at H
       have c12b0:decide ((rd l1 I)<0)=false:=decide_eq_false a7;clear a7;by_cases a8:(rd l1 I)≥Y
       ·rw[if_pos a8]at H
        have c16b0:decide (Y≤(rd l1 I))=true:=decide_eq_true a8;clear a8;simp only[Option.some.injEq,Prod.mk.injEq]at H;obtain⟨rfl,rfl,rfl,rfl⟩:=H
        try go_wp2
        replace D:=aK (blk_drew D.out);replace G:=aK (blk_drew G.out);replace HB:=aK (below_drew1 HB.out);have ao:0≤(I:Int):=of_decide_eq_true asE;have ap:I<(l1.length:Int):=of_decide_eq_true asE;obtain⟨an,a1,J⟩:=Kd.at_int bi.out I ao ap;have ai:=J
        cases a1
        replace J:=(HB.out.cell (World.block_lt_of_cell? w _ J)).trans J;replace ao:=eq_true ao;replace ap:=eq_true ap;have ay:0≤(I:Int):=of_decide_eq_true asE;have az:I<(l1.length:Int):=of_decide_eq_true asE;obtain⟨a5,bm,X⟩:=Kd.at_int bi.out I ay az;have aq:=X;obtain rfl:an=a5:=(by injection bm)
        replace X:=(HB.out.cell (World.block_lt_of_cell? w _ X)).trans X;replace ay:=eq_true ay;replace az:=eq_true az;refine start_ (n:=14) (S:=fun w'=>w'.cell? ⟨ah,0,none⟩=some (.int .i64 Y)∧w'.cell? ⟨ah,1,none⟩=some (.int .i64 O)∧w'.cell? ⟨ah,2,none⟩=some (.slice al Z.length am)∧w'.cell? (an.add (I).toNat)=some (.int .i64 (rd l1 I))∧w'.cell? (an.add (I).toNat)=some (.int .i64 (rd l1 I))) (ds:= []) (.replicate 14 false) zb rfl rfl ⟨(blk_cell D.out 0).trans rfl,(blk_cell D.out 1).trans rfl,(blk_cell D.out 2).trans rfl,((HB.out.cell (World.block_lt_of_cell? w _ ai)).trans ai),((HB.out.cell (World.block_lt_of_cell? w _ aq)).trans aq)⟩ (fun hHeld=>?_);refine with_tabW recoupref03_Pick.tab6 recoupref03_Pick.bits6 (fun HT_ HW_=>?_);generalize wr.drew=fx at D G HB J X hHeld⊢;refine pu 0 (some 21) (mB 14 1) HT_ ?_;refine pu 1 (some 22) (mB 14 3) HT_ ?_;refine pu 2 (some 23) (mB 14 7) HT_ ?_;refine tk5 3 (some 24) (mB 14 15) HT_ HW_ hHeld ?_;refine pu 4 (some 25) (mB 14 31) HT_ ?_;refine pu 5 (some 26) (mB 14 63) HT_ ?_;refine pu 6 (some 27) (mB 14 127) HT_ ?_;refine pu 7 (some 28) (mB 14 255) HT_ ?_;refine pu 8 (some 29) (mB 14 511) HT_ ?_;refine pu 10 (some 31) (mB 14 1535) HT_ ?_;refine tk5 9 (some 30) (mB 14 2047) HT_ HW_ hHeld ?_;refine tk5 11 (some 32) (mB 14 4095) HT_ HW_ hHeld ?_;refine pu 12 (some 33) (mB 14 8191) HT_ ?_;refine pu 13 (some 34) (mB 14 16383) HT_ ?_;refine done_ (done_of HT_.out zb) ?_;have ep:=ac.out;have e2:=ab.out;obtain⟨br,bs,bt,b7,b8,b9⟩:=cell3 G
        try go_wp2
        refine bodyPost_ret (results_ct rfl _ _ ak 24 #[.int .i64 0,.int .i64 0,.slice none 0 0] (0,0) _ rfl zw Tryd.underlying24 rfl zb) rfl ?_;exact⟨_,rfE,nilE,hbA HB.out⟩
       ·rw[if_neg a8]at H
        have c16b0:decide (Y≤(rd l1 I))=false:=decide_eq_false a8;clear a8;have H':=aK H;clear H
        try go_wp2
        replace D:=aK (blk_drew D.out);replace G:=aK (blk_drew G.out);replace HB:=aK (below_drew1 HB.out);have ao:0≤(I:Int):=of_decide_eq_true asE;have ap:I<(l1.length:Int):=of_decide_eq_true asE;obtain⟨an,a1,J⟩:=Kd.at_int bi.out I ao ap;have ai:=J
        cases a1
        replace J:=(HB.out.cell (World.block_lt_of_cell? w _ J)).trans J;replace ao:=eq_true ao;replace ap:=eq_true ap;have ay:0≤(I:Int):=of_decide_eq_true asE;have az:I<(l1.length:Int):=of_decide_eq_true asE;obtain⟨a5,bm,X⟩:=Kd.at_int bi.out I ay az;have aq:=X;obtain rfl:an=a5:=(by injection bm)
        replace X:=(HB.out.cell (World.block_lt_of_cell? w _ X)).trans X;replace ay:=eq_true ay;replace az:=eq_true az;refine start_ (n:=14) (S:=fun w'=>w'.cell? ⟨ah,0,none⟩=some (.int .i64 Y)∧w'.cell? ⟨ah,1,none⟩=some (.int .i64 O)∧w'.cell? ⟨ah,2,none⟩=some (.slice al Z.length am)∧w'.cell? (an.add (I).toNat)=some (.int .i64 (rd l1 I))∧w'.cell? (an.add (I).toNat)=some (.int .i64 (rd l1 I))) (ds:= []) (.replicate 14 false) zb rfl rfl ⟨(blk_cell D.out 0).trans rfl,(blk_cell D.out 1).trans rfl,(blk_cell D.out 2).trans rfl,((HB.out.cell (World.block_lt_of_cell? w _ ai)).trans ai),((HB.out.cell (World.block_lt_of_cell? w _ aq)).trans aq)⟩ (fun hHeld=>?_);refine with_tabW recoupref03_Pick.tab6 recoupref03_Pick.bits6 (fun HT_ HW_=>?_);generalize wr.drew=fy at D G HB J X hHeld⊢;refine pu 0 (some 21) (mB 14 1) HT_ ?_;refine pu 1 (some 22) (mB 14 3) HT_ ?_;refine pu 2 (some 23) (mB 14 7) HT_ ?_;refine tk5 3 (some 24) (mB 14 15) HT_ HW_ hHeld ?_;refine pu 4 (some 25) (mB 14 31) HT_ ?_;refine pu 5 (some 26) (mB 14 63) HT_ ?_;refine pu 6 (some 27) (mB 14 127) HT_ ?_;refine pu 7 (some 28) (mB 14 255) HT_ ?_;refine pu 8 (some 29) (mB 14 511) HT_ ?_;refine pu 10 (some 31) (mB 14 1535) HT_ ?_;refine tk5 9 (some 30) (mB 14 2047) HT_ HW_ hHeld ?_;refine tk5 11 (some 32) (mB 14 4095) HT_ HW_ hHeld ?_;refine pu 12 (some 33) (mB 14 8191) HT_ ?_;refine pu 13 (some 34) (mB 14 16383) HT_ ?_;refine done_ (done_of HT_.out zb) ?_
        try go_wp2
        go_roundg k1
        case measure=>have:=co.out;omega
        case rel=>exact⟨(wrap64 (I+1)),(U),(L),rsE,H',⟨by have:=co.out;omega⟩,⟨bkA D.out⟩,⟨bkA G.out⟩,⟨hbA HB.out⟩⟩
     ·rw[if_neg bl]at H
      exact absurd H zd
    ·rw[if_neg a6]at H
     have c10b0:decide (I<(l1.length:Int))=false:=decide_eq_false a6;clear a6;by_cases a9:(l1.length:Int)>64
     ·rw[if_pos a9]at H
      have c21b0:decide (64<(l1.length:Int))=true:=decide_eq_true a9;have c21b1:decide (64<l1.length)=true:=decide_eq_true za;clear a9;simp only[Option.some.injEq,Prod.mk.injEq]at H;obtain⟨rfl,rfl,rfl,rfl⟩:=H;have er:=ac.out;have e3:=ab.out;obtain⟨bu,bv,bw,ca,cb,cd⟩:=cell3 G;go_wp2;refine bodyPost_ret (results_ct rfl _ _ ak 24 #[.int .i64 0,.int .i64 0,.slice none 0 0] (0,0) _ rfl zw Tryd.underlying24 rfl zb) rfl ?_;exact⟨_,rfE,nilE,hbA HB.out⟩
     ·rw[if_neg a9]at H
      have c21b0:decide (64<(l1.length:Int))=false:=decide_eq_false a9;have c21b1:decide (64<l1.length)=false:=decide_eq_false za;clear a9;have H':=aK H;clear H;have es:=ab.out;have e4:=ac.out;obtain⟨bx,bz,b0,ce,cf,cg⟩:=cell3 D
      go_wp2_with (first|((with_reducible refine gD 7 rfl ?_);refine bE 7 #[.int .i64 0,.int .i64 0,.slice none 0 0] 24 ?_;intro ba hg fz hbox hb;have aa:=aK (hbox);have en:=hbS HB hg;have em:=hbS HB hg;replace HB:=hbB HB hb;have af:=neL D hg;have au:=neG D hg;replace D:=bkB D hb;have ag:=neL G hg;have av:=neG G hg;replace G:=bkB G hb;clear hb hbox hg;have et:=au.out;have e5:=af.out;have eu:=av.out;have e6:=ag.out;obtain⟨b1,b2,b3,ch,ci,cj⟩:=cell3 aa))
      go_loopg [8] k1 (fun kq v8 w'=> ∃(aj:Int) (ae:List Int) (u224002:Value),v8= .int .i64 aj∧Aside0 (recoupref03_Pick.l1 kq l1 aj Y O Z (l1.length:Int) O ae=some (r1,r2,r3,r4))∧Aside0 (kq≤k1)∧Aside0 (Kd.R (Kd.int .u8) 5 w' w.heap.size (fun _=>True) u224002 ae)∧Aside0 (w'.heap[ah]? =some (.cells #[.int .i64 Y,.int .i64 O,(.slice al Z.length am)] 24 (0,0)))∧Aside0 (w'.heap[ak]? =some (.cells #[.int .i64 U,.int .i64 L,(.slice none 0 0)] 24 (0,0)))∧Aside0 (w'.heap[ba]? =some (.cells #[.int .i64 (l1.length:Int),.int .i64 O,u224002] 24 (0,0)))∧Aside0 (Below w.heap.size w w'))
      case atStart=>exact⟨(0),(([]:List Int)),(.slice none 0 0),rsE,H',⟨Nat.le_refl _⟩,⟨nilE⟩,⟨by refine bkR ?_;refine blk_far ?_ af.out _;refine bkR ?_;refine blk_far ?_ af.out _;refine bkR ?_;refine blk_far ?_ af.out _;refine bkR ?_;exact D.out⟩,⟨by refine bkR ?_;refine blk_far ?_ ag.out _;refine bkR ?_;refine blk_far ?_ ag.out _;refine bkR ?_;refine blk_far ?_ ag.out _;refine bkR ?_;exact G.out⟩,⟨by refine bkR ?_;refine blk_put (cs:= #[.int .i64 (l1.length:Int),.int .i64 O,.slice none 0 0]) ?_ 2 _ rfl;refine bkR ?_;refine blk_put (cs:= #[.int .i64 (l1.length:Int),.int .i64 0,.slice none 0 0]) ?_ 1 _ rfl;refine bkR ?_;refine blk_put (cs:= #[.int .i64 0,.int .i64 0,.slice none 0 0]) ?_ 0 _ rfl;refine bkR ?_;exact aa.out⟩,⟨hbA HB.out⟩⟩
      case round=>
       clear H'
       (try clear c1);(try clear c2);(try clear p2 p2);(try clear q2);(try clear ft);(try clear c4);(try clear p6);(try clear c7);(try clear a6);(try clear c10b0);(try clear bl);(try clear c11b0);(try clear a7);(try clear c12b0);(try clear fk);(try clear a8);(try clear c16b0);(try clear fl);(try clear a9);(try clear c21b0);(try clear c21b1);(try clear fm);(try clear fu);(try clear fv);(try clear fg);(try clear fo);(try clear fp);(try clear fq);(try clear bo bp bq b4 b5 b6);(try clear br bs bt b7 b8 b9);(try clear bu bv bw ca cb cd);(try clear bx bz b0 ce cf cg);(try clear b1 b2 b3 ch ci cj);(try clear bb bc bd be bf bg);(try clear J);(try clear X);(try clear ao);(try clear ay);(try clear ap);(try clear az)
       obtain⟨aj,ae,u224002,rfl,HA,da,HO_224002,D,G,aa,HB⟩:=hrel
       cases gk with
       |zero=>exact absurd HA.out (by simp[recoupref03_Pick.l1])
       |succ k2=>
        have H:=HA.out;clear HA;simp only[recoupref03_Pick.l1]at H;by_cases bj:aj<(l1.length:Int)
        ·rw[if_pos bj]at H
         have c30b0:decide (aj<(l1.length:Int))=true:=decide_eq_true bj;clear bj;by_cases cp:0≤aj
         ·rw[if_pos cp]at H
          have c31b0:decide (0≤aj)=true:=decide_eq_true cp;clear cp;obtain⟨⟨a2,ek⟩,el,H⟩:=bindO H
          (try dsimp only at H)
          by_cases cq:ae.length+a2.length<140737488355328
          ·rw[if_pos cq]at H
           have c3:=aK cq;clear cq;obtain⟨bh,a0⟩: ∃y_:List Int,y_=(ae++a2):=⟨_,rfl⟩
           replace H:(recoupref03_Pick.l1 k2 l1 (wrap64 (aj+1)) Y O Z (l1.length:Int) O bh)=some (r1,r2,r3,r4):=by first|(rw[a0];with_reducible exact H)|(have H2_:=(Option.bind_some _ _).symm.trans H;rw[a0];with_reducible exact H2_)|(have H2_:=(Option.bind_some _ _).symm.trans H;with_reducible exact H2_)|with_reducible exact H|(rw[a0];exact H)|exact H
           have c5:=aK a0;clear a0;have H':=aK H;clear H
           try go_wp2
           replace HO_224002:=aK (Kd.R_drew HO_224002.out);replace D:=aK (blk_drew D.out);replace G:=aK (blk_drew G.out);replace aa:=aK (blk_drew aa.out);replace HB:=aK (below_drew1 HB.out);have cl:0≤(aj:Int):=of_decide_eq_true asE;have cm:aj<(l1.length:Int):=of_decide_eq_true asE;obtain⟨c6,dc,ar⟩:=Kd.at_int bi.out aj cl cm;have aw:=ar
           cases dc
           replace ar:=(HB.out.cell (World.block_lt_of_cell? w _ ar)).trans ar;replace cl:=eq_true cl;replace cm:=eq_true cm;refine start_ (n:=11) (S:=fun w'=>w'.cell? ⟨ah,0,none⟩=some (.int .i64 Y)∧w'.cell? ⟨ah,1,none⟩=some (.int .i64 O)∧w'.cell? ⟨ah,2,none⟩=some (.slice al Z.length am)∧w'.cell? (c6.add (aj).toNat)=some (.int .i64 (rd l1 aj))) (ds:= []) (.replicate 11 false) zb rfl rfl ⟨(blk_cell D.out 0).trans rfl,(blk_cell D.out 1).trans rfl,(blk_cell D.out 2).trans rfl,((HB.out.cell (World.block_lt_of_cell? w _ aw)).trans aw)⟩ (fun hHeld=>?_);refine with_tabW recoupref03_Pick.tab14 recoupref03_Pick.bits14 (fun HT_ HW_=>?_);generalize wr.drew=f0 at HO_224002 D G aa HB ar hHeld⊢;refine pu 1 (some 53) (mB 11 2) HT_ ?_;refine pu 2 (some 54) (mB 11 6) HT_ ?_;refine pu 3 (some 55) (mB 11 14) HT_ ?_;refine tk4 0 (some 52) (mB 11 15) HT_ HW_ hHeld ?_;refine tk4 4 (some 56) (mB 11 31) HT_ HW_ hHeld ?_;refine zoh 5 (some 57) (mB 11 63) HT_ fun K hK=>?_;refine goes_ Tryd.func21 zb rfl #[.agg #[.int .i64 Y,.int .i64 O,.slice al Z.length am],.int .i64 (rd l1 aj)] ze rfl rfl (by(try simp only[List.map_toArray,List.map_cons,List.map_nil]);first|done|rfl|(simp only[List.length_drop,List.length_take];rfl)) ?_;with_reducible refine(recoupref03_Row.calls k2 Y O _ _ Z (rd l1 aj) a2 ek _ ?side1 ?side2 el.out).mono ?_
           (case side1=>exact kcB a4 HB)
           (case side2=>exact a3.out)
           rintro e f1 ⟨fh,rfl,c8,hb⟩;refine⟨_,rfl,?_⟩;have ax:=aK (Kd.R_lower (Kd.R_new' c8 (Kd.R_lt (kdA HO_224002.out))) (below_size (hbA HB.out)));replace HO_224002:=aK (Kd.R_elder' (kdA HO_224002.out) (Kd.R_base c8) hb);replace D:=bkB D hb;replace G:=bkB G hb;replace aa:=bkB aa hb;replace HB:=hbB HB hb
           (try clear hb)
           (try clear fs)
           (try clear hk)
           (try clear hi)
           (try clear c8)
           refine hK.out _ _ ⟨(blk_cell D.out 0).trans rfl,(blk_cell D.out 1).trans rfl,(blk_cell D.out 2).trans rfl,((HB.out.cell (World.block_lt_of_cell? w _ aw)).trans aw)⟩ (fun hHeld=>?_);clear hK K;refine znm (some 57) ?_;refine pu 6 (some 51) (mB 11 127) HT_ ?_;refine pu 7 (some 58) (mB 11 255) HT_ ?_;refine pu 8 (some 59) (mB 11 511) HT_ ?_;refine pu 9 (some 9) (mB 11 1023) HT_ ?_;refine pu 10 (some 10) (mB 11 2047) HT_ ?_;refine done_ (done_of HT_.out zb) ?_;have ev:=au.out;have e7:=af.out;have ew:=av.out;have e8:=ag.out;obtain⟨dh,di,dj,d1,d2,d3⟩:=cell3 aa;obtain⟨c9,db,dd⟩:=Kd.R_slice ax.out;subst dd
           try go_wp2_with (first|((with_reducible refine gate_builtin (b:= .append) (xs:= #[.tmp 61,.tmp 62]) rfl ?_);at_builtin;refine Kd.R_append_rows (Kd.int .u8) (w0:=w) w.heap.size rfl (.tmp 61) (.tmp 62) 22 5 (.int .u8 0) 1 rfl Tryd.underlying22 info5 rfl zc za u224002 ae a2 _ _ _ (fun k_=>some k_≠(.slice c9 a2.length db:Value).ownBlock) (fun _=>False) rfl rfl ?aO ?aR (fun _ _ h=>h) (fun _ h=>h.elim) ?aF ?aB ?aS ?aL ?_;(case aR=>exact kcA (Kd.R_reads' ax.out).2.2);(case aB=>exact(hbA HB.out));(case aF=>exact(fun k_ hk=>Kd.fresh' (Kd.R_lt (kdA ax.out)) k_ hk));(case aO=>exact(by(with_reducible repeat(first|apply Kd.R_alloc|apply Kd.R_drewN|apply Kd.R_drew));exact Kd.R_mono HO_224002.out (fun _ hk=>hk.2)));(case aS=>exact(below_size (hbA HB.out)));(case aL=>have:=c3.out;omega);intro fi f2 ho hb hg hat;rw[←c5.out]at ho;have n0_:=aK (blk_grown (g:=ah) (o:= .cells #[.int .i64 Y,.int .i64 O,.slice al Z.length am] 24 (0,0)) (bkA D.out) hg (Kd.R_ne HO_224002.out D.out zc));have n1_:=aK (blk_grown (g:=ak) (o:= .cells #[.int .i64 U,.int .i64 L,.slice none 0 0] 24 (0,0)) (bkA G.out) hg (Kd.R_ne HO_224002.out G.out zc));have n2_:=aK (blk_grown (g:=ba) (o:= .cells #[.int .i64 (l1.length:Int),.int .i64 O,u224002] 24 (0,0)) (bkA aa.out) hg (Kd.R_ne HO_224002.out aa.out zc));have n3_:=aK (Kd.R_after (ok:=(fun _=>True)) (kdA ax.out) hg hat);have n4_:=aK (hb);have n5_:=aK (ho);clear D;clear G;clear aa;clear ax;clear HB;clear HO_224002;have D:=n0_;have G:=n1_;have aa:=n2_;have ax:=n3_;have HB:=n4_;have bk:=n5_;clear n0_ n1_ n2_ n3_ n4_ n5_;clear ho hb hg hat;obtain⟨cr,cu,de⟩:=Kd.R_slice bk.out;subst de;obtain⟨dk,dl,dm,d4,d5,d6⟩:=cell3 aa))
           go_roundg k2
           case measure=>have:=co.out;have:=da.out;omega
           case rel=>exact⟨(wrap64 (aj+1)),(bh),(.slice cr bh.length cu),rsE,H',⟨by have:=co.out;have:=da.out;omega⟩,⟨by(with_reducible repeat(first|apply Kd.R_alloc|apply Kd.R_drewN|apply Kd.R_drew));exact Kd.R_mono (Kd.R_far (p:=⟨ba,2,none⟩) (Kd.R_types bk.out aa.out zc) (fun _ hk=>hk.2) (.slice cr bh.length cu)) (fun _ hk=>trivial)⟩,⟨by refine bkR ?_;refine blk_far ?_ af.out _;refine bkR ?_;exact D.out⟩,⟨by refine bkR ?_;refine blk_far ?_ ag.out _;refine bkR ?_;exact G.out⟩,⟨by refine bkR ?_;refine blk_put (cs:= #[.int .i64 (l1.length:Int),.int .i64 O,u224002]) ?_ 2 _ rfl;refine bkR ?_;exact aa.out⟩,⟨hbA HB.out⟩⟩
          ·rw[if_neg cq]at H
           exact absurd H zd
         ·rw[if_neg cp]at H
          exact absurd H zd
        ·rw[if_neg bj]at H
         have c30b0:decide (aj<(l1.length:Int))=false:=decide_eq_false bj;clear bj;simp only[Option.some.injEq,Prod.mk.injEq]at H;obtain⟨rfl,rfl,rfl,rfl⟩:=H;have ex:=au.out;have e9:=af.out;have ey:=av.out;have fa:=ag.out;obtain⟨dn,dp,dq,d7,d8,d9⟩:=cell3 aa;have ez:=ac.out;have fb:=ab.out;obtain⟨dr,dt,du,ea,eb,ec⟩:=cell3 G;obtain⟨ct,cv,df⟩:=Kd.R_slice HO_224002.out;subst df;go_wp2;refine bodyPost_ret (results_ct rfl _ _ ak 24 #[.int .i64 (l1.length:Int),.int .i64 O,.slice ct ae.length cv] (0,0) _ rfl (by refine bkR ?_;refine blk_put (cs:= #[.int .i64 (l1.length:Int),.int .i64 O,.slice none 0 0]) ?_ 2 _ rfl;refine bkR ?_;refine blk_put (cs:= #[.int .i64 (l1.length:Int),.int .i64 L,.slice none 0 0]) ?_ 1 _ rfl;refine bkR ?_;refine blk_put (cs:= #[.int .i64 U,.int .i64 L,.slice none 0 0]) ?_ 0 _ rfl;refine bkR ?_;exact G.out) Tryd.underlying24 rfl zb) rfl ?_;exact⟨_,rfE,by(with_reducible repeat(first|apply Kd.R_alloc|apply Kd.R_drewN|apply Kd.R_drew));exact Kd.R_mono (Kd.R_far (p:=⟨ak,2,none⟩) (Kd.R_far (p:=⟨ak,1,none⟩) (Kd.R_far (p:=⟨ak,0,none⟩) (Kd.R_types HO_224002.out G.out zc) (fun _ hk=>hk.2) (.int .i64 (l1.length:Int))) (fun _ hk=>hk.2) (.int .i64 O)) (fun _ hk=>hk.2) (.slice ct ae.length cv)) (fun _ hk=>trivial),hbA HB.out⟩
 ·replace c4:=Bool.eq_false_iff.mpr c4;subst c4;rw[if_neg nofT]at H
  simp only[Option.some.injEq,Prod.mk.injEq]at H;obtain⟨rfl,rfl,rfl,rfl⟩:=H
  go_enter Tryd.func43,Tryd.ntmps43
  go_wp2_with (first|((with_reducible refine gD 2 rfl ?_);refine bE 2 #[.int .i64 Y,.int .i64 O,.slice al Z.length am] 24 ?_;intro ah hg f3 hbox hb;have D:=aK (hbox);have cy:=hbS HB hg;have cw:=hbS HB hg;replace HB:=hbB HB hb;clear hb hbox hg)|((with_reducible refine gD 4 rfl ?_);refine bE 4 #[.int .i64 0,.int .i64 0,.slice none 0 0] 24 ?_;intro ak hg f4 hbox hb;have G:=aK (hbox);have cz:=hbS HB hg;have cx:=hbS HB hg;replace HB:=hbB HB hb;have ab:=neL D hg;have ac:=neG D hg;replace D:=bkB D hb;clear hb hbox hg;have e0:=ab.out;have fc:=ac.out;obtain⟨dv,dw,dx,ed,ee,ef⟩:=cell3 D)|((with_reducible refine gC 45 rfl ?_);refine cG (some 12) Tryd.func45 #[.agg #[.int .i64 Y,.int .i64 O,.slice al Z.length am]] ?_;(with_reducible refine(recoupref03_Right.calls Y O _ _ Z false _ ?side1 ?side2 A3.out).mono ?_);(case side1=>exact kcB a4 HB);(case side2=>exact a3.out);rintro e f5 ⟨rfl,hb⟩;refine⟨_,rfl,?_⟩;replace D:=bkB D hb;replace G:=bkB G hb;replace HB:=hbB HB hb;(try clear hb);obtain⟨dy,dz,d0,eg,eh,ei⟩:=cell3 G))
  refine bodyPost_ret (results_ct rfl _ _ ak 24 #[.int .i64 0,.int .i64 0,.slice none 0 0] (0,0) _ rfl (by refine bkR ?_;refine blk_put (cs:= #[.int .i64 0,.int .i64 0,.slice none 0 0]) ?_ 2 _ rfl;refine bkR ?_;refine blk_put (cs:= #[.int .i64 0,.int .i64 0,.slice none 0 0]) ?_ 1 _ rfl;refine bkR ?_;refine blk_put (cs:= #[.int .i64 0,.int .i64 0,.slice none 0 0]) ?_ 0 _ rfl;refine bkR ?_;exact G.out) Tryd.underlying24 rfl zb) rfl ?_;exact⟨_,rfE,nilE,hbA HB.out⟩
end Go.Proofs.YtjgcocfnilhggaaDoor.Q
namespace Go.Proofs.YtjgcocfnilhggaaDoor.Q
open Go.RowKit Go.Proofs.YtjgcocfnilhggaaDoorW.PrintWords Go.Proofs.YtjgcocfnilhggaaDoorW.PrintLast Go.Proofs.YtjgcocfnilhggaaDoorW.PrintMore
attribute [local go_sem] max2_int min2_int max_two min_two max_three min_three max_four min_four
set_option linter.unusedVariables false
set_option linter.unusedSimpArgs false
def recoupref01_Copy.f(l0:List Int):Option (List Int):=(some (([]:List Int):List Int)).bind fun D=>(if D.length+l0.length<140737488355328 then(some (D++l0))else(none))
set_option maxHeartbeats 8000000 in
set_option maxRecDepth 100000 in
theorem recoupref01_Copy.calls(A0:Option Addr)(c0:Nat)(l0:List Int)(r:List Int)(w:World)(aa:Kd.C (Kd.int .u8) w A0 l0.length l0)(Z:l0.length≤c0)(h:recoupref01_Copy.f l0=some r):
 Calls Tryd.prog 51 #[.slice A0 l0.length c0] w fun e w'=> ∃v0_:Value,e= .returned (v0_)∧Kd.R (Kd.int .u8) 5 w' w.heap.size (fun _=>True) v0_ r∧Below w.heap.size w w':=by
 have ae:=aK aa;have ag:=aK Z;clear aa Z;have HB:=aK (Below.refl w.heap.size w);have H:((some (([]:List Int):List Int)).bind fun D=>(if D.length+l0.length<140737488355328 then(some (D++l0))else(none)))=some r:=h;clear h;obtain⟨D,G⟩: ∃y_:List Int,y_=(([]:List Int)):=⟨_,rfl⟩
 replace H:(if D.length+l0.length<140737488355328 then(some (D++l0))else(none))=some r:=by first|(rw[G];with_reducible exact H)|(have H2_:=(Option.bind_some _ _).symm.trans H;rw[G];with_reducible exact H2_)|(have H2_:=(Option.bind_some _ _).symm.trans H;with_reducible exact H2_)|with_reducible exact H|(rw[G];exact H)|exact H
 have L:=aK G;clear G;by_cases c2:D.length+l0.length<140737488355328
 ·rw[if_pos c2]at H
  have Y:=aK c2;clear c2;obtain⟨ac,I⟩: ∃y_:List Int,y_=(D++l0):=⟨_,rfl⟩
  replace H:(some ac)=some r:=by first|(rw[I];with_reducible exact H)|(have H2_:=(Option.bind_some _ _).symm.trans H;rw[I];with_reducible exact H2_)|(have H2_:=(Option.bind_some _ _).symm.trans H;with_reducible exact H2_)|with_reducible exact H|(rw[I];exact H)|exact H
  have X:=aK I;clear I;obtain rfl:=Option.some.inj H
  go_enter Tryd.func51,Tryd.ntmps51
  go_wp2_with (first|((with_reducible refine gate_dst (N:=3) rfl ?_);refine Kd.R_lit (Kd.int .u8) _ 5 ?hg (N:=3) ?hd (xs:=([]:List Int)) (inner:= []) (ok:=fun _=>True) (okp:=fun _=>True) ?hr ?hp (fun _ hk=>hk) trivial (Below.refl _ _) (Nat.le_refl _) zd ?_;(case hd=>rfl);(case hg=>rfl);(case hr=>first|(go_simp;done)|(go_simp;rfl));(case hp=>exact(Reps.none _ _));intro ab w3 O hb hg_ hnew_;clear hg_ hnew_;(first|rw[←L.out]at O|(simp only[Int.reduceToNat]at O;rw[←L.out]at O));have J:=aK (Kd.R_lower O (below_size (hbA HB.out)));replace HB:=hbB HB hb;clear hb O)|((with_reducible refine gate_builtin (b:= .append) (xs:= #[.tmp 3,.tmp 4]) rfl ?_);at_builtin;refine Kd.R_append_rows (Kd.int .u8) (w0:=w) w.heap.size rfl (.tmp 3) (.tmp 4) 22 5 (.int .u8 0) 1 rfl Tryd.underlying22 info5 rfl zc za ab D l0 _ _ _ (fun _=>True) (fun _=>False) rfl rfl ?aO ?aR (fun _ _ h=>h) (fun _ h=>h.elim) ?aF ?aB ?aS ?aL ?_;(case aR=>exact kcB ae HB);(case aB=>exact(hbA HB.out));(case aF=>exact(fun _ _=>trivial));(case aO=>exact(kdA J.out));(case aS=>exact(below_size (hbA HB.out)));(case aL=>have:=Y.out;omega);intro af w5 ho hb hg hat;rw[←X.out]at ho;have n0_:=aK (hb);have n1_:=aK (ho);clear HB;clear J;have HB:=n0_;have U:=n1_;clear n0_ n1_;clear ho hb hg hat))
  go_ret
  exact⟨_,rfE,by(with_reducible repeat(first|apply Kd.R_alloc|apply Kd.R_drewN|apply Kd.R_drew));exact U.out,hbA HB.out⟩
 ·rw[if_neg c2]at H
  exact absurd H zd
def recoupref03_Copy.f(D:Int)(G:Int)(I:List Int):Option (Int×Int×List Int):=(recoupref01_Copy.f I).bind fun J=>(some (D,G,J))
set_option maxHeartbeats 8000000 in
set_option maxRecDepth 100000 in
theorem recoupref03_Copy.calls(I:Int)(O:Int)(Z:Option Addr)(aa:Nat)(G:List Int)(r1:Int)(r2:Int)(r3:List Int)(w:World)(ae:Kd.C (Kd.int .u8) w Z G.length G)(ac:G.length≤aa)(h:recoupref03_Copy.f I O G=some (r1,r2,r3)):
 Calls Tryd.prog 24 #[.agg #[.int .i64 I,.int .i64 O,.slice Z G.length aa]] w fun e w'=> ∃v2_:Value,e= .returned (.agg #[.int .i64 r1,.int .i64 r2,v2_])∧Kd.R (Kd.int .u8) 5 w' w.heap.size (fun _=>True) v2_ r3∧Below w.heap.size w w':=by
 have bc:=Tryd.underlying24;have ah:=aK ae;have ag:=aK ac;clear ae ac;have HB:=aK (Below.refl w.heap.size w);have H:((recoupref01_Copy.f G).bind fun U=>(some (I,O,U)))=some (r1,r2,r3):=h;clear h;obtain⟨U,A2,H⟩:=bindO H
 (try dsimp only at H)
 simp only[Option.some.injEq,Prod.mk.injEq]at H;obtain⟨rfl,rfl,rfl⟩:=H
 go_enter Tryd.func24,Tryd.ntmps24
 go_wp2_with (first|((with_reducible refine gD 1 rfl ?_);refine bE 1 #[.int .i64 I,.int .i64 O,.slice Z G.length aa] 24 ?_;intro aj hg w3 hbox hb;have D:=aK (hbox);have a7:=hbS HB hg;have a5:=hbS HB hg;replace HB:=hbB HB hb;clear hb hbox hg)|((with_reducible refine gD 2 rfl ?_);refine bE 2 #[.int .i64 0,.int .i64 0,.slice none 0 0] 24 ?_;intro X hg w4 hbox hb;have J:=aK (hbox);have a8:=hbS HB hg;have a6:=hbS HB hg;replace HB:=hbB HB hb;have Y:=neL D hg;have L:=neG D hg;replace D:=bkB D hb;clear hb hbox hg;have ba:=Y.out;have bb:=L.out;obtain⟨ar,au,av,az,a0,a1⟩:=cell3 D)|((with_reducible refine gC 51 rfl ?_);refine cG (some 5) Tryd.func51 #[.slice Z G.length aa] ?_;(with_reducible refine(recoupref01_Copy.calls _ _ G U _ ?side1 ?side2 A2.out).mono ?_);(case side1=>exact kcB ah HB);(case side2=>exact ag.out);rintro e w7 ⟨bd,rfl,aq,hb⟩;refine⟨_,rfl,?_⟩;have ab:=aK (Kd.R_lower aq (below_size (hbA HB.out)));replace D:=bkB D hb;replace J:=bkB J hb;replace HB:=hbB HB hb;(try clear hb);(try clear aq);obtain⟨af,ai,a9⟩:=Kd.R_slice ab.out;subst a9;obtain⟨aw,ax,ay,a2,a3,a4⟩:=cell3 D;obtain⟨ak,al,am,an,ao,ap⟩:=cell3 J))
 refine bodyPost_ret (results_cell_row rfl _ _ X 24 #[.int .i64 I,.int .i64 O,.slice af U.length ai] (0,0) _ rfl (by refine bkR ?_;refine blk_put (cs:= #[.int .i64 I,.int .i64 O,.slice none 0 0]) ?_ 2 _ rfl;refine bkR ?_;refine blk_put (cs:= #[.int .i64 I,.int .i64 0,.slice none 0 0]) ?_ 1 _ rfl;refine bkR ?_;refine blk_put (cs:= #[.int .i64 0,.int .i64 0,.slice none 0 0]) ?_ 0 _ rfl;refine bkR ?_;refine blk_far ?_ L.out _;refine bkR ?_;exact J.out) Tryd.underlying24 rfl zb) rfl ?_;exact⟨_,rfE,by(with_reducible repeat(first|apply Kd.R_alloc|apply Kd.R_drewN|apply Kd.R_drew));exact Kd.R_mono (Kd.R_far (p:=⟨X,2,none⟩) (Kd.R_far (p:=⟨X,1,none⟩) (Kd.R_far (p:=⟨X,0,none⟩) (Kd.R_far (p:=⟨aj,2,none⟩) (Kd.R_types (Kd.R_types ab.out D.out zc) J.out zc) (fun _ hk=>hk.1.2) (.slice af U.length ai)) (fun _ hk=>hk.2) (.int .i64 I)) (fun _ hk=>hk.2) (.int .i64 O)) (fun _ hk=>hk.2) (.slice af U.length ai)) (fun _ hk=>trivial),hbA HB.out⟩
mutual
def recoupref01_Mul.l0:Nat→Int→Int→Int→Int→Option (Int)
 |0,_,_,_,_=>none
 |k+1,x0,x1,x5,x6=>if x6<8 then(if 0≤(IntKind.u64.wrap (x6))then(if(Go.bits .and .u8 (shr .u8 x1 (IntKind.u64.wrap (x6))) 1)=1 then(recoupref01_Mul.l0 k x0 x1 (Go.bits .xor .i64 x5 (shl .i64 (wrap64 (x0)) (IntKind.u64.wrap (x6)))) (wrap64 (x6+1)))else(recoupref01_Mul.l0 k x0 x1 x5 (wrap64 (x6+1))))else(none))else(recoupref01_Mul.l1 k x5 14)
def recoupref01_Mul.l1:Nat→Int→Int→Option (Int)
 |0,_,_=>none
 |k+1,x5,x7=>if x7≥8 then(if 0≤(IntKind.u64.wrap (x7))then(if(Go.bits .and .i64 (shr .i64 x5 (IntKind.u64.wrap (x7))) 1)=1 then(if 0≤(IntKind.u64.wrap (wrap64 (x7-8)))then(recoupref01_Mul.l1 k (Go.bits .xor .i64 x5 (shl .i64 285 (IntKind.u64.wrap (wrap64 (x7-8))))) (wrap64 (x7-1)))else(none))else(recoupref01_Mul.l1 k x5 (wrap64 (x7-1))))else(none))else(some ((x5) % 256))
end
def recoupref01_Mul.f(k:Nat)(a0:Int)(a1:Int):Option (Int):=recoupref01_Mul.l0 k a0 a1 0 0
set_option maxHeartbeats 8000000 in
set_option maxRecDepth 100000 in
theorem recoupref01_Mul.calls(k:Nat)(a0:Int)(a1:Int)(r:Int)(w:World)(h:recoupref01_Mul.f k a0 a1=some r):
 Calls Tryd.prog 78 #[.int .u8 a0,.int .u8 a1] w fun e w'=>e= .returned (.int .u8 r)∧Drawn0 w w':=by
 have H:(recoupref01_Mul.l0 k a0 a1 0 0)=some r:=h;clear h;have H':=aK H;clear H
 go_enter Tryd.func78,Tryd.ntmps78
 go_wp2
 go_loopg [5,6] k (fun kq v5 v6 w'=> ∃(O:Int) (I:Int),v5= .int .i64 O∧v6= .int .i64 I∧Aside0 (recoupref01_Mul.l0 kq a0 a1 O I=some r)∧Aside0 (kq≤k)∧Drawn0 w w')
 case atStart=>exact⟨(0),(0),rsE,rsE,H',⟨Nat.le_refl _⟩,by repeat(first|exact Drawn0.refl _|apply Drawn0.step)⟩
 case round=>
  clear H'
  (try clear p2)
  obtain⟨O,I,rfl,rfl,HA,ab,⟨m1,rfl⟩⟩:=hrel
  cases gk with
  |zero=>exact absurd HA.out (by simp[recoupref01_Mul.l0])
  |succ k1=>
   have H:=HA.out;clear HA;simp only[recoupref01_Mul.l0]at H;by_cases c3:I<8
   ·rw[if_pos c3]at H
    have c3b0:decide (I<8)=true:=decide_eq_true c3;clear c3;obtain⟨J,ao⟩: ∃j_:Int,(IntKind.u64.wrap (I))=j_:=⟨_,rfl⟩
    replace H:(if 0≤(J)then(if(Go.bits .and .u8 (shr .u8 a1 (J)) 1)=1 then(recoupref01_Mul.l0 k1 a0 a1 (Go.bits .xor .i64 O (shl .i64 (wrap64 (a0)) (J))) (wrap64 (I+1)))else(recoupref01_Mul.l0 k1 a0 a1 O (wrap64 (I+1))))else(none))=some r:=by first|(rw[ao]at H;exact H)|(simp only[ao]at H⊢;exact H)
    by_cases c5:0≤(J)
    ·rw[if_pos c5]at H
     have c5b0:=eq_true c5;have c5b1:decide (0≤(J))=true:=decide_eq_true c5;clear c5;obtain⟨ae,ag⟩: ∃j_:Int,(shr .u8 a1 (J))=j_:=⟨_,rfl⟩
     replace H:(if(Go.bits .and .u8 (ae) 1)=1 then(recoupref01_Mul.l0 k1 a0 a1 (Go.bits .xor .i64 O (shl .i64 (wrap64 (a0)) (J))) (wrap64 (I+1)))else(recoupref01_Mul.l0 k1 a0 a1 O (wrap64 (I+1))))=some r:=by first|(rw[ag]at H;exact H)|(simp only[ag]at H⊢;exact H)
     have hji6_:(a1 / 2^min (J).toNat 8)=ae:=ag;have hji6z:(J)≤8→(a1 / 2^(J).toNat)=ae:=shr_small ag;by_cases c7:(Go.bits .and .u8 (ae) 1)=1
     ·rw[if_pos c7]at H
      have c7b0:((Go.bits .and .u8 (ae) 1)==1)=true:=beq_iff_eq.mpr c7;have c7b1:((Go.bits .and .u8 (ae) 1)!=1)=false:=bne_eq_false_iff_eq.mpr c7;clear c7;have c8b0:=eq_true (of_decide_eq_true asE:0≤(J));obtain⟨ai,ac⟩: ∃j_:Int,(shl .i64 (wrap64 (a0)) (J))=j_:=⟨_,rfl⟩
      replace H:(recoupref01_Mul.l0 k1 a0 a1 (Go.bits .xor .i64 O (ai)) (wrap64 (I+1)))=some r:=by first|(rw[ac]at H;exact H)|(simp only[ac]at H⊢;exact H)
      have hji9_:(IntKind.i64.wrap ((wrap64 (a0))*2^min (J).toNat 64))=ai:=ac;have hji9z:(J)≤64→(IntKind.i64.wrap ((wrap64 (a0))*2^(J).toNat))=ai:=shl_small ac;have hji9y:(wrap64 ((wrap64 (a0))*2^min (J).toNat 64))=ai:=(i64_w _).symm.trans hji9_;have hji9x:(J)≤64→(wrap64 ((wrap64 (a0))*2^(J).toNat))=ai:=fun h_=>(i64_w _).symm.trans (hji9z h_);have H':=aK H;clear H;go_wp2
      go_roundg k1
      case measure=>have:=ab.out;omega
      case rel=>exact⟨(Go.bits .xor .i64 O (ai)),(wrap64 (I+1)),(by first|rfl|(simp;done)|(simp only[←ac]<;>(first|rfl|simp))|(simp[*];done)),rsE,H',⟨by have:=ab.out;omega⟩,by repeat(first|exact Drawn0.refl _|apply Drawn0.step)⟩
     ·rw[if_neg c7]at H
      have c7b0:((Go.bits .and .u8 (ae) 1)==1)=false:=beq_eq_false_iff_ne.mpr c7;have c7b1:((Go.bits .and .u8 (ae) 1)!=1)=true:=bne_iff_ne.mpr c7;have H':=aK H;clear H;go_wp2
      go_roundg k1
      case measure=>have:=ab.out;omega
      case rel=>exact⟨(O),(wrap64 (I+1)),rsE,rsE,H',⟨by have:=ab.out;omega⟩,by repeat(first|exact Drawn0.refl _|apply Drawn0.step)⟩
    ·rw[if_neg c5]at H
     exact absurd H zd
   ·rw[if_neg c3]at H
    have c3b0:decide (I<8)=false:=decide_eq_false c3;clear c3;have H':=aK H;clear H;go_wp2
    go_loopg [5,7] k1 (fun kq v5 v7 w'=> ∃(G:Int) (D:Int),v5= .int .i64 G∧v7= .int .i64 D∧Aside0 (recoupref01_Mul.l1 kq G D=some r)∧Aside0 (kq≤k1)∧Drawn0 w w')
    case atStart=>exact⟨(O),(14),rsE,rsE,H',⟨Nat.le_refl _⟩,by repeat(first|exact Drawn0.refl _|apply Drawn0.step)⟩
    case round=>
     clear H'
     (try clear p2 p2);(try clear c3);(try clear c3b0);(try clear c5);(try clear c5b0);(try clear c5b1);(try clear p6);(try clear c7);(try clear c7b0);(try clear c7b1);(try clear c8);(try clear c8b0)
     obtain⟨G,D,rfl,rfl,HA,an,⟨m2,rfl⟩⟩:=hrel
     cases gk with
     |zero=>exact absurd HA.out (by simp[recoupref01_Mul.l1])
     |succ k2=>
      have H:=HA.out;clear HA;simp only[recoupref01_Mul.l1]at H;by_cases ah:D≥8
      ·rw[if_pos ah]at H
       have c10b0:decide (8≤D)=true:=decide_eq_true ah;clear ah;obtain⟨U,al⟩: ∃j_:Int,(IntKind.u64.wrap (D))=j_:=⟨_,rfl⟩
       replace H:(if 0≤(U)then(if(Go.bits .and .i64 (shr .i64 G (U)) 1)=1 then(if 0≤(IntKind.u64.wrap (wrap64 (D-8)))then(recoupref01_Mul.l1 k2 (Go.bits .xor .i64 G (shl .i64 285 (IntKind.u64.wrap (wrap64 (D-8))))) (wrap64 (D-1)))else(none))else(recoupref01_Mul.l1 k2 G (wrap64 (D-1))))else(none))=some r:=by first|(rw[al]at H;exact H)|(simp only[al]at H⊢;exact H)
       by_cases aj:0≤(U)
       ·rw[if_pos aj]at H
        have c12b0:=eq_true aj;have c12b1:decide (0≤(U))=true:=decide_eq_true aj;clear aj;obtain⟨X,aa⟩: ∃j_:Int,(shr .i64 G (U))=j_:=⟨_,rfl⟩
        replace H:(if(Go.bits .and .i64 (X) 1)=1 then(if 0≤(IntKind.u64.wrap (wrap64 (D-8)))then(recoupref01_Mul.l1 k2 (Go.bits .xor .i64 G (shl .i64 285 (IntKind.u64.wrap (wrap64 (D-8))))) (wrap64 (D-1)))else(none))else(recoupref01_Mul.l1 k2 G (wrap64 (D-1))))=some r:=by first|(rw[aa]at H;exact H)|(simp only[aa]at H⊢;exact H)
        have hji13_:(G / 2^min (U).toNat 64)=X:=aa;have hji13z:(U)≤64→(G / 2^(U).toNat)=X:=shr_small aa;by_cases af:(Go.bits .and .i64 (X) 1)=1
        ·rw[if_pos af]at H
         have c14b0:((Go.bits .and .i64 (X) 1)==1)=true:=beq_iff_eq.mpr af;have c14b1:((Go.bits .and .i64 (X) 1)!=1)=false:=bne_eq_false_iff_eq.mpr af;clear af;obtain⟨L,am⟩: ∃j_:Int,(IntKind.u64.wrap (wrap64 (D-8)))=j_:=⟨_,rfl⟩
         replace H:(if 0≤(L)then(recoupref01_Mul.l1 k2 (Go.bits .xor .i64 G (shl .i64 285 (L))) (wrap64 (D-1)))else(none))=some r:=by first|(rw[am]at H;exact H)|(simp only[am]at H⊢;exact H)
         by_cases ak:0≤(L)
         ·rw[if_pos ak]at H
          have c16b0:=eq_true ak;have c16b1:decide (0≤(L))=true:=decide_eq_true ak;clear ak;obtain⟨Z,Y⟩: ∃j_:Int,(shl .i64 285 (L))=j_:=⟨_,rfl⟩
          replace H:(recoupref01_Mul.l1 k2 (Go.bits .xor .i64 G (Z)) (wrap64 (D-1)))=some r:=by first|(rw[Y]at H;exact H)|(simp only[Y]at H⊢;exact H)
          have hji17_:(IntKind.i64.wrap (285*2^min (L).toNat 64))=Z:=Y;have hji17z:(L)≤64→(IntKind.i64.wrap (285*2^(L).toNat))=Z:=shl_small Y;have hji17y:(wrap64 (285*2^min (L).toNat 64))=Z:=(i64_w _).symm.trans hji17_;have hji17x:(L)≤64→(wrap64 (285*2^(L).toNat))=Z:=fun h_=>(i64_w _).symm.trans (hji17z h_);have H':=aK H;clear H;go_wp2
          go_roundg k2
          case measure=>have:=ab.out;have:=an.out;omega
          case rel=>exact⟨(Go.bits .xor .i64 G (Z)),(wrap64 (D-1)),(by first|rfl|(simp;done)|(simp only[←Y]<;>(first|rfl|simp))|(simp[*];done)),rsE,H',⟨by have:=ab.out;have:=an.out;omega⟩,by repeat(first|exact Drawn0.refl _|apply Drawn0.step)⟩
         ·rw[if_neg ak]at H
          exact absurd H zd
        ·rw[if_neg af]at H
         have c14b0:((Go.bits .and .i64 (X) 1)==1)=false:=beq_eq_false_iff_ne.mpr af;have c14b1:((Go.bits .and .i64 (X) 1)!=1)=true:=bne_iff_ne.mpr af;have H':=aK H;clear H;go_wp2
         go_roundg k2
         case measure=>have:=ab.out;have:=an.out;omega
         case rel=>exact⟨(G),(wrap64 (D-1)),rsE,rsE,H',⟨by have:=ab.out;have:=an.out;omega⟩,by repeat(first|exact Drawn0.refl _|apply Drawn0.step)⟩
       ·rw[if_neg aj]at H
        exact absurd H zd
      ·rw[if_neg ah]at H
       have c10b0:decide (8≤D)=false:=decide_eq_false ah;clear ah;obtain rfl:=Option.some.inj H;go_wp2
       go_ret
       exact⟨by first|rfl|(simp;done)|(simp[*];done),by repeat(first|exact Drawn0.refl _|apply Drawn0.step)⟩
end Go.Proofs.YtjgcocfnilhggaaDoor.Q
namespace Go.Proofs.YtjgcocfnilhggaaDoor.Q
open Go.RowKit Go.Proofs.YtjgcocfnilhggaaDoorW.PrintWords Go.Proofs.YtjgcocfnilhggaaDoorW.PrintLast Go.Proofs.YtjgcocfnilhggaaDoorW.PrintMore
attribute [local go_sem] max2_int min2_int max_two min_two max_three min_three max_four min_four
set_option linter.unusedVariables false
set_option linter.unusedSimpArgs false
def recoupref01_Inv.l0:Nat→Int→Int→Option (Int×Int)
 |0,_,_=>none
 |k+1,x0,x4=>if x4<256 then((recoupref01_Mul.f k x0 ((x4) % 256)).bind fun D=>(if D=1 then(some ((x4) % 256,0))else(recoupref01_Inv.l0 k x0 (wrap64 (x4+1)))))else(some (0,5))
def recoupref01_Inv.f(k:Nat)(a0:Int):Option (Int×Int):=recoupref01_Inv.l0 k a0 1
set_option maxHeartbeats 8000000 in
set_option maxRecDepth 100000 in
theorem recoupref01_Inv.calls(k:Nat)(a0:Int)(r1:Int)(r2:Int)(w:World)(h:recoupref01_Inv.f k a0=some (r1,r2)):
 Calls Tryd.prog 113 #[.int .u8 a0] w fun e w'=>e= .returned (.tuple #[.int .u8 r1,.int .i64 r2])∧Drawn0 w w':=by
 have H:(recoupref01_Inv.l0 k a0 1)=some (r1,r2):=h;clear h;have H':=aK H;clear H
 go_enter Tryd.func113,Tryd.ntmps113
 go_wp2
 go_loopg [4] k (fun kq v4 w'=> ∃(D:Int),v4= .int .i64 D∧Aside0 (recoupref01_Inv.l0 kq a0 D=some (r1,r2))∧Aside0 (kq≤k)∧Drawn0 w w')
 case atStart=>exact⟨(1),rsE,H',⟨Nat.le_refl _⟩,by repeat(first|exact Drawn0.refl _|apply Drawn0.step)⟩
 case round=>
  clear H'
  (try clear c1)
  obtain⟨D,rfl,HA,I,⟨m1,rfl⟩⟩:=hrel
  cases gk with
  |zero=>exact absurd HA.out (by simp[recoupref01_Inv.l0])
  |succ k1=>
   have H:=HA.out;clear HA;simp only[recoupref01_Inv.l0]at H;by_cases c2:D<256
   ·rw[if_pos c2]at H
    have c2b0:decide (D<256)=true:=decide_eq_true c2;clear c2;obtain⟨G,A3,H⟩:=bindO H
    (try dsimp only at H)
    by_cases c4:G=1
    ·rw[if_pos c4]at H
     have c4b0:(G==1)=true:=beq_iff_eq.mpr c4;have c4b1:(G !=1)=false:=bne_eq_false_iff_eq.mpr c4;clear c4;simp only[Option.some.injEq,Prod.mk.injEq]at H;obtain⟨rfl,rfl⟩:=H
     go_wp2_with (first|((with_reducible refine gC 78 rfl ?_);refine cG (some 12) Tryd.func78 #[.int .u8 a0,.int .u8 ((D) % 256)] ?_;(with_reducible refine(recoupref01_Mul.calls k1 a0 ((D) % 256) G _ A3.out).mono ?_);rintro e w' ⟨rfl,⟨nd,rfl⟩⟩;refine⟨_,rfl,?_⟩))
     go_ret2
     exact⟨by first|rfl|(simp;done)|(simp[*];done),by repeat(first|exact Drawn0.refl _|apply Drawn0.step)⟩
    ·rw[if_neg c4]at H
     have c4b0:(G==1)=false:=beq_eq_false_iff_ne.mpr c4;have c4b1:(G !=1)=true:=bne_iff_ne.mpr c4;have H':=aK H;clear H
     go_wp2_with (first|((with_reducible refine gC 78 rfl ?_);refine cG (some 12) Tryd.func78 #[.int .u8 a0,.int .u8 ((D) % 256)] ?_;(with_reducible refine(recoupref01_Mul.calls k1 a0 ((D) % 256) G _ A3.out).mono ?_);rintro e w' ⟨rfl,⟨nd,rfl⟩⟩;refine⟨_,rfl,?_⟩))
     go_roundg k1
     case measure=>have:=I.out;omega
     case rel=>exact⟨(wrap64 (D+1)),rsE,H',⟨by have:=I.out;omega⟩,by repeat(first|exact Drawn0.refl _|apply Drawn0.step)⟩
   ·rw[if_neg c2]at H
    have c2b0:decide (D<256)=false:=decide_eq_false c2;clear c2;simp only[Option.some.injEq,Prod.mk.injEq]at H;obtain⟨rfl,rfl⟩:=H;go_wp2
    go_ret2
    exact⟨by first|rfl|(simp;done)|(simp[*];done),by repeat(first|exact Drawn0.refl _|apply Drawn0.step)⟩
def recoupref01_Scale.l0:Nat→Int→List Int→List Int→Int→Option (List Int)
 |0,_,_,_,_=>none
 |k+1,x0,x1,x5,x6=>if x6<(x1.length:Int)then(if 0≤x6 then((recoupref01_Mul.f k x0 (rd x1 x6)).bind fun D=>(if x5.length<140737488355328 then(recoupref01_Scale.l0 k x0 x1 (x5++ [D]) (wrap64 (x6+1)))else(none)))else(none))else(some x5)
def recoupref01_Scale.f(k:Nat)(a0:Int)(l1:List Int):Option (List Int):=recoupref01_Scale.l0 k a0 l1 ([]:List Int) 0
set_option maxHeartbeats 8000000 in
set_option maxRecDepth 100000 in
theorem recoupref01_Scale.calls(k:Nat)(a0:Int)(A1:Option Addr)(c1:Nat)(l1:List Int)(r:List Int)(w:World)(af:Kd.C (Kd.int .u8) w A1 l1.length l1)(ae:l1.length≤c1)(h:recoupref01_Scale.f k a0 l1=some r):
 Calls Tryd.prog 114 #[.int .u8 a0,.slice A1 l1.length c1] w fun e w'=> ∃v0_:Value,e= .returned (v0_)∧Kd.R (Kd.int .u8) 5 w' w.heap.size (fun _=>True) v0_ r∧Below w.heap.size w w':=by
 have ag:=aK af;have aj:=aK ae;clear af ae;have HB:=aK (Below.refl w.heap.size w);have H:(recoupref01_Scale.l0 k a0 l1 ([]:List Int) 0)=some r:=h;clear h;have H':=aK H;clear H
 go_enter Tryd.func114,Tryd.ntmps114
 go_wp2
 go_loopg [5,6] k (fun kq v5 v6 w'=> ∃(J:List Int) (D:Int),v6= .int .i64 D∧Aside0 (recoupref01_Scale.l0 kq a0 l1 J D=some r)∧Aside0 (kq≤k)∧Aside0 (Kd.R (Kd.int .u8) 5 w' w.heap.size (fun _=>True) v5 J)∧Aside0 (Below w.heap.size w w'))
 case atStart=>exact⟨(([]:List Int)),(0),rsE,H',⟨Nat.le_refl _⟩,⟨nilE⟩,⟨hbA HB.out⟩⟩
 case round=>
  clear H'
  (try clear c1);(try clear p2)
  obtain⟨J,D,rfl,HA,aa,HO_5,HB⟩:=hrel
  cases gk with
  |zero=>exact absurd HA.out (by simp[recoupref01_Scale.l0])
  |succ k1=>
   have H:=HA.out;clear HA;simp only[recoupref01_Scale.l0]at H;by_cases c3:D<(l1.length:Int)
   ·rw[if_pos c3]at H
    have c3b0:decide (D<(l1.length:Int))=true:=decide_eq_true c3;clear c3;by_cases c4:0≤D
    ·rw[if_pos c4]at H
     have c4b0:decide (0≤D)=true:=decide_eq_true c4;clear c4;obtain⟨L,A5,H⟩:=bindO H
     (try dsimp only at H)
     by_cases c6:J.length<140737488355328
     ·rw[if_pos c6]at H
      have ab:=aK c6;clear c6;obtain⟨X,I⟩: ∃y_:List Int,y_=(J++ [L]):=⟨_,rfl⟩
      replace H:(recoupref01_Scale.l0 k1 a0 l1 X (wrap64 (D+1)))=some r:=by first|(rw[I];with_reducible exact H)|(have H2_:=(Option.bind_some _ _).symm.trans H;rw[I];with_reducible exact H2_)|(have H2_:=(Option.bind_some _ _).symm.trans H;with_reducible exact H2_)|with_reducible exact H|(rw[I];exact H)|exact H
      have Z:=aK I;clear I;have H':=aK H;clear H;have O:0≤(D:Int):=of_decide_eq_true asE;have U:D<(l1.length:Int):=of_decide_eq_true asE;obtain⟨ah,ac,G⟩:=Kd.at_int ag.out D O U
      cases ac
      replace G:=(HB.out.cell (World.block_lt_of_cell? w _ G)).trans G;replace O:=eq_true O;replace U:=eq_true U
      go_wp2_with (first|((with_reducible refine gC 78 rfl ?_);refine cG (some 19) Tryd.func78 #[.int .u8 a0,.int .u8 (rd l1 D)] ?_;(with_reducible refine(recoupref01_Mul.calls k1 a0 (rd l1 D) L _ A5.out).mono ?_);rintro e w' ⟨rfl,⟨nd,rfl⟩⟩;refine⟨_,rfl,?_⟩)|((with_reducible refine gate_builtin (b:= .append) (xs:= #[.tmp 13,.tmp 20]) rfl ?_);at_builtin;refine Kd.R_append (Kd.int .u8) (w0:=w) w.heap.size rfl (.tmp 13) (.tmp 20) 22 5 (.int .u8 0) 1 rfl Tryd.underlying22 info5 rfl zc za u5 J L [.int .u8 L] (fun _=>True) (fun _=>False) rfl rfl ?aP (fun _ hk=>hk.elim) ?aF ?aO ?aB ?aS ?aL ?_;(case aP=>exact rfl);(case aB=>exact(hbA HB.out));(case aF=>exact(fun _ _=>trivial));(case aO=>exact(kdA HO_5.out));(case aS=>exact(below_size (hbA HB.out)));(case aL=>have:=ab.out;omega);intro ai w7 ho hb hg hat;rw[←Z.out]at ho;have n0_:=aK (hb);have n1_:=aK (ho);clear HB;clear HO_5;have HB:=n0_;have Y:=n1_;clear n0_ n1_;clear ho hb hg hat))
      go_roundg k1
      case measure=>have:=aa.out;omega
      case rel=>exact⟨(X),(wrap64 (D+1)),rsE,H',⟨by have:=aa.out;omega⟩,⟨kdA Y.out⟩,⟨hbA HB.out⟩⟩
     ·rw[if_neg c6]at H
      exact absurd H zd
    ·rw[if_neg c4]at H
     exact absurd H zd
   ·rw[if_neg c3]at H
    have c3b0:decide (D<(l1.length:Int))=false:=decide_eq_false c3;clear c3;obtain rfl:=Option.some.inj H;go_wp2
    go_ret
    exact⟨_,rfE,by(with_reducible repeat(first|apply Kd.R_alloc|apply Kd.R_drewN|apply Kd.R_drew));exact HO_5.out,hbA HB.out⟩
def copyL(l:List Int)(i:Int)(s:List Int):List Int:=splice l i.toNat (s.take (l.length-i.toNat))
theorem copyL_cur{w:World}{base:Nat}{ok:Nat→Prop}{g n c:Nat}{L:List Int}(h:Kd.R (Kd.int .u8) 5 w base ok (.slice (some ⟨g,0,none⟩) n c) L): ∃cur:List Value,w.heap[g]? =some (.cells cur.toArray 5 (0,0))∧cur.length=c∧n≤c∧n=L.length∧base≤g∧cur.take n=nums .u8 L∧c≤maxLen:=by
 have ho:=Kd.own_of_R h;rcases ho.2 with⟨h',_⟩|⟨g',cap',cur,h',D,hh,hle,hm,hsz,htk⟩
 ·cases h'
 ·injection h' with h1 h2 h3;injection h1 with h1;injection h1 with h1;subst h1 h2 h3;refine⟨cur.toList,by simpa using hh,by simpa using hsz,hle,rfl,D,?_,hm⟩;simpa[nums,encs]using htk
theorem copyL_splice{w w1:World}{base:Nat}{ok:Nat→Prop}{g n c off:Nat}{L seg:List Int}{cur:List Value}(h:Kd.R (Kd.int .u8) 5 w base ok (.slice (some ⟨g,0,none⟩) n c) L)(hg:w.heap[g]? =some (.cells cur.toArray 5 (0,0)))(hfit:off+seg.length≤L.length)
 (h1:w1.heap[g]? =some (.cells (splice cur off (nums .u8 seg)).toArray 5 (0,0))):Kd.R (Kd.int .u8) 5 w1 base ok (.slice (some ⟨g,0,none⟩) n c) (splice L off seg):=by
 obtain⟨cur',D,I,X,J,O,G,U⟩:=copyL_cur h;rw[hg]at D
 injection D with D;injection D with D;have hce:cur=cur':=by simpa using congrArg Array.toList D
 subst hce;have hls:(splice L off seg).length=n:=by rw[length_splice _ _ _ hfit,J]
 have hlc:(splice cur off (nums .u8 seg)).length=c:=by rw[length_splice _ _ _ (by simp[nums];omega),I]
 refine Kd.R_of_own ⟨by simp[encs],.inr ⟨g,c,(splice cur off (nums .u8 seg)).toArray,by rw[hls],O,h1,by omega,U,by simpa using hlc,?_⟩⟩ h.1;rw[hls,Nat.mul_one];show(splice cur off (nums .u8 seg)).take n=(splice L off seg).map _;unfold splice;rw[List.take_append,List.take_append,List.map_append,List.map_append];have e1:(nums .u8 seg).length=seg.length:=by simp[nums]
 rw[List.take_take,Nat.min_eq_right za,List.length_take,Nat.min_eq_left za,List.take_of_length_le (l:=nums .u8 seg) za,e1,List.take_drop];have e2:off+seg.length+(n-off-seg.length)=n:=by omega
 rw[e2];have e3:cur.take off=(L.take off).map (fun x=>Value.int .u8 x):=by
  have:(cur.take n).take off=(nums .u8 L).take off:=by rw[G]
  rw[List.take_take,Nat.min_eq_left za]at this
  rw[this,nums,List.map_take]
 have e4:(cur.take n).drop (off+seg.length)=(L.drop (off+seg.length)).map (fun x=>Value.int .u8 x):=by
  rw[G,nums,List.map_drop]
 rw[e3,e4];rfl
theorem copyL_event{P:Program}{ops:Array Oper}{rest:List Oper}{o:Oper}{a:Act}{Q:Exit→Act→World→Prop}{W:World}{base:Nat}{ok:Nat→Prop}{g n c:Nat}{L S:List Int}{sp dp:Option Addr}{sc dLen dCap:Nat}{d s:Operand}{dT sT:TypeId}(hgd:o.guard=none)
 (ho:o.op= .call { callee:= .builtin .copy,args:= #[d,s],argTypes:= #[dT,sT] }) (hu:P.underlying dT=some (.slice 5)) (hsz:(P.info? 5).map (·.size)=some 1)
 (h:Kd.R (Kd.int .u8) 5 W base ok (.slice (some ⟨g,0,none⟩) n c) L) (hS:Kd.C (Kd.int .u8) W sp S.length S) (i:Int) (h0:0≤i) (hi:i<(L.length:Int))
 (hd:a.eval d= .slice dp dLen dCap) (hs:a.eval s= .slice sp S.length sc) (hdp:dp=some ⟨g,i.toNat,none⟩) (hdl:dLen=L.length-i.toNat)
 (hk: ∀w' m,W.grownBy w' (some g)→Kd.R (Kd.int .u8) 5 w' base ok (.slice (some ⟨g,0,none⟩) n c) (copyL L i S)→wpList P ops Q rest (a.put o.dst (goInt m)) w'):wpList P ops Q (o::rest) a W:=by
 obtain⟨cur,hg,hcl,hnc,hnL,hbg,htk,hcm⟩:=copyL_cur h;have hseg:(S.take (L.length-i.toNat)).length=Nat.min S.length dLen:=by rw[List.length_take,hdl,Nat.min_comm]
 refine wpList_plain hgd fun K hK=>?_;rcases Nat.eq_zero_or_pos (Nat.min S.length dLen)with e|e
 ·have hrun:=run_copy_none (P:=P) W dT sT o.type 5 dp sp dLen dCap S.length sc hu hsz e;have hz:copyL L i S=L:=by
   have:S.take (L.length-i.toNat)= []:=List.length_eq_zero_iff.1 (hseg.trans e);unfold copyL splice;rw[this];simp
  unfold Oper.wp;simp[execOp,ho,resolve,invoke,builtin,hd,hs,hrun,Result.andThen];exact hK _ _ (hk W 0 ⟨rfl,rfl,rfl,Nat.le_refl _,fun _ _ _=>rfl⟩ (by rw[hz];exact h))
 ·have hSp:0<S.length:=Nat.lt_of_lt_of_le e (Nat.min_le_left _ _);obtain⟨ad,rfl,hc⟩:=hS.2.2 hSp;subst hdp;have hsrc: ∀j v,(nums .u8 (S.take (L.length-i.toNat)))[j]? =some v→W.cell? (ad.add j)=some v:=by
   intro j v hv;unfold nums at hv;rw[List.getElem?_map,Option.map_eq_some_iff]at hv
   obtain⟨x,hx,rfl⟩:=hv;rw[List.getElem?_take]at hx
   split at hx
   ·obtain⟨c1,_,rfl,hcell⟩:=hc j x hx;have:=hcell 0 _ rfl
    rwa [show(Kd.int .u8).sz=1 from rfl,Nat.mul_one,Nat.add_zero]at this
   ·cases hx
  have hfit:i.toNat+(nums .u8 (S.take (L.length-i.toNat))).length≤cur.length:=by
   have:(nums .u8 (S.take (L.length-i.toNat))).length=Nat.min S.length dLen:=by rw[←hseg];simp[nums]
   have h2:Nat.min S.length dLen≤dLen:=Nat.min_le_right _ _;omega
  have hlen:(nums .u8 (S.take (L.length-i.toNat))).length=Nat.min S.length dLen:=by rw[←hseg];simp[nums]
  have hrun:=run_copy_row (P:=P) W dT sT o.type 5 g i.toNat dLen dCap ad S.length sc cur.toArray 5 (nums .u8 (S.take (L.length-i.toNat))) hu hsz hg hlen hsrc (by simpa using hfit) (fun v hv=>by
   unfold nums at hv;obtain⟨x,_,rfl⟩:=List.mem_map.1 hv;rfl)
  unfold Oper.wp;simp[execOp,ho,resolve,invoke,builtin,hd,hs,hrun,Result.andThen];refine hK _ _ (hk _ _ ⟨rfl,rfl,rfl,by simp[World.setRow],fun k _ hk=>setRow_other W g k _ (fun e=>hk (by rw[e]))⟩ ?_);refine copyL_splice h hg (by rw[hseg];have:Nat.min S.length dLen≤dLen:=Nat.min_le_right _ _;omega) ?_;simpa[splice]using setRow_heap W g _ _ 5 _ hg
mutual
def recoupref04_Reduce.l0:Nat→List Int→Int→Int→Int→List Int→Option (Int×Int×List Int×List Int×Int)
 |0,_,_,_,_,_=>none
 |k+1,x6,x7,D,G,I=>if x7<G then(recoupref04_Reduce.j1 k x6 x7 (decide ((x6.length:Int)<D)) D G I)else(recoupref04_Reduce.j1 k x6 x7 false D G I)
def recoupref04_Reduce.j1:Nat→List Int→Int→Bool→Int→Int→List Int→Option (Int×Int×List Int×List Int×Int)
 |0,_,_,_,_,_,_=>none
 |k+1,x6,x7,J,D,G,I=>if J=true then(recoupref04_Reduce.l1 k x6 x7 (x6.length:Int) (x6.length:Int) D G I)else(some (D,G,I,x6,0))
def recoupref04_Reduce.j3:Nat→List Int→Int→Int→Int→Int→Int→List Int→Option (Int×Int×List Int×List Int×Int)
 |0,_,_,_,_,_,_,_=>none
 |k+1,x6,x7,x8,x9,D,G,I=>if x9=D then(recoupref04_Reduce.l0 k x6 (wrap64 (x7+1)) D G I)else(if 0≤D then(if(D:Int).toNat≤35184372088832 then(recoupref04_Reduce.l2 k x6 x7 x8 x9 (List.replicate (D:Int).toNat 0) 0 D G I)else(none))else(none))
def recoupref04_Reduce.l2:Nat→List Int→Int→Int→Int→List Int→Int→Int→Int→List Int→Option (Int×Int×List Int×List Int×Int)
 |0,_,_,_,_,_,_,_,_,_=>none
 |k+1,x6,x7,x8,x9,O,L,G,I,J=>if L<G then(if 0≤L then(if L<(O.length:Int)then(recoupref04_Reduce.l2 k x6 x7 x8 x9 (O.set (L:Int).toNat L) (wrap64 (L+1)) G I J)else(none))else(none))else(if 0≤x8 then(if x8<(O.length:Int)then(if 0≤x9 then(if x9<(O.length:Int)then((recoupref03_Pick.f k G I J ((O.set (x8:Int).toNat x9).set (x9:Int).toNat x8)).bind fun D=>((recoupref03_At.f D.1 D.2.1 D.2.2.1 x8 x7).bind fun Z=>((recoupref01_Inv.f k Z).bind fun X=>((recoupref03_Row.f k D.1 D.2.1 D.2.2.1 x8).bind fun Y=>((recoupref01_Scale.f k X.1 Y.1).bind fun U=>(if 0≤(wrap64 (x8*D.2.1))then(if(wrap64 (x8*D.2.1))<(D.2.2.1.length:Int)then(recoupref04_Reduce.l3 k x6 x7 x8 U 0 D.1 D.2.1 (copyL D.2.2.1 (wrap64 (x8*D.2.1)) U))else(none))else(none)))))))else(none))else(none))else(none))else(none))
def recoupref04_Reduce.l3:Nat→List Int→Int→Int→List Int→Int→Int→Int→List Int→Option (Int×Int×List Int×List Int×Int)
 |0,_,_,_,_,_,_,_,_=>none
 |k+1,x6,x7,x8,O,J,D,G,I=>if J<D then(if J=x8 then(recoupref04_Reduce.l3 k x6 x7 x8 O (wrap64 (J+1)) D G I)else((recoupref03_At.f D G I J x7).bind fun L=>(recoupref04_Reduce.l4 k x6 x7 x8 O J L 0 D G I)))else(if x6.length<17592186044416 then(recoupref04_Reduce.l0 k (x6++ [x7]) (wrap64 (x7+1)) D G I)else(none))
def recoupref04_Reduce.l4:Nat→List Int→Int→Int→List Int→Int→Int→Int→Int→Int→List Int→Option (Int×Int×List Int×List Int×Int)
 |0,_,_,_,_,_,_,_,_,_,_=>none
 |k+1,x6,x7,x8,O,L,X,I,J,D,G=>if I<D then(if 0≤(wrap64 ((wrap64 (L*D))+I))then(if(wrap64 ((wrap64 (L*D))+I))<(G.length:Int)then(if 0≤I then(if I<(O.length:Int)then((recoupref01_Mul.f k X (rd O I)).bind fun U=>(recoupref04_Reduce.l4 k x6 x7 x8 O L X (wrap64 (I+1)) J D (G.set ((wrap64 ((wrap64 (L*D))+I)):Int).toNat (Go.bits .xor .u8 (rd G (wrap64 ((wrap64 (L*D))+I))) U))))else(none))else(none))else(none))else(none))else(recoupref04_Reduce.l3 k x6 x7 x8 O (wrap64 (L+1)) J D G)
def recoupref04_Reduce.l1:Nat→List Int→Int→Int→Int→Int→Int→List Int→Option (Int×Int×List Int×List Int×Int)
 |0,_,_,_,_,_,_,_=>none
 |k+1,x6,x7,x8,x9,D,G,I=>if x9<D then((recoupref03_At.f D G I x9 x7).bind fun J=>(if J=0 then(recoupref04_Reduce.l1 k x6 x7 x8 (wrap64 (x9+1)) D G I)else(recoupref04_Reduce.j3 k x6 x7 x8 x9 D G I)))else(recoupref04_Reduce.j3 k x6 x7 x8 x9 D G I)
end
def recoupref04_Reduce.f(k:Nat)(G:Int)(I:Int)(J:List Int):Option (Int×Int×List Int×List Int×Int):=(recoupref03_Right.f G I J).bind fun L=>(if L=true then((recoupref03_Copy.f G I J).bind fun D=>(recoupref04_Reduce.l0 k ([]:List Int) 0 D.1 D.2.1 D.2.2))else(some (0,0,([]:List Int),([]:List Int),3)))
def recoupref04_Reduce.T32:Bool×List (List Nat×List Nat):=(true,[([],[]),([0],[0]),([],[]),([],[]),([3],[3]),([2,4],[2,4]),([],[]),([5,6],[5,6]),([1,7],[1,7]),([8],[8]),([],[]),([],[]),([],[]),([11,12],[11,12]),([13],[13]),([10,14],[10,14]),([9,15],[9,15]),([1,7,0,1,2,3,4,5,6,7,8,9,10,11,12,13,14,15,16],[1,7]),([17,16,15,0,1,2,3,4,5,6,7,8,9,10,11,12,13,14,15,16],[16,17])])
def recoupref04_Reduce.B32:List Nat:= [0,1,0,0,8,28,0,124,255,511,0,0,0,6144,14336,31744,65535,131071,262143]
theorem recoupref04_Reduce.tab32:rtab .any (opsOf Tryd.f96 32)=recoupref04_Reduce.T32:=by kernel_rfl
theorem recoupref04_Reduce.bits32:waitsOk recoupref04_Reduce.T32.2 recoupref04_Reduce.B32=true:=by kernel_rfl
set_option maxHeartbeats 8000000 in
set_option maxRecDepth 100000 in
theorem recoupref04_Reduce.calls(k:Nat)(au:Int)(av:Int)(az:Option Addr)(a0:Nat)(ar:List Int)(r1:Int)(r2:Int)(r3:List Int)(r4:List Int)(r5:Int)(w:World)(i1:Kd.C (Kd.int .u8) w az ar.length ar)(iz:ar.length≤a0)(h:recoupref04_Reduce.f k au av ar=some (r1,r2,r3,r4,r5)):
 Calls Tryd.prog 96 #[.agg #[.int .i64 au,.int .i64 av,.slice az ar.length a0]] w fun e w'=> ∃v2_ v3_:Value,e= .returned (.tuple #[.agg #[.int .i64 r1,.int .i64 r2,v2_],v3_,.int .i64 r5])∧Kd.R (Kd.int .u8) 5 w' w.heap.size (fun _=>True) v2_ r3∧Kd.R (Kd.int .i64) 3 w' w.heap.size (fun _=>True) v3_ r4∧Below w.heap.size w w':=by
 have ri:=Tryd.underlying24;have f0:=aK i1;have fy:=aK iz;clear i1 iz;have HB:=aK (Below.refl w.heap.size w);have H:((recoupref03_Right.f au av ar).bind fun i9=>(if i9=true then((recoupref03_Copy.f au av ar).bind fun f1=>(recoupref04_Reduce.l0 k ([]:List Int) 0 f1.1 f1.2.1 f1.2.2))else(some (0,0,([]:List Int),([]:List Int),3))))=some (r1,r2,r3,r4,r5):=h;clear h;obtain⟨i9,A2,H⟩:=bindO H
 (try dsimp only at H)
 by_cases c3:i9=true
 ·subst c3;rw[if_pos rfl]at H
  obtain⟨⟨fw,gn,gp⟩,A4,H⟩:=bindO H
  (try dsimp only at H)
  have H':=aK H;clear H
  go_enter Tryd.func96,Tryd.ntmps96
  go_wp2_with (first|((with_reducible refine gD 1 rfl ?_);(try(refine gate_guard ze ?_;dsimp only));refine bE 1 #[.int .i64 au,.int .i64 av,.slice az ar.length a0] 24 ?_;intro a2 hg w5 hbox hb;have I:=aK (hbox);have j6:=hbS HB hg;have j2:=hbS HB hg;replace HB:=hbB HB hb;clear hb hbox hg)|((with_reducible refine gD 2 rfl ?_);(try(refine gate_guard ze ?_;dsimp only));refine bE 2 #[.int .i64 0,.int .i64 0,.slice none 0 0] 24 ?_;intro aq hg w6 hbox hb;have J:=aK (hbox);have j7:=hbS HB hg;have j4:=hbS HB hg;replace HB:=hbB HB hb;have bs:=neL I hg;have bt:=neG I hg;replace I:=bkB I hb;clear hb hbox hg;have rg:=bs.out;have rh:=bt.out;obtain⟨bu,bv,bw,bx,bz,b0⟩:=cell3 I)|((with_reducible refine gC 45 rfl ?_);refine cG (some 20) Tryd.func45 #[.agg #[.int .i64 au,.int .i64 av,.slice az ar.length a0]] ?_;(with_reducible refine(recoupref03_Right.calls au av _ _ ar true _ ?side1 ?side2 A2.out).mono ?_);(case side1=>exact kcB f0 HB);(case side2=>exact fy.out);rintro e w9 ⟨rfl,hb⟩;refine⟨_,rfl,?_⟩;replace I:=bkB I hb;replace J:=bkB J hb;replace HB:=hbB HB hb;(try clear hb);obtain⟨a4,a5,a6,ba,bb,bc⟩:=cell3 I)|((with_reducible refine gC 24 rfl ?_);refine cG (some 24) Tryd.func24 #[.agg #[.int .i64 au,.int .i64 av,.slice az ar.length a0]] ?_;(with_reducible refine(recoupref03_Copy.calls au av _ _ ar fw gn gp _ ?side1 ?side2 A4.out).mono ?_);(case side1=>exact kcB f0 HB);(case side2=>exact fy.out);rintro e ry ⟨rj,rfl,cf,hb⟩;refine⟨_,rfl,?_⟩;have eg:=aK (Kd.R_lower cf (below_size (hbA HB.out)));replace I:=bkB I hb;replace J:=bkB J hb;replace HB:=hbB HB hb;(try clear hb);(try clear cf))|((with_reducible refine gD 5 rfl ?_);(try(refine gate_guard ze ?_;dsimp only));refine bE 5 #[.int .i64 0,.int .i64 0,.slice none 0 0] 24 ?_;intro ax hg rz hbox hb;replace eg:=kdB eg hb;have D:=aK (hbox);have ox:=hbS HB hg;have ow:=hbS HB hg;replace HB:=hbB HB hb;have X:=neL I hg;have aa:=neG I hg;replace I:=bkB I hb;have Y:=neL J hg;have ab:=neG J hg;replace J:=bkB J hb;clear hb hbox hg;have pa:=aa.out;have pw:=X.out;have pb:=ab.out;have px:=Y.out;obtain⟨a7,a8,a9,bd,be,bf⟩:=cell3 D;obtain⟨jj,jq,mz⟩:=Kd.R_slice eg.out;subst mz))
  go_loopg [6,7] k (fun kq v6 v7 w'=> ∃(O:List Int) (aj:Int) (G:Int) (U:Int) (L:List Int) (u161002:Value),v7= .int .i64 aj∧Aside0 (recoupref04_Reduce.l0 kq O aj G U L=some (r1,r2,r3,r4,r5))∧Aside0 (kq≤k)∧Aside0 (Kd.R (Kd.int .i64) 3 w' w.heap.size (fun _=>True) v6 O)∧Aside0 (Kd.R (Kd.int .u8) 5 w' w.heap.size (fun _=>True) u161002 L)∧Aside0 (w'.heap[a2]? =some (.cells #[.int .i64 au,.int .i64 av,(.slice az ar.length a0)] 24 (0,0)))∧Aside0 (w'.heap[aq]? =some (.cells #[.int .i64 0,.int .i64 0,(.slice none 0 0)] 24 (0,0)))∧Aside0 (w'.heap[ax]? =some (.cells #[.int .i64 G,.int .i64 U,u161002] 24 (0,0)))∧Aside0 (Below w.heap.size w w'))
  case atStart=>exact⟨(([]:List Int)),(0),(fw),(gn),(gp),(.slice jj gp.length jq),rsE,H',⟨Nat.le_refl _⟩,⟨nilE⟩,⟨by(with_reducible repeat(first|apply Kd.R_alloc|apply Kd.R_drewN|apply Kd.R_drew));exact Kd.R_mono (Kd.R_far (p:=⟨ax,2,none⟩) (Kd.R_far (p:=⟨ax,1,none⟩) (Kd.R_far (p:=⟨ax,0,none⟩) (Kd.R_types eg.out D.out zc) (fun _ hk=>hk.2) (.int .i64 fw)) (fun _ hk=>hk.2) (.int .i64 gn)) (fun _ hk=>hk.2) (.slice jj gp.length jq)) (fun _ hk=>trivial)⟩,⟨by refine bkR ?_;refine blk_far ?_ X.out _;refine bkR ?_;refine blk_far ?_ X.out _;refine bkR ?_;refine blk_far ?_ X.out _;refine bkR ?_;exact I.out⟩,⟨by refine bkR ?_;refine blk_far ?_ Y.out _;refine bkR ?_;refine blk_far ?_ Y.out _;refine bkR ?_;refine blk_far ?_ Y.out _;refine bkR ?_;exact J.out⟩,⟨by refine bkR ?_;refine blk_put (cs:= #[.int .i64 fw,.int .i64 gn,.slice none 0 0]) ?_ 2 _ rfl;refine bkR ?_;refine blk_put (cs:= #[.int .i64 fw,.int .i64 0,.slice none 0 0]) ?_ 1 _ rfl;refine bkR ?_;refine blk_put (cs:= #[.int .i64 0,.int .i64 0,.slice none 0 0]) ?_ 0 _ rfl;refine bkR ?_;exact D.out⟩,⟨hbA HB.out⟩⟩
  case round=>
   clear H'
   (try clear c1);(try clear c2);(try clear p2);(try clear c3);(try clear c4);(try clear c7);(try clear c9);(try clear gq);(try clear gr);(try clear a4 a5 a6 ba bb bc);(try clear a7 a8 a9 bd be bf);(try clear bu bv bw bx bz b0)
   obtain⟨O,aj,G,U,L,u161002,rfl,HA,b6,HO_6,HO_161002,I,J,D,HB⟩:=hrel
   cases gk with
   |zero=>exact absurd HA.out (by simp[recoupref04_Reduce.l0])
   |succ k1=>
    have H:=HA.out;clear HA;simp only[recoupref04_Reduce.l0]at H;have ic:=aK H;clear H
    go_upto_region 6 with(fail)
    go_cut [35] (fun qt wc=> ∃(kq:Nat) (dd:Bool),qt= .bool dd∧Aside0 (recoupref04_Reduce.j1 kq O aj dd G U L=some (r1,r2,r3,r4,r5))∧Aside0 (kq≤k1)∧Aside0 (Kd.R (Kd.int .i64) 3 wc w.heap.size (fun _=>True) u6 O)∧Aside0 (Kd.R (Kd.int .u8) 5 wc w.heap.size (fun _=>True) u161002 L)∧Aside0 (wc.heap[a2]? =some (.cells #[.int .i64 au,.int .i64 av,(.slice az ar.length a0)] 24 (0,0)))∧Aside0 (wc.heap[aq]? =some (.cells #[.int .i64 0,.int .i64 0,(.slice none 0 0)] 24 (0,0)))∧Aside0 (wc.heap[ax]? =some (.cells #[.int .i64 G,.int .i64 U,u161002] 24 (0,0)))∧Aside0 (Below w.heap.size w wc))
    case first=>
     have H:=ic.out;clear ic;by_cases dc:aj<U
     ·rw[if_pos dc]at H
      have c18b0:decide (aj<U)=true:=decide_eq_true dc;clear dc
      (first|rw[c18b0] |(simp only[i64_w,i32_w];rw[c18b0])|skip)
      have H':=aK H;clear H;have pc:=aa.out;have py:=X.out;have pd:=ab.out;have pz:=Y.out;obtain⟨bg,bh,bi,bm,bn,bo⟩:=cell3 D;obtain⟨qv,rb,m0⟩:=Kd.R_slice HO_6.out;subst m0;go_wp2
      go_meet
      case rel=>exact⟨_,(decide ((O.length:Int)<G)),rsE,H',⟨by have:=b6.out;first|omega|exact Nat.le_refl _⟩,⟨kdA HO_6.out⟩,⟨kdA HO_161002.out⟩,⟨bkA I.out⟩,⟨bkA J.out⟩,⟨bkA D.out⟩,⟨hbA HB.out⟩⟩
     ·rw[if_neg dc]at H
      have c18b0:decide (aj<U)=false:=decide_eq_false dc;clear dc
      (first|rw[c18b0] |(simp only[i64_w,i32_w];rw[c18b0])|skip)
      have H':=aK H;clear H;have pe:=aa.out;have p0:=X.out;have pf:=ab.out;have p1:=Y.out;obtain⟨bj,bk,bl,bp,bq,br⟩:=cell3 D;go_wp2
      go_meet
      case rel=>exact⟨_,(false),rsE,H',⟨by have:=b6.out;first|omega|exact Nat.le_refl _⟩,⟨kdA HO_6.out⟩,⟨kdA HO_161002.out⟩,⟨bkA I.out⟩,⟨bkA J.out⟩,⟨bkA D.out⟩,⟨hbA HB.out⟩⟩
    case rest=>
     clear ic
     (try clear c1);(try clear c2);(try clear p2 p2);(try clear c3);(try clear c4);(try clear c7);(try clear c9);(try clear gq);(try clear gr);(try clear dc);(try clear c18b0);(try clear io);(try clear ip);(try clear iq);(try clear ir);(try clear a4 a5 a6 ba bb bc);(try clear a7 a8 a9 bd be bf);(try clear bg bh bi bm bn bo);(try clear bj bk bl bp bq br);(try clear bu bv bw bx bz b0)
     obtain⟨kq,dd,rfl,HA,a1,HO_6,HO_161002,I,J,D,HB⟩:=hcut
     cases kq with
     |zero=>exact absurd HA.out (by simp[recoupref04_Reduce.j1])
     |succ i2=>
      have H:=HA.out;clear HA;simp only[recoupref04_Reduce.j1]at H;by_cases ei:dd=true
      ·subst ei;rw[if_pos rfl]at H
       have ie:=aK H;clear H;obtain⟨b1,b3,m1⟩:=Kd.R_slice HO_6.out;subst m1
       go_upto_block 2 with(fail)
       go_cut [9] (fun v9 wc=> ∃(kq:Nat) (af:Int),v9= .int .i64 af∧Aside0 (recoupref04_Reduce.j3 kq O aj (O.length:Int) af G U L=some (r1,r2,r3,r4,r5))∧Aside0 (kq≤i2)∧Aside0 (Kd.R (Kd.int .i64) 3 wc w.heap.size (fun _=>True) (.slice b1 O.length b3) O)∧Aside0 (Kd.R (Kd.int .u8) 5 wc w.heap.size (fun _=>True) u161002 L)∧Aside0 (wc.heap[a2]? =some (.cells #[.int .i64 au,.int .i64 av,(.slice az ar.length a0)] 24 (0,0)))∧Aside0 (wc.heap[aq]? =some (.cells #[.int .i64 0,.int .i64 0,(.slice none 0 0)] 24 (0,0)))∧Aside0 (wc.heap[ax]? =some (.cells #[.int .i64 G,.int .i64 U,u161002] 24 (0,0)))∧Aside0 (Below w.heap.size w wc))
       case first=>
        have H:=ie.out;clear ie;have H':=aK H;clear H;go_wp2
        go_loopg [9] i2 (fun kq v9 w'=> ∃(cg:Int),v9= .int .i64 cg∧Aside0 (recoupref04_Reduce.l1 kq O aj (O.length:Int) cg G U L=some (r1,r2,r3,r4,r5))∧Aside0 (kq≤i2)∧Aside0 (Kd.R (Kd.int .i64) 3 w' w.heap.size (fun _=>True) (.slice b1 O.length b3) O)∧Aside0 (Kd.R (Kd.int .u8) 5 w' w.heap.size (fun _=>True) u161002 L)∧Aside0 (w'.heap[a2]? =some (.cells #[.int .i64 au,.int .i64 av,(.slice az ar.length a0)] 24 (0,0)))∧Aside0 (w'.heap[aq]? =some (.cells #[.int .i64 0,.int .i64 0,(.slice none 0 0)] 24 (0,0)))∧Aside0 (w'.heap[ax]? =some (.cells #[.int .i64 G,.int .i64 U,u161002] 24 (0,0)))∧Aside0 (Below w.heap.size w w'))
        case atStart=>exact⟨((O.length:Int)),rsE,H',⟨Nat.le_refl _⟩,⟨kdA HO_6.out⟩,⟨kdA HO_161002.out⟩,⟨bkA I.out⟩,⟨bkA J.out⟩,⟨bkA D.out⟩,⟨hbA HB.out⟩⟩
        case round=>
         clear H'
         (try clear c1);(try clear c2);(try clear p2 p2);(try clear c3);(try clear c4);(try clear c7);(try clear c9);(try clear gq);(try clear gr);(try clear dc);(try clear c18b0);(try clear io);(try clear ip);(try clear iq);(try clear ir);(try clear ei);(try clear a4 a5 a6 ba bb bc);(try clear a7 a8 a9 bd be bf);(try clear bg bh bi bm bn bo);(try clear bj bk bl bp bq br);(try clear bu bv bw bx bz b0)
         obtain⟨cg,rfl,HA,jf,HO_6,HO_161002,I,J,D,HB⟩:=hrel
         cases gk with
         |zero=>exact absurd HA.out (by simp[recoupref04_Reduce.l1])
         |succ k3=>
          have H:=HA.out;clear HA;simp only[recoupref04_Reduce.l1]at H;by_cases eb:cg<G
          ·rw[if_pos eb]at H
           have c29b0:decide (cg<G)=true:=decide_eq_true eb;clear eb
           (first|rw[c29b0] |(simp only[i64_w,i32_w];rw[c29b0])|skip)
           obtain⟨d2,mj,H⟩:=bindO H
           (try dsimp only at H)
           by_cases df:d2=0
           ·rw[if_pos df]at H
            have c31b0:(d2==0)=true:=beq_iff_eq.mpr df;have c31b1:(d2 !=0)=false:=bne_eq_false_iff_eq.mpr df;clear df;have H':=aK H;clear H;have pg:=aa.out;have p3:=X.out;have ph:=ab.out;have p4:=Y.out;obtain⟨ch,ci,cj,cq,cr,ct⟩:=cell3 D;obtain⟨qw,rc,m2⟩:=Kd.R_slice HO_161002.out;subst m2
            go_wp2_with (first|(go_at_call 49;(with_reducible refine(recoupref03_At.calls G U _ _ L cg aj d2 _ ?side1 ?side2 mj.out).mono ?_);(case side1=>exact kcA (Kd.R_reads' HO_161002.out).2.2);(case side2=>exact(Kd.R_reads' HO_161002.out).2.1);rintro e r0 ⟨rfl,hb⟩;replace HO_6:=kdB HO_6 hb;replace HO_161002:=kdB HO_161002 hb;replace I:=bkB I hb;replace J:=bkB J hb;replace D:=bkB D hb;replace HB:=hbB HB hb;(try clear hb)))
            go_roundg k3
            case measure=>have:=b6.out;have:=a1.out;have:=jf.out;omega
            case rel=>exact⟨(wrap64 (cg+1)),rsE,H',⟨by have:=b6.out;have:=a1.out;have:=jf.out;omega⟩,⟨kdA HO_6.out⟩,⟨kdA HO_161002.out⟩,⟨bkA I.out⟩,⟨bkA J.out⟩,⟨bkA D.out⟩,⟨hbA HB.out⟩⟩
           ·rw[if_neg df]at H
            have c31b0:(d2==0)=false:=beq_eq_false_iff_ne.mpr df;have c31b1:(d2 !=0)=true:=bne_iff_ne.mpr df;have H':=aK H;clear H;have pi:=aa.out;have p8:=X.out;have pj:=ab.out;have p9:=Y.out;obtain⟨ck,cl,cm,cu,cv,cw⟩:=cell3 D;obtain⟨qx,re,m3⟩:=Kd.R_slice HO_161002.out;subst m3
            go_wp2_with (first|(go_at_call 49;(with_reducible refine(recoupref03_At.calls G U _ _ L cg aj d2 _ ?side1 ?side2 mj.out).mono ?_);(case side1=>exact kcA (Kd.R_reads' HO_161002.out).2.2);(case side2=>exact(Kd.R_reads' HO_161002.out).2.1);rintro e r6 ⟨rfl,hb⟩;replace HO_6:=kdB HO_6 hb;replace HO_161002:=kdB HO_161002 hb;replace I:=bkB I hb;replace J:=bkB J hb;replace D:=bkB D hb;replace HB:=hbB HB hb;(try clear hb)))
            go_meet
            case rel=>exact⟨_,(cg),rsE,H',⟨by have:=b6.out;have:=a1.out;have:=jf.out;first|omega|exact Nat.le_refl _⟩,⟨kdA HO_6.out⟩,⟨kdA HO_161002.out⟩,⟨bkA I.out⟩,⟨bkA J.out⟩,⟨bkA D.out⟩,⟨hbA HB.out⟩⟩
          ·rw[if_neg eb]at H
           have c29b0:decide (cg<G)=false:=decide_eq_false eb;clear eb
           (first|rw[c29b0] |(simp only[i64_w,i32_w];rw[c29b0])|skip)
           have H':=aK H;clear H;have pk:=aa.out;have qa:=X.out;have pl:=ab.out;have qb:=Y.out;obtain⟨cn,co,cp,cx,cy,cz⟩:=cell3 D;go_wp2
           go_meet
           case rel=>exact⟨_,(cg),rsE,H',⟨by have:=b6.out;have:=a1.out;have:=jf.out;first|omega|exact Nat.le_refl _⟩,⟨kdA HO_6.out⟩,⟨kdA HO_161002.out⟩,⟨bkA I.out⟩,⟨bkA J.out⟩,⟨bkA D.out⟩,⟨hbA HB.out⟩⟩
       case rest=>
        clear ie
        (try clear c1);(try clear c2);(try clear p2 p2);(try clear c3);(try clear c4);(try clear p6);(try clear c7);(try clear c9);(try clear gq);(try clear gr);(try clear dc);(try clear c18b0);(try clear io);(try clear ip);(try clear iq);(try clear ir);(try clear ei);(try clear eb);(try clear c29b0);(try clear df);(try clear c31b0);(try clear c31b1);(try clear ki);(try clear kj);(try clear kk);(try clear kl);(try clear km);(try clear kn);(try clear a4 a5 a6 ba bb bc);(try clear a7 a8 a9 bd be bf);(try clear bg bh bi bm bn bo);(try clear bj bk bl bp bq br);(try clear ch ci cj cq cr ct);(try clear ck cl cm cu cv cw);(try clear cn co cp cx cy cz);(try clear bu bv bw bx bz b0)
        obtain⟨kq,af,rfl,HA,b2,HO_6,HO_161002,I,J,D,HB⟩:=hcut
        cases kq with
        |zero=>exact absurd HA.out (by simp[recoupref04_Reduce.j3])
        |succ gm=>
         have H:=HA.out;clear HA;simp only[recoupref04_Reduce.j3]at H;by_cases ec:af=G
         ·rw[if_pos ec]at H
          have c45b0:(af==G)=true:=beq_iff_eq.mpr ec;have c45b1:(af !=G)=false:=bne_eq_false_iff_eq.mpr ec;clear ec;have H':=aK H;clear H;have pm:=aa.out;have qc:=X.out;have pn:=ab.out;have qd:=Y.out;obtain⟨dg,dh,di,dm,dn,dp⟩:=cell3 D;go_wp2
          go_roundg gm
          case measure=>have:=b6.out;have:=a1.out;have:=b2.out;omega
          case rel=>exact⟨(O),(wrap64 (aj+1)),(G),(U),(L),(u161002),rsE,H',⟨by have:=b6.out;have:=a1.out;have:=b2.out;omega⟩,⟨kdA HO_6.out⟩,⟨kdA HO_161002.out⟩,⟨bkA I.out⟩,⟨bkA J.out⟩,⟨bkA D.out⟩,⟨hbA HB.out⟩⟩
         ·rw[if_neg ec]at H
          have c45b0:(af==G)=false:=beq_eq_false_iff_ne.mpr ec;have c45b1:(af !=G)=true:=bne_iff_ne.mpr ec;by_cases eo:0≤G
          ·rw[if_pos eo]at H
           have c49b0:=eq_true eo;have c49b1:decide (0≤G)=true:=decide_eq_true eo;clear eo;by_cases ep:(G:Int).toNat≤35184372088832
           ·rw[if_pos ep]at H
            have c50b0:=eq_true ep;have c50b1:decide ((G:Int).toNat≤35184372088832)=true:=decide_eq_true ep;clear ep;obtain⟨jy,dv⟩: ∃y_:List Int,y_=(List.replicate (G:Int).toNat 0):=⟨_,rfl⟩
            replace H:(recoupref04_Reduce.l2 gm O aj (O.length:Int) af jy 0 G U L)=some (r1,r2,r3,r4,r5):=by first|(rw[dv];with_reducible exact H)|(have H2_:=(Option.bind_some _ _).symm.trans H;rw[dv];with_reducible exact H2_)|(have H2_:=(Option.bind_some _ _).symm.trans H;with_reducible exact H2_)|with_reducible exact H|(rw[dv];exact H)|exact H
            have il:=aK dv;clear dv;have H':=aK H;clear H;have po:=aa.out;have qe:=X.out;have pp:=ab.out;have qf:=Y.out;obtain⟨dj,dk,dl,dq,dr,dt⟩:=cell3 D
            go_wp2_with (first|((with_reducible refine gate_dst (N:=60) rfl ?_);(try(refine gate_guard ze ?_;dsimp only));refine Kd.R_make (Kd.int .i64) _ 3 rfl (N:=60) rfl 56 _ _ rfl G rfl rfl Tryd.underlying56 (.int .i64 0) 8 info3 rfl zc za 0 (ok:=fun _=>True) (okp:=fun _=>True) rfl (fun _ hk=>hk) trivial (of_decide_eq_true asE) (Nat.le_trans (Nat.mul_le_mul_right _ (of_decide_eq_true asE:G.toNat≤35184372088832)) za) (Below.refl _ _) (Nat.le_refl _) ?_;intro jx r7 ef hb hg_ hnew_;clear hg_ hnew_;(first|rw[←il.out]at ef|(simp only[Int.reduceToNat]at ef;rw[←il.out]at ef));replace HO_161002:=kdB HO_161002 hb;have j8:=aK (Kd.R_lower (Kd.R_new' ef (Kd.R_lt (kdA HO_6.out))) (below_size (hbA HB.out)));replace HO_6:=aK (Kd.R_elder' (kdA HO_6.out) (Kd.R_base ef) hb);replace I:=bkB I hb;replace J:=bkB J hb;replace D:=bkB D hb;replace HB:=hbB HB hb;clear hb ef))
            go_loopg [11] gm (fun kq qp w'=> ∃(ac:List Int) (an:Int),qp= .int .i64 an∧Aside0 (recoupref04_Reduce.l2 kq O aj (O.length:Int) af ac an G U L=some (r1,r2,r3,r4,r5))∧Aside0 (kq≤gm)∧Aside0 (Kd.R (Kd.int .i64) 3 w' w.heap.size (fun k_=>some k_≠(jx:Value).ownBlock) (.slice b1 O.length b3) O)∧Aside0 (Kd.R (Kd.int .i64) 3 w' w.heap.size (fun k_=>some k_≠((.slice b1 O.length b3):Value).ownBlock) jx ac)∧Aside0 (Kd.R (Kd.int .u8) 5 w' w.heap.size (fun _=>True) u161002 L)∧Aside0 (w'.heap[a2]? =some (.cells #[.int .i64 au,.int .i64 av,(.slice az ar.length a0)] 24 (0,0)))∧Aside0 (w'.heap[aq]? =some (.cells #[.int .i64 0,.int .i64 0,(.slice none 0 0)] 24 (0,0)))∧Aside0 (w'.heap[ax]? =some (.cells #[.int .i64 G,.int .i64 U,u161002] 24 (0,0)))∧Aside0 (Below w.heap.size w w'))
            case atStart=>exact⟨(jy),(0),rsE,H',⟨Nat.le_refl _⟩,⟨by(with_reducible repeat(first|apply Kd.R_alloc|apply Kd.R_drewN|apply Kd.R_drew));exact Kd.R_mono HO_6.out (fun _ hk=>hk.2)⟩,⟨by(with_reducible repeat(first|apply Kd.R_alloc|apply Kd.R_drewN|apply Kd.R_drew));exact Kd.R_mono j8.out (fun _ hk=>hk.2)⟩,⟨kdA HO_161002.out⟩,⟨bkA I.out⟩,⟨bkA J.out⟩,⟨bkA D.out⟩,⟨hbA HB.out⟩⟩
            case round=>
             clear H'
             (try clear c1);(try clear c2);(try clear p2 p2);(try clear c3);(try clear c4);(try clear c5);(try clear p6 p6);(try clear c7);(try clear c9);(try clear gq);(try clear gr);(try clear dc);(try clear c18b0);(try clear io);(try clear ip);(try clear iq);(try clear ir);(try clear ei);(try clear eb);(try clear c29b0);(try clear df);(try clear c31b0);(try clear c31b1);(try clear ki);(try clear kj);(try clear kk);(try clear kl);(try clear km);(try clear kn);(try clear ec);(try clear c45b0);(try clear c45b1);(try clear mt);(try clear mu);(try clear eo);(try clear c49b0);(try clear c49b1);(try clear ep);(try clear c50b0);(try clear c50b1);(try clear mv);(try clear mw);(try clear a4 a5 a6 ba bb bc);(try clear a7 a8 a9 bd be bf);(try clear bg bh bi bm bn bo);(try clear bj bk bl bp bq br);(try clear ch ci cj cq cr ct);(try clear ck cl cm cu cv cw);(try clear cn co cp cx cy cz);(try clear dg dh di dm dn dp);(try clear dj dk dl dq dr dt);(try clear bu bv bw bx bz b0)
             obtain⟨ac,an,rfl,HA,ea,HO_6,HO_10,HO_161002,I,J,D,HB⟩:=hrel
             cases gk with
             |zero=>exact absurd HA.out (by simp[recoupref04_Reduce.l2])
             |succ k4=>
              have H:=HA.out;clear HA;simp only[recoupref04_Reduce.l2]at H;by_cases er:an<G
              ·rw[if_pos er]at H
               have c56b0:decide (an<G)=true:=decide_eq_true er;clear er;by_cases gs:0≤an
               ·rw[if_pos gs]at H
                have c57b0:decide (0≤an)=true:=decide_eq_true gs;clear gs;by_cases gt:an<(ac.length:Int)
                ·rw[if_pos gt]at H
                 have c58b0:decide (an<(ac.length:Int))=true:=decide_eq_true gt;clear gt;obtain⟨jc,dw⟩: ∃y_:List Int,y_=(ac.set (an:Int).toNat an):=⟨_,rfl⟩
                 replace H:(recoupref04_Reduce.l2 k4 O aj (O.length:Int) af jc (wrap64 (an+1)) G U L)=some (r1,r2,r3,r4,r5):=by first|(rw[dw];with_reducible exact H)|(have H2_:=(Option.bind_some _ _).symm.trans H;rw[dw];with_reducible exact H2_)|(have H2_:=(Option.bind_some _ _).symm.trans H;with_reducible exact H2_)|with_reducible exact H|(rw[dw];exact H)|exact H
                 have kb:=aK dw;clear dw;have H':=aK H;clear H;have pq:=aa.out;have qg:=X.out;have pr:=ab.out;have qh:=Y.out;obtain⟨et,eu,ev,fb,fc,fd⟩:=cell3 D;have p59:0≤(an:Int):=of_decide_eq_true asE;have f7:(an:Int)<((ac.length:Int):Int):=of_decide_eq_true asE;obtain⟨ee,gh,jr,ju,m7,q8,jl⟩:=Kd.R_form HO_10.out za
                 (first|cases jr|(injection jr with ea_ en_ ec_;(first|subst ea_|(injection ea_ with ea_;subst ea_));subst ec_;clear en_))
                 have mr:=aK ju;have qy:=aK jl;clear ju m7 jl;obtain⟨gi,nr⟩:=Kd.R_celln 0 HO_10.out (an:Int) p59 f7;replace p59:=eq_true p59;replace f7:=eq_true f7;have ii:=Kd.R_putg HO_10.out (an:Int) an
                 go_wp2_with (first|((with_reducible refine gate_store (t:=3) (p:=70) rfl ?_);refine store_event (t:=3) (p:=70) (v:=?vo_w64) (w1:=(wr.setCell ⟨ee,(an:Int).toNat,none⟩ (.int .i64 an))) ?hg ?ho ?hn ?hr ?_;(case ho=>rfl);(case hg=>rfl);(case hn=>rfl);(case hr=>first|(go_simp;done)|(go_simp;rfl));intro w64 hw;have hg:wr.grownBy w64 (some ee):=(by rw[hw];exact ii.2);have hp_:Kd.R (Kd.int .i64) 3 w64 w.heap.size (fun k_=>some k_≠(.slice b1 O.length b3:Value).ownBlock) (.slice (some ⟨ee,0,none⟩) ac.length gh) jc:=(by rw[hw,kb.out];exact ii.1);clear ii;replace HO_6:=aK (Kd.R_after (v:=(.slice (some ⟨ee,0,none⟩) ac.length gh)) (v1:=(.slice (some ⟨ee,0,none⟩) ac.length gh)) (ok:=(fun _=>True)) (by(with_reducible repeat(first|apply Kd.R_alloc|apply Kd.R_drewN|apply Kd.R_drew));exact Kd.R_mono HO_6.out (fun _ hk=>⟨trivial,hk⟩)) hg (.inl rfl));replace HO_161002:=aK (Kd.R_over' (v:=(.slice (some ⟨ee,0,none⟩) ac.length gh)) (kdA HO_161002.out) (Kd.R_typed HO_10.out) zc hg);replace I:=bkG I hg (Kd.R_ne HO_10.out I.out zc);replace J:=bkG J hg (Kd.R_ne HO_10.out J.out zc);replace D:=bkG D hg (Kd.R_ne HO_10.out D.out zc);replace HO_10:=aK (hp_);replace HB:=aK ((by rw[hw];exact below_set (HB.out) mr.out:Below w.heap.size w w64));clear hg hw hp_))
                 go_roundg k4
                 case measure=>have:=b6.out;have:=a1.out;have:=b2.out;have:=ea.out;omega
                 case rel=>exact⟨(jc),(wrap64 (an+1)),rsE,H',⟨by have:=b6.out;have:=a1.out;have:=b2.out;have:=ea.out;omega⟩,⟨by(with_reducible repeat(first|apply Kd.R_alloc|apply Kd.R_drewN|apply Kd.R_drew));exact Kd.R_mono HO_6.out (fun _ hk=>hk.2)⟩,⟨kdA HO_10.out⟩,⟨kdA HO_161002.out⟩,⟨bkA I.out⟩,⟨bkA J.out⟩,⟨bkA D.out⟩,⟨hbA HB.out⟩⟩
                ·rw[if_neg gt]at H
                 exact absurd H zd
               ·rw[if_neg gs]at H
                exact absurd H zd
              ·rw[if_neg er]at H
               have c56b0:decide (an<G)=false:=decide_eq_false er;clear er;by_cases gu:0≤(O.length:Int)
               ·rw[if_pos gu]at H
                have c65b0:decide (0≤(O.length:Int))=true:=decide_eq_true gu;have c65b1:decide (0≤O.length)=true:=decide_eq_true za;clear gu;by_cases f4:(O.length:Int)<(ac.length:Int)
                ·rw[if_pos f4]at H
                 have c66b0:decide ((O.length:Int)<(ac.length:Int))=true:=decide_eq_true f4;have c66b1:decide (O.length<ac.length)=true:=decide_eq_true (Int.ofNat_lt.mp f4);clear f4;obtain⟨jd,dx⟩: ∃y_:List Int,y_=(ac.set ((O.length:Int):Int).toNat af):=⟨_,rfl⟩
                 replace H:(if 0≤af then(if af<(ac.length:Int)then((recoupref03_Pick.f k4 G U L (jd.set (af:Int).toNat (O.length:Int))).bind fun ag=>((recoupref03_At.f ag.1 ag.2.1 ag.2.2.1 (O.length:Int) aj).bind fun d3=>((recoupref01_Inv.f k4 d3).bind fun f2=>((recoupref03_Row.f k4 ag.1 ag.2.1 ag.2.2.1 (O.length:Int)).bind fun f3=>((recoupref01_Scale.f k4 f2.1 f3.1).bind fun b5=>(if 0≤(wrap64 ((O.length:Int)*ag.2.1))then(if(wrap64 ((O.length:Int)*ag.2.1))<(ag.2.2.1.length:Int)then(recoupref04_Reduce.l3 k4 O aj (O.length:Int) b5 0 ag.1 ag.2.1 (copyL ag.2.2.1 (wrap64 ((O.length:Int)*ag.2.1)) b5))else(none))else(none)))))))else(none))else(none))=some (r1,r2,r3,r4,r5):=by first|(rw[dx];with_reducible exact H)|(have H2_:=(Option.bind_some _ _).symm.trans H;rw[dx];with_reducible exact H2_)|(have H2_:=(Option.bind_some _ _).symm.trans H;with_reducible exact H2_)|with_reducible exact H|(rw[dx];exact H)|exact H
                 have kc:=aK dx;clear dx;by_cases gv:0≤af
                 ·rw[if_pos gv]at H
                  have c68b0:decide (0≤af)=true:=decide_eq_true gv;clear gv;by_cases gw:af<(ac.length:Int)
                  ·rw[if_pos gw]at H
                   have c69b0:decide (af<(ac.length:Int))=true:=decide_eq_true gw;clear gw;obtain⟨d9,dy⟩: ∃y_:List Int,y_=(jd.set (af:Int).toNat (O.length:Int)):=⟨_,rfl⟩
                   replace H:((recoupref03_Pick.f k4 G U L d9).bind fun ag=>((recoupref03_At.f ag.1 ag.2.1 ag.2.2.1 (O.length:Int) aj).bind fun d3=>((recoupref01_Inv.f k4 d3).bind fun f2=>((recoupref03_Row.f k4 ag.1 ag.2.1 ag.2.2.1 (O.length:Int)).bind fun f3=>((recoupref01_Scale.f k4 f2.1 f3.1).bind fun b5=>(if 0≤(wrap64 ((O.length:Int)*ag.2.1))then(if(wrap64 ((O.length:Int)*ag.2.1))<(ag.2.2.1.length:Int)then(recoupref04_Reduce.l3 k4 O aj (O.length:Int) b5 0 ag.1 ag.2.1 (copyL ag.2.2.1 (wrap64 ((O.length:Int)*ag.2.1)) b5))else(none))else(none)))))))=some (r1,r2,r3,r4,r5):=by first|(rw[dy];with_reducible exact H)|(have H2_:=(Option.bind_some _ _).symm.trans H;rw[dy];with_reducible exact H2_)|(have H2_:=(Option.bind_some _ _).symm.trans H;with_reducible exact H2_)|with_reducible exact H|(rw[dy];exact H)|exact H
                   have kd:=aK dy;clear dy;obtain⟨⟨am,ah,ai,nn⟩,ml,H⟩:=bindO H
                   (try dsimp only at H)
                   obtain⟨d3,mm,H⟩:=bindO H
                   (try dsimp only at H)
                   obtain⟨⟨ja,np⟩,mn,H⟩:=bindO H
                   (try dsimp only at H)
                   obtain⟨⟨d4,nq⟩,mo,H⟩:=bindO H
                   (try dsimp only at H)
                   obtain⟨b5,mq,H⟩:=bindO H
                   (try dsimp only at H)
                   obtain⟨b4,ce⟩: ∃j_:Int,(wrap64 ((O.length:Int)*ah))=j_:=⟨_,rfl⟩
                   replace H:(if 0≤(b4)then(if(b4)<(ai.length:Int)then(recoupref04_Reduce.l3 k4 O aj (O.length:Int) b5 0 am ah (copyL ai (b4) b5))else(none))else(none))=some (r1,r2,r3,r4,r5):=by first|(rw[ce]at H;exact H)|(simp only[ce]at H⊢;exact H)
                   (try rw[ce]at ml)
                   (try rw[ce]at mm)
                   (try rw[ce]at mn)
                   (try rw[ce]at mo)
                   (try rw[ce]at mq)
                   have hji76w:(IntKind.i64.wrap ((O.length:Int)*ah))=b4:=(i64_w _).trans ce;by_cases gx:0≤(b4)
                   ·rw[if_pos gx]at H
                    have c77b0:decide (0≤(b4))=true:=decide_eq_true gx;clear gx;by_cases gy:(b4)<(ai.length:Int)
                    ·rw[if_pos gy]at H
                     have c78b0:decide ((b4)<(ai.length:Int))=true:=decide_eq_true gy;clear gy;obtain⟨je,dz⟩: ∃y_:List Int,y_=(copyL ai (b4) b5):=⟨_,rfl⟩
                     replace H:(recoupref04_Reduce.l3 k4 O aj (O.length:Int) b5 0 am ah je)=some (r1,r2,r3,r4,r5):=by first|(rw[dz];with_reducible exact H)|(have H2_:=(Option.bind_some _ _).symm.trans H;rw[dz];with_reducible exact H2_)|(have H2_:=(Option.bind_some _ _).symm.trans H;with_reducible exact H2_)|with_reducible exact H|(rw[dz];exact H)|exact H
                     have ke:=aK dz;clear dz;have H':=aK H;clear H;have pt:=aa.out;have qi:=X.out;have pv:=ab.out;have qj:=Y.out;obtain⟨ew,ex,ey,fe,ff,fg⟩:=cell3 D;have p67:0≤((O.length:Int):Int):=of_decide_eq_true asE;have f8:((O.length:Int):Int)<((ac.length:Int):Int):=of_decide_eq_true asE;obtain⟨a3,ca,js,jv,m8,q9,jo⟩:=Kd.R_form HO_10.out za
                     (first|cases js|(injection js with ea_ en_ ec_;(first|subst ea_|(injection ea_ with ea_;subst ea_));subst ec_;clear en_))
                     have jk:=aK jv;have qz:=aK jo;clear jv m8 jo;obtain⟨el,ji⟩:=Kd.R_celln 0 HO_10.out ((O.length:Int):Int) p67 f8;replace p67:=eq_true p67;replace f8:=eq_true f8;have kt:=el;have ks:=ji;simp only[Int.toNat_natCast]at kt ks;have ij:=Kd.R_putg HO_10.out ((O.length:Int):Int) af
                     go_wp2_with (first|((with_reducible refine gate_store (t:=3) (p:=77) rfl ?_);refine store_event (t:=3) (p:=77) (v:=?vo_w84) (w1:=(wr.setCell ⟨a3,((O.length:Int):Int).toNat,none⟩ (.int .i64 af))) ?hg ?ho ?hn ?hr ?_;(case ho=>rfl);(case hg=>rfl);(case hn=>rfl);(case hr=>first|(go_simp;done)|(go_simp;rfl));intro jb hw;have hg:wr.grownBy jb (some a3):=(by rw[hw];exact ij.2);have hp_:Kd.R (Kd.int .i64) 3 jb w.heap.size (fun k_=>some k_≠(.slice b1 O.length b3:Value).ownBlock) (.slice (some ⟨a3,0,none⟩) ac.length ca) jd:=(by rw[hw,kc.out];exact ij.1);clear ij;replace HO_6:=aK (Kd.R_after (v:=(.slice (some ⟨a3,0,none⟩) ac.length ca)) (v1:=(.slice (some ⟨a3,0,none⟩) ac.length ca)) (ok:=(fun _=>True)) (by(with_reducible repeat(first|apply Kd.R_alloc|apply Kd.R_drewN|apply Kd.R_drew));exact Kd.R_mono HO_6.out (fun _ hk=>⟨trivial,hk⟩)) hg (.inl rfl));replace HO_161002:=aK (Kd.R_over' (v:=(.slice (some ⟨a3,0,none⟩) ac.length ca)) (kdA HO_161002.out) (Kd.R_typed HO_10.out) zc hg);replace I:=bkG I hg (Kd.R_ne HO_10.out I.out zc);replace J:=bkG J hg (Kd.R_ne HO_10.out J.out zc);replace D:=bkG D hg (Kd.R_ne HO_10.out D.out zc);replace HO_10:=aK (hp_);replace HB:=aK ((by rw[hw];exact below_set (HB.out) jk.out:Below w.heap.size w jb));clear hg hw hp_;have p70:0≤(af:Int):=of_decide_eq_true asE;have f9:(af:Int)<((ac.length:Int):Int):=of_decide_eq_true asE;obtain⟨gj,nt⟩:=Kd.R_celln 0 HO_10.out (af:Int) p70 f9;replace p70:=eq_true p70;replace f9:=eq_true f9;obtain⟨hy85_,hz85_⟩:=Kd.R_celln 0 HO_10.out (af:Int) (of_decide_eq_true asE) (of_decide_eq_true asE);have ik:=Kd.R_putg HO_10.out (af:Int) (O.length:Int))|((with_reducible refine gate_store (t:=3) (p:=78) rfl ?_);refine store_event (t:=3) (p:=78) (v:=?vo_w86) (w1:=(jb.setCell ⟨a3,(af:Int).toNat,none⟩ (.int .i64 (O.length:Int)))) ?hg ?ho ?hn ?hr ?_;(case ho=>rfl);(case hg=>rfl);(case hn=>rfl);(case hr=>first|(go_simp;done)|(go_simp;rfl));intro ku hw;have hg:jb.grownBy ku (some a3):=(by rw[hw];exact ik.2);have hp_:Kd.R (Kd.int .i64) 3 ku w.heap.size (fun k_=>some k_≠(.slice b1 O.length b3:Value).ownBlock) (.slice (some ⟨a3,0,none⟩) ac.length ca) d9:=(by rw[hw,kd.out];exact ik.1);clear ik;replace HO_6:=aK (Kd.R_after (v:=(.slice (some ⟨a3,0,none⟩) ac.length ca)) (v1:=(.slice (some ⟨a3,0,none⟩) ac.length ca)) (ok:=(fun _=>True)) (kdA HO_6.out) hg (.inl rfl));replace HO_161002:=aK (Kd.R_over' (v:=(.slice (some ⟨a3,0,none⟩) ac.length ca)) (kdA HO_161002.out) (Kd.R_typed HO_10.out) zc hg);replace I:=bkG I hg (Kd.R_ne HO_10.out I.out zc);replace J:=bkG J hg (Kd.R_ne HO_10.out J.out zc);replace D:=bkG D hg (Kd.R_ne HO_10.out D.out zc);replace HO_10:=aK (hp_);replace HB:=aK ((by rw[hw];exact below_set (HB.out) jk.out:Below w.heap.size w ku));clear hg hw hp_;obtain⟨ez,e0,e1,fh,fi,fj⟩:=cell3 D;obtain⟨b7,cb,m4⟩:=Kd.R_slice HO_161002.out;subst m4)|((with_reducible refine gC 43 rfl ?_);refine goesL_ (some 82) rfl rfl Tryd.func43 zb rfl #[.agg #[.int .i64 G,.int .i64 U,.slice b7 L.length cb],.slice (some ⟨a3,0,none⟩) d9.length ca] rfl (by(try simp only[List.map_toArray,List.map_cons,List.map_nil]);first|done|(rw[show d9.length=ac.length from(Kd.R_reads' HO_10.out).1.symm]<;>rfl)|rfl|(simp only[List.length_drop,List.length_take];rfl)) ?_;(with_reducible refine(recoupref03_Pick.calls k4 G U _ _ L _ _ d9 am ah ai nn _ ?side1 ?side2 ?side3 ?side4 ml.out).mono ?_);(case side1=>exact kcA (Kd.R_reads' HO_161002.out).2.2);(case side2=>exact(Kd.R_reads' HO_161002.out).2.1);(case side3=>exact kcA (Kd.R_reads' HO_10.out).2.2);(case side4=>rw[show d9.length=ac.length from(Kd.R_reads' HO_10.out).1.symm];exact(Kd.R_reads' HO_10.out).2.1);rintro e r8 ⟨rk,rfl,cf,hb⟩;refine⟨_,rfl,?_⟩;replace HO_6:=kdB HO_6 hb;replace HO_10:=kdB HO_10 hb;have ae:=aK (Kd.R_lower (Kd.R_new' cf (Kd.R_lt (kdA HO_161002.out))) (below_size (hbA HB.out)));replace HO_161002:=aK (Kd.R_elder' (kdA HO_161002.out) (Kd.R_base cf) hb);replace I:=bkB I hb;replace J:=bkB J hb;replace D:=bkB D hb;replace HB:=hbB HB hb;(try clear hb);(try clear cf);obtain⟨e2,e3,e4,fk,fl,fm⟩:=cell3 D;obtain⟨b8,aw,m5⟩:=Kd.R_slice ae.out;subst m5)|((with_reducible refine gC 49 rfl ?_);refine cG (some 89) Tryd.func49 #[.agg #[.int .i64 am,.int .i64 ah,.slice b8 ai.length aw],.int .i64 (O.length:Int),.int .i64 aj] ?_;(with_reducible refine(recoupref03_At.calls am ah _ _ ai (O.length:Int) aj d3 _ ?side1 ?side2 mm.out).mono ?_);(case side1=>refine(Kd.R_reads' (e:=5) (base:=w.heap.size) (ok:=fun k_=>(True∧some k_≠(.slice b7 L.length cb:Value).ownBlock)) (n:=ai.length) (c:=aw) ?_).2.2;exact(by(with_reducible repeat(first|apply Kd.R_alloc|apply Kd.R_drewN|apply Kd.R_drew));exact(zF ae.out D.out  (.int .i64 am)  (.int .i64 ah)  (.slice b8 ai.length aw))));(case side2=>exact(Kd.R_reads' ae.out).2.1);rintro e d7 ⟨rfl,hb⟩;refine⟨_,rfl,?_⟩;replace HO_6:=aK (Kd.R_below (by(with_reducible repeat(first|apply Kd.R_alloc|apply Kd.R_drewN|apply Kd.R_drew));exact(zF HO_6.out D.out  (.int .i64 am)  (.int .i64 ah)  (.slice b8 ai.length aw))) hb);replace HO_10:=aK (Kd.R_below (by(with_reducible repeat(first|apply Kd.R_alloc|apply Kd.R_drewN|apply Kd.R_drew));exact(zF HO_10.out D.out  (.int .i64 am)  (.int .i64 ah)  (.slice b8 ai.length aw))) hb);replace HO_161002:=aK (Kd.R_below (by(with_reducible repeat(first|apply Kd.R_alloc|apply Kd.R_drewN|apply Kd.R_drew));exact(zF HO_161002.out D.out  (.int .i64 am)  (.int .i64 ah)  (.slice b8 ai.length aw))) hb);replace ae:=aK (Kd.R_below (by(with_reducible repeat(first|apply Kd.R_alloc|apply Kd.R_drewN|apply Kd.R_drew));exact(zF ae.out D.out  (.int .i64 am)  (.int .i64 ah)  (.slice b8 ai.length aw))) hb);replace I:=aK (blk_below (g:=a2) (o:= .cells #[.int .i64 au,.int .i64 av,.slice az ar.length a0] 24 (0,0)) (by refine bkR ?_;refine blk_far ?_ X.out _;refine bkR ?_;refine blk_far ?_ X.out _;refine bkR ?_;refine blk_far ?_ X.out _;refine bkR ?_;exact I.out) hb);replace J:=aK (blk_below (g:=aq) (o:= .cells #[.int .i64 0,.int .i64 0,.slice none 0 0] 24 (0,0)) (by refine bkR ?_;refine blk_far ?_ Y.out _;refine bkR ?_;refine blk_far ?_ Y.out _;refine bkR ?_;refine blk_far ?_ Y.out _;refine bkR ?_;exact J.out) hb);replace D:=aK (blk_below (g:=ax) (o:= .cells #[.int .i64 am,.int .i64 ah,.slice b8 ai.length aw] 24 (0,0)) (by refine bkR ?_;refine blk_put (cs:= #[.int .i64 am,.int .i64 ah,.slice b7 L.length cb]) ?_ 2 _ rfl;refine bkR ?_;refine blk_put (cs:= #[.int .i64 am,.int .i64 U,.slice b7 L.length cb]) ?_ 1 _ rfl;refine bkR ?_;refine blk_put (cs:= #[.int .i64 G,.int .i64 U,.slice b7 L.length cb]) ?_ 0 _ rfl;refine bkR ?_;exact D.out) hb);replace HB:=hbB HB hb;(try clear hb))|((with_reducible refine gC 113 rfl ?_);refine cG (some 90) Tryd.func113 #[.int .u8 d3] ?_;(with_reducible refine(recoupref01_Inv.calls k4 d3 ja np _ mn.out).mono ?_);rintro e w' ⟨rfl,⟨nd,rfl⟩⟩;refine⟨_,rfl,?_⟩;(try(rw[drewN_self d7];generalize hq_:World.drewN d7 _=d7;have n0_:Aside0 (Kd.R (Kd.int .u8) 5 d7 w.heap.size (fun k_=>some k_≠(.slice b7 L.length cb:Value).ownBlock) (.slice b8 ai.length aw) ai):=⟨by rw[←hq_];exact(by(with_reducible repeat(first|apply Kd.R_alloc|apply Kd.R_drewN|apply Kd.R_drew));exact Kd.R_mono ae.out (fun _ hk=>hk.2))⟩;have n1_:Aside0 (Kd.R (Kd.int .i64) 3 d7 w.heap.size (fun k_=>some k_≠(.slice b1 O.length b3:Value).ownBlock) (.slice (some ⟨a3,0,none⟩) ac.length ca) d9):=⟨by rw[←hq_];exact(kdA HO_10.out)⟩;have n2_:Aside0 (Kd.R (Kd.int .u8) 5 d7 w.heap.size (fun k_=>some k_≠(.slice b8 ai.length aw:Value).ownBlock) (.slice b7 L.length cb) L):=⟨by rw[←hq_];exact(by(with_reducible repeat(first|apply Kd.R_alloc|apply Kd.R_drewN|apply Kd.R_drew));exact Kd.R_mono HO_161002.out (fun _ hk=>hk.2))⟩;have n3_:Aside0 (Kd.R (Kd.int .i64) 3 d7 w.heap.size (fun k_=>some k_≠(.slice (some ⟨a3,0,none⟩) ac.length ca:Value).ownBlock) (.slice b1 O.length b3) O):=⟨by rw[←hq_];exact(by(with_reducible repeat(first|apply Kd.R_alloc|apply Kd.R_drewN|apply Kd.R_drew));exact Kd.R_mono HO_6.out (fun _ hk=>hk.2))⟩;have n4_:Aside0 (d7.heap[a2]? =some (.cells #[.int .i64 au,.int .i64 av,.slice az ar.length a0] 24 (0,0))):=⟨by rw[←hq_];exact(bkA I.out)⟩;have n5_:Aside0 (d7.heap[aq]? =some (.cells #[.int .i64 0,.int .i64 0,.slice none 0 0] 24 (0,0))):=⟨by rw[←hq_];exact(bkA J.out)⟩;have n6_:Aside0 (d7.heap[ax]? =some (.cells #[.int .i64 am,.int .i64 ah,.slice b8 ai.length aw] 24 (0,0))):=⟨by rw[←hq_];exact(bkA D.out)⟩;have n7_:Aside0 (Below w.heap.size w d7):=⟨by rw[←hq_];exact(hbA HB.out)⟩;clear ae HO_10 HO_161002 HO_6 I J D HB hq_;have ae:=n0_;have HO_10:=n1_;have HO_161002:=n2_;have HO_6:=n3_;have I:=n4_;have J:=n5_;have D:=n6_;have HB:=n7_;clear n0_ n1_ n2_ n3_ n4_ n5_ n6_ n7_));obtain⟨e5,e6,e7,fo,fp,fq⟩:=cell3 D)|((with_reducible refine gC 21 rfl ?_);refine cG (some 96) Tryd.func21 #[.agg #[.int .i64 am,.int .i64 ah,.slice b8 ai.length aw],.int .i64 (O.length:Int)] ?_;(with_reducible refine(recoupref03_Row.calls k4 am ah _ _ ai (O.length:Int) d4 nq _ ?side1 ?side2 mo.out).mono ?_);(case side1=>exact kcA (Kd.R_reads' ae.out).2.2);(case side2=>exact(Kd.R_reads' ae.out).2.1);rintro e r9 ⟨rl,rfl,cf,hb⟩;refine⟨_,rfl,?_⟩;replace HO_6:=kdB HO_6 hb;replace HO_10:=kdB HO_10 hb;have b9:=aK (Kd.R_lower (Kd.R_new' (Kd.R_new' cf (Kd.R_lt (kdA HO_161002.out))) (Kd.R_lt (kdA ae.out))) (below_size (hbA HB.out)));replace HO_161002:=aK (Kd.R_elder' (kdA HO_161002.out) (Kd.R_base cf) hb);replace ae:=aK (Kd.R_elder' (kdA ae.out) (Kd.R_base cf) hb);replace I:=bkB I hb;replace J:=bkB J hb;replace D:=bkB D hb;replace HB:=hbB HB hb;(try clear hb);(try clear cf);obtain⟨em,es,m6⟩:=Kd.R_slice b9.out;subst m6)|((with_reducible refine gC 114 rfl ?_);refine cG (some 101) Tryd.func114 #[.int .u8 ja,.slice em d4.length es] ?_;(with_reducible refine(recoupref01_Scale.calls k4 ja _ _ d4 b5 _ ?side1 ?side2 mq.out).mono ?_);(case side1=>exact kcA (Kd.R_reads' b9.out).2.2);(case side2=>exact(Kd.R_reads' b9.out).2.1);rintro e qu ⟨db,rfl,cf,hb⟩;refine⟨_,rfl,?_⟩;replace HO_6:=kdB HO_6 hb;replace HO_10:=kdB HO_10 hb;have eh:=aK (Kd.R_lower (Kd.R_new' (Kd.R_new' (Kd.R_new' cf (Kd.R_lt (kdA HO_161002.out))) (Kd.R_lt (kdA ae.out))) (Kd.R_lt (kdA b9.out))) (below_size (hbA HB.out)));replace HO_161002:=aK (Kd.R_elder' (kdA HO_161002.out) (Kd.R_base cf) hb);replace ae:=aK (Kd.R_elder' (kdA ae.out) (Kd.R_base cf) hb);replace b9:=aK (Kd.R_elder' (kdA b9.out) (Kd.R_base cf) hb);replace I:=bkB I hb;replace J:=bkB J hb;replace D:=bkB D hb;replace HB:=hbB HB hb;(try clear hb);(try clear cf);obtain⟨e8,e9,fa,fs,ft,fu⟩:=cell3 D;have f6:0≤((b4):Int):=of_decide_eq_true asE;have ga:((b4):Int)<((ai.length:Int):Int):=of_decide_eq_true asE;obtain⟨cd,rf,jt,jw,m9,ra,jp⟩:=Kd.R_form ae.out za;(first|cases jt|(injection jt with ea_ en_ ec_;(first|subst ea_|(injection ea_ with ea_;subst ea_));subst ec_;clear en_));have ms:=aK jw;have q0:=aK jp;clear jw m9 jp;obtain⟨gl,nu⟩:=Kd.R_celln 0 ae.out ((b4):Int) f6 ga;replace f6:=eq_true f6;replace ga:=eq_true ga;have n_:=aK (Kd.R_mono (ok':=(fun k_=>some k_≠(.slice b7 L.length cb:Value).ownBlock∧some k_≠(.slice em d4.length es:Value).ownBlock∧some k_≠(db:Value).ownBlock)) ae.out (by first|exact fun k_ hk=>⟨hk.1.1.2,⟨hk.1.2,hk.2⟩⟩|exact fun k_ hk=>⟨hk.1.1,⟨hk.1.2,hk.2⟩⟩));clear ae;have ae:=n_;clear n_;have qn:=of_decide_eq_true c77b0;have nm:=of_decide_eq_true c78b0;obtain⟨jn,rfl⟩:=Int.eq_ofNat_of_zero_le qn;have rv:=(Kd.R_reads' ae.out).2.1;have qo:jn<ai.length:=Int.ofNat_lt.1 nm;have rx:jn≤ai.length:=Nat.le_of_lt qo)|((with_reducible refine gate_builtin (b:= .copy) (xs:= #[.tmp 108,.tmp 109]) rfl ?_);obtain⟨sA,sc,eS,_,hS⟩:=Kd.R_reads eh.out;refine copyL_event (d:= .tmp 108) (s:= .tmp 109) (dT:=22) (sT:=22) rfl rfl Tryd.underlying22 zb ae.out hS (jn:Int) (Int.natCast_nonneg jn) nm rfl eS rfl rfl ?_;intro kv jm hg ng;clear eS hS;have hg:qu.grownBy kv (some cd):=hg;have hp_:Kd.R (Kd.int .u8) 5 kv w.heap.size (fun k_=>some k_≠(.slice b7 L.length cb:Value).ownBlock∧some k_≠(.slice em d4.length es:Value).ownBlock∧some k_≠(db:Value).ownBlock) (.slice (some ⟨cd,0,none⟩) ai.length aw) je:=(by rw[ke.out];exact ng);replace HO_6:=aK (Kd.R_over' (v:=(.slice (some ⟨cd,0,none⟩) ai.length aw)) (kdA HO_6.out) (Kd.R_typed ae.out) zc hg);replace HO_10:=aK (Kd.R_over' (v:=(.slice (some ⟨cd,0,none⟩) ai.length aw)) (kdA HO_10.out) (Kd.R_typed ae.out) zc hg);replace HO_161002:=aK (Kd.R_after (v:=(.slice (some ⟨cd,0,none⟩) ai.length aw)) (v1:=(.slice (some ⟨cd,0,none⟩) ai.length aw)) (ok:=(fun k_=>some k_≠(.slice em d4.length es:Value).ownBlock∧some k_≠(db:Value).ownBlock)) (by(with_reducible repeat(first|apply Kd.R_alloc|apply Kd.R_drewN|apply Kd.R_drew));exact Kd.R_mono HO_161002.out (by first|exact fun _ hk=>⟨⟨hk.1.2,hk.2⟩,hk.1.1.2⟩|exact fun _ hk=>⟨⟨hk.1.2,hk.2⟩,hk.1.1⟩)) hg (.inl rfl));replace I:=bkG I hg (Kd.R_ne ae.out I.out zc);replace J:=bkG J hg (Kd.R_ne ae.out J.out zc);replace D:=bkG D hg (Kd.R_ne ae.out D.out zc);replace ae:=aK (hp_);replace b9:=aK (Kd.R_after (v:=(.slice (some ⟨cd,0,none⟩) ai.length aw)) (v1:=(.slice (some ⟨cd,0,none⟩) ai.length aw)) (ok:=(fun k_=>some k_≠(.slice b7 L.length cb:Value).ownBlock∧some k_≠(db:Value).ownBlock)) (by(with_reducible repeat(first|apply Kd.R_alloc|apply Kd.R_drewN|apply Kd.R_drew));exact Kd.R_mono b9.out (fun _ hk=>⟨⟨hk.1.1.2,hk.2⟩,hk.1.2⟩)) hg (.inl rfl));replace eh:=aK (Kd.R_after (v:=(.slice (some ⟨cd,0,none⟩) ai.length aw)) (v1:=(.slice (some ⟨cd,0,none⟩) ai.length aw)) (ok:=(fun k_=>some k_≠(.slice b7 L.length cb:Value).ownBlock∧some k_≠(.slice em d4.length es:Value).ownBlock)) (by(with_reducible repeat(first|apply Kd.R_alloc|apply Kd.R_drewN|apply Kd.R_drew));exact Kd.R_mono eh.out (fun _ hk=>⟨⟨hk.1.1.2,hk.2⟩,hk.1.2⟩)) hg (.inl rfl));replace HB:=aK ((HB.out.grown hg HB.out.size (fun k_ hk_=>by injection hk_ with hk_;rw[←hk_];exact ms.out):Below w.heap.size w kv));clear hg ng hp_))
                     go_loopg [16] k4 (fun kq qq w'=> ∃(d8:List Int) (ap:Int) (ao:List Int) (u161002:Value),qq= .int .i64 ap∧Aside0 (recoupref04_Reduce.l3 kq O aj (O.length:Int) d8 ap am ah ao=some (r1,r2,r3,r4,r5))∧Aside0 (kq≤k4)∧Aside0 (Kd.R (Kd.int .i64) 3 w' w.heap.size (fun _=>True) (.slice b1 O.length b3) O)∧Aside0 (Kd.R (Kd.int .u8) 5 w' w.heap.size (fun k_=>some k_≠(u161002:Value).ownBlock) db d8)∧Aside0 (Kd.R (Kd.int .u8) 5 w' w.heap.size (fun k_=>some k_≠(db:Value).ownBlock) u161002 ao)∧Aside0 (w'.heap[a2]? =some (.cells #[.int .i64 au,.int .i64 av,(.slice az ar.length a0)] 24 (0,0)))∧Aside0 (w'.heap[aq]? =some (.cells #[.int .i64 0,.int .i64 0,(.slice none 0 0)] 24 (0,0)))∧Aside0 (w'.heap[ax]? =some (.cells #[.int .i64 am,.int .i64 ah,u161002] 24 (0,0)))∧Aside0 (Below w.heap.size w w'))
                     case atStart=>exact⟨(b5),(0),(je),(.slice (some ⟨cd,0,none⟩) ai.length aw),rsE,H',⟨Nat.le_refl _⟩,⟨by(with_reducible repeat(first|apply Kd.R_alloc|apply Kd.R_drewN|apply Kd.R_drew));exact Kd.R_mono HO_6.out (fun _ hk=>trivial)⟩,⟨by(with_reducible repeat(first|apply Kd.R_alloc|apply Kd.R_drewN|apply Kd.R_drew));exact Kd.R_mono eh.out (fun _ hk=>hk.2)⟩,⟨by(with_reducible repeat(first|apply Kd.R_alloc|apply Kd.R_drewN|apply Kd.R_drew));exact Kd.R_mono ae.out (fun _ hk=>hk.2.2)⟩,⟨bkA I.out⟩,⟨bkA J.out⟩,⟨bkA D.out⟩,⟨hbA HB.out⟩⟩
                     case round=>
                      clear H'
                      (try clear c1);(try clear c2);(try clear p2 p2);(try clear c3);(try clear c4);(try clear c5);(try clear p5);(try clear q5);(try clear qk);(try clear o7);(try clear c6);(try clear p6 p6);(try clear q6);(try clear ql);(try clear o8);(try clear c7);(try clear p7);(try clear q7);(try clear qm);(try clear o9);(try clear c8);(try clear c9);(try clear oy);(try clear gq);(try clear gr);(try clear dc);(try clear c18b0);(try clear io);(try clear ip);(try clear oz);(try clear iq);(try clear ir);(try clear ei);(try clear eb);(try clear c29b0);(try clear df);(try clear c31b0);(try clear c31b1);(try clear ki);(try clear kj);(try clear kk);(try clear kl);(try clear km);(try clear kn);(try clear ec);(try clear c45b0);(try clear c45b1);(try clear mt);(try clear mu);(try clear eo);(try clear c49b0);(try clear c49b1);(try clear ep);(try clear c50b0);(try clear c50b1);(try clear mv);(try clear mw);(try clear er);(try clear c56b0);(try clear gs);(try clear c57b0);(try clear gt);(try clear c58b0);(try clear p59 p59);(try clear f7 f7);(try clear ni);(try clear nb);(try clear o0);(try clear o1);(try clear p64);(try clear gu);(try clear c65b0);(try clear c65b1);(try clear f4);(try clear c66b0);(try clear c66b1);(try clear p67 p67);(try clear f8 f8);(try clear nj);(try clear nc);(try clear gv);(try clear c68b0);(try clear gw);(try clear c69b0);(try clear p70 p70);(try clear f9 f9);(try clear nk);(try clear ne);(try clear gx);(try clear c77b0);(try clear gy);(try clear c78b0);(try clear f6 f6);(try clear ga ga);(try clear nl);(try clear nf);(try clear o2);(try clear o3);(try clear a4 a5 a6 ba bb bc);(try clear a7 a8 a9 bd be bf);(try clear bg bh bi bm bn bo);(try clear bj bk bl bp bq br);(try clear ch ci cj cq cr ct);(try clear ck cl cm cu cv cw);(try clear cn co cp cx cy cz);(try clear dg dh di dm dn dp);(try clear dj dk dl dq dr dt);(try clear et eu ev fb fc fd);(try clear ew ex ey fe ff fg);(try clear ez e0 e1 fh fi fj);(try clear bu bv bw bx bz b0);(try clear e2 e3 e4 fk fl fm);(try clear e5 e6 e7 fo fp fq);(try clear e8 e9 fa fs ft fu);(try clear gi);(try clear el);(try clear gj);(try clear gl)
                      obtain⟨d8,ap,ao,u161002,rfl,HA,en,HO_6,HO_14,HO_161002,I,J,D,HB⟩:=hrel
                      cases gk with
                      |zero=>exact absurd HA.out (by simp[recoupref04_Reduce.l3])
                      |succ k5=>
                       have H:=HA.out;clear HA;simp only[recoupref04_Reduce.l3]at H;by_cases de:ap<am
                       ·rw[if_pos de]at H
                        have c100b0:decide (ap<am)=true:=decide_eq_true de;clear de;by_cases da:ap=(O.length:Int)
                        ·rw[if_pos da]at H
                         have c101b0:(ap==(O.length:Int))=true:=beq_iff_eq.mpr da;have c101b1:(ap !=(O.length:Int))=false:=bne_eq_false_iff_eq.mpr da;clear da;have H':=aK H;clear H;have nv:=aa.out;have n9:=X.out;have nw:=ab.out;have oa:=Y.out;obtain⟨gz,g0,g1,g5,g6,g7⟩:=cell3 D;go_wp2
                         go_roundg k5
                         case measure=>have:=b6.out;have:=a1.out;have:=b2.out;have:=ea.out;have:=en.out;omega
                         case rel=>exact⟨(d8),(wrap64 (ap+1)),(ao),(u161002),rsE,H',⟨by have:=b6.out;have:=a1.out;have:=b2.out;have:=ea.out;have:=en.out;omega⟩,⟨kdA HO_6.out⟩,⟨kdA HO_14.out⟩,⟨kdA HO_161002.out⟩,⟨bkA I.out⟩,⟨bkA J.out⟩,⟨bkA D.out⟩,⟨hbA HB.out⟩⟩
                        ·rw[if_neg da]at H
                         have c101b0:(ap==(O.length:Int))=false:=beq_eq_false_iff_ne.mpr da;have c101b1:(ap !=(O.length:Int))=true:=bne_iff_ne.mpr da;obtain⟨d5,mh,H⟩:=bindO H
                         (try dsimp only at H)
                         have H':=aK H;clear H;have nx:=aa.out;have ob:=X.out;have ny:=ab.out;have oc:=Y.out;obtain⟨g2,g3,g4,g8,g9,ia⟩:=cell3 D;obtain⟨ib,it,ko⟩:=Kd.R_slice HO_161002.out;subst ko
                         go_wp2_with (first|((with_reducible refine gC 49 rfl ?_);refine cG (some 123) Tryd.func49 #[.agg #[.int .i64 am,.int .i64 ah,.slice ib ao.length it],.int .i64 ap,.int .i64 aj] ?_;(with_reducible refine(recoupref03_At.calls am ah _ _ ao ap aj d5 _ ?side1 ?side2 mh.out).mono ?_);(case side1=>exact kcA (Kd.R_reads' HO_161002.out).2.2);(case side2=>exact(Kd.R_reads' HO_161002.out).2.1);rintro e rn ⟨rfl,hb⟩;refine⟨_,rfl,?_⟩;replace HO_6:=kdB HO_6 hb;replace HO_14:=kdB HO_14 hb;replace HO_161002:=kdB HO_161002 hb;replace I:=bkB I hb;replace J:=bkB J hb;replace D:=bkB D hb;replace HB:=hbB HB hb;(try clear hb)))
                         go_loopg [18] k5 (fun kq qr w'=> ∃(ay:List Int) (al:Int) (Z:List Int) (u161002:Value),qr= .int .i64 al∧Aside0 (recoupref04_Reduce.l4 kq O aj (O.length:Int) ay ap d5 al am ah Z=some (r1,r2,r3,r4,r5))∧Aside0 (kq≤k5)∧Aside0 (Kd.R (Kd.int .i64) 3 w' w.heap.size (fun _=>True) (.slice b1 O.length b3) O)∧Aside0 (Kd.R (Kd.int .u8) 5 w' w.heap.size (fun k_=>some k_≠(u161002:Value).ownBlock) db ay)∧Aside0 (Kd.R (Kd.int .u8) 5 w' w.heap.size (fun k_=>some k_≠(db:Value).ownBlock) u161002 Z)∧Aside0 (w'.heap[a2]? =some (.cells #[.int .i64 au,.int .i64 av,(.slice az ar.length a0)] 24 (0,0)))∧Aside0 (w'.heap[aq]? =some (.cells #[.int .i64 0,.int .i64 0,(.slice none 0 0)] 24 (0,0)))∧Aside0 (w'.heap[ax]? =some (.cells #[.int .i64 am,.int .i64 ah,u161002] 24 (0,0)))∧Aside0 (Below w.heap.size w w'))
                         case atStart=>exact⟨(d8),(0),(ao),(.slice ib ao.length it),rsE,H',⟨Nat.le_refl _⟩,⟨kdA HO_6.out⟩,⟨kdA HO_14.out⟩,⟨kdA HO_161002.out⟩,⟨bkA I.out⟩,⟨bkA J.out⟩,⟨bkA D.out⟩,⟨hbA HB.out⟩⟩
                         case round=>
                          clear H'
                          (try clear c1);(try clear c2);(try clear p2 p2);(try clear c3);(try clear c4);(try clear c5);(try clear p5 p5);(try clear q5 q5);(try clear qk);(try clear o7);(try clear c6);(try clear p6 p6);(try clear q6 q6);(try clear ql);(try clear o8);(try clear c7);(try clear p7 p7);(try clear q7 q7);(try clear qm);(try clear o9);(try clear c8);(try clear c9);(try clear ru);(try clear oy);(try clear gq);(try clear gr);(try clear dc);(try clear c18b0);(try clear io);(try clear ip);(try clear oz);(try clear iq);(try clear ir);(try clear ei);(try clear eb);(try clear c29b0);(try clear df);(try clear c31b0);(try clear c31b1);(try clear ki);(try clear kj);(try clear kk);(try clear kl);(try clear km);(try clear kn);(try clear ec);(try clear c45b0);(try clear c45b1);(try clear mt);(try clear mu);(try clear eo);(try clear c49b0);(try clear c49b1);(try clear ep);(try clear c50b0);(try clear c50b1);(try clear mv);(try clear mw);(try clear er);(try clear c56b0);(try clear gs);(try clear c57b0);(try clear gt);(try clear c58b0);(try clear p59 p59);(try clear f7 f7);(try clear ni);(try clear nb);(try clear o0);(try clear o1);(try clear p64 p64);(try clear gu);(try clear c65b0);(try clear c65b1);(try clear f4);(try clear c66b0);(try clear c66b1);(try clear p67 p67);(try clear f8 f8);(try clear nj);(try clear nc);(try clear gv);(try clear c68b0);(try clear gw);(try clear c69b0);(try clear p70 p70);(try clear f9 f9);(try clear nk);(try clear ne);(try clear gx);(try clear c77b0);(try clear gy);(try clear c78b0);(try clear f6 f6);(try clear ga ga);(try clear nl);(try clear nf);(try clear o2);(try clear o3);(try clear de);(try clear c100b0);(try clear da);(try clear c101b0);(try clear c101b1);(try clear q1);(try clear q2);(try clear q3);(try clear q4);(try clear gz g0 g1 g5 g6 g7);(try clear g2 g3 g4 g8 g9 ia);(try clear a4 a5 a6 ba bb bc);(try clear a7 a8 a9 bd be bf);(try clear bg bh bi bm bn bo);(try clear bj bk bl bp bq br);(try clear ch ci cj cq cr ct);(try clear ck cl cm cu cv cw);(try clear cn co cp cx cy cz);(try clear dg dh di dm dn dp);(try clear dj dk dl dq dr dt);(try clear et eu ev fb fc fd);(try clear ew ex ey fe ff fg);(try clear ez e0 e1 fh fi fj);(try clear bu bv bw bx bz b0);(try clear e2 e3 e4 fk fl fm);(try clear e5 e6 e7 fo fp fq);(try clear e8 e9 fa fs ft fu);(try clear gi);(try clear el);(try clear gj);(try clear gl)
                          obtain⟨ay,al,Z,u161002,rfl,HA,jg,HO_6,HO_14,HO_161002,I,J,D,HB⟩:=hrel
                          cases gk with
                          |zero=>exact absurd HA.out (by simp[recoupref04_Reduce.l4])
                          |succ k6=>
                           have H:=HA.out;clear HA;simp only[recoupref04_Reduce.l4]at H;by_cases ed:al<ah
                           ·rw[if_pos ed]at H
                            have c111b0:decide (al<ah)=true:=decide_eq_true ed;clear ed;obtain⟨ak,ek⟩: ∃j_:Int,(wrap64 ((wrap64 (ap*ah))+al))=j_:=⟨_,rfl⟩
                            replace H:(if 0≤(ak)then(if(ak)<(Z.length:Int)then(if 0≤al then(if al<(ay.length:Int)then((recoupref01_Mul.f k6 d5 (rd ay al)).bind fun d6=>(recoupref04_Reduce.l4 k6 O aj (O.length:Int) ay ap d5 (wrap64 (al+1)) am ah (Z.set ((ak):Int).toNat (Go.bits .xor .u8 (rd Z (ak)) d6))))else(none))else(none))else(none))else(none))=some (r1,r2,r3,r4,r5):=by first|(rw[ek]at H;exact H)|(simp only[ek]at H⊢;exact H)
                            have hji112w:(IntKind.i64.wrap ((wrap64 (ap*ah))+al))=ak:=(i64_w _).trans ek;by_cases gb:0≤(ak)
                            ·rw[if_pos gb]at H
                             have c113b0:decide (0≤(ak))=true:=decide_eq_true gb;clear gb;by_cases gc:(ak)<(Z.length:Int)
                             ·rw[if_pos gc]at H
                              have c114b0:decide ((ak)<(Z.length:Int))=true:=decide_eq_true gc;clear gc;by_cases ge:0≤al
                              ·rw[if_pos ge]at H
                               have c115b0:decide (0≤al)=true:=decide_eq_true ge;clear ge;by_cases gf:al<(ay.length:Int)
                               ·rw[if_pos gf]at H
                                have c116b0:decide (al<(ay.length:Int))=true:=decide_eq_true gf;clear gf;obtain⟨d6,mi,H⟩:=bindO H
                                (try dsimp only at H)
                                obtain⟨j0,d1⟩: ∃y_:List Int,y_=(Z.set ((ak):Int).toNat (Go.bits .xor .u8 (rd Z (ak)) d6)):=⟨_,rfl⟩
                                replace H:(recoupref04_Reduce.l4 k6 O aj (O.length:Int) ay ap d5 (wrap64 (al+1)) am ah j0)=some (r1,r2,r3,r4,r5):=by first|(rw[d1];with_reducible exact H)|(have H2_:=(Option.bind_some _ _).symm.trans H;rw[d1];with_reducible exact H2_)|(have H2_:=(Option.bind_some _ _).symm.trans H;with_reducible exact H2_)|with_reducible exact H|(rw[d1];exact H)|exact H
                                have kg:=aK d1;clear d1;have H':=aK H;clear H;have nz:=aa.out;have od:=X.out;have n0:=ab.out;have oe:=Y.out;obtain⟨kw,kx,ky,lq,lr,ls⟩:=cell3 D
                                try go_wp2
                                replace HO_6:=aK (Kd.R_drew HO_6.out);replace HO_14:=aK (Kd.R_drew HO_14.out);replace HO_161002:=aK (Kd.R_drew HO_161002.out);replace I:=aK (blk_drew I.out);replace J:=aK (blk_drew J.out);replace D:=aK (blk_drew D.out);replace HB:=aK (below_drew1 HB.out);obtain⟨ot,iu,iw⟩:=Kd.R_slice HO_161002.out
                                (first|subst iw|(injection iw with f1_ f2_ f3_;have f4_:=f1_.symm;have f5_:=f3_.symm;clear f1_ f2_ f3_;subst f4_;subst f5_))
                                have i4:0≤((ak):Int):=of_decide_eq_true asE;have i7:(ak)<(Z.length:Int):=of_decide_eq_true asE;obtain⟨im,mx,du⟩:=Kd.at_int (Kd.R_reads' HO_161002.out).2.2 (ak) i4 i7
                                cases mx
                                replace i4:=eq_true i4;replace i7:=eq_true i7;obtain⟨ou,o6,ix⟩:=Kd.R_slice HO_14.out
                                (first|subst ix|(injection ix with f1_ f2_ f3_;have f4_:=f1_.symm;have f5_:=f3_.symm;clear f1_ f2_ f3_;subst f4_;subst f5_))
                                have i5:0≤(al:Int):=of_decide_eq_true asE;have i8:al<(ay.length:Int):=of_decide_eq_true asE;obtain⟨kh,my,fv⟩:=Kd.at_int (Kd.R_reads' HO_14.out).2.2 al i5 i8
                                cases my
                                replace i5:=eq_true i5;replace i8:=eq_true i8;refine start_ (n:=19) (S:=fun w'=>w'.cell? ⟨ax,0,none⟩=some (.int .i64 am)∧w'.cell? ⟨ax,1,none⟩=some (.int .i64 ah)∧w'.cell? ⟨ax,2,none⟩=some (.slice (some im) Z.length iu)∧w'.cell? (im.add ((ak)).toNat)=some (.int .u8 (rd Z (ak)))∧w'.cell? (kh.add (al).toNat)=some (.int .u8 (rd ay al))) (ds:= [18]) (.replicate 19 false) zb rfl rfl ⟨(blk_cell D.out 0).trans rfl,(blk_cell D.out 1).trans rfl,(blk_cell D.out 2).trans rfl,du,fv⟩ (fun hHeld=>?_);refine with_tabW recoupref04_Reduce.tab32 recoupref04_Reduce.bits32 (fun HT_ HW_=>?_);generalize wr.drew=ro at HO_6 HO_14 HO_161002 I J D HB du fv hHeld⊢;refine pu 0 (some 130) (mB 19 1) HT_ ?_;refine pu 2 (some 132) (mB 19 5) HT_ ?_;refine pu 3 (some 133) (mB 19 13) HT_ ?_;refine pu 6 (some 136) (mB 19 77) HT_ ?_;refine pu 10 (some 140) (mB 19 1101) HT_ ?_;refine pu 11 (some 141) (mB 19 3149) HT_ ?_;refine pu 12 (some 142) (mB 19 7245) HT_ ?_;refine pu 13 (some 143) (mB 19 15437) HT_ ?_;refine tk5 1 (some 131) (mB 19 15439) HT_ HW_ hHeld ?_;refine tk5 4 (some 134) (mB 19 15455) HT_ HW_ hHeld ?_;refine pu 5 (some 135) (mB 19 15487) HT_ ?_;refine pu 7 (some 137) (mB 19 15615) HT_ ?_;refine pu 8 (some 138) (mB 19 15871) HT_ ?_;refine tk5 9 (some 139) (mB 19 16383) HT_ HW_ hHeld ?_;refine tk5 14 (some 144) (mB 19 32767) HT_ HW_ hHeld ?_;refine zoh 15 (some 145) (mB 19 65535) HT_ fun K hK=>?_;refine goes_ Tryd.func78 zb rfl #[.int .u8 d5,.int .u8 (rd ay al)] ze rfl rfl (by(try simp only[List.map_toArray,List.map_cons,List.map_nil]);first|done|rfl|(simp only[List.length_drop,List.length_take];rfl)) ?_;with_reducible refine(recoupref01_Mul.calls k6 d5 (rd ay al) d6 _ mi.out).mono ?_
                                rintro e w' ⟨rfl,⟨nd,rfl⟩⟩;refine⟨_,rfl,?_⟩;have i3:0≤((ak):Int):=of_decide_eq_true asE;have i6:((ak):Int)<((Z.length:Int):Int):=of_decide_eq_true asE;obtain⟨ej,o5,iv,iy,kr,o4,ig⟩:=Kd.R_form HO_161002.out za
                                (first|cases iv|(injection iv with ea_ en_ ec_;(first|subst ea_|(injection ea_ with ea_;subst ea_));subst ec_;clear en_))
                                have ov:=aK iy;have j5:=aK ig;clear iy kr ig
                                (first|simp only[add_plain]at du|skip)
                                obtain⟨nh,na⟩:=Kd.R_celln 0 HO_161002.out ((ak):Int) i3 i6;replace i3:=eq_true i3;replace i6:=eq_true i6;have fz:=Kd.R_putn HO_161002.out ((ak):Int) (Go.bits .xor .u8 (rd Z (ak)) d6);rw[←kg.out]at fz
                                have ka:=aK fz;clear fz;refine hK.out _ _ ⟨(blk_cell D.out 0).trans rfl,(blk_cell D.out 1).trans rfl,(blk_cell D.out 2).trans rfl,hHeld.2.2.2.1,hHeld.2.2.2.2⟩ (fun hHeld=>?_);clear hK K;refine znm (some 145) ?_;refine pu 16 (some 146) (mB 19 131071) HT_ ?_;refine pu 17 (some 147) (mB 19 262143) HT_ ?_;refine zlh 18 (none) (mB 19 524287) HT_ fun K hK=>?_;refine zsk ?_;refine hK.out _ _ ?_;clear hK K;refine done_ (done_of HT_.out zb) ?_
                                try go_wp2
                                go_roundg k6
                                case measure=>have:=b6.out;have:=a1.out;have:=b2.out;have:=ea.out;have:=en.out;have:=jg.out;omega
                                case rel=>exact⟨(ay),(wrap64 (al+1)),(j0),(.slice (some ⟨ej,0,none⟩) Z.length iu),rsE,H',⟨by have:=b6.out;have:=a1.out;have:=b2.out;have:=ea.out;have:=en.out;have:=jg.out;omega⟩,⟨by(with_reducible repeat(first|apply Kd.R_alloc|apply Kd.R_drewN|apply Kd.R_drew));exact Kd.R_mono (Kd.R_far (p:=⟨ej,((ak):Int).toNat,none⟩) (Kd.R_types HO_6.out j5.out zc) (fun _ hk=>hk.2) (.int .u8 (Go.bits .xor .u8 (rd Z (ak)) d6))) (fun _ hk=>trivial)⟩,⟨by(with_reducible repeat(first|apply Kd.R_alloc|apply Kd.R_drewN|apply Kd.R_drew));exact Kd.R_mono (Kd.R_far (p:=⟨ej,((ak):Int).toNat,none⟩) (Kd.R_mono HO_14.out (fun k_ hk=>(⟨hk,fun e_=>hk (by rw[e_];rfl)⟩:_∧k_≠ej))) (fun _ hk=>hk.2) (.int .u8 (Go.bits .xor .u8 (rd Z (ak)) d6))) (fun _ hk=>hk.1)⟩,⟨kdA ka.out⟩,⟨by refine bkR ?_;refine blk_far ?_ (by have h_:=Kd.R_ne HO_161002.out I.out zc;intro e_;exact h_ (by rw[e_];rfl)) _;refine bkR ?_;exact I.out⟩,⟨by refine bkR ?_;refine blk_far ?_ (by have h_:=Kd.R_ne HO_161002.out J.out zc;intro e_;exact h_ (by rw[e_];rfl)) _;refine bkR ?_;exact J.out⟩,⟨by refine bkR ?_;refine blk_far ?_ (by have h_:=Kd.R_ne HO_161002.out D.out zc;intro e_;exact h_ (by rw[e_];rfl)) _;refine bkR ?_;exact D.out⟩,⟨hbA HB.out⟩⟩
                               ·rw[if_neg gf]at H
                                exact absurd H zd
                              ·rw[if_neg ge]at H
                               exact absurd H zd
                             ·rw[if_neg gc]at H
                              exact absurd H zd
                            ·rw[if_neg gb]at H
                             exact absurd H zd
                           ·rw[if_neg ed]at H
                            have c111b0:decide (al<ah)=false:=decide_eq_false ed;clear ed;have H':=aK H;clear H;have n1:=aa.out;have og:=X.out;have n2:=ab.out;have oh:=Y.out;obtain⟨kz,k0,k2,lt,lu,lv⟩:=cell3 D;go_wp2
                            go_roundg k6
                            case measure=>have:=b6.out;have:=a1.out;have:=b2.out;have:=ea.out;have:=en.out;have:=jg.out;omega
                            case rel=>exact⟨(ay),(wrap64 (ap+1)),(Z),(u161002),rsE,H',⟨by have:=b6.out;have:=a1.out;have:=b2.out;have:=ea.out;have:=en.out;have:=jg.out;omega⟩,⟨kdA HO_6.out⟩,⟨kdA HO_14.out⟩,⟨kdA HO_161002.out⟩,⟨bkA I.out⟩,⟨bkA J.out⟩,⟨bkA D.out⟩,⟨hbA HB.out⟩⟩
                       ·rw[if_neg de]at H
                        have c100b0:decide (ap<am)=false:=decide_eq_false de;clear de;by_cases gg:O.length<17592186044416
                        ·rw[if_pos gg]at H
                         have jh:=aK gg;clear gg;obtain⟨jz,d0⟩: ∃y_:List Int,y_=(O++ [aj]):=⟨_,rfl⟩
                         replace H:(recoupref04_Reduce.l0 k5 jz (wrap64 (aj+1)) am ah ao)=some (r1,r2,r3,r4,r5):=by first|(rw[d0];with_reducible exact H)|(have H2_:=(Option.bind_some _ _).symm.trans H;rw[d0];with_reducible exact H2_)|(have H2_:=(Option.bind_some _ _).symm.trans H;with_reducible exact H2_)|with_reducible exact H|(rw[d0];exact H)|exact H
                         have kf:=aK d0;clear d0;have H':=aK H;clear H;have n3:=aa.out;have ol:=X.out;have n4:=ab.out;have om:=Y.out;obtain⟨k7,k8,k9,lw,lx,ly⟩:=cell3 D
                         go_wp2_with (first|((with_reducible refine gate_builtin (b:= .append) (xs:= #[.tmp 148,.tmp 150]) rfl ?_);(try(refine gate_guard ze ?_;dsimp only));at_builtin;refine Kd.R_append (Kd.int .i64) (w0:=w) w.heap.size rfl (.tmp 148) (.tmp 150) 56 3 (.int .i64 0) 8 rfl Tryd.underlying56 info3 rfl zc za (.slice b1 O.length b3) O aj [.int .i64 aj] (fun _=>True) (fun _=>False) rfl rfl ?aP (fun _ hk=>hk.elim) ?aF ?aO ?aB ?aS ?aL ?_;(case aP=>exact rfl);(case aB=>exact(hbA HB.out));(case aF=>exact(fun _ _=>trivial));(case aO=>exact(kdA HO_6.out));(case aS=>exact(below_size (hbA HB.out)));(case aL=>have:=jh.out;omega);intro rm rp ho hb hg hat;rw[←kf.out]at ho;have n0_:=aK (Kd.R_over' (kdA HO_14.out) (Kd.R_typed (kdA HO_6.out)) zc hg);have n1_:=aK (Kd.R_over' (kdA HO_161002.out) (Kd.R_typed (kdA HO_6.out)) zc hg);have n2_:=aK (blk_grown (g:=a2) (o:= .cells #[.int .i64 au,.int .i64 av,.slice az ar.length a0] 24 (0,0)) (bkA I.out) hg (Kd.R_ne HO_6.out I.out zc));have n3_:=aK (blk_grown (g:=aq) (o:= .cells #[.int .i64 0,.int .i64 0,.slice none 0 0] 24 (0,0)) (bkA J.out) hg (Kd.R_ne HO_6.out J.out zc));have n4_:=aK (blk_grown (g:=ax) (o:= .cells #[.int .i64 am,.int .i64 ah,u161002] 24 (0,0)) (bkA D.out) hg (Kd.R_ne HO_6.out D.out zc));have n5_:=aK (hb);have n6_:=aK (ho);clear HO_14;clear HO_161002;clear I;clear J;clear D;clear HB;clear HO_6;have HO_14:=n0_;have HO_161002:=n1_;have I:=n2_;have J:=n3_;have D:=n4_;have HB:=n5_;have j9:=n6_;clear n0_ n1_ n2_ n3_ n4_ n5_ n6_;clear ho hb hg hat))
                         go_roundg k5
                         case measure=>have:=b6.out;have:=a1.out;have:=b2.out;have:=ea.out;have:=en.out;omega
                         case rel=>exact⟨(jz),(wrap64 (aj+1)),(am),(ah),(ao),(u161002),rsE,H',⟨by have:=b6.out;have:=a1.out;have:=b2.out;have:=ea.out;have:=en.out;omega⟩,⟨kdA j9.out⟩,⟨by(with_reducible repeat(first|apply Kd.R_alloc|apply Kd.R_drewN|apply Kd.R_drew));exact Kd.R_mono HO_161002.out (fun _ hk=>trivial)⟩,⟨bkA I.out⟩,⟨bkA J.out⟩,⟨bkA D.out⟩,⟨hbA HB.out⟩⟩
                        ·rw[if_neg gg]at H
                         exact absurd H zd
                    ·rw[if_neg gy]at H
                     exact absurd H zd
                   ·rw[if_neg gx]at H
                    exact absurd H zd
                  ·rw[if_neg gw]at H
                   exact absurd H zd
                 ·rw[if_neg gv]at H
                  exact absurd H zd
                ·rw[if_neg f4]at H
                 exact absurd H zd
               ·rw[if_neg gu]at H
                exact absurd H zd
           ·rw[if_neg ep]at H
            exact absurd H zd
          ·rw[if_neg eo]at H
           exact absurd H zd
      ·replace ei:=Bool.eq_false_iff.mpr ei;subst ei;rw[if_neg nofT]at H
       simp only[Option.some.injEq,Prod.mk.injEq]at H;obtain⟨rfl,rfl,rfl,rfl,rfl⟩:=H;have n5:=aa.out;have oo:=X.out;have n6:=ab.out;have op:=Y.out;obtain⟨la,lb,lc,lz,l5,l6⟩:=cell3 D;have n7:=bt.out;have oq:=bs.out;obtain⟨ld,le,lf,l7,l8,l9⟩:=cell3 J;obtain⟨fx,f5,kp⟩:=Kd.R_slice HO_161002.out;subst kp;go_wp2;refine bodyPost_ret (results_ctt rfl _ _ aq 24 #[.int .i64 G,.int .i64 U,.slice fx L.length f5] (0,0) _ rfl (by refine bkR ?_;refine blk_put (cs:= #[.int .i64 G,.int .i64 U,.slice none 0 0]) ?_ 2 _ rfl;refine bkR ?_;refine blk_put (cs:= #[.int .i64 G,.int .i64 0,.slice none 0 0]) ?_ 1 _ rfl;refine bkR ?_;refine blk_put (cs:= #[.int .i64 0,.int .i64 0,.slice none 0 0]) ?_ 0 _ rfl;refine bkR ?_;exact J.out) Tryd.underlying24 rfl zb) rfl ?_;exact⟨_,_,rfE,by(with_reducible repeat(first|apply Kd.R_alloc|apply Kd.R_drewN|apply Kd.R_drew));exact Kd.R_mono (Kd.R_far (p:=⟨aq,2,none⟩) (Kd.R_far (p:=⟨aq,1,none⟩) (Kd.R_far (p:=⟨aq,0,none⟩) (Kd.R_types HO_161002.out J.out zc) (fun _ hk=>hk.2) (.int .i64 G)) (fun _ hk=>hk.2) (.int .i64 U)) (fun _ hk=>hk.2) (.slice fx L.length f5)) (fun _ hk=>trivial),by(with_reducible repeat(first|apply Kd.R_alloc|apply Kd.R_drewN|apply Kd.R_drew));exact Kd.R_mono (Kd.R_far (p:=⟨aq,2,none⟩) (Kd.R_far (p:=⟨aq,1,none⟩) (Kd.R_far (p:=⟨aq,0,none⟩) (Kd.R_types HO_6.out J.out zc) (fun _ hk=>hk.2) (.int .i64 G)) (fun _ hk=>hk.2) (.int .i64 U)) (fun _ hk=>hk.2) (.slice fx L.length f5)) (fun _ hk=>trivial),hbA HB.out⟩
 ·replace c3:=Bool.eq_false_iff.mpr c3;subst c3;rw[if_neg nofT]at H
  simp only[Option.some.injEq,Prod.mk.injEq]at H;obtain⟨rfl,rfl,rfl,rfl,rfl⟩:=H
  go_enter Tryd.func96,Tryd.ntmps96
  go_wp2_with (first|((with_reducible refine gD 1 rfl ?_);(try(refine gate_guard ze ?_;dsimp only));refine bE 1 #[.int .i64 au,.int .i64 av,.slice az ar.length a0] 24 ?_;intro a2 hg rq hbox hb;have I:=aK (hbox);have j6:=hbS HB hg;have j2:=hbS HB hg;replace HB:=hbB HB hb;clear hb hbox hg)|((with_reducible refine gD 2 rfl ?_);(try(refine gate_guard ze ?_;dsimp only));refine bE 2 #[.int .i64 0,.int .i64 0,.slice none 0 0] 24 ?_;intro aq hg rr hbox hb;have J:=aK (hbox);have j7:=hbS HB hg;have j4:=hbS HB hg;replace HB:=hbB HB hb;have bs:=neL I hg;have bt:=neG I hg;replace I:=bkB I hb;clear hb hbox hg;have n8:=bs.out;have os:=bt.out;obtain⟨lg,lh,ll,ma,mb,mc⟩:=cell3 I)|((with_reducible refine gC 45 rfl ?_);refine cG (some 20) Tryd.func45 #[.agg #[.int .i64 au,.int .i64 av,.slice az ar.length a0]] ?_;(with_reducible refine(recoupref03_Right.calls au av _ _ ar false _ ?side1 ?side2 A2.out).mono ?_);(case side1=>exact kcB f0 HB);(case side2=>exact fy.out);rintro e rt ⟨rfl,hb⟩;refine⟨_,rfl,?_⟩;replace I:=bkB I hb;replace J:=bkB J hb;replace HB:=hbB HB hb;(try clear hb);obtain⟨lm,ln,lp,me,mf,mg⟩:=cell3 J))
  refine bodyPost_ret (results_ctt rfl _ _ aq 24 #[.int .i64 0,.int .i64 0,.slice none 0 0] (0,0) _ rfl (by refine bkR ?_;refine blk_put (cs:= #[.int .i64 0,.int .i64 0,.slice none 0 0]) ?_ 2 _ rfl;refine bkR ?_;refine blk_put (cs:= #[.int .i64 0,.int .i64 0,.slice none 0 0]) ?_ 1 _ rfl;refine bkR ?_;refine blk_put (cs:= #[.int .i64 0,.int .i64 0,.slice none 0 0]) ?_ 0 _ rfl;refine bkR ?_;exact J.out) Tryd.underlying24 rfl zb) rfl ?_;exact⟨_,_,rfE,nilE,nilE,hbA HB.out⟩
end Go.Proofs.YtjgcocfnilhggaaDoor.Q
namespace Go.Proofs.YtjgcocfnilhggaaDoor.Q
open Go.RowKit Go.Proofs.YtjgcocfnilhggaaDoorW.PrintWords Go.Proofs.YtjgcocfnilhggaaDoorW.PrintLast Go.Proofs.YtjgcocfnilhggaaDoorW.PrintMore
attribute [local go_sem] max2_int min2_int max_two min_two max_three min_three max_four min_four
set_option linter.unusedVariables false
set_option linter.unusedSimpArgs false
def recoupref04_Rank.f(k:Nat)(G:Int)(I:Int)(J:List Int):Option (Int×Int):=(recoupref04_Reduce.f k G I J).bind fun D=>(some ((D.2.2.2.1.length:Int),D.2.2.2.2))
set_option maxHeartbeats 8000000 in
set_option maxRecDepth 100000 in
theorem recoupref04_Rank.calls(k:Nat)(I:Int)(J:Int)(Y:Option Addr)(Z:Nat)(G:List Int)(r1:Int)(r2:Int)(w:World)(ac:Kd.C (Kd.int .u8) w Y G.length G)(ab:G.length≤Z)(h:recoupref04_Rank.f k I J G=some (r1,r2)):
 Calls Tryd.prog 76 #[.agg #[.int .i64 I,.int .i64 J,.slice Y G.length Z]] w fun e w'=>e= .returned (.tuple #[.int .i64 r1,.int .i64 r2])∧Below w.heap.size w w':=by
 have be:=Tryd.underlying24;have ag:=aK ac;have af:=aK ab;clear ac ab;have HB:=aK (Below.refl w.heap.size w);have H:((recoupref04_Reduce.f k I J G).bind fun aa=>(some ((aa.2.2.2.1.length:Int),aa.2.2.2.2)))=some (r1,r2):=h;clear h;obtain⟨⟨ak,al,am,an,ao⟩,A2,H⟩:=bindO H
 (try dsimp only at H)
 simp only[Option.some.injEq,Prod.mk.injEq]at H;obtain⟨rfl,rfl⟩:=H
 go_enter Tryd.func76,Tryd.ntmps76
 go_wp2_with (first|((with_reducible refine gD 1 rfl ?_);refine bE 1 #[.int .i64 I,.int .i64 J,.slice Y G.length Z] 24 ?_;intro a8 hg w3 hbox hb;have D:=aK (hbox);have a5:=hbS HB hg;have a3:=hbS HB hg;replace HB:=hbB HB hb;clear hb hbox hg;obtain⟨ap,aq,ar,ax,ay,az⟩:=cell3 D)|((with_reducible refine gC 96 rfl ?_);refine cG (some 9) Tryd.func96 #[.agg #[.int .i64 I,.int .i64 J,.slice Y G.length Z]] ?_;(with_reducible refine(recoupref04_Reduce.calls k I J _ _ G ak al am an ao _ ?side1 ?side2 A2.out).mono ?_);(case side1=>exact kcB ag HB);(case side2=>exact af.out);rintro e w5 ⟨bf,bg,rfl,ai,aj,hb⟩;refine⟨_,rfl,?_⟩;have L:=aK (Kd.R_lower ai (below_size (hbA HB.out)));have O:=aK (Kd.R_lower aj (below_size (hbA HB.out)));replace D:=bkB D hb;replace HB:=hbB HB hb;(try clear hb);(try clear ai);(try clear aj))|((with_reducible refine gD 4 rfl ?_);refine bE 4 #[.int .i64 0,.int .i64 0,.slice none 0 0] 24 ?_;intro a9 hg w6 hbox hb;replace L:=kdB L hb;replace O:=kdB O hb;have ae:=aK (hbox);have a6:=hbS HB hg;have a4:=hbS HB hg;replace HB:=hbB HB hb;have U:=neL D hg;have X:=neG D hg;replace D:=bkB D hb;clear hb hbox hg;have bc:=X.out;have bd:=U.out;obtain⟨au,av,aw,a0,a1,a2⟩:=cell3 ae;obtain⟨bh,bi,a7⟩:=Kd.R_slice L.out;subst a7;obtain⟨ba,bb,ah⟩:=Kd.R_slice O.out;subst ah))
 go_ret2
 exact⟨rfE,hbA HB.out⟩
def recoupref07_rank.f(k:Nat)(I:Int)(J:Int)(L:List Int)(a1:Int):Option (Int):=(recoupref06_List.f k a1).bind fun O=>((recoupref03_Pick.f k I J L O).bind fun D=>((recoupref04_Rank.f k D.1 D.2.1 D.2.2.1).bind fun G=>(some G.1)))
def recoupref07_rank.T1:Bool×List (List Nat×List Nat):=(true,[([],[]),([],[]),([1],[1]),([0,2,2],[0,2]),([3],[3]),([4],[4]),([4],[4]),([],[]),([7,5,3,0,1,2,3,4,5,7],[5,7]),([6,8,0,1,2,3,4,5,6,7,8],[6])])
def recoupref07_rank.B1:List Nat:= [0,0,2,7,15,31,31,0,191,511]
theorem recoupref07_rank.tab1:rtab .any (opsOf Tryd.f47 1)=recoupref07_rank.T1:=by kernel_rfl
theorem recoupref07_rank.bits1:waitsOk recoupref07_rank.T1.2 recoupref07_rank.B1=true:=by kernel_rfl
set_option maxHeartbeats 8000000 in
set_option maxRecDepth 100000 in
theorem recoupref07_rank.calls(k:Nat)(Z:Int)(aa:Int)(af:Option Addr)(ag:Nat)(X:List Int)(a1:Int)(r:Int)(w:World)(az:Kd.C (Kd.int .u8) w af X.length X)(ay:X.length≤ag)(h:recoupref07_rank.f k Z aa X a1=some r):
 Calls Tryd.prog 47 #[.agg #[.int .i64 Z,.int .i64 aa,.slice af X.length ag],.int .u64 a1] w fun e w'=>e= .returned (.int .i64 r)∧Below w.heap.size w w':=by
 have bx:=Tryd.underlying24;have aw:=aK az;have av:=aK ay;clear az ay;have HB:=aK (Below.refl w.heap.size w);have H:((recoupref06_List.f k a1).bind fun ab=>((recoupref03_Pick.f k Z aa X ab).bind fun ax=>((recoupref04_Rank.f k ax.1 ax.2.1 ax.2.2.1).bind fun a4=>(some a4.1))))=some r:=h;clear h;obtain⟨ab,A3,H⟩:=bindO H
 (try dsimp only at H)
 obtain⟨⟨ac,ae,ah,ao⟩,A4,H⟩:=bindO H
 (try dsimp only at H)
 obtain⟨⟨bk,bl⟩,A5,H⟩:=bindO H
 (try dsimp only at H)
 obtain rfl:=Option.some.inj H
 go_enter Tryd.func47,Tryd.ntmps47
 try go_wp2_with (first|((with_reducible refine gD 2 rfl ?_);refine bE 2 #[.int .i64 Z,.int .i64 aa,.slice af X.length ag] 24 ?_;intro U hg w6 hbox hb;have D:=aK (hbox);have bo:=hbS HB hg;have bn:=hbS HB hg;replace HB:=hbB HB hb;clear hb hbox hg))
 replace D:=aK (blk_drew D.out);replace HB:=aK (below_drew1 HB.out);refine start_ (n:=10) (S:=fun w'=>w'.cell? ⟨U,0,none⟩=some (.int .i64 Z)∧w'.cell? ⟨U,1,none⟩=some (.int .i64 aa)∧w'.cell? ⟨U,2,none⟩=some (.slice af X.length ag)) (ds:= []) (.replicate 10 false) zb rfl rfl ⟨(blk_cell D.out 0).trans rfl,(blk_cell D.out 1).trans rfl,(blk_cell D.out 2).trans rfl⟩ (fun hHeld=>?_);refine with_tabW recoupref07_rank.tab1 recoupref07_rank.bits1 (fun HT_ HW_=>?_);generalize w6.drew=w7 at D HB hHeld⊢;refine pu 1 (some 11) (mB 10 2) HT_ ?_;refine tk3 0 (some 10) (mB 10 3) HT_ HW_ hHeld ?_;refine join_ (σ:=Value×Value×Nat) 2 (mB 10 255) (fun s_=> [(12,s_.1),(13,.tuple #[.agg #[.int .i64 ac,.int .i64 ae,s_.2.1],.int .i64 ao]),(5,.pointer (some ⟨s_.2.2,0,none⟩)),(9,.tuple #[.agg #[.int .i64 ac,.int .i64 ae,s_.2.1],.int .i64 ao]),(14,.agg #[.int .i64 ac,.int .i64 ae,s_.2.1]),(15,.int .i64 ao)]) (fun s_ w'=>(w'.cell? ⟨U,0,none⟩=some (.int .i64 Z)∧w'.cell? ⟨U,1,none⟩=some (.int .i64 aa)∧w'.cell? ⟨U,2,none⟩=some (.slice af X.length ag))∧(Kd.R (Kd.int .i64) 3 w' w.heap.size (fun _=>True) s_.1 ab)∧(Kd.R (Kd.int .u8) 5 w' w.heap.size (fun _=>True) s_.2.1 ah)∧(w'.heap[U]? =some (.cells #[.int .i64 Z,.int .i64 aa,.slice af X.length ag] 24 (0,0)))∧(w'.heap[s_.2.2]? =some (.cells #[.int .i64 0,.int .i64 0,.slice none 0 0] 24 (0,0)))∧(w.heap.size≤s_.2.2)∧(w.heap.size≤s_.2.2)∧(U≠s_.2.2)∧(s_.2.2≠U)∧(Below w.heap.size w w')) ?_ ?_;rotate_left
 ·intro hCont;refine two_ (i:=2) (j:=7) (Ni:=some 12) (Nj:=some 5) (mB 10 7) (mB 10 131) rfl rfl rfl rfl (two_of HT_.out zb) zc zc (fun K hK=>?_) (fun K hK=>?_)
  ·skip
   refine goes_ Tryd.func23 zb rfl #[.int .u64 a1] ze rfl rfl (by(try simp only[List.map_toArray,List.map_cons,List.map_nil]);first|done|rfl|(simp only[List.length_drop,List.length_take];rfl)) ?_;with_reducible refine(recoupref06_List.calls k a1 ab _ A3.out).mono ?_
   rintro e w8 ⟨a0,rfl,ai,hb⟩;refine⟨_,rfl,?_⟩;have I:=aK (Kd.R_lower ai (below_size (hbA HB.out)));replace D:=bkB D hb;replace HB:=hbB HB hb
   (try clear hb)
   (try clear a2)
   (try clear hk)
   (try clear hi)
   (try clear ai)
   obtain⟨a5,a6,a7⟩:=Kd.R_slice I.out
   (first|subst a7|(injection a7 with f1_ f2_ f3_;have f4_:=f1_.symm;have f5_:=f3_.symm;clear f1_ f2_ f3_;subst f4_;subst f5_))
   refine hK.out _ _ ⟨(blk_cell D.out 0).trans rfl,(blk_cell D.out 1).trans rfl,(blk_cell D.out 2).trans rfl⟩ (fun hHeld=>?_);clear hK K;refine znm (some 12) ?_;refine two_ (i:=3) (j:=7) (Ni:=some 13) (Nj:=some 5) (mB 10 15) (mB 10 135) rfl rfl rfl rfl (two_of HT_.out zb) zc zc (fun K hK=>?_) (fun K hK=>?_)
   ·skip
    refine goes_ Tryd.func43 zb rfl #[.agg #[.int .i64 Z,.int .i64 aa,.slice af X.length ag],.slice a5 ab.length a6] ze rfl rfl (by(try simp only[List.map_toArray,List.map_cons,List.map_nil]);first|done|rfl|(simp only[List.length_drop,List.length_take];rfl)) ?_;with_reducible refine(recoupref03_Pick.calls k Z aa _ _ X _ _ ab ac ae ah ao _ ?side1 ?side2 ?side3 ?side4 A4.out).mono ?_
    (case side1=>exact kcB aw HB)
    (case side2=>exact av.out)
    (case side3=>exact kcA (Kd.R_reads' I.out).2.2)
    (case side4=>exact(Kd.R_reads' I.out).2.1)
    rintro e bz ⟨al,rfl,ai,hb⟩;refine⟨_,rfl,?_⟩;replace I:=kdB I hb;have Y:=aK (Kd.R_lower ai (below_size (hbA HB.out)));replace D:=bkB D hb;replace HB:=hbB HB hb
    (try clear hb)
    (try clear a2)
    (try clear hk)
    (try clear hi)
    (try clear ai)
    refine hK.out _ _ ⟨(blk_cell D.out 0).trans rfl,(blk_cell D.out 1).trans rfl,(blk_cell D.out 2).trans rfl⟩ (fun hHeld=>?_);clear hK K;refine znm (some 13) ?_;refine pu 4 (some 9) (mB 10 31) HT_ ?_;refine pu 5 (some 14) (mB 10 63) HT_ ?_;refine pu 6 (some 15) (mB 10 127) HT_ ?_;refine zoh 7 (some 5) (mB 10 255) HT_ fun K hK=>?_;refine box_step ?hg (N:=5) ?hd (cs:= #[.int .i64 0,.int .i64 0,.slice none 0 0]) (t:=24) ?hr ?_;(case hd=>rfl);(case hg=>rfl);(case hr=>first|(go_simp;done)|(go_simp;rfl))
    intro L hg bm hbox hb;replace I:=kdB I hb;replace Y:=kdB Y hb;have J:=aK (hbox);have ak:=hbS HB hg;have aj:=hbS HB hg;replace HB:=hbB HB hb;have G:=neL D hg;have O:=neG D hg;replace D:=bkB D hb;clear hb hbox hg;refine hK.out _ _ ⟨(blk_cell D.out 0).trans rfl,(blk_cell D.out 1).trans rfl,(blk_cell D.out 2).trans rfl⟩ (fun hHeld=>?_);clear hK K;refine znm (some 5) ?_;exact norm_ zj (hCont (.slice a5 ab.length a6,al,L) _ ⟨hHeld,(kdA I.out),(kdA Y.out),(bkA D.out),(bkA J.out),ak.out,aj.out,G.out,O.out,(hbA HB.out)⟩)
   ·skip
    refine box_step ?hg (N:=5) ?hd (cs:= #[.int .i64 0,.int .i64 0,.slice none 0 0]) (t:=24) ?hr ?_;(case hd=>rfl);(case hg=>rfl);(case hr=>first|(go_simp;done)|(go_simp;rfl))
    intro L hg w9 hbox hb;replace I:=kdB I hb;have J:=aK (hbox);have ak:=hbS HB hg;have aj:=hbS HB hg;replace HB:=hbB HB hb;have G:=neL D hg;have O:=neG D hg;replace D:=bkB D hb;clear hb hbox hg;obtain⟨ap,ar,au⟩:=Kd.R_slice I.out
    (first|subst au|(injection au with f1_ f2_ f3_;have f4_:=f1_.symm;have f5_:=f3_.symm;clear f1_ f2_ f3_;subst f4_;subst f5_))
    refine hK.out _ _ ⟨(blk_cell D.out 0).trans rfl,(blk_cell D.out 1).trans rfl,(blk_cell D.out 2).trans rfl⟩ (fun hHeld=>?_);clear hK K;refine znm (some 5) ?_;refine zoh 3 (some 13) (mB 10 143) HT_ fun K hK=>?_;refine goes_ Tryd.func43 zb rfl #[.agg #[.int .i64 Z,.int .i64 aa,.slice af X.length ag],.slice ap ab.length ar] ze rfl rfl (by(try simp only[List.map_toArray,List.map_cons,List.map_nil]);first|done|rfl|(simp only[List.length_drop,List.length_take];rfl)) ?_;with_reducible refine(recoupref03_Pick.calls k Z aa _ _ X _ _ ab ac ae ah ao _ ?side1 ?side2 ?side3 ?side4 A4.out).mono ?_
    (case side1=>exact kcB aw HB)
    (case side2=>exact av.out)
    (case side3=>exact kcA (Kd.R_reads' I.out).2.2)
    (case side4=>exact(Kd.R_reads' I.out).2.1)
    rintro e bm ⟨al,rfl,ai,hb⟩;refine⟨_,rfl,?_⟩;replace I:=kdB I hb;have Y:=aK (Kd.R_lower ai (below_size (hbA HB.out)));replace D:=bkB D hb;replace J:=bkB J hb;replace HB:=hbB HB hb
    (try clear hb)
    (try clear a2)
    (try clear hk)
    (try clear hi)
    (try clear ai)
    refine hK.out _ _ ⟨(blk_cell D.out 0).trans rfl,(blk_cell D.out 1).trans rfl,(blk_cell D.out 2).trans rfl⟩ (fun hHeld=>?_);clear hK K;refine znm (some 13) ?_;refine pu 4 (some 9) (mB 10 159) HT_ ?_;refine pu 5 (some 14) (mB 10 191) HT_ ?_;refine pu 6 (some 15) (mB 10 255) HT_ ?_;exact norm_ zj (hCont (.slice ap ab.length ar,al,L) _ ⟨hHeld,(kdA I.out),(kdA Y.out),(bkA D.out),(bkA J.out),ak.out,aj.out,G.out,O.out,(hbA HB.out)⟩)
  ·skip
   refine box_step ?hg (N:=5) ?hd (cs:= #[.int .i64 0,.int .i64 0,.slice none 0 0]) (t:=24) ?hr ?_;(case hd=>rfl);(case hg=>rfl);(case hr=>first|(go_simp;done)|(go_simp;rfl))
   intro L hg w8 hbox hb;have J:=aK (hbox);have ak:=hbS HB hg;have aj:=hbS HB hg;replace HB:=hbB HB hb;have G:=neL D hg;have O:=neG D hg;replace D:=bkB D hb;clear hb hbox hg;refine hK.out _ _ ⟨(blk_cell D.out 0).trans rfl,(blk_cell D.out 1).trans rfl,(blk_cell D.out 2).trans rfl⟩ (fun hHeld=>?_);clear hK K;refine znm (some 5) ?_;refine zoh 2 (some 12) (mB 10 135) HT_ fun K hK=>?_;refine goes_ Tryd.func23 zb rfl #[.int .u64 a1] ze rfl rfl (by(try simp only[List.map_toArray,List.map_cons,List.map_nil]);first|done|rfl|(simp only[List.length_drop,List.length_take];rfl)) ?_;with_reducible refine(recoupref06_List.calls k a1 ab _ A3.out).mono ?_
   rintro e w9 ⟨a0,rfl,ai,hb⟩;refine⟨_,rfl,?_⟩;have I:=aK (Kd.R_lower ai (below_size (hbA HB.out)));replace D:=bkB D hb;replace J:=bkB J hb;replace HB:=hbB HB hb
   (try clear hb)
   (try clear a2)
   (try clear hk)
   (try clear hi)
   (try clear ai)
   obtain⟨ap,ar,au⟩:=Kd.R_slice I.out
   (first|subst au|(injection au with f1_ f2_ f3_;have f4_:=f1_.symm;have f5_:=f3_.symm;clear f1_ f2_ f3_;subst f4_;subst f5_))
   refine hK.out _ _ ⟨(blk_cell D.out 0).trans rfl,(blk_cell D.out 1).trans rfl,(blk_cell D.out 2).trans rfl⟩ (fun hHeld=>?_);clear hK K;refine znm (some 12) ?_;refine zoh 3 (some 13) (mB 10 143) HT_ fun K hK=>?_;refine goes_ Tryd.func43 zb rfl #[.agg #[.int .i64 Z,.int .i64 aa,.slice af X.length ag],.slice ap ab.length ar] ze rfl rfl (by(try simp only[List.map_toArray,List.map_cons,List.map_nil]);first|done|rfl|(simp only[List.length_drop,List.length_take];rfl)) ?_;with_reducible refine(recoupref03_Pick.calls k Z aa _ _ X _ _ ab ac ae ah ao _ ?side1 ?side2 ?side3 ?side4 A4.out).mono ?_
   (case side1=>exact kcB aw HB)
   (case side2=>exact av.out)
   (case side3=>exact kcA (Kd.R_reads' I.out).2.2)
   (case side4=>exact(Kd.R_reads' I.out).2.1)
   rintro e bm ⟨al,rfl,ai,hb⟩;refine⟨_,rfl,?_⟩;replace I:=kdB I hb;have Y:=aK (Kd.R_lower ai (below_size (hbA HB.out)));replace D:=bkB D hb;replace J:=bkB J hb;replace HB:=hbB HB hb
   (try clear hb)
   (try clear a2)
   (try clear hk)
   (try clear hi)
   (try clear ai)
   refine hK.out _ _ ⟨(blk_cell D.out 0).trans rfl,(blk_cell D.out 1).trans rfl,(blk_cell D.out 2).trans rfl⟩ (fun hHeld=>?_);clear hK K;refine znm (some 13) ?_;refine pu 4 (some 9) (mB 10 159) HT_ ?_;refine pu 5 (some 14) (mB 10 191) HT_ ?_;refine pu 6 (some 15) (mB 10 255) HT_ ?_;exact norm_ zj (hCont (.slice ap ab.length ar,al,L) _ ⟨hHeld,(kdA I.out),(kdA Y.out),(bkA D.out),(bkA J.out),ak.out,aj.out,G.out,O.out,(hbA HB.out)⟩)
 rintro⟨a0,al,L⟩ am ⟨hS_,h0_,h1_,h2_,h3_,h4_,h5_,h6_,h7_,h8_⟩;have n0_:Aside0 (Kd.R (Kd.int .i64) 3 am w.heap.size (fun _=>True) a0 ab):=⟨h0_⟩
 have n1_:Aside0 (Kd.R (Kd.int .u8) 5 am w.heap.size (fun _=>True) al ah):=⟨h1_⟩
 have n2_:Aside0 (am.heap[U]? =some (.cells #[.int .i64 Z,.int .i64 aa,.slice af X.length ag] 24 (0,0))):=⟨h2_⟩
 have n3_:Aside0 (am.heap[L]? =some (.cells #[.int .i64 0,.int .i64 0,.slice none 0 0] 24 (0,0))):=⟨h3_⟩
 have n4_:Aside0 (w.heap.size≤L):=⟨h4_⟩
 have n5_:Aside0 (w.heap.size≤L):=⟨h5_⟩
 have n6_:Aside0 (U≠L):=⟨h6_⟩
 have n7_:Aside0 (L≠U):=⟨h7_⟩
 have n8_:Aside0 (Below w.heap.size w am):=⟨h8_⟩
 clear D;clear HB;clear h0_ h1_ h2_ h3_ h4_ h5_ h6_ h7_ h8_;have I:=n0_;have Y:=n1_;have D:=n2_;have J:=n3_;have ak:=n4_;have aj:=n5_;have G:=n6_;have O:=n7_;have HB:=n8_;clear n0_ n1_ n2_ n3_ n4_ n5_ n6_ n7_ n8_;have hHeld:am.cell? ⟨U,0,none⟩=some (.int .i64 Z)∧am.cell? ⟨U,1,none⟩=some (.int .i64 aa)∧am.cell? ⟨U,2,none⟩=some (.slice af X.length ag):=hS_;obtain⟨aq,an,a3⟩:=Kd.R_slice Y.out
 (first|subst a3|(injection a3 with f1_ f2_ f3_;have f4_:=f1_.symm;have f5_:=f3_.symm;clear f1_ f2_ f3_;subst f4_;subst f5_))
 refine znq ?_;refine zoh 8 (none) (mB 10 511) HT_ fun K hK=>?_;have bu:am.cell? ⟨L,0,none⟩=some (.int .i64 0):=(blk_cell J.out 0).trans rfl;have bp:=blk_frozen J.out 0;have bh:=G.out;have be:=O.out;have bv:am.cell? ⟨L,1,none⟩=some (.int .i64 0):=(blk_cell J.out 1).trans rfl;have bq:=blk_frozen J.out 1;have bi:=G.out;have bf:=O.out;have bw:am.cell? ⟨L,2,none⟩=some (.slice none 0 0):=(blk_cell J.out 2).trans rfl;have br:=blk_frozen J.out 2;have bj:=G.out;have bg:=O.out;refine zsk ?_;refine hK.out _ _ ⟨((cell_far (p:=⟨L,_,none⟩) G.out _).trans (((cell_far (p:=⟨L,_,none⟩) G.out _).trans (((cell_far (p:=⟨L,_,none⟩) G.out _).trans (hHeld.1)))))),((cell_far (p:=⟨L,_,none⟩) G.out _).trans (((cell_far (p:=⟨L,_,none⟩) G.out _).trans (((cell_far (p:=⟨L,_,none⟩) G.out _).trans (hHeld.2.1)))))),((cell_far (p:=⟨L,_,none⟩) G.out _).trans (((cell_far (p:=⟨L,_,none⟩) G.out _).trans (((cell_far (p:=⟨L,_,none⟩) G.out _).trans (hHeld.2.2))))))⟩ (fun hHeld=>?_);clear hK K;refine pu 9 (some 6) (mB 10 1023) HT_ ?_;refine done_ (done_of HT_.out zb) ?_;have bs:=O.out;have bt:=G.out;obtain⟨a8,a9,ba,bb,bc,bd⟩:=cell3 J
 try go_wp2_with (first|((with_reducible refine gC 76 rfl ?_);refine cG (some 18) Tryd.func76 #[.agg #[.int .i64 ac,.int .i64 ae,.slice aq ah.length an]] ?_;(with_reducible refine(recoupref04_Rank.calls k ac ae _ _ ah bk bl _ ?side1 ?side2 A5.out).mono ?_);(case side1=>refine(Kd.R_reads' (e:=5) (base:=w.heap.size) (ok:=fun k_=>True) (n:=ah.length) (c:=an) ?_).2.2;exact(by(with_reducible repeat(first|apply Kd.R_alloc|apply Kd.R_drewN|apply Kd.R_drew));exact(zF Y.out J.out  (.int .i64 ac)  (.int .i64 ae)  (.slice aq ah.length an))));(case side2=>exact(Kd.R_reads' Y.out).2.1);rintro e b0 ⟨rfl,hb⟩;refine⟨_,rfl,?_⟩;replace I:=aK (Kd.R_below (by(with_reducible repeat(first|apply Kd.R_alloc|apply Kd.R_drewN|apply Kd.R_drew));exact(zF I.out J.out  (.int .i64 ac)  (.int .i64 ae)  (.slice aq ah.length an))) hb);replace Y:=aK (Kd.R_below (by(with_reducible repeat(first|apply Kd.R_alloc|apply Kd.R_drewN|apply Kd.R_drew));exact(zF Y.out J.out  (.int .i64 ac)  (.int .i64 ae)  (.slice aq ah.length an))) hb);replace D:=aK (blk_below (g:=U) (o:= .cells #[.int .i64 Z,.int .i64 aa,.slice af X.length ag] 24 (0,0)) zq hb);replace J:=aK (blk_below (g:=L) (o:= .cells #[.int .i64 ac,.int .i64 ae,.slice aq ah.length an] 24 (0,0)) (by refine bkR ?_;refine blk_put (cs:= #[.int .i64 ac,.int .i64 ae,.slice none 0 0]) ?_ 2 _ rfl;refine bkR ?_;refine blk_put (cs:= #[.int .i64 ac,.int .i64 0,.slice none 0 0]) ?_ 1 _ rfl;refine bkR ?_;refine blk_put (cs:= #[.int .i64 0,.int .i64 0,.slice none 0 0]) ?_ 0 _ rfl;refine bkR ?_;exact J.out) hb);replace HB:=hbB HB hb;(try clear hb)))
 go_ret
 exact⟨rfE,hbA HB.out⟩
mutual
def recoupref06_Full.j0:Nat→Int→Bool→Option (Int×Int)
 |0,_,_=>none
 |k+1,x0,D=>if D=true then(some (0,2))else(recoupref06_Full.l0 k x0 0 0)
def recoupref06_Full.l0:Nat→Int→Int→Int→Option (Int×Int)
 |0,_,_,_=>none
 |k+1,x0,x4,x5=>if x5<x0 then(if 0≤(IntKind.u64.wrap (x5))then(recoupref06_Full.l0 k x0 (Go.bits .or .u64 x4 (shl .u64 1 (IntKind.u64.wrap (x5)))) (wrap64 (x5+1)))else(none))else(some (x4,0))
end
def recoupref06_Full.f(k:Nat)(a0:Int):Option (Int×Int):=if a0<0 then(recoupref06_Full.j0 k a0 true)else(recoupref06_Full.j0 k a0 (decide (a0>64)))
set_option maxHeartbeats 8000000 in
set_option maxRecDepth 100000 in
theorem recoupref06_Full.calls(k:Nat)(a0:Int)(r1:Int)(r2:Int)(w:World)(h:recoupref06_Full.f k a0=some (r1,r2)):
 Calls Tryd.prog 17 #[.int .i64 a0] w fun e w'=>e= .returned (.tuple #[.int .u64 r1,.int .i64 r2])∧Drawn0 w w':=by
 have H:(if a0<0 then(recoupref06_Full.j0 k a0 true)else(recoupref06_Full.j0 k a0 (decide (a0>64))))=some (r1,r2):=h;clear h;have X:=aK H;clear H
 go_enter Tryd.func17,Tryd.ntmps17
 go_upto_region 1 with(fail)
 go_cut [11] (fun ab wc=> ∃(kq:Nat) (J:Bool),ab= .bool J∧Aside0 (recoupref06_Full.j0 kq a0 J=some (r1,r2))∧Aside0 (kq≤k)∧Drawn0 w wc)
 case first=>
  have H:=X.out;clear X;by_cases c3:a0<0
  ·rw[if_pos c3]at H
   have c3b0:decide (a0<0)=true:=decide_eq_true c3;clear c3
   (first|rw[c3b0] |(simp only[i64_w,i32_w];rw[c3b0])|skip)
   have H':=aK H;clear H;go_wp2
   go_meet
   case rel=>exact⟨_,(true),rsE,H',⟨leE⟩,by repeat(first|exact Drawn0.refl _|apply Drawn0.step)⟩
  ·rw[if_neg c3]at H
   have c3b0:decide (a0<0)=false:=decide_eq_false c3;clear c3
   (first|rw[c3b0] |(simp only[i64_w,i32_w];rw[c3b0])|skip)
   have H':=aK H;clear H;go_wp2
   go_meet
   case rel=>exact⟨_,(decide (a0>64)),rsE,H',⟨leE⟩,by repeat(first|exact Drawn0.refl _|apply Drawn0.step)⟩
 case rest=>
  clear X
  (try clear c1);(try clear p2);(try clear c3);(try clear c3b0)
  obtain⟨kq,J,rfl,HA,Y,⟨ac,rfl⟩⟩:=hcut
  cases kq with
  |zero=>exact absurd HA.out (by simp[recoupref06_Full.j0])
  |succ aa=>
   have H:=HA.out;clear HA;simp only[recoupref06_Full.j0]at H;by_cases c4:J=true
   ·subst c4;rw[if_pos rfl]at H
    simp only[Option.some.injEq,Prod.mk.injEq]at H;obtain⟨rfl,rfl⟩:=H;go_wp2
    go_ret2
    exact⟨by first|rfl|(simp;done)|(simp[*];done),by repeat(first|exact Drawn0.refl _|apply Drawn0.step)⟩
   ·replace c4:=Bool.eq_false_iff.mpr c4;subst c4;rw[if_neg nofT]at H
    have H':=aK H;clear H;go_wp2
    go_loopg [4,5] aa (fun kq v4 v5 w'=> ∃(I:Int) (D:Int),v4= .int .u64 I∧v5= .int .i64 D∧Aside0 (recoupref06_Full.l0 kq a0 I D=some (r1,r2))∧Aside0 (kq≤aa)∧Drawn0 w w')
    case atStart=>exact⟨(0),(0),rsE,rsE,H',⟨Nat.le_refl _⟩,by repeat(first|exact Drawn0.refl _|apply Drawn0.step)⟩
    case round=>
     clear H'
     (try clear c1);(try clear p2 p2);(try clear c3);(try clear c3b0);(try clear c4)
     obtain⟨I,D,rfl,rfl,HA,Z,⟨m2,rfl⟩⟩:=hrel
     cases gk with
     |zero=>exact absurd HA.out (by simp[recoupref06_Full.l0])
     |succ k2=>
      have H:=HA.out;clear HA;simp only[recoupref06_Full.l0]at H;by_cases c5:D<a0
      ·rw[if_pos c5]at H
       have c5b0:decide (D<a0)=true:=decide_eq_true c5;clear c5;obtain⟨G,U⟩: ∃j_:Int,(IntKind.u64.wrap (D))=j_:=⟨_,rfl⟩
       replace H:(if 0≤(G)then(recoupref06_Full.l0 k2 a0 (Go.bits .or .u64 I (shl .u64 1 (G))) (wrap64 (D+1)))else(none))=some (r1,r2):=by first|(rw[U]at H;exact H)|(simp only[U]at H⊢;exact H)
       by_cases c7:0≤(G)
       ·rw[if_pos c7]at H
        have c7b0:=eq_true c7;have c7b1:decide (0≤(G))=true:=decide_eq_true c7;clear c7;obtain⟨O,L⟩: ∃j_:Int,(shl .u64 1 (G))=j_:=⟨_,rfl⟩
        replace H:(recoupref06_Full.l0 k2 a0 (Go.bits .or .u64 I (O)) (wrap64 (D+1)))=some (r1,r2):=by first|(rw[L]at H;exact H)|(simp only[L]at H⊢;exact H)
        have hji8_:(IntKind.u64.wrap (1*2^min (G).toNat 64))=O:=L;have hji8z:(G)≤64→(IntKind.u64.wrap (1*2^(G).toNat))=O:=shl_small L;have hji8u:(IntKind.u64.wrap (2^min (G).toNat 64))=O:=by have h_:=hji8_;rw[Int.one_mul]at h_;exact h_
        have hji8v:(G)≤64→(IntKind.u64.wrap (2^(G).toNat))=O:=fun hle_=>by have h_:=hji8z hle_;rw[Int.one_mul]at h_;exact h_
        have H':=aK H;clear H;go_wp2
        go_roundg k2
        case measure=>have:=Y.out;have:=Z.out;omega
        case rel=>exact⟨(Go.bits .or .u64 I (O)),(wrap64 (D+1)),(by first|rfl|(simp;done)|(simp only[←L]<;>(first|rfl|simp))|(simp[*];done)),rsE,H',⟨by have:=Y.out;have:=Z.out;omega⟩,by repeat(first|exact Drawn0.refl _|apply Drawn0.step)⟩
       ·rw[if_neg c7]at H
        exact absurd H zd
      ·rw[if_neg c5]at H
       have c5b0:decide (D<a0)=false:=decide_eq_false c5;clear c5;simp only[Option.some.injEq,Prod.mk.injEq]at H;obtain⟨rfl,rfl⟩:=H;go_wp2
       go_ret2
       exact⟨by first|rfl|(simp;done)|(simp[*];done),by repeat(first|exact Drawn0.refl _|apply Drawn0.step)⟩
def recoupref07_bad.f(k:Nat)(D:Int)(I:Int)(J:List Int)(a1:Int):Option (Int):=(recoupref03_Right.f D I J).bind fun L=>(if L=true then((recoupref06_Full.f k D).bind fun G=>(if(Go.bits .andNot .u64 a1 G.1)=0 then(some 0)else(some 2)))else(some 3))
set_option maxHeartbeats 8000000 in
set_option maxRecDepth 100000 in
theorem recoupref07_bad.calls(k:Nat)(G:Int)(J:Int)(L:Option Addr)(O:Nat)(I:List Int)(a1:Int)(r:Int)(w:World)(ae:Kd.C (Kd.int .u8) w L I.length I)(ac:I.length≤O)(h:recoupref07_bad.f k G J I a1=some r):
 Calls Tryd.prog 75 #[.agg #[.int .i64 G,.int .i64 J,.slice L I.length O],.int .u64 a1] w fun e w'=>e= .returned (.int .i64 r)∧Below w.heap.size w w':=by
 have bf:=Tryd.underlying24;have Y:=aK ae;have X:=aK ac;clear ae ac;have HB:=aK (Below.refl w.heap.size w);have H:((recoupref03_Right.f G J I).bind fun af=>(if af=true then((recoupref06_Full.f k G).bind fun ah=>(if(Go.bits .andNot .u64 a1 ah.1)=0 then(some 0)else(some 2)))else(some 3)))=some r:=h;clear h;obtain⟨af,A3,H⟩:=bindO H
 (try dsimp only at H)
 by_cases c4:af=true
 ·subst c4;rw[if_pos rfl]at H
  obtain⟨⟨U,ag⟩,A5,H⟩:=bindO H
  (try dsimp only at H)
  by_cases c6:(Go.bits .andNot .u64 a1 U)=0
  ·rw[if_pos c6]at H
   have c6b0:((Go.bits .andNot .u64 a1 U)==0)=true:=beq_iff_eq.mpr c6;have c6b1:((Go.bits .andNot .u64 a1 U)!=0)=false:=bne_eq_false_iff_eq.mpr c6;clear c6;obtain rfl:=Option.some.inj H
   go_enter Tryd.func75,Tryd.ntmps75
   go_wp2_with (first|((with_reducible refine gD 2 rfl ?_);refine bE 2 #[.int .i64 G,.int .i64 J,.slice L I.length O] 24 ?_;intro ab hg w7 hbox hb;have D:=aK (hbox);have aa:=hbS HB hg;have Z:=hbS HB hg;replace HB:=hbB HB hb;clear hb hbox hg;obtain⟨a9,ba,bb,bc,bd,be⟩:=cell3 D)|((with_reducible refine gC 45 rfl ?_);refine cG (some 8) Tryd.func45 #[.agg #[.int .i64 G,.int .i64 J,.slice L I.length O]] ?_;(with_reducible refine(recoupref03_Right.calls G J _ _ I true _ ?side1 ?side2 A3.out).mono ?_);(case side1=>exact kcB Y HB);(case side2=>exact X.out);rintro e w9 ⟨rfl,hb⟩;refine⟨_,rfl,?_⟩;replace D:=bkB D hb;replace HB:=hbB HB hb;(try clear hb);obtain⟨ai,aj,ak,aw,ax,ay⟩:=cell3 D)|((with_reducible refine gC 17 rfl ?_);refine cG (some 13) Tryd.func17 #[.int .i64 G] ?_;(with_reducible refine(recoupref06_Full.calls k G U ag _ A5.out).mono ?_);rintro e w' ⟨rfl,⟨nd,rfl⟩⟩;refine⟨_,rfl,?_⟩))
   go_ret
   exact⟨rfE,hbA HB.out⟩
  ·rw[if_neg c6]at H
   have c6b0:((Go.bits .andNot .u64 a1 U)==0)=false:=beq_eq_false_iff_ne.mpr c6;have c6b1:((Go.bits .andNot .u64 a1 U)!=0)=true:=bne_iff_ne.mpr c6;obtain rfl:=Option.some.inj H
   go_enter Tryd.func75,Tryd.ntmps75
   go_wp2_with (first|((with_reducible refine gD 2 rfl ?_);refine bE 2 #[.int .i64 G,.int .i64 J,.slice L I.length O] 24 ?_;intro ab hg bg hbox hb;have D:=aK (hbox);have aa:=hbS HB hg;have Z:=hbS HB hg;replace HB:=hbB HB hb;clear hb hbox hg;obtain⟨al,am,an,az,a0,a2⟩:=cell3 D)|((with_reducible refine gC 45 rfl ?_);refine cG (some 8) Tryd.func45 #[.agg #[.int .i64 G,.int .i64 J,.slice L I.length O]] ?_;(with_reducible refine(recoupref03_Right.calls G J _ _ I true _ ?side1 ?side2 A3.out).mono ?_);(case side1=>exact kcB Y HB);(case side2=>exact X.out);rintro e bh ⟨rfl,hb⟩;refine⟨_,rfl,?_⟩;replace D:=bkB D hb;replace HB:=hbB HB hb;(try clear hb);obtain⟨ao,ap,aq,a3,a4,a5⟩:=cell3 D)|((with_reducible refine gC 17 rfl ?_);refine cG (some 13) Tryd.func17 #[.int .i64 G] ?_;(with_reducible refine(recoupref06_Full.calls k G U ag _ A5.out).mono ?_);rintro e w' ⟨rfl,⟨nd,rfl⟩⟩;refine⟨_,rfl,?_⟩))
   go_ret
   exact⟨rfE,hbA HB.out⟩
 ·replace c4:=Bool.eq_false_iff.mpr c4;subst c4;rw[if_neg nofT]at H
  obtain rfl:=Option.some.inj H
  go_enter Tryd.func75,Tryd.ntmps75
  go_wp2_with (first|((with_reducible refine gD 2 rfl ?_);refine bE 2 #[.int .i64 G,.int .i64 J,.slice L I.length O] 24 ?_;intro ab hg bi hbox hb;have D:=aK (hbox);have aa:=hbS HB hg;have Z:=hbS HB hg;replace HB:=hbB HB hb;clear hb hbox hg;obtain⟨ar,au,av,a6,a7,a8⟩:=cell3 D)|((with_reducible refine gC 45 rfl ?_);refine cG (some 8) Tryd.func45 #[.agg #[.int .i64 G,.int .i64 J,.slice L I.length O]] ?_;(with_reducible refine(recoupref03_Right.calls G J _ _ I false _ ?side1 ?side2 A3.out).mono ?_);(case side1=>exact kcB Y HB);(case side2=>exact X.out);rintro e bj ⟨rfl,hb⟩;refine⟨_,rfl,?_⟩;replace D:=bkB D hb;replace HB:=hbB HB hb;(try clear hb)))
  go_ret
  exact⟨rfE,hbA HB.out⟩
def recoupref07_Rank.f(k:Nat)(D:Int)(G:Int)(I:List Int)(a1:Int):Option (Int×Int):=(recoupref07_bad.f k D G I a1).bind fun J=>(if J=0 then((recoupref07_rank.f k D G I a1).bind fun L=>(some (L,0)))else(some (0,J)))
set_option maxHeartbeats 8000000 in
set_option maxRecDepth 100000 in
theorem recoupref07_Rank.calls(k:Nat)(I:Int)(J:Int)(O:Option Addr)(U:Nat)(D:List Int)(a1:Int)(r1:Int)(r2:Int)(w:World)(aa:Kd.C (Kd.int .u8) w O D.length D)(Z:D.length≤U)(h:recoupref07_Rank.f k I J D a1=some (r1,r2)):
 Calls Tryd.prog 46 #[.agg #[.int .i64 I,.int .i64 J,.slice O D.length U],.int .u64 a1] w fun e w'=>e= .returned (.tuple #[.int .i64 r1,.int .i64 r2])∧Below w.heap.size w w':=by
 have a0:=Tryd.underlying24;have Y:=aK aa;have X:=aK Z;clear aa Z;have HB:=aK (Below.refl w.heap.size w);have H:((recoupref07_bad.f k I J D a1).bind fun L=>(if L=0 then((recoupref07_rank.f k I J D a1).bind fun ab=>(some (ab,0)))else(some (0,L))))=some (r1,r2):=h;clear h;obtain⟨L,A3,H⟩:=bindO H
 (try dsimp only at H)
 by_cases c4:L=0
 ·rw[if_pos c4]at H
  have c4b0:(L==0)=true:=beq_iff_eq.mpr c4;have c4b1:(L !=0)=false:=bne_eq_false_iff_eq.mpr c4;clear c4;obtain⟨ab,A5,H⟩:=bindO H
  (try dsimp only at H)
  simp only[Option.some.injEq,Prod.mk.injEq]at H;obtain⟨rfl,rfl⟩:=H
  go_enter Tryd.func46,Tryd.ntmps46
  go_wp2_with (first|((with_reducible refine gD 2 rfl ?_);refine bE 2 #[.int .i64 I,.int .i64 J,.slice O D.length U] 24 ?_;intro af hg w6 hbox hb;have G:=aK (hbox);have ae:=hbS HB hg;have ac:=hbS HB hg;replace HB:=hbB HB hb;clear hb hbox hg;obtain⟨am,an,ao,au,av,aw⟩:=cell3 G)|((with_reducible refine gC 75 rfl ?_);refine cG (some 9) Tryd.func75 #[.agg #[.int .i64 I,.int .i64 J,.slice O D.length U],.int .u64 a1] ?_;(with_reducible refine(recoupref07_bad.calls k I J _ _ D a1 L _ ?side1 ?side2 A3.out).mono ?_);(case side1=>exact kcB Y HB);(case side2=>exact X.out);rintro e w8 ⟨rfl,hb⟩;refine⟨_,rfl,?_⟩;replace G:=bkB G hb;replace HB:=hbB HB hb;(try clear hb);obtain⟨ap,aq,ar,ax,ay,az⟩:=cell3 G)|((with_reducible refine gC 47 rfl ?_);refine cG (some 15) Tryd.func47 #[.agg #[.int .i64 I,.int .i64 J,.slice O D.length U],.int .u64 a1] ?_;(with_reducible refine(recoupref07_rank.calls k I J _ _ D a1 ab _ ?side1 ?side2 A5.out).mono ?_);(case side1=>exact kcB Y HB);(case side2=>exact X.out);rintro e a2 ⟨rfl,hb⟩;refine⟨_,rfl,?_⟩;replace G:=bkB G hb;replace HB:=hbB HB hb;(try clear hb)))
  go_ret2
  exact⟨rfE,hbA HB.out⟩
 ·rw[if_neg c4]at H
  have c4b0:(L==0)=false:=beq_eq_false_iff_ne.mpr c4;have c4b1:(L !=0)=true:=bne_iff_ne.mpr c4;simp only[Option.some.injEq,Prod.mk.injEq]at H;obtain⟨rfl,rfl⟩:=H
  go_enter Tryd.func46,Tryd.ntmps46
  go_wp2_with (first|((with_reducible refine gD 2 rfl ?_);refine bE 2 #[.int .i64 I,.int .i64 J,.slice O D.length U] 24 ?_;intro af hg a3 hbox hb;have G:=aK (hbox);have ae:=hbS HB hg;have ac:=hbS HB hg;replace HB:=hbB HB hb;clear hb hbox hg;obtain⟨ag,ah,ai,aj,ak,al⟩:=cell3 G)|((with_reducible refine gC 75 rfl ?_);refine cG (some 9) Tryd.func75 #[.agg #[.int .i64 I,.int .i64 J,.slice O D.length U],.int .u64 a1] ?_;(with_reducible refine(recoupref07_bad.calls k I J _ _ D a1 L _ ?side1 ?side2 A3.out).mono ?_);(case side1=>exact kcB Y HB);(case side2=>exact X.out);rintro e a4 ⟨rfl,hb⟩;refine⟨_,rfl,?_⟩;replace G:=bkB G hb;replace HB:=hbB HB hb;(try clear hb)))
  go_ret2
  exact⟨rfE,hbA HB.out⟩
def recoupref07_one.f(a0:Int):Option (Int):=if 0≤(IntKind.u64.wrap (a0))then(some (shl .u64 1 (IntKind.u64.wrap (a0))))else(none)
set_option maxHeartbeats 8000000 in
set_option maxRecDepth 100000 in
theorem recoupref07_one.calls(a0:Int)(r:Int)(w:World)(h:recoupref07_one.f a0=some r):
 Calls Tryd.prog 48 #[.int .i64 a0] w fun e w'=>e= .returned (.int .u64 r)∧Drawn0 w w':=by
 have H:(if 0≤(IntKind.u64.wrap (a0))then(some (shl .u64 1 (IntKind.u64.wrap (a0))))else(none))=some r:=h;clear h;obtain⟨D,I⟩: ∃j_:Int,(IntKind.u64.wrap (a0))=j_:=⟨_,rfl⟩
 replace H:(if 0≤(D)then(some (shl .u64 1 (D)))else(none))=some r:=by first|(rw[I]at H;exact H)|(simp only[I]at H⊢;exact H)
 by_cases c3:0≤(D)
 ·rw[if_pos c3]at H
  have c3b0:=eq_true c3;have c3b1:decide (0≤(D))=true:=decide_eq_true c3;clear c3;obtain⟨J,G⟩: ∃j_:Int,(shl .u64 1 (D))=j_:=⟨_,rfl⟩
  replace H:(some J)=some r:=by first|(rw[G]at H;exact H)|(simp only[G]at H⊢;exact H)
  have hji4_:(IntKind.u64.wrap (1*2^min (D).toNat 64))=J:=G;have hji4z:(D)≤64→(IntKind.u64.wrap (1*2^(D).toNat))=J:=shl_small G;have hji4u:(IntKind.u64.wrap (2^min (D).toNat 64))=J:=by have h_:=hji4_;rw[Int.one_mul]at h_;exact h_
  have hji4v:(D)≤64→(IntKind.u64.wrap (2^(D).toNat))=J:=fun hle_=>by have h_:=hji4z hle_;rw[Int.one_mul]at h_;exact h_
  obtain rfl:=Option.some.inj H
  go_enter Tryd.func48,Tryd.ntmps48
  go_wp2
  go_ret
  exact⟨by first|rfl|(simp;done)|(simp only[←I,←G]<;>(first|rfl|simp))|(simp[*];done),by repeat(first|exact Drawn0.refl _|apply Drawn0.step)⟩
 ·rw[if_neg c3]at H
  exact absurd H zd
end Go.Proofs.YtjgcocfnilhggaaDoor.Q
namespace Go.Proofs.YtjgcocfnilhggaaDoor.Q
open Go.RowKit Go.Proofs.YtjgcocfnilhggaaDoorW.PrintWords Go.Proofs.YtjgcocfnilhggaaDoorW.PrintLast Go.Proofs.YtjgcocfnilhggaaDoorW.PrintMore
attribute [local go_sem] max2_int min2_int max_two min_two max_three min_three max_four min_four
set_option linter.unusedVariables false
set_option linter.unusedSimpArgs false
mutual
def recoupref07_Span.l0:Nat→Int→Int→Int→Int→Int→Int→Int→List Int→Option (Int×Int)
 |0,_,_,_,_,_,_,_,_=>none
 |k+1,x1,x6,x7,x8,x9,D,G,I=>if x9<D then(recoupref07_Span.j1 k x1 x6 x7 x8 x9 (x7==0) D G I)else(recoupref07_Span.j1 k x1 x6 x7 x8 x9 false D G I)
def recoupref07_Span.j1:Nat→Int→Int→Int→Int→Int→Bool→Int→Int→List Int→Option (Int×Int)
 |0,_,_,_,_,_,_,_,_,_=>none
 |k+1,x1,x6,x7,x8,x9,U,D,G,I=>if U=true then((recoupref07_one.f x9).bind fun J=>((recoupref07_rank.f k D G I (Go.bits .or .u64 x1 J)).bind fun L=>(if L=x6 then((recoupref07_one.f x9).bind fun O=>(recoupref07_Span.l0 k x1 x6 x7 (Go.bits .or .u64 x8 O) (wrap64 (x9+1)) D G I))else(recoupref07_Span.l0 k x1 x6 x7 x8 (wrap64 (x9+1)) D G I))))else(some (x8,x7))
end
def recoupref07_Span.f(k:Nat)(G:Int)(I:Int)(J:List Int)(a1:Int):Option (Int×Int):=(recoupref07_Rank.f k G I J a1).bind fun D=>(recoupref07_Span.l0 k a1 D.1 D.2 0 0 G I J)
def recoupref07_Span.T6:Bool×List (List Nat×List Nat):=(true,[([],[]),([],[]),([],[]),([2],[2]),([1,3],[1,3]),([0,4,3],[0,4]),([],[]),([5,6],[5,6])])
def recoupref07_Span.B6:List Nat:= [0,0,0,4,14,31,0,127]
theorem recoupref07_Span.tab6:rtab .any (opsOf Tryd.f16 6)=recoupref07_Span.T6:=by kernel_rfl
theorem recoupref07_Span.bits6:waitsOk recoupref07_Span.T6.2 recoupref07_Span.B6=true:=by kernel_rfl
set_option maxHeartbeats 8000000 in
set_option maxRecDepth 100000 in
theorem recoupref07_Span.calls(k:Nat)(G:Int)(J:Int)(U:Option Addr)(X:Nat)(I:List Int)(a1:Int)(r1:Int)(r2:Int)(w:World)(az:Kd.C (Kd.int .u8) w U I.length I)(aq:I.length≤X)(h:recoupref07_Span.f k G J I a1=some (r1,r2)):
 Calls Tryd.prog 16 #[.agg #[.int .i64 G,.int .i64 J,.slice U I.length X],.int .u64 a1] w fun e w'=>e= .returned (.tuple #[.int .u64 r1,.int .i64 r2])∧Below w.heap.size w w':=by
 have bj:=Tryd.underlying24;have af:=aK az;have ae:=aK aq;clear az aq;have HB:=aK (Below.refl w.heap.size w);have H:((recoupref07_Rank.f k G J I a1).bind fun ap=>(recoupref07_Span.l0 k a1 ap.1 ap.2 0 0 G J I))=some (r1,r2):=h;clear h;obtain⟨⟨Y,an⟩,A3,H⟩:=bindO H
 (try dsimp only at H)
 have H':=aK H;clear H
 go_enter Tryd.func16,Tryd.ntmps16
 go_wp2_with (first|((with_reducible refine gD 2 rfl ?_);refine bE 2 #[.int .i64 G,.int .i64 J,.slice U I.length X] 24 ?_;intro O hg w4 hbox hb;have D:=aK (hbox);have bg:=hbS HB hg;have bf:=hbS HB hg;replace HB:=hbB HB hb;clear hb hbox hg;obtain⟨ah,ai,aj,ak,al,am⟩:=cell3 D)|((with_reducible refine gC 46 rfl ?_);refine cG (some 13) Tryd.func46 #[.agg #[.int .i64 G,.int .i64 J,.slice U I.length X],.int .u64 a1] ?_;(with_reducible refine(recoupref07_Rank.calls k G J _ _ I a1 Y an _ ?side1 ?side2 A3.out).mono ?_);(case side1=>exact kcB af HB);(case side2=>exact ae.out);rintro e w6 ⟨rfl,hb⟩;refine⟨_,rfl,?_⟩;replace D:=bkB D hb;replace HB:=hbB HB hb;(try clear hb)))
 go_loopg [8,9] k (fun kq v8 v9 w'=> ∃(ab:Int) (L:Int),v8= .int .u64 ab∧v9= .int .i64 L∧Aside0 (recoupref07_Span.l0 kq a1 Y an ab L G J I=some (r1,r2))∧Aside0 (kq≤k)∧Aside0 (w'.heap[O]? =some (.cells #[.int .i64 G,.int .i64 J,(.slice U I.length X)] 24 (0,0)))∧Aside0 (Below w.heap.size w w'))
 case atStart=>exact⟨(0),(0),rsE,rsE,H',⟨Nat.le_refl _⟩,⟨bkA D.out⟩,⟨hbA HB.out⟩⟩
 case round=>
  clear H'
  (try clear c1);(try clear p2);(try clear c4);(try clear ah ai aj ak al am)
  obtain⟨ab,L,rfl,rfl,HA,ao,D,HB⟩:=hrel
  cases gk with
  |zero=>exact absurd HA.out (by simp[recoupref07_Span.l0])
  |succ k1=>
   have H:=HA.out;clear HA;simp only[recoupref07_Span.l0]at H;have bb:=aK H;clear H
   go_upto_region 4 with(fail)
   go_cut [23] (fun bi wc=> ∃(kq:Nat) (ac:Bool),bi= .bool ac∧Aside0 (recoupref07_Span.j1 kq a1 Y an ab L ac G J I=some (r1,r2))∧Aside0 (kq≤k1)∧Aside0 (wc.heap[O]? =some (.cells #[.int .i64 G,.int .i64 J,(.slice U I.length X)] 24 (0,0)))∧Aside0 (Below w.heap.size w wc))
   case first=>
    have H:=bb.out;clear bb;by_cases c8:L<G
    ·rw[if_pos c8]at H
     have c8b0:decide (L<G)=true:=decide_eq_true c8;clear c8
     (first|rw[c8b0] |(simp only[i64_w,i32_w];rw[c8b0])|skip)
     have H':=aK H;clear H;obtain⟨a3,a4,a5,a6,a7,a8⟩:=cell3 D;go_wp2
     go_meet
     case rel=>exact⟨_,((an==0)),rsE,H',⟨by have:=ao.out;first|omega|exact Nat.le_refl _⟩,⟨bkA D.out⟩,⟨hbA HB.out⟩⟩
    ·rw[if_neg c8]at H
     have c8b0:decide (L<G)=false:=decide_eq_false c8;clear c8
     (first|rw[c8b0] |(simp only[i64_w,i32_w];rw[c8b0])|skip)
     have H':=aK H;clear H;obtain⟨ar,au,av,aw,ax,ay⟩:=cell3 D;go_wp2
     go_meet
     case rel=>exact⟨_,(false),rsE,H',⟨by have:=ao.out;first|omega|exact Nat.le_refl _⟩,⟨bkA D.out⟩,⟨hbA HB.out⟩⟩
   case rest=>
    clear bb
    (try clear c1);(try clear p2 p2);(try clear c4);(try clear c8);(try clear c8b0);(try clear ar au av aw ax ay);(try clear ah ai aj ak al am);(try clear a3 a4 a5 a6 a7 a8)
    obtain⟨kq,ac,rfl,HA,a0,D,HB⟩:=hcut
    cases kq with
    |zero=>exact absurd HA.out (by simp[recoupref07_Span.j1])
    |succ a9=>
     have H:=HA.out;clear HA;simp only[recoupref07_Span.j1]at H;by_cases a2:ac=true
     ·subst a2;rw[if_pos rfl]at H
      obtain⟨aa,bc,H⟩:=bindO H
      (try dsimp only at H)
      obtain⟨Z,bd,H⟩:=bindO H
      (try dsimp only at H)
      by_cases ag:Z=Y
      ·rw[if_pos ag]at H
       have c14b0:(Z==Y)=true:=beq_iff_eq.mpr ag;have c14b1:(Z !=Y)=false:=bne_eq_false_iff_eq.mpr ag;clear ag;obtain⟨ba,be,H⟩:=bindO H
       (try dsimp only at H)
       have H':=aK H;clear H
       try go_wp2
       replace D:=aK (blk_drew D.out);replace HB:=aK (below_drew1 HB.out);refine start_ (n:=8) (S:=fun w'=>w'.cell? ⟨O,0,none⟩=some (.int .i64 G)∧w'.cell? ⟨O,1,none⟩=some (.int .i64 J)∧w'.cell? ⟨O,2,none⟩=some (.slice U I.length X)) (ds:= []) (.replicate 8 false) zb rfl rfl ⟨(blk_cell D.out 0).trans rfl,(blk_cell D.out 1).trans rfl,(blk_cell D.out 2).trans rfl⟩ (fun hHeld=>?_);refine with_tabW recoupref07_Span.tab6 recoupref07_Span.bits6 (fun HT_ HW_=>?_);generalize wc.drew=bk at D HB hHeld⊢;refine pu 1 (some 27) (mB 8 2) HT_ ?_;refine pu 2 (some 28) (mB 8 6) HT_ ?_;refine pu 6 (some 32) (mB 8 70) HT_ ?_;refine tk3 0 (some 26) (mB 8 71) HT_ HW_ hHeld ?_;refine zoh 3 (some 29) (mB 8 79) HT_ fun K hK=>?_;refine goes_ Tryd.func48 zb rfl #[.int .i64 L] ze rfl rfl (by(try simp only[List.map_toArray,List.map_cons,List.map_nil]);first|done|rfl|(simp only[List.length_drop,List.length_take];rfl)) ?_;with_reducible refine(recoupref07_one.calls L aa _ bc.out).mono ?_
       rintro e w' ⟨rfl,⟨nd,rfl⟩⟩;refine⟨_,rfl,?_⟩;refine hK.out _ _ ⟨(blk_cell D.out 0).trans rfl,(blk_cell D.out 1).trans rfl,(blk_cell D.out 2).trans rfl⟩ (fun hHeld=>?_);clear hK K;refine znm (some 29) ?_;refine pu 4 (some 30) (mB 8 95) HT_ ?_;refine zoh 5 (some 31) (mB 8 127) HT_ fun K hK=>?_;refine goes_ Tryd.func47 zb rfl #[.agg #[.int .i64 G,.int .i64 J,.slice U I.length X],.int .u64 (Go.bits .or .u64 a1 aa)] ze rfl rfl (by(try simp only[List.map_toArray,List.map_cons,List.map_nil]);first|done|rfl|(simp only[List.length_drop,List.length_take];rfl)) ?_;with_reducible refine(recoupref07_rank.calls a9 G J _ _ I (Go.bits .or .u64 a1 aa) Z _ ?side1 ?side2 bd.out).mono ?_
       (case side1=>repeat(first|exact(Kd.C_below af.out (hbA HB.out))|(with_reducible refine Kd.C_alloc ?_ _)|(with_reducible refine Kd.C_drewN ?_ _)|(with_reducible refine Kd.C_drew ?_)))
       (case side2=>exact ae.out)
       rintro e bl ⟨rfl,hb⟩;refine⟨_,rfl,?_⟩;replace D:=bkB D hb;replace HB:=hbB HB hb
       (try clear hb)
       (try clear bh)
       (try clear hk)
       (try clear hi)
       refine hK.out _ _ ⟨(blk_cell D.out 0).trans rfl,(blk_cell D.out 1).trans rfl,(blk_cell D.out 2).trans rfl⟩ (fun hHeld=>?_);clear hK K;refine znm (some 31) ?_;refine pu 7 (some 33) (mB 8 255) HT_ ?_;refine done_ (done_of HT_.out zb) ?_
       try go_wp2_with (first|((with_reducible refine gC 48 rfl ?_);refine cG (some 36) Tryd.func48 #[.int .i64 L] ?_;(with_reducible refine(recoupref07_one.calls L ba _ be.out).mono ?_);rintro e w' ⟨rfl,⟨nd,rfl⟩⟩;refine⟨_,rfl,?_⟩))
       go_roundg a9
       case measure=>have:=ao.out;have:=a0.out;omega
       case rel=>exact⟨(Go.bits .or .u64 ab ba),(wrap64 (L+1)),rsE,rsE,H',⟨by have:=ao.out;have:=a0.out;omega⟩,⟨bkA D.out⟩,⟨hbA HB.out⟩⟩
      ·rw[if_neg ag]at H
       have c14b0:(Z==Y)=false:=beq_eq_false_iff_ne.mpr ag;have c14b1:(Z !=Y)=true:=bne_iff_ne.mpr ag;have H':=aK H;clear H
       try go_wp2
       replace D:=aK (blk_drew D.out);replace HB:=aK (below_drew1 HB.out);refine start_ (n:=8) (S:=fun w'=>w'.cell? ⟨O,0,none⟩=some (.int .i64 G)∧w'.cell? ⟨O,1,none⟩=some (.int .i64 J)∧w'.cell? ⟨O,2,none⟩=some (.slice U I.length X)) (ds:= []) (.replicate 8 false) zb rfl rfl ⟨(blk_cell D.out 0).trans rfl,(blk_cell D.out 1).trans rfl,(blk_cell D.out 2).trans rfl⟩ (fun hHeld=>?_);refine with_tabW recoupref07_Span.tab6 recoupref07_Span.bits6 (fun HT_ HW_=>?_);generalize wc.drew=bm at D HB hHeld⊢;refine pu 1 (some 27) (mB 8 2) HT_ ?_;refine pu 2 (some 28) (mB 8 6) HT_ ?_;refine pu 6 (some 32) (mB 8 70) HT_ ?_;refine tk3 0 (some 26) (mB 8 71) HT_ HW_ hHeld ?_;refine zoh 3 (some 29) (mB 8 79) HT_ fun K hK=>?_;refine goes_ Tryd.func48 zb rfl #[.int .i64 L] ze rfl rfl (by(try simp only[List.map_toArray,List.map_cons,List.map_nil]);first|done|rfl|(simp only[List.length_drop,List.length_take];rfl)) ?_;with_reducible refine(recoupref07_one.calls L aa _ bc.out).mono ?_
       rintro e w' ⟨rfl,⟨nd,rfl⟩⟩;refine⟨_,rfl,?_⟩;refine hK.out _ _ ⟨(blk_cell D.out 0).trans rfl,(blk_cell D.out 1).trans rfl,(blk_cell D.out 2).trans rfl⟩ (fun hHeld=>?_);clear hK K;refine znm (some 29) ?_;refine pu 4 (some 30) (mB 8 95) HT_ ?_;refine zoh 5 (some 31) (mB 8 127) HT_ fun K hK=>?_;refine goes_ Tryd.func47 zb rfl #[.agg #[.int .i64 G,.int .i64 J,.slice U I.length X],.int .u64 (Go.bits .or .u64 a1 aa)] ze rfl rfl (by(try simp only[List.map_toArray,List.map_cons,List.map_nil]);first|done|rfl|(simp only[List.length_drop,List.length_take];rfl)) ?_;with_reducible refine(recoupref07_rank.calls a9 G J _ _ I (Go.bits .or .u64 a1 aa) Z _ ?side1 ?side2 bd.out).mono ?_
       (case side1=>repeat(first|exact(Kd.C_below af.out (hbA HB.out))|(with_reducible refine Kd.C_alloc ?_ _)|(with_reducible refine Kd.C_drewN ?_ _)|(with_reducible refine Kd.C_drew ?_)))
       (case side2=>exact ae.out)
       rintro e bn ⟨rfl,hb⟩;refine⟨_,rfl,?_⟩;replace D:=bkB D hb;replace HB:=hbB HB hb
       (try clear hb)
       (try clear bh)
       (try clear hk)
       (try clear hi)
       refine hK.out _ _ ⟨(blk_cell D.out 0).trans rfl,(blk_cell D.out 1).trans rfl,(blk_cell D.out 2).trans rfl⟩ (fun hHeld=>?_);clear hK K;refine znm (some 31) ?_;refine pu 7 (some 33) (mB 8 255) HT_ ?_;refine done_ (done_of HT_.out zb) ?_
       try go_wp2
       go_roundg a9
       case measure=>have:=ao.out;have:=a0.out;omega
       case rel=>exact⟨(ab),(wrap64 (L+1)),rsE,rsE,H',⟨by have:=ao.out;have:=a0.out;omega⟩,⟨bkA D.out⟩,⟨hbA HB.out⟩⟩
     ·replace a2:=Bool.eq_false_iff.mpr a2;subst a2;rw[if_neg nofT]at H
      simp only[Option.some.injEq,Prod.mk.injEq]at H;obtain⟨rfl,rfl⟩:=H;go_wp2
      go_ret2
      exact⟨rfE,hbA HB.out⟩
end Go.Proofs.YtjgcocfnilhggaaDoor.Q
namespace Go.Proofs.YtjgcocfnilhggaaDoor.Q
open Go.RowKit Go.Proofs.YtjgcocfnilhggaaDoorW.PrintWords Go.Proofs.YtjgcocfnilhggaaDoorW.PrintLast Go.Proofs.YtjgcocfnilhggaaDoorW.PrintMore
attribute [local go_sem] max2_int min2_int max_two min_two max_three min_three max_four min_four
set_option linter.unusedVariables false
set_option linter.unusedSimpArgs false
def recouplaw19_LocalFewest.j0:Nat→Int→Int→Int→Bool→Int→Bool→Int→Int→List Int→Option (Bool)
 |0,_,_,_,_,_,_,_,_,_=>none
 |k+1,x1,x2,x7,x9,ab,ac,D,I,J=>if ac=true then((recouplaw19_anchored.f k).bind fun O=>(if O=true then(some (ab !=0))else(some false)))else((recoupref06_Full.f k D).bind fun G=>(if 0≤(IntKind.u64.wrap (x1))then((recoupref07_Span.f k D I J (Go.bits .andNot .u64 (Go.bits .and .u64 x2 G.1) (shl .u64 1 (IntKind.u64.wrap (x1))))).bind fun L=>((recoupref06_Has.f L.1 x1).bind fun U=>(if U=true then((recouplaw19_anchored.f k).bind fun X=>(if X=true then(if x9=true then((recoupref06_List.f k x7).bind fun Y=>((recoupref06_List.f k (Go.bits .andNot .u64 (Go.bits .and .u64 x2 G.1) (shl .u64 1 (IntKind.u64.wrap (x1))))).bind fun Z=>(some (decide ((Y.length:Int)≤(Z.length:Int))))))else(some false))else(some false)))else((recouplaw19_anchored.f k).bind fun aa=>(some aa)))))else(none)))
def recouplaw19_LocalFewest.f(k:Nat)(G:Int)(I:Int)(J:List Int)(a1:Int)(a2:Int):Option (Bool):=(local_Least.f k G I J a1).bind fun D=>((recoupref16_Generator.f G I J).bind fun L=>(if L=true then(if a1<0 then(recouplaw19_LocalFewest.j0 k a1 a2 D.1 D.2.2.1 D.2.2.2 true G I J)else(if a1≥G then(recouplaw19_LocalFewest.j0 k a1 a2 D.1 D.2.2.1 D.2.2.2 true G I J)else(recouplaw19_LocalFewest.j0 k a1 a2 D.1 D.2.2.1 D.2.2.2 (D.2.2.2 !=0) G I J)))else(recouplaw19_LocalFewest.j0 k a1 a2 D.1 D.2.2.1 D.2.2.2 true G I J)))
set_option maxHeartbeats 8000000 in
set_option maxRecDepth 100000 in
theorem recouplaw19_LocalFewest.calls(k:Nat)(G:Int)(J:Int)(Z:Option Addr)(aa:Nat)(I:List Int)(a1:Int)(a2:Int)(r:Bool)(w:World)(b6:Kd.C (Kd.int .u8) w Z I.length I)(a4:I.length≤aa)(h:recouplaw19_LocalFewest.f k G J I a1 a2=some r)(hT:TabAt 0 Lib.deBruijn64tab w):
 Calls Tryd.prog 6 #[.agg #[.int .i64 G,.int .i64 J,.slice Z I.length aa],.int .i64 a1,.int .u64 a2] w fun e w'=>e= .returned (.bool r)∧Below w.heap.size w w':=by
 have HT:=aK hT;clear hT;have d0:=Tryd.underlying24;have ac:=aK b6;have ab:=aK a4;clear b6 a4;have HB:=aK (Below.refl w.heap.size w);have H:((local_Least.f k G J I a1).bind fun L=>((recoupref16_Generator.f G J I).bind fun b8=>(if b8=true then(if a1<0 then(recouplaw19_LocalFewest.j0 k a1 a2 L.1 L.2.2.1 L.2.2.2 true G J I)else(if a1≥G then(recouplaw19_LocalFewest.j0 k a1 a2 L.1 L.2.2.1 L.2.2.2 true G J I)else(recouplaw19_LocalFewest.j0 k a1 a2 L.1 L.2.2.1 L.2.2.2 (L.2.2.2 !=0) G J I)))else(recouplaw19_LocalFewest.j0 k a1 a2 L.1 L.2.2.1 L.2.2.2 true G J I))))=some r:=h;clear h;obtain⟨⟨al,dm,am,b7⟩,A4,H⟩:=bindO H
 (try dsimp only at H)
 have co:=aK H;clear H
 go_enter Tryd.func6,Tryd.ntmps6
 go_upto_region 2 with(first|((with_reducible refine gD 3 rfl ?_);(try(refine gate_guard ze ?_;dsimp only));refine bE 3 #[.int .i64 G,.int .i64 J,.slice Z I.length aa] 24 ?_;intro cq hg w6 hbox hb;have D:=aK (hbox);have du:=hbS HB hg;have dt:=hbS HB hg;replace HB:=hbB HB hb;clear hb hbox hg;obtain⟨ch,ci,cj,ck,cl,cm⟩:=cell3 D)|((with_reducible refine gC 11 rfl ?_);refine cG (some 19) Tryd.func11 #[.agg #[.int .i64 G,.int .i64 J,.slice Z I.length aa],.int .i64 a1] ?_;(with_reducible refine(local_Least.calls k G J _ _ I a1 al dm am b7 _ ?side1 ?side2 A4.out (tab_below HT.out zf)).mono ?_);(case side1=>exact kcB ac HB);(case side2=>exact ab.out);rintro e w8 ⟨d1,rfl,aj,hb⟩;refine⟨_,rfl,?_⟩;have ag:=aK (Kd.R_lower aj (below_size (hbA HB.out)));replace D:=bkB D hb;replace HB:=hbB HB hb;(try clear hb);(try clear aj)))
 (try simp only[Act.put,zL])
 go_cut [40] (fun dv wc=> ∃(kq:Nat) (ak:Bool),dv= .bool ak∧Aside0 (recouplaw19_LocalFewest.j0 kq a1 a2 al am b7 ak G J I=some r)∧Aside0 (kq≤k)∧Aside0 (wc.heap[cq]? =some (.cells #[.int .i64 G,.int .i64 J,(.slice Z I.length aa)] 24 (0,0)))∧Aside0 (Below w.heap.size w wc))
 case first=>
  have H:=co.out;clear co;obtain⟨b8,A9,H⟩:=bindO H
  (try dsimp only at H)
  by_cases a0:b8=true
  ·subst a0;rw[if_pos rfl]at H
   by_cases av:a1<0
   ·rw[if_pos av]at H
    have c11b0:decide (a1<0)=true:=decide_eq_true av;clear av
    (first|rw[c11b0] |(simp only[i64_w,i32_w];rw[c11b0])|skip)
    have H':=aK H;clear H;obtain⟨a5,a6,a7,bn,bo,bp⟩:=cell3 D
    go_wp2_with (first|((with_reducible refine gC 14 rfl ?_);refine cG (some 25) Tryd.func14 #[.agg #[.int .i64 G,.int .i64 J,.slice Z I.length aa]] ?_;(with_reducible refine(recoupref16_Generator.calls G J _ _ I true _ ?side1 ?side2 A9.out).mono ?_);(case side1=>exact kcB ac HB);(case side2=>exact ab.out);rintro e d5 ⟨rfl,hb⟩;refine⟨_,rfl,?_⟩;replace ag:=kdB ag hb;replace D:=bkB D hb;replace HB:=hbB HB hb;(try clear hb)))
    go_meet
    case rel=>exact⟨_,(true),rsE,H',⟨leE⟩,⟨bkA D.out⟩,⟨hbA HB.out⟩⟩
   ·rw[if_neg av]at H
    have c11b0:decide (a1<0)=false:=decide_eq_false av;clear av
    (first|rw[c11b0] |(simp only[i64_w,i32_w];rw[c11b0])|skip)
    by_cases aw:a1≥G
    ·rw[if_pos aw]at H
     have c14b0:decide (G≤a1)=true:=decide_eq_true aw;clear aw;have H':=aK H;clear H;obtain⟨a8,a9,ba,bq,br,bs⟩:=cell3 D
     go_wp2_with (first|((with_reducible refine gC 14 rfl ?_);refine cG (some 25) Tryd.func14 #[.agg #[.int .i64 G,.int .i64 J,.slice Z I.length aa]] ?_;(with_reducible refine(recoupref16_Generator.calls G J _ _ I true _ ?side1 ?side2 A9.out).mono ?_);(case side1=>exact kcB ac HB);(case side2=>exact ab.out);rintro e d6 ⟨rfl,hb⟩;refine⟨_,rfl,?_⟩;replace ag:=kdB ag hb;replace D:=bkB D hb;replace HB:=hbB HB hb;(try clear hb);obtain⟨bb,bc,bd,bt,bu,bv⟩:=cell3 D))
     go_meet
     case rel=>exact⟨_,(true),rsE,H',⟨leE⟩,⟨bkA D.out⟩,⟨hbA HB.out⟩⟩
    ·rw[if_neg aw]at H
     have c14b0:decide (G≤a1)=false:=decide_eq_false aw;clear aw;have H':=aK H;clear H;obtain⟨be,bf,bg,bw,bx,bz⟩:=cell3 D
     go_wp2_with (first|((with_reducible refine gC 14 rfl ?_);refine cG (some 25) Tryd.func14 #[.agg #[.int .i64 G,.int .i64 J,.slice Z I.length aa]] ?_;(with_reducible refine(recoupref16_Generator.calls G J _ _ I true _ ?side1 ?side2 A9.out).mono ?_);(case side1=>exact kcB ac HB);(case side2=>exact ab.out);rintro e d7 ⟨rfl,hb⟩;refine⟨_,rfl,?_⟩;replace ag:=kdB ag hb;replace D:=bkB D hb;replace HB:=hbB HB hb;(try clear hb);obtain⟨bh,bi,bj,b0,b1,b2⟩:=cell3 D))
     go_meet
     case rel=>exact⟨_,((b7 !=0)),rsE,H',⟨leE⟩,⟨bkA D.out⟩,⟨hbA HB.out⟩⟩
  ·replace a0:=Bool.eq_false_iff.mpr a0;subst a0;rw[if_neg nofT]at H
   have H':=aK H;clear H;obtain⟨bk,bl,bm,b3,b4,b5⟩:=cell3 D
   go_wp2_with (first|((with_reducible refine gC 14 rfl ?_);refine cG (some 25) Tryd.func14 #[.agg #[.int .i64 G,.int .i64 J,.slice Z I.length aa]] ?_;(with_reducible refine(recoupref16_Generator.calls G J _ _ I false _ ?side1 ?side2 A9.out).mono ?_);(case side1=>exact kcB ac HB);(case side2=>exact ab.out);rintro e d8 ⟨rfl,hb⟩;refine⟨_,rfl,?_⟩;replace ag:=kdB ag hb;replace D:=bkB D hb;replace HB:=hbB HB hb;(try clear hb)))
   go_meet
   case rel=>exact⟨_,(true),rsE,H',⟨leE⟩,⟨bkA D.out⟩,⟨hbA HB.out⟩⟩
 case rest=>
  clear co
  (try clear c1);(try clear p2);(try clear c6);(try clear a0);(try clear av);(try clear c11b0);(try clear aw);(try clear c14b0);(try clear a5 a6 a7 bn bo bp);(try clear a8 a9 ba bq br bs);(try clear bb bc bd bt bu bv);(try clear be bf bg bw bx bz);(try clear bh bi bj b0 b1 b2);(try clear bk bl bm b3 b4 b5);(try clear ch ci cj ck cl cm)
  obtain⟨kq,ak,rfl,HA,d4,D,HB⟩:=hcut
  cases kq with
  |zero=>exact absurd HA.out (by simp[recouplaw19_LocalFewest.j0])
  |succ U=>
   have H:=HA.out;clear HA;simp only[recouplaw19_LocalFewest.j0]at H;by_cases cb:ak=true
   ·subst cb;rw[if_pos rfl]at H
    obtain⟨dn,cr,H⟩:=bindO H
    (try dsimp only at H)
    by_cases cd:dn=true
    ·subst cd;rw[if_pos rfl]at H
     obtain rfl:=Option.some.inj H
     go_wp2_with (first|((with_reducible refine gC 15 rfl ?_);refine cG (some 41) Tryd.func15 #[] ?_;(with_reducible refine(recouplaw19_anchored.calls U true _ cr.out (tab_below HT.out zf)).mono ?_);rintro e d9 ⟨rfl,hb⟩;refine⟨_,rfl,?_⟩;replace D:=bkB D hb;replace HB:=hbB HB hb;(try clear hb)))
     go_ret
     exact⟨rfE,hbA HB.out⟩
    ·replace cd:=Bool.eq_false_iff.mpr cd;subst cd;rw[if_neg nofT]at H
     obtain rfl:=Option.some.inj H
     go_wp2_with (first|((with_reducible refine gC 15 rfl ?_);refine cG (some 41) Tryd.func15 #[] ?_;(with_reducible refine(recouplaw19_anchored.calls U false _ cr.out (tab_below HT.out zf)).mono ?_);rintro e ea ⟨rfl,hb⟩;refine⟨_,rfl,?_⟩;replace D:=bkB D hb;replace HB:=hbB HB hb;(try clear hb)))
     go_ret
     exact⟨rfE,hbA HB.out⟩
   ·replace cb:=Bool.eq_false_iff.mpr cb;subst cb;rw[if_neg nofT]at H
    obtain⟨⟨X,ax⟩,az,H⟩:=bindO H
    (try dsimp only at H)
    obtain⟨ae,ah⟩: ∃j_:Int,(IntKind.u64.wrap (a1))=j_:=⟨_,rfl⟩
    replace H:(if 0≤(ae)then((recoupref07_Span.f U G J I (Go.bits .andNot .u64 (Go.bits .and .u64 a2 X) (shl .u64 1 (ae)))).bind fun au=>((recoupref06_Has.f au.1 a1).bind fun an=>(if an=true then((recouplaw19_anchored.f U).bind fun ao=>(if ao=true then(if am=true then((recoupref06_List.f U al).bind fun ap=>((recoupref06_List.f U (Go.bits .andNot .u64 (Go.bits .and .u64 a2 X) (shl .u64 1 (ae)))).bind fun aq=>(some (decide ((ap.length:Int)≤(aq.length:Int))))))else(some false))else(some false)))else((recouplaw19_anchored.f U).bind fun ar=>(some ar)))))else(none))=some r:=by first|(rw[ah]at H;exact H)|(simp only[ah]at H⊢;exact H)
    (try rw[ah]at az)
    by_cases a3:0≤(ae)
    ·rw[if_pos a3]at H
     have c30b0:=eq_true a3;have c30b1:decide (0≤(ae))=true:=decide_eq_true a3;clear a3;obtain⟨Y,O⟩: ∃j_:Int,(shl .u64 1 (ae))=j_:=⟨_,rfl⟩
     replace H:((recoupref07_Span.f U G J I (Go.bits .andNot .u64 (Go.bits .and .u64 a2 X) (Y))).bind fun au=>((recoupref06_Has.f au.1 a1).bind fun an=>(if an=true then((recouplaw19_anchored.f U).bind fun ao=>(if ao=true then(if am=true then((recoupref06_List.f U al).bind fun ap=>((recoupref06_List.f U (Go.bits .andNot .u64 (Go.bits .and .u64 a2 X) (Y))).bind fun aq=>(some (decide ((ap.length:Int)≤(aq.length:Int))))))else(some false))else(some false)))else((recouplaw19_anchored.f U).bind fun ar=>(some ar)))))=some r:=by first|(rw[O]at H;exact H)|(simp only[O]at H⊢;exact H)
     (try rw[O]at az)
     have hji31_:(IntKind.u64.wrap (1*2^min (ae).toNat 64))=Y:=O;have hji31z:(ae)≤64→(IntKind.u64.wrap (1*2^(ae).toNat))=Y:=shl_small O;have hji31u:(IntKind.u64.wrap (2^min (ae).toNat 64))=Y:=by have h_:=hji31_;rw[Int.one_mul]at h_;exact h_
     have hji31v:(ae)≤64→(IntKind.u64.wrap (2^(ae).toNat))=Y:=fun hle_=>by have h_:=hji31z hle_;rw[Int.one_mul]at h_;exact h_
     obtain⟨⟨af,ay⟩,b9,H⟩:=bindO H
     (try dsimp only at H)
     obtain⟨an,ca,H⟩:=bindO H
     (try dsimp only at H)
     by_cases ce:an=true
     ·subst ce;rw[if_pos rfl]at H
      obtain⟨ao,cn,H⟩:=bindO H
      (try dsimp only at H)
      by_cases cf:ao=true
      ·subst cf;rw[if_pos rfl]at H
       by_cases cg:am=true
       ·subst cg;rw[if_pos rfl]at H
        obtain⟨ap,dp,H⟩:=bindO H
        (try dsimp only at H)
        obtain⟨aq,dq,H⟩:=bindO H
        (try dsimp only at H)
        obtain rfl:=Option.some.inj H;obtain⟨cv,cw,cx,da,db,dc⟩:=cell3 D
        go_wp2_with (first|((with_reducible refine gC 17 rfl ?_);refine cG (some 49) Tryd.func17 #[.int .i64 G] ?_;(with_reducible refine(recoupref06_Full.calls U G X ax _ az.out).mono ?_);rintro e w' ⟨rfl,⟨nd,rfl⟩⟩;refine⟨_,rfl,?_⟩)|((with_reducible refine gC 16 rfl ?_);refine goesL_ (some 62) rfl rfl Tryd.func16 zb rfl #[.agg #[.int .i64 G,.int .i64 J,.slice Z I.length aa],.int .u64 (Go.bits .andNot .u64 (Go.bits .and .u64 a2 X) (Y))] rfl (by(try simp only[List.map_toArray,List.map_cons,List.map_nil]);first|done|(simp only[O];rfl)|rfl|(simp only[List.length_drop,List.length_take];rfl)) ?_;(with_reducible refine(recoupref07_Span.calls U G J _ _ I (Go.bits .andNot .u64 (Go.bits .and .u64 a2 X) (Y)) af ay _ ?side1 ?side2 b9.out).mono ?_);(case side1=>repeat(first|exact(Kd.C_below ac.out (hbA HB.out))|(with_reducible refine Kd.C_alloc ?_ _)|(with_reducible refine Kd.C_drewN ?_ _)|(with_reducible refine Kd.C_drew ?_)));(case side2=>exact ab.out);rintro e eb ⟨rfl,hb⟩;refine⟨_,rfl,?_⟩;replace D:=bkB D hb;replace HB:=hbB HB hb;(try clear hb))|((with_reducible refine gC 18 rfl ?_);refine cG (some 67) Tryd.func18 #[.int .u64 af,.int .i64 a1] ?_;(with_reducible refine(recoupref06_Has.calls af a1 true _ ca.out).mono ?_);rintro e w' ⟨rfl,⟨nd,rfl⟩⟩;refine⟨_,rfl,?_⟩)|((with_reducible refine gC 15 rfl ?_);refine cG (some 70) Tryd.func15 #[] ?_;(with_reducible refine(recouplaw19_anchored.calls U true _ cn.out (tab_below HT.out zf)).mono ?_);rintro e ec ⟨rfl,hb⟩;refine⟨_,rfl,?_⟩;replace D:=bkB D hb;replace HB:=hbB HB hb;(try clear hb))|(go_at_call 23;(with_reducible refine(recoupref06_List.calls U al ap _ dp.out).mono ?_);rintro e ed ⟨d2,rfl,aj,hb⟩;have ai:=aK (Kd.R_lower aj (below_size (hbA HB.out)));replace D:=bkB D hb;replace HB:=hbB HB hb;(try clear hb);(try clear aj);obtain⟨dw,dy,ct⟩:=Kd.R_slice ai.out;subst ct)|(go_at_call 23;(with_reducible refine(recoupref06_List.calls U (Go.bits .andNot .u64 (Go.bits .and .u64 a2 X) (Y)) aq _ dq.out).mono ?_);rintro e ee ⟨d3,rfl,aj,hb⟩;have cp:=aK (Kd.R_lower (Kd.R_new' aj (Kd.R_lt (kdA ai.out))) (below_size (hbA HB.out)));replace ai:=aK (Kd.R_elder' (kdA ai.out) (Kd.R_base aj) hb);replace D:=bkB D hb;replace HB:=hbB HB hb;(try clear hb);(try clear aj);obtain⟨dx,dz,cu⟩:=Kd.R_slice cp.out;subst cu))
        go_ret
        exact⟨by first|rfl|(simp[errW_none,errW_some]<;>rfl)|(simp only[←ah,←O];first|rfl|(simp[errW_none,errW_some]<;>rfl))|(simp[*,errW_none,errW_some]<;>rfl),hbA HB.out⟩
       ·replace cg:=Bool.eq_false_iff.mpr cg;subst cg;rw[if_neg nofT]at H
        obtain rfl:=Option.some.inj H;obtain⟨cy,cz,c2,dd,de,df⟩:=cell3 D
        go_wp2_with (first|((with_reducible refine gC 17 rfl ?_);refine cG (some 49) Tryd.func17 #[.int .i64 G] ?_;(with_reducible refine(recoupref06_Full.calls U G X ax _ az.out).mono ?_);rintro e w' ⟨rfl,⟨nd,rfl⟩⟩;refine⟨_,rfl,?_⟩)|((with_reducible refine gC 16 rfl ?_);refine goesL_ (some 62) rfl rfl Tryd.func16 zb rfl #[.agg #[.int .i64 G,.int .i64 J,.slice Z I.length aa],.int .u64 (Go.bits .andNot .u64 (Go.bits .and .u64 a2 X) (Y))] rfl (by(try simp only[List.map_toArray,List.map_cons,List.map_nil]);first|done|(simp only[O];rfl)|rfl|(simp only[List.length_drop,List.length_take];rfl)) ?_;(with_reducible refine(recoupref07_Span.calls U G J _ _ I (Go.bits .andNot .u64 (Go.bits .and .u64 a2 X) (Y)) af ay _ ?side1 ?side2 b9.out).mono ?_);(case side1=>repeat(first|exact(Kd.C_below ac.out (hbA HB.out))|(with_reducible refine Kd.C_alloc ?_ _)|(with_reducible refine Kd.C_drewN ?_ _)|(with_reducible refine Kd.C_drew ?_)));(case side2=>exact ab.out);rintro e ef ⟨rfl,hb⟩;refine⟨_,rfl,?_⟩;replace D:=bkB D hb;replace HB:=hbB HB hb;(try clear hb))|((with_reducible refine gC 18 rfl ?_);refine cG (some 67) Tryd.func18 #[.int .u64 af,.int .i64 a1] ?_;(with_reducible refine(recoupref06_Has.calls af a1 true _ ca.out).mono ?_);rintro e w' ⟨rfl,⟨nd,rfl⟩⟩;refine⟨_,rfl,?_⟩)|((with_reducible refine gC 15 rfl ?_);refine cG (some 70) Tryd.func15 #[] ?_;(with_reducible refine(recouplaw19_anchored.calls U true _ cn.out (tab_below HT.out zf)).mono ?_);rintro e eg ⟨rfl,hb⟩;refine⟨_,rfl,?_⟩;replace D:=bkB D hb;replace HB:=hbB HB hb;(try clear hb)))
        go_ret
        exact⟨by first|rfl|(simp[errW_none,errW_some]<;>rfl)|(simp only[←ah,←O];first|rfl|(simp[errW_none,errW_some]<;>rfl))|(simp[*,errW_none,errW_some]<;>rfl),hbA HB.out⟩
      ·replace cf:=Bool.eq_false_iff.mpr cf;subst cf;rw[if_neg nofT]at H
       obtain rfl:=Option.some.inj H;obtain⟨c3,c4,c5,dg,dh,di⟩:=cell3 D
       go_wp2_with (first|((with_reducible refine gC 17 rfl ?_);refine cG (some 49) Tryd.func17 #[.int .i64 G] ?_;(with_reducible refine(recoupref06_Full.calls U G X ax _ az.out).mono ?_);rintro e w' ⟨rfl,⟨nd,rfl⟩⟩;refine⟨_,rfl,?_⟩)|((with_reducible refine gC 16 rfl ?_);refine goesL_ (some 62) rfl rfl Tryd.func16 zb rfl #[.agg #[.int .i64 G,.int .i64 J,.slice Z I.length aa],.int .u64 (Go.bits .andNot .u64 (Go.bits .and .u64 a2 X) (Y))] rfl (by(try simp only[List.map_toArray,List.map_cons,List.map_nil]);first|done|(simp only[O];rfl)|rfl|(simp only[List.length_drop,List.length_take];rfl)) ?_;(with_reducible refine(recoupref07_Span.calls U G J _ _ I (Go.bits .andNot .u64 (Go.bits .and .u64 a2 X) (Y)) af ay _ ?side1 ?side2 b9.out).mono ?_);(case side1=>repeat(first|exact(Kd.C_below ac.out (hbA HB.out))|(with_reducible refine Kd.C_alloc ?_ _)|(with_reducible refine Kd.C_drewN ?_ _)|(with_reducible refine Kd.C_drew ?_)));(case side2=>exact ab.out);rintro e eh ⟨rfl,hb⟩;refine⟨_,rfl,?_⟩;replace D:=bkB D hb;replace HB:=hbB HB hb;(try clear hb))|((with_reducible refine gC 18 rfl ?_);refine cG (some 67) Tryd.func18 #[.int .u64 af,.int .i64 a1] ?_;(with_reducible refine(recoupref06_Has.calls af a1 true _ ca.out).mono ?_);rintro e w' ⟨rfl,⟨nd,rfl⟩⟩;refine⟨_,rfl,?_⟩)|((with_reducible refine gC 15 rfl ?_);refine cG (some 70) Tryd.func15 #[] ?_;(with_reducible refine(recouplaw19_anchored.calls U false _ cn.out (tab_below HT.out zf)).mono ?_);rintro e ei ⟨rfl,hb⟩;refine⟨_,rfl,?_⟩;replace D:=bkB D hb;replace HB:=hbB HB hb;(try clear hb)))
       go_ret
       exact⟨by first|rfl|(simp[errW_none,errW_some]<;>rfl)|(simp only[←ah,←O];first|rfl|(simp[errW_none,errW_some]<;>rfl))|(simp[*,errW_none,errW_some]<;>rfl),hbA HB.out⟩
     ·replace ce:=Bool.eq_false_iff.mpr ce;subst ce;rw[if_neg nofT]at H
      obtain⟨ar,dr,H⟩:=bindO H
      (try dsimp only at H)
      obtain rfl:=Option.some.inj H;obtain⟨c7,c8,c9,dj,dk,dl⟩:=cell3 D
      go_wp2_with (first|((with_reducible refine gC 17 rfl ?_);refine cG (some 49) Tryd.func17 #[.int .i64 G] ?_;(with_reducible refine(recoupref06_Full.calls U G X ax _ az.out).mono ?_);rintro e w' ⟨rfl,⟨nd,rfl⟩⟩;refine⟨_,rfl,?_⟩)|((with_reducible refine gC 16 rfl ?_);refine goesL_ (some 62) rfl rfl Tryd.func16 zb rfl #[.agg #[.int .i64 G,.int .i64 J,.slice Z I.length aa],.int .u64 (Go.bits .andNot .u64 (Go.bits .and .u64 a2 X) (Y))] rfl (by(try simp only[List.map_toArray,List.map_cons,List.map_nil]);first|done|(simp only[O];rfl)|rfl|(simp only[List.length_drop,List.length_take];rfl)) ?_;(with_reducible refine(recoupref07_Span.calls U G J _ _ I (Go.bits .andNot .u64 (Go.bits .and .u64 a2 X) (Y)) af ay _ ?side1 ?side2 b9.out).mono ?_);(case side1=>repeat(first|exact(Kd.C_below ac.out (hbA HB.out))|(with_reducible refine Kd.C_alloc ?_ _)|(with_reducible refine Kd.C_drewN ?_ _)|(with_reducible refine Kd.C_drew ?_)));(case side2=>exact ab.out);rintro e ej ⟨rfl,hb⟩;refine⟨_,rfl,?_⟩;replace D:=bkB D hb;replace HB:=hbB HB hb;(try clear hb))|((with_reducible refine gC 18 rfl ?_);refine cG (some 67) Tryd.func18 #[.int .u64 af,.int .i64 a1] ?_;(with_reducible refine(recoupref06_Has.calls af a1 false _ ca.out).mono ?_);rintro e w' ⟨rfl,⟨nd,rfl⟩⟩;refine⟨_,rfl,?_⟩)|((with_reducible refine gC 15 rfl ?_);refine cG (some 69) Tryd.func15 #[] ?_;(with_reducible refine(recouplaw19_anchored.calls U ar _ dr.out (tab_below HT.out zf)).mono ?_);rintro e ek ⟨rfl,hb⟩;refine⟨_,rfl,?_⟩;replace D:=bkB D hb;replace HB:=hbB HB hb;(try clear hb)))
      go_ret
      exact⟨by first|rfl|(simp[errW_none,errW_some]<;>rfl)|(simp only[←ah,←O];first|rfl|(simp[errW_none,errW_some]<;>rfl))|(simp[*,errW_none,errW_some]<;>rfl),hbA HB.out⟩
    ·rw[if_neg a3]at H
     exact absurd H zd
def recoupref19_bad.f(D:Int)(G:Int)(I:List Int)(a1:Int):Option (Int):=(recoupref16_Generator.f D G I).bind fun J=>(if J=true then(if a1<0 then(some 2)else(if a1≥D then(some 2)else(some 0)))else(some 3))
def recoupref19_repairs.f(k:Nat)(D:Int)(G:Int)(I:List Int)(a1:Int)(a2:Int):Option (Bool):=(recoupref06_Has.f a2 a1).bind fun O=>(if O=true then(some false)else((recoupref07_Rank.f k D G I a2).bind fun J=>(if 0≤(IntKind.u64.wrap (a1))then((recoupref07_Rank.f k D G I (Go.bits .or .u64 a2 (shl .u64 1 (IntKind.u64.wrap (a1))))).bind fun L=>(some (J.1==L.1)))else(none))))
def recoupref19_others.f(k:Nat)(G:Int)(I:Int)(J:List Int)(a1:Int):Option (Int):=(recoupref06_Full.f k G).bind fun D=>(if 0≤(IntKind.u64.wrap (a1))then(some (Go.bits .andNot .u64 D.1 (shl .u64 1 (IntKind.u64.wrap (a1)))))else(none))
def recoupref06_First.f(k:Nat)(a0:Int):Option (Int):=(recoupref06_Full.f k a0).bind fun D=>(some D.1)
def recoupref06_Of.l0:Nat→List Int→Int→Int→Option (Int×Int)
 |0,_,_,_=>none
 |k+1,x0,x4,x5=>if x5<(x0.length:Int)then(if 0≤x5 then(if(rd x0 x5)<0 then(some (0,2))else(if(rd x0 x5)>63 then(some (0,2))else(if 0≤(IntKind.u64.wrap (rd x0 x5))then(recoupref06_Of.l0 k x0 (Go.bits .or .u64 x4 (shl .u64 1 (IntKind.u64.wrap (rd x0 x5)))) (wrap64 (x5+1)))else(none))))else(none))else(some (x4,0))
def recoupref06_Of.f(k:Nat)(l0:List Int):Option (Int×Int):=recoupref06_Of.l0 k l0 0 0
def recoupref06_of.f(k:Nat)(l0:List Int):Option (Int):=(recoupref06_Of.f k l0).bind fun D=>(some D.1)
mutual
def recoupref06_Next.j0:Nat→Int→Int→Bool→Option (Int×Bool)
 |0,_,_,_=>none
 |k+1,x0,x1,G=>if G=true then(some (0,false))else((recoupref06_List.f k x1).bind fun D=>(recoupref06_Next.l0 k x0 D (wrap64 ((D.length:Int)-1))))
def recoupref06_Next.l0:Nat→Int→List Int→Int→Option (Int×Bool)
 |0,_,_,_=>none
 |k+1,x0,x8,x9=>if x9≥0 then(if 0≤x9 then(if x9<(x8.length:Int)then(if(rd x8 x9)<(wrap64 ((wrap64 (x0-(x8.length:Int)))+x9))then(recoupref06_Next.l1 k (x8.set (x9:Int).toNat (wrap64 ((rd x8 x9)+1))) (wrap64 (x9+1)))else(recoupref06_Next.l0 k x0 x8 (wrap64 (x9-1))))else(none))else(none))else(some (0,false))
def recoupref06_Next.l1:Nat→List Int→Int→Option (Int×Bool)
 |0,_,_=>none
 |k+1,x8,D=>if D<(x8.length:Int)then(if 0≤(wrap64 (D-1))then(if(wrap64 (D-1))<(x8.length:Int)then(if 0≤D then(recoupref06_Next.l1 k (x8.set (D:Int).toNat (wrap64 ((rd x8 (wrap64 (D-1)))+1))) (wrap64 (D+1)))else(none))else(none))else(none))else((recoupref06_of.f k x8).bind fun G=>(some (G,true)))
end
def recoupref06_Next.f(k:Nat)(a0:Int)(a1:Int):Option (Int×Bool):=(recoupref06_Full.f k a0).bind fun D=>(if D.2=0 then(recoupref06_Next.j0 k a0 a1 ((Go.bits .andNot .u64 a1 D.1)!=0))else(recoupref06_Next.j0 k a0 a1 true))
end Go.Proofs.YtjgcocfnilhggaaDoor.Q
namespace Go.Proofs.YtjgcocfnilhggaaDoor.Q
open Go.RowKit Go.Proofs.YtjgcocfnilhggaaDoorW.PrintWords Go.Proofs.YtjgcocfnilhggaaDoorW.PrintLast Go.Proofs.YtjgcocfnilhggaaDoorW.PrintMore
attribute [local go_sem] max2_int min2_int max_two min_two max_three min_three max_four min_four
set_option linter.unusedVariables false
set_option linter.unusedSimpArgs false
mutual
def recoupref19_first.l0:Nat→Int→Int→Int→Int→Int→List Int→Option (Int×Bool)
 |0,_,_,_,_,_,_=>none
 |k+1,x1,x6,x7,D,G,I=>if x7<D then((recoupref06_First.f k x7).bind fun J=>(recoupref19_first.l1 k x1 x6 x7 J true D G I))else(some (0,false))
def recoupref19_first.l1:Nat→Int→Int→Int→Int→Bool→Int→Int→List Int→Option (Int×Bool)
 |0,_,_,_,_,_,_,_,_=>none
 |k+1,x1,x6,x7,x8,x9,D,G,I=>if x9=true then((recoupref06_Has.f x8 x1).bind fun O=>(if O=true then((recoupref06_Next.f k D x8).bind fun J=>(recoupref19_first.l1 k x1 x6 x7 J.1 J.2 D G I))else(if x6=16384 then(some (0,false))else((recoupref19_repairs.f k D G I x1 x8).bind fun U=>(if U=true then(some (x8,true))else((recoupref06_Next.f k D x8).bind fun L=>(recoupref19_first.l1 k x1 (wrap64 (x6+1)) x7 L.1 L.2 D G I)))))))else(recoupref19_first.l0 k x1 x6 (wrap64 (x7+1)) D G I)
end
def recoupref19_first.f(k:Nat)(D:Int)(G:Int)(I:List Int)(a1:Int):Option (Int×Bool):=recoupref19_first.l0 k a1 0 0 D G I
end Go.Proofs.YtjgcocfnilhggaaDoor.Q
namespace Go.Proofs.YtjgcocfnilhggaaDoor.Q
open Go.RowKit Go.Proofs.YtjgcocfnilhggaaDoorW.PrintWords Go.Proofs.YtjgcocfnilhggaaDoorW.PrintLast Go.Proofs.YtjgcocfnilhggaaDoorW.PrintMore
attribute [local go_sem] max2_int min2_int max_two min_two max_three min_three max_four min_four
set_option linter.unusedVariables false
set_option linter.unusedSimpArgs false
mutual
def recoupref03_Transpose.l0:Nat→Int→Int→Int→List Int→Int→Int→List Int→Option (Int×Int×List Int×Int)
 |0,_,_,_,_,_,_,_=>none
 |k+1,x5,L,D,O,G,I,J=>if x5<D then(recoupref03_Transpose.l1 k x5 0 L D O G I J)else(some (G,I,J,0))
def recoupref03_Transpose.l1:Nat→Int→Int→Int→Int→List Int→Int→Int→List Int→Option (Int×Int×List Int×Int)
 |0,_,_,_,_,_,_,_,_=>none
 |k+1,x5,x6,D,G,I,L,O,J=>if x6<D then((recoupref03_At.f D G I x6 x5).bind fun U=>(if J.length<140737488355328 then(recoupref03_Transpose.l1 k x5 (wrap64 (x6+1)) D G I L O (J++ [U]))else(none)))else(recoupref03_Transpose.l0 k (wrap64 (x5+1)) D G I L O J)
end
def recoupref03_Transpose.f(k:Nat)(D:Int)(G:Int)(I:List Int):Option (Int×Int×List Int×Int):=(recoupref03_Right.f D G I).bind fun J=>(if J=true then(recoupref03_Transpose.l0 k 0 D G I G D ([]:List Int))else(some (0,0,([]:List Int),3)))
end Go.Proofs.YtjgcocfnilhggaaDoor.Q
namespace Go.Proofs.YtjgcocfnilhggaaDoor.Q
open Go.RowKit Go.Proofs.YtjgcocfnilhggaaDoorW.PrintWords Go.Proofs.YtjgcocfnilhggaaDoorW.PrintLast Go.Proofs.YtjgcocfnilhggaaDoorW.PrintMore
attribute [local go_sem] max2_int min2_int max_two min_two max_three min_three max_four min_four
set_option linter.unusedVariables false
set_option linter.unusedSimpArgs false
def recoupref04_First.l0:Nat→List Int→Int→Int→Int→Int→List Int→Option (List Int×Int)
 |0,_,_,_,_,_,_=>none
 |k+1,x4,x5,x6,I,D,G=>if x6<I then(if 0≤(wrap64 ((wrap64 (x6+1))*D))then(if(wrap64 ((wrap64 (x6+1))*D))≤(G.length:Int)then((recoupref04_Rank.f k (wrap64 (x6+1)) D (G.take ((wrap64 ((wrap64 (x6+1))*D)):Int).toNat)).bind fun J=>(if J.1>x5 then(if x4.length<17592186044416 then(recoupref04_First.l0 k (x4++ [x6]) J.1 (wrap64 (x6+1)) I D G)else(none))else(recoupref04_First.l0 k x4 x5 (wrap64 (x6+1)) I D G)))else(none))else(none))else(some (x4,0))
def recoupref04_First.f(k:Nat)(D:Int)(G:Int)(I:List Int):Option (List Int×Int):=(recoupref03_Right.f D G I).bind fun J=>(if J=true then(recoupref04_First.l0 k ([]:List Int) 0 0 D G I)else(some (([]:List Int),3)))
mutual
def recoupref04_wide.l0:Nat→List Int→Int→Int→Int→List Int→Option (Int×Int×List Int×List Int)
 |0,_,_,_,_,_=>none
 |k+1,x4,x5,G,D,I=>if x5<D then(recoupref04_wide.l1 k x4 x5 (x4.length:Int) (x4.length:Int) G D I)else(some (G,D,I,x4))
def recoupref04_wide.l1:Nat→List Int→Int→Int→Int→Int→Int→List Int→Option (Int×Int×List Int×List Int)
 |0,_,_,_,_,_,_,_=>none
 |k+1,x4,x5,x6,x7,D,G,I=>if x7<D then((recoupref03_At.f D G I x7 x5).bind fun J=>(if J=0 then(recoupref04_wide.l1 k x4 x5 x6 (wrap64 (x7+1)) D G I)else((recoupref01_Inv.f k J).bind fun L=>(recoupref04_wide.l2 k x4 x5 x6 x7 L.1 0 D G I))))else(recoupref04_wide.l0 k x4 (wrap64 (x5+1)) D G I)
def recoupref04_wide.l2:Nat→List Int→Int→Int→Int→Int→Int→Int→Int→List Int→Option (Int×Int×List Int×List Int)
 |0,_,_,_,_,_,_,_,_,_=>none
 |k+1,x4,x5,x6,x7,x9,J,I,D,G=>if J<D then((recoupref03_At.f I D G x6 J).bind fun L=>((recoupref03_At.f I D G x7 J).bind fun O=>(if 0≤(wrap64 ((wrap64 (x7*D))+J))then(if(wrap64 ((wrap64 (x7*D))+J))<(G.length:Int)then((recoupref01_Mul.f k x9 O).bind fun U=>(if 0≤(wrap64 ((wrap64 (x6*D))+J))then(if(wrap64 ((wrap64 (x6*D))+J))<(G.length:Int)then(recoupref04_wide.l2 k x4 x5 x6 x7 x9 (wrap64 (J+1)) I D ((G.set ((wrap64 ((wrap64 (x7*D))+J)):Int).toNat L).set ((wrap64 ((wrap64 (x6*D))+J)):Int).toNat U))else(none))else(none)))else(none))else(none))))else(recoupref04_wide.l3 k x4 x5 x6 0 I D G)
def recoupref04_wide.l3:Nat→List Int→Int→Int→Int→Int→Int→List Int→Option (Int×Int×List Int×List Int)
 |0,_,_,_,_,_,_,_=>none
 |k+1,x4,x5,x6,J,D,G,I=>if J<D then((recoupref03_At.f D G I J x5).bind fun L=>(recoupref04_wide.l4 k x4 x5 x6 J L 0 D G I))else(if x4.length<17592186044416 then(recoupref04_wide.l0 k (x4++ [x5]) (wrap64 (x5+1)) D G I)else(none))
def recoupref04_wide.l4:Nat→List Int→Int→Int→Int→Int→Int→Int→Int→List Int→Option (Int×Int×List Int×List Int)
 |0,_,_,_,_,_,_,_,_,_=>none
 |k+1,x4,x5,x6,J,O,L,G,D,I=>if L<D then(recoupref04_wide.j5 k x4 x5 x6 J O L (J !=x6) G D I)else(recoupref04_wide.j5 k x4 x5 x6 J O L false G D I)
def recoupref04_wide.j5:Nat→List Int→Int→Int→Int→Int→Int→Bool→Int→Int→List Int→Option (Int×Int×List Int×List Int)
 |0,_,_,_,_,_,_,_,_,_,_=>none
 |k+1,x4,x5,x6,J,X,L,Y,I,D,G=>if Y=true then(if 0≤(wrap64 ((wrap64 (J*D))+L))then(if(wrap64 ((wrap64 (J*D))+L))<(G.length:Int)then((recoupref03_At.f I D G x6 L).bind fun O=>((recoupref01_Mul.f k X O).bind fun U=>(recoupref04_wide.l4 k x4 x5 x6 J X (wrap64 (L+1)) I D (G.set ((wrap64 ((wrap64 (J*D))+L)):Int).toNat (Go.bits .xor .u8 (rd G (wrap64 ((wrap64 (J*D))+L))) U)))))else(none))else(none))else(recoupref04_wide.l3 k x4 x5 x6 (wrap64 (J+1)) I D G)
end
def recoupref04_wide.f(k:Nat)(D:Int)(G:Int)(I:List Int):Option (Int×Int×List Int×List Int):=recoupref04_wide.l0 k ([]:List Int) 0 D G I
end Go.Proofs.YtjgcocfnilhggaaDoor.Q
namespace Go.Proofs.YtjgcocfnilhggaaDoor.Q
open Go.RowKit Go.Proofs.YtjgcocfnilhggaaDoorW.PrintWords Go.Proofs.YtjgcocfnilhggaaDoorW.PrintLast Go.Proofs.YtjgcocfnilhggaaDoorW.PrintMore
attribute [local go_sem] max2_int min2_int max_two min_two max_three min_three max_four min_four
set_option linter.unusedVariables false
set_option linter.unusedSimpArgs false
mutual
def recoupref04_Solve.j0:Nat→List Int→Bool→Int→Int→List Int→Option (List Int×Bool×Int)
 |0,_,_,_,_,_=>none
 |k+1,x1,J,D,G,I=>if J=true then(some (([]:List Int),false,3))else(recoupref04_Solve.l0 k x1 0 D G I D (wrap64 (G+1)) ([]:List Int))
def recoupref04_Solve.l0:Nat→List Int→Int→Int→Int→List Int→Int→Int→List Int→Option (List Int×Bool×Int)
 |0,_,_,_,_,_,_,_,_=>none
 |k+1,x1,x8,G,D,I,O,U,J=>if x8<G then((recoupref03_Row.f k G D I x8).bind fun X=>(if J.length+X.1.length<140737488355328 then((some (J++X.1:List Int)).bind fun Y=>(if 0≤x8 then(if x8<(x1.length:Int)then((some (([rd x1 x8]:List Int):List Int)).bind fun Z=>(if Y.length+Z.length<140737488355328 then(recoupref04_Solve.l0 k x1 (wrap64 (x8+1)) G D I O U (Y++Z))else(none)))else(none))else(none)))else(none)))else((recoupref04_wide.f k O U J).bind fun L=>(if 0≤D then(if(D:Int).toNat≤281474976710656 then(recoupref04_Solve.l1 k L.2.2.2 (List.replicate (D:Int).toNat 0) 0 G D I L.1 L.2.1 L.2.2.1)else(none))else(none)))
def recoupref04_Solve.l1:Nat→List Int→List Int→Int→Int→Int→List Int→Int→Int→List Int→Option (List Int×Bool×Int)
 |0,_,_,_,_,_,_,_,_,_=>none
 |k+1,O,Y,G,U,D,X,I,J,L=>if G<(O.length:Int)then(if 0≤G then(if(rd O G)=D then(some (([]:List Int),false,0))else((recoupref03_At.f I J L G D).bind fun Z=>(if 0≤(rd O G)then(if(rd O G)<(Y.length:Int)then(recoupref04_Solve.l1 k O (Y.set ((rd O G):Int).toNat Z) (wrap64 (G+1)) U D X I J L)else(none))else(none))))else(none))else(some (Y,true,0))
end
def recoupref04_Solve.f(k:Nat)(D:Int)(G:Int)(I:List Int)(l1:List Int):Option (List Int×Bool×Int):=(recoupref03_Right.f D G I).bind fun J=>(if J=true then(recoupref04_Solve.j0 k l1 ((l1.length:Int)!=D) D G I)else(recoupref04_Solve.j0 k l1 true D G I))
end Go.Proofs.YtjgcocfnilhggaaDoor.Q
namespace Go.Proofs.YtjgcocfnilhggaaDoor.Q
open Go.RowKit Go.Proofs.YtjgcocfnilhggaaDoorW.PrintWords Go.Proofs.YtjgcocfnilhggaaDoorW.PrintLast Go.Proofs.YtjgcocfnilhggaaDoorW.PrintMore
attribute [local go_sem] max2_int min2_int max_two min_two max_three min_three max_four min_four
set_option linter.unusedVariables false
set_option linter.unusedSimpArgs false
mutual
def recoupref04_Combine.j0:Nat→List Int→Bool→Int→Int→List Int→Option (List Int×Bool×Int)
 |0,_,_,_,_,_=>none
 |k+1,x1,X,D,G,I=>if X=true then(some (([]:List Int),false,3))else((recoupref04_First.f k D G I).bind fun O=>((recoupref03_Pick.f k D G I O.1).bind fun J=>((recoupref03_Transpose.f k J.1 J.2.1 J.2.2.1).bind fun L=>((recoupref04_Solve.f k L.1 L.2.1 L.2.2.1 x1).bind fun U=>(if U.2.1=true then(if 0≤D then(if(D:Int).toNat≤281474976710656 then(recoupref04_Combine.l0 k O.1 U.1 (List.replicate (D:Int).toNat 0) 0)else(none))else(none))else(some (([]:List Int),false,0)))))))
def recoupref04_Combine.l0:Nat→List Int→List Int→List Int→Int→Option (List Int×Bool×Int)
 |0,_,_,_,_=>none
 |k+1,x7,G,I,D=>if D<(x7.length:Int)then(if 0≤D then(if D<(G.length:Int)then(if 0≤(rd x7 D)then(if(rd x7 D)<(I.length:Int)then(recoupref04_Combine.l0 k x7 G (I.set ((rd x7 D):Int).toNat (rd G D)) (wrap64 (D+1)))else(none))else(none))else(none))else(none))else(some (I,true,0))
end
def recoupref04_Combine.f(k:Nat)(G:Int)(D:Int)(I:List Int)(l1:List Int):Option (List Int×Bool×Int):=(recoupref03_Right.f G D I).bind fun J=>(if J=true then(recoupref04_Combine.j0 k l1 ((l1.length:Int)!=D) G D I)else(recoupref04_Combine.j0 k l1 true G D I))
end Go.Proofs.YtjgcocfnilhggaaDoor.Q
namespace Go.Proofs.YtjgcocfnilhggaaDoor.Q
open Go.RowKit Go.Proofs.YtjgcocfnilhggaaDoorW.PrintWords Go.Proofs.YtjgcocfnilhggaaDoorW.PrintLast Go.Proofs.YtjgcocfnilhggaaDoorW.PrintMore
attribute [local go_sem] max2_int min2_int max_two min_two max_three min_three max_four min_four
set_option linter.unusedVariables false
set_option linter.unusedSimpArgs false
def recoupref19_Least.l0:Nat→Int→List Int→List Int→List Int→Int→Option (Int×List Int×Bool×Int)
 |0,_,_,_,_,_=>none
 |k+1,x9,G,I,J,D=>if D<(G.length:Int)then(if 0≤D then(if D<(I.length:Int)then(if 0≤(rd G D)then(if(rd G D)<(J.length:Int)then(recoupref19_Least.l0 k x9 G I (J.set ((rd G D):Int).toNat (rd I D)) (wrap64 (D+1)))else(none))else(none))else(none))else(none))else(some (x9,J,true,0))
def recoupref19_Least.f(k:Nat)(D:Int)(G:Int)(I:List Int)(a1:Int):Option (Int×List Int×Bool×Int):=(recoupref19_bad.f D G I a1).bind fun O=>(if O=0 then((recoupref19_others.f k D G I a1).bind fun Z=>((recoupref19_repairs.f k D G I a1 Z).bind fun aa=>(if aa=true then((recoupref19_first.f k D G I a1).bind fun J=>(if J.2=true then((recoupref06_List.f k J.1).bind fun U=>((recoupref03_Pick.f k D G I U).bind fun L=>((recoupref03_Row.f k D G I a1).bind fun X=>((recoupref04_Combine.f k L.1 L.2.1 L.2.2.1 X.1).bind fun Y=>(if 0≤D then(if(D:Int).toNat≤281474976710656 then(recoupref19_Least.l0 k J.1 U Y.1 (List.replicate (D:Int).toNat 0) 0)else(none))else(none))))))else(some (0,([]:List Int),false,4))))else(some (0,([]:List Int),false,0)))))else(some (0,([]:List Int),false,O)))
end Go.Proofs.YtjgcocfnilhggaaDoor.Q
