/- Texts of the proof of LocalWithin: what each Go function answers, and what the answers mean; no condition beyond each theorem's own. -/
import Derived.Test.YtjgcocfnilhggaaDoorLw3
set_option maxHeartbeats 16000000
set_option maxRecDepth 100000
set_option linter.unusedVariables false
set_option linter.unusedSimpArgs false
namespace Go.Proofs.YtjgcocfnilhggaaDoor.Q
open RowKit YtjgcocfnilhggaaDoorW.PrintWords YtjgcocfnilhggaaDoorW.PrintLast YtjgcocfnilhggaaDoorW.PrintMore
attribute [local go_sem] max2_int min2_int max_two min_two max_three min_three max_four min_four
def local_Least.j0:Nat->Int->Int->Bool->Int->Int->List Int->Option (Int×List Int×Bool×Int)
 |0,_,_,_,_,_,_=>none
 |k+1,x1,x7,Z,D,L,O=>if Z=true then(some (0,([]:List Int),false,x7))else((local_search.f k D L O x1).bind fun G=>(if G.2=0 then((subset_List.f k G.1).bind fun U=>((matrix_Pick.f D L O U).bind fun I=>(if I.2.2.2=0 then((local_row.f D L O x1).bind fun X=>((gauss_Combine.f k I.1 I.2.1 I.2.2.1 X).bind fun J=>(if J.2.2=0 then(if J.2.1=true then((local_put.f k D G.1 J.1).bind fun Y=>(some (G.1,Y,true,0)))else(some (0,([]:List Int),false,J.2.2)))else(some (0,([]:List Int),false,J.2.2)))))else(some (0,([]:List Int),false,I.2.2.2)))))else(some (0,([]:List Int),false,G.2))))
def local_Least.f(k:Nat)(G:Int)(I:Int)(J:List Int)(a1:Int):Option (Int×List Int×Bool×Int):=(local_may.f k G I J a1).bind fun D=>(if D.2=0 then(local_Least.j0 k a1 D.2 (!D.1) G I J)else(local_Least.j0 k a1 D.2 true G I J))
theorem local_Least.mono_l: ∀k,(∀y0 y1 y2 y3 y4 y5,LeO (local_Least.j0 k y0 y1 y2 y3 y4 y5) (local_Least.j0 (k+1) y0 y1 y2 y3 y4 y5))
 |0=>fun _ _ _ _ _ _ r h=>by simp[local_Least.j0]at h
 |k+1=>by
  have D:=local_Least.mono_l k
  ·intro y0 y1 y2 y3 y4 y5;unfold local_Least.j0
   with_reducible repeat' first|exact D _ _ _ _ _ _|exact gauss_Combine.mono _ _ _ _ _|exact local_may.mono _ _ _ _ _|exact local_put.mono _ _ _ _|exact local_search.mono _ _ _ _ _|exact subset_List.mono _ _|exact LeO.refl _|exact LeO.none _|refine LeO.ite ?_ ?_|refine LeO.bind ?_ (fun _=>?_)
theorem local_Least.mono: ∀a0 a1 a2 a3 k,LeO (local_Least.f k a0 a1 a2 a3) (local_Least.f (k+1) a0 a1 a2 a3):=by
 intro a0 a1 a2 a3 k;have D:=local_Least.mono_l k;unfold local_Least.f
 with_reducible repeat' first|exact D _ _ _ _ _ _|exact gauss_Combine.mono _ _ _ _ _|exact local_may.mono _ _ _ _ _|exact local_put.mono _ _ _ _|exact local_search.mono _ _ _ _ _|exact subset_List.mono _ _|exact LeO.refl _|exact LeO.none _|refine LeO.ite ?_ ?_|refine LeO.bind ?_ (fun _=>?_)
def local_Least.T7:Bool×List (List Nat×List Nat):=(true,[([],[]),([],[]),([1],[1]),([0,2,2],[0,2]),([3],[3]),([4],[4]),([4],[4]),([],[]),([7,5,3,0,1,2,3,4,5,7],[5,7]),([6,8,0,1,2,3,4,5,6,7,8],[6])])
def local_Least.B7:List Nat:= [0,0,2,7,15,31,31,0,191,511]
theorem local_Least.tab7:rtab .any (opsOf Tryd.f11 7)=local_Least.T7:=by kernel_rfl
theorem local_Least.bits7:waitsOk local_Least.T7.2 local_Least.B7=true:=by kernel_rfl
def local_Least.T10:Bool×List (List Nat×List Nat):=(true,[([],[]),([],[]),([],[]),([1,2],[1,2]),([0,3,3],[0,3]),([4],[4]),([5],[5]),([5],[5]),([5],[5]),([6,4,0,1,2,3,4,5,6],[6]),([7,9,0,1,2,3,4,5,6,7,9],[7]),([8,10,0,1,2,3,4,5,6,7,8,9,10],[8])])
def local_Least.B10:List Nat:= [0,0,0,6,15,31,63,63,63,127,767,2047]
theorem local_Least.tab10:rtab .any (opsOf Tryd.f11 10)=local_Least.T10:=by kernel_rfl
theorem local_Least.bits10:waitsOk local_Least.T10.2 local_Least.B10=true:=by kernel_rfl
theorem local_Least.calls(k:Nat)(ac:Int)(af:Int)(ai:Option Addr)(aj:Nat)(aa:List Int)(a1:Int)(r1:Int)(r2:List Int)(r3:Bool)(r4:Int)(w:World)(bg:Kd.C (Kd.int .u8) w ai aa.length aa)(bf:aa.length<=aj)(h:local_Least.f k ac af aa a1=some (r1,r2,r3,r4))(hT:TabAt 0 Lib.deBruijn64tab w):
 Calls Tryd.prog 11 #[.agg #[.int .i64 ac,.int .i64 af,.slice ai aa.length aj],.int .i64 a1] w fun e w'=> ∃v1_:Value,e= .returned (.tuple #[.int .u64 r1,v1_,.bool r3,.int .i64 r4])/\Kd.R (Kd.int .u8) 5 w' w.heap.size (fun _=>True) v1_ r2/\Below w.heap.size w w':=by
 have HT:=aK hT;clear hT;have dw:=Tryd.underlying24;have ap:=aK bg;have ao:=aK bf;clear bg bf;have HB:=aK (Below.refl w.heap.size w);have H:((local_may.f k ac af aa a1).bind fun a4=>(if a4.2=0 then(local_Least.j0 k a1 a4.2 (!a4.1) ac af aa)else(local_Least.j0 k a1 a4.2 true ac af aa)))=some (r1,r2,r3,r4):=h;clear h;obtain⟨⟨bv,az⟩,A3,H⟩:=bindO H
 (try dsimp only at H)
 have b3:=aK H;clear H
 go_enter Tryd.func11,Tryd.ntmps11
 go_upto_region 2 with(first|((with_reducible refine gD 2 rfl ?_);refine bE 2 #[.int .i64 ac,.int .i64 af,.slice ai aa.length aj] 24 ?_;intro Z hg w5 hbox hb;have D:=aK (hbox);have bb:=hbS HB hg;have de:=hbS HB hg;replace HB:=hbB HB hb;clear hb hbox hg;obtain⟨bi,bj,bk,bl,bm,bn⟩:=cell3 D)|((with_reducible refine gC 32 rfl ?_);refine cG (some 13) Tryd.func32 #[.agg #[.int .i64 ac,.int .i64 af,.slice ai aa.length aj],.int .i64 a1] ?_;(with_reducible refine(local_may.calls k ac af _ _ aa a1 bv az _ ?side1 ?side2 A3.out (tab_below HT.out zf)).mono ?_);(case side1=>exact kcB ap HB);(case side2=>exact ao.out);rintro e w7 ⟨rfl,hb⟩;refine⟨_,rfl,?_⟩;replace D:=bkB D hb;replace HB:=hbB HB hb;(try clear hb)))
 (try simp only[Act.put,zL])
 go_cut [21] (fun dk wc=> ∃(kq:Nat) (a5:Bool),dk= .bool a5/\Aside0 (local_Least.j0 kq a1 az a5 ac af aa=some (r1,r2,r3,r4))/\Aside0 (kq<=k)/\Aside0 (wc.heap[Z]? =some (.cells #[.int .i64 ac,.int .i64 af,(.slice ai aa.length aj)] 24 (0,0)))/\Aside0 (Below w.heap.size w wc))
 case first=>
  have H:=b3.out;clear b3;by_cases c8:az=0
  case neg=>
   rw[if_neg c8]at H
   have c8b0:(az==0)=false:=beq_eq_false_iff_ne.mpr c8;have c8b1:(az !=0)=true:=bne_iff_ne.mpr c8
   (first|rw[c8b0] |(simp only[i64_w,i32_w];rw[c8b0])|skip)
   have H':=aK H;clear H;go_wp2
   go_meet
   case rel=>exact⟨_,(true),rsE,H',⟨leE⟩,⟨bkA D.out⟩,⟨hbA HB.out⟩⟩
  rw[if_pos c8]at H
  have c8b0:(az==0)=true:=beq_iff_eq.mpr c8;have c8b1:(az !=0)=false:=bne_eq_false_iff_eq.mpr c8;clear c8
  (first|rw[c8b0] |(simp only[i64_w,i32_w];rw[c8b0])|skip)
  have H':=aK H;clear H;go_wp2
  go_meet
  case rel=>exact⟨_,(!bv),rsE,H',⟨leE⟩,⟨bkA D.out⟩,⟨hbA HB.out⟩⟩
 case rest=>
  clear b3
  (try clear c1);(try clear p2);(try clear c3);(try clear c8);(try clear c8b0);(try clear c8b1);(try clear bi bj bk bl bm bn)
  obtain⟨kq,a5,rfl,HA,dy,D,HB⟩:=hcut
  cases kq with
  |zero=>exact absurd HA.out (by simp[local_Least.j0])
  |succ a9=>
   have H:=HA.out;clear HA;simp only[local_Least.j0]at H;by_cases c9:a5=true
   ·subst c9;rw[if_pos rfl]at H
    obtain⟨rfl,rfl,rfl,rfl⟩:=zP4 H;go_wp2;refine bodyPost_ret (results_list (rs:= [.tmp 4,.tmp 5,.tmp 6,.tmp 7]) rfl zd (.tmp (.tmp (.tmp (.tmp .nil))))) rfl ?_;exact⟨_,rfE,nilE,hbA HB.out⟩
   replace c9:=Bool.eq_false_iff.mpr c9;subst c9;rw[if_neg nofT]at H
   obtain⟨⟨ax,a0⟩,b5,H⟩:=bindO H
   (try dsimp only at H)
   by_cases bc:a0=0
   case neg=>
    rw[if_neg bc]at H
    have c11b0:(a0==0)=false:=beq_eq_false_iff_ne.mpr bc;have c11b1:(a0 !=0)=true:=bne_iff_ne.mpr bc;obtain⟨rfl,rfl,rfl,rfl⟩:=zP4 H;obtain⟨cn,co,cp,cx,cy,cz⟩:=cell3 D
    go_wp2_with (first|((with_reducible refine gC 33 rfl ?_);refine cG (some 26) Tryd.func33 #[.agg #[.int .i64 ac,.int .i64 af,.slice ai aa.length aj],.int .i64 a1] ?_;(with_reducible refine(local_search.calls a9 ac af _ _ aa a1 ax a0 _ ?side1 ?side2 b5.out (tab_below HT.out zf)).mono ?_);(case side1=>exact kcB ap HB);(case side2=>exact ao.out);rintro e eb ⟨rfl,hb⟩;refine⟨_,rfl,?_⟩;replace D:=bkB D hb;replace HB:=hbB HB hb;(try clear hb)))
    refine bodyPost_ret (results_list (rs:= [.tmp 4,.tmp 5,.tmp 6,.tmp 7]) rfl zd (.tmp (.tmp (.tmp (.tmp .nil))))) rfl ?_;exact⟨_,rfE,nilE,hbA HB.out⟩
   rw[if_pos bc]at H
   have c11b0:(a0==0)=true:=beq_iff_eq.mpr bc;have c11b1:(a0 !=0)=false:=bne_eq_false_iff_eq.mpr bc;clear bc;obtain⟨am,b6,H⟩:=bindO H
   (try dsimp only at H)
   obtain⟨⟨X,Y,U,ar⟩,b0,H⟩:=bindO H
   (try dsimp only at H)
   obtain⟨ch,ci,cj,cq,cr,ct⟩:=cell3 D
   try go_wp2_with (first|((with_reducible refine gC 33 rfl ?_);refine cG (some 26) Tryd.func33 #[.agg #[.int .i64 ac,.int .i64 af,.slice ai aa.length aj],.int .i64 a1] ?_;(with_reducible refine(local_search.calls a9 ac af _ _ aa a1 ax a0 _ ?side1 ?side2 b5.out (tab_below HT.out zf)).mono ?_);(case side1=>exact kcB ap HB);(case side2=>exact ao.out);rintro e dl ⟨rfl,hb⟩;refine⟨_,rfl,?_⟩;replace D:=bkB D hb;replace HB:=hbB HB hb;(try clear hb)))
   replace D:=aK (blk_drew D.out);replace HB:=aK (below_drew1 HB.out);refine start_ (n:=10) (S:=fun w'=>w'.cell? ⟨Z,0,none⟩=some (.int .i64 ac)/\w'.cell? ⟨Z,1,none⟩=some (.int .i64 af)/\w'.cell? ⟨Z,2,none⟩=some (.slice ai aa.length aj)) (ds:= []) (.replicate 10 false) zb rfl rfl (z3c D) (fun hHeld=>?_);refine with_tabW local_Least.tab7 local_Least.bits7 (fun HT_ HW_=>?_);generalize dl.drew=dz at D HB hHeld⊢;refine pu 1 (some 34) (mB 10 2) HT_ ?_;refine tk3 0 (some 33) (mB 10 3) HT_ HW_ hHeld ?_;refine join_ (σ:=Value×Value×Nat) 2 (mB 10 255) (fun s_=> [(35,s_.1),(36,.tuple #[.agg #[.int .i64 X,.int .i64 Y,s_.2.1],.int .i64 ar]),(8,.pointer (some ⟨s_.2.2,0,none⟩)),(32,.tuple #[.agg #[.int .i64 X,.int .i64 Y,s_.2.1],.int .i64 ar]),(37,.agg #[.int .i64 X,.int .i64 Y,s_.2.1]),(38,.int .i64 ar)]) (fun s_ w'=>(w'.cell? ⟨Z,0,none⟩=some (.int .i64 ac)/\w'.cell? ⟨Z,1,none⟩=some (.int .i64 af)/\w'.cell? ⟨Z,2,none⟩=some (.slice ai aa.length aj))/\(Kd.R (Kd.int .i64) 3 w' w.heap.size (fun _=>True) s_.1 am)/\(Kd.R (Kd.int .u8) 5 w' w.heap.size (fun _=>True) s_.2.1 U)/\(w'.heap[Z]? =some (.cells #[.int .i64 ac,.int .i64 af,.slice ai aa.length aj] 24 (0,0)))/\(w'.heap[s_.2.2]? =some (.cells #[.int .i64 0,.int .i64 0,.slice none 0 0] 24 (0,0)))/\(w.heap.size<=s_.2.2)/\(w.heap.size<=s_.2.2)/\(Z≠s_.2.2)/\(s_.2.2≠Z)/\(Below w.heap.size w w')) ?_ ?_;rotate_left
   ·intro hCont;refine two_ (i:=2) (j:=7) (Ni:=some 35) (Nj:=some 8) (mB 10 7) (mB 10 131) rfl rfl rfl rfl (two_of HT_.out zb) zc zc (fun K hK=>?_) (fun K hK=>?_)
    ·skip
     refine goes_ Tryd.func35 zb rfl #[.int .u64 ax] ze rfl rfl (by(try simp only[List.map_toArray,List.map_cons,List.map_nil]);first|done|rfl|(simp only[List.length_drop,List.length_take];rfl)) ?_;with_reducible refine(subset_List.calls a9 ax am _ b6.out (tab_below HT.out zf)).mono ?_
     rintro e dm ⟨av,rfl,ag,hb⟩;refine⟨_,rfl,?_⟩;have J:=aK (Kd.R_lower ag (below_size (hbA HB.out)));replace D:=bkB D hb;replace HB:=hbB HB hb
     (try clear hb)
     (try clear a3)
     (try clear hk)
     (try clear hi)
     (try clear ag)
     obtain⟨bo,bp,bq⟩:=Kd.R_slice J.out
     (first|subst bq|(injection bq with f1_ f2_ f3_;have f4_:=f1_.symm;have f5_:=f3_.symm;clear f1_ f2_ f3_;subst f4_;subst f5_))
     refine hK.out _ _ (z3c D) (fun hHeld=>?_);clear hK K;refine znm (some 35) ?_;refine two_ (i:=3) (j:=7) (Ni:=some 36) (Nj:=some 8) (mB 10 15) (mB 10 135) rfl rfl rfl rfl (two_of HT_.out zb) zc zc (fun K hK=>?_) (fun K hK=>?_)
     ·skip
      refine goes_ Tryd.func34 zb rfl #[.agg #[.int .i64 ac,.int .i64 af,.slice ai aa.length aj],.slice bo am.length bp] ze rfl rfl (by(try simp only[List.map_toArray,List.map_cons,List.map_nil]);first|done|rfl|(simp only[List.length_drop,List.length_take];rfl)) ?_;with_reducible refine(matrix_Pick.calls ac af _ _ aa _ _ am X Y U ar _ ?side1 ?side2 ?side3 ?side4 b0.out).mono ?_
      (case side1=>exact kcB ap HB)
      (case side2=>exact ao.out)
      (case side3=>exact kcA (Kd.R_reads' J.out).2.2)
      (case side4=>exact(Kd.R_reads' J.out).2.1)
      rintro e d0 ⟨a2,rfl,ag,hb⟩;refine⟨_,rfl,?_⟩;replace J:=kdB J hb;have L:=aK (Kd.R_lower ag (below_size (hbA HB.out)));replace D:=bkB D hb;replace HB:=hbB HB hb
      (try clear hb)
      (try clear a3)
      (try clear hk)
      (try clear hi)
      (try clear ag)
      refine hK.out _ _ (z3c D) (fun hHeld=>?_);clear hK K;refine znm (some 36) ?_;refine pu 4 (some 32) (mB 10 31) HT_ ?_;refine pu 5 (some 37) (mB 10 63) HT_ ?_;refine pu 6 (some 38) (mB 10 127) HT_ ?_;refine zoh 7 (some 8) (mB 10 255) HT_ fun K hK=>?_;refine box_step ?hg (N:=8) ?hd (cs:= #[.int .i64 0,.int .i64 0,.slice none 0 0]) (t:=24) ?hr ?_;(case hd=>rfl);(case hg=>rfl);(case hr=>first|(go_simp;done)|(go_simp;rfl))
      intro G hg dc hbox hb;replace J:=kdB J hb;replace L:=kdB L hb;have I:=aK (hbox);have an:=hbS HB hg;have aw:=hbS HB hg;replace HB:=hbB HB hb;have O:=neL D hg;have ah:=neG D hg;replace D:=bkB D hb;clear hb hbox hg;refine hK.out _ _ (z3c D) (fun hHeld=>?_);clear hK K;refine znm (some 8) ?_;exact norm_ zk (hCont (.slice bo am.length bp,a2,G) _ ⟨hHeld,(kdA J.out),(kdA L.out),(bkA D.out),(bkA I.out),an.out,aw.out,O.out,ah.out,(hbA HB.out)⟩)
     ·skip
      refine box_step ?hg (N:=8) ?hd (cs:= #[.int .i64 0,.int .i64 0,.slice none 0 0]) (t:=24) ?hr ?_;(case hd=>rfl);(case hg=>rfl);(case hr=>first|(go_simp;done)|(go_simp;rfl))
      intro G hg dn hbox hb;replace J:=kdB J hb;have I:=aK (hbox);have an:=hbS HB hg;have aw:=hbS HB hg;replace HB:=hbB HB hb;have O:=neL D hg;have ah:=neG D hg;replace D:=bkB D hb;clear hb hbox hg;obtain⟨a6,a7,a8⟩:=Kd.R_slice J.out
      (first|subst a8|(injection a8 with f1_ f2_ f3_;have f4_:=f1_.symm;have f5_:=f3_.symm;clear f1_ f2_ f3_;subst f4_;subst f5_))
      refine hK.out _ _ (z3c D) (fun hHeld=>?_);clear hK K;refine znm (some 8) ?_;refine zoh 3 (some 36) (mB 10 143) HT_ fun K hK=>?_;refine goes_ Tryd.func34 zb rfl #[.agg #[.int .i64 ac,.int .i64 af,.slice ai aa.length aj],.slice a6 am.length a7] ze rfl rfl (by(try simp only[List.map_toArray,List.map_cons,List.map_nil]);first|done|rfl|(simp only[List.length_drop,List.length_take];rfl)) ?_;with_reducible refine(matrix_Pick.calls ac af _ _ aa _ _ am X Y U ar _ ?side1 ?side2 ?side3 ?side4 b0.out).mono ?_
      (case side1=>exact kcB ap HB)
      (case side2=>exact ao.out)
      (case side3=>exact kcA (Kd.R_reads' J.out).2.2)
      (case side4=>exact(Kd.R_reads' J.out).2.1)
      rintro e dc ⟨a2,rfl,ag,hb⟩;refine⟨_,rfl,?_⟩;replace J:=kdB J hb;have L:=aK (Kd.R_lower ag (below_size (hbA HB.out)));replace D:=bkB D hb;replace I:=bkB I hb;replace HB:=hbB HB hb
      (try clear hb)
      (try clear a3)
      (try clear hk)
      (try clear hi)
      (try clear ag)
      refine hK.out _ _ (z3c D) (fun hHeld=>?_);clear hK K;refine znm (some 36) ?_;refine pu 4 (some 32) (mB 10 159) HT_ ?_;refine pu 5 (some 37) (mB 10 191) HT_ ?_;refine pu 6 (some 38) (mB 10 255) HT_ ?_;exact norm_ zk (hCont (.slice a6 am.length a7,a2,G) _ ⟨hHeld,(kdA J.out),(kdA L.out),(bkA D.out),(bkA I.out),an.out,aw.out,O.out,ah.out,(hbA HB.out)⟩)
    ·skip
     refine box_step ?hg (N:=8) ?hd (cs:= #[.int .i64 0,.int .i64 0,.slice none 0 0]) (t:=24) ?hr ?_;(case hd=>rfl);(case hg=>rfl);(case hr=>first|(go_simp;done)|(go_simp;rfl))
     intro G hg dm hbox hb;have I:=aK (hbox);have an:=hbS HB hg;have aw:=hbS HB hg;replace HB:=hbB HB hb;have O:=neL D hg;have ah:=neG D hg;replace D:=bkB D hb;clear hb hbox hg;refine hK.out _ _ (z3c D) (fun hHeld=>?_);clear hK K;refine znm (some 8) ?_;refine zoh 2 (some 35) (mB 10 135) HT_ fun K hK=>?_;refine goes_ Tryd.func35 zb rfl #[.int .u64 ax] ze rfl rfl (by(try simp only[List.map_toArray,List.map_cons,List.map_nil]);first|done|rfl|(simp only[List.length_drop,List.length_take];rfl)) ?_;with_reducible refine(subset_List.calls a9 ax am _ b6.out (tab_below HT.out zf)).mono ?_
     rintro e dn ⟨av,rfl,ag,hb⟩;refine⟨_,rfl,?_⟩;have J:=aK (Kd.R_lower ag (below_size (hbA HB.out)));replace D:=bkB D hb;replace I:=bkB I hb;replace HB:=hbB HB hb
     (try clear hb)
     (try clear a3)
     (try clear hk)
     (try clear hi)
     (try clear ag)
     obtain⟨a6,a7,a8⟩:=Kd.R_slice J.out
     (first|subst a8|(injection a8 with f1_ f2_ f3_;have f4_:=f1_.symm;have f5_:=f3_.symm;clear f1_ f2_ f3_;subst f4_;subst f5_))
     refine hK.out _ _ (z3c D) (fun hHeld=>?_);clear hK K;refine znm (some 35) ?_;refine zoh 3 (some 36) (mB 10 143) HT_ fun K hK=>?_;refine goes_ Tryd.func34 zb rfl #[.agg #[.int .i64 ac,.int .i64 af,.slice ai aa.length aj],.slice a6 am.length a7] ze rfl rfl (by(try simp only[List.map_toArray,List.map_cons,List.map_nil]);first|done|rfl|(simp only[List.length_drop,List.length_take];rfl)) ?_;with_reducible refine(matrix_Pick.calls ac af _ _ aa _ _ am X Y U ar _ ?side1 ?side2 ?side3 ?side4 b0.out).mono ?_
     (case side1=>exact kcB ap HB)
     (case side2=>exact ao.out)
     (case side3=>exact kcA (Kd.R_reads' J.out).2.2)
     (case side4=>exact(Kd.R_reads' J.out).2.1)
     rintro e dc ⟨a2,rfl,ag,hb⟩;refine⟨_,rfl,?_⟩;replace J:=kdB J hb;have L:=aK (Kd.R_lower ag (below_size (hbA HB.out)));replace D:=bkB D hb;replace I:=bkB I hb;replace HB:=hbB HB hb
     (try clear hb)
     (try clear a3)
     (try clear hk)
     (try clear hi)
     (try clear ag)
     refine hK.out _ _ (z3c D) (fun hHeld=>?_);clear hK K;refine znm (some 36) ?_;refine pu 4 (some 32) (mB 10 159) HT_ ?_;refine pu 5 (some 37) (mB 10 191) HT_ ?_;refine pu 6 (some 38) (mB 10 255) HT_ ?_;exact norm_ zk (hCont (.slice a6 am.length a7,a2,G) _ ⟨hHeld,(kdA J.out),(kdA L.out),(bkA D.out),(bkA I.out),an.out,aw.out,O.out,ah.out,(hbA HB.out)⟩)
   rintro⟨av,a2,G⟩ al ⟨hS_,h0_,h1_,h2_,h3_,h4_,h5_,h6_,h7_,h8_⟩;have n0_:Aside0 (Kd.R (Kd.int .i64) 3 al w.heap.size (fun _=>True) av am):=⟨h0_⟩
   have n1_:Aside0 (Kd.R (Kd.int .u8) 5 al w.heap.size (fun _=>True) a2 U):=⟨h1_⟩
   have n2_:Aside0 (al.heap[Z]? =some (.cells #[.int .i64 ac,.int .i64 af,.slice ai aa.length aj] 24 (0,0))):=⟨h2_⟩
   have n3_:Aside0 (al.heap[G]? =some (.cells #[.int .i64 0,.int .i64 0,.slice none 0 0] 24 (0,0))):=⟨h3_⟩
   have n4_:Aside0 (w.heap.size<=G):=⟨h4_⟩
   have n5_:Aside0 (w.heap.size<=G):=⟨h5_⟩
   have n6_:Aside0 (Z≠G):=⟨h6_⟩
   have n7_:Aside0 (G≠Z):=⟨h7_⟩
   have n8_:Aside0 (Below w.heap.size w al):=⟨h8_⟩
   clear D;clear HB;clear h0_ h1_ h2_ h3_ h4_ h5_ h6_ h7_ h8_;have J:=n0_;have L:=n1_;have D:=n2_;have I:=n3_;have an:=n4_;have aw:=n5_;have O:=n6_;have ah:=n7_;have HB:=n8_;clear n0_ n1_ n2_ n3_ n4_ n5_ n6_ n7_ n8_;have hHeld:al.cell? ⟨Z,0,none⟩=some (.int .i64 ac)/\al.cell? ⟨Z,1,none⟩=some (.int .i64 af)/\al.cell? ⟨Z,2,none⟩=some (.slice ai aa.length aj):=hS_;obtain⟨ab,ae,br⟩:=Kd.R_slice L.out
   (first|subst br|(injection br with f1_ f2_ f3_;have f4_:=f1_.symm;have f5_:=f3_.symm;clear f1_ f2_ f3_;subst f4_;subst f5_))
   refine znq ?_;refine zoh 8 (none) (mB 10 511) HT_ fun K hK=>?_;have dt:al.cell? ⟨G,0,none⟩=some (.int .i64 0):=(blk_cell I.out 0).trans rfl;have df:=blk_frozen I.out 0;have c6:=O.out;have c2:=ah.out;have du:al.cell? ⟨G,1,none⟩=some (.int .i64 0):=(blk_cell I.out 1).trans rfl;have dg:=blk_frozen I.out 1;have c7:=O.out;have c4:=ah.out;have dv:al.cell? ⟨G,2,none⟩=some (.slice none 0 0):=(blk_cell I.out 2).trans rfl;have dh:=blk_frozen I.out 2;have da:=O.out;have c5:=ah.out;refine zsk ?_;refine hK.out _ _ ⟨((cell_far (p:=⟨G,_,none⟩) O.out _).trans (((cell_far (p:=⟨G,_,none⟩) O.out _).trans (((cell_far (p:=⟨G,_,none⟩) O.out _).trans (hHeld.1)))))),((cell_far (p:=⟨G,_,none⟩) O.out _).trans (((cell_far (p:=⟨G,_,none⟩) O.out _).trans (((cell_far (p:=⟨G,_,none⟩) O.out _).trans (hHeld.2.1)))))),((cell_far (p:=⟨G,_,none⟩) O.out _).trans (((cell_far (p:=⟨G,_,none⟩) O.out _).trans (((cell_far (p:=⟨G,_,none⟩) O.out _).trans (hHeld.2.2))))))⟩ (fun hHeld=>?_);clear hK K;refine pu 9 (some 7) (mB 10 1023) HT_ ?_;refine done_ (done_of HT_.out zb) ?_;by_cases bd:ar=0
   case neg=>
    rw[if_neg bd]at H
    have c14b0:(ar==0)=false:=beq_eq_false_iff_ne.mpr bd;have c14b1:(ar !=0)=true:=bne_iff_ne.mpr bd;obtain⟨rfl,rfl,rfl,rfl⟩:=zP4 H
    try go_wp2
    refine bodyPost_ret (results_list (rs:= [.tmp 4,.tmp 5,.tmp 6,.tmp 7]) rfl zd (.tmp (.tmp (.tmp (.tmp .nil))))) rfl ?_;exact⟨_,rfE,nilE,hbA HB.out⟩
   rw[if_pos bd]at H
   have c14b0:(ar==0)=true:=beq_iff_eq.mpr bd;have c14b1:(ar !=0)=false:=bne_eq_false_iff_eq.mpr bd;clear bd;obtain⟨au,b1,H⟩:=bindO H
   (try dsimp only at H)
   obtain⟨⟨ba,bw,ay⟩,b2,H⟩:=bindO H
   (try dsimp only at H)
   by_cases be:ay=0
   case neg=>
    rw[if_neg be]at H
    have c17b0:(ay==0)=false:=beq_eq_false_iff_ne.mpr be;have c17b1:(ay !=0)=true:=bne_iff_ne.mpr be;obtain⟨rfl,rfl,rfl,rfl⟩:=zP4 H
    try go_wp2
    have n0_:Aside0 (Kd.R (Kd.int .i64) 3 (((al.setCell ⟨G,0,none⟩ (.int .i64 X)).setCell ⟨G,1,none⟩ (.int .i64 Y)).setCell ⟨G,2,none⟩ (.slice ab U.length ae)) w.heap.size (fun _=>True) av am):=⟨by(with_reducible repeat(first|apply Kd.R_alloc|apply Kd.R_drewN|apply Kd.R_drew));exact Kd.R_mono (Kd.R_far (p:=⟨G,2,none⟩) (Kd.R_far (p:=⟨G,1,none⟩) (Kd.R_far (p:=⟨G,0,none⟩) (Kd.R_types J.out I.out zc) (fun _ hk=>hk.2) (.int .i64 X)) (fun _ hk=>hk.2) (.int .i64 Y)) (fun _ hk=>hk.2) (.slice ab U.length ae)) (fun _ hk=>trivial)⟩
    have n1_:Aside0 (Kd.R (Kd.int .u8) 5 (((al.setCell ⟨G,0,none⟩ (.int .i64 X)).setCell ⟨G,1,none⟩ (.int .i64 Y)).setCell ⟨G,2,none⟩ (.slice ab U.length ae)) w.heap.size (fun _=>True) (.slice ab U.length ae) U):=⟨by(with_reducible repeat(first|apply Kd.R_alloc|apply Kd.R_drewN|apply Kd.R_drew));exact Kd.R_mono (Kd.R_far (p:=⟨G,2,none⟩) (Kd.R_far (p:=⟨G,1,none⟩) (Kd.R_far (p:=⟨G,0,none⟩) (Kd.R_types L.out I.out zc) (fun _ hk=>hk.2) (.int .i64 X)) (fun _ hk=>hk.2) (.int .i64 Y)) (fun _ hk=>hk.2) (.slice ab U.length ae)) (fun _ hk=>trivial)⟩
    have n2_:Aside0 ((((al.setCell ⟨G,0,none⟩ (.int .i64 X)).setCell ⟨G,1,none⟩ (.int .i64 Y)).setCell ⟨G,2,none⟩ (.slice ab U.length ae)).heap[Z]? =some (.cells #[.int .i64 ac,.int .i64 af,.slice ai aa.length aj] 24 (0,0))):=⟨by refine bkR ?_;refine blk_far ?_ O.out _;refine bkR ?_;refine blk_far ?_ O.out _;refine bkR ?_;refine blk_far ?_ O.out _;refine bkR ?_;exact D.out⟩
    have n3_:Aside0 ((((al.setCell ⟨G,0,none⟩ (.int .i64 X)).setCell ⟨G,1,none⟩ (.int .i64 Y)).setCell ⟨G,2,none⟩ (.slice ab U.length ae)).heap[G]? =some (.cells #[.int .i64 X,.int .i64 Y,.slice ab U.length ae] 24 (0,0))):=⟨by refine bkR ?_;refine blk_put (cs:= #[.int .i64 X,.int .i64 Y,.slice none 0 0]) ?_ 2 _ rfl;refine bkR ?_;refine blk_put (cs:= #[.int .i64 X,.int .i64 0,.slice none 0 0]) ?_ 1 _ rfl;refine bkR ?_;refine blk_put (cs:= #[.int .i64 0,.int .i64 0,.slice none 0 0]) ?_ 0 _ rfl;refine bkR ?_;exact I.out⟩
    have n4_:Aside0 (Below w.heap.size w (((al.setCell ⟨G,0,none⟩ (.int .i64 X)).setCell ⟨G,1,none⟩ (.int .i64 Y)).setCell ⟨G,2,none⟩ (.slice ab U.length ae))):=⟨hbA HB.out⟩
    (try clear J)
    (try clear L)
    (try clear D)
    (try clear I)
    (try clear HB)
    generalize(((al.setCell ⟨G,0,none⟩ (.int .i64 X)).setCell ⟨G,1,none⟩ (.int .i64 Y)).setCell ⟨G,2,none⟩ (.slice ab U.length ae))=dr at n0_ n1_ n2_ n3_ n4_⊢;have J:=n0_;have L:=n1_;have D:=n2_;have I:=n3_;have HB:=n4_;clear n0_ n1_ n2_ n3_ n4_;replace J:=aK (Kd.R_drew J.out);replace L:=aK (Kd.R_drew L.out);replace D:=aK (blk_drew D.out);replace I:=aK (blk_drew I.out);replace HB:=aK (below_drew1 HB.out);refine start_ (n:=12) (S:=fun w'=>w'.cell? ⟨G,0,none⟩=some (.int .i64 X)/\w'.cell? ⟨G,1,none⟩=some (.int .i64 Y)/\w'.cell? ⟨G,2,none⟩=some (.slice ab U.length ae)/\w'.cell? ⟨Z,0,none⟩=some (.int .i64 ac)/\w'.cell? ⟨Z,1,none⟩=some (.int .i64 af)/\w'.cell? ⟨Z,2,none⟩=some (.slice ai aa.length aj)) (ds:= []) (.replicate 12 false) zb rfl rfl (z3k I (z3c D)) (fun hHeld=>?_);refine with_tabW local_Least.tab10 local_Least.bits10 (fun HT_ HW_=>?_);generalize dr.drew=d8 at J L D I HB hHeld⊢;refine pu 2 (some 45) (mB 12 4) HT_ ?_;refine tk6 0 (some 43) (mB 12 5) HT_ HW_ hHeld ?_;refine tk6 1 (some 44) (mB 12 7) HT_ HW_ hHeld ?_;refine zoh 3 (some 46) (mB 12 15) HT_ fun K hK=>?_;refine goes_ Tryd.func37 zb rfl #[.agg #[.int .i64 ac,.int .i64 af,.slice ai aa.length aj],.int .i64 a1] ze rfl rfl (by(try simp only[List.map_toArray,List.map_cons,List.map_nil]);first|done|rfl|(simp only[List.length_drop,List.length_take];rfl)) ?_;with_reducible refine(local_row.calls ac af (fun k_=>k_<w.heap.size) _ _ aa a1 au _ ?side1 b1.out).mono ?_
    (case side1=>exact Kd.V_mk ao.out (Kd.F_below (Kd.C_F (Kd.heap_int .u8) ap.out) (hbA HB.out)))
    rintro e d9 ⟨bx,rfl,ag,hb⟩;refine⟨_,rfl,?_⟩;have ak:=aK (Kd.V_lower (Kd.V_mono (ok':=fun k_=>some k_≠(av:Value).ownBlock/\some k_≠(.slice ab U.length ae:Value).ownBlock/\k_≠Z/\k_≠G) ag (fun k_ hk_=>⟨Or.elim hk_ (fun hs_=>fun e_=>Nat.not_le.2 hs_ (Kd.R_base J.out k_ e_.symm)) (fun hn_=>(Kd.fresh' (Kd.R_lt (kdA J.out)) k_ hn_)),Or.elim hk_ (fun hs_=>fun e_=>Nat.not_le.2 hs_ (Kd.R_base L.out k_ e_.symm)) (fun hn_=>(Kd.fresh' (Kd.R_lt (kdA L.out)) k_ hn_)),Or.elim hk_ (fun hs_=>fun e_=>Nat.not_le.2 hs_ zaf) (fun hn_=>(Kd.freshB (g:=Z) (o:= .cells #[.int .i64 ac,.int .i64 af,.slice ai aa.length aj] 24 (0,0)) (bkA D.out) k_ hn_)),Or.elim hk_ (fun hs_=>fun e_=>Nat.not_le.2 hs_ zah) (fun hn_=>(Kd.freshB (g:=G) (o:= .cells #[.int .i64 X,.int .i64 Y,.slice ab U.length ae] 24 (0,0)) (bkA I.out) k_ hn_))⟩)) (below_size (hbA HB.out)));replace J:=kdB J hb;replace L:=kdB L hb;replace D:=bkB D hb;replace I:=bkB I hb;replace HB:=hbB HB hb
    (try clear hb)
    (try clear a3)
    (try clear hk)
    (try clear hi)
    (try clear ag)
    obtain⟨ca,cf,bu⟩:=Kd.V_slice ak.out
    (first|subst bu|(injection bu with f1_ f2_ f3_;have f4_:=f1_.symm;have f5_:=f3_.symm;clear f1_ f2_ f3_;subst f4_;subst f5_))
    refine hK.out _ _ (z3k I (z3c D)) (fun hHeld=>?_);clear hK K;refine znm (some 46) ?_;refine zoh 4 (some 47) (mB 12 31) HT_ fun K hK=>?_;refine goes_ Tryd.func36 zb rfl #[.agg #[.int .i64 X,.int .i64 Y,.slice ab U.length ae],.slice ca au.length cf] ze rfl rfl (by(try simp only[List.map_toArray,List.map_cons,List.map_nil]);first|done|rfl|(simp only[List.length_drop,List.length_take];rfl)) ?_;with_reducible refine(gauss_Combine.calls a9 X Y _ _ U _ _ au ba bw ay _ ?side1 ?side2 ?side3 ?side4 b2.out).mono ?_
    (case side1=>exact kcA (Kd.R_reads' L.out).2.2)
    (case side2=>exact(Kd.R_reads' L.out).2.1)
    (case side3=>repeat(first|exact(Kd.V_reads' ak.out).2.2|(with_reducible refine Kd.C_alloc ?_ _)|(with_reducible refine Kd.C_drewN ?_ _)|(with_reducible refine Kd.C_drew ?_)))
    (case side4=>exact(Kd.V_reads' ak.out).2.1)
    rintro e ea ⟨bz,rfl,ag,hb⟩;refine⟨_,rfl,?_⟩;replace J:=kdB J hb;replace ak:=aK (Kd.V_elder' (by(with_reducible repeat(first|apply Kd.V_alloc|apply Kd.V_drewN|apply Kd.V_drew));exact ak.out) (Kd.R_base ag) hb);have aq:=aK (Kd.R_lower (Kd.R_new' ag (Kd.R_lt (kdA L.out))) (below_size (hbA HB.out)));replace L:=aK (Kd.R_elder' (kdA L.out) (Kd.R_base ag) hb);replace D:=bkB D hb;replace I:=bkB I hb;replace HB:=hbB HB hb
    (try clear hb)
    (try clear a3)
    (try clear hk)
    (try clear hi)
    (try clear ag)
    refine hK.out _ _ (z3k I (z3c D)) (fun hHeld=>?_);clear hK K;refine znm (some 47) ?_;refine pu 5 (some 42) (mB 12 63) HT_ ?_;refine pu 6 (some 48) (mB 12 127) HT_ ?_;refine pu 7 (some 49) (mB 12 255) HT_ ?_;refine pu 8 (some 50) (mB 12 511) HT_ ?_;refine pu 9 (some 9) (mB 12 1023) HT_ ?_;refine pu 10 (some 6) (mB 12 2047) HT_ ?_;refine pu 11 (some 7) (mB 12 4095) HT_ ?_;refine done_ (done_of HT_.out zb) ?_
    try go_wp2
    refine bodyPost_ret (results_list (rs:= [.tmp 4,.tmp 5,.tmp 6,.tmp 7]) rfl zd (.tmp (.tmp (.tmp (.tmp .nil))))) rfl ?_;exact⟨_,rfE,nilE,hbA HB.out⟩
   rw[if_pos be]at H
   have c17b0:(ay==0)=true:=beq_iff_eq.mpr be;have c17b1:(ay !=0)=false:=bne_eq_false_iff_eq.mpr be;clear be;by_cases bh:bw=true
   case neg=>
    replace bh:=Bool.eq_false_iff.mpr bh;subst bh;rw[if_neg nofT]at H
    obtain⟨rfl,rfl,rfl,rfl⟩:=zP4 H
    try go_wp2
    have n0_:Aside0 (Kd.R (Kd.int .i64) 3 (((al.setCell ⟨G,0,none⟩ (.int .i64 X)).setCell ⟨G,1,none⟩ (.int .i64 Y)).setCell ⟨G,2,none⟩ (.slice ab U.length ae)) w.heap.size (fun _=>True) av am):=⟨by(with_reducible repeat(first|apply Kd.R_alloc|apply Kd.R_drewN|apply Kd.R_drew));exact Kd.R_mono (Kd.R_far (p:=⟨G,2,none⟩) (Kd.R_far (p:=⟨G,1,none⟩) (Kd.R_far (p:=⟨G,0,none⟩) (Kd.R_types J.out I.out zc) (fun _ hk=>hk.2) (.int .i64 X)) (fun _ hk=>hk.2) (.int .i64 Y)) (fun _ hk=>hk.2) (.slice ab U.length ae)) (fun _ hk=>trivial)⟩
    have n1_:Aside0 (Kd.R (Kd.int .u8) 5 (((al.setCell ⟨G,0,none⟩ (.int .i64 X)).setCell ⟨G,1,none⟩ (.int .i64 Y)).setCell ⟨G,2,none⟩ (.slice ab U.length ae)) w.heap.size (fun _=>True) (.slice ab U.length ae) U):=⟨by(with_reducible repeat(first|apply Kd.R_alloc|apply Kd.R_drewN|apply Kd.R_drew));exact Kd.R_mono (Kd.R_far (p:=⟨G,2,none⟩) (Kd.R_far (p:=⟨G,1,none⟩) (Kd.R_far (p:=⟨G,0,none⟩) (Kd.R_types L.out I.out zc) (fun _ hk=>hk.2) (.int .i64 X)) (fun _ hk=>hk.2) (.int .i64 Y)) (fun _ hk=>hk.2) (.slice ab U.length ae)) (fun _ hk=>trivial)⟩
    have n2_:Aside0 ((((al.setCell ⟨G,0,none⟩ (.int .i64 X)).setCell ⟨G,1,none⟩ (.int .i64 Y)).setCell ⟨G,2,none⟩ (.slice ab U.length ae)).heap[Z]? =some (.cells #[.int .i64 ac,.int .i64 af,.slice ai aa.length aj] 24 (0,0))):=⟨by refine bkR ?_;refine blk_far ?_ O.out _;refine bkR ?_;refine blk_far ?_ O.out _;refine bkR ?_;refine blk_far ?_ O.out _;refine bkR ?_;exact D.out⟩
    have n3_:Aside0 ((((al.setCell ⟨G,0,none⟩ (.int .i64 X)).setCell ⟨G,1,none⟩ (.int .i64 Y)).setCell ⟨G,2,none⟩ (.slice ab U.length ae)).heap[G]? =some (.cells #[.int .i64 X,.int .i64 Y,.slice ab U.length ae] 24 (0,0))):=⟨by refine bkR ?_;refine blk_put (cs:= #[.int .i64 X,.int .i64 Y,.slice none 0 0]) ?_ 2 _ rfl;refine bkR ?_;refine blk_put (cs:= #[.int .i64 X,.int .i64 0,.slice none 0 0]) ?_ 1 _ rfl;refine bkR ?_;refine blk_put (cs:= #[.int .i64 0,.int .i64 0,.slice none 0 0]) ?_ 0 _ rfl;refine bkR ?_;exact I.out⟩
    have n4_:Aside0 (Below w.heap.size w (((al.setCell ⟨G,0,none⟩ (.int .i64 X)).setCell ⟨G,1,none⟩ (.int .i64 Y)).setCell ⟨G,2,none⟩ (.slice ab U.length ae))):=⟨hbA HB.out⟩
    (try clear J)
    (try clear L)
    (try clear D)
    (try clear I)
    (try clear HB)
    generalize(((al.setCell ⟨G,0,none⟩ (.int .i64 X)).setCell ⟨G,1,none⟩ (.int .i64 Y)).setCell ⟨G,2,none⟩ (.slice ab U.length ae))=dq at n0_ n1_ n2_ n3_ n4_⊢;have J:=n0_;have L:=n1_;have D:=n2_;have I:=n3_;have HB:=n4_;clear n0_ n1_ n2_ n3_ n4_;replace J:=aK (Kd.R_drew J.out);replace L:=aK (Kd.R_drew L.out);replace D:=aK (blk_drew D.out);replace I:=aK (blk_drew I.out);replace HB:=aK (below_drew1 HB.out);refine start_ (n:=12) (S:=fun w'=>w'.cell? ⟨G,0,none⟩=some (.int .i64 X)/\w'.cell? ⟨G,1,none⟩=some (.int .i64 Y)/\w'.cell? ⟨G,2,none⟩=some (.slice ab U.length ae)/\w'.cell? ⟨Z,0,none⟩=some (.int .i64 ac)/\w'.cell? ⟨Z,1,none⟩=some (.int .i64 af)/\w'.cell? ⟨Z,2,none⟩=some (.slice ai aa.length aj)) (ds:= []) (.replicate 12 false) zb rfl rfl (z3k I (z3c D)) (fun hHeld=>?_);refine with_tabW local_Least.tab10 local_Least.bits10 (fun HT_ HW_=>?_);generalize dq.drew=d5 at J L D I HB hHeld⊢;refine pu 2 (some 45) (mB 12 4) HT_ ?_;refine tk6 0 (some 43) (mB 12 5) HT_ HW_ hHeld ?_;refine tk6 1 (some 44) (mB 12 7) HT_ HW_ hHeld ?_;refine zoh 3 (some 46) (mB 12 15) HT_ fun K hK=>?_;refine goes_ Tryd.func37 zb rfl #[.agg #[.int .i64 ac,.int .i64 af,.slice ai aa.length aj],.int .i64 a1] ze rfl rfl (by(try simp only[List.map_toArray,List.map_cons,List.map_nil]);first|done|rfl|(simp only[List.length_drop,List.length_take];rfl)) ?_;with_reducible refine(local_row.calls ac af (fun k_=>k_<w.heap.size) _ _ aa a1 au _ ?side1 b1.out).mono ?_
    (case side1=>exact Kd.V_mk ao.out (Kd.F_below (Kd.C_F (Kd.heap_int .u8) ap.out) (hbA HB.out)))
    rintro e d6 ⟨bx,rfl,ag,hb⟩;refine⟨_,rfl,?_⟩;have ak:=aK (Kd.V_lower (Kd.V_mono (ok':=fun k_=>some k_≠(av:Value).ownBlock/\some k_≠(.slice ab U.length ae:Value).ownBlock/\k_≠Z/\k_≠G) ag (fun k_ hk_=>⟨Or.elim hk_ (fun hs_=>fun e_=>Nat.not_le.2 hs_ (Kd.R_base J.out k_ e_.symm)) (fun hn_=>(Kd.fresh' (Kd.R_lt (kdA J.out)) k_ hn_)),Or.elim hk_ (fun hs_=>fun e_=>Nat.not_le.2 hs_ (Kd.R_base L.out k_ e_.symm)) (fun hn_=>(Kd.fresh' (Kd.R_lt (kdA L.out)) k_ hn_)),Or.elim hk_ (fun hs_=>fun e_=>Nat.not_le.2 hs_ zaf) (fun hn_=>(Kd.freshB (g:=Z) (o:= .cells #[.int .i64 ac,.int .i64 af,.slice ai aa.length aj] 24 (0,0)) (bkA D.out) k_ hn_)),Or.elim hk_ (fun hs_=>fun e_=>Nat.not_le.2 hs_ zah) (fun hn_=>(Kd.freshB (g:=G) (o:= .cells #[.int .i64 X,.int .i64 Y,.slice ab U.length ae] 24 (0,0)) (bkA I.out) k_ hn_))⟩)) (below_size (hbA HB.out)));replace J:=kdB J hb;replace L:=kdB L hb;replace D:=bkB D hb;replace I:=bkB I hb;replace HB:=hbB HB hb
    (try clear hb)
    (try clear a3)
    (try clear hk)
    (try clear hi)
    (try clear ag)
    obtain⟨b9,ce,bt⟩:=Kd.V_slice ak.out
    (first|subst bt|(injection bt with f1_ f2_ f3_;have f4_:=f1_.symm;have f5_:=f3_.symm;clear f1_ f2_ f3_;subst f4_;subst f5_))
    refine hK.out _ _ (z3k I (z3c D)) (fun hHeld=>?_);clear hK K;refine znm (some 46) ?_;refine zoh 4 (some 47) (mB 12 31) HT_ fun K hK=>?_;refine goes_ Tryd.func36 zb rfl #[.agg #[.int .i64 X,.int .i64 Y,.slice ab U.length ae],.slice b9 au.length ce] ze rfl rfl (by(try simp only[List.map_toArray,List.map_cons,List.map_nil]);first|done|rfl|(simp only[List.length_drop,List.length_take];rfl)) ?_;with_reducible refine(gauss_Combine.calls a9 X Y _ _ U _ _ au ba false ay _ ?side1 ?side2 ?side3 ?side4 b2.out).mono ?_
    (case side1=>exact kcA (Kd.R_reads' L.out).2.2)
    (case side2=>exact(Kd.R_reads' L.out).2.1)
    (case side3=>repeat(first|exact(Kd.V_reads' ak.out).2.2|(with_reducible refine Kd.C_alloc ?_ _)|(with_reducible refine Kd.C_drewN ?_ _)|(with_reducible refine Kd.C_drew ?_)))
    (case side4=>exact(Kd.V_reads' ak.out).2.1)
    rintro e d7 ⟨bz,rfl,ag,hb⟩;refine⟨_,rfl,?_⟩;replace J:=kdB J hb;replace ak:=aK (Kd.V_elder' (by(with_reducible repeat(first|apply Kd.V_alloc|apply Kd.V_drewN|apply Kd.V_drew));exact ak.out) (Kd.R_base ag) hb);have aq:=aK (Kd.R_lower (Kd.R_new' ag (Kd.R_lt (kdA L.out))) (below_size (hbA HB.out)));replace L:=aK (Kd.R_elder' (kdA L.out) (Kd.R_base ag) hb);replace D:=bkB D hb;replace I:=bkB I hb;replace HB:=hbB HB hb
    (try clear hb)
    (try clear a3)
    (try clear hk)
    (try clear hi)
    (try clear ag)
    refine hK.out _ _ (z3k I (z3c D)) (fun hHeld=>?_);clear hK K;refine znm (some 47) ?_;refine pu 5 (some 42) (mB 12 63) HT_ ?_;refine pu 6 (some 48) (mB 12 127) HT_ ?_;refine pu 7 (some 49) (mB 12 255) HT_ ?_;refine pu 8 (some 50) (mB 12 511) HT_ ?_;refine pu 9 (some 9) (mB 12 1023) HT_ ?_;refine pu 10 (some 6) (mB 12 2047) HT_ ?_;refine pu 11 (some 7) (mB 12 4095) HT_ ?_;refine done_ (done_of HT_.out zb) ?_
    try go_wp2
    refine bodyPost_ret (results_list (rs:= [.tmp 4,.tmp 5,.tmp 6,.tmp 7]) rfl zd (.tmp (.tmp (.tmp (.tmp .nil))))) rfl ?_;exact⟨_,rfE,nilE,hbA HB.out⟩
   subst bh;rw[if_pos rfl]at H
   obtain⟨db,dd,H⟩:=bindO H
   (try dsimp only at H)
   obtain⟨rfl,rfl,rfl,rfl⟩:=zP4 H
   try go_wp2
   have n0_:Aside0 (Kd.R (Kd.int .i64) 3 (((al.setCell ⟨G,0,none⟩ (.int .i64 X)).setCell ⟨G,1,none⟩ (.int .i64 Y)).setCell ⟨G,2,none⟩ (.slice ab U.length ae)) w.heap.size (fun _=>True) av am):=⟨by(with_reducible repeat(first|apply Kd.R_alloc|apply Kd.R_drewN|apply Kd.R_drew));exact Kd.R_mono (Kd.R_far (p:=⟨G,2,none⟩) (Kd.R_far (p:=⟨G,1,none⟩) (Kd.R_far (p:=⟨G,0,none⟩) (Kd.R_types J.out I.out zc) (fun _ hk=>hk.2) (.int .i64 X)) (fun _ hk=>hk.2) (.int .i64 Y)) (fun _ hk=>hk.2) (.slice ab U.length ae)) (fun _ hk=>trivial)⟩
   have n1_:Aside0 (Kd.R (Kd.int .u8) 5 (((al.setCell ⟨G,0,none⟩ (.int .i64 X)).setCell ⟨G,1,none⟩ (.int .i64 Y)).setCell ⟨G,2,none⟩ (.slice ab U.length ae)) w.heap.size (fun _=>True) (.slice ab U.length ae) U):=⟨by(with_reducible repeat(first|apply Kd.R_alloc|apply Kd.R_drewN|apply Kd.R_drew));exact Kd.R_mono (Kd.R_far (p:=⟨G,2,none⟩) (Kd.R_far (p:=⟨G,1,none⟩) (Kd.R_far (p:=⟨G,0,none⟩) (Kd.R_types L.out I.out zc) (fun _ hk=>hk.2) (.int .i64 X)) (fun _ hk=>hk.2) (.int .i64 Y)) (fun _ hk=>hk.2) (.slice ab U.length ae)) (fun _ hk=>trivial)⟩
   have n2_:Aside0 ((((al.setCell ⟨G,0,none⟩ (.int .i64 X)).setCell ⟨G,1,none⟩ (.int .i64 Y)).setCell ⟨G,2,none⟩ (.slice ab U.length ae)).heap[Z]? =some (.cells #[.int .i64 ac,.int .i64 af,.slice ai aa.length aj] 24 (0,0))):=⟨by refine bkR ?_;refine blk_far ?_ O.out _;refine bkR ?_;refine blk_far ?_ O.out _;refine bkR ?_;refine blk_far ?_ O.out _;refine bkR ?_;exact D.out⟩
   have n3_:Aside0 ((((al.setCell ⟨G,0,none⟩ (.int .i64 X)).setCell ⟨G,1,none⟩ (.int .i64 Y)).setCell ⟨G,2,none⟩ (.slice ab U.length ae)).heap[G]? =some (.cells #[.int .i64 X,.int .i64 Y,.slice ab U.length ae] 24 (0,0))):=⟨by refine bkR ?_;refine blk_put (cs:= #[.int .i64 X,.int .i64 Y,.slice none 0 0]) ?_ 2 _ rfl;refine bkR ?_;refine blk_put (cs:= #[.int .i64 X,.int .i64 0,.slice none 0 0]) ?_ 1 _ rfl;refine bkR ?_;refine blk_put (cs:= #[.int .i64 0,.int .i64 0,.slice none 0 0]) ?_ 0 _ rfl;refine bkR ?_;exact I.out⟩
   have n4_:Aside0 (Below w.heap.size w (((al.setCell ⟨G,0,none⟩ (.int .i64 X)).setCell ⟨G,1,none⟩ (.int .i64 Y)).setCell ⟨G,2,none⟩ (.slice ab U.length ae))):=⟨hbA HB.out⟩
   (try clear J)
   (try clear L)
   (try clear D)
   (try clear I)
   (try clear HB)
   generalize(((al.setCell ⟨G,0,none⟩ (.int .i64 X)).setCell ⟨G,1,none⟩ (.int .i64 Y)).setCell ⟨G,2,none⟩ (.slice ab U.length ae))=dp at n0_ n1_ n2_ n3_ n4_⊢;have J:=n0_;have L:=n1_;have D:=n2_;have I:=n3_;have HB:=n4_;clear n0_ n1_ n2_ n3_ n4_;replace J:=aK (Kd.R_drew J.out);replace L:=aK (Kd.R_drew L.out);replace D:=aK (blk_drew D.out);replace I:=aK (blk_drew I.out);replace HB:=aK (below_drew1 HB.out);refine start_ (n:=12) (S:=fun w'=>w'.cell? ⟨G,0,none⟩=some (.int .i64 X)/\w'.cell? ⟨G,1,none⟩=some (.int .i64 Y)/\w'.cell? ⟨G,2,none⟩=some (.slice ab U.length ae)/\w'.cell? ⟨Z,0,none⟩=some (.int .i64 ac)/\w'.cell? ⟨Z,1,none⟩=some (.int .i64 af)/\w'.cell? ⟨Z,2,none⟩=some (.slice ai aa.length aj)) (ds:= []) (.replicate 12 false) zb rfl rfl (z3k I (z3c D)) (fun hHeld=>?_);refine with_tabW local_Least.tab10 local_Least.bits10 (fun HT_ HW_=>?_);generalize dp.drew=d1 at J L D I HB hHeld⊢;refine pu 2 (some 45) (mB 12 4) HT_ ?_;refine tk6 0 (some 43) (mB 12 5) HT_ HW_ hHeld ?_;refine tk6 1 (some 44) (mB 12 7) HT_ HW_ hHeld ?_;refine zoh 3 (some 46) (mB 12 15) HT_ fun K hK=>?_;refine goes_ Tryd.func37 zb rfl #[.agg #[.int .i64 ac,.int .i64 af,.slice ai aa.length aj],.int .i64 a1] ze rfl rfl (by(try simp only[List.map_toArray,List.map_cons,List.map_nil]);first|done|rfl|(simp only[List.length_drop,List.length_take];rfl)) ?_;with_reducible refine(local_row.calls ac af (fun k_=>k_<w.heap.size) _ _ aa a1 au _ ?side1 b1.out).mono ?_
   (case side1=>exact Kd.V_mk ao.out (Kd.F_below (Kd.C_F (Kd.heap_int .u8) ap.out) (hbA HB.out)))
   rintro e d2 ⟨bx,rfl,ag,hb⟩;refine⟨_,rfl,?_⟩;have ak:=aK (Kd.V_lower (Kd.V_mono (ok':=fun k_=>some k_≠(av:Value).ownBlock/\some k_≠(.slice ab U.length ae:Value).ownBlock/\k_≠Z/\k_≠G) ag (fun k_ hk_=>⟨Or.elim hk_ (fun hs_=>fun e_=>Nat.not_le.2 hs_ (Kd.R_base J.out k_ e_.symm)) (fun hn_=>(Kd.fresh' (Kd.R_lt (kdA J.out)) k_ hn_)),Or.elim hk_ (fun hs_=>fun e_=>Nat.not_le.2 hs_ (Kd.R_base L.out k_ e_.symm)) (fun hn_=>(Kd.fresh' (Kd.R_lt (kdA L.out)) k_ hn_)),Or.elim hk_ (fun hs_=>fun e_=>Nat.not_le.2 hs_ zaf) (fun hn_=>(Kd.freshB (g:=Z) (o:= .cells #[.int .i64 ac,.int .i64 af,.slice ai aa.length aj] 24 (0,0)) (bkA D.out) k_ hn_)),Or.elim hk_ (fun hs_=>fun e_=>Nat.not_le.2 hs_ zah) (fun hn_=>(Kd.freshB (g:=G) (o:= .cells #[.int .i64 X,.int .i64 Y,.slice ab U.length ae] 24 (0,0)) (bkA I.out) k_ hn_))⟩)) (below_size (hbA HB.out)));replace J:=kdB J hb;replace L:=kdB L hb;replace D:=bkB D hb;replace I:=bkB I hb;replace HB:=hbB HB hb
   (try clear hb)
   (try clear a3)
   (try clear hk)
   (try clear hi)
   (try clear ag)
   obtain⟨b7,cb,bs⟩:=Kd.V_slice ak.out
   (first|subst bs|(injection bs with f1_ f2_ f3_;have f4_:=f1_.symm;have f5_:=f3_.symm;clear f1_ f2_ f3_;subst f4_;subst f5_))
   refine hK.out _ _ (z3k I (z3c D)) (fun hHeld=>?_);clear hK K;refine znm (some 46) ?_;refine zoh 4 (some 47) (mB 12 31) HT_ fun K hK=>?_;refine goes_ Tryd.func36 zb rfl #[.agg #[.int .i64 X,.int .i64 Y,.slice ab U.length ae],.slice b7 au.length cb] ze rfl rfl (by(try simp only[List.map_toArray,List.map_cons,List.map_nil]);first|done|rfl|(simp only[List.length_drop,List.length_take];rfl)) ?_;with_reducible refine(gauss_Combine.calls a9 X Y _ _ U _ _ au ba true ay _ ?side1 ?side2 ?side3 ?side4 b2.out).mono ?_
   (case side1=>exact kcA (Kd.R_reads' L.out).2.2)
   (case side2=>exact(Kd.R_reads' L.out).2.1)
   (case side3=>repeat(first|exact(Kd.V_reads' ak.out).2.2|(with_reducible refine Kd.C_alloc ?_ _)|(with_reducible refine Kd.C_drewN ?_ _)|(with_reducible refine Kd.C_drew ?_)))
   (case side4=>exact(Kd.V_reads' ak.out).2.1)
   rintro e d3 ⟨bz,rfl,ag,hb⟩;refine⟨_,rfl,?_⟩;replace J:=kdB J hb;replace ak:=aK (Kd.V_elder' (by(with_reducible repeat(first|apply Kd.V_alloc|apply Kd.V_drewN|apply Kd.V_drew));exact ak.out) (Kd.R_base ag) hb);have aq:=aK (Kd.R_lower (Kd.R_new' ag (Kd.R_lt (kdA L.out))) (below_size (hbA HB.out)));replace L:=aK (Kd.R_elder' (kdA L.out) (Kd.R_base ag) hb);replace D:=bkB D hb;replace I:=bkB I hb;replace HB:=hbB HB hb
   (try clear hb)
   (try clear a3)
   (try clear hk)
   (try clear hi)
   (try clear ag)
   refine hK.out _ _ (z3k I (z3c D)) (fun hHeld=>?_);clear hK K;refine znm (some 47) ?_;refine pu 5 (some 42) (mB 12 63) HT_ ?_;refine pu 6 (some 48) (mB 12 127) HT_ ?_;refine pu 7 (some 49) (mB 12 255) HT_ ?_;refine pu 8 (some 50) (mB 12 511) HT_ ?_;refine pu 9 (some 9) (mB 12 1023) HT_ ?_;refine pu 10 (some 6) (mB 12 2047) HT_ ?_;refine pu 11 (some 7) (mB 12 4095) HT_ ?_;refine done_ (done_of HT_.out zb) ?_;have di:=O.out;have dj:=ah.out;obtain⟨ck,cl,cm,cu,cv,cw⟩:=cell3 D;obtain⟨b8,cd,cg⟩:=Kd.R_slice aq.out;subst cg
   try go_wp2_with (first|((with_reducible refine gC 38 rfl ?_);refine cG (some 63) Tryd.func38 #[.int .i64 ac,.int .u64 ax,.slice b8 ba.length cd] ?_;(with_reducible refine(local_put.calls a9 ac ax _ _ ba db _ ?side1 ?side2 dd.out (tab_below HT.out zf)).mono ?_);(case side1=>exact kcA (Kd.R_reads' aq.out).2.2);(case side2=>exact(Kd.R_reads' aq.out).2.1);rintro e d4 ⟨dx,rfl,ag,hb⟩;refine⟨_,rfl,?_⟩;replace J:=kdB J hb;replace ak:=aK (Kd.V_elder' (by(with_reducible repeat(first|apply Kd.V_alloc|apply Kd.V_drewN|apply Kd.V_drew));exact ak.out) (Kd.R_base ag) hb);have b4:=aK (Kd.R_lower (Kd.R_new' (Kd.R_new' ag (Kd.R_lt (kdA L.out))) (Kd.R_lt (kdA aq.out))) (below_size (hbA HB.out)));replace L:=aK (Kd.R_elder' (kdA L.out) (Kd.R_base ag) hb);replace aq:=aK (Kd.R_elder' (kdA aq.out) (Kd.R_base ag) hb);replace D:=bkB D hb;replace I:=bkB I hb;replace HB:=hbB HB hb;(try clear hb);(try clear ag)))
   refine bodyPost_ret (results_list (rs:= [.tmp 4,.tmp 5,.tmp 6,.tmp 7]) rfl zd (.tmp (.tmp (.tmp (.tmp .nil))))) rfl ?_;exact⟨_,rfE,by(with_reducible repeat(first|apply Kd.R_alloc|apply Kd.R_drewN|apply Kd.R_drew));exact Kd.R_mono b4.out (fun _ hk=>trivial),hbA HB.out⟩
def recoupref01_Same.f(l0:List Int)(l1:List Int):Option (Bool):=some ((strOfNums l0).toList==(strOfNums l1).toList)
theorem recoupref01_Same.calls(A0:Option Addr)(c0:Nat)(l0:List Int)(A1:Option Addr)(c1:Nat)(l1:List Int)(r:Bool)(w:World)(I:Kd.C (Kd.int .u8) w A0 l0.length l0)(D:l0.length<=c0)(J:Kd.C (Kd.int .u8) w A1 l1.length l1)(G:l1.length<=c1)(h:recoupref01_Same.f l0 l1=some r):
 Calls Tryd.prog 13 #[.slice A0 l0.length c0,.slice A1 l1.length c1] w fun e w'=>e= .returned (.bool r)/\Drawn0 w w':=by
 have L:=aK I;have Y:=aK D;clear I D;have O:=aK J;have Z:=aK G;clear J G;have H:(some ((strOfNums l0).toList==(strOfNums l1).toList))=some r:=h;clear h;obtain rfl:=Option.some.inj H;have U:=Kd.C_string (P:=Tryd.prog) (A:=A0) (c:=c0) Tryd.underlying22 Tryd.underlying5 Tryd.underlying9 L.out;have X:=Kd.C_string (P:=Tryd.prog) (A:=A1) (c:=c1) Tryd.underlying22 Tryd.underlying5 Tryd.underlying9 O.out
 go_enter Tryd.func13,Tryd.ntmps13
 go_wp2
 go_ret
 exact zD
def recouplaw19_anchored.f(k:Nat):Option (Bool):=(local_Least.f k 5 2 (([1,0,0,1,1,1,2,2,0,0]:List Int)) 0).bind fun D=>(if D.2.2.1=true then(if D.2.2.2=0 then(if D.1=6 then((recoupref01_Same.f D.2.1 (([0,1,1,0,0]:List Int))).bind fun G=>(some G))else(some false))else(some false))else(some false))
theorem recouplaw19_anchored.mono: ∀k,LeO (recouplaw19_anchored.f k) (recouplaw19_anchored.f (k+1)):=by
 intro k;unfold recouplaw19_anchored.f
 with_reducible repeat' first|exact local_Least.mono _ _ _ _ _|exact LeO.refl _|exact LeO.none _|refine LeO.ite ?_ ?_|refine LeO.bind ?_ (fun _=>?_)
theorem recouplaw19_anchored.calls(k:Nat)(r:Bool)(w:World)(h:recouplaw19_anchored.f k=some r)(hT:TabAt 0 Lib.deBruijn64tab w):
 Calls Tryd.prog 15 #[] w fun e w'=>e= .returned (.bool r)/\Below w.heap.size w w':=by
 have HT:=aK hT;clear hT;have b1:=Tryd.underlying24;have HB:=aK (Below.refl w.heap.size w);have H:((local_Least.f k 5 2 (([1,0,0,1,1,1,2,2,0,0]:List Int)) 0).bind fun O=>(if O.2.2.1=true then(if O.2.2.2=0 then(if O.1=6 then((recoupref01_Same.f O.2.1 (([0,1,1,0,0]:List Int))).bind fun ae=>(some ae))else(some false))else(some false))else(some false)))=some r:=h;clear h;obtain⟨I,ab⟩: ∃y_:List Int,y_=(([1,0,0,1,1,1,2,2,0,0]:List Int)):=⟨_,rfl⟩
 replace H:((local_Least.f k 5 2 I 0).bind fun O=>(if O.2.2.1=true then(if O.2.2.2=0 then(if O.1=6 then((recoupref01_Same.f O.2.1 (([0,1,1,0,0]:List Int))).bind fun ae=>(some ae))else(some false))else(some false))else(some false)))=some r:=zH ab H
 have U:=aK ab;clear ab;obtain⟨⟨Y,ai,bu,Z⟩,A1,H⟩:=bindO H
 (try dsimp only at H)
 by_cases c2:bu=true
 ·subst c2;rw[if_pos rfl]at H
  by_cases c3:Z=0
  ·rw[if_pos c3]at H
   have c3b0:(Z==0)=true:=beq_iff_eq.mpr c3;have c3b1:(Z !=0)=false:=bne_eq_false_iff_eq.mpr c3;clear c3;by_cases c4:Y=6
   ·rw[if_pos c4]at H
    have c4b0:(Y==6)=true:=beq_iff_eq.mpr c4;have c4b1:(Y !=6)=false:=bne_eq_false_iff_eq.mpr c4;clear c4;obtain⟨a0,ac⟩: ∃y_:List Int,y_=(([0,1,1,0,0]:List Int)):=⟨_,rfl⟩
    replace H:((recoupref01_Same.f ai a0).bind fun ae=>(some ae))=some r:=zH ac H
    have aw:=aK ac;clear ac;obtain⟨ae,A5,H⟩:=bindO H
    (try dsimp only at H)
    obtain rfl:=Option.some.inj H
    go_enter Tryd.func15,Tryd.ntmps15
    go_wp2_with (first|((with_reducible refine gate_dst (N:=6) rfl ?_);(try(refine gate_guard ze ?_;dsimp only));refine Kd.R_lit (Kd.int .u8) _ 5 ?hg (N:=6) ?hd (xs:=([1,0,0,1,1,1,2,2,0,0]:List Int)) (inner:= [.int .u8 1,.int .u8 0,.int .u8 0,.int .u8 1,.int .u8 1,.int .u8 1,.int .u8 2,.int .u8 2,.int .u8 0,.int .u8 0]) (ok:=fun _=>True) (okp:=fun _=>True) ?hr ?hp (fun _ hk=>hk) trivial (Below.refl _ _) (Nat.le_refl _) zd ?_;(case hd=>rfl);(case hg=>rfl);(case hr=>first|(go_simp;done)|(go_simp;rfl));(case hp=>exact(Reps.one (show Kd.M (Kd.int .u8) _ _ _ 1 [.int .u8 1]from rfl) (Reps.one (show Kd.M (Kd.int .u8) _ _ _ 0 [.int .u8 0]from rfl) (Reps.one (show Kd.M (Kd.int .u8) _ _ _ 0 [.int .u8 0]from rfl) (Reps.one (show Kd.M (Kd.int .u8) _ _ _ 1 [.int .u8 1]from rfl) (Reps.one (show Kd.M (Kd.int .u8) _ _ _ 1 [.int .u8 1]from rfl) (Reps.one (show Kd.M (Kd.int .u8) _ _ _ 1 [.int .u8 1]from rfl) (Reps.one (show Kd.M (Kd.int .u8) _ _ _ 2 [.int .u8 2]from rfl) (Reps.one (show Kd.M (Kd.int .u8) _ _ _ 2 [.int .u8 2]from rfl) (Reps.one (show Kd.M (Kd.int .u8) _ _ _ 0 [.int .u8 0]from rfl) (Reps.one (show Kd.M (Kd.int .u8) _ _ _ 0 [.int .u8 0]from rfl) (Reps.none _ _))))))))))));intro ay w6 ax hb hg_ hnew_;clear hg_ hnew_;(first|rw[<-U.out]at ax|(simp only[Int.reduceToNat]at ax;rw[<-U.out]at ax));have D:=aK (Kd.R_lower ax (below_size zi));replace HB:=aK (below_step zi hb);clear hb ax;obtain⟨av,au,bv⟩:=Kd.R_slice D.out;subst bv)|((with_reducible refine gD 1 rfl ?_);(try(refine gate_guard ze ?_;dsimp only));refine bE 1 #[.int .i64 0,.int .i64 0,.slice none 0 0] 24 ?_;intro J hg w9 hbox hb;replace D:=kdB D hb;have G:=aK (hbox);have aq:=aK ((by rw[hg];exact(below_size zi):w.heap.size<=J));have ap:=aK ((by rw[hg];exact(below_size zi):w.heap.size<=J));replace HB:=aK (below_step zi hb);clear hb hbox hg;obtain⟨a6,a7,a8,bi,bj,bk⟩:=cell3 G)|((with_reducible refine gC 11 rfl ?_);refine cG (some 10) Tryd.func11 #[.agg #[.int .i64 5,.int .i64 2,.slice av I.length au],.int .i64 0] ?_;(with_reducible refine(local_Least.calls k 5 2 _ _ I 0 Y ai true Z _ ?side1 ?side2 A1.out (tab_below HT.out zr)).mono ?_);(case side1=>refine(Kd.R_reads' (e:=5) (base:=w.heap.size) (ok:=fun k_=>True) (n:=I.length) (c:=au) ?_).2.2;exact(by(with_reducible repeat(first|apply Kd.R_alloc|apply Kd.R_drewN|apply Kd.R_drew));exact(zF D.out G.out  (.int .i64 5)  (.int .i64 2)  (.slice av I.length au))));(case side2=>exact(Kd.R_reads' D.out).2.1);rintro e b3 ⟨az,rfl,X,hb⟩;refine⟨_,rfl,?_⟩;have L:=aK (Kd.R_lower (Kd.R_new' X (Kd.R_lt (by(with_reducible repeat(first|apply Kd.R_alloc|apply Kd.R_drewN|apply Kd.R_drew));exact(zF D.out G.out  (.int .i64 5)  (.int .i64 2)  (.slice av I.length au))))) (below_size (hbA HB.out)));replace D:=aK (Kd.R_elder' (by(with_reducible repeat(first|apply Kd.R_alloc|apply Kd.R_drewN|apply Kd.R_drew));exact(zF D.out G.out  (.int .i64 5)  (.int .i64 2)  (.slice av I.length au))) (Kd.R_base X) hb);replace G:=aK (blk_below (g:=J) (o:= .cells #[.int .i64 5,.int .i64 2,.slice av I.length au] 24 (0,0)) zq hb);replace HB:=hbB HB hb;(try clear hb);(try clear X))|((with_reducible refine gate_dst (N:=26) rfl ?_);(try(refine gate_guard ze ?_;dsimp only));refine Kd.R_lit (Kd.int .u8) _ 5 ?hg (N:=26) ?hd (xs:=([0,1,1,0,0]:List Int)) (inner:= [.int .u8 0,.int .u8 1,.int .u8 1,.int .u8 0,.int .u8 0]) (ok:=fun _=>True) (okp:=fun _=>True) ?hr ?hp (fun _ hk=>hk) trivial (Below.refl _ _) (Nat.le_refl _) zd ?_;(case hd=>rfl);(case hg=>rfl);(case hr=>first|(go_simp;done)|(go_simp;rfl));(case hp=>exact(Reps.one (show Kd.M (Kd.int .u8) _ _ _ 0 [.int .u8 0]from rfl) (Reps.one (show Kd.M (Kd.int .u8) _ _ _ 1 [.int .u8 1]from rfl) (Reps.one (show Kd.M (Kd.int .u8) _ _ _ 1 [.int .u8 1]from rfl) (Reps.one (show Kd.M (Kd.int .u8) _ _ _ 0 [.int .u8 0]from rfl) (Reps.one (show Kd.M (Kd.int .u8) _ _ _ 0 [.int .u8 0]from rfl) (Reps.none _ _)))))));intro b2 b4 aa hb hg_ hnew_;clear hg_ hnew_;(first|rw[<-aw.out]at aa|(simp only[Int.reduceToNat]at aa;rw[<-aw.out]at aa));have ar:=aK (Kd.R_lower (Kd.R_new' (Kd.R_new' aa (Kd.R_lt (kdA D.out))) (Kd.R_lt (kdA L.out))) (below_size (hbA HB.out)));replace D:=aK (Kd.R_elder' (kdA D.out) (Kd.R_base aa) hb);replace L:=aK (Kd.R_elder' (kdA L.out) (Kd.R_base aa) hb);replace G:=bkB G hb;replace HB:=hbB HB hb;clear hb aa;obtain⟨bw,bz,a1⟩:=Kd.R_slice L.out;subst a1;obtain⟨bx,b0,a2⟩:=Kd.R_slice ar.out;subst a2)|(go_at_call 13;(with_reducible refine(recoupref01_Same.calls _ _ ai _ _ a0 ae _ ?side1 ?side2 ?side3 ?side4 A5.out).mono ?_);(case side1=>exact kcA (Kd.R_reads' L.out).2.2);(case side2=>exact(Kd.R_reads' L.out).2.1);(case side3=>exact kcA (Kd.R_reads' ar.out).2.2);(case side4=>exact(Kd.R_reads' ar.out).2.1);rintro e w' ⟨rfl,⟨nd,rfl⟩⟩))
    go_ret
    exact⟨rfE,hbA HB.out⟩
   ·rw[if_neg c4]at H
    have c4b0:(Y==6)=false:=beq_eq_false_iff_ne.mpr c4;have c4b1:(Y !=6)=true:=bne_iff_ne.mpr c4;obtain rfl:=Option.some.inj H
    go_enter Tryd.func15,Tryd.ntmps15
    go_wp2_with (first|((with_reducible refine gate_dst (N:=6) rfl ?_);(try(refine gate_guard ze ?_;dsimp only));refine Kd.R_lit (Kd.int .u8) _ 5 ?hg (N:=6) ?hd (xs:=([1,0,0,1,1,1,2,2,0,0]:List Int)) (inner:= [.int .u8 1,.int .u8 0,.int .u8 0,.int .u8 1,.int .u8 1,.int .u8 1,.int .u8 2,.int .u8 2,.int .u8 0,.int .u8 0]) (ok:=fun _=>True) (okp:=fun _=>True) ?hr ?hp (fun _ hk=>hk) trivial (Below.refl _ _) (Nat.le_refl _) zd ?_;(case hd=>rfl);(case hg=>rfl);(case hr=>first|(go_simp;done)|(go_simp;rfl));(case hp=>exact(Reps.one (show Kd.M (Kd.int .u8) _ _ _ 1 [.int .u8 1]from rfl) (Reps.one (show Kd.M (Kd.int .u8) _ _ _ 0 [.int .u8 0]from rfl) (Reps.one (show Kd.M (Kd.int .u8) _ _ _ 0 [.int .u8 0]from rfl) (Reps.one (show Kd.M (Kd.int .u8) _ _ _ 1 [.int .u8 1]from rfl) (Reps.one (show Kd.M (Kd.int .u8) _ _ _ 1 [.int .u8 1]from rfl) (Reps.one (show Kd.M (Kd.int .u8) _ _ _ 1 [.int .u8 1]from rfl) (Reps.one (show Kd.M (Kd.int .u8) _ _ _ 2 [.int .u8 2]from rfl) (Reps.one (show Kd.M (Kd.int .u8) _ _ _ 2 [.int .u8 2]from rfl) (Reps.one (show Kd.M (Kd.int .u8) _ _ _ 0 [.int .u8 0]from rfl) (Reps.one (show Kd.M (Kd.int .u8) _ _ _ 0 [.int .u8 0]from rfl) (Reps.none _ _))))))))))));intro ay b5 am hb hg_ hnew_;clear hg_ hnew_;(first|rw[<-U.out]at am|(simp only[Int.reduceToNat]at am;rw[<-U.out]at am));have D:=aK (Kd.R_lower am (below_size zi));replace HB:=aK (below_step zi hb);clear hb am;obtain⟨aj,af,a3⟩:=Kd.R_slice D.out;subst a3)|((with_reducible refine gD 1 rfl ?_);(try(refine gate_guard ze ?_;dsimp only));refine bE 1 #[.int .i64 0,.int .i64 0,.slice none 0 0] 24 ?_;intro J hg b6 hbox hb;replace D:=kdB D hb;have G:=aK (hbox);have aq:=aK ((by rw[hg];exact(below_size zi):w.heap.size<=J));have ap:=aK ((by rw[hg];exact(below_size zi):w.heap.size<=J));replace HB:=aK (below_step zi hb);clear hb hbox hg;obtain⟨a9,ba,bb,bl,bm,bn⟩:=cell3 G)|((with_reducible refine gC 11 rfl ?_);refine cG (some 10) Tryd.func11 #[.agg #[.int .i64 5,.int .i64 2,.slice aj I.length af],.int .i64 0] ?_;(with_reducible refine(local_Least.calls k 5 2 _ _ I 0 Y ai true Z _ ?side1 ?side2 A1.out (tab_below HT.out zr)).mono ?_);(case side1=>refine(Kd.R_reads' (e:=5) (base:=w.heap.size) (ok:=fun k_=>True) (n:=I.length) (c:=af) ?_).2.2;exact(by(with_reducible repeat(first|apply Kd.R_alloc|apply Kd.R_drewN|apply Kd.R_drew));exact(zF D.out G.out  (.int .i64 5)  (.int .i64 2)  (.slice aj I.length af))));(case side2=>exact(Kd.R_reads' D.out).2.1);rintro e b7 ⟨az,rfl,X,hb⟩;refine⟨_,rfl,?_⟩;have L:=aK (Kd.R_lower (Kd.R_new' X (Kd.R_lt (by(with_reducible repeat(first|apply Kd.R_alloc|apply Kd.R_drewN|apply Kd.R_drew));exact(zF D.out G.out  (.int .i64 5)  (.int .i64 2)  (.slice aj I.length af))))) (below_size (hbA HB.out)));replace D:=aK (Kd.R_elder' (by(with_reducible repeat(first|apply Kd.R_alloc|apply Kd.R_drewN|apply Kd.R_drew));exact(zF D.out G.out  (.int .i64 5)  (.int .i64 2)  (.slice aj I.length af))) (Kd.R_base X) hb);replace G:=aK (blk_below (g:=J) (o:= .cells #[.int .i64 5,.int .i64 2,.slice aj I.length af] 24 (0,0)) zq hb);replace HB:=hbB HB hb;(try clear hb);(try clear X)))
    go_ret
    exact⟨rfE,hbA HB.out⟩
  ·rw[if_neg c3]at H
   have c3b0:(Z==0)=false:=beq_eq_false_iff_ne.mpr c3;have c3b1:(Z !=0)=true:=bne_iff_ne.mpr c3;obtain rfl:=Option.some.inj H
   go_enter Tryd.func15,Tryd.ntmps15
   go_wp2_with (first|((with_reducible refine gate_dst (N:=6) rfl ?_);(try(refine gate_guard ze ?_;dsimp only));refine Kd.R_lit (Kd.int .u8) _ 5 ?hg (N:=6) ?hd (xs:=([1,0,0,1,1,1,2,2,0,0]:List Int)) (inner:= [.int .u8 1,.int .u8 0,.int .u8 0,.int .u8 1,.int .u8 1,.int .u8 1,.int .u8 2,.int .u8 2,.int .u8 0,.int .u8 0]) (ok:=fun _=>True) (okp:=fun _=>True) ?hr ?hp (fun _ hk=>hk) trivial (Below.refl _ _) (Nat.le_refl _) zd ?_;(case hd=>rfl);(case hg=>rfl);(case hr=>first|(go_simp;done)|(go_simp;rfl));(case hp=>exact(Reps.one (show Kd.M (Kd.int .u8) _ _ _ 1 [.int .u8 1]from rfl) (Reps.one (show Kd.M (Kd.int .u8) _ _ _ 0 [.int .u8 0]from rfl) (Reps.one (show Kd.M (Kd.int .u8) _ _ _ 0 [.int .u8 0]from rfl) (Reps.one (show Kd.M (Kd.int .u8) _ _ _ 1 [.int .u8 1]from rfl) (Reps.one (show Kd.M (Kd.int .u8) _ _ _ 1 [.int .u8 1]from rfl) (Reps.one (show Kd.M (Kd.int .u8) _ _ _ 1 [.int .u8 1]from rfl) (Reps.one (show Kd.M (Kd.int .u8) _ _ _ 2 [.int .u8 2]from rfl) (Reps.one (show Kd.M (Kd.int .u8) _ _ _ 2 [.int .u8 2]from rfl) (Reps.one (show Kd.M (Kd.int .u8) _ _ _ 0 [.int .u8 0]from rfl) (Reps.one (show Kd.M (Kd.int .u8) _ _ _ 0 [.int .u8 0]from rfl) (Reps.none _ _))))))))))));intro ay b8 an hb hg_ hnew_;clear hg_ hnew_;(first|rw[<-U.out]at an|(simp only[Int.reduceToNat]at an;rw[<-U.out]at an));have D:=aK (Kd.R_lower an (below_size zi));replace HB:=aK (below_step zi hb);clear hb an;obtain⟨ak,ag,a4⟩:=Kd.R_slice D.out;subst a4)|((with_reducible refine gD 1 rfl ?_);(try(refine gate_guard ze ?_;dsimp only));refine bE 1 #[.int .i64 0,.int .i64 0,.slice none 0 0] 24 ?_;intro J hg b9 hbox hb;replace D:=kdB D hb;have G:=aK (hbox);have aq:=aK ((by rw[hg];exact(below_size zi):w.heap.size<=J));have ap:=aK ((by rw[hg];exact(below_size zi):w.heap.size<=J));replace HB:=aK (below_step zi hb);clear hb hbox hg;obtain⟨bc,bd,be,bo,bp,bq⟩:=cell3 G)|((with_reducible refine gC 11 rfl ?_);refine cG (some 10) Tryd.func11 #[.agg #[.int .i64 5,.int .i64 2,.slice ak I.length ag],.int .i64 0] ?_;(with_reducible refine(local_Least.calls k 5 2 _ _ I 0 Y ai true Z _ ?side1 ?side2 A1.out (tab_below HT.out zr)).mono ?_);(case side1=>refine(Kd.R_reads' (e:=5) (base:=w.heap.size) (ok:=fun k_=>True) (n:=I.length) (c:=ag) ?_).2.2;exact(by(with_reducible repeat(first|apply Kd.R_alloc|apply Kd.R_drewN|apply Kd.R_drew));exact(zF D.out G.out  (.int .i64 5)  (.int .i64 2)  (.slice ak I.length ag))));(case side2=>exact(Kd.R_reads' D.out).2.1);rintro e ca ⟨az,rfl,X,hb⟩;refine⟨_,rfl,?_⟩;have L:=aK (Kd.R_lower (Kd.R_new' X (Kd.R_lt (by(with_reducible repeat(first|apply Kd.R_alloc|apply Kd.R_drewN|apply Kd.R_drew));exact(zF D.out G.out  (.int .i64 5)  (.int .i64 2)  (.slice ak I.length ag))))) (below_size (hbA HB.out)));replace D:=aK (Kd.R_elder' (by(with_reducible repeat(first|apply Kd.R_alloc|apply Kd.R_drewN|apply Kd.R_drew));exact(zF D.out G.out  (.int .i64 5)  (.int .i64 2)  (.slice ak I.length ag))) (Kd.R_base X) hb);replace G:=aK (blk_below (g:=J) (o:= .cells #[.int .i64 5,.int .i64 2,.slice ak I.length ag] 24 (0,0)) zq hb);replace HB:=hbB HB hb;(try clear hb);(try clear X)))
   go_ret
   exact⟨rfE,hbA HB.out⟩
 ·replace c2:=Bool.eq_false_iff.mpr c2;subst c2;rw[if_neg nofT]at H
  obtain rfl:=Option.some.inj H
  go_enter Tryd.func15,Tryd.ntmps15
  go_wp2_with (first|((with_reducible refine gate_dst (N:=6) rfl ?_);(try(refine gate_guard ze ?_;dsimp only));refine Kd.R_lit (Kd.int .u8) _ 5 ?hg (N:=6) ?hd (xs:=([1,0,0,1,1,1,2,2,0,0]:List Int)) (inner:= [.int .u8 1,.int .u8 0,.int .u8 0,.int .u8 1,.int .u8 1,.int .u8 1,.int .u8 2,.int .u8 2,.int .u8 0,.int .u8 0]) (ok:=fun _=>True) (okp:=fun _=>True) ?hr ?hp (fun _ hk=>hk) trivial (Below.refl _ _) (Nat.le_refl _) zd ?_;(case hd=>rfl);(case hg=>rfl);(case hr=>first|(go_simp;done)|(go_simp;rfl));(case hp=>exact(Reps.one (show Kd.M (Kd.int .u8) _ _ _ 1 [.int .u8 1]from rfl) (Reps.one (show Kd.M (Kd.int .u8) _ _ _ 0 [.int .u8 0]from rfl) (Reps.one (show Kd.M (Kd.int .u8) _ _ _ 0 [.int .u8 0]from rfl) (Reps.one (show Kd.M (Kd.int .u8) _ _ _ 1 [.int .u8 1]from rfl) (Reps.one (show Kd.M (Kd.int .u8) _ _ _ 1 [.int .u8 1]from rfl) (Reps.one (show Kd.M (Kd.int .u8) _ _ _ 1 [.int .u8 1]from rfl) (Reps.one (show Kd.M (Kd.int .u8) _ _ _ 2 [.int .u8 2]from rfl) (Reps.one (show Kd.M (Kd.int .u8) _ _ _ 2 [.int .u8 2]from rfl) (Reps.one (show Kd.M (Kd.int .u8) _ _ _ 0 [.int .u8 0]from rfl) (Reps.one (show Kd.M (Kd.int .u8) _ _ _ 0 [.int .u8 0]from rfl) (Reps.none _ _))))))))))));intro ay cb ao hb hg_ hnew_;clear hg_ hnew_;(first|rw[<-U.out]at ao|(simp only[Int.reduceToNat]at ao;rw[<-U.out]at ao));have D:=aK (Kd.R_lower ao (below_size zi));replace HB:=aK (below_step zi hb);clear hb ao;obtain⟨al,ah,a5⟩:=Kd.R_slice D.out;subst a5)|((with_reducible refine gD 1 rfl ?_);(try(refine gate_guard ze ?_;dsimp only));refine bE 1 #[.int .i64 0,.int .i64 0,.slice none 0 0] 24 ?_;intro J hg cd hbox hb;replace D:=kdB D hb;have G:=aK (hbox);have aq:=aK ((by rw[hg];exact(below_size zi):w.heap.size<=J));have ap:=aK ((by rw[hg];exact(below_size zi):w.heap.size<=J));replace HB:=aK (below_step zi hb);clear hb hbox hg;obtain⟨bf,bg,bh,br,bs,bt⟩:=cell3 G)|((with_reducible refine gC 11 rfl ?_);refine cG (some 10) Tryd.func11 #[.agg #[.int .i64 5,.int .i64 2,.slice al I.length ah],.int .i64 0] ?_;(with_reducible refine(local_Least.calls k 5 2 _ _ I 0 Y ai false Z _ ?side1 ?side2 A1.out (tab_below HT.out zr)).mono ?_);(case side1=>refine(Kd.R_reads' (e:=5) (base:=w.heap.size) (ok:=fun k_=>True) (n:=I.length) (c:=ah) ?_).2.2;exact(by(with_reducible repeat(first|apply Kd.R_alloc|apply Kd.R_drewN|apply Kd.R_drew));exact(zF D.out G.out  (.int .i64 5)  (.int .i64 2)  (.slice al I.length ah))));(case side2=>exact(Kd.R_reads' D.out).2.1);rintro e ce ⟨az,rfl,X,hb⟩;refine⟨_,rfl,?_⟩;have L:=aK (Kd.R_lower (Kd.R_new' X (Kd.R_lt (by(with_reducible repeat(first|apply Kd.R_alloc|apply Kd.R_drewN|apply Kd.R_drew));exact(zF D.out G.out  (.int .i64 5)  (.int .i64 2)  (.slice al I.length ah))))) (below_size (hbA HB.out)));replace D:=aK (Kd.R_elder' (by(with_reducible repeat(first|apply Kd.R_alloc|apply Kd.R_drewN|apply Kd.R_drew));exact(zF D.out G.out  (.int .i64 5)  (.int .i64 2)  (.slice al I.length ah))) (Kd.R_base X) hb);replace G:=aK (blk_below (g:=J) (o:= .cells #[.int .i64 5,.int .i64 2,.slice al I.length ah] 24 (0,0)) zq hb);replace HB:=hbB HB hb;(try clear hb);(try clear X)))
  go_ret
  exact⟨rfE,hbA HB.out⟩
def recoupref06_Has.f(a0:Int)(a1:Int):Option (Bool):=if a1>=0 then(if a1<64 then(if 0<=(IntKind.u64.wrap (a1))then(some ((Go.bits .and .u64 (shr .u64 a0 (IntKind.u64.wrap (a1))) 1)==1))else(none))else(some false))else(some false)
theorem recoupref06_Has.calls(a0:Int)(a1:Int)(r:Bool)(w:World)(h:recoupref06_Has.f a0 a1=some r):
 Calls Tryd.prog 18 #[.int .u64 a0,.int .i64 a1] w fun e w'=>e= .returned (.bool r)/\Drawn0 w w':=by
 have H:(if a1>=0 then(if a1<64 then(if 0<=(IntKind.u64.wrap (a1))then(some ((Go.bits .and .u64 (shr .u64 a0 (IntKind.u64.wrap (a1))) 1)==1))else(none))else(some false))else(some false))=some r:=h;clear h;by_cases c3:a1>=0
 ·rw[if_pos c3]at H
  have c3b0:decide (0<=a1)=true:=decide_eq_true c3;clear c3;by_cases c4:a1<64
  ·rw[if_pos c4]at H
   have c4b0:decide (a1<64)=true:=decide_eq_true c4;clear c4;obtain⟨G,I⟩: ∃j_:Int,(IntKind.u64.wrap (a1))=j_:=⟨_,rfl⟩
   replace H:(if 0<=(G)then(some ((Go.bits .and .u64 (shr .u64 a0 (G)) 1)==1))else(none))=some r:=by first|(rw[I]at H;exact H)|(simp only[I]at H⊢;exact H)
   by_cases c6:0<=(G)
   ·rw[if_pos c6]at H
    have c6b0:=eq_true c6;have c6b1:decide (0<=(G))=true:=decide_eq_true c6;clear c6;obtain⟨J,D⟩: ∃j_:Int,(shr .u64 a0 (G))=j_:=⟨_,rfl⟩
    replace H:(some ((Go.bits .and .u64 (J) 1)==1))=some r:=by first|(rw[D]at H;exact H)|(simp only[D]at H⊢;exact H)
    have hji7_:(a0 / 2^min (G).toNat 64)=J:=D;have hji7z:(G)<=64->(a0 / 2^(G).toNat)=J:=shr_small D;obtain rfl:=Option.some.inj H
    go_enter Tryd.func18,Tryd.ntmps18
    go_wp2
    go_ret
    exact⟨by first|rfl|(simp;done)|(simp only[<-I,<-D]<;>(first|rfl|simp))|(simp[*];done),by repeat(first|exact Drawn0.refl _|apply Drawn0.step)⟩
   ·rw[if_neg c6]at H
    exact absurd H zd
  ·rw[if_neg c4]at H
   have c4b0:decide (a1<64)=false:=decide_eq_false c4;clear c4;obtain rfl:=Option.some.inj H
   go_enter Tryd.func18,Tryd.ntmps18
   go_wp2
   go_ret
   exact zD
 ·rw[if_neg c3]at H
  have c3b0:decide (0<=a1)=false:=decide_eq_false c3;clear c3;obtain rfl:=Option.some.inj H
  go_enter Tryd.func18,Tryd.ntmps18
  go_wp2
  go_ret
  exact zD
def recoupref03_Right.f(D:Int)(G:Int)(I:List Int):Option (Bool):=if D>=0 then(if D<=64 then(if G>=0 then(if G<=64 then(some ((I.length:Int)==(wrap64 (D*G))))else(some false))else(some false))else(some false))else(some false)
theorem recoupref03_Right.calls(D:Int)(G:Int)(L:Option Addr)(O:Nat)(J:List Int)(r:Bool)(w:World)(aa:Kd.C (Kd.int .u8) w L J.length J)(Z:J.length<=O)(h:recoupref03_Right.f D G J=some r):
 Calls Tryd.prog 45 #[.agg #[.int .i64 D,.int .i64 G,.slice L J.length O]] w fun e w'=>e= .returned (.bool r)/\Below w.heap.size w w':=by
 have ba:=Tryd.underlying24;have a9:=aK aa;have a8:=aK Z;clear aa Z;have HB:=aK (Below.refl w.heap.size w);have H:(if D>=0 then(if D<=64 then(if G>=0 then(if G<=64 then(some ((J.length:Int)==(wrap64 (D*G))))else(some false))else(some false))else(some false))else(some false))=some r:=h;clear h;by_cases c2:D>=0
 ·rw[if_pos c2]at H
  have c2b0:decide (0<=D)=true:=decide_eq_true c2;clear c2;by_cases c3:D<=64
  ·rw[if_pos c3]at H
   have c3b0:decide (D<=64)=true:=decide_eq_true c3;clear c3;by_cases c4:G>=0
   ·rw[if_pos c4]at H
    have c4b0:decide (0<=G)=true:=decide_eq_true c4;clear c4;by_cases c5:G<=64
    ·rw[if_pos c5]at H
     have c5b0:decide (G<=64)=true:=decide_eq_true c5;clear c5;obtain rfl:=Option.some.inj H
     go_enter Tryd.func45,Tryd.ntmps45
     go_wp2_with (first|((with_reducible refine gD 1 rfl ?_);(try(refine gate_guard ze ?_;dsimp only));refine bE 1 #[.int .i64 D,.int .i64 G,.slice L J.length O] 24 ?_;intro Y hg w6 hbox hb;have I:=aK (hbox);have X:=hbS HB hg;have U:=hbS HB hg;replace HB:=hbB HB hb;clear hb hbox hg;obtain⟨aw,ax,ay,a2,a3,a4⟩:=cell3 I))
     go_ret
     exact⟨rfE,hbA HB.out⟩
    ·rw[if_neg c5]at H
     have c5b0:decide (G<=64)=false:=decide_eq_false c5;clear c5;obtain rfl:=Option.some.inj H
     go_enter Tryd.func45,Tryd.ntmps45
     go_wp2_with (first|((with_reducible refine gD 1 rfl ?_);(try(refine gate_guard ze ?_;dsimp only));refine bE 1 #[.int .i64 D,.int .i64 G,.slice L J.length O] 24 ?_;intro Y hg w8 hbox hb;have I:=aK (hbox);have X:=hbS HB hg;have U:=hbS HB hg;replace HB:=hbB HB hb;clear hb hbox hg;obtain⟨az,a0,a1,a5,a6,a7⟩:=cell3 I))
     go_ret
     exact⟨rfE,hbA HB.out⟩
   ·rw[if_neg c4]at H
    have c4b0:decide (0<=G)=false:=decide_eq_false c4;clear c4;obtain rfl:=Option.some.inj H
    go_enter Tryd.func45,Tryd.ntmps45
    go_wp2_with (first|((with_reducible refine gD 1 rfl ?_);(try(refine gate_guard ze ?_;dsimp only));refine bE 1 #[.int .i64 D,.int .i64 G,.slice L J.length O] 24 ?_;intro Y hg bb hbox hb;have I:=aK (hbox);have X:=hbS HB hg;have U:=hbS HB hg;replace HB:=hbB HB hb;clear hb hbox hg;obtain⟨ab,ac,ae,al,am,an⟩:=cell3 I))
    go_ret
    exact⟨rfE,hbA HB.out⟩
  ·rw[if_neg c3]at H
   have c3b0:decide (D<=64)=false:=decide_eq_false c3;clear c3;obtain rfl:=Option.some.inj H
   go_enter Tryd.func45,Tryd.ntmps45
   go_wp2_with (first|((with_reducible refine gD 1 rfl ?_);(try(refine gate_guard ze ?_;dsimp only));refine bE 1 #[.int .i64 D,.int .i64 G,.slice L J.length O] 24 ?_;intro Y hg bc hbox hb;have I:=aK (hbox);have X:=hbS HB hg;have U:=hbS HB hg;replace HB:=hbB HB hb;clear hb hbox hg;obtain⟨af,ag,ah,ao,ap,aq⟩:=cell3 I))
   go_ret
   exact⟨rfE,hbA HB.out⟩
 ·rw[if_neg c2]at H
  have c2b0:decide (0<=D)=false:=decide_eq_false c2;clear c2;obtain rfl:=Option.some.inj H
  go_enter Tryd.func45,Tryd.ntmps45
  go_wp2_with (first|((with_reducible refine gD 1 rfl ?_);(try(refine gate_guard ze ?_;dsimp only));refine bE 1 #[.int .i64 D,.int .i64 G,.slice L J.length O] 24 ?_;intro Y hg bd hbox hb;have I:=aK (hbox);have X:=hbS HB hg;have U:=hbS HB hg;replace HB:=hbB HB hb;clear hb hbox hg;obtain⟨ai,aj,ak,ar,au,av⟩:=cell3 I))
  go_ret
  exact⟨rfE,hbA HB.out⟩
def recoupref16_Generator.f(G:Int)(D:Int)(I:List Int):Option (Bool):=(recoupref03_Right.f G D I).bind fun J=>(if J=true then(if D>=1 then(some (decide (G>=D)))else(some false))else(some false))
theorem recoupref16_Generator.calls(J:Int)(G:Int)(L:Option Addr)(O:Nat)(I:List Int)(r:Bool)(w:World)(ac:Kd.C (Kd.int .u8) w L I.length I)(ab:I.length<=O)(h:recoupref16_Generator.f J G I=some r):
 Calls Tryd.prog 14 #[.agg #[.int .i64 J,.int .i64 G,.slice L I.length O]] w fun e w'=>e= .returned (.bool r)/\Below w.heap.size w w':=by
 have bb:=Tryd.underlying24;have X:=aK ac;have U:=aK ab;clear ac ab;have HB:=aK (Below.refl w.heap.size w);have H:((recoupref03_Right.f J G I).bind fun ae=>(if ae=true then(if G>=1 then(some (decide (J>=G)))else(some false))else(some false)))=some r:=h;clear h;obtain⟨ae,A2,H⟩:=bindO H
 (try dsimp only at H)
 by_cases c3:ae=true
 ·subst c3;rw[if_pos rfl]at H
  by_cases c4:G>=1
  ·rw[if_pos c4]at H
   have c4b0:decide (1<=G)=true:=decide_eq_true c4;clear c4;obtain rfl:=Option.some.inj H
   go_enter Tryd.func14,Tryd.ntmps14
   go_wp2_with (first|((with_reducible refine gD 1 rfl ?_);refine bE 1 #[.int .i64 J,.int .i64 G,.slice L I.length O] 24 ?_;intro aa hg w5 hbox hb;have D:=aK (hbox);have Z:=hbS HB hg;have Y:=hbS HB hg;replace HB:=hbB HB hb;clear hb hbox hg;obtain⟨az,a0,a1,a5,a6,a7⟩:=cell3 D)|((with_reducible refine gC 45 rfl ?_);refine cG (some 4) Tryd.func45 #[.agg #[.int .i64 J,.int .i64 G,.slice L I.length O]] ?_;(with_reducible refine(recoupref03_Right.calls J G _ _ I true _ ?side1 ?side2 A2.out).mono ?_);(case side1=>exact kcB X HB);(case side2=>exact U.out);rintro e w7 ⟨rfl,hb⟩;refine⟨_,rfl,?_⟩;replace D:=bkB D hb;replace HB:=hbB HB hb;(try clear hb);obtain⟨a2,a3,a4,a8,a9,ba⟩:=cell3 D))
   go_ret
   exact⟨rfE,hbA HB.out⟩
  ·rw[if_neg c4]at H
   have c4b0:decide (1<=G)=false:=decide_eq_false c4;clear c4;obtain rfl:=Option.some.inj H
   go_enter Tryd.func14,Tryd.ntmps14
   go_wp2_with (first|((with_reducible refine gD 1 rfl ?_);refine bE 1 #[.int .i64 J,.int .i64 G,.slice L I.length O] 24 ?_;intro aa hg w9 hbox hb;have D:=aK (hbox);have Z:=hbS HB hg;have Y:=hbS HB hg;replace HB:=hbB HB hb;clear hb hbox hg;obtain⟨af,ag,ah,ao,ap,aq⟩:=cell3 D)|((with_reducible refine gC 45 rfl ?_);refine cG (some 4) Tryd.func45 #[.agg #[.int .i64 J,.int .i64 G,.slice L I.length O]] ?_;(with_reducible refine(recoupref03_Right.calls J G _ _ I true _ ?side1 ?side2 A2.out).mono ?_);(case side1=>exact kcB X HB);(case side2=>exact U.out);rintro e bc ⟨rfl,hb⟩;refine⟨_,rfl,?_⟩;replace D:=bkB D hb;replace HB:=hbB HB hb;(try clear hb);obtain⟨ai,aj,ak,ar,au,av⟩:=cell3 D))
   go_ret
   exact⟨rfE,hbA HB.out⟩
 ·replace c3:=Bool.eq_false_iff.mpr c3;subst c3;rw[if_neg nofT]at H
  obtain rfl:=Option.some.inj H
  go_enter Tryd.func14,Tryd.ntmps14
  go_wp2_with (first|((with_reducible refine gD 1 rfl ?_);refine bE 1 #[.int .i64 J,.int .i64 G,.slice L I.length O] 24 ?_;intro aa hg bd hbox hb;have D:=aK (hbox);have Z:=hbS HB hg;have Y:=hbS HB hg;replace HB:=hbB HB hb;clear hb hbox hg;obtain⟨al,am,an,aw,ax,ay⟩:=cell3 D)|((with_reducible refine gC 45 rfl ?_);refine cG (some 4) Tryd.func45 #[.agg #[.int .i64 J,.int .i64 G,.slice L I.length O]] ?_;(with_reducible refine(recoupref03_Right.calls J G _ _ I false _ ?side1 ?side2 A2.out).mono ?_);(case side1=>exact kcB X HB);(case side2=>exact U.out);rintro e be ⟨rfl,hb⟩;refine⟨_,rfl,?_⟩;replace D:=bkB D hb;replace HB:=hbB HB hb;(try clear hb)))
  go_ret
  exact⟨rfE,hbA HB.out⟩
def recoupref06_List.l0:Nat->Int->List Int->Int->Option (List Int)
 |0,_,_,_=>none
 |k+1,x0,x3,x4=>if x4<64 then((recoupref06_Has.f x0 x4).bind fun D=>(if D=true then(if x3.length<17592186044416 then(recoupref06_List.l0 k x0 (x3++ [x4]) (wrap64 (x4+1)))else(none))else(recoupref06_List.l0 k x0 x3 (wrap64 (x4+1)))))else(some x3)
def recoupref06_List.f(k:Nat)(a0:Int):Option (List Int):=recoupref06_List.l0 k a0 ([]:List Int) 0
theorem recoupref06_List.calls(k:Nat)(a0:Int)(r:List Int)(w:World)(h:recoupref06_List.f k a0=some r):
 Calls Tryd.prog 23 #[.int .u64 a0] w fun e w'=> ∃v0_:Value,e= .returned (v0_)/\Kd.R (Kd.int .i64) 3 w' w.heap.size (fun _=>True) v0_ r/\Below w.heap.size w w':=by
 have HB:=aK (Below.refl w.heap.size w);have H:(recoupref06_List.l0 k a0 ([]:List Int) 0)=some r:=h;clear h;have H':=aK H;clear H
 go_enter Tryd.func23,Tryd.ntmps23
 go_wp2
 go_loopg [3,4] k (fun kq v3 v4 w'=> ∃(I:List Int) (D:Int),v4= .int .i64 D/\Aside0 (recoupref06_List.l0 kq a0 I D=some r)/\Aside0 (kq<=k)/\Aside0 (Kd.R (Kd.int .i64) 3 w' w.heap.size (fun _=>True) v3 I)/\Aside0 (Below w.heap.size w w'))
 case atStart=>exact⟨(([]:List Int)),(0),rsE,H',⟨Nat.le_refl _⟩,⟨nilE⟩,⟨hbA HB.out⟩⟩
 case round=>
  clear H';obtain⟨I,D,rfl,HA,J,HO_3,HB⟩:=hrel
  cases gk with
  |zero=>exact absurd HA.out (by simp[recoupref06_List.l0])
  |succ k1=>
   have H:=HA.out;clear HA;simp only[recoupref06_List.l0]at H;by_cases c2:D<64
   case neg=>
    rw[if_neg c2]at H
    have c2b0:decide (D<64)=false:=decide_eq_false c2;clear c2;obtain rfl:=Option.some.inj H;go_wp2
    go_ret
    exact⟨_,rfE,by(with_reducible repeat(first|apply Kd.R_alloc|apply Kd.R_drewN|apply Kd.R_drew));exact HO_3.out,hbA HB.out⟩
   rw[if_pos c2]at H
   have c2b0:decide (D<64)=true:=decide_eq_true c2;clear c2;obtain⟨Y,A3,H⟩:=bindO H
   (try dsimp only at H)
   by_cases c4:Y=true
   case neg=>
    replace c4:=Bool.eq_false_iff.mpr c4;subst c4;rw[if_neg nofT]at H
    have H':=aK H;clear H
    go_wp2_with (first|((with_reducible refine gC 18 rfl ?_);refine cG (some 11) Tryd.func18 #[.int .u64 a0,.int .i64 D] ?_;(with_reducible refine(recoupref06_Has.calls a0 D false _ A3.out).mono ?_);rintro e w' ⟨rfl,⟨nd,rfl⟩⟩;refine⟨_,rfl,?_⟩))
    go_roundg k1
    case measure=>have:=J.out;omega
    case rel=>exact⟨(I),(wrap64 (D+1)),rsE,H',⟨by have:=J.out;omega⟩,⟨kdA HO_3.out⟩,⟨hbA HB.out⟩⟩
   subst c4;rw[if_pos rfl]at H
   by_cases c5:I.length<17592186044416
   case neg=>rw[if_neg c5]at H;exact absurd H zd
   rw[if_pos c5]at H
   have X:=aK c5;clear c5;obtain⟨L,G⟩: ∃y_:List Int,y_=(I++ [D]):=⟨_,rfl⟩
   replace H:(recoupref06_List.l0 k1 a0 L (wrap64 (D+1)))=some r:=zH G H
   have U:=aK G;clear G;have H':=aK H;clear H
   go_wp2_with (first|((with_reducible refine gC 18 rfl ?_);refine cG (some 11) Tryd.func18 #[.int .u64 a0,.int .i64 D] ?_;(with_reducible refine(recoupref06_Has.calls a0 D true _ A3.out).mono ?_);rintro e w' ⟨rfl,⟨nd,rfl⟩⟩;refine⟨_,rfl,?_⟩)|((with_reducible refine gate_builtin (b:= .append) (xs:= #[.tmp 12,.tmp 14]) rfl ?_);at_builtin;refine Kd.R_append (Kd.int .i64) (w0:=w) w.heap.size rfl (.tmp 12) (.tmp 14) 56 3 (.int .i64 0) 8 rfl Tryd.underlying56 info3 rfl zc za u3 I D [.int .i64 D] (fun _=>True) (fun _=>False) rfl rfl ?aP (fun _ hk=>hk.elim) ?aF ?aO ?aB ?aS ?aL ?_;(case aP=>exact rfl);(case aB=>exact(hbA HB.out));(case aF=>exact(fun _ _=>trivial));(case aO=>exact(kdA HO_3.out));(case aS=>exact(below_size (hbA HB.out)));(case aL=>have:=X.out;omega);intro Z w6 ho hb hg hat;rw[<-U.out]at ho;have n0_:=aK (hb);have n1_:=aK (ho);clear HB;clear HO_3;have HB:=n0_;have O:=n1_;clear n0_ n1_;clear ho hb hg hat))
   go_roundg k1
   case measure=>have:=J.out;omega
   case rel=>exact⟨(L),(wrap64 (D+1)),rsE,H',⟨by have:=J.out;omega⟩,⟨kdA O.out⟩,⟨hbA HB.out⟩⟩
def recoupref03_At.f(I:Int)(D:Int)(G:List Int)(a1:Int)(a2:Int):Option (Int):=if 0<=(wrap64 ((wrap64 (a1*D))+a2))then(if(wrap64 ((wrap64 (a1*D))+a2))<(G.length:Int)then(some (rd G (wrap64 ((wrap64 (a1*D))+a2))))else(none))else(none)
theorem recoupref03_At.calls(U:Int)(G:Int)(O:Option Addr)(X:Nat)(D:List Int)(a1:Int)(a2:Int)(r:Int)(w:World)(Z:Kd.C (Kd.int .u8) w O D.length D)(Y:D.length<=X)(h:recoupref03_At.f U G D a1 a2=some r):
 Calls Tryd.prog 49 #[.agg #[.int .i64 U,.int .i64 G,.slice O D.length X],.int .i64 a1,.int .i64 a2] w fun e w'=>e= .returned (.int .u8 r)/\Below w.heap.size w w':=by
 have ar:=Tryd.underlying24;have ae:=aK Z;have ao:=aK Y;clear Z Y;have HB:=aK (Below.refl w.heap.size w);have H:(if 0<=(wrap64 ((wrap64 (a1*G))+a2))then(if(wrap64 ((wrap64 (a1*G))+a2))<(D.length:Int)then(some (rd D (wrap64 ((wrap64 (a1*G))+a2))))else(none))else(none))=some r:=h;clear h;obtain⟨J,L⟩: ∃j_:Int,(wrap64 ((wrap64 (a1*G))+a2))=j_:=⟨_,rfl⟩
 replace H:(if 0<=(J)then(if(J)<(D.length:Int)then(some (rd D (J)))else(none))else(none))=some r:=by first|(rw[L]at H;exact H)|(simp only[L]at H⊢;exact H)
 have hji4w:(IntKind.i64.wrap ((wrap64 (a1*G))+a2))=J:=(i64_w _).trans L;by_cases c5:0<=(J)
 ·rw[if_pos c5]at H
  have c5b0:decide (0<=(J))=true:=decide_eq_true c5;clear c5;by_cases c6:(J)<(D.length:Int)
  ·rw[if_pos c6]at H
   have c6b0:decide ((J)<(D.length:Int))=true:=decide_eq_true c6;clear c6;obtain rfl:=Option.some.inj H
   go_enter Tryd.func49,Tryd.ntmps49
   go_wp2_with (first|((with_reducible refine gD 3 rfl ?_);refine bE 3 #[.int .i64 U,.int .i64 G,.slice O D.length X] 24 ?_;intro aq hg w7 hbox hb;have ac:=aK (hbox);have an:=hbS HB hg;have am:=hbS HB hg;replace HB:=hbB HB hb;clear hb hbox hg;obtain⟨ag,ah,ai,aj,ak,al⟩:=cell3 ac;have aa:0<=((J):Int):=of_decide_eq_true asE;have ab:(J)<(D.length:Int):=of_decide_eq_true asE;obtain⟨ap,af,I⟩:=Kd.at_int ae.out (J) aa ab;cases af;replace I:=(HB.out.cell (World.block_lt_of_cell? w _ I)).trans I;replace aa:=eq_true aa;replace ab:=eq_true ab))
   go_ret
   exact⟨by first|rfl|(simp[errW_none,errW_some]<;>rfl)|(simp only[<-L];first|rfl|(simp[errW_none,errW_some]<;>rfl))|(simp[*,errW_none,errW_some]<;>rfl),hbA HB.out⟩
  ·rw[if_neg c6]at H
   exact absurd H zd
 ·rw[if_neg c5]at H
  exact absurd H zd
mutual
def recoupref03_Row.j0:Nat->Int->Bool->Int->Int->List Int->Option (List Int×Int)
 |0,_,_,_,_,_=>none
 |k+1,x1,J,D,G,I=>if J=true then(some (([]:List Int),2))else(recoupref03_Row.l0 k x1 ([]:List Int) 0 D G I)
def recoupref03_Row.l0:Nat->Int->List Int->Int->Int->Int->List Int->Option (List Int×Int)
 |0,_,_,_,_,_,_=>none
 |k+1,x1,x6,x7,G,D,I=>if x7<D then((recoupref03_At.f G D I x1 x7).bind fun J=>(if x6.length<140737488355328 then(recoupref03_Row.l0 k x1 (x6++ [J]) (wrap64 (x7+1)) G D I)else(none)))else(some (x6,0))
end
def recoupref03_Row.f(k:Nat)(D:Int)(G:Int)(I:List Int)(a1:Int):Option (List Int×Int):=(recoupref03_Right.f D G I).bind fun J=>(if J=true then(if a1<0 then(recoupref03_Row.j0 k a1 true D G I)else(recoupref03_Row.j0 k a1 (decide (a1>=D)) D G I))else(some (([]:List Int),3)))
theorem recoupref03_Row.calls(k:Nat)(J:Int)(G:Int)(L:Option Addr)(O:Nat)(I:List Int)(a1:Int)(r1:List Int)(r2:Int)(w:World)(aw:Kd.C (Kd.int .u8) w L I.length I)(av:I.length<=O)(h:recoupref03_Row.f k J G I a1=some (r1,r2)):
 Calls Tryd.prog 21 #[.agg #[.int .i64 J,.int .i64 G,.slice L I.length O],.int .i64 a1] w fun e w'=> ∃v0_:Value,e= .returned (.tuple #[v0_,.int .i64 r2])/\Kd.R (Kd.int .u8) 5 w' w.heap.size (fun _=>True) v0_ r1/\Below w.heap.size w w':=by
 have bu:=Tryd.underlying24;have aj:=aK aw;have ai:=aK av;clear aw av;have HB:=aK (Below.refl w.heap.size w);have H:((recoupref03_Right.f J G I).bind fun ax=>(if ax=true then(if a1<0 then(recoupref03_Row.j0 k a1 true J G I)else(recoupref03_Row.j0 k a1 (decide (a1>=J)) J G I))else(some (([]:List Int),3))))=some (r1,r2):=h;clear h;obtain⟨ax,A3,H⟩:=bindO H
 (try dsimp only at H)
 by_cases c4:ax=true
 case neg=>
  replace c4:=Bool.eq_false_iff.mpr c4;subst c4;rw[if_neg nofT]at H
  obtain⟨rfl,rfl⟩:=zP2 H
  go_enter Tryd.func21,Tryd.ntmps21
  go_wp2_with (first|((with_reducible refine gD 2 rfl ?_);refine bE 2 #[.int .i64 J,.int .i64 G,.slice L I.length O] 24 ?_;intro Z hg bz hbox hb;have D:=aK (hbox);have a2:=hbS HB hg;have a0:=hbS HB hg;replace HB:=hbB HB hb;clear hb hbox hg;obtain⟨bf,bg,bh,bo,bp,bq⟩:=cell3 D)|((with_reducible refine gC 45 rfl ?_);refine cG (some 9) Tryd.func45 #[.agg #[.int .i64 J,.int .i64 G,.slice L I.length O]] ?_;(with_reducible refine(recoupref03_Right.calls J G _ _ I false _ ?side1 ?side2 A3.out).mono ?_);(case side1=>exact kcB aj HB);(case side2=>exact ai.out);rintro e b0 ⟨rfl,hb⟩;refine⟨_,rfl,?_⟩;replace D:=bkB D hb;replace HB:=hbB HB hb;(try clear hb)))
  go_ret2
  exact⟨_,rfE,nilE,hbA HB.out⟩
 subst c4;rw[if_pos rfl]at H
 have a3:=aK H;clear H
 go_enter Tryd.func21,Tryd.ntmps21
 go_upto_region 3 with(first|((with_reducible refine gD 2 rfl ?_);refine bE 2 #[.int .i64 J,.int .i64 G,.slice L I.length O] 24 ?_;intro Z hg w6 hbox hb;have D:=aK (hbox);have a2:=hbS HB hg;have a0:=hbS HB hg;replace HB:=hbB HB hb;clear hb hbox hg;obtain⟨ak,al,am,an,ao,ap⟩:=cell3 D)|((with_reducible refine gC 45 rfl ?_);refine cG (some 9) Tryd.func45 #[.agg #[.int .i64 J,.int .i64 G,.slice L I.length O]] ?_;(with_reducible refine(recoupref03_Right.calls J G _ _ I true _ ?side1 ?side2 A3.out).mono ?_);(case side1=>exact kcB aj HB);(case side2=>exact ai.out);rintro e w8 ⟨rfl,hb⟩;refine⟨_,rfl,?_⟩;replace D:=bkB D hb;replace HB:=hbB HB hb;(try clear hb)))
 (try simp only[Act.put,zL])
 go_cut [18] (fun bt wc=> ∃(kq:Nat) (aa:Bool),bt= .bool aa/\Aside0 (recoupref03_Row.j0 kq a1 aa J G I=some (r1,r2))/\Aside0 (kq<=k)/\Aside0 (wc.heap[Z]? =some (.cells #[.int .i64 J,.int .i64 G,(.slice L I.length O)] 24 (0,0)))/\Aside0 (Below w.heap.size w wc))
 case first=>
  have H:=a3.out;clear a3;by_cases c9:a1<0
  ·rw[if_pos c9]at H
   have c9b0:decide (a1<0)=true:=decide_eq_true c9;clear c9
   (first|rw[c9b0] |(simp only[i64_w,i32_w];rw[c9b0])|skip)
   have H':=aK H;clear H;go_wp2
   go_meet
   case rel=>exact⟨_,(true),rsE,H',⟨leE⟩,⟨bkA D.out⟩,⟨hbA HB.out⟩⟩
  rw[if_neg c9]at H
  have c9b0:decide (a1<0)=false:=decide_eq_false c9;clear c9
  (first|rw[c9b0] |(simp only[i64_w,i32_w];rw[c9b0])|skip)
  have H':=aK H;clear H;obtain⟨ab,ac,ae,af,ag,ah⟩:=cell3 D;go_wp2
  go_meet
  case rel=>exact⟨_,(decide (a1>=J)),rsE,H',⟨leE⟩,⟨bkA D.out⟩,⟨hbA HB.out⟩⟩
 case rest=>
  clear a3
  (try clear c2);(try clear p2);(try clear c4);(try clear c9);(try clear c9b0);(try clear ab ac ae af ag ah);(try clear ak al am an ao ap)
  obtain⟨kq,aa,rfl,HA,a7,D,HB⟩:=hcut
  cases kq with
  |zero=>exact absurd HA.out (by simp[recoupref03_Row.j0])
  |succ br=>
   have H:=HA.out;clear HA;simp only[recoupref03_Row.j0]at H;by_cases au:aa=true
   ·subst au;rw[if_pos rfl]at H
    obtain⟨rfl,rfl⟩:=zP2 H;go_wp2
    go_ret2
    exact⟨_,rfE,nilE,hbA HB.out⟩
   replace au:=Bool.eq_false_iff.mpr au;subst au;rw[if_neg nofT]at H
   have H':=aK H;clear H;go_wp2
   go_loopg [6,7] br (fun kq v6 v7 w'=> ∃(Y:List Int) (U:Int),v7= .int .i64 U/\Aside0 (recoupref03_Row.l0 kq a1 Y U J G I=some (r1,r2))/\Aside0 (kq<=br)/\Aside0 (Kd.R (Kd.int .u8) 5 w' w.heap.size (fun _=>True) v6 Y)/\Aside0 (w'.heap[Z]? =some (.cells #[.int .i64 J,.int .i64 G,(.slice L I.length O)] 24 (0,0)))/\Aside0 (Below w.heap.size w w'))
   case atStart=>exact⟨(([]:List Int)),(0),rsE,H',⟨Nat.le_refl _⟩,⟨nilE⟩,⟨bkA D.out⟩,⟨hbA HB.out⟩⟩
   case round=>
    clear H'
    (try clear c1);(try clear c2);(try clear p2 p2);(try clear c4);(try clear c9);(try clear c9b0);(try clear au);(try clear ab ac ae af ag ah);(try clear ak al am an ao ap)
    obtain⟨Y,U,rfl,HA,a8,HO_6,D,HB⟩:=hrel
    cases gk with
    |zero=>exact absurd HA.out (by simp[recoupref03_Row.l0])
    |succ k2=>
     have H:=HA.out;clear HA;simp only[recoupref03_Row.l0]at H;by_cases ar:U<G
     case neg=>
      rw[if_neg ar]at H
      have c12b0:decide (U<G)=false:=decide_eq_false ar;clear ar;obtain⟨rfl,rfl⟩:=zP2 H;obtain⟨bc,bd,be,bl,bm,bn⟩:=cell3 D;go_wp2
      go_ret2
      exact⟨_,rfE,by(with_reducible repeat(first|apply Kd.R_alloc|apply Kd.R_drewN|apply Kd.R_drew));exact HO_6.out,hbA HB.out⟩
     rw[if_pos ar]at H
     have c12b0:decide (U<G)=true:=decide_eq_true ar;clear ar;obtain⟨aq,bs,H⟩:=bindO H
     (try dsimp only at H)
     by_cases ay:Y.length<140737488355328
     case neg=>rw[if_neg ay]at H;exact absurd H zd
     rw[if_pos ay]at H
     have a5:=aK ay;clear ay;obtain⟨az,X⟩: ∃y_:List Int,y_=(Y++ [aq]):=⟨_,rfl⟩
     replace H:(recoupref03_Row.l0 k2 a1 az (wrap64 (U+1)) J G I)=some (r1,r2):=zH X H
     have a6:=aK X;clear X;have H':=aK H;clear H;obtain⟨a9,ba,bb,bi,bj,bk⟩:=cell3 D
     go_wp2_with (first|((with_reducible refine gC 49 rfl ?_);refine cG (some 29) Tryd.func49 #[.agg #[.int .i64 J,.int .i64 G,.slice L I.length O],.int .i64 a1,.int .i64 U] ?_;(with_reducible refine(recoupref03_At.calls J G _ _ I a1 U aq _ ?side1 ?side2 bs.out).mono ?_);(case side1=>exact kcB aj HB);(case side2=>exact ai.out);rintro e bw ⟨rfl,hb⟩;refine⟨_,rfl,?_⟩;replace HO_6:=kdB HO_6 hb;replace D:=bkB D hb;replace HB:=hbB HB hb;(try clear hb))|((with_reducible refine gate_builtin (b:= .append) (xs:= #[.tmp 25,.tmp 30]) rfl ?_);at_builtin;refine Kd.R_append (Kd.int .u8) (w0:=w) w.heap.size rfl (.tmp 25) (.tmp 30) 22 5 (.int .u8 0) 1 rfl Tryd.underlying22 info5 rfl zc za u6 Y aq [.int .u8 aq] (fun _=>True) (fun _=>False) rfl rfl ?aP (fun _ hk=>hk.elim) ?aF ?aO ?aB ?aS ?aL ?_;(case aP=>exact rfl);(case aB=>exact(hbA HB.out));(case aF=>exact(fun _ _=>trivial));(case aO=>exact(kdA HO_6.out));(case aS=>exact(below_size (hbA HB.out)));(case aL=>have:=a5.out;omega);intro bv bx ho hb hg hat;rw[<-a6.out]at ho;have n0_:=aK (blk_grown (g:=Z) (o:= .cells #[.int .i64 J,.int .i64 G,.slice L I.length O] 24 (0,0)) (bkA D.out) hg (Kd.R_ne HO_6.out D.out zc));have n1_:=aK (hb);have n2_:=aK (ho);clear D;clear HB;clear HO_6;have D:=n0_;have HB:=n1_;have a4:=n2_;clear n0_ n1_ n2_;clear ho hb hg hat))
     go_roundg k2
     case measure=>have:=a7.out;have:=a8.out;omega
     case rel=>exact⟨(az),(wrap64 (U+1)),rsE,H',⟨by have:=a7.out;have:=a8.out;omega⟩,⟨kdA a4.out⟩,⟨bkA D.out⟩,⟨hbA HB.out⟩⟩
mutual
def recoupref03_Pick.l0:Nat->List Int->Int->Int->Int->List Int->Option (Int×Int×List Int×Int)
 |0,_,_,_,_,_=>none
 |k+1,x1,x6,D,G,I=>if x6<(x1.length:Int)then(if 0<=x6 then(if(rd x1 x6)<0 then(some (0,0,([]:List Int),2))else(if(rd x1 x6)>=D then(some (0,0,([]:List Int),2))else(recoupref03_Pick.l0 k x1 (wrap64 (x6+1)) D G I)))else(none))else(if(x1.length:Int)>64 then(some (0,0,([]:List Int),4))else(recoupref03_Pick.l1 k x1 0 D G I (x1.length:Int) G ([]:List Int)))
def recoupref03_Pick.l1:Nat->List Int->Int->Int->Int->List Int->Int->Int->List Int->Option (Int×Int×List Int×Int)
 |0,_,_,_,_,_,_,_,_=>none
 |k+1,x1,x8,G,I,J,L,O,D=>if x8<(x1.length:Int)then(if 0<=x8 then((recoupref03_Row.f k G I J (rd x1 x8)).bind fun U=>(if D.length+U.1.length<140737488355328 then(recoupref03_Pick.l1 k x1 (wrap64 (x8+1)) G I J L O (D++U.1))else(none)))else(none))else(some (L,O,D,0))
end
def recoupref03_Pick.f(k:Nat)(D:Int)(G:Int)(I:List Int)(l1:List Int):Option (Int×Int×List Int×Int):=(recoupref03_Right.f D G I).bind fun J=>(if J=true then(recoupref03_Pick.l0 k l1 0 D G I)else(some (0,0,([]:List Int),3)))
def recoupref03_Pick.T6:Bool×List (List Nat×List Nat):=(true,[([],[]),([],[]),([0,1],[0,1]),([2],[2]),([3],[3]),([4],[4]),([5],[5]),([5],[5]),([6,7,5],[5,6,7]),([8,5],[5,8]),([5],[5]),([10,5],[5,10]),([9,11,5],[5,9,11]),([5,12],[5,12])])
def recoupref03_Pick.B6:List Nat:= [0,0,3,7,15,31,63,63,255,511,63,1087,4095,8191]
theorem recoupref03_Pick.tab6:rtab .any (opsOf Tryd.f43 6)=recoupref03_Pick.T6:=by kernel_rfl
theorem recoupref03_Pick.bits6:waitsOk recoupref03_Pick.T6.2 recoupref03_Pick.B6=true:=by kernel_rfl
def recoupref03_Pick.T14:Bool×List (List Nat×List Nat):=(true,[([],[]),([],[]),([],[]),([1,2],[1,2]),([3],[3]),([0,4],[0,4]),([5],[5]),([6],[6]),([6],[6]),([7,5,0,1,2,3,4,5,6,7],[7]),([8,9,0,1,2,3,4,5,6,7,8,9],[8])])
def recoupref03_Pick.B14:List Nat:= [0,0,0,6,14,31,63,127,127,255,1023]
theorem recoupref03_Pick.tab14:rtab .any (opsOf Tryd.f43 14)=recoupref03_Pick.T14:=by kernel_rfl
theorem recoupref03_Pick.bits14:waitsOk recoupref03_Pick.T14.2 recoupref03_Pick.B14=true:=by kernel_rfl
theorem recoupref03_Pick.calls(k:Nat)(Y:Int)(O:Int)(al:Option Addr)(am:Nat)(Z:List Int)(A1:Option Addr)(c1:Nat)(l1:List Int)(r1:Int)(r2:Int)(r3:List Int)(r4:Int)(w:World)(ck:Kd.C (Kd.int .u8) w al Z.length Z)(bn:Z.length<=am)(ej:Kd.C (Kd.int .i64) w A1 l1.length l1)(dg:l1.length<=c1)(h:recoupref03_Pick.f k Y O Z l1=some (r1,r2,r3,r4)):
 Calls Tryd.prog 43 #[.agg #[.int .i64 Y,.int .i64 O,.slice al Z.length am],.slice A1 l1.length c1] w fun e w'=> ∃v2_:Value,e= .returned (.tuple #[.agg #[.int .i64 r1,.int .i64 r2,v2_],.int .i64 r4])/\Kd.R (Kd.int .u8) 5 w' w.heap.size (fun _=>True) v2_ r3/\Below w.heap.size w w':=by
 have ff:=Tryd.underlying24;have a4:=aK ck;have a3:=aK bn;clear ck bn;have bi:=aK ej;have fj:=aK dg;clear ej dg;have HB:=aK (Below.refl w.heap.size w);have H:((recoupref03_Right.f Y O Z).bind fun cn=>(if cn=true then(recoupref03_Pick.l0 k l1 0 Y O Z)else(some (0,0,([]:List Int),3))))=some (r1,r2,r3,r4):=h;clear h;obtain⟨cn,A3,H⟩:=bindO H
 (try dsimp only at H)
 by_cases c4:cn=true
 case neg=>
  replace c4:=Bool.eq_false_iff.mpr c4;subst c4;rw[if_neg nofT]at H
  obtain⟨rfl,rfl,rfl,rfl⟩:=zP4 H
  go_enter Tryd.func43,Tryd.ntmps43
  go_wp2_with (first|((with_reducible refine gD 2 rfl ?_);refine bE 2 #[.int .i64 Y,.int .i64 O,.slice al Z.length am] 24 ?_;intro ah hg f3 hbox hb;have D:=aK (hbox);have cy:=hbS HB hg;have cw:=hbS HB hg;replace HB:=hbB HB hb;clear hb hbox hg)|((with_reducible refine gD 4 rfl ?_);refine bE 4 #[.int .i64 0,.int .i64 0,.slice none 0 0] 24 ?_;intro ak hg f4 hbox hb;have G:=aK (hbox);have cz:=hbS HB hg;have cx:=hbS HB hg;replace HB:=hbB HB hb;have ab:=neL D hg;have ac:=neG D hg;replace D:=bkB D hb;clear hb hbox hg;have e0:=ab.out;have fc:=ac.out;obtain⟨dv,dw,dx,ed,ee,ef⟩:=cell3 D)|((with_reducible refine gC 45 rfl ?_);refine cG (some 12) Tryd.func45 #[.agg #[.int .i64 Y,.int .i64 O,.slice al Z.length am]] ?_;(with_reducible refine(recoupref03_Right.calls Y O _ _ Z false _ ?side1 ?side2 A3.out).mono ?_);(case side1=>exact kcB a4 HB);(case side2=>exact a3.out);rintro e f5 ⟨rfl,hb⟩;refine⟨_,rfl,?_⟩;replace D:=bkB D hb;replace G:=bkB G hb;replace HB:=hbB HB hb;(try clear hb);obtain⟨dy,dz,d0,eg,eh,ei⟩:=cell3 G))
  refine bodyPost_ret (results_ct rfl _ _ ak 24 #[.int .i64 0,.int .i64 0,.slice none 0 0] (0,0) _ rfl (by refine bkR ?_;refine blk_put (cs:= #[.int .i64 0,.int .i64 0,.slice none 0 0]) ?_ 2 _ rfl;refine bkR ?_;refine blk_put (cs:= #[.int .i64 0,.int .i64 0,.slice none 0 0]) ?_ 1 _ rfl;refine bkR ?_;refine blk_put (cs:= #[.int .i64 0,.int .i64 0,.slice none 0 0]) ?_ 0 _ rfl;refine bkR ?_;exact G.out) Tryd.underlying24 rfl zb) rfl ?_;exact⟨_,rfE,nilE,hbA HB.out⟩
 subst c4;rw[if_pos rfl]at H
 have H':=aK H;clear H
 go_enter Tryd.func43,Tryd.ntmps43
 go_wp2_with (first|((with_reducible refine gD 2 rfl ?_);refine bE 2 #[.int .i64 Y,.int .i64 O,.slice al Z.length am] 24 ?_;intro ah hg w5 hbox hb;have D:=aK (hbox);have cy:=hbS HB hg;have cw:=hbS HB hg;replace HB:=hbB HB hb;clear hb hbox hg)|((with_reducible refine gD 4 rfl ?_);refine bE 4 #[.int .i64 0,.int .i64 0,.slice none 0 0] 24 ?_;intro ak hg w6 hbox hb;have G:=aK (hbox);have cz:=hbS HB hg;have cx:=hbS HB hg;replace HB:=hbB HB hb;have ab:=neL D hg;have ac:=neG D hg;replace D:=bkB D hb;clear hb hbox hg;have fd:=ab.out;have fe:=ac.out;obtain⟨bb,bc,bd,be,bf,bg⟩:=cell3 D)|((with_reducible refine gC 45 rfl ?_);refine cG (some 12) Tryd.func45 #[.agg #[.int .i64 Y,.int .i64 O,.slice al Z.length am]] ?_;(with_reducible refine(recoupref03_Right.calls Y O _ _ Z true _ ?side1 ?side2 A3.out).mono ?_);(case side1=>exact kcB a4 HB);(case side2=>exact a3.out);rintro e w9 ⟨rfl,hb⟩;refine⟨_,rfl,?_⟩;replace D:=bkB D hb;replace G:=bkB G hb;replace HB:=hbB HB hb;(try clear hb)))
 go_loopg [6] k (fun kq v6 w'=> ∃(I:Int) (U:Int) (L:Int),v6= .int .i64 I/\Aside0 (recoupref03_Pick.l0 kq l1 I Y O Z=some (r1,r2,r3,r4))/\Aside0 (kq<=k)/\Aside0 (w'.heap[ah]? =some (.cells #[.int .i64 Y,.int .i64 O,(.slice al Z.length am)] 24 (0,0)))/\Aside0 (w'.heap[ak]? =some (.cells #[.int .i64 U,.int .i64 L,(.slice none 0 0)] 24 (0,0)))/\Aside0 (Below w.heap.size w w'))
 case atStart=>exact⟨(0),(0),(0),rsE,H',⟨Nat.le_refl _⟩,⟨bkA D.out⟩,⟨bkA G.out⟩,⟨hbA HB.out⟩⟩
 case round=>
  clear H'
  (try clear c1);(try clear p2);(try clear c4);(try clear c7);(try clear bb bc bd be bf bg)
  obtain⟨I,U,L,rfl,HA,co,D,G,HB⟩:=hrel
  cases gk with
  |zero=>exact absurd HA.out (by simp[recoupref03_Pick.l0])
  |succ k1=>
   have H:=HA.out;clear HA;simp only[recoupref03_Pick.l0]at H;by_cases a6:I<(l1.length:Int)
   case neg=>
    rw[if_neg a6]at H
    have c10b0:decide (I<(l1.length:Int))=false:=decide_eq_false a6;clear a6;by_cases a9:(l1.length:Int)>64
    ·rw[if_pos a9]at H
     have c21b0:decide (64<(l1.length:Int))=true:=decide_eq_true a9;have c21b1:decide (64<l1.length)=true:=decide_eq_true za;clear a9;obtain⟨rfl,rfl,rfl,rfl⟩:=zP4 H;have er:=ac.out;have e3:=ab.out;obtain⟨bu,bv,bw,ca,cb,cd⟩:=cell3 G;go_wp2;refine bodyPost_ret (results_ct rfl _ _ ak 24 #[.int .i64 0,.int .i64 0,.slice none 0 0] (0,0) _ rfl zaa Tryd.underlying24 rfl zb) rfl ?_;exact⟨_,rfE,nilE,hbA HB.out⟩
    rw[if_neg a9]at H
    have c21b0:decide (64<(l1.length:Int))=false:=decide_eq_false a9;have c21b1:decide (64<l1.length)=false:=decide_eq_false za;clear a9;have H':=aK H;clear H;have es:=ab.out;have e4:=ac.out;obtain⟨bx,bz,b0,ce,cf,cg⟩:=cell3 D
    go_wp2_with (first|((with_reducible refine gD 7 rfl ?_);refine bE 7 #[.int .i64 0,.int .i64 0,.slice none 0 0] 24 ?_;intro ba hg fz hbox hb;have aa:=aK (hbox);have en:=hbS HB hg;have em:=hbS HB hg;replace HB:=hbB HB hb;have af:=neL D hg;have au:=neG D hg;replace D:=bkB D hb;have ag:=neL G hg;have av:=neG G hg;replace G:=bkB G hb;clear hb hbox hg;have et:=au.out;have e5:=af.out;have eu:=av.out;have e6:=ag.out;obtain⟨b1,b2,b3,ch,ci,cj⟩:=cell3 aa))
    go_loopg [8] k1 (fun kq v8 w'=> ∃(aj:Int) (ae:List Int) (u224002:Value),v8= .int .i64 aj/\Aside0 (recoupref03_Pick.l1 kq l1 aj Y O Z (l1.length:Int) O ae=some (r1,r2,r3,r4))/\Aside0 (kq<=k1)/\Aside0 (Kd.R (Kd.int .u8) 5 w' w.heap.size (fun _=>True) u224002 ae)/\Aside0 (w'.heap[ah]? =some (.cells #[.int .i64 Y,.int .i64 O,(.slice al Z.length am)] 24 (0,0)))/\Aside0 (w'.heap[ak]? =some (.cells #[.int .i64 U,.int .i64 L,(.slice none 0 0)] 24 (0,0)))/\Aside0 (w'.heap[ba]? =some (.cells #[.int .i64 (l1.length:Int),.int .i64 O,u224002] 24 (0,0)))/\Aside0 (Below w.heap.size w w'))
    case atStart=>exact⟨(0),(([]:List Int)),(.slice none 0 0),rsE,H',⟨Nat.le_refl _⟩,⟨nilE⟩,⟨by refine bkR ?_;refine blk_far ?_ af.out _;refine bkR ?_;refine blk_far ?_ af.out _;refine bkR ?_;refine blk_far ?_ af.out _;refine bkR ?_;exact D.out⟩,⟨by refine bkR ?_;refine blk_far ?_ ag.out _;refine bkR ?_;refine blk_far ?_ ag.out _;refine bkR ?_;refine blk_far ?_ ag.out _;refine bkR ?_;exact G.out⟩,⟨by refine bkR ?_;refine blk_put (cs:= #[.int .i64 (l1.length:Int),.int .i64 O,.slice none 0 0]) ?_ 2 _ rfl;refine bkR ?_;refine blk_put (cs:= #[.int .i64 (l1.length:Int),.int .i64 0,.slice none 0 0]) ?_ 1 _ rfl;refine bkR ?_;refine blk_put (cs:= #[.int .i64 0,.int .i64 0,.slice none 0 0]) ?_ 0 _ rfl;refine bkR ?_;exact aa.out⟩,⟨hbA HB.out⟩⟩
    case round=>
     clear H'
     (try clear c1);(try clear c2);(try clear p2 p2);(try clear q2);(try clear ft);(try clear c4);(try clear p6);(try clear c7);(try clear a6);(try clear c10b0);(try clear bl);(try clear c11b0);(try clear a7);(try clear c12b0);(try clear fk);(try clear a8);(try clear c16b0);(try clear fl);(try clear a9);(try clear c21b0);(try clear c21b1);(try clear fm);(try clear fu);(try clear fv);(try clear fg);(try clear fo);(try clear fp);(try clear fq);(try clear bo bp bq b4 b5 b6);(try clear br bs bt b7 b8 b9);(try clear bu bv bw ca cb cd);(try clear bx bz b0 ce cf cg);(try clear b1 b2 b3 ch ci cj);(try clear bb bc bd be bf bg);(try clear J);(try clear X);(try clear ao);(try clear ay);(try clear ap);(try clear az)
     obtain⟨aj,ae,u224002,rfl,HA,da,HO_224002,D,G,aa,HB⟩:=hrel
     cases gk with
     |zero=>exact absurd HA.out (by simp[recoupref03_Pick.l1])
     |succ k2=>
      have H:=HA.out;clear HA;simp only[recoupref03_Pick.l1]at H;by_cases bj:aj<(l1.length:Int)
      case neg=>
       rw[if_neg bj]at H
       have c30b0:decide (aj<(l1.length:Int))=false:=decide_eq_false bj;clear bj;obtain⟨rfl,rfl,rfl,rfl⟩:=zP4 H;have ex:=au.out;have e9:=af.out;have ey:=av.out;have fa:=ag.out;obtain⟨dn,dp,dq,d7,d8,d9⟩:=cell3 aa;have ez:=ac.out;have fb:=ab.out;obtain⟨dr,dt,du,ea,eb,ec⟩:=cell3 G;obtain⟨ct,cv,df⟩:=Kd.R_slice HO_224002.out;subst df;go_wp2;refine bodyPost_ret (results_ct rfl _ _ ak 24 #[.int .i64 (l1.length:Int),.int .i64 O,.slice ct ae.length cv] (0,0) _ rfl (by refine bkR ?_;refine blk_put (cs:= #[.int .i64 (l1.length:Int),.int .i64 O,.slice none 0 0]) ?_ 2 _ rfl;refine bkR ?_;refine blk_put (cs:= #[.int .i64 (l1.length:Int),.int .i64 L,.slice none 0 0]) ?_ 1 _ rfl;refine bkR ?_;refine blk_put (cs:= #[.int .i64 U,.int .i64 L,.slice none 0 0]) ?_ 0 _ rfl;refine bkR ?_;exact G.out) Tryd.underlying24 rfl zb) rfl ?_;exact⟨_,rfE,by(with_reducible repeat(first|apply Kd.R_alloc|apply Kd.R_drewN|apply Kd.R_drew));exact Kd.R_mono (Kd.R_far (p:=⟨ak,2,none⟩) (Kd.R_far (p:=⟨ak,1,none⟩) (Kd.R_far (p:=⟨ak,0,none⟩) (Kd.R_types HO_224002.out G.out zc) (fun _ hk=>hk.2) (.int .i64 (l1.length:Int))) (fun _ hk=>hk.2) (.int .i64 O)) (fun _ hk=>hk.2) (.slice ct ae.length cv)) (fun _ hk=>trivial),hbA HB.out⟩
      rw[if_pos bj]at H
      have c30b0:decide (aj<(l1.length:Int))=true:=decide_eq_true bj;clear bj;by_cases cp:0<=aj
      case neg=>rw[if_neg cp]at H;exact absurd H zd
      rw[if_pos cp]at H
      have c31b0:decide (0<=aj)=true:=decide_eq_true cp;clear cp;obtain⟨⟨a2,ek⟩,el,H⟩:=bindO H
      (try dsimp only at H)
      by_cases cq:ae.length+a2.length<140737488355328
      case neg=>rw[if_neg cq]at H;exact absurd H zd
      rw[if_pos cq]at H
      have c3:=aK cq;clear cq;obtain⟨bh,a0⟩: ∃y_:List Int,y_=(ae++a2):=⟨_,rfl⟩
      replace H:(recoupref03_Pick.l1 k2 l1 (wrap64 (aj+1)) Y O Z (l1.length:Int) O bh)=some (r1,r2,r3,r4):=zH a0 H
      have c5:=aK a0;clear a0;have H':=aK H;clear H
      try go_wp2
      replace HO_224002:=aK (Kd.R_drew HO_224002.out);replace D:=aK (blk_drew D.out);replace G:=aK (blk_drew G.out);replace aa:=aK (blk_drew aa.out);replace HB:=aK (below_drew1 HB.out);have cl:0<=(aj:Int):=of_decide_eq_true asE;have cm:aj<(l1.length:Int):=of_decide_eq_true asE;obtain⟨c6,dc,ar⟩:=Kd.at_int bi.out aj cl cm;have aw:=ar
      cases dc
      replace ar:=(HB.out.cell (World.block_lt_of_cell? w _ ar)).trans ar;replace cl:=eq_true cl;replace cm:=eq_true cm;refine start_ (n:=11) (S:=fun w'=>w'.cell? ⟨ah,0,none⟩=some (.int .i64 Y)/\w'.cell? ⟨ah,1,none⟩=some (.int .i64 O)/\w'.cell? ⟨ah,2,none⟩=some (.slice al Z.length am)/\w'.cell? (c6.add (aj).toNat)=some (.int .i64 (rd l1 aj))) (ds:= []) (.replicate 11 false) zb rfl rfl (z3k D ((HB.out.cell (World.block_lt_of_cell? w _ aw)).trans aw)) (fun hHeld=>?_);refine with_tabW recoupref03_Pick.tab14 recoupref03_Pick.bits14 (fun HT_ HW_=>?_);generalize wr.drew=f0 at HO_224002 D G aa HB ar hHeld⊢;refine pu 1 (some 53) (mB 11 2) HT_ ?_;refine pu 2 (some 54) (mB 11 6) HT_ ?_;refine pu 3 (some 55) (mB 11 14) HT_ ?_;refine tk4 0 (some 52) (mB 11 15) HT_ HW_ hHeld ?_;refine tk4 4 (some 56) (mB 11 31) HT_ HW_ hHeld ?_;refine zoh 5 (some 57) (mB 11 63) HT_ fun K hK=>?_;refine goes_ Tryd.func21 zb rfl #[.agg #[.int .i64 Y,.int .i64 O,.slice al Z.length am],.int .i64 (rd l1 aj)] ze rfl rfl (by(try simp only[List.map_toArray,List.map_cons,List.map_nil]);first|done|rfl|(simp only[List.length_drop,List.length_take];rfl)) ?_;with_reducible refine(recoupref03_Row.calls k2 Y O _ _ Z (rd l1 aj) a2 ek _ ?side1 ?side2 el.out).mono ?_
      (case side1=>exact kcB a4 HB)
      (case side2=>exact a3.out)
      rintro e f1 ⟨fh,rfl,c8,hb⟩;refine⟨_,rfl,?_⟩;have ax:=aK (Kd.R_lower (Kd.R_new' c8 (Kd.R_lt (kdA HO_224002.out))) (below_size (hbA HB.out)));replace HO_224002:=aK (Kd.R_elder' (kdA HO_224002.out) (Kd.R_base c8) hb);replace D:=bkB D hb;replace G:=bkB G hb;replace aa:=bkB aa hb;replace HB:=hbB HB hb
      (try clear hb)
      (try clear fs)
      (try clear hk)
      (try clear hi)
      (try clear c8)
      refine hK.out _ _ (z3k D ((HB.out.cell (World.block_lt_of_cell? w _ aw)).trans aw)) (fun hHeld=>?_);clear hK K;refine znm (some 57) ?_;refine pu 6 (some 51) (mB 11 127) HT_ ?_;refine pu 7 (some 58) (mB 11 255) HT_ ?_;refine pu 8 (some 59) (mB 11 511) HT_ ?_;refine pu 9 (some 9) (mB 11 1023) HT_ ?_;refine pu 10 (some 10) (mB 11 2047) HT_ ?_;refine done_ (done_of HT_.out zb) ?_;have ev:=au.out;have e7:=af.out;have ew:=av.out;have e8:=ag.out;obtain⟨dh,di,dj,d1,d2,d3⟩:=cell3 aa;obtain⟨c9,db,dd⟩:=Kd.R_slice ax.out;subst dd
      try go_wp2_with (first|((with_reducible refine gate_builtin (b:= .append) (xs:= #[.tmp 61,.tmp 62]) rfl ?_);at_builtin;refine Kd.R_append_rows (Kd.int .u8) (w0:=w) w.heap.size rfl (.tmp 61) (.tmp 62) 22 5 (.int .u8 0) 1 rfl Tryd.underlying22 info5 rfl zc za u224002 ae a2 _ _ _ (fun k_=>some k_≠(.slice c9 a2.length db:Value).ownBlock) (fun _=>False) rfl rfl ?aO ?aR (fun _ _ h=>h) (fun _ h=>h.elim) ?aF ?aB ?aS ?aL ?_;(case aR=>exact kcA (Kd.R_reads' ax.out).2.2);(case aB=>exact(hbA HB.out));(case aF=>exact(fun k_ hk=>Kd.fresh' (Kd.R_lt (kdA ax.out)) k_ hk));(case aO=>exact(by(with_reducible repeat(first|apply Kd.R_alloc|apply Kd.R_drewN|apply Kd.R_drew));exact Kd.R_mono HO_224002.out (fun _ hk=>hk.2)));(case aS=>exact(below_size (hbA HB.out)));(case aL=>have:=c3.out;omega);intro fi f2 ho hb hg hat;rw[<-c5.out]at ho;have n0_:=aK (blk_grown (g:=ah) (o:= .cells #[.int .i64 Y,.int .i64 O,.slice al Z.length am] 24 (0,0)) (bkA D.out) hg (Kd.R_ne HO_224002.out D.out zc));have n1_:=aK (blk_grown (g:=ak) (o:= .cells #[.int .i64 U,.int .i64 L,.slice none 0 0] 24 (0,0)) (bkA G.out) hg (Kd.R_ne HO_224002.out G.out zc));have n2_:=aK (blk_grown (g:=ba) (o:= .cells #[.int .i64 (l1.length:Int),.int .i64 O,u224002] 24 (0,0)) (bkA aa.out) hg (Kd.R_ne HO_224002.out aa.out zc));have n3_:=aK (Kd.R_after (ok:=(fun _=>True)) (kdA ax.out) hg hat);have n4_:=aK (hb);have n5_:=aK (ho);clear D;clear G;clear aa;clear ax;clear HB;clear HO_224002;have D:=n0_;have G:=n1_;have aa:=n2_;have ax:=n3_;have HB:=n4_;have bk:=n5_;clear n0_ n1_ n2_ n3_ n4_ n5_;clear ho hb hg hat;obtain⟨cr,cu,de⟩:=Kd.R_slice bk.out;subst de;obtain⟨dk,dl,dm,d4,d5,d6⟩:=cell3 aa))
      go_roundg k2
      case measure=>have:=co.out;have:=da.out;omega
      case rel=>exact⟨(wrap64 (aj+1)),(bh),(.slice cr bh.length cu),rsE,H',⟨by have:=co.out;have:=da.out;omega⟩,⟨by(with_reducible repeat(first|apply Kd.R_alloc|apply Kd.R_drewN|apply Kd.R_drew));exact Kd.R_mono (Kd.R_far (p:=⟨ba,2,none⟩) (Kd.R_types bk.out aa.out zc) (fun _ hk=>hk.2) (.slice cr bh.length cu)) (fun _ hk=>trivial)⟩,⟨by refine bkR ?_;refine blk_far ?_ af.out _;refine bkR ?_;exact D.out⟩,⟨by refine bkR ?_;refine blk_far ?_ ag.out _;refine bkR ?_;exact G.out⟩,⟨by refine bkR ?_;refine blk_put (cs:= #[.int .i64 (l1.length:Int),.int .i64 O,u224002]) ?_ 2 _ rfl;refine bkR ?_;exact aa.out⟩,⟨hbA HB.out⟩⟩
   rw[if_pos a6]at H
   have c10b0:decide (I<(l1.length:Int))=true:=decide_eq_true a6;clear a6;by_cases bl:0<=I
   case neg=>rw[if_neg bl]at H;exact absurd H zd
   rw[if_pos bl]at H
   have c11b0:decide (0<=I)=true:=decide_eq_true bl;clear bl;by_cases a7:(rd l1 I)<0
   ·rw[if_pos a7]at H
    have c12b0:decide ((rd l1 I)<0)=true:=decide_eq_true a7;clear a7;obtain⟨rfl,rfl,rfl,rfl⟩:=zP4 H
    try go_wp2
    replace D:=aK (blk_drew D.out);replace G:=aK (blk_drew G.out);replace HB:=aK (below_drew1 HB.out);have ao:0<=(I:Int):=of_decide_eq_true asE;have ap:I<(l1.length:Int):=of_decide_eq_true asE;obtain⟨an,a1,J⟩:=Kd.at_int bi.out I ao ap;have ai:=J
    cases a1
    replace J:=(HB.out.cell (World.block_lt_of_cell? w _ J)).trans J;replace ao:=eq_true ao;replace ap:=eq_true ap;refine start_ (n:=14) (S:=fun w'=>w'.cell? (an.add (I).toNat)=some (.int .i64 (rd l1 I))) (ds:= []) (.replicate 14 false) zb rfl rfl (((HB.out.cell (World.block_lt_of_cell? w _ ai)).trans ai)) (fun hHeld=>?_);refine with_tabW recoupref03_Pick.tab6 recoupref03_Pick.bits6 (fun HT_ HW_=>?_);generalize wr.drew=fw at D G HB J hHeld⊢;refine pu 0 (some 21) (mB 14 1) HT_ ?_;refine pu 1 (some 22) (mB 14 3) HT_ ?_;refine pu 2 (some 23) (mB 14 7) HT_ ?_;refine tk1 3 (some 24) (mB 14 15) HT_ HW_ hHeld ?_;refine pu 4 (some 25) (mB 14 31) HT_ ?_;refine pu 5 (some 26) (mB 14 63) HT_ ?_;refine zpo 6 (some 27) (mB 14 127) HT_ ?_;refine zpo 7 (some 28) (mB 14 255) HT_ ?_;refine zpo 8 (some 29) (mB 14 511) HT_ ?_;refine zpo 9 (some 30) (mB 14 1023) HT_ ?_;refine zpo 10 (some 31) (mB 14 2047) HT_ ?_;refine zpo 11 (some 32) (mB 14 4095) HT_ ?_;refine zpo 12 (some 33) (mB 14 8191) HT_ ?_;refine pu 13 (some 34) (mB 14 16383) HT_ ?_;refine done_ (done_of HT_.out zb) ?_;have eo:=ac.out;have e1:=ab.out;obtain⟨bo,bp,bq,b4,b5,b6⟩:=cell3 G
    try go_wp2
    refine bodyPost_ret (results_ct rfl _ _ ak 24 #[.int .i64 0,.int .i64 0,.slice none 0 0] (0,0) _ rfl zaa Tryd.underlying24 rfl zb) rfl ?_;exact⟨_,rfE,nilE,hbA HB.out⟩
   rw[if_neg a7]at H
   have c12b0:decide ((rd l1 I)<0)=false:=decide_eq_false a7;clear a7;by_cases a8:(rd l1 I)>=Y
   case neg=>
    rw[if_neg a8]at H
    have c16b0:decide (Y<=(rd l1 I))=false:=decide_eq_false a8;clear a8;have H':=aK H;clear H
    try go_wp2
    replace D:=aK (blk_drew D.out);replace G:=aK (blk_drew G.out);replace HB:=aK (below_drew1 HB.out);have ao:0<=(I:Int):=of_decide_eq_true asE;have ap:I<(l1.length:Int):=of_decide_eq_true asE;obtain⟨an,a1,J⟩:=Kd.at_int bi.out I ao ap;have ai:=J
    cases a1
    replace J:=(HB.out.cell (World.block_lt_of_cell? w _ J)).trans J;replace ao:=eq_true ao;replace ap:=eq_true ap;have ay:0<=(I:Int):=of_decide_eq_true asE;have az:I<(l1.length:Int):=of_decide_eq_true asE;obtain⟨a5,bm,X⟩:=Kd.at_int bi.out I ay az;have aq:=X;obtain rfl:an=a5:=(by injection bm)
    replace X:=(HB.out.cell (World.block_lt_of_cell? w _ X)).trans X;replace ay:=eq_true ay;replace az:=eq_true az;refine start_ (n:=14) (S:=fun w'=>w'.cell? ⟨ah,0,none⟩=some (.int .i64 Y)/\w'.cell? ⟨ah,1,none⟩=some (.int .i64 O)/\w'.cell? ⟨ah,2,none⟩=some (.slice al Z.length am)/\w'.cell? (an.add (I).toNat)=some (.int .i64 (rd l1 I))/\w'.cell? (an.add (I).toNat)=some (.int .i64 (rd l1 I))) (ds:= []) (.replicate 14 false) zb rfl rfl (z3k D ⟨((HB.out.cell (World.block_lt_of_cell? w _ ai)).trans ai),((HB.out.cell (World.block_lt_of_cell? w _ aq)).trans aq)⟩) (fun hHeld=>?_);refine with_tabW recoupref03_Pick.tab6 recoupref03_Pick.bits6 (fun HT_ HW_=>?_);generalize wr.drew=fy at D G HB J X hHeld⊢;refine pu 0 (some 21) (mB 14 1) HT_ ?_;refine pu 1 (some 22) (mB 14 3) HT_ ?_;refine pu 2 (some 23) (mB 14 7) HT_ ?_;refine tk5 3 (some 24) (mB 14 15) HT_ HW_ hHeld ?_;refine pu 4 (some 25) (mB 14 31) HT_ ?_;refine pu 5 (some 26) (mB 14 63) HT_ ?_;refine pu 6 (some 27) (mB 14 127) HT_ ?_;refine pu 7 (some 28) (mB 14 255) HT_ ?_;refine pu 8 (some 29) (mB 14 511) HT_ ?_;refine pu 10 (some 31) (mB 14 1535) HT_ ?_;refine tk5 9 (some 30) (mB 14 2047) HT_ HW_ hHeld ?_;refine tk5 11 (some 32) (mB 14 4095) HT_ HW_ hHeld ?_;refine pu 12 (some 33) (mB 14 8191) HT_ ?_;refine pu 13 (some 34) (mB 14 16383) HT_ ?_;refine done_ (done_of HT_.out zb) ?_
    try go_wp2
    go_roundg k1
    case measure=>have:=co.out;omega
    case rel=>exact⟨(wrap64 (I+1)),(U),(L),rsE,H',⟨by have:=co.out;omega⟩,⟨bkA D.out⟩,⟨bkA G.out⟩,⟨hbA HB.out⟩⟩
   rw[if_pos a8]at H
   have c16b0:decide (Y<=(rd l1 I))=true:=decide_eq_true a8;clear a8;obtain⟨rfl,rfl,rfl,rfl⟩:=zP4 H
   try go_wp2
   replace D:=aK (blk_drew D.out);replace G:=aK (blk_drew G.out);replace HB:=aK (below_drew1 HB.out);have ao:0<=(I:Int):=of_decide_eq_true asE;have ap:I<(l1.length:Int):=of_decide_eq_true asE;obtain⟨an,a1,J⟩:=Kd.at_int bi.out I ao ap;have ai:=J
   cases a1
   replace J:=(HB.out.cell (World.block_lt_of_cell? w _ J)).trans J;replace ao:=eq_true ao;replace ap:=eq_true ap;have ay:0<=(I:Int):=of_decide_eq_true asE;have az:I<(l1.length:Int):=of_decide_eq_true asE;obtain⟨a5,bm,X⟩:=Kd.at_int bi.out I ay az;have aq:=X;obtain rfl:an=a5:=(by injection bm)
   replace X:=(HB.out.cell (World.block_lt_of_cell? w _ X)).trans X;replace ay:=eq_true ay;replace az:=eq_true az;refine start_ (n:=14) (S:=fun w'=>w'.cell? ⟨ah,0,none⟩=some (.int .i64 Y)/\w'.cell? ⟨ah,1,none⟩=some (.int .i64 O)/\w'.cell? ⟨ah,2,none⟩=some (.slice al Z.length am)/\w'.cell? (an.add (I).toNat)=some (.int .i64 (rd l1 I))/\w'.cell? (an.add (I).toNat)=some (.int .i64 (rd l1 I))) (ds:= []) (.replicate 14 false) zb rfl rfl (z3k D ⟨((HB.out.cell (World.block_lt_of_cell? w _ ai)).trans ai),((HB.out.cell (World.block_lt_of_cell? w _ aq)).trans aq)⟩) (fun hHeld=>?_);refine with_tabW recoupref03_Pick.tab6 recoupref03_Pick.bits6 (fun HT_ HW_=>?_);generalize wr.drew=fx at D G HB J X hHeld⊢;refine pu 0 (some 21) (mB 14 1) HT_ ?_;refine pu 1 (some 22) (mB 14 3) HT_ ?_;refine pu 2 (some 23) (mB 14 7) HT_ ?_;refine tk5 3 (some 24) (mB 14 15) HT_ HW_ hHeld ?_;refine pu 4 (some 25) (mB 14 31) HT_ ?_;refine pu 5 (some 26) (mB 14 63) HT_ ?_;refine pu 6 (some 27) (mB 14 127) HT_ ?_;refine pu 7 (some 28) (mB 14 255) HT_ ?_;refine pu 8 (some 29) (mB 14 511) HT_ ?_;refine pu 10 (some 31) (mB 14 1535) HT_ ?_;refine tk5 9 (some 30) (mB 14 2047) HT_ HW_ hHeld ?_;refine tk5 11 (some 32) (mB 14 4095) HT_ HW_ hHeld ?_;refine pu 12 (some 33) (mB 14 8191) HT_ ?_;refine pu 13 (some 34) (mB 14 16383) HT_ ?_;refine done_ (done_of HT_.out zb) ?_;have ep:=ac.out;have e2:=ab.out;obtain⟨br,bs,bt,b7,b8,b9⟩:=cell3 G
   try go_wp2
   refine bodyPost_ret (results_ct rfl _ _ ak 24 #[.int .i64 0,.int .i64 0,.slice none 0 0] (0,0) _ rfl zaa Tryd.underlying24 rfl zb) rfl ?_;exact⟨_,rfE,nilE,hbA HB.out⟩
def recoupref01_Copy.f(l0:List Int):Option (List Int):=(some (([]:List Int):List Int)).bind fun D=>(if D.length+l0.length<140737488355328 then(some (D++l0))else(none))
theorem recoupref01_Copy.calls(A0:Option Addr)(c0:Nat)(l0:List Int)(r:List Int)(w:World)(aa:Kd.C (Kd.int .u8) w A0 l0.length l0)(Z:l0.length<=c0)(h:recoupref01_Copy.f l0=some r):
 Calls Tryd.prog 51 #[.slice A0 l0.length c0] w fun e w'=> ∃v0_:Value,e= .returned (v0_)/\Kd.R (Kd.int .u8) 5 w' w.heap.size (fun _=>True) v0_ r/\Below w.heap.size w w':=by
 have ae:=aK aa;have ag:=aK Z;clear aa Z;have HB:=aK (Below.refl w.heap.size w);have H:((some (([]:List Int):List Int)).bind fun D=>(if D.length+l0.length<140737488355328 then(some (D++l0))else(none)))=some r:=h;clear h;obtain⟨D,G⟩: ∃y_:List Int,y_=(([]:List Int)):=⟨_,rfl⟩
 replace H:(if D.length+l0.length<140737488355328 then(some (D++l0))else(none))=some r:=zH G H
 have L:=aK G;clear G;by_cases c2:D.length+l0.length<140737488355328
 ·rw[if_pos c2]at H
  have Y:=aK c2;clear c2;obtain⟨ac,I⟩: ∃y_:List Int,y_=(D++l0):=⟨_,rfl⟩
  replace H:(some ac)=some r:=zH I H
  have X:=aK I;clear I;obtain rfl:=Option.some.inj H
  go_enter Tryd.func51,Tryd.ntmps51
  go_wp2_with (first|((with_reducible refine gate_dst (N:=3) rfl ?_);refine Kd.R_lit (Kd.int .u8) _ 5 ?hg (N:=3) ?hd (xs:=([]:List Int)) (inner:= []) (ok:=fun _=>True) (okp:=fun _=>True) ?hr ?hp (fun _ hk=>hk) trivial (Below.refl _ _) (Nat.le_refl _) zd ?_;(case hd=>rfl);(case hg=>rfl);(case hr=>first|(go_simp;done)|(go_simp;rfl));(case hp=>exact(Reps.none _ _));intro ab w3 O hb hg_ hnew_;clear hg_ hnew_;(first|rw[<-L.out]at O|(simp only[Int.reduceToNat]at O;rw[<-L.out]at O));have J:=aK (Kd.R_lower O (below_size (hbA HB.out)));replace HB:=hbB HB hb;clear hb O)|((with_reducible refine gate_builtin (b:= .append) (xs:= #[.tmp 3,.tmp 4]) rfl ?_);at_builtin;refine Kd.R_append_rows (Kd.int .u8) (w0:=w) w.heap.size rfl (.tmp 3) (.tmp 4) 22 5 (.int .u8 0) 1 rfl Tryd.underlying22 info5 rfl zc za ab D l0 _ _ _ (fun _=>True) (fun _=>False) rfl rfl ?aO ?aR (fun _ _ h=>h) (fun _ h=>h.elim) ?aF ?aB ?aS ?aL ?_;(case aR=>exact kcB ae HB);(case aB=>exact(hbA HB.out));(case aF=>exact(fun _ _=>trivial));(case aO=>exact(kdA J.out));(case aS=>exact(below_size (hbA HB.out)));(case aL=>have:=Y.out;omega);intro af w5 ho hb hg hat;rw[<-X.out]at ho;have n0_:=aK (hb);have n1_:=aK (ho);clear HB;clear J;have HB:=n0_;have U:=n1_;clear n0_ n1_;clear ho hb hg hat))
  go_ret
  exact⟨_,rfE,by(with_reducible repeat(first|apply Kd.R_alloc|apply Kd.R_drewN|apply Kd.R_drew));exact U.out,hbA HB.out⟩
 ·rw[if_neg c2]at H
  exact absurd H zd
def recoupref03_Copy.f(D:Int)(G:Int)(I:List Int):Option (Int×Int×List Int):=(recoupref01_Copy.f I).bind fun J=>(some (D,G,J))
theorem recoupref03_Copy.calls(I:Int)(O:Int)(Z:Option Addr)(aa:Nat)(G:List Int)(r1:Int)(r2:Int)(r3:List Int)(w:World)(ae:Kd.C (Kd.int .u8) w Z G.length G)(ac:G.length<=aa)(h:recoupref03_Copy.f I O G=some (r1,r2,r3)):
 Calls Tryd.prog 24 #[.agg #[.int .i64 I,.int .i64 O,.slice Z G.length aa]] w fun e w'=> ∃v2_:Value,e= .returned (.agg #[.int .i64 r1,.int .i64 r2,v2_])/\Kd.R (Kd.int .u8) 5 w' w.heap.size (fun _=>True) v2_ r3/\Below w.heap.size w w':=by
 have bc:=Tryd.underlying24;have ah:=aK ae;have ag:=aK ac;clear ae ac;have HB:=aK (Below.refl w.heap.size w);have H:((recoupref01_Copy.f G).bind fun U=>(some (I,O,U)))=some (r1,r2,r3):=h;clear h;obtain⟨U,A2,H⟩:=bindO H
 (try dsimp only at H)
 obtain⟨rfl,rfl,rfl⟩:=zP3 H
 go_enter Tryd.func24,Tryd.ntmps24
 go_wp2_with (first|((with_reducible refine gD 1 rfl ?_);refine bE 1 #[.int .i64 I,.int .i64 O,.slice Z G.length aa] 24 ?_;intro aj hg w3 hbox hb;have D:=aK (hbox);have a7:=hbS HB hg;have a5:=hbS HB hg;replace HB:=hbB HB hb;clear hb hbox hg)|((with_reducible refine gD 2 rfl ?_);refine bE 2 #[.int .i64 0,.int .i64 0,.slice none 0 0] 24 ?_;intro X hg w4 hbox hb;have J:=aK (hbox);have a8:=hbS HB hg;have a6:=hbS HB hg;replace HB:=hbB HB hb;have Y:=neL D hg;have L:=neG D hg;replace D:=bkB D hb;clear hb hbox hg;have ba:=Y.out;have bb:=L.out;obtain⟨ar,au,av,az,a0,a1⟩:=cell3 D)|((with_reducible refine gC 51 rfl ?_);refine cG (some 5) Tryd.func51 #[.slice Z G.length aa] ?_;(with_reducible refine(recoupref01_Copy.calls _ _ G U _ ?side1 ?side2 A2.out).mono ?_);(case side1=>exact kcB ah HB);(case side2=>exact ag.out);rintro e w7 ⟨bd,rfl,aq,hb⟩;refine⟨_,rfl,?_⟩;have ab:=aK (Kd.R_lower aq (below_size (hbA HB.out)));replace D:=bkB D hb;replace J:=bkB J hb;replace HB:=hbB HB hb;(try clear hb);(try clear aq);obtain⟨af,ai,a9⟩:=Kd.R_slice ab.out;subst a9;obtain⟨aw,ax,ay,a2,a3,a4⟩:=cell3 D;obtain⟨ak,al,am,an,ao,ap⟩:=cell3 J))
 refine bodyPost_ret (results_cell_row rfl _ _ X 24 #[.int .i64 I,.int .i64 O,.slice af U.length ai] (0,0) _ rfl (by refine bkR ?_;refine blk_put (cs:= #[.int .i64 I,.int .i64 O,.slice none 0 0]) ?_ 2 _ rfl;refine bkR ?_;refine blk_put (cs:= #[.int .i64 I,.int .i64 0,.slice none 0 0]) ?_ 1 _ rfl;refine bkR ?_;refine blk_put (cs:= #[.int .i64 0,.int .i64 0,.slice none 0 0]) ?_ 0 _ rfl;refine bkR ?_;refine blk_far ?_ L.out _;refine bkR ?_;exact J.out) Tryd.underlying24 rfl zb) rfl ?_;exact⟨_,rfE,by(with_reducible repeat(first|apply Kd.R_alloc|apply Kd.R_drewN|apply Kd.R_drew));exact Kd.R_mono (Kd.R_far (p:=⟨X,2,none⟩) (Kd.R_far (p:=⟨X,1,none⟩) (Kd.R_far (p:=⟨X,0,none⟩) (Kd.R_far (p:=⟨aj,2,none⟩) (Kd.R_types (Kd.R_types ab.out D.out zc) J.out zc) (fun _ hk=>hk.1.2) (.slice af U.length ai)) (fun _ hk=>hk.2) (.int .i64 I)) (fun _ hk=>hk.2) (.int .i64 O)) (fun _ hk=>hk.2) (.slice af U.length ai)) (fun _ hk=>trivial),hbA HB.out⟩
mutual
def recoupref01_Mul.l0:Nat->Int->Int->Int->Int->Option (Int)
 |0,_,_,_,_=>none
 |k+1,x0,x1,x5,x6=>if x6<8 then(if 0<=(IntKind.u64.wrap (x6))then(if(Go.bits .and .u8 (shr .u8 x1 (IntKind.u64.wrap (x6))) 1)=1 then(recoupref01_Mul.l0 k x0 x1 (Go.bits .xor .i64 x5 (shl .i64 (wrap64 (x0)) (IntKind.u64.wrap (x6)))) (wrap64 (x6+1)))else(recoupref01_Mul.l0 k x0 x1 x5 (wrap64 (x6+1))))else(none))else(recoupref01_Mul.l1 k x5 14)
def recoupref01_Mul.l1:Nat->Int->Int->Option (Int)
 |0,_,_=>none
 |k+1,x5,x7=>if x7>=8 then(if 0<=(IntKind.u64.wrap (x7))then(if(Go.bits .and .i64 (shr .i64 x5 (IntKind.u64.wrap (x7))) 1)=1 then(if 0<=(IntKind.u64.wrap (wrap64 (x7-8)))then(recoupref01_Mul.l1 k (Go.bits .xor .i64 x5 (shl .i64 285 (IntKind.u64.wrap (wrap64 (x7-8))))) (wrap64 (x7-1)))else(none))else(recoupref01_Mul.l1 k x5 (wrap64 (x7-1))))else(none))else(some ((x5) % 256))
end
def recoupref01_Mul.f(k:Nat)(a0:Int)(a1:Int):Option (Int):=recoupref01_Mul.l0 k a0 a1 0 0
theorem recoupref01_Mul.calls(k:Nat)(a0:Int)(a1:Int)(r:Int)(w:World)(h:recoupref01_Mul.f k a0 a1=some r):
 Calls Tryd.prog 78 #[.int .u8 a0,.int .u8 a1] w fun e w'=>e= .returned (.int .u8 r)/\Drawn0 w w':=by
 have H:(recoupref01_Mul.l0 k a0 a1 0 0)=some r:=h;clear h;have H':=aK H;clear H
 go_enter Tryd.func78,Tryd.ntmps78
 go_wp2
 go_loopg [5,6] k (fun kq v5 v6 w'=> ∃(O:Int) (I:Int),v5= .int .i64 O/\v6= .int .i64 I/\Aside0 (recoupref01_Mul.l0 kq a0 a1 O I=some r)/\Aside0 (kq<=k)/\Drawn0 w w')
 case atStart=>exact⟨(0),(0),rsE,rsE,H',⟨Nat.le_refl _⟩,by repeat(first|exact Drawn0.refl _|apply Drawn0.step)⟩
 case round=>
  clear H'
  (try clear p2)
  obtain⟨O,I,rfl,rfl,HA,ab,⟨m1,rfl⟩⟩:=hrel
  cases gk with
  |zero=>exact absurd HA.out (by simp[recoupref01_Mul.l0])
  |succ k1=>
   have H:=HA.out;clear HA;simp only[recoupref01_Mul.l0]at H;by_cases c3:I<8
   ·rw[if_pos c3]at H
    have c3b0:decide (I<8)=true:=decide_eq_true c3;clear c3;obtain⟨J,ao⟩: ∃j_:Int,(IntKind.u64.wrap (I))=j_:=⟨_,rfl⟩
    replace H:(if 0<=(J)then(if(Go.bits .and .u8 (shr .u8 a1 (J)) 1)=1 then(recoupref01_Mul.l0 k1 a0 a1 (Go.bits .xor .i64 O (shl .i64 (wrap64 (a0)) (J))) (wrap64 (I+1)))else(recoupref01_Mul.l0 k1 a0 a1 O (wrap64 (I+1))))else(none))=some r:=by first|(rw[ao]at H;exact H)|(simp only[ao]at H⊢;exact H)
    by_cases c5:0<=(J)
    case neg=>rw[if_neg c5]at H;exact absurd H zd
    rw[if_pos c5]at H
    have c5b0:=eq_true c5;have c5b1:decide (0<=(J))=true:=decide_eq_true c5;clear c5;obtain⟨ae,ag⟩: ∃j_:Int,(shr .u8 a1 (J))=j_:=⟨_,rfl⟩
    replace H:(if(Go.bits .and .u8 (ae) 1)=1 then(recoupref01_Mul.l0 k1 a0 a1 (Go.bits .xor .i64 O (shl .i64 (wrap64 (a0)) (J))) (wrap64 (I+1)))else(recoupref01_Mul.l0 k1 a0 a1 O (wrap64 (I+1))))=some r:=by first|(rw[ag]at H;exact H)|(simp only[ag]at H⊢;exact H)
    have hji6_:(a1 / 2^min (J).toNat 8)=ae:=ag;have hji6z:(J)<=8->(a1 / 2^(J).toNat)=ae:=shr_small ag;by_cases c7:(Go.bits .and .u8 (ae) 1)=1
    case neg=>
     rw[if_neg c7]at H
     have c7b0:((Go.bits .and .u8 (ae) 1)==1)=false:=beq_eq_false_iff_ne.mpr c7;have c7b1:((Go.bits .and .u8 (ae) 1)!=1)=true:=bne_iff_ne.mpr c7;have H':=aK H;clear H;go_wp2
     go_roundg k1
     case measure=>have:=ab.out;omega
     case rel=>exact⟨(O),(wrap64 (I+1)),rsE,rsE,H',⟨by have:=ab.out;omega⟩,by repeat(first|exact Drawn0.refl _|apply Drawn0.step)⟩
    rw[if_pos c7]at H
    have c7b0:((Go.bits .and .u8 (ae) 1)==1)=true:=beq_iff_eq.mpr c7;have c7b1:((Go.bits .and .u8 (ae) 1)!=1)=false:=bne_eq_false_iff_eq.mpr c7;clear c7;have c8b0:=eq_true (of_decide_eq_true asE:0<=(J));obtain⟨ai,ac⟩: ∃j_:Int,(shl .i64 (wrap64 (a0)) (J))=j_:=⟨_,rfl⟩
    replace H:(recoupref01_Mul.l0 k1 a0 a1 (Go.bits .xor .i64 O (ai)) (wrap64 (I+1)))=some r:=by first|(rw[ac]at H;exact H)|(simp only[ac]at H⊢;exact H)
    have hji9_:(IntKind.i64.wrap ((wrap64 (a0))*2^min (J).toNat 64))=ai:=ac;have hji9z:(J)<=64->(IntKind.i64.wrap ((wrap64 (a0))*2^(J).toNat))=ai:=shl_small ac;have hji9y:(wrap64 ((wrap64 (a0))*2^min (J).toNat 64))=ai:=(i64_w _).symm.trans hji9_;have hji9x:(J)<=64->(wrap64 ((wrap64 (a0))*2^(J).toNat))=ai:=fun h_=>(i64_w _).symm.trans (hji9z h_);have H':=aK H;clear H;go_wp2
    go_roundg k1
    case measure=>have:=ab.out;omega
    case rel=>exact⟨(Go.bits .xor .i64 O (ai)),(wrap64 (I+1)),(by first|rfl|(simp;done)|(simp only[<-ac]<;>(first|rfl|simp))|(simp[*];done)),rsE,H',⟨by have:=ab.out;omega⟩,by repeat(first|exact Drawn0.refl _|apply Drawn0.step)⟩
   rw[if_neg c3]at H
   have c3b0:decide (I<8)=false:=decide_eq_false c3;clear c3;have H':=aK H;clear H;go_wp2
   go_loopg [5,7] k1 (fun kq v5 v7 w'=> ∃(G:Int) (D:Int),v5= .int .i64 G/\v7= .int .i64 D/\Aside0 (recoupref01_Mul.l1 kq G D=some r)/\Aside0 (kq<=k1)/\Drawn0 w w')
   case atStart=>exact⟨(O),(14),rsE,rsE,H',⟨Nat.le_refl _⟩,by repeat(first|exact Drawn0.refl _|apply Drawn0.step)⟩
   case round=>
    clear H'
    (try clear p2 p2);(try clear c3);(try clear c3b0);(try clear c5);(try clear c5b0);(try clear c5b1);(try clear p6);(try clear c7);(try clear c7b0);(try clear c7b1);(try clear c8);(try clear c8b0)
    obtain⟨G,D,rfl,rfl,HA,an,⟨m2,rfl⟩⟩:=hrel
    cases gk with
    |zero=>exact absurd HA.out (by simp[recoupref01_Mul.l1])
    |succ k2=>
     have H:=HA.out;clear HA;simp only[recoupref01_Mul.l1]at H;by_cases ah:D>=8
     case neg=>
      rw[if_neg ah]at H
      have c10b0:decide (8<=D)=false:=decide_eq_false ah;clear ah;obtain rfl:=Option.some.inj H;go_wp2
      go_ret
      exact zD
     rw[if_pos ah]at H
     have c10b0:decide (8<=D)=true:=decide_eq_true ah;clear ah;obtain⟨U,al⟩: ∃j_:Int,(IntKind.u64.wrap (D))=j_:=⟨_,rfl⟩
     replace H:(if 0<=(U)then(if(Go.bits .and .i64 (shr .i64 G (U)) 1)=1 then(if 0<=(IntKind.u64.wrap (wrap64 (D-8)))then(recoupref01_Mul.l1 k2 (Go.bits .xor .i64 G (shl .i64 285 (IntKind.u64.wrap (wrap64 (D-8))))) (wrap64 (D-1)))else(none))else(recoupref01_Mul.l1 k2 G (wrap64 (D-1))))else(none))=some r:=by first|(rw[al]at H;exact H)|(simp only[al]at H⊢;exact H)
     by_cases aj:0<=(U)
     case neg=>rw[if_neg aj]at H;exact absurd H zd
     rw[if_pos aj]at H
     have c12b0:=eq_true aj;have c12b1:decide (0<=(U))=true:=decide_eq_true aj;clear aj;obtain⟨X,aa⟩: ∃j_:Int,(shr .i64 G (U))=j_:=⟨_,rfl⟩
     replace H:(if(Go.bits .and .i64 (X) 1)=1 then(if 0<=(IntKind.u64.wrap (wrap64 (D-8)))then(recoupref01_Mul.l1 k2 (Go.bits .xor .i64 G (shl .i64 285 (IntKind.u64.wrap (wrap64 (D-8))))) (wrap64 (D-1)))else(none))else(recoupref01_Mul.l1 k2 G (wrap64 (D-1))))=some r:=by first|(rw[aa]at H;exact H)|(simp only[aa]at H⊢;exact H)
     have hji13_:(G / 2^min (U).toNat 64)=X:=aa;have hji13z:(U)<=64->(G / 2^(U).toNat)=X:=shr_small aa;by_cases af:(Go.bits .and .i64 (X) 1)=1
     case neg=>
      rw[if_neg af]at H
      have c14b0:((Go.bits .and .i64 (X) 1)==1)=false:=beq_eq_false_iff_ne.mpr af;have c14b1:((Go.bits .and .i64 (X) 1)!=1)=true:=bne_iff_ne.mpr af;have H':=aK H;clear H;go_wp2
      go_roundg k2
      case measure=>have:=ab.out;have:=an.out;omega
      case rel=>exact⟨(G),(wrap64 (D-1)),rsE,rsE,H',⟨by have:=ab.out;have:=an.out;omega⟩,by repeat(first|exact Drawn0.refl _|apply Drawn0.step)⟩
     rw[if_pos af]at H
     have c14b0:((Go.bits .and .i64 (X) 1)==1)=true:=beq_iff_eq.mpr af;have c14b1:((Go.bits .and .i64 (X) 1)!=1)=false:=bne_eq_false_iff_eq.mpr af;clear af;obtain⟨L,am⟩: ∃j_:Int,(IntKind.u64.wrap (wrap64 (D-8)))=j_:=⟨_,rfl⟩
     replace H:(if 0<=(L)then(recoupref01_Mul.l1 k2 (Go.bits .xor .i64 G (shl .i64 285 (L))) (wrap64 (D-1)))else(none))=some r:=by first|(rw[am]at H;exact H)|(simp only[am]at H⊢;exact H)
     by_cases ak:0<=(L)
     case neg=>rw[if_neg ak]at H;exact absurd H zd
     rw[if_pos ak]at H
     have c16b0:=eq_true ak;have c16b1:decide (0<=(L))=true:=decide_eq_true ak;clear ak;obtain⟨Z,Y⟩: ∃j_:Int,(shl .i64 285 (L))=j_:=⟨_,rfl⟩
     replace H:(recoupref01_Mul.l1 k2 (Go.bits .xor .i64 G (Z)) (wrap64 (D-1)))=some r:=by first|(rw[Y]at H;exact H)|(simp only[Y]at H⊢;exact H)
     have hji17_:(IntKind.i64.wrap (285*2^min (L).toNat 64))=Z:=Y;have hji17z:(L)<=64->(IntKind.i64.wrap (285*2^(L).toNat))=Z:=shl_small Y;have hji17y:(wrap64 (285*2^min (L).toNat 64))=Z:=(i64_w _).symm.trans hji17_;have hji17x:(L)<=64->(wrap64 (285*2^(L).toNat))=Z:=fun h_=>(i64_w _).symm.trans (hji17z h_);have H':=aK H;clear H;go_wp2
     go_roundg k2
     case measure=>have:=ab.out;have:=an.out;omega
     case rel=>exact⟨(Go.bits .xor .i64 G (Z)),(wrap64 (D-1)),(by first|rfl|(simp;done)|(simp only[<-Y]<;>(first|rfl|simp))|(simp[*];done)),rsE,H',⟨by have:=ab.out;have:=an.out;omega⟩,by repeat(first|exact Drawn0.refl _|apply Drawn0.step)⟩
def recoupref01_Inv.l0:Nat->Int->Int->Option (Int×Int)
 |0,_,_=>none
 |k+1,x0,x4=>if x4<256 then((recoupref01_Mul.f k x0 ((x4) % 256)).bind fun D=>(if D=1 then(some ((x4) % 256,0))else(recoupref01_Inv.l0 k x0 (wrap64 (x4+1)))))else(some (0,5))
def recoupref01_Inv.f(k:Nat)(a0:Int):Option (Int×Int):=recoupref01_Inv.l0 k a0 1
theorem recoupref01_Inv.calls(k:Nat)(a0:Int)(r1:Int)(r2:Int)(w:World)(h:recoupref01_Inv.f k a0=some (r1,r2)):
 Calls Tryd.prog 113 #[.int .u8 a0] w fun e w'=>e= .returned (.tuple #[.int .u8 r1,.int .i64 r2])/\Drawn0 w w':=by
 have H:(recoupref01_Inv.l0 k a0 1)=some (r1,r2):=h;clear h;have H':=aK H;clear H
 go_enter Tryd.func113,Tryd.ntmps113
 go_wp2
 go_loopg [4] k (fun kq v4 w'=> ∃(D:Int),v4= .int .i64 D/\Aside0 (recoupref01_Inv.l0 kq a0 D=some (r1,r2))/\Aside0 (kq<=k)/\Drawn0 w w')
 case atStart=>exact⟨(1),rsE,H',⟨Nat.le_refl _⟩,by repeat(first|exact Drawn0.refl _|apply Drawn0.step)⟩
 case round=>
  clear H'
  (try clear c1)
  obtain⟨D,rfl,HA,I,⟨m1,rfl⟩⟩:=hrel
  cases gk with
  |zero=>exact absurd HA.out (by simp[recoupref01_Inv.l0])
  |succ k1=>
   have H:=HA.out;clear HA;simp only[recoupref01_Inv.l0]at H;by_cases c2:D<256
   case neg=>
    rw[if_neg c2]at H
    have c2b0:decide (D<256)=false:=decide_eq_false c2;clear c2;obtain⟨rfl,rfl⟩:=zP2 H;go_wp2
    go_ret2
    exact zD
   rw[if_pos c2]at H
   have c2b0:decide (D<256)=true:=decide_eq_true c2;clear c2;obtain⟨G,A3,H⟩:=bindO H
   (try dsimp only at H)
   by_cases c4:G=1
   case neg=>
    rw[if_neg c4]at H
    have c4b0:(G==1)=false:=beq_eq_false_iff_ne.mpr c4;have c4b1:(G !=1)=true:=bne_iff_ne.mpr c4;have H':=aK H;clear H
    go_wp2_with (first|((with_reducible refine gC 78 rfl ?_);refine cG (some 12) Tryd.func78 #[.int .u8 a0,.int .u8 ((D) % 256)] ?_;(with_reducible refine(recoupref01_Mul.calls k1 a0 ((D) % 256) G _ A3.out).mono ?_);rintro e w' ⟨rfl,⟨nd,rfl⟩⟩;refine⟨_,rfl,?_⟩))
    go_roundg k1
    case measure=>have:=I.out;omega
    case rel=>exact⟨(wrap64 (D+1)),rsE,H',⟨by have:=I.out;omega⟩,by repeat(first|exact Drawn0.refl _|apply Drawn0.step)⟩
   rw[if_pos c4]at H
   have c4b0:(G==1)=true:=beq_iff_eq.mpr c4;have c4b1:(G !=1)=false:=bne_eq_false_iff_eq.mpr c4;clear c4;obtain⟨rfl,rfl⟩:=zP2 H
   go_wp2_with (first|((with_reducible refine gC 78 rfl ?_);refine cG (some 12) Tryd.func78 #[.int .u8 a0,.int .u8 ((D) % 256)] ?_;(with_reducible refine(recoupref01_Mul.calls k1 a0 ((D) % 256) G _ A3.out).mono ?_);rintro e w' ⟨rfl,⟨nd,rfl⟩⟩;refine⟨_,rfl,?_⟩))
   go_ret2
   exact zD
def recoupref01_Scale.l0:Nat->Int->List Int->List Int->Int->Option (List Int)
 |0,_,_,_,_=>none
 |k+1,x0,x1,x5,x6=>if x6<(x1.length:Int)then(if 0<=x6 then((recoupref01_Mul.f k x0 (rd x1 x6)).bind fun D=>(if x5.length<140737488355328 then(recoupref01_Scale.l0 k x0 x1 (x5++ [D]) (wrap64 (x6+1)))else(none)))else(none))else(some x5)
def recoupref01_Scale.f(k:Nat)(a0:Int)(l1:List Int):Option (List Int):=recoupref01_Scale.l0 k a0 l1 ([]:List Int) 0
theorem recoupref01_Scale.calls(k:Nat)(a0:Int)(A1:Option Addr)(c1:Nat)(l1:List Int)(r:List Int)(w:World)(af:Kd.C (Kd.int .u8) w A1 l1.length l1)(ae:l1.length<=c1)(h:recoupref01_Scale.f k a0 l1=some r):
 Calls Tryd.prog 114 #[.int .u8 a0,.slice A1 l1.length c1] w fun e w'=> ∃v0_:Value,e= .returned (v0_)/\Kd.R (Kd.int .u8) 5 w' w.heap.size (fun _=>True) v0_ r/\Below w.heap.size w w':=by
 have ag:=aK af;have aj:=aK ae;clear af ae;have HB:=aK (Below.refl w.heap.size w);have H:(recoupref01_Scale.l0 k a0 l1 ([]:List Int) 0)=some r:=h;clear h;have H':=aK H;clear H
 go_enter Tryd.func114,Tryd.ntmps114
 go_wp2
 go_loopg [5,6] k (fun kq v5 v6 w'=> ∃(J:List Int) (D:Int),v6= .int .i64 D/\Aside0 (recoupref01_Scale.l0 kq a0 l1 J D=some r)/\Aside0 (kq<=k)/\Aside0 (Kd.R (Kd.int .u8) 5 w' w.heap.size (fun _=>True) v5 J)/\Aside0 (Below w.heap.size w w'))
 case atStart=>exact⟨(([]:List Int)),(0),rsE,H',⟨Nat.le_refl _⟩,⟨nilE⟩,⟨hbA HB.out⟩⟩
 case round=>
  clear H'
  (try clear c1);(try clear p2)
  obtain⟨J,D,rfl,HA,aa,HO_5,HB⟩:=hrel
  cases gk with
  |zero=>exact absurd HA.out (by simp[recoupref01_Scale.l0])
  |succ k1=>
   have H:=HA.out;clear HA;simp only[recoupref01_Scale.l0]at H;by_cases c3:D<(l1.length:Int)
   case neg=>
    rw[if_neg c3]at H
    have c3b0:decide (D<(l1.length:Int))=false:=decide_eq_false c3;clear c3;obtain rfl:=Option.some.inj H;go_wp2
    go_ret
    exact⟨_,rfE,by(with_reducible repeat(first|apply Kd.R_alloc|apply Kd.R_drewN|apply Kd.R_drew));exact HO_5.out,hbA HB.out⟩
   rw[if_pos c3]at H
   have c3b0:decide (D<(l1.length:Int))=true:=decide_eq_true c3;clear c3;by_cases c4:0<=D
   case neg=>rw[if_neg c4]at H;exact absurd H zd
   rw[if_pos c4]at H
   have c4b0:decide (0<=D)=true:=decide_eq_true c4;clear c4;obtain⟨L,A5,H⟩:=bindO H
   (try dsimp only at H)
   by_cases c6:J.length<140737488355328
   case neg=>rw[if_neg c6]at H;exact absurd H zd
   rw[if_pos c6]at H
   have ab:=aK c6;clear c6;obtain⟨X,I⟩: ∃y_:List Int,y_=(J++ [L]):=⟨_,rfl⟩
   replace H:(recoupref01_Scale.l0 k1 a0 l1 X (wrap64 (D+1)))=some r:=zH I H
   have Z:=aK I;clear I;have H':=aK H;clear H;have O:0<=(D:Int):=of_decide_eq_true asE;have U:D<(l1.length:Int):=of_decide_eq_true asE;obtain⟨ah,ac,G⟩:=Kd.at_int ag.out D O U
   cases ac
   replace G:=(HB.out.cell (World.block_lt_of_cell? w _ G)).trans G;replace O:=eq_true O;replace U:=eq_true U
   go_wp2_with (first|((with_reducible refine gC 78 rfl ?_);refine cG (some 19) Tryd.func78 #[.int .u8 a0,.int .u8 (rd l1 D)] ?_;(with_reducible refine(recoupref01_Mul.calls k1 a0 (rd l1 D) L _ A5.out).mono ?_);rintro e w' ⟨rfl,⟨nd,rfl⟩⟩;refine⟨_,rfl,?_⟩)|((with_reducible refine gate_builtin (b:= .append) (xs:= #[.tmp 13,.tmp 20]) rfl ?_);at_builtin;refine Kd.R_append (Kd.int .u8) (w0:=w) w.heap.size rfl (.tmp 13) (.tmp 20) 22 5 (.int .u8 0) 1 rfl Tryd.underlying22 info5 rfl zc za u5 J L [.int .u8 L] (fun _=>True) (fun _=>False) rfl rfl ?aP (fun _ hk=>hk.elim) ?aF ?aO ?aB ?aS ?aL ?_;(case aP=>exact rfl);(case aB=>exact(hbA HB.out));(case aF=>exact(fun _ _=>trivial));(case aO=>exact(kdA HO_5.out));(case aS=>exact(below_size (hbA HB.out)));(case aL=>have:=ab.out;omega);intro ai w7 ho hb hg hat;rw[<-Z.out]at ho;have n0_:=aK (hb);have n1_:=aK (ho);clear HB;clear HO_5;have HB:=n0_;have Y:=n1_;clear n0_ n1_;clear ho hb hg hat))
   go_roundg k1
   case measure=>have:=aa.out;omega
   case rel=>exact⟨(X),(wrap64 (D+1)),rsE,H',⟨by have:=aa.out;omega⟩,⟨kdA Y.out⟩,⟨hbA HB.out⟩⟩
def copyL(l:List Int)(i:Int)(s:List Int):List Int:=splice l i.toNat (s.take (l.length-i.toNat))
theorem copyL_cur{w:World}{base:Nat}{ok:Nat->Prop}{g n c:Nat}{L:List Int}(h:Kd.R (Kd.int .u8) 5 w base ok (.slice (some ⟨g,0,none⟩) n c) L): ∃cur:List Value,w.heap[g]? =some (.cells cur.toArray 5 (0,0))/\cur.length=c/\n<=c/\n=L.length/\base<=g/\cur.take n=nums .u8 L/\c<=maxLen:=by
 have ho:=Kd.own_of_R h;rcases ho.2 with⟨h',_⟩|⟨g',cap',cur,h',D,hh,hle,hm,hsz,htk⟩
 ·cases h'
 ·injection h' with h1 h2 h3;injection h1 with h1;injection h1 with h1;subst h1 h2 h3;refine⟨cur.toList,by simpa using hh,by simpa using hsz,hle,rfl,D,?_,hm⟩;simpa[nums,encs]using htk
theorem copyL_splice{w w1:World}{base:Nat}{ok:Nat->Prop}{g n c off:Nat}{L seg:List Int}{cur:List Value}(h:Kd.R (Kd.int .u8) 5 w base ok (.slice (some ⟨g,0,none⟩) n c) L)(hg:w.heap[g]? =some (.cells cur.toArray 5 (0,0)))(hfit:off+seg.length<=L.length)
 (h1:w1.heap[g]? =some (.cells (splice cur off (nums .u8 seg)).toArray 5 (0,0))):Kd.R (Kd.int .u8) 5 w1 base ok (.slice (some ⟨g,0,none⟩) n c) (splice L off seg):=by
 obtain⟨cur',D,I,X,J,O,G,U⟩:=copyL_cur h;rw[hg]at D
 injection D with D;injection D with D;have hce:cur=cur':=by simpa using congrArg Array.toList D
 subst hce;have hls:(splice L off seg).length=n:=by rw[length_splice _ _ _ hfit,J]
 have hlc:(splice cur off (nums .u8 seg)).length=c:=by rw[length_splice _ _ _ (by simp[nums];omega),I]
 refine Kd.R_of_own ⟨by simp[encs],.inr ⟨g,c,(splice cur off (nums .u8 seg)).toArray,by rw[hls],O,h1,by omega,U,by simpa using hlc,?_⟩⟩ h.1;rw[hls,Nat.mul_one];show(splice cur off (nums .u8 seg)).take n=(splice L off seg).map _;unfold splice;rw[List.take_append,List.take_append,List.map_append,List.map_append];have e1:(nums .u8 seg).length=seg.length:=by simp[nums]
 rw[List.take_take,Nat.min_eq_right za,List.length_take,Nat.min_eq_left za,List.take_of_length_le (l:=nums .u8 seg) za,e1,List.take_drop];have e2:off+seg.length+(n-off-seg.length)=n:=by omega
 rw[e2];have e3:cur.take off=(L.take off).map (fun x=>Value.int .u8 x):=by
  have:(cur.take n).take off=(nums .u8 L).take off:=by rw[G]
  rw[List.take_take,Nat.min_eq_left za]at this
  rw[this,nums,List.map_take]
 have e4:(cur.take n).drop (off+seg.length)=(L.drop (off+seg.length)).map (fun x=>Value.int .u8 x):=by
  rw[G,nums,List.map_drop]
 rw[e3,e4];rfl
theorem copyL_event{P:Program}{ops:Array Oper}{rest:List Oper}{o:Oper}{a:Act}{Q:Exit->Act->World->Prop}{W:World}{base:Nat}{ok:Nat->Prop}{g n c:Nat}{L S:List Int}{sp dp:Option Addr}{sc dLen dCap:Nat}{d s:Operand}{dT sT:TypeId}(hgd:o.guard=none)
 (ho:o.op= .call { callee:= .builtin .copy,args:= #[d,s],argTypes:= #[dT,sT] }) (hu:P.underlying dT=some (.slice 5)) (hsz:(P.info? 5).map (·.size)=some 1)
 (h:Kd.R (Kd.int .u8) 5 W base ok (.slice (some ⟨g,0,none⟩) n c) L) (hS:Kd.C (Kd.int .u8) W sp S.length S) (i:Int) (h0:0<=i) (hi:i<(L.length:Int))
 (hd:a.eval d= .slice dp dLen dCap) (hs:a.eval s= .slice sp S.length sc) (hdp:dp=some ⟨g,i.toNat,none⟩) (hdl:dLen=L.length-i.toNat)
 (hk: ∀w' m,W.grownBy w' (some g)->Kd.R (Kd.int .u8) 5 w' base ok (.slice (some ⟨g,0,none⟩) n c) (copyL L i S)->wpList P ops Q rest (a.put o.dst (goInt m)) w'):wpList P ops Q (o::rest) a W:=by
 obtain⟨cur,hg,hcl,hnc,hnL,hbg,htk,hcm⟩:=copyL_cur h;have hseg:(S.take (L.length-i.toNat)).length=Nat.min S.length dLen:=by rw[List.length_take,hdl,Nat.min_comm]
 refine wpList_plain hgd fun K hK=>?_;rcases Nat.eq_zero_or_pos (Nat.min S.length dLen)with e|e
 ·have hrun:=run_copy_none (P:=P) W dT sT o.type 5 dp sp dLen dCap S.length sc hu hsz e;have hz:copyL L i S=L:=by
   have:S.take (L.length-i.toNat)= []:=List.length_eq_zero_iff.1 (hseg.trans e);unfold copyL splice;rw[this];simp
  unfold Oper.wp;simp[execOp,ho,resolve,invoke,builtin,hd,hs,hrun,Result.andThen];exact hK _ _ (hk W 0 ⟨rfl,rfl,rfl,Nat.le_refl _,fun _ _ _=>rfl⟩ (by rw[hz];exact h))
 ·have hSp:0<S.length:=Nat.lt_of_lt_of_le e (Nat.min_le_left _ _);obtain⟨ad,rfl,hc⟩:=hS.2.2 hSp;subst hdp;have hsrc: ∀j v,(nums .u8 (S.take (L.length-i.toNat)))[j]? =some v->W.cell? (ad.add j)=some v:=by
   intro j v hv;unfold nums at hv;rw[List.getElem?_map,Option.map_eq_some_iff]at hv
   obtain⟨x,hx,rfl⟩:=hv;rw[List.getElem?_take]at hx
   split at hx
   ·obtain⟨c1,_,rfl,hcell⟩:=hc j x hx;have:=hcell 0 _ rfl
    rwa [show(Kd.int .u8).sz=1 from rfl,Nat.mul_one,Nat.add_zero]at this
   ·cases hx
  have hfit:i.toNat+(nums .u8 (S.take (L.length-i.toNat))).length<=cur.length:=by
   have:(nums .u8 (S.take (L.length-i.toNat))).length=Nat.min S.length dLen:=by rw[<-hseg];simp[nums]
   have h2:Nat.min S.length dLen<=dLen:=Nat.min_le_right _ _;omega
  have hlen:(nums .u8 (S.take (L.length-i.toNat))).length=Nat.min S.length dLen:=by rw[<-hseg];simp[nums]
  have hrun:=run_copy_row (P:=P) W dT sT o.type 5 g i.toNat dLen dCap ad S.length sc cur.toArray 5 (nums .u8 (S.take (L.length-i.toNat))) hu hsz hg hlen hsrc (by simpa using hfit) (fun v hv=>by
   unfold nums at hv;obtain⟨x,_,rfl⟩:=List.mem_map.1 hv;rfl)
  unfold Oper.wp;simp[execOp,ho,resolve,invoke,builtin,hd,hs,hrun,Result.andThen];refine hK _ _ (hk _ _ ⟨rfl,rfl,rfl,by simp[World.setRow],fun k _ hk=>setRow_other W g k _ (fun e=>hk (by rw[e]))⟩ ?_);refine copyL_splice h hg (by rw[hseg];have:Nat.min S.length dLen<=dLen:=Nat.min_le_right _ _;omega) ?_;simpa[splice]using setRow_heap W g _ _ 5 _ hg
mutual
def recoupref04_Reduce.l0:Nat->List Int->Int->Int->Int->List Int->Option (Int×Int×List Int×List Int×Int)
 |0,_,_,_,_,_=>none
 |k+1,x6,x7,D,G,I=>if x7<G then(recoupref04_Reduce.j1 k x6 x7 (decide ((x6.length:Int)<D)) D G I)else(recoupref04_Reduce.j1 k x6 x7 false D G I)
def recoupref04_Reduce.j1:Nat->List Int->Int->Bool->Int->Int->List Int->Option (Int×Int×List Int×List Int×Int)
 |0,_,_,_,_,_,_=>none
 |k+1,x6,x7,J,D,G,I=>if J=true then(recoupref04_Reduce.l1 k x6 x7 (x6.length:Int) (x6.length:Int) D G I)else(some (D,G,I,x6,0))
def recoupref04_Reduce.j3:Nat->List Int->Int->Int->Int->Int->Int->List Int->Option (Int×Int×List Int×List Int×Int)
 |0,_,_,_,_,_,_,_=>none
 |k+1,x6,x7,x8,x9,D,G,I=>if x9=D then(recoupref04_Reduce.l0 k x6 (wrap64 (x7+1)) D G I)else(if 0<=D then(if(D:Int).toNat<=35184372088832 then(recoupref04_Reduce.l2 k x6 x7 x8 x9 (List.replicate (D:Int).toNat 0) 0 D G I)else(none))else(none))
def recoupref04_Reduce.l2:Nat->List Int->Int->Int->Int->List Int->Int->Int->Int->List Int->Option (Int×Int×List Int×List Int×Int)
 |0,_,_,_,_,_,_,_,_,_=>none
 |k+1,x6,x7,x8,x9,O,L,G,I,J=>if L<G then(if 0<=L then(if L<(O.length:Int)then(recoupref04_Reduce.l2 k x6 x7 x8 x9 (O.set (L:Int).toNat L) (wrap64 (L+1)) G I J)else(none))else(none))else(if 0<=x8 then(if x8<(O.length:Int)then(if 0<=x9 then(if x9<(O.length:Int)then((recoupref03_Pick.f k G I J ((O.set (x8:Int).toNat x9).set (x9:Int).toNat x8)).bind fun D=>((recoupref03_At.f D.1 D.2.1 D.2.2.1 x8 x7).bind fun Z=>((recoupref01_Inv.f k Z).bind fun X=>((recoupref03_Row.f k D.1 D.2.1 D.2.2.1 x8).bind fun Y=>((recoupref01_Scale.f k X.1 Y.1).bind fun U=>(if 0<=(wrap64 (x8*D.2.1))then(if(wrap64 (x8*D.2.1))<(D.2.2.1.length:Int)then(recoupref04_Reduce.l3 k x6 x7 x8 U 0 D.1 D.2.1 (copyL D.2.2.1 (wrap64 (x8*D.2.1)) U))else(none))else(none)))))))else(none))else(none))else(none))else(none))
def recoupref04_Reduce.l3:Nat->List Int->Int->Int->List Int->Int->Int->Int->List Int->Option (Int×Int×List Int×List Int×Int)
 |0,_,_,_,_,_,_,_,_=>none
 |k+1,x6,x7,x8,O,J,D,G,I=>if J<D then(if J=x8 then(recoupref04_Reduce.l3 k x6 x7 x8 O (wrap64 (J+1)) D G I)else((recoupref03_At.f D G I J x7).bind fun L=>(recoupref04_Reduce.l4 k x6 x7 x8 O J L 0 D G I)))else(if x6.length<17592186044416 then(recoupref04_Reduce.l0 k (x6++ [x7]) (wrap64 (x7+1)) D G I)else(none))
def recoupref04_Reduce.l4:Nat->List Int->Int->Int->List Int->Int->Int->Int->Int->Int->List Int->Option (Int×Int×List Int×List Int×Int)
 |0,_,_,_,_,_,_,_,_,_,_=>none
 |k+1,x6,x7,x8,O,L,X,I,J,D,G=>if I<D then(if 0<=(wrap64 ((wrap64 (L*D))+I))then(if(wrap64 ((wrap64 (L*D))+I))<(G.length:Int)then(if 0<=I then(if I<(O.length:Int)then((recoupref01_Mul.f k X (rd O I)).bind fun U=>(recoupref04_Reduce.l4 k x6 x7 x8 O L X (wrap64 (I+1)) J D (G.set ((wrap64 ((wrap64 (L*D))+I)):Int).toNat (Go.bits .xor .u8 (rd G (wrap64 ((wrap64 (L*D))+I))) U))))else(none))else(none))else(none))else(none))else(recoupref04_Reduce.l3 k x6 x7 x8 O (wrap64 (L+1)) J D G)
def recoupref04_Reduce.l1:Nat->List Int->Int->Int->Int->Int->Int->List Int->Option (Int×Int×List Int×List Int×Int)
 |0,_,_,_,_,_,_,_=>none
 |k+1,x6,x7,x8,x9,D,G,I=>if x9<D then((recoupref03_At.f D G I x9 x7).bind fun J=>(if J=0 then(recoupref04_Reduce.l1 k x6 x7 x8 (wrap64 (x9+1)) D G I)else(recoupref04_Reduce.j3 k x6 x7 x8 x9 D G I)))else(recoupref04_Reduce.j3 k x6 x7 x8 x9 D G I)
end
def recoupref04_Reduce.f(k:Nat)(G:Int)(I:Int)(J:List Int):Option (Int×Int×List Int×List Int×Int):=(recoupref03_Right.f G I J).bind fun L=>(if L=true then((recoupref03_Copy.f G I J).bind fun D=>(recoupref04_Reduce.l0 k ([]:List Int) 0 D.1 D.2.1 D.2.2))else(some (0,0,([]:List Int),([]:List Int),3)))
def recoupref04_Reduce.T32:Bool×List (List Nat×List Nat):=(true,[([],[]),([0],[0]),([],[]),([],[]),([3],[3]),([2,4],[2,4]),([],[]),([5,6],[5,6]),([1,7],[1,7]),([8],[8]),([],[]),([],[]),([],[]),([11,12],[11,12]),([13],[13]),([10,14],[10,14]),([9,15],[9,15]),([1,7,0,1,2,3,4,5,6,7,8,9,10,11,12,13,14,15,16],[1,7]),([17,16,15,0,1,2,3,4,5,6,7,8,9,10,11,12,13,14,15,16],[16,17])])
def recoupref04_Reduce.B32:List Nat:= [0,1,0,0,8,28,0,124,255,511,0,0,0,6144,14336,31744,65535,131071,262143]
theorem recoupref04_Reduce.tab32:rtab .any (opsOf Tryd.f96 32)=recoupref04_Reduce.T32:=by kernel_rfl
theorem recoupref04_Reduce.bits32:waitsOk recoupref04_Reduce.T32.2 recoupref04_Reduce.B32=true:=by kernel_rfl
theorem recoupref04_Reduce.calls(k:Nat)(au:Int)(av:Int)(az:Option Addr)(a0:Nat)(ar:List Int)(r1:Int)(r2:Int)(r3:List Int)(r4:List Int)(r5:Int)(w:World)(i1:Kd.C (Kd.int .u8) w az ar.length ar)(iz:ar.length<=a0)(h:recoupref04_Reduce.f k au av ar=some (r1,r2,r3,r4,r5)):
 Calls Tryd.prog 96 #[.agg #[.int .i64 au,.int .i64 av,.slice az ar.length a0]] w fun e w'=> ∃v2_ v3_:Value,e= .returned (.tuple #[.agg #[.int .i64 r1,.int .i64 r2,v2_],v3_,.int .i64 r5])/\Kd.R (Kd.int .u8) 5 w' w.heap.size (fun _=>True) v2_ r3/\Kd.R (Kd.int .i64) 3 w' w.heap.size (fun _=>True) v3_ r4/\Below w.heap.size w w':=by
 have rj:=Tryd.underlying24;have f0:=aK i1;have fy:=aK iz;clear i1 iz;have HB:=aK (Below.refl w.heap.size w);have H:((recoupref03_Right.f au av ar).bind fun i9=>(if i9=true then((recoupref03_Copy.f au av ar).bind fun f1=>(recoupref04_Reduce.l0 k ([]:List Int) 0 f1.1 f1.2.1 f1.2.2))else(some (0,0,([]:List Int),([]:List Int),3))))=some (r1,r2,r3,r4,r5):=h;clear h;obtain⟨i9,A2,H⟩:=bindO H
 (try dsimp only at H)
 by_cases c3:i9=true
 case neg=>
  replace c3:=Bool.eq_false_iff.mpr c3;subst c3;rw[if_neg nofT]at H
  simp only[Option.some.injEq,Prod.mk.injEq]at H;obtain⟨rfl,rfl,rfl,rfl,rfl⟩:=H
  go_enter Tryd.func96,Tryd.ntmps96
  go_wp2_with (first|((with_reducible refine gD 1 rfl ?_);(try(refine gate_guard ze ?_;dsimp only));refine bE 1 #[.int .i64 au,.int .i64 av,.slice az ar.length a0] 24 ?_;intro a2 hg rr hbox hb;have I:=aK (hbox);have j6:=hbS HB hg;have j2:=hbS HB hg;replace HB:=hbB HB hb;clear hb hbox hg)|((with_reducible refine gD 2 rfl ?_);(try(refine gate_guard ze ?_;dsimp only));refine bE 2 #[.int .i64 0,.int .i64 0,.slice none 0 0] 24 ?_;intro aq hg rt hbox hb;have J:=aK (hbox);have j7:=hbS HB hg;have j4:=hbS HB hg;replace HB:=hbB HB hb;have bs:=neL I hg;have bt:=neG I hg;replace I:=bkB I hb;clear hb hbox hg;have n9:=bs.out;have ot:=bt.out;obtain⟨lg,lh,ll,ma,mb,mc⟩:=cell3 I)|((with_reducible refine gC 45 rfl ?_);refine cG (some 20) Tryd.func45 #[.agg #[.int .i64 au,.int .i64 av,.slice az ar.length a0]] ?_;(with_reducible refine(recoupref03_Right.calls au av _ _ ar false _ ?side1 ?side2 A2.out).mono ?_);(case side1=>exact kcB f0 HB);(case side2=>exact fy.out);rintro e ru ⟨rfl,hb⟩;refine⟨_,rfl,?_⟩;replace I:=bkB I hb;replace J:=bkB J hb;replace HB:=hbB HB hb;(try clear hb);obtain⟨lm,ln,lp,me,mf,mg⟩:=cell3 J))
  refine bodyPost_ret (results_ctt rfl _ _ aq 24 #[.int .i64 0,.int .i64 0,.slice none 0 0] (0,0) _ rfl (by refine bkR ?_;refine blk_put (cs:= #[.int .i64 0,.int .i64 0,.slice none 0 0]) ?_ 2 _ rfl;refine bkR ?_;refine blk_put (cs:= #[.int .i64 0,.int .i64 0,.slice none 0 0]) ?_ 1 _ rfl;refine bkR ?_;refine blk_put (cs:= #[.int .i64 0,.int .i64 0,.slice none 0 0]) ?_ 0 _ rfl;refine bkR ?_;exact J.out) Tryd.underlying24 rfl zb) rfl ?_;exact⟨_,_,rfE,nilE,nilE,hbA HB.out⟩
 subst c3;rw[if_pos rfl]at H
 obtain⟨⟨fw,gn,gp⟩,A4,H⟩:=bindO H
 (try dsimp only at H)
 have H':=aK H;clear H
 go_enter Tryd.func96,Tryd.ntmps96
 go_wp2_with (first|((with_reducible refine gD 1 rfl ?_);(try(refine gate_guard ze ?_;dsimp only));refine bE 1 #[.int .i64 au,.int .i64 av,.slice az ar.length a0] 24 ?_;intro a2 hg w5 hbox hb;have I:=aK (hbox);have j6:=hbS HB hg;have j2:=hbS HB hg;replace HB:=hbB HB hb;clear hb hbox hg)|((with_reducible refine gD 2 rfl ?_);(try(refine gate_guard ze ?_;dsimp only));refine bE 2 #[.int .i64 0,.int .i64 0,.slice none 0 0] 24 ?_;intro aq hg w6 hbox hb;have J:=aK (hbox);have j7:=hbS HB hg;have j4:=hbS HB hg;replace HB:=hbB HB hb;have bs:=neL I hg;have bt:=neG I hg;replace I:=bkB I hb;clear hb hbox hg;have rh:=bs.out;have ri:=bt.out;obtain⟨bu,bv,bw,bx,bz,b0⟩:=cell3 I)|((with_reducible refine gC 45 rfl ?_);refine cG (some 20) Tryd.func45 #[.agg #[.int .i64 au,.int .i64 av,.slice az ar.length a0]] ?_;(with_reducible refine(recoupref03_Right.calls au av _ _ ar true _ ?side1 ?side2 A2.out).mono ?_);(case side1=>exact kcB f0 HB);(case side2=>exact fy.out);rintro e w9 ⟨rfl,hb⟩;refine⟨_,rfl,?_⟩;replace I:=bkB I hb;replace J:=bkB J hb;replace HB:=hbB HB hb;(try clear hb);obtain⟨a4,a5,a6,ba,bb,bc⟩:=cell3 I)|((with_reducible refine gC 24 rfl ?_);refine cG (some 24) Tryd.func24 #[.agg #[.int .i64 au,.int .i64 av,.slice az ar.length a0]] ?_;(with_reducible refine(recoupref03_Copy.calls au av _ _ ar fw gn gp _ ?side1 ?side2 A4.out).mono ?_);(case side1=>exact kcB f0 HB);(case side2=>exact fy.out);rintro e rz ⟨rk,rfl,cf,hb⟩;refine⟨_,rfl,?_⟩;have eg:=aK (Kd.R_lower cf (below_size (hbA HB.out)));replace I:=bkB I hb;replace J:=bkB J hb;replace HB:=hbB HB hb;(try clear hb);(try clear cf))|((with_reducible refine gD 5 rfl ?_);(try(refine gate_guard ze ?_;dsimp only));refine bE 5 #[.int .i64 0,.int .i64 0,.slice none 0 0] 24 ?_;intro ax hg r0 hbox hb;replace eg:=kdB eg hb;have D:=aK (hbox);have oy:=hbS HB hg;have ox:=hbS HB hg;replace HB:=hbB HB hb;have X:=neL I hg;have aa:=neG I hg;replace I:=bkB I hb;have Y:=neL J hg;have ab:=neG J hg;replace J:=bkB J hb;clear hb hbox hg;have pb:=aa.out;have px:=X.out;have pc:=ab.out;have py:=Y.out;obtain⟨a7,a8,a9,bd,be,bf⟩:=cell3 D;obtain⟨jj,jq,m0⟩:=Kd.R_slice eg.out;subst m0))
 go_loopg [6,7] k (fun kq v6 v7 w'=> ∃(O:List Int) (aj:Int) (G:Int) (U:Int) (L:List Int) (u161002:Value),v7= .int .i64 aj/\Aside0 (recoupref04_Reduce.l0 kq O aj G U L=some (r1,r2,r3,r4,r5))/\Aside0 (kq<=k)/\Aside0 (Kd.R (Kd.int .i64) 3 w' w.heap.size (fun _=>True) v6 O)/\Aside0 (Kd.R (Kd.int .u8) 5 w' w.heap.size (fun _=>True) u161002 L)/\Aside0 (w'.heap[a2]? =some (.cells #[.int .i64 au,.int .i64 av,(.slice az ar.length a0)] 24 (0,0)))/\Aside0 (w'.heap[aq]? =some (.cells #[.int .i64 0,.int .i64 0,(.slice none 0 0)] 24 (0,0)))/\Aside0 (w'.heap[ax]? =some (.cells #[.int .i64 G,.int .i64 U,u161002] 24 (0,0)))/\Aside0 (Below w.heap.size w w'))
 case atStart=>exact⟨(([]:List Int)),(0),(fw),(gn),(gp),(.slice jj gp.length jq),rsE,H',⟨Nat.le_refl _⟩,⟨nilE⟩,⟨by(with_reducible repeat(first|apply Kd.R_alloc|apply Kd.R_drewN|apply Kd.R_drew));exact Kd.R_mono (Kd.R_far (p:=⟨ax,2,none⟩) (Kd.R_far (p:=⟨ax,1,none⟩) (Kd.R_far (p:=⟨ax,0,none⟩) (Kd.R_types eg.out D.out zc) (fun _ hk=>hk.2) (.int .i64 fw)) (fun _ hk=>hk.2) (.int .i64 gn)) (fun _ hk=>hk.2) (.slice jj gp.length jq)) (fun _ hk=>trivial)⟩,⟨by refine bkR ?_;refine blk_far ?_ X.out _;refine bkR ?_;refine blk_far ?_ X.out _;refine bkR ?_;refine blk_far ?_ X.out _;refine bkR ?_;exact I.out⟩,⟨by refine bkR ?_;refine blk_far ?_ Y.out _;refine bkR ?_;refine blk_far ?_ Y.out _;refine bkR ?_;refine blk_far ?_ Y.out _;refine bkR ?_;exact J.out⟩,⟨by refine bkR ?_;refine blk_put (cs:= #[.int .i64 fw,.int .i64 gn,.slice none 0 0]) ?_ 2 _ rfl;refine bkR ?_;refine blk_put (cs:= #[.int .i64 fw,.int .i64 0,.slice none 0 0]) ?_ 1 _ rfl;refine bkR ?_;refine blk_put (cs:= #[.int .i64 0,.int .i64 0,.slice none 0 0]) ?_ 0 _ rfl;refine bkR ?_;exact D.out⟩,⟨hbA HB.out⟩⟩
 case round=>
  clear H'
  (try clear c1);(try clear c2);(try clear p2);(try clear c3);(try clear c4);(try clear c7);(try clear c9);(try clear gq);(try clear gr);(try clear a4 a5 a6 ba bb bc);(try clear a7 a8 a9 bd be bf);(try clear bu bv bw bx bz b0)
  obtain⟨O,aj,G,U,L,u161002,rfl,HA,b6,HO_6,HO_161002,I,J,D,HB⟩:=hrel
  cases gk with
  |zero=>exact absurd HA.out (by simp[recoupref04_Reduce.l0])
  |succ k1=>
   have H:=HA.out;clear HA;simp only[recoupref04_Reduce.l0]at H;have ic:=aK H;clear H
   go_upto_region 6 with(fail)
   go_cut [35] (fun qu wc=> ∃(kq:Nat) (dd:Bool),qu= .bool dd/\Aside0 (recoupref04_Reduce.j1 kq O aj dd G U L=some (r1,r2,r3,r4,r5))/\Aside0 (kq<=k1)/\Aside0 (Kd.R (Kd.int .i64) 3 wc w.heap.size (fun _=>True) u6 O)/\Aside0 (Kd.R (Kd.int .u8) 5 wc w.heap.size (fun _=>True) u161002 L)/\Aside0 (wc.heap[a2]? =some (.cells #[.int .i64 au,.int .i64 av,(.slice az ar.length a0)] 24 (0,0)))/\Aside0 (wc.heap[aq]? =some (.cells #[.int .i64 0,.int .i64 0,(.slice none 0 0)] 24 (0,0)))/\Aside0 (wc.heap[ax]? =some (.cells #[.int .i64 G,.int .i64 U,u161002] 24 (0,0)))/\Aside0 (Below w.heap.size w wc))
   case first=>
    have H:=ic.out;clear ic;by_cases dc:aj<U
    case neg=>
     rw[if_neg dc]at H
     have c18b0:decide (aj<U)=false:=decide_eq_false dc;clear dc
     (first|rw[c18b0] |(simp only[i64_w,i32_w];rw[c18b0])|skip)
     have H':=aK H;clear H;have pf:=aa.out;have p1:=X.out;have pg:=ab.out;have p3:=Y.out;obtain⟨bj,bk,bl,bp,bq,br⟩:=cell3 D;go_wp2
     go_meet
     case rel=>exact⟨_,(false),rsE,H',⟨by have:=b6.out;first|omega|exact Nat.le_refl _⟩,⟨kdA HO_6.out⟩,⟨kdA HO_161002.out⟩,⟨bkA I.out⟩,⟨bkA J.out⟩,⟨bkA D.out⟩,⟨hbA HB.out⟩⟩
    rw[if_pos dc]at H
    have c18b0:decide (aj<U)=true:=decide_eq_true dc;clear dc
    (first|rw[c18b0] |(simp only[i64_w,i32_w];rw[c18b0])|skip)
    have H':=aK H;clear H;have pd:=aa.out;have pz:=X.out;have pe:=ab.out;have p0:=Y.out;obtain⟨bg,bh,bi,bm,bn,bo⟩:=cell3 D;obtain⟨qw,rc,m1⟩:=Kd.R_slice HO_6.out;subst m1;go_wp2
    go_meet
    case rel=>exact⟨_,(decide ((O.length:Int)<G)),rsE,H',⟨by have:=b6.out;first|omega|exact Nat.le_refl _⟩,⟨kdA HO_6.out⟩,⟨kdA HO_161002.out⟩,⟨bkA I.out⟩,⟨bkA J.out⟩,⟨bkA D.out⟩,⟨hbA HB.out⟩⟩
   case rest=>
    clear ic
    (try clear c1);(try clear c2);(try clear p2 p2);(try clear c3);(try clear c4);(try clear c7);(try clear c9);(try clear gq);(try clear gr);(try clear dc);(try clear c18b0);(try clear io);(try clear ip);(try clear iq);(try clear ir);(try clear a4 a5 a6 ba bb bc);(try clear a7 a8 a9 bd be bf);(try clear bg bh bi bm bn bo);(try clear bj bk bl bp bq br);(try clear bu bv bw bx bz b0)
    obtain⟨kq,dd,rfl,HA,a1,HO_6,HO_161002,I,J,D,HB⟩:=hcut
    cases kq with
    |zero=>exact absurd HA.out (by simp[recoupref04_Reduce.j1])
    |succ i2=>
     have H:=HA.out;clear HA;simp only[recoupref04_Reduce.j1]at H;by_cases ei:dd=true
     case neg=>
      replace ei:=Bool.eq_false_iff.mpr ei;subst ei;rw[if_neg nofT]at H
      simp only[Option.some.injEq,Prod.mk.injEq]at H;obtain⟨rfl,rfl,rfl,rfl,rfl⟩:=H;have n6:=aa.out;have op:=X.out;have n7:=ab.out;have oq:=Y.out;obtain⟨la,lb,lc,lz,l5,l6⟩:=cell3 D;have n8:=bt.out;have os:=bs.out;obtain⟨ld,le,lf,l7,l8,l9⟩:=cell3 J;obtain⟨fx,f5,kp⟩:=Kd.R_slice HO_161002.out;subst kp;go_wp2;refine bodyPost_ret (results_ctt rfl _ _ aq 24 #[.int .i64 G,.int .i64 U,.slice fx L.length f5] (0,0) _ rfl (by refine bkR ?_;refine blk_put (cs:= #[.int .i64 G,.int .i64 U,.slice none 0 0]) ?_ 2 _ rfl;refine bkR ?_;refine blk_put (cs:= #[.int .i64 G,.int .i64 0,.slice none 0 0]) ?_ 1 _ rfl;refine bkR ?_;refine blk_put (cs:= #[.int .i64 0,.int .i64 0,.slice none 0 0]) ?_ 0 _ rfl;refine bkR ?_;exact J.out) Tryd.underlying24 rfl zb) rfl ?_;exact⟨_,_,rfE,by(with_reducible repeat(first|apply Kd.R_alloc|apply Kd.R_drewN|apply Kd.R_drew));exact Kd.R_mono (Kd.R_far (p:=⟨aq,2,none⟩) (Kd.R_far (p:=⟨aq,1,none⟩) (Kd.R_far (p:=⟨aq,0,none⟩) (Kd.R_types HO_161002.out J.out zc) (fun _ hk=>hk.2) (.int .i64 G)) (fun _ hk=>hk.2) (.int .i64 U)) (fun _ hk=>hk.2) (.slice fx L.length f5)) (fun _ hk=>trivial),by(with_reducible repeat(first|apply Kd.R_alloc|apply Kd.R_drewN|apply Kd.R_drew));exact Kd.R_mono (Kd.R_far (p:=⟨aq,2,none⟩) (Kd.R_far (p:=⟨aq,1,none⟩) (Kd.R_far (p:=⟨aq,0,none⟩) (Kd.R_types HO_6.out J.out zc) (fun _ hk=>hk.2) (.int .i64 G)) (fun _ hk=>hk.2) (.int .i64 U)) (fun _ hk=>hk.2) (.slice fx L.length f5)) (fun _ hk=>trivial),hbA HB.out⟩
     subst ei;rw[if_pos rfl]at H
     have ie:=aK H;clear H;obtain⟨b1,b3,m2⟩:=Kd.R_slice HO_6.out;subst m2
     go_upto_block 2 with(fail)
     go_cut [9] (fun v9 wc=> ∃(kq:Nat) (af:Int),v9= .int .i64 af/\Aside0 (recoupref04_Reduce.j3 kq O aj (O.length:Int) af G U L=some (r1,r2,r3,r4,r5))/\Aside0 (kq<=i2)/\Aside0 (Kd.R (Kd.int .i64) 3 wc w.heap.size (fun _=>True) (.slice b1 O.length b3) O)/\Aside0 (Kd.R (Kd.int .u8) 5 wc w.heap.size (fun _=>True) u161002 L)/\Aside0 (wc.heap[a2]? =some (.cells #[.int .i64 au,.int .i64 av,(.slice az ar.length a0)] 24 (0,0)))/\Aside0 (wc.heap[aq]? =some (.cells #[.int .i64 0,.int .i64 0,(.slice none 0 0)] 24 (0,0)))/\Aside0 (wc.heap[ax]? =some (.cells #[.int .i64 G,.int .i64 U,u161002] 24 (0,0)))/\Aside0 (Below w.heap.size w wc))
     case first=>
      have H:=ie.out;clear ie;have H':=aK H;clear H;go_wp2
      go_loopg [9] i2 (fun kq v9 w'=> ∃(cg:Int),v9= .int .i64 cg/\Aside0 (recoupref04_Reduce.l1 kq O aj (O.length:Int) cg G U L=some (r1,r2,r3,r4,r5))/\Aside0 (kq<=i2)/\Aside0 (Kd.R (Kd.int .i64) 3 w' w.heap.size (fun _=>True) (.slice b1 O.length b3) O)/\Aside0 (Kd.R (Kd.int .u8) 5 w' w.heap.size (fun _=>True) u161002 L)/\Aside0 (w'.heap[a2]? =some (.cells #[.int .i64 au,.int .i64 av,(.slice az ar.length a0)] 24 (0,0)))/\Aside0 (w'.heap[aq]? =some (.cells #[.int .i64 0,.int .i64 0,(.slice none 0 0)] 24 (0,0)))/\Aside0 (w'.heap[ax]? =some (.cells #[.int .i64 G,.int .i64 U,u161002] 24 (0,0)))/\Aside0 (Below w.heap.size w w'))
      case atStart=>exact⟨((O.length:Int)),rsE,H',⟨Nat.le_refl _⟩,⟨kdA HO_6.out⟩,⟨kdA HO_161002.out⟩,⟨bkA I.out⟩,⟨bkA J.out⟩,⟨bkA D.out⟩,⟨hbA HB.out⟩⟩
      case round=>
       clear H'
       (try clear c1);(try clear c2);(try clear p2 p2);(try clear c3);(try clear c4);(try clear c7);(try clear c9);(try clear gq);(try clear gr);(try clear dc);(try clear c18b0);(try clear io);(try clear ip);(try clear iq);(try clear ir);(try clear ei);(try clear a4 a5 a6 ba bb bc);(try clear a7 a8 a9 bd be bf);(try clear bg bh bi bm bn bo);(try clear bj bk bl bp bq br);(try clear bu bv bw bx bz b0)
       obtain⟨cg,rfl,HA,jf,HO_6,HO_161002,I,J,D,HB⟩:=hrel
       cases gk with
       |zero=>exact absurd HA.out (by simp[recoupref04_Reduce.l1])
       |succ k3=>
        have H:=HA.out;clear HA;simp only[recoupref04_Reduce.l1]at H;by_cases eb:cg<G
        case neg=>
         rw[if_neg eb]at H
         have c29b0:decide (cg<G)=false:=decide_eq_false eb;clear eb
         (first|rw[c29b0] |(simp only[i64_w,i32_w];rw[c29b0])|skip)
         have H':=aK H;clear H;have pl:=aa.out;have qb:=X.out;have pm:=ab.out;have qc:=Y.out;obtain⟨cn,co,cp,cx,cy,cz⟩:=cell3 D;go_wp2
         go_meet
         case rel=>exact⟨_,(cg),rsE,H',⟨by have:=b6.out;have:=a1.out;have:=jf.out;first|omega|exact Nat.le_refl _⟩,⟨kdA HO_6.out⟩,⟨kdA HO_161002.out⟩,⟨bkA I.out⟩,⟨bkA J.out⟩,⟨bkA D.out⟩,⟨hbA HB.out⟩⟩
        rw[if_pos eb]at H
        have c29b0:decide (cg<G)=true:=decide_eq_true eb;clear eb
        (first|rw[c29b0] |(simp only[i64_w,i32_w];rw[c29b0])|skip)
        obtain⟨d2,mj,H⟩:=bindO H
        (try dsimp only at H)
        by_cases df:d2=0
        case neg=>
         rw[if_neg df]at H
         have c31b0:(d2==0)=false:=beq_eq_false_iff_ne.mpr df;have c31b1:(d2 !=0)=true:=bne_iff_ne.mpr df;have H':=aK H;clear H;have pj:=aa.out;have p9:=X.out;have pk:=ab.out;have qa:=Y.out;obtain⟨ck,cl,cm,cu,cv,cw⟩:=cell3 D;obtain⟨qy,rf,m4⟩:=Kd.R_slice HO_161002.out;subst m4
         go_wp2_with (first|(go_at_call 49;(with_reducible refine(recoupref03_At.calls G U _ _ L cg aj d2 _ ?side1 ?side2 mj.out).mono ?_);(case side1=>exact kcA (Kd.R_reads' HO_161002.out).2.2);(case side2=>exact(Kd.R_reads' HO_161002.out).2.1);rintro e r7 ⟨rfl,hb⟩;replace HO_6:=kdB HO_6 hb;replace HO_161002:=kdB HO_161002 hb;replace I:=bkB I hb;replace J:=bkB J hb;replace D:=bkB D hb;replace HB:=hbB HB hb;(try clear hb)))
         go_meet
         case rel=>exact⟨_,(cg),rsE,H',⟨by have:=b6.out;have:=a1.out;have:=jf.out;first|omega|exact Nat.le_refl _⟩,⟨kdA HO_6.out⟩,⟨kdA HO_161002.out⟩,⟨bkA I.out⟩,⟨bkA J.out⟩,⟨bkA D.out⟩,⟨hbA HB.out⟩⟩
        rw[if_pos df]at H
        have c31b0:(d2==0)=true:=beq_iff_eq.mpr df;have c31b1:(d2 !=0)=false:=bne_eq_false_iff_eq.mpr df;clear df;have H':=aK H;clear H;have ph:=aa.out;have p4:=X.out;have pi:=ab.out;have p8:=Y.out;obtain⟨ch,ci,cj,cq,cr,ct⟩:=cell3 D;obtain⟨qx,re,m3⟩:=Kd.R_slice HO_161002.out;subst m3
        go_wp2_with (first|(go_at_call 49;(with_reducible refine(recoupref03_At.calls G U _ _ L cg aj d2 _ ?side1 ?side2 mj.out).mono ?_);(case side1=>exact kcA (Kd.R_reads' HO_161002.out).2.2);(case side2=>exact(Kd.R_reads' HO_161002.out).2.1);rintro e r6 ⟨rfl,hb⟩;replace HO_6:=kdB HO_6 hb;replace HO_161002:=kdB HO_161002 hb;replace I:=bkB I hb;replace J:=bkB J hb;replace D:=bkB D hb;replace HB:=hbB HB hb;(try clear hb)))
        go_roundg k3
        case measure=>have:=b6.out;have:=a1.out;have:=jf.out;omega
        case rel=>exact⟨(wrap64 (cg+1)),rsE,H',⟨by have:=b6.out;have:=a1.out;have:=jf.out;omega⟩,⟨kdA HO_6.out⟩,⟨kdA HO_161002.out⟩,⟨bkA I.out⟩,⟨bkA J.out⟩,⟨bkA D.out⟩,⟨hbA HB.out⟩⟩
     case rest=>
      clear ie
      (try clear c1);(try clear c2);(try clear p2 p2);(try clear c3);(try clear c4);(try clear p6);(try clear c7);(try clear c9);(try clear gq);(try clear gr);(try clear dc);(try clear c18b0);(try clear io);(try clear ip);(try clear iq);(try clear ir);(try clear ei);(try clear eb);(try clear c29b0);(try clear df);(try clear c31b0);(try clear c31b1);(try clear ki);(try clear kj);(try clear kk);(try clear kl);(try clear km);(try clear kn);(try clear a4 a5 a6 ba bb bc);(try clear a7 a8 a9 bd be bf);(try clear bg bh bi bm bn bo);(try clear bj bk bl bp bq br);(try clear ch ci cj cq cr ct);(try clear ck cl cm cu cv cw);(try clear cn co cp cx cy cz);(try clear bu bv bw bx bz b0)
      obtain⟨kq,af,rfl,HA,b2,HO_6,HO_161002,I,J,D,HB⟩:=hcut
      cases kq with
      |zero=>exact absurd HA.out (by simp[recoupref04_Reduce.j3])
      |succ gm=>
       have H:=HA.out;clear HA;simp only[recoupref04_Reduce.j3]at H;by_cases ec:af=G
       ·rw[if_pos ec]at H
        have c45b0:(af==G)=true:=beq_iff_eq.mpr ec;have c45b1:(af !=G)=false:=bne_eq_false_iff_eq.mpr ec;clear ec;have H':=aK H;clear H;have pn:=aa.out;have qd:=X.out;have po:=ab.out;have qe:=Y.out;obtain⟨dg,dh,di,dm,dn,dp⟩:=cell3 D;go_wp2
        go_roundg gm
        case measure=>have:=b6.out;have:=a1.out;have:=b2.out;omega
        case rel=>exact⟨(O),(wrap64 (aj+1)),(G),(U),(L),(u161002),rsE,H',⟨by have:=b6.out;have:=a1.out;have:=b2.out;omega⟩,⟨kdA HO_6.out⟩,⟨kdA HO_161002.out⟩,⟨bkA I.out⟩,⟨bkA J.out⟩,⟨bkA D.out⟩,⟨hbA HB.out⟩⟩
       rw[if_neg ec]at H
       have c45b0:(af==G)=false:=beq_eq_false_iff_ne.mpr ec;have c45b1:(af !=G)=true:=bne_iff_ne.mpr ec;by_cases eo:0<=G
       case neg=>rw[if_neg eo]at H;exact absurd H zd
       rw[if_pos eo]at H
       have c49b0:=eq_true eo;have c49b1:decide (0<=G)=true:=decide_eq_true eo;clear eo;by_cases ep:(G:Int).toNat<=35184372088832
       case neg=>rw[if_neg ep]at H;exact absurd H zd
       rw[if_pos ep]at H
       have c50b0:=eq_true ep;have c50b1:decide ((G:Int).toNat<=35184372088832)=true:=decide_eq_true ep;clear ep;obtain⟨jy,dv⟩: ∃y_:List Int,y_=(List.replicate (G:Int).toNat 0):=⟨_,rfl⟩
       replace H:(recoupref04_Reduce.l2 gm O aj (O.length:Int) af jy 0 G U L)=some (r1,r2,r3,r4,r5):=zH dv H
       have il:=aK dv;clear dv;have H':=aK H;clear H;have pp:=aa.out;have qf:=X.out;have pq:=ab.out;have qg:=Y.out;obtain⟨dj,dk,dl,dq,dr,dt⟩:=cell3 D
       go_wp2_with (first|((with_reducible refine gate_dst (N:=60) rfl ?_);(try(refine gate_guard ze ?_;dsimp only));refine Kd.R_make (Kd.int .i64) _ 3 rfl (N:=60) rfl 56 _ _ rfl G rfl rfl Tryd.underlying56 (.int .i64 0) 8 info3 rfl zc za 0 (ok:=fun _=>True) (okp:=fun _=>True) rfl (fun _ hk=>hk) trivial (of_decide_eq_true asE) (Nat.le_trans (Nat.mul_le_mul_right _ (of_decide_eq_true asE:G.toNat<=35184372088832)) za) (Below.refl _ _) (Nat.le_refl _) ?_;intro jx r8 ef hb hg_ hnew_;clear hg_ hnew_;(first|rw[<-il.out]at ef|(simp only[Int.reduceToNat]at ef;rw[<-il.out]at ef));replace HO_161002:=kdB HO_161002 hb;have j8:=aK (Kd.R_lower (Kd.R_new' ef (Kd.R_lt (kdA HO_6.out))) (below_size (hbA HB.out)));replace HO_6:=aK (Kd.R_elder' (kdA HO_6.out) (Kd.R_base ef) hb);replace I:=bkB I hb;replace J:=bkB J hb;replace D:=bkB D hb;replace HB:=hbB HB hb;clear hb ef))
       go_loopg [11] gm (fun kq qq w'=> ∃(ac:List Int) (an:Int),qq= .int .i64 an/\Aside0 (recoupref04_Reduce.l2 kq O aj (O.length:Int) af ac an G U L=some (r1,r2,r3,r4,r5))/\Aside0 (kq<=gm)/\Aside0 (Kd.R (Kd.int .i64) 3 w' w.heap.size (fun k_=>some k_≠(jx:Value).ownBlock) (.slice b1 O.length b3) O)/\Aside0 (Kd.R (Kd.int .i64) 3 w' w.heap.size (fun k_=>some k_≠((.slice b1 O.length b3):Value).ownBlock) jx ac)/\Aside0 (Kd.R (Kd.int .u8) 5 w' w.heap.size (fun _=>True) u161002 L)/\Aside0 (w'.heap[a2]? =some (.cells #[.int .i64 au,.int .i64 av,(.slice az ar.length a0)] 24 (0,0)))/\Aside0 (w'.heap[aq]? =some (.cells #[.int .i64 0,.int .i64 0,(.slice none 0 0)] 24 (0,0)))/\Aside0 (w'.heap[ax]? =some (.cells #[.int .i64 G,.int .i64 U,u161002] 24 (0,0)))/\Aside0 (Below w.heap.size w w'))
       case atStart=>exact⟨(jy),(0),rsE,H',⟨Nat.le_refl _⟩,⟨by(with_reducible repeat(first|apply Kd.R_alloc|apply Kd.R_drewN|apply Kd.R_drew));exact Kd.R_mono HO_6.out (fun _ hk=>hk.2)⟩,⟨by(with_reducible repeat(first|apply Kd.R_alloc|apply Kd.R_drewN|apply Kd.R_drew));exact Kd.R_mono j8.out (fun _ hk=>hk.2)⟩,⟨kdA HO_161002.out⟩,⟨bkA I.out⟩,⟨bkA J.out⟩,⟨bkA D.out⟩,⟨hbA HB.out⟩⟩
       case round=>
        clear H'
        (try clear c1);(try clear c2);(try clear p2 p2);(try clear c3);(try clear c4);(try clear c5);(try clear p6 p6);(try clear c7);(try clear c9);(try clear gq);(try clear gr);(try clear dc);(try clear c18b0);(try clear io);(try clear ip);(try clear iq);(try clear ir);(try clear ei);(try clear eb);(try clear c29b0);(try clear df);(try clear c31b0);(try clear c31b1);(try clear ki);(try clear kj);(try clear kk);(try clear kl);(try clear km);(try clear kn);(try clear ec);(try clear c45b0);(try clear c45b1);(try clear mu);(try clear mv);(try clear eo);(try clear c49b0);(try clear c49b1);(try clear ep);(try clear c50b0);(try clear c50b1);(try clear mw);(try clear mx);(try clear a4 a5 a6 ba bb bc);(try clear a7 a8 a9 bd be bf);(try clear bg bh bi bm bn bo);(try clear bj bk bl bp bq br);(try clear ch ci cj cq cr ct);(try clear ck cl cm cu cv cw);(try clear cn co cp cx cy cz);(try clear dg dh di dm dn dp);(try clear dj dk dl dq dr dt);(try clear bu bv bw bx bz b0)
        obtain⟨ac,an,rfl,HA,ea,HO_6,HO_10,HO_161002,I,J,D,HB⟩:=hrel
        cases gk with
        |zero=>exact absurd HA.out (by simp[recoupref04_Reduce.l2])
        |succ k4=>
         have H:=HA.out;clear HA;simp only[recoupref04_Reduce.l2]at H;by_cases er:an<G
         ·rw[if_pos er]at H
          have c56b0:decide (an<G)=true:=decide_eq_true er;clear er;by_cases gs:0<=an
          case neg=>rw[if_neg gs]at H;exact absurd H zd
          rw[if_pos gs]at H
          have c57b0:decide (0<=an)=true:=decide_eq_true gs;clear gs;by_cases gt:an<(ac.length:Int)
          case neg=>rw[if_neg gt]at H;exact absurd H zd
          rw[if_pos gt]at H
          have c58b0:decide (an<(ac.length:Int))=true:=decide_eq_true gt;clear gt;obtain⟨jc,dw⟩: ∃y_:List Int,y_=(ac.set (an:Int).toNat an):=⟨_,rfl⟩
          replace H:(recoupref04_Reduce.l2 k4 O aj (O.length:Int) af jc (wrap64 (an+1)) G U L)=some (r1,r2,r3,r4,r5):=zH dw H
          have kb:=aK dw;clear dw;have H':=aK H;clear H;have pr:=aa.out;have qh:=X.out;have pt:=ab.out;have qi:=Y.out;obtain⟨et,eu,ev,fb,fc,fd⟩:=cell3 D;have p59:0<=(an:Int):=of_decide_eq_true asE;have f7:(an:Int)<((ac.length:Int):Int):=of_decide_eq_true asE;obtain⟨ee,gh,jr,ju,m8,q9,jl⟩:=Kd.R_form HO_10.out za
          (first|cases jr|(injection jr with ea_ en_ ec_;(first|subst ea_|(injection ea_ with ea_;subst ea_));subst ec_;clear en_))
          have ms:=aK ju;have qz:=aK jl;clear ju m8 jl;obtain⟨gi,nt⟩:=Kd.R_celln 0 HO_10.out (an:Int) p59 f7;replace p59:=eq_true p59;replace f7:=eq_true f7;have ii:=Kd.R_putg HO_10.out (an:Int) an
          go_wp2_with (first|((with_reducible refine gate_store (t:=3) (p:=70) rfl ?_);refine store_event (t:=3) (p:=70) (v:=?vo_w64) (w1:=(wr.setCell ⟨ee,(an:Int).toNat,none⟩ (.int .i64 an))) ?hg ?ho ?hn ?hr ?_;(case ho=>rfl);(case hg=>rfl);(case hn=>rfl);(case hr=>first|(go_simp;done)|(go_simp;rfl));intro w64 hw;have hg:wr.grownBy w64 (some ee):=(by rw[hw];exact ii.2);have hp_:Kd.R (Kd.int .i64) 3 w64 w.heap.size (fun k_=>some k_≠(.slice b1 O.length b3:Value).ownBlock) (.slice (some ⟨ee,0,none⟩) ac.length gh) jc:=(by rw[hw,kb.out];exact ii.1);clear ii;replace HO_6:=aK (Kd.R_after (v:=(.slice (some ⟨ee,0,none⟩) ac.length gh)) (v1:=(.slice (some ⟨ee,0,none⟩) ac.length gh)) (ok:=(fun _=>True)) (by(with_reducible repeat(first|apply Kd.R_alloc|apply Kd.R_drewN|apply Kd.R_drew));exact Kd.R_mono HO_6.out (fun _ hk=>⟨trivial,hk⟩)) hg (.inl rfl));replace HO_161002:=aK (Kd.R_over' (v:=(.slice (some ⟨ee,0,none⟩) ac.length gh)) (kdA HO_161002.out) (Kd.R_typed HO_10.out) zc hg);replace I:=bkG I hg (Kd.R_ne HO_10.out I.out zc);replace J:=bkG J hg (Kd.R_ne HO_10.out J.out zc);replace D:=bkG D hg (Kd.R_ne HO_10.out D.out zc);replace HO_10:=aK (hp_);replace HB:=aK ((by rw[hw];exact below_set (HB.out) ms.out:Below w.heap.size w w64));clear hg hw hp_))
          go_roundg k4
          case measure=>have:=b6.out;have:=a1.out;have:=b2.out;have:=ea.out;omega
          case rel=>exact⟨(jc),(wrap64 (an+1)),rsE,H',⟨by have:=b6.out;have:=a1.out;have:=b2.out;have:=ea.out;omega⟩,⟨by(with_reducible repeat(first|apply Kd.R_alloc|apply Kd.R_drewN|apply Kd.R_drew));exact Kd.R_mono HO_6.out (fun _ hk=>hk.2)⟩,⟨kdA HO_10.out⟩,⟨kdA HO_161002.out⟩,⟨bkA I.out⟩,⟨bkA J.out⟩,⟨bkA D.out⟩,⟨hbA HB.out⟩⟩
         rw[if_neg er]at H
         have c56b0:decide (an<G)=false:=decide_eq_false er;clear er;by_cases gu:0<=(O.length:Int)
         case neg=>rw[if_neg gu]at H;exact absurd H zd
         rw[if_pos gu]at H
         have c65b0:decide (0<=(O.length:Int))=true:=decide_eq_true gu;have c65b1:decide (0<=O.length)=true:=decide_eq_true za;clear gu;by_cases f4:(O.length:Int)<(ac.length:Int)
         case neg=>rw[if_neg f4]at H;exact absurd H zd
         rw[if_pos f4]at H
         have c66b0:decide ((O.length:Int)<(ac.length:Int))=true:=decide_eq_true f4;have c66b1:decide (O.length<ac.length)=true:=decide_eq_true (Int.ofNat_lt.mp f4);clear f4;obtain⟨jd,dx⟩: ∃y_:List Int,y_=(ac.set ((O.length:Int):Int).toNat af):=⟨_,rfl⟩
         replace H:(if 0<=af then(if af<(ac.length:Int)then((recoupref03_Pick.f k4 G U L (jd.set (af:Int).toNat (O.length:Int))).bind fun ag=>((recoupref03_At.f ag.1 ag.2.1 ag.2.2.1 (O.length:Int) aj).bind fun d3=>((recoupref01_Inv.f k4 d3).bind fun f2=>((recoupref03_Row.f k4 ag.1 ag.2.1 ag.2.2.1 (O.length:Int)).bind fun f3=>((recoupref01_Scale.f k4 f2.1 f3.1).bind fun b5=>(if 0<=(wrap64 ((O.length:Int)*ag.2.1))then(if(wrap64 ((O.length:Int)*ag.2.1))<(ag.2.2.1.length:Int)then(recoupref04_Reduce.l3 k4 O aj (O.length:Int) b5 0 ag.1 ag.2.1 (copyL ag.2.2.1 (wrap64 ((O.length:Int)*ag.2.1)) b5))else(none))else(none)))))))else(none))else(none))=some (r1,r2,r3,r4,r5):=zH dx H
         have kc:=aK dx;clear dx;by_cases gv:0<=af
         case neg=>rw[if_neg gv]at H;exact absurd H zd
         rw[if_pos gv]at H
         have c68b0:decide (0<=af)=true:=decide_eq_true gv;clear gv;by_cases gw:af<(ac.length:Int)
         case neg=>rw[if_neg gw]at H;exact absurd H zd
         rw[if_pos gw]at H
         have c69b0:decide (af<(ac.length:Int))=true:=decide_eq_true gw;clear gw;obtain⟨d9,dy⟩: ∃y_:List Int,y_=(jd.set (af:Int).toNat (O.length:Int)):=⟨_,rfl⟩
         replace H:((recoupref03_Pick.f k4 G U L d9).bind fun ag=>((recoupref03_At.f ag.1 ag.2.1 ag.2.2.1 (O.length:Int) aj).bind fun d3=>((recoupref01_Inv.f k4 d3).bind fun f2=>((recoupref03_Row.f k4 ag.1 ag.2.1 ag.2.2.1 (O.length:Int)).bind fun f3=>((recoupref01_Scale.f k4 f2.1 f3.1).bind fun b5=>(if 0<=(wrap64 ((O.length:Int)*ag.2.1))then(if(wrap64 ((O.length:Int)*ag.2.1))<(ag.2.2.1.length:Int)then(recoupref04_Reduce.l3 k4 O aj (O.length:Int) b5 0 ag.1 ag.2.1 (copyL ag.2.2.1 (wrap64 ((O.length:Int)*ag.2.1)) b5))else(none))else(none)))))))=some (r1,r2,r3,r4,r5):=zH dy H
         have kd:=aK dy;clear dy;obtain⟨⟨am,ah,ai,np⟩,ml,H⟩:=bindO H
         (try dsimp only at H)
         obtain⟨d3,mm,H⟩:=bindO H
         (try dsimp only at H)
         obtain⟨⟨ja,nq⟩,mo,H⟩:=bindO H
         (try dsimp only at H)
         obtain⟨⟨d4,nr⟩,mq,H⟩:=bindO H
         (try dsimp only at H)
         obtain⟨b5,mr,H⟩:=bindO H
         (try dsimp only at H)
         obtain⟨b4,ce⟩: ∃j_:Int,(wrap64 ((O.length:Int)*ah))=j_:=⟨_,rfl⟩
         replace H:(if 0<=(b4)then(if(b4)<(ai.length:Int)then(recoupref04_Reduce.l3 k4 O aj (O.length:Int) b5 0 am ah (copyL ai (b4) b5))else(none))else(none))=some (r1,r2,r3,r4,r5):=by first|(rw[ce]at H;exact H)|(simp only[ce]at H⊢;exact H)
         (try rw[ce]at ml)
         (try rw[ce]at mm)
         (try rw[ce]at mo)
         (try rw[ce]at mq)
         (try rw[ce]at mr)
         have hji76w:(IntKind.i64.wrap ((O.length:Int)*ah))=b4:=(i64_w _).trans ce;by_cases gx:0<=(b4)
         case neg=>rw[if_neg gx]at H;exact absurd H zd
         rw[if_pos gx]at H
         have c77b0:decide (0<=(b4))=true:=decide_eq_true gx;clear gx;by_cases gy:(b4)<(ai.length:Int)
         case neg=>rw[if_neg gy]at H;exact absurd H zd
         rw[if_pos gy]at H
         have c78b0:decide ((b4)<(ai.length:Int))=true:=decide_eq_true gy;clear gy;obtain⟨je,dz⟩: ∃y_:List Int,y_=(copyL ai (b4) b5):=⟨_,rfl⟩
         replace H:(recoupref04_Reduce.l3 k4 O aj (O.length:Int) b5 0 am ah je)=some (r1,r2,r3,r4,r5):=zH dz H
         have ke:=aK dz;clear dz;have H':=aK H;clear H;have pv:=aa.out;have qj:=X.out;have pw:=ab.out;have qk:=Y.out;obtain⟨ew,ex,ey,fe,ff,fg⟩:=cell3 D;have p67:0<=((O.length:Int):Int):=of_decide_eq_true asE;have f8:((O.length:Int):Int)<((ac.length:Int):Int):=of_decide_eq_true asE;obtain⟨a3,ca,js,jv,m9,ra,jo⟩:=Kd.R_form HO_10.out za
         (first|cases js|(injection js with ea_ en_ ec_;(first|subst ea_|(injection ea_ with ea_;subst ea_));subst ec_;clear en_))
         have jk:=aK jv;have q0:=aK jo;clear jv m9 jo;obtain⟨el,ji⟩:=Kd.R_celln 0 HO_10.out ((O.length:Int):Int) p67 f8;replace p67:=eq_true p67;replace f8:=eq_true f8;have kt:=el;have ks:=ji;simp only[Int.toNat_natCast]at kt ks;have ij:=Kd.R_putg HO_10.out ((O.length:Int):Int) af
         go_wp2_with (first|((with_reducible refine gate_store (t:=3) (p:=77) rfl ?_);refine store_event (t:=3) (p:=77) (v:=?vo_w84) (w1:=(wr.setCell ⟨a3,((O.length:Int):Int).toNat,none⟩ (.int .i64 af))) ?hg ?ho ?hn ?hr ?_;(case ho=>rfl);(case hg=>rfl);(case hn=>rfl);(case hr=>first|(go_simp;done)|(go_simp;rfl));intro jb hw;have hg:wr.grownBy jb (some a3):=(by rw[hw];exact ij.2);have hp_:Kd.R (Kd.int .i64) 3 jb w.heap.size (fun k_=>some k_≠(.slice b1 O.length b3:Value).ownBlock) (.slice (some ⟨a3,0,none⟩) ac.length ca) jd:=(by rw[hw,kc.out];exact ij.1);clear ij;replace HO_6:=aK (Kd.R_after (v:=(.slice (some ⟨a3,0,none⟩) ac.length ca)) (v1:=(.slice (some ⟨a3,0,none⟩) ac.length ca)) (ok:=(fun _=>True)) (by(with_reducible repeat(first|apply Kd.R_alloc|apply Kd.R_drewN|apply Kd.R_drew));exact Kd.R_mono HO_6.out (fun _ hk=>⟨trivial,hk⟩)) hg (.inl rfl));replace HO_161002:=aK (Kd.R_over' (v:=(.slice (some ⟨a3,0,none⟩) ac.length ca)) (kdA HO_161002.out) (Kd.R_typed HO_10.out) zc hg);replace I:=bkG I hg (Kd.R_ne HO_10.out I.out zc);replace J:=bkG J hg (Kd.R_ne HO_10.out J.out zc);replace D:=bkG D hg (Kd.R_ne HO_10.out D.out zc);replace HO_10:=aK (hp_);replace HB:=aK ((by rw[hw];exact below_set (HB.out) jk.out:Below w.heap.size w jb));clear hg hw hp_;have p70:0<=(af:Int):=of_decide_eq_true asE;have f9:(af:Int)<((ac.length:Int):Int):=of_decide_eq_true asE;obtain⟨gj,nu⟩:=Kd.R_celln 0 HO_10.out (af:Int) p70 f9;replace p70:=eq_true p70;replace f9:=eq_true f9;obtain⟨hy85_,hz85_⟩:=Kd.R_celln 0 HO_10.out (af:Int) (of_decide_eq_true asE) (of_decide_eq_true asE);have ik:=Kd.R_putg HO_10.out (af:Int) (O.length:Int))|((with_reducible refine gate_store (t:=3) (p:=78) rfl ?_);refine store_event (t:=3) (p:=78) (v:=?vo_w86) (w1:=(jb.setCell ⟨a3,(af:Int).toNat,none⟩ (.int .i64 (O.length:Int)))) ?hg ?ho ?hn ?hr ?_;(case ho=>rfl);(case hg=>rfl);(case hn=>rfl);(case hr=>first|(go_simp;done)|(go_simp;rfl));intro ku hw;have hg:jb.grownBy ku (some a3):=(by rw[hw];exact ik.2);have hp_:Kd.R (Kd.int .i64) 3 ku w.heap.size (fun k_=>some k_≠(.slice b1 O.length b3:Value).ownBlock) (.slice (some ⟨a3,0,none⟩) ac.length ca) d9:=(by rw[hw,kd.out];exact ik.1);clear ik;replace HO_6:=aK (Kd.R_after (v:=(.slice (some ⟨a3,0,none⟩) ac.length ca)) (v1:=(.slice (some ⟨a3,0,none⟩) ac.length ca)) (ok:=(fun _=>True)) (kdA HO_6.out) hg (.inl rfl));replace HO_161002:=aK (Kd.R_over' (v:=(.slice (some ⟨a3,0,none⟩) ac.length ca)) (kdA HO_161002.out) (Kd.R_typed HO_10.out) zc hg);replace I:=bkG I hg (Kd.R_ne HO_10.out I.out zc);replace J:=bkG J hg (Kd.R_ne HO_10.out J.out zc);replace D:=bkG D hg (Kd.R_ne HO_10.out D.out zc);replace HO_10:=aK (hp_);replace HB:=aK ((by rw[hw];exact below_set (HB.out) jk.out:Below w.heap.size w ku));clear hg hw hp_;obtain⟨ez,e0,e1,fh,fi,fj⟩:=cell3 D;obtain⟨b7,cb,m5⟩:=Kd.R_slice HO_161002.out;subst m5)|((with_reducible refine gC 43 rfl ?_);refine goesL_ (some 82) rfl rfl Tryd.func43 zb rfl #[.agg #[.int .i64 G,.int .i64 U,.slice b7 L.length cb],.slice (some ⟨a3,0,none⟩) d9.length ca] rfl (by(try simp only[List.map_toArray,List.map_cons,List.map_nil]);first|done|(rw[show d9.length=ac.length from(Kd.R_reads' HO_10.out).1.symm]<;>rfl)|rfl|(simp only[List.length_drop,List.length_take];rfl)) ?_;(with_reducible refine(recoupref03_Pick.calls k4 G U _ _ L _ _ d9 am ah ai np _ ?side1 ?side2 ?side3 ?side4 ml.out).mono ?_);(case side1=>exact kcA (Kd.R_reads' HO_161002.out).2.2);(case side2=>exact(Kd.R_reads' HO_161002.out).2.1);(case side3=>exact kcA (Kd.R_reads' HO_10.out).2.2);(case side4=>rw[show d9.length=ac.length from(Kd.R_reads' HO_10.out).1.symm];exact(Kd.R_reads' HO_10.out).2.1);rintro e r9 ⟨rl,rfl,cf,hb⟩;refine⟨_,rfl,?_⟩;replace HO_6:=kdB HO_6 hb;replace HO_10:=kdB HO_10 hb;have ae:=aK (Kd.R_lower (Kd.R_new' cf (Kd.R_lt (kdA HO_161002.out))) (below_size (hbA HB.out)));replace HO_161002:=aK (Kd.R_elder' (kdA HO_161002.out) (Kd.R_base cf) hb);replace I:=bkB I hb;replace J:=bkB J hb;replace D:=bkB D hb;replace HB:=hbB HB hb;(try clear hb);(try clear cf);obtain⟨e2,e3,e4,fk,fl,fm⟩:=cell3 D;obtain⟨b8,aw,m6⟩:=Kd.R_slice ae.out;subst m6)|((with_reducible refine gC 49 rfl ?_);refine cG (some 89) Tryd.func49 #[.agg #[.int .i64 am,.int .i64 ah,.slice b8 ai.length aw],.int .i64 (O.length:Int),.int .i64 aj] ?_;(with_reducible refine(recoupref03_At.calls am ah _ _ ai (O.length:Int) aj d3 _ ?side1 ?side2 mm.out).mono ?_);(case side1=>refine(Kd.R_reads' (e:=5) (base:=w.heap.size) (ok:=fun k_=>(True/\some k_≠(.slice b7 L.length cb:Value).ownBlock)) (n:=ai.length) (c:=aw) ?_).2.2;exact(by(with_reducible repeat(first|apply Kd.R_alloc|apply Kd.R_drewN|apply Kd.R_drew));exact(zF ae.out D.out  (.int .i64 am)  (.int .i64 ah)  (.slice b8 ai.length aw))));(case side2=>exact(Kd.R_reads' ae.out).2.1);rintro e d7 ⟨rfl,hb⟩;refine⟨_,rfl,?_⟩;replace HO_6:=aK (Kd.R_below (by(with_reducible repeat(first|apply Kd.R_alloc|apply Kd.R_drewN|apply Kd.R_drew));exact(zF HO_6.out D.out  (.int .i64 am)  (.int .i64 ah)  (.slice b8 ai.length aw))) hb);replace HO_10:=aK (Kd.R_below (by(with_reducible repeat(first|apply Kd.R_alloc|apply Kd.R_drewN|apply Kd.R_drew));exact(zF HO_10.out D.out  (.int .i64 am)  (.int .i64 ah)  (.slice b8 ai.length aw))) hb);replace HO_161002:=aK (Kd.R_below (by(with_reducible repeat(first|apply Kd.R_alloc|apply Kd.R_drewN|apply Kd.R_drew));exact(zF HO_161002.out D.out  (.int .i64 am)  (.int .i64 ah)  (.slice b8 ai.length aw))) hb);replace ae:=aK (Kd.R_below (by(with_reducible repeat(first|apply Kd.R_alloc|apply Kd.R_drewN|apply Kd.R_drew));exact(zF ae.out D.out  (.int .i64 am)  (.int .i64 ah)  (.slice b8 ai.length aw))) hb);replace I:=aK (blk_below (g:=a2) (o:= .cells #[.int .i64 au,.int .i64 av,.slice az ar.length a0] 24 (0,0)) (by refine bkR ?_;refine blk_far ?_ X.out _;refine bkR ?_;refine blk_far ?_ X.out _;refine bkR ?_;refine blk_far ?_ X.out _;refine bkR ?_;exact I.out) hb);replace J:=aK (blk_below (g:=aq) (o:= .cells #[.int .i64 0,.int .i64 0,.slice none 0 0] 24 (0,0)) (by refine bkR ?_;refine blk_far ?_ Y.out _;refine bkR ?_;refine blk_far ?_ Y.out _;refine bkR ?_;refine blk_far ?_ Y.out _;refine bkR ?_;exact J.out) hb);replace D:=aK (blk_below (g:=ax) (o:= .cells #[.int .i64 am,.int .i64 ah,.slice b8 ai.length aw] 24 (0,0)) (by refine bkR ?_;refine blk_put (cs:= #[.int .i64 am,.int .i64 ah,.slice b7 L.length cb]) ?_ 2 _ rfl;refine bkR ?_;refine blk_put (cs:= #[.int .i64 am,.int .i64 U,.slice b7 L.length cb]) ?_ 1 _ rfl;refine bkR ?_;refine blk_put (cs:= #[.int .i64 G,.int .i64 U,.slice b7 L.length cb]) ?_ 0 _ rfl;refine bkR ?_;exact D.out) hb);replace HB:=hbB HB hb;(try clear hb))|((with_reducible refine gC 113 rfl ?_);refine cG (some 90) Tryd.func113 #[.int .u8 d3] ?_;(with_reducible refine(recoupref01_Inv.calls k4 d3 ja nq _ mo.out).mono ?_);rintro e w' ⟨rfl,⟨nd,rfl⟩⟩;refine⟨_,rfl,?_⟩;(try(rw[drewN_self d7];generalize hq_:World.drewN d7 _=d7;have n0_:Aside0 (Kd.R (Kd.int .u8) 5 d7 w.heap.size (fun k_=>some k_≠(.slice b7 L.length cb:Value).ownBlock) (.slice b8 ai.length aw) ai):=⟨by rw[<-hq_];exact(by(with_reducible repeat(first|apply Kd.R_alloc|apply Kd.R_drewN|apply Kd.R_drew));exact Kd.R_mono ae.out (fun _ hk=>hk.2))⟩;have n1_:Aside0 (Kd.R (Kd.int .i64) 3 d7 w.heap.size (fun k_=>some k_≠(.slice b1 O.length b3:Value).ownBlock) (.slice (some ⟨a3,0,none⟩) ac.length ca) d9):=⟨by rw[<-hq_];exact(kdA HO_10.out)⟩;have n2_:Aside0 (Kd.R (Kd.int .u8) 5 d7 w.heap.size (fun k_=>some k_≠(.slice b8 ai.length aw:Value).ownBlock) (.slice b7 L.length cb) L):=⟨by rw[<-hq_];exact(by(with_reducible repeat(first|apply Kd.R_alloc|apply Kd.R_drewN|apply Kd.R_drew));exact Kd.R_mono HO_161002.out (fun _ hk=>hk.2))⟩;have n3_:Aside0 (Kd.R (Kd.int .i64) 3 d7 w.heap.size (fun k_=>some k_≠(.slice (some ⟨a3,0,none⟩) ac.length ca:Value).ownBlock) (.slice b1 O.length b3) O):=⟨by rw[<-hq_];exact(by(with_reducible repeat(first|apply Kd.R_alloc|apply Kd.R_drewN|apply Kd.R_drew));exact Kd.R_mono HO_6.out (fun _ hk=>hk.2))⟩;have n4_:Aside0 (d7.heap[a2]? =some (.cells #[.int .i64 au,.int .i64 av,.slice az ar.length a0] 24 (0,0))):=⟨by rw[<-hq_];exact(bkA I.out)⟩;have n5_:Aside0 (d7.heap[aq]? =some (.cells #[.int .i64 0,.int .i64 0,.slice none 0 0] 24 (0,0))):=⟨by rw[<-hq_];exact(bkA J.out)⟩;have n6_:Aside0 (d7.heap[ax]? =some (.cells #[.int .i64 am,.int .i64 ah,.slice b8 ai.length aw] 24 (0,0))):=⟨by rw[<-hq_];exact(bkA D.out)⟩;have n7_:Aside0 (Below w.heap.size w d7):=⟨by rw[<-hq_];exact(hbA HB.out)⟩;clear ae HO_10 HO_161002 HO_6 I J D HB hq_;have ae:=n0_;have HO_10:=n1_;have HO_161002:=n2_;have HO_6:=n3_;have I:=n4_;have J:=n5_;have D:=n6_;have HB:=n7_;clear n0_ n1_ n2_ n3_ n4_ n5_ n6_ n7_));obtain⟨e5,e6,e7,fo,fp,fq⟩:=cell3 D)|((with_reducible refine gC 21 rfl ?_);refine cG (some 96) Tryd.func21 #[.agg #[.int .i64 am,.int .i64 ah,.slice b8 ai.length aw],.int .i64 (O.length:Int)] ?_;(with_reducible refine(recoupref03_Row.calls k4 am ah _ _ ai (O.length:Int) d4 nr _ ?side1 ?side2 mq.out).mono ?_);(case side1=>exact kcA (Kd.R_reads' ae.out).2.2);(case side2=>exact(Kd.R_reads' ae.out).2.1);rintro e sa ⟨rm,rfl,cf,hb⟩;refine⟨_,rfl,?_⟩;replace HO_6:=kdB HO_6 hb;replace HO_10:=kdB HO_10 hb;have b9:=aK (Kd.R_lower (Kd.R_new' (Kd.R_new' cf (Kd.R_lt (kdA HO_161002.out))) (Kd.R_lt (kdA ae.out))) (below_size (hbA HB.out)));replace HO_161002:=aK (Kd.R_elder' (kdA HO_161002.out) (Kd.R_base cf) hb);replace ae:=aK (Kd.R_elder' (kdA ae.out) (Kd.R_base cf) hb);replace I:=bkB I hb;replace J:=bkB J hb;replace D:=bkB D hb;replace HB:=hbB HB hb;(try clear hb);(try clear cf);obtain⟨em,es,m7⟩:=Kd.R_slice b9.out;subst m7)|((with_reducible refine gC 114 rfl ?_);refine cG (some 101) Tryd.func114 #[.int .u8 ja,.slice em d4.length es] ?_;(with_reducible refine(recoupref01_Scale.calls k4 ja _ _ d4 b5 _ ?side1 ?side2 mr.out).mono ?_);(case side1=>exact kcA (Kd.R_reads' b9.out).2.2);(case side2=>exact(Kd.R_reads' b9.out).2.1);rintro e qv ⟨db,rfl,cf,hb⟩;refine⟨_,rfl,?_⟩;replace HO_6:=kdB HO_6 hb;replace HO_10:=kdB HO_10 hb;have eh:=aK (Kd.R_lower (Kd.R_new' (Kd.R_new' (Kd.R_new' cf (Kd.R_lt (kdA HO_161002.out))) (Kd.R_lt (kdA ae.out))) (Kd.R_lt (kdA b9.out))) (below_size (hbA HB.out)));replace HO_161002:=aK (Kd.R_elder' (kdA HO_161002.out) (Kd.R_base cf) hb);replace ae:=aK (Kd.R_elder' (kdA ae.out) (Kd.R_base cf) hb);replace b9:=aK (Kd.R_elder' (kdA b9.out) (Kd.R_base cf) hb);replace I:=bkB I hb;replace J:=bkB J hb;replace D:=bkB D hb;replace HB:=hbB HB hb;(try clear hb);(try clear cf);obtain⟨e8,e9,fa,fs,ft,fu⟩:=cell3 D;have f6:0<=((b4):Int):=of_decide_eq_true asE;have ga:((b4):Int)<((ai.length:Int):Int):=of_decide_eq_true asE;obtain⟨cd,rg,jt,jw,na,rb,jp⟩:=Kd.R_form ae.out za;(first|cases jt|(injection jt with ea_ en_ ec_;(first|subst ea_|(injection ea_ with ea_;subst ea_));subst ec_;clear en_));have mt:=aK jw;have q1:=aK jp;clear jw na jp;obtain⟨gl,nv⟩:=Kd.R_celln 0 ae.out ((b4):Int) f6 ga;replace f6:=eq_true f6;replace ga:=eq_true ga;have n_:=aK (Kd.R_mono (ok':=(fun k_=>some k_≠(.slice b7 L.length cb:Value).ownBlock/\some k_≠(.slice em d4.length es:Value).ownBlock/\some k_≠(db:Value).ownBlock)) ae.out (by first|exact fun k_ hk=>⟨hk.1.1.2,⟨hk.1.2,hk.2⟩⟩|exact fun k_ hk=>⟨hk.1.1,⟨hk.1.2,hk.2⟩⟩));clear ae;have ae:=n_;clear n_;have qo:=of_decide_eq_true c77b0;have nn:=of_decide_eq_true c78b0;obtain⟨jn,rfl⟩:=Int.eq_ofNat_of_zero_le qo;have rx:=(Kd.R_reads' ae.out).2.1;have qp:jn<ai.length:=Int.ofNat_lt.1 nn;have ry:jn<=ai.length:=Nat.le_of_lt qp)|((with_reducible refine gate_builtin (b:= .copy) (xs:= #[.tmp 108,.tmp 109]) rfl ?_);obtain⟨sA,sc,eS,_,hS⟩:=Kd.R_reads eh.out;refine copyL_event (d:= .tmp 108) (s:= .tmp 109) (dT:=22) (sT:=22) rfl rfl Tryd.underlying22 zb ae.out hS (jn:Int) (Int.natCast_nonneg jn) nn rfl eS rfl rfl ?_;intro kv jm hg nh;clear eS hS;have hg:qv.grownBy kv (some cd):=hg;have hp_:Kd.R (Kd.int .u8) 5 kv w.heap.size (fun k_=>some k_≠(.slice b7 L.length cb:Value).ownBlock/\some k_≠(.slice em d4.length es:Value).ownBlock/\some k_≠(db:Value).ownBlock) (.slice (some ⟨cd,0,none⟩) ai.length aw) je:=(by rw[ke.out];exact nh);replace HO_6:=aK (Kd.R_over' (v:=(.slice (some ⟨cd,0,none⟩) ai.length aw)) (kdA HO_6.out) (Kd.R_typed ae.out) zc hg);replace HO_10:=aK (Kd.R_over' (v:=(.slice (some ⟨cd,0,none⟩) ai.length aw)) (kdA HO_10.out) (Kd.R_typed ae.out) zc hg);replace HO_161002:=aK (Kd.R_after (v:=(.slice (some ⟨cd,0,none⟩) ai.length aw)) (v1:=(.slice (some ⟨cd,0,none⟩) ai.length aw)) (ok:=(fun k_=>some k_≠(.slice em d4.length es:Value).ownBlock/\some k_≠(db:Value).ownBlock)) (by(with_reducible repeat(first|apply Kd.R_alloc|apply Kd.R_drewN|apply Kd.R_drew));exact Kd.R_mono HO_161002.out (by first|exact fun _ hk=>⟨⟨hk.1.2,hk.2⟩,hk.1.1.2⟩|exact fun _ hk=>⟨⟨hk.1.2,hk.2⟩,hk.1.1⟩)) hg (.inl rfl));replace I:=bkG I hg (Kd.R_ne ae.out I.out zc);replace J:=bkG J hg (Kd.R_ne ae.out J.out zc);replace D:=bkG D hg (Kd.R_ne ae.out D.out zc);replace ae:=aK (hp_);replace b9:=aK (Kd.R_after (v:=(.slice (some ⟨cd,0,none⟩) ai.length aw)) (v1:=(.slice (some ⟨cd,0,none⟩) ai.length aw)) (ok:=(fun k_=>some k_≠(.slice b7 L.length cb:Value).ownBlock/\some k_≠(db:Value).ownBlock)) (by(with_reducible repeat(first|apply Kd.R_alloc|apply Kd.R_drewN|apply Kd.R_drew));exact Kd.R_mono b9.out (fun _ hk=>⟨⟨hk.1.1.2,hk.2⟩,hk.1.2⟩)) hg (.inl rfl));replace eh:=aK (Kd.R_after (v:=(.slice (some ⟨cd,0,none⟩) ai.length aw)) (v1:=(.slice (some ⟨cd,0,none⟩) ai.length aw)) (ok:=(fun k_=>some k_≠(.slice b7 L.length cb:Value).ownBlock/\some k_≠(.slice em d4.length es:Value).ownBlock)) (by(with_reducible repeat(first|apply Kd.R_alloc|apply Kd.R_drewN|apply Kd.R_drew));exact Kd.R_mono eh.out (fun _ hk=>⟨⟨hk.1.1.2,hk.2⟩,hk.1.2⟩)) hg (.inl rfl));replace HB:=aK ((HB.out.grown hg HB.out.size (fun k_ hk_=>by injection hk_ with hk_;rw[<-hk_];exact mt.out):Below w.heap.size w kv));clear hg nh hp_))
         go_loopg [16] k4 (fun kq qr w'=> ∃(d8:List Int) (ap:Int) (ao:List Int) (u161002:Value),qr= .int .i64 ap/\Aside0 (recoupref04_Reduce.l3 kq O aj (O.length:Int) d8 ap am ah ao=some (r1,r2,r3,r4,r5))/\Aside0 (kq<=k4)/\Aside0 (Kd.R (Kd.int .i64) 3 w' w.heap.size (fun _=>True) (.slice b1 O.length b3) O)/\Aside0 (Kd.R (Kd.int .u8) 5 w' w.heap.size (fun k_=>some k_≠(u161002:Value).ownBlock) db d8)/\Aside0 (Kd.R (Kd.int .u8) 5 w' w.heap.size (fun k_=>some k_≠(db:Value).ownBlock) u161002 ao)/\Aside0 (w'.heap[a2]? =some (.cells #[.int .i64 au,.int .i64 av,(.slice az ar.length a0)] 24 (0,0)))/\Aside0 (w'.heap[aq]? =some (.cells #[.int .i64 0,.int .i64 0,(.slice none 0 0)] 24 (0,0)))/\Aside0 (w'.heap[ax]? =some (.cells #[.int .i64 am,.int .i64 ah,u161002] 24 (0,0)))/\Aside0 (Below w.heap.size w w'))
         case atStart=>exact⟨(b5),(0),(je),(.slice (some ⟨cd,0,none⟩) ai.length aw),rsE,H',⟨Nat.le_refl _⟩,⟨by(with_reducible repeat(first|apply Kd.R_alloc|apply Kd.R_drewN|apply Kd.R_drew));exact Kd.R_mono HO_6.out (fun _ hk=>trivial)⟩,⟨by(with_reducible repeat(first|apply Kd.R_alloc|apply Kd.R_drewN|apply Kd.R_drew));exact Kd.R_mono eh.out (fun _ hk=>hk.2)⟩,⟨by(with_reducible repeat(first|apply Kd.R_alloc|apply Kd.R_drewN|apply Kd.R_drew));exact Kd.R_mono ae.out (fun _ hk=>hk.2.2)⟩,⟨bkA I.out⟩,⟨bkA J.out⟩,⟨bkA D.out⟩,⟨hbA HB.out⟩⟩
         case round=>
          clear H'
          (try clear c1);(try clear c2);(try clear p2 p2);(try clear c3);(try clear c4);(try clear c5);(try clear p5);(try clear q5);(try clear ql);(try clear o8);(try clear c6);(try clear p6 p6);(try clear q6);(try clear qm);(try clear o9);(try clear c7);(try clear p7);(try clear q7);(try clear qn);(try clear pa);(try clear c8);(try clear c9);(try clear oz);(try clear gq);(try clear gr);(try clear dc);(try clear c18b0);(try clear io);(try clear ip);(try clear o0);(try clear iq);(try clear ir);(try clear ei);(try clear eb);(try clear c29b0);(try clear df);(try clear c31b0);(try clear c31b1);(try clear ki);(try clear kj);(try clear kk);(try clear kl);(try clear km);(try clear kn);(try clear ec);(try clear c45b0);(try clear c45b1);(try clear mu);(try clear mv);(try clear eo);(try clear c49b0);(try clear c49b1);(try clear ep);(try clear c50b0);(try clear c50b1);(try clear mw);(try clear mx);(try clear er);(try clear c56b0);(try clear gs);(try clear c57b0);(try clear gt);(try clear c58b0);(try clear p59 p59);(try clear f7 f7);(try clear nj);(try clear nc);(try clear o1);(try clear o2);(try clear p64);(try clear gu);(try clear c65b0);(try clear c65b1);(try clear f4);(try clear c66b0);(try clear c66b1);(try clear p67 p67);(try clear f8 f8);(try clear nk);(try clear ne);(try clear gv);(try clear c68b0);(try clear gw);(try clear c69b0);(try clear p70 p70);(try clear f9 f9);(try clear nl);(try clear nf);(try clear gx);(try clear c77b0);(try clear gy);(try clear c78b0);(try clear f6 f6);(try clear ga ga);(try clear nm);(try clear ng);(try clear o3);(try clear o4);(try clear a4 a5 a6 ba bb bc);(try clear a7 a8 a9 bd be bf);(try clear bg bh bi bm bn bo);(try clear bj bk bl bp bq br);(try clear ch ci cj cq cr ct);(try clear ck cl cm cu cv cw);(try clear cn co cp cx cy cz);(try clear dg dh di dm dn dp);(try clear dj dk dl dq dr dt);(try clear et eu ev fb fc fd);(try clear ew ex ey fe ff fg);(try clear ez e0 e1 fh fi fj);(try clear bu bv bw bx bz b0);(try clear e2 e3 e4 fk fl fm);(try clear e5 e6 e7 fo fp fq);(try clear e8 e9 fa fs ft fu);(try clear gi);(try clear el);(try clear gj);(try clear gl)
          obtain⟨d8,ap,ao,u161002,rfl,HA,en,HO_6,HO_14,HO_161002,I,J,D,HB⟩:=hrel
          cases gk with
          |zero=>exact absurd HA.out (by simp[recoupref04_Reduce.l3])
          |succ k5=>
           have H:=HA.out;clear HA;simp only[recoupref04_Reduce.l3]at H;by_cases de:ap<am
           case neg=>
            rw[if_neg de]at H
            have c100b0:decide (ap<am)=false:=decide_eq_false de;clear de;by_cases gg:O.length<17592186044416
            case neg=>rw[if_neg gg]at H;exact absurd H zd
            rw[if_pos gg]at H
            have jh:=aK gg;clear gg;obtain⟨jz,d0⟩: ∃y_:List Int,y_=(O++ [aj]):=⟨_,rfl⟩
            replace H:(recoupref04_Reduce.l0 k5 jz (wrap64 (aj+1)) am ah ao)=some (r1,r2,r3,r4,r5):=zH d0 H
            have kf:=aK d0;clear d0;have H':=aK H;clear H;have n4:=aa.out;have om:=X.out;have n5:=ab.out;have oo:=Y.out;obtain⟨k7,k8,k9,lw,lx,ly⟩:=cell3 D
            go_wp2_with (first|((with_reducible refine gate_builtin (b:= .append) (xs:= #[.tmp 148,.tmp 150]) rfl ?_);(try(refine gate_guard ze ?_;dsimp only));at_builtin;refine Kd.R_append (Kd.int .i64) (w0:=w) w.heap.size rfl (.tmp 148) (.tmp 150) 56 3 (.int .i64 0) 8 rfl Tryd.underlying56 info3 rfl zc za (.slice b1 O.length b3) O aj [.int .i64 aj] (fun _=>True) (fun _=>False) rfl rfl ?aP (fun _ hk=>hk.elim) ?aF ?aO ?aB ?aS ?aL ?_;(case aP=>exact rfl);(case aB=>exact(hbA HB.out));(case aF=>exact(fun _ _=>trivial));(case aO=>exact(kdA HO_6.out));(case aS=>exact(below_size (hbA HB.out)));(case aL=>have:=jh.out;omega);intro rn rq ho hb hg hat;rw[<-kf.out]at ho;have n0_:=aK (Kd.R_over' (kdA HO_14.out) (Kd.R_typed (kdA HO_6.out)) zc hg);have n1_:=aK (Kd.R_over' (kdA HO_161002.out) (Kd.R_typed (kdA HO_6.out)) zc hg);have n2_:=aK (blk_grown (g:=a2) (o:= .cells #[.int .i64 au,.int .i64 av,.slice az ar.length a0] 24 (0,0)) (bkA I.out) hg (Kd.R_ne HO_6.out I.out zc));have n3_:=aK (blk_grown (g:=aq) (o:= .cells #[.int .i64 0,.int .i64 0,.slice none 0 0] 24 (0,0)) (bkA J.out) hg (Kd.R_ne HO_6.out J.out zc));have n4_:=aK (blk_grown (g:=ax) (o:= .cells #[.int .i64 am,.int .i64 ah,u161002] 24 (0,0)) (bkA D.out) hg (Kd.R_ne HO_6.out D.out zc));have n5_:=aK (hb);have n6_:=aK (ho);clear HO_14;clear HO_161002;clear I;clear J;clear D;clear HB;clear HO_6;have HO_14:=n0_;have HO_161002:=n1_;have I:=n2_;have J:=n3_;have D:=n4_;have HB:=n5_;have j9:=n6_;clear n0_ n1_ n2_ n3_ n4_ n5_ n6_;clear ho hb hg hat))
            go_roundg k5
            case measure=>have:=b6.out;have:=a1.out;have:=b2.out;have:=ea.out;have:=en.out;omega
            case rel=>exact⟨(jz),(wrap64 (aj+1)),(am),(ah),(ao),(u161002),rsE,H',⟨by have:=b6.out;have:=a1.out;have:=b2.out;have:=ea.out;have:=en.out;omega⟩,⟨kdA j9.out⟩,⟨by(with_reducible repeat(first|apply Kd.R_alloc|apply Kd.R_drewN|apply Kd.R_drew));exact Kd.R_mono HO_161002.out (fun _ hk=>trivial)⟩,⟨bkA I.out⟩,⟨bkA J.out⟩,⟨bkA D.out⟩,⟨hbA HB.out⟩⟩
           rw[if_pos de]at H
           have c100b0:decide (ap<am)=true:=decide_eq_true de;clear de;by_cases da:ap=(O.length:Int)
           ·rw[if_pos da]at H
            have c101b0:(ap==(O.length:Int))=true:=beq_iff_eq.mpr da;have c101b1:(ap !=(O.length:Int))=false:=bne_eq_false_iff_eq.mpr da;clear da;have H':=aK H;clear H;have nw:=aa.out;have oa:=X.out;have nx:=ab.out;have ob:=Y.out;obtain⟨gz,g0,g1,g5,g6,g7⟩:=cell3 D;go_wp2
            go_roundg k5
            case measure=>have:=b6.out;have:=a1.out;have:=b2.out;have:=ea.out;have:=en.out;omega
            case rel=>exact⟨(d8),(wrap64 (ap+1)),(ao),(u161002),rsE,H',⟨by have:=b6.out;have:=a1.out;have:=b2.out;have:=ea.out;have:=en.out;omega⟩,⟨kdA HO_6.out⟩,⟨kdA HO_14.out⟩,⟨kdA HO_161002.out⟩,⟨bkA I.out⟩,⟨bkA J.out⟩,⟨bkA D.out⟩,⟨hbA HB.out⟩⟩
           rw[if_neg da]at H
           have c101b0:(ap==(O.length:Int))=false:=beq_eq_false_iff_ne.mpr da;have c101b1:(ap !=(O.length:Int))=true:=bne_iff_ne.mpr da;obtain⟨d5,mh,H⟩:=bindO H
           (try dsimp only at H)
           have H':=aK H;clear H;have ny:=aa.out;have oc:=X.out;have nz:=ab.out;have od:=Y.out;obtain⟨g2,g3,g4,g8,g9,ia⟩:=cell3 D;obtain⟨ib,it,ko⟩:=Kd.R_slice HO_161002.out;subst ko
           go_wp2_with (first|((with_reducible refine gC 49 rfl ?_);refine cG (some 123) Tryd.func49 #[.agg #[.int .i64 am,.int .i64 ah,.slice ib ao.length it],.int .i64 ap,.int .i64 aj] ?_;(with_reducible refine(recoupref03_At.calls am ah _ _ ao ap aj d5 _ ?side1 ?side2 mh.out).mono ?_);(case side1=>exact kcA (Kd.R_reads' HO_161002.out).2.2);(case side2=>exact(Kd.R_reads' HO_161002.out).2.1);rintro e ro ⟨rfl,hb⟩;refine⟨_,rfl,?_⟩;replace HO_6:=kdB HO_6 hb;replace HO_14:=kdB HO_14 hb;replace HO_161002:=kdB HO_161002 hb;replace I:=bkB I hb;replace J:=bkB J hb;replace D:=bkB D hb;replace HB:=hbB HB hb;(try clear hb)))
           go_loopg [18] k5 (fun kq qt w'=> ∃(ay:List Int) (al:Int) (Z:List Int) (u161002:Value),qt= .int .i64 al/\Aside0 (recoupref04_Reduce.l4 kq O aj (O.length:Int) ay ap d5 al am ah Z=some (r1,r2,r3,r4,r5))/\Aside0 (kq<=k5)/\Aside0 (Kd.R (Kd.int .i64) 3 w' w.heap.size (fun _=>True) (.slice b1 O.length b3) O)/\Aside0 (Kd.R (Kd.int .u8) 5 w' w.heap.size (fun k_=>some k_≠(u161002:Value).ownBlock) db ay)/\Aside0 (Kd.R (Kd.int .u8) 5 w' w.heap.size (fun k_=>some k_≠(db:Value).ownBlock) u161002 Z)/\Aside0 (w'.heap[a2]? =some (.cells #[.int .i64 au,.int .i64 av,(.slice az ar.length a0)] 24 (0,0)))/\Aside0 (w'.heap[aq]? =some (.cells #[.int .i64 0,.int .i64 0,(.slice none 0 0)] 24 (0,0)))/\Aside0 (w'.heap[ax]? =some (.cells #[.int .i64 am,.int .i64 ah,u161002] 24 (0,0)))/\Aside0 (Below w.heap.size w w'))
           case atStart=>exact⟨(d8),(0),(ao),(.slice ib ao.length it),rsE,H',⟨Nat.le_refl _⟩,⟨kdA HO_6.out⟩,⟨kdA HO_14.out⟩,⟨kdA HO_161002.out⟩,⟨bkA I.out⟩,⟨bkA J.out⟩,⟨bkA D.out⟩,⟨hbA HB.out⟩⟩
           case round=>
            clear H'
            (try clear c1);(try clear c2);(try clear p2 p2);(try clear c3);(try clear c4);(try clear c5);(try clear p5 p5);(try clear q5 q5);(try clear ql);(try clear o8);(try clear c6);(try clear p6 p6);(try clear q6 q6);(try clear qm);(try clear o9);(try clear c7);(try clear p7 p7);(try clear q7 q7);(try clear qn);(try clear pa);(try clear c8);(try clear c9);(try clear rv);(try clear oz);(try clear gq);(try clear gr);(try clear dc);(try clear c18b0);(try clear io);(try clear ip);(try clear o0);(try clear iq);(try clear ir);(try clear ei);(try clear eb);(try clear c29b0);(try clear df);(try clear c31b0);(try clear c31b1);(try clear ki);(try clear kj);(try clear kk);(try clear kl);(try clear km);(try clear kn);(try clear ec);(try clear c45b0);(try clear c45b1);(try clear mu);(try clear mv);(try clear eo);(try clear c49b0);(try clear c49b1);(try clear ep);(try clear c50b0);(try clear c50b1);(try clear mw);(try clear mx);(try clear er);(try clear c56b0);(try clear gs);(try clear c57b0);(try clear gt);(try clear c58b0);(try clear p59 p59);(try clear f7 f7);(try clear nj);(try clear nc);(try clear o1);(try clear o2);(try clear p64 p64);(try clear gu);(try clear c65b0);(try clear c65b1);(try clear f4);(try clear c66b0);(try clear c66b1);(try clear p67 p67);(try clear f8 f8);(try clear nk);(try clear ne);(try clear gv);(try clear c68b0);(try clear gw);(try clear c69b0);(try clear p70 p70);(try clear f9 f9);(try clear nl);(try clear nf);(try clear gx);(try clear c77b0);(try clear gy);(try clear c78b0);(try clear f6 f6);(try clear ga ga);(try clear nm);(try clear ng);(try clear o3);(try clear o4);(try clear de);(try clear c100b0);(try clear da);(try clear c101b0);(try clear c101b1);(try clear q2);(try clear q3);(try clear q4);(try clear q8);(try clear gz g0 g1 g5 g6 g7);(try clear g2 g3 g4 g8 g9 ia);(try clear a4 a5 a6 ba bb bc);(try clear a7 a8 a9 bd be bf);(try clear bg bh bi bm bn bo);(try clear bj bk bl bp bq br);(try clear ch ci cj cq cr ct);(try clear ck cl cm cu cv cw);(try clear cn co cp cx cy cz);(try clear dg dh di dm dn dp);(try clear dj dk dl dq dr dt);(try clear et eu ev fb fc fd);(try clear ew ex ey fe ff fg);(try clear ez e0 e1 fh fi fj);(try clear bu bv bw bx bz b0);(try clear e2 e3 e4 fk fl fm);(try clear e5 e6 e7 fo fp fq);(try clear e8 e9 fa fs ft fu);(try clear gi);(try clear el);(try clear gj);(try clear gl)
            obtain⟨ay,al,Z,u161002,rfl,HA,jg,HO_6,HO_14,HO_161002,I,J,D,HB⟩:=hrel
            cases gk with
            |zero=>exact absurd HA.out (by simp[recoupref04_Reduce.l4])
            |succ k6=>
             have H:=HA.out;clear HA;simp only[recoupref04_Reduce.l4]at H;by_cases ed:al<ah
             case neg=>
              rw[if_neg ed]at H
              have c111b0:decide (al<ah)=false:=decide_eq_false ed;clear ed;have H':=aK H;clear H;have n2:=aa.out;have oh:=X.out;have n3:=ab.out;have ol:=Y.out;obtain⟨kz,k0,k2,lt,lu,lv⟩:=cell3 D;go_wp2
              go_roundg k6
              case measure=>have:=b6.out;have:=a1.out;have:=b2.out;have:=ea.out;have:=en.out;have:=jg.out;omega
              case rel=>exact⟨(ay),(wrap64 (ap+1)),(Z),(u161002),rsE,H',⟨by have:=b6.out;have:=a1.out;have:=b2.out;have:=ea.out;have:=en.out;have:=jg.out;omega⟩,⟨kdA HO_6.out⟩,⟨kdA HO_14.out⟩,⟨kdA HO_161002.out⟩,⟨bkA I.out⟩,⟨bkA J.out⟩,⟨bkA D.out⟩,⟨hbA HB.out⟩⟩
             rw[if_pos ed]at H
             have c111b0:decide (al<ah)=true:=decide_eq_true ed;clear ed;obtain⟨ak,ek⟩: ∃j_:Int,(wrap64 ((wrap64 (ap*ah))+al))=j_:=⟨_,rfl⟩
             replace H:(if 0<=(ak)then(if(ak)<(Z.length:Int)then(if 0<=al then(if al<(ay.length:Int)then((recoupref01_Mul.f k6 d5 (rd ay al)).bind fun d6=>(recoupref04_Reduce.l4 k6 O aj (O.length:Int) ay ap d5 (wrap64 (al+1)) am ah (Z.set ((ak):Int).toNat (Go.bits .xor .u8 (rd Z (ak)) d6))))else(none))else(none))else(none))else(none))=some (r1,r2,r3,r4,r5):=by first|(rw[ek]at H;exact H)|(simp only[ek]at H⊢;exact H)
             have hji112w:(IntKind.i64.wrap ((wrap64 (ap*ah))+al))=ak:=(i64_w _).trans ek;by_cases gb:0<=(ak)
             case neg=>rw[if_neg gb]at H;exact absurd H zd
             rw[if_pos gb]at H
             have c113b0:decide (0<=(ak))=true:=decide_eq_true gb;clear gb;by_cases gc:(ak)<(Z.length:Int)
             case neg=>rw[if_neg gc]at H;exact absurd H zd
             rw[if_pos gc]at H
             have c114b0:decide ((ak)<(Z.length:Int))=true:=decide_eq_true gc;clear gc;by_cases ge:0<=al
             case neg=>rw[if_neg ge]at H;exact absurd H zd
             rw[if_pos ge]at H
             have c115b0:decide (0<=al)=true:=decide_eq_true ge;clear ge;by_cases gf:al<(ay.length:Int)
             case neg=>rw[if_neg gf]at H;exact absurd H zd
             rw[if_pos gf]at H
             have c116b0:decide (al<(ay.length:Int))=true:=decide_eq_true gf;clear gf;obtain⟨d6,mi,H⟩:=bindO H
             (try dsimp only at H)
             obtain⟨j0,d1⟩: ∃y_:List Int,y_=(Z.set ((ak):Int).toNat (Go.bits .xor .u8 (rd Z (ak)) d6)):=⟨_,rfl⟩
             replace H:(recoupref04_Reduce.l4 k6 O aj (O.length:Int) ay ap d5 (wrap64 (al+1)) am ah j0)=some (r1,r2,r3,r4,r5):=zH d1 H
             have kg:=aK d1;clear d1;have H':=aK H;clear H;have n0:=aa.out;have oe:=X.out;have n1:=ab.out;have og:=Y.out;obtain⟨kw,kx,ky,lq,lr,ls⟩:=cell3 D
             try go_wp2
             replace HO_6:=aK (Kd.R_drew HO_6.out);replace HO_14:=aK (Kd.R_drew HO_14.out);replace HO_161002:=aK (Kd.R_drew HO_161002.out);replace I:=aK (blk_drew I.out);replace J:=aK (blk_drew J.out);replace D:=aK (blk_drew D.out);replace HB:=aK (below_drew1 HB.out);obtain⟨ou,iu,iw⟩:=Kd.R_slice HO_161002.out
             (first|subst iw|(injection iw with f1_ f2_ f3_;have f4_:=f1_.symm;have f5_:=f3_.symm;clear f1_ f2_ f3_;subst f4_;subst f5_))
             have i4:0<=((ak):Int):=of_decide_eq_true asE;have i7:(ak)<(Z.length:Int):=of_decide_eq_true asE;obtain⟨im,my,du⟩:=Kd.at_int (Kd.R_reads' HO_161002.out).2.2 (ak) i4 i7
             cases my
             replace i4:=eq_true i4;replace i7:=eq_true i7;obtain⟨ov,o7,ix⟩:=Kd.R_slice HO_14.out
             (first|subst ix|(injection ix with f1_ f2_ f3_;have f4_:=f1_.symm;have f5_:=f3_.symm;clear f1_ f2_ f3_;subst f4_;subst f5_))
             have i5:0<=(al:Int):=of_decide_eq_true asE;have i8:al<(ay.length:Int):=of_decide_eq_true asE;obtain⟨kh,mz,fv⟩:=Kd.at_int (Kd.R_reads' HO_14.out).2.2 al i5 i8
             cases mz
             replace i5:=eq_true i5;replace i8:=eq_true i8;refine start_ (n:=19) (S:=fun w'=>w'.cell? ⟨ax,0,none⟩=some (.int .i64 am)/\w'.cell? ⟨ax,1,none⟩=some (.int .i64 ah)/\w'.cell? ⟨ax,2,none⟩=some (.slice (some im) Z.length iu)/\w'.cell? (im.add ((ak)).toNat)=some (.int .u8 (rd Z (ak)))/\w'.cell? (kh.add (al).toNat)=some (.int .u8 (rd ay al))) (ds:= [18]) (.replicate 19 false) zb rfl rfl (z3k D ⟨du,fv⟩) (fun hHeld=>?_);refine with_tabW recoupref04_Reduce.tab32 recoupref04_Reduce.bits32 (fun HT_ HW_=>?_);generalize wr.drew=rp at HO_6 HO_14 HO_161002 I J D HB du fv hHeld⊢;refine pu 0 (some 130) (mB 19 1) HT_ ?_;refine pu 2 (some 132) (mB 19 5) HT_ ?_;refine pu 3 (some 133) (mB 19 13) HT_ ?_;refine pu 6 (some 136) (mB 19 77) HT_ ?_;refine pu 10 (some 140) (mB 19 1101) HT_ ?_;refine pu 11 (some 141) (mB 19 3149) HT_ ?_;refine pu 12 (some 142) (mB 19 7245) HT_ ?_;refine pu 13 (some 143) (mB 19 15437) HT_ ?_;refine tk5 1 (some 131) (mB 19 15439) HT_ HW_ hHeld ?_;refine tk5 4 (some 134) (mB 19 15455) HT_ HW_ hHeld ?_;refine pu 5 (some 135) (mB 19 15487) HT_ ?_;refine pu 7 (some 137) (mB 19 15615) HT_ ?_;refine pu 8 (some 138) (mB 19 15871) HT_ ?_;refine tk5 9 (some 139) (mB 19 16383) HT_ HW_ hHeld ?_;refine tk5 14 (some 144) (mB 19 32767) HT_ HW_ hHeld ?_;refine zoh 15 (some 145) (mB 19 65535) HT_ fun K hK=>?_;refine goes_ Tryd.func78 zb rfl #[.int .u8 d5,.int .u8 (rd ay al)] ze rfl rfl (by(try simp only[List.map_toArray,List.map_cons,List.map_nil]);first|done|rfl|(simp only[List.length_drop,List.length_take];rfl)) ?_;with_reducible refine(recoupref01_Mul.calls k6 d5 (rd ay al) d6 _ mi.out).mono ?_
             rintro e w' ⟨rfl,⟨nd,rfl⟩⟩;refine⟨_,rfl,?_⟩;have i3:0<=((ak):Int):=of_decide_eq_true asE;have i6:((ak):Int)<((Z.length:Int):Int):=of_decide_eq_true asE;obtain⟨ej,o6,iv,iy,kr,o5,ig⟩:=Kd.R_form HO_161002.out za
             (first|cases iv|(injection iv with ea_ en_ ec_;(first|subst ea_|(injection ea_ with ea_;subst ea_));subst ec_;clear en_))
             have ow:=aK iy;have j5:=aK ig;clear iy kr ig
             (first|simp only[add_plain]at du|skip)
             obtain⟨ni,nb⟩:=Kd.R_celln 0 HO_161002.out ((ak):Int) i3 i6;replace i3:=eq_true i3;replace i6:=eq_true i6;have fz:=Kd.R_putn HO_161002.out ((ak):Int) (Go.bits .xor .u8 (rd Z (ak)) d6);rw[<-kg.out]at fz
             have ka:=aK fz;clear fz;refine hK.out _ _ (z3k D ⟨hHeld.2.2.2.1,hHeld.2.2.2.2⟩) (fun hHeld=>?_);clear hK K;refine znm (some 145) ?_;refine pu 16 (some 146) (mB 19 131071) HT_ ?_;refine pu 17 (some 147) (mB 19 262143) HT_ ?_;refine zlh 18 (none) (mB 19 524287) HT_ fun K hK=>?_;refine zsk ?_;refine hK.out _ _ ?_;clear hK K;refine done_ (done_of HT_.out zb) ?_
             try go_wp2
             go_roundg k6
             case measure=>have:=b6.out;have:=a1.out;have:=b2.out;have:=ea.out;have:=en.out;have:=jg.out;omega
             case rel=>exact⟨(ay),(wrap64 (al+1)),(j0),(.slice (some ⟨ej,0,none⟩) Z.length iu),rsE,H',⟨by have:=b6.out;have:=a1.out;have:=b2.out;have:=ea.out;have:=en.out;have:=jg.out;omega⟩,⟨by(with_reducible repeat(first|apply Kd.R_alloc|apply Kd.R_drewN|apply Kd.R_drew));exact Kd.R_mono (Kd.R_far (p:=⟨ej,((ak):Int).toNat,none⟩) (Kd.R_types HO_6.out j5.out zc) (fun _ hk=>hk.2) (.int .u8 (Go.bits .xor .u8 (rd Z (ak)) d6))) (fun _ hk=>trivial)⟩,⟨by(with_reducible repeat(first|apply Kd.R_alloc|apply Kd.R_drewN|apply Kd.R_drew));exact Kd.R_mono (Kd.R_far (p:=⟨ej,((ak):Int).toNat,none⟩) (Kd.R_mono HO_14.out (fun k_ hk=>(⟨hk,fun e_=>hk (by rw[e_];rfl)⟩:_/\k_≠ej))) (fun _ hk=>hk.2) (.int .u8 (Go.bits .xor .u8 (rd Z (ak)) d6))) (fun _ hk=>hk.1)⟩,⟨kdA ka.out⟩,⟨by refine bkR ?_;refine blk_far ?_ (by have h_:=Kd.R_ne HO_161002.out I.out zc;intro e_;exact h_ (by rw[e_];rfl)) _;refine bkR ?_;exact I.out⟩,⟨by refine bkR ?_;refine blk_far ?_ (by have h_:=Kd.R_ne HO_161002.out J.out zc;intro e_;exact h_ (by rw[e_];rfl)) _;refine bkR ?_;exact J.out⟩,⟨by refine bkR ?_;refine blk_far ?_ (by have h_:=Kd.R_ne HO_161002.out D.out zc;intro e_;exact h_ (by rw[e_];rfl)) _;refine bkR ?_;exact D.out⟩,⟨hbA HB.out⟩⟩
def recoupref04_Rank.f(k:Nat)(G:Int)(I:Int)(J:List Int):Option (Int×Int):=(recoupref04_Reduce.f k G I J).bind fun D=>(some ((D.2.2.2.1.length:Int),D.2.2.2.2))
theorem recoupref04_Rank.calls(k:Nat)(I:Int)(J:Int)(Y:Option Addr)(Z:Nat)(G:List Int)(r1:Int)(r2:Int)(w:World)(ac:Kd.C (Kd.int .u8) w Y G.length G)(ab:G.length<=Z)(h:recoupref04_Rank.f k I J G=some (r1,r2)):
 Calls Tryd.prog 76 #[.agg #[.int .i64 I,.int .i64 J,.slice Y G.length Z]] w fun e w'=>e= .returned (.tuple #[.int .i64 r1,.int .i64 r2])/\Below w.heap.size w w':=by
 have be:=Tryd.underlying24;have ag:=aK ac;have af:=aK ab;clear ac ab;have HB:=aK (Below.refl w.heap.size w);have H:((recoupref04_Reduce.f k I J G).bind fun aa=>(some ((aa.2.2.2.1.length:Int),aa.2.2.2.2)))=some (r1,r2):=h;clear h;obtain⟨⟨ak,al,am,an,ao⟩,A2,H⟩:=bindO H
 (try dsimp only at H)
 obtain⟨rfl,rfl⟩:=zP2 H
 go_enter Tryd.func76,Tryd.ntmps76
 go_wp2_with (first|((with_reducible refine gD 1 rfl ?_);refine bE 1 #[.int .i64 I,.int .i64 J,.slice Y G.length Z] 24 ?_;intro a8 hg w3 hbox hb;have D:=aK (hbox);have a5:=hbS HB hg;have a3:=hbS HB hg;replace HB:=hbB HB hb;clear hb hbox hg;obtain⟨ap,aq,ar,ax,ay,az⟩:=cell3 D)|((with_reducible refine gC 96 rfl ?_);refine cG (some 9) Tryd.func96 #[.agg #[.int .i64 I,.int .i64 J,.slice Y G.length Z]] ?_;(with_reducible refine(recoupref04_Reduce.calls k I J _ _ G ak al am an ao _ ?side1 ?side2 A2.out).mono ?_);(case side1=>exact kcB ag HB);(case side2=>exact af.out);rintro e w5 ⟨bf,bg,rfl,ai,aj,hb⟩;refine⟨_,rfl,?_⟩;have L:=aK (Kd.R_lower ai (below_size (hbA HB.out)));have O:=aK (Kd.R_lower aj (below_size (hbA HB.out)));replace D:=bkB D hb;replace HB:=hbB HB hb;(try clear hb);(try clear ai);(try clear aj))|((with_reducible refine gD 4 rfl ?_);refine bE 4 #[.int .i64 0,.int .i64 0,.slice none 0 0] 24 ?_;intro a9 hg w6 hbox hb;replace L:=kdB L hb;replace O:=kdB O hb;have ae:=aK (hbox);have a6:=hbS HB hg;have a4:=hbS HB hg;replace HB:=hbB HB hb;have U:=neL D hg;have X:=neG D hg;replace D:=bkB D hb;clear hb hbox hg;have bc:=X.out;have bd:=U.out;obtain⟨au,av,aw,a0,a1,a2⟩:=cell3 ae;obtain⟨bh,bi,a7⟩:=Kd.R_slice L.out;subst a7;obtain⟨ba,bb,ah⟩:=Kd.R_slice O.out;subst ah))
 go_ret2
 exact⟨rfE,hbA HB.out⟩
def recoupref07_rank.f(k:Nat)(I:Int)(J:Int)(L:List Int)(a1:Int):Option (Int):=(recoupref06_List.f k a1).bind fun O=>((recoupref03_Pick.f k I J L O).bind fun D=>((recoupref04_Rank.f k D.1 D.2.1 D.2.2.1).bind fun G=>(some G.1)))
def recoupref07_rank.T1:Bool×List (List Nat×List Nat):=(true,[([],[]),([],[]),([1],[1]),([0,2,2],[0,2]),([3],[3]),([4],[4]),([4],[4]),([],[]),([7,5,3,0,1,2,3,4,5,7],[5,7]),([6,8,0,1,2,3,4,5,6,7,8],[6])])
def recoupref07_rank.B1:List Nat:= [0,0,2,7,15,31,31,0,191,511]
theorem recoupref07_rank.tab1:rtab .any (opsOf Tryd.f47 1)=recoupref07_rank.T1:=by kernel_rfl
theorem recoupref07_rank.bits1:waitsOk recoupref07_rank.T1.2 recoupref07_rank.B1=true:=by kernel_rfl
theorem recoupref07_rank.calls(k:Nat)(Z:Int)(aa:Int)(af:Option Addr)(ag:Nat)(X:List Int)(a1:Int)(r:Int)(w:World)(az:Kd.C (Kd.int .u8) w af X.length X)(ay:X.length<=ag)(h:recoupref07_rank.f k Z aa X a1=some r):
 Calls Tryd.prog 47 #[.agg #[.int .i64 Z,.int .i64 aa,.slice af X.length ag],.int .u64 a1] w fun e w'=>e= .returned (.int .i64 r)/\Below w.heap.size w w':=by
 have bx:=Tryd.underlying24;have aw:=aK az;have av:=aK ay;clear az ay;have HB:=aK (Below.refl w.heap.size w);have H:((recoupref06_List.f k a1).bind fun ab=>((recoupref03_Pick.f k Z aa X ab).bind fun ax=>((recoupref04_Rank.f k ax.1 ax.2.1 ax.2.2.1).bind fun a4=>(some a4.1))))=some r:=h;clear h;obtain⟨ab,A3,H⟩:=bindO H
 (try dsimp only at H)
 obtain⟨⟨ac,ae,ah,ao⟩,A4,H⟩:=bindO H
 (try dsimp only at H)
 obtain⟨⟨bk,bl⟩,A5,H⟩:=bindO H
 (try dsimp only at H)
 obtain rfl:=Option.some.inj H
 go_enter Tryd.func47,Tryd.ntmps47
 try go_wp2_with (first|((with_reducible refine gD 2 rfl ?_);refine bE 2 #[.int .i64 Z,.int .i64 aa,.slice af X.length ag] 24 ?_;intro U hg w6 hbox hb;have D:=aK (hbox);have bo:=hbS HB hg;have bn:=hbS HB hg;replace HB:=hbB HB hb;clear hb hbox hg))
 replace D:=aK (blk_drew D.out);replace HB:=aK (below_drew1 HB.out);refine start_ (n:=10) (S:=fun w'=>w'.cell? ⟨U,0,none⟩=some (.int .i64 Z)/\w'.cell? ⟨U,1,none⟩=some (.int .i64 aa)/\w'.cell? ⟨U,2,none⟩=some (.slice af X.length ag)) (ds:= []) (.replicate 10 false) zb rfl rfl (z3c D) (fun hHeld=>?_);refine with_tabW recoupref07_rank.tab1 recoupref07_rank.bits1 (fun HT_ HW_=>?_);generalize w6.drew=w7 at D HB hHeld⊢;refine pu 1 (some 11) (mB 10 2) HT_ ?_;refine tk3 0 (some 10) (mB 10 3) HT_ HW_ hHeld ?_;refine join_ (σ:=Value×Value×Nat) 2 (mB 10 255) (fun s_=> [(12,s_.1),(13,.tuple #[.agg #[.int .i64 ac,.int .i64 ae,s_.2.1],.int .i64 ao]),(5,.pointer (some ⟨s_.2.2,0,none⟩)),(9,.tuple #[.agg #[.int .i64 ac,.int .i64 ae,s_.2.1],.int .i64 ao]),(14,.agg #[.int .i64 ac,.int .i64 ae,s_.2.1]),(15,.int .i64 ao)]) (fun s_ w'=>(w'.cell? ⟨U,0,none⟩=some (.int .i64 Z)/\w'.cell? ⟨U,1,none⟩=some (.int .i64 aa)/\w'.cell? ⟨U,2,none⟩=some (.slice af X.length ag))/\(Kd.R (Kd.int .i64) 3 w' w.heap.size (fun _=>True) s_.1 ab)/\(Kd.R (Kd.int .u8) 5 w' w.heap.size (fun _=>True) s_.2.1 ah)/\(w'.heap[U]? =some (.cells #[.int .i64 Z,.int .i64 aa,.slice af X.length ag] 24 (0,0)))/\(w'.heap[s_.2.2]? =some (.cells #[.int .i64 0,.int .i64 0,.slice none 0 0] 24 (0,0)))/\(w.heap.size<=s_.2.2)/\(w.heap.size<=s_.2.2)/\(U≠s_.2.2)/\(s_.2.2≠U)/\(Below w.heap.size w w')) ?_ ?_;rotate_left
 ·intro hCont;refine two_ (i:=2) (j:=7) (Ni:=some 12) (Nj:=some 5) (mB 10 7) (mB 10 131) rfl rfl rfl rfl (two_of HT_.out zb) zc zc (fun K hK=>?_) (fun K hK=>?_)
  ·skip
   refine goes_ Tryd.func23 zb rfl #[.int .u64 a1] ze rfl rfl (by(try simp only[List.map_toArray,List.map_cons,List.map_nil]);first|done|rfl|(simp only[List.length_drop,List.length_take];rfl)) ?_;with_reducible refine(recoupref06_List.calls k a1 ab _ A3.out).mono ?_
   rintro e w8 ⟨a0,rfl,ai,hb⟩;refine⟨_,rfl,?_⟩;have I:=aK (Kd.R_lower ai (below_size (hbA HB.out)));replace D:=bkB D hb;replace HB:=hbB HB hb
   (try clear hb)
   (try clear a2)
   (try clear hk)
   (try clear hi)
   (try clear ai)
   obtain⟨a5,a6,a7⟩:=Kd.R_slice I.out
   (first|subst a7|(injection a7 with f1_ f2_ f3_;have f4_:=f1_.symm;have f5_:=f3_.symm;clear f1_ f2_ f3_;subst f4_;subst f5_))
   refine hK.out _ _ (z3c D) (fun hHeld=>?_);clear hK K;refine znm (some 12) ?_;refine two_ (i:=3) (j:=7) (Ni:=some 13) (Nj:=some 5) (mB 10 15) (mB 10 135) rfl rfl rfl rfl (two_of HT_.out zb) zc zc (fun K hK=>?_) (fun K hK=>?_)
   ·skip
    refine goes_ Tryd.func43 zb rfl #[.agg #[.int .i64 Z,.int .i64 aa,.slice af X.length ag],.slice a5 ab.length a6] ze rfl rfl (by(try simp only[List.map_toArray,List.map_cons,List.map_nil]);first|done|rfl|(simp only[List.length_drop,List.length_take];rfl)) ?_;with_reducible refine(recoupref03_Pick.calls k Z aa _ _ X _ _ ab ac ae ah ao _ ?side1 ?side2 ?side3 ?side4 A4.out).mono ?_
    (case side1=>exact kcB aw HB)
    (case side2=>exact av.out)
    (case side3=>exact kcA (Kd.R_reads' I.out).2.2)
    (case side4=>exact(Kd.R_reads' I.out).2.1)
    rintro e bz ⟨al,rfl,ai,hb⟩;refine⟨_,rfl,?_⟩;replace I:=kdB I hb;have Y:=aK (Kd.R_lower ai (below_size (hbA HB.out)));replace D:=bkB D hb;replace HB:=hbB HB hb
    (try clear hb)
    (try clear a2)
    (try clear hk)
    (try clear hi)
    (try clear ai)
    refine hK.out _ _ (z3c D) (fun hHeld=>?_);clear hK K;refine znm (some 13) ?_;refine pu 4 (some 9) (mB 10 31) HT_ ?_;refine pu 5 (some 14) (mB 10 63) HT_ ?_;refine pu 6 (some 15) (mB 10 127) HT_ ?_;refine zoh 7 (some 5) (mB 10 255) HT_ fun K hK=>?_;refine box_step ?hg (N:=5) ?hd (cs:= #[.int .i64 0,.int .i64 0,.slice none 0 0]) (t:=24) ?hr ?_;(case hd=>rfl);(case hg=>rfl);(case hr=>first|(go_simp;done)|(go_simp;rfl))
    intro L hg bm hbox hb;replace I:=kdB I hb;replace Y:=kdB Y hb;have J:=aK (hbox);have ak:=hbS HB hg;have aj:=hbS HB hg;replace HB:=hbB HB hb;have G:=neL D hg;have O:=neG D hg;replace D:=bkB D hb;clear hb hbox hg;refine hK.out _ _ (z3c D) (fun hHeld=>?_);clear hK K;refine znm (some 5) ?_;exact norm_ zk (hCont (.slice a5 ab.length a6,al,L) _ ⟨hHeld,(kdA I.out),(kdA Y.out),(bkA D.out),(bkA J.out),ak.out,aj.out,G.out,O.out,(hbA HB.out)⟩)
   ·skip
    refine box_step ?hg (N:=5) ?hd (cs:= #[.int .i64 0,.int .i64 0,.slice none 0 0]) (t:=24) ?hr ?_;(case hd=>rfl);(case hg=>rfl);(case hr=>first|(go_simp;done)|(go_simp;rfl))
    intro L hg w9 hbox hb;replace I:=kdB I hb;have J:=aK (hbox);have ak:=hbS HB hg;have aj:=hbS HB hg;replace HB:=hbB HB hb;have G:=neL D hg;have O:=neG D hg;replace D:=bkB D hb;clear hb hbox hg;obtain⟨ap,ar,au⟩:=Kd.R_slice I.out
    (first|subst au|(injection au with f1_ f2_ f3_;have f4_:=f1_.symm;have f5_:=f3_.symm;clear f1_ f2_ f3_;subst f4_;subst f5_))
    refine hK.out _ _ (z3c D) (fun hHeld=>?_);clear hK K;refine znm (some 5) ?_;refine zoh 3 (some 13) (mB 10 143) HT_ fun K hK=>?_;refine goes_ Tryd.func43 zb rfl #[.agg #[.int .i64 Z,.int .i64 aa,.slice af X.length ag],.slice ap ab.length ar] ze rfl rfl (by(try simp only[List.map_toArray,List.map_cons,List.map_nil]);first|done|rfl|(simp only[List.length_drop,List.length_take];rfl)) ?_;with_reducible refine(recoupref03_Pick.calls k Z aa _ _ X _ _ ab ac ae ah ao _ ?side1 ?side2 ?side3 ?side4 A4.out).mono ?_
    (case side1=>exact kcB aw HB)
    (case side2=>exact av.out)
    (case side3=>exact kcA (Kd.R_reads' I.out).2.2)
    (case side4=>exact(Kd.R_reads' I.out).2.1)
    rintro e bm ⟨al,rfl,ai,hb⟩;refine⟨_,rfl,?_⟩;replace I:=kdB I hb;have Y:=aK (Kd.R_lower ai (below_size (hbA HB.out)));replace D:=bkB D hb;replace J:=bkB J hb;replace HB:=hbB HB hb
    (try clear hb)
    (try clear a2)
    (try clear hk)
    (try clear hi)
    (try clear ai)
    refine hK.out _ _ (z3c D) (fun hHeld=>?_);clear hK K;refine znm (some 13) ?_;refine pu 4 (some 9) (mB 10 159) HT_ ?_;refine pu 5 (some 14) (mB 10 191) HT_ ?_;refine pu 6 (some 15) (mB 10 255) HT_ ?_;exact norm_ zk (hCont (.slice ap ab.length ar,al,L) _ ⟨hHeld,(kdA I.out),(kdA Y.out),(bkA D.out),(bkA J.out),ak.out,aj.out,G.out,O.out,(hbA HB.out)⟩)
  ·skip
   refine box_step ?hg (N:=5) ?hd (cs:= #[.int .i64 0,.int .i64 0,.slice none 0 0]) (t:=24) ?hr ?_;(case hd=>rfl);(case hg=>rfl);(case hr=>first|(go_simp;done)|(go_simp;rfl))
   intro L hg w8 hbox hb;have J:=aK (hbox);have ak:=hbS HB hg;have aj:=hbS HB hg;replace HB:=hbB HB hb;have G:=neL D hg;have O:=neG D hg;replace D:=bkB D hb;clear hb hbox hg;refine hK.out _ _ (z3c D) (fun hHeld=>?_);clear hK K;refine znm (some 5) ?_;refine zoh 2 (some 12) (mB 10 135) HT_ fun K hK=>?_;refine goes_ Tryd.func23 zb rfl #[.int .u64 a1] ze rfl rfl (by(try simp only[List.map_toArray,List.map_cons,List.map_nil]);first|done|rfl|(simp only[List.length_drop,List.length_take];rfl)) ?_;with_reducible refine(recoupref06_List.calls k a1 ab _ A3.out).mono ?_
   rintro e w9 ⟨a0,rfl,ai,hb⟩;refine⟨_,rfl,?_⟩;have I:=aK (Kd.R_lower ai (below_size (hbA HB.out)));replace D:=bkB D hb;replace J:=bkB J hb;replace HB:=hbB HB hb
   (try clear hb)
   (try clear a2)
   (try clear hk)
   (try clear hi)
   (try clear ai)
   obtain⟨ap,ar,au⟩:=Kd.R_slice I.out
   (first|subst au|(injection au with f1_ f2_ f3_;have f4_:=f1_.symm;have f5_:=f3_.symm;clear f1_ f2_ f3_;subst f4_;subst f5_))
   refine hK.out _ _ (z3c D) (fun hHeld=>?_);clear hK K;refine znm (some 12) ?_;refine zoh 3 (some 13) (mB 10 143) HT_ fun K hK=>?_;refine goes_ Tryd.func43 zb rfl #[.agg #[.int .i64 Z,.int .i64 aa,.slice af X.length ag],.slice ap ab.length ar] ze rfl rfl (by(try simp only[List.map_toArray,List.map_cons,List.map_nil]);first|done|rfl|(simp only[List.length_drop,List.length_take];rfl)) ?_;with_reducible refine(recoupref03_Pick.calls k Z aa _ _ X _ _ ab ac ae ah ao _ ?side1 ?side2 ?side3 ?side4 A4.out).mono ?_
   (case side1=>exact kcB aw HB)
   (case side2=>exact av.out)
   (case side3=>exact kcA (Kd.R_reads' I.out).2.2)
   (case side4=>exact(Kd.R_reads' I.out).2.1)
   rintro e bm ⟨al,rfl,ai,hb⟩;refine⟨_,rfl,?_⟩;replace I:=kdB I hb;have Y:=aK (Kd.R_lower ai (below_size (hbA HB.out)));replace D:=bkB D hb;replace J:=bkB J hb;replace HB:=hbB HB hb
   (try clear hb)
   (try clear a2)
   (try clear hk)
   (try clear hi)
   (try clear ai)
   refine hK.out _ _ (z3c D) (fun hHeld=>?_);clear hK K;refine znm (some 13) ?_;refine pu 4 (some 9) (mB 10 159) HT_ ?_;refine pu 5 (some 14) (mB 10 191) HT_ ?_;refine pu 6 (some 15) (mB 10 255) HT_ ?_;exact norm_ zk (hCont (.slice ap ab.length ar,al,L) _ ⟨hHeld,(kdA I.out),(kdA Y.out),(bkA D.out),(bkA J.out),ak.out,aj.out,G.out,O.out,(hbA HB.out)⟩)
 rintro⟨a0,al,L⟩ am ⟨hS_,h0_,h1_,h2_,h3_,h4_,h5_,h6_,h7_,h8_⟩;have n0_:Aside0 (Kd.R (Kd.int .i64) 3 am w.heap.size (fun _=>True) a0 ab):=⟨h0_⟩
 have n1_:Aside0 (Kd.R (Kd.int .u8) 5 am w.heap.size (fun _=>True) al ah):=⟨h1_⟩
 have n2_:Aside0 (am.heap[U]? =some (.cells #[.int .i64 Z,.int .i64 aa,.slice af X.length ag] 24 (0,0))):=⟨h2_⟩
 have n3_:Aside0 (am.heap[L]? =some (.cells #[.int .i64 0,.int .i64 0,.slice none 0 0] 24 (0,0))):=⟨h3_⟩
 have n4_:Aside0 (w.heap.size<=L):=⟨h4_⟩
 have n5_:Aside0 (w.heap.size<=L):=⟨h5_⟩
 have n6_:Aside0 (U≠L):=⟨h6_⟩
 have n7_:Aside0 (L≠U):=⟨h7_⟩
 have n8_:Aside0 (Below w.heap.size w am):=⟨h8_⟩
 clear D;clear HB;clear h0_ h1_ h2_ h3_ h4_ h5_ h6_ h7_ h8_;have I:=n0_;have Y:=n1_;have D:=n2_;have J:=n3_;have ak:=n4_;have aj:=n5_;have G:=n6_;have O:=n7_;have HB:=n8_;clear n0_ n1_ n2_ n3_ n4_ n5_ n6_ n7_ n8_;have hHeld:am.cell? ⟨U,0,none⟩=some (.int .i64 Z)/\am.cell? ⟨U,1,none⟩=some (.int .i64 aa)/\am.cell? ⟨U,2,none⟩=some (.slice af X.length ag):=hS_;obtain⟨aq,an,a3⟩:=Kd.R_slice Y.out
 (first|subst a3|(injection a3 with f1_ f2_ f3_;have f4_:=f1_.symm;have f5_:=f3_.symm;clear f1_ f2_ f3_;subst f4_;subst f5_))
 refine znq ?_;refine zoh 8 (none) (mB 10 511) HT_ fun K hK=>?_;have bu:am.cell? ⟨L,0,none⟩=some (.int .i64 0):=(blk_cell J.out 0).trans rfl;have bp:=blk_frozen J.out 0;have bh:=G.out;have be:=O.out;have bv:am.cell? ⟨L,1,none⟩=some (.int .i64 0):=(blk_cell J.out 1).trans rfl;have bq:=blk_frozen J.out 1;have bi:=G.out;have bf:=O.out;have bw:am.cell? ⟨L,2,none⟩=some (.slice none 0 0):=(blk_cell J.out 2).trans rfl;have br:=blk_frozen J.out 2;have bj:=G.out;have bg:=O.out;refine zsk ?_;refine hK.out _ _ ⟨((cell_far (p:=⟨L,_,none⟩) G.out _).trans (((cell_far (p:=⟨L,_,none⟩) G.out _).trans (((cell_far (p:=⟨L,_,none⟩) G.out _).trans (hHeld.1)))))),((cell_far (p:=⟨L,_,none⟩) G.out _).trans (((cell_far (p:=⟨L,_,none⟩) G.out _).trans (((cell_far (p:=⟨L,_,none⟩) G.out _).trans (hHeld.2.1)))))),((cell_far (p:=⟨L,_,none⟩) G.out _).trans (((cell_far (p:=⟨L,_,none⟩) G.out _).trans (((cell_far (p:=⟨L,_,none⟩) G.out _).trans (hHeld.2.2))))))⟩ (fun hHeld=>?_);clear hK K;refine pu 9 (some 6) (mB 10 1023) HT_ ?_;refine done_ (done_of HT_.out zb) ?_;have bs:=O.out;have bt:=G.out;obtain⟨a8,a9,ba,bb,bc,bd⟩:=cell3 J
 try go_wp2_with (first|((with_reducible refine gC 76 rfl ?_);refine cG (some 18) Tryd.func76 #[.agg #[.int .i64 ac,.int .i64 ae,.slice aq ah.length an]] ?_;(with_reducible refine(recoupref04_Rank.calls k ac ae _ _ ah bk bl _ ?side1 ?side2 A5.out).mono ?_);(case side1=>refine(Kd.R_reads' (e:=5) (base:=w.heap.size) (ok:=fun k_=>True) (n:=ah.length) (c:=an) ?_).2.2;exact(by(with_reducible repeat(first|apply Kd.R_alloc|apply Kd.R_drewN|apply Kd.R_drew));exact(zF Y.out J.out  (.int .i64 ac)  (.int .i64 ae)  (.slice aq ah.length an))));(case side2=>exact(Kd.R_reads' Y.out).2.1);rintro e b0 ⟨rfl,hb⟩;refine⟨_,rfl,?_⟩;replace I:=aK (Kd.R_below (by(with_reducible repeat(first|apply Kd.R_alloc|apply Kd.R_drewN|apply Kd.R_drew));exact(zF I.out J.out  (.int .i64 ac)  (.int .i64 ae)  (.slice aq ah.length an))) hb);replace Y:=aK (Kd.R_below (by(with_reducible repeat(first|apply Kd.R_alloc|apply Kd.R_drewN|apply Kd.R_drew));exact(zF Y.out J.out  (.int .i64 ac)  (.int .i64 ae)  (.slice aq ah.length an))) hb);replace D:=aK (blk_below (g:=U) (o:= .cells #[.int .i64 Z,.int .i64 aa,.slice af X.length ag] 24 (0,0)) zt hb);replace J:=aK (blk_below (g:=L) (o:= .cells #[.int .i64 ac,.int .i64 ae,.slice aq ah.length an] 24 (0,0)) (by refine bkR ?_;refine blk_put (cs:= #[.int .i64 ac,.int .i64 ae,.slice none 0 0]) ?_ 2 _ rfl;refine bkR ?_;refine blk_put (cs:= #[.int .i64 ac,.int .i64 0,.slice none 0 0]) ?_ 1 _ rfl;refine bkR ?_;refine blk_put (cs:= #[.int .i64 0,.int .i64 0,.slice none 0 0]) ?_ 0 _ rfl;refine bkR ?_;exact J.out) hb);replace HB:=hbB HB hb;(try clear hb)))
 go_ret
 exact⟨rfE,hbA HB.out⟩
mutual
def recoupref06_Full.j0:Nat->Int->Bool->Option (Int×Int)
 |0,_,_=>none
 |k+1,x0,D=>if D=true then(some (0,2))else(recoupref06_Full.l0 k x0 0 0)
def recoupref06_Full.l0:Nat->Int->Int->Int->Option (Int×Int)
 |0,_,_,_=>none
 |k+1,x0,x4,x5=>if x5<x0 then(if 0<=(IntKind.u64.wrap (x5))then(recoupref06_Full.l0 k x0 (Go.bits .or .u64 x4 (shl .u64 1 (IntKind.u64.wrap (x5)))) (wrap64 (x5+1)))else(none))else(some (x4,0))
end
def recoupref06_Full.f(k:Nat)(a0:Int):Option (Int×Int):=if a0<0 then(recoupref06_Full.j0 k a0 true)else(recoupref06_Full.j0 k a0 (decide (a0>64)))
theorem recoupref06_Full.calls(k:Nat)(a0:Int)(r1:Int)(r2:Int)(w:World)(h:recoupref06_Full.f k a0=some (r1,r2)):
 Calls Tryd.prog 17 #[.int .i64 a0] w fun e w'=>e= .returned (.tuple #[.int .u64 r1,.int .i64 r2])/\Drawn0 w w':=by
 have H:(if a0<0 then(recoupref06_Full.j0 k a0 true)else(recoupref06_Full.j0 k a0 (decide (a0>64))))=some (r1,r2):=h;clear h;have X:=aK H;clear H
 go_enter Tryd.func17,Tryd.ntmps17
 go_upto_region 1 with(fail)
 go_cut [11] (fun ab wc=> ∃(kq:Nat) (J:Bool),ab= .bool J/\Aside0 (recoupref06_Full.j0 kq a0 J=some (r1,r2))/\Aside0 (kq<=k)/\Drawn0 w wc)
 case first=>
  have H:=X.out;clear X;by_cases c3:a0<0
  case neg=>
   rw[if_neg c3]at H
   have c3b0:decide (a0<0)=false:=decide_eq_false c3;clear c3
   (first|rw[c3b0] |(simp only[i64_w,i32_w];rw[c3b0])|skip)
   have H':=aK H;clear H;go_wp2
   go_meet
   case rel=>exact⟨_,(decide (a0>64)),rsE,H',⟨leE⟩,by repeat(first|exact Drawn0.refl _|apply Drawn0.step)⟩
  rw[if_pos c3]at H
  have c3b0:decide (a0<0)=true:=decide_eq_true c3;clear c3
  (first|rw[c3b0] |(simp only[i64_w,i32_w];rw[c3b0])|skip)
  have H':=aK H;clear H;go_wp2
  go_meet
  case rel=>exact⟨_,(true),rsE,H',⟨leE⟩,by repeat(first|exact Drawn0.refl _|apply Drawn0.step)⟩
 case rest=>
  clear X
  (try clear c1);(try clear p2);(try clear c3);(try clear c3b0)
  obtain⟨kq,J,rfl,HA,Y,⟨ac,rfl⟩⟩:=hcut
  cases kq with
  |zero=>exact absurd HA.out (by simp[recoupref06_Full.j0])
  |succ aa=>
   have H:=HA.out;clear HA;simp only[recoupref06_Full.j0]at H;by_cases c4:J=true
   ·subst c4;rw[if_pos rfl]at H
    obtain⟨rfl,rfl⟩:=zP2 H;go_wp2
    go_ret2
    exact zD
   replace c4:=Bool.eq_false_iff.mpr c4;subst c4;rw[if_neg nofT]at H
   have H':=aK H;clear H;go_wp2
   go_loopg [4,5] aa (fun kq v4 v5 w'=> ∃(I:Int) (D:Int),v4= .int .u64 I/\v5= .int .i64 D/\Aside0 (recoupref06_Full.l0 kq a0 I D=some (r1,r2))/\Aside0 (kq<=aa)/\Drawn0 w w')
   case atStart=>exact⟨(0),(0),rsE,rsE,H',⟨Nat.le_refl _⟩,by repeat(first|exact Drawn0.refl _|apply Drawn0.step)⟩
   case round=>
    clear H'
    (try clear c1);(try clear p2 p2);(try clear c3);(try clear c3b0);(try clear c4)
    obtain⟨I,D,rfl,rfl,HA,Z,⟨m2,rfl⟩⟩:=hrel
    cases gk with
    |zero=>exact absurd HA.out (by simp[recoupref06_Full.l0])
    |succ k2=>
     have H:=HA.out;clear HA;simp only[recoupref06_Full.l0]at H;by_cases c5:D<a0
     case neg=>
      rw[if_neg c5]at H
      have c5b0:decide (D<a0)=false:=decide_eq_false c5;clear c5;obtain⟨rfl,rfl⟩:=zP2 H;go_wp2
      go_ret2
      exact zD
     rw[if_pos c5]at H
     have c5b0:decide (D<a0)=true:=decide_eq_true c5;clear c5;obtain⟨G,U⟩: ∃j_:Int,(IntKind.u64.wrap (D))=j_:=⟨_,rfl⟩
     replace H:(if 0<=(G)then(recoupref06_Full.l0 k2 a0 (Go.bits .or .u64 I (shl .u64 1 (G))) (wrap64 (D+1)))else(none))=some (r1,r2):=by first|(rw[U]at H;exact H)|(simp only[U]at H⊢;exact H)
     by_cases c7:0<=(G)
     case neg=>rw[if_neg c7]at H;exact absurd H zd
     rw[if_pos c7]at H
     have c7b0:=eq_true c7;have c7b1:decide (0<=(G))=true:=decide_eq_true c7;clear c7;obtain⟨O,L⟩: ∃j_:Int,(shl .u64 1 (G))=j_:=⟨_,rfl⟩
     replace H:(recoupref06_Full.l0 k2 a0 (Go.bits .or .u64 I (O)) (wrap64 (D+1)))=some (r1,r2):=by first|(rw[L]at H;exact H)|(simp only[L]at H⊢;exact H)
     have hji8_:(IntKind.u64.wrap (1*2^min (G).toNat 64))=O:=L;have hji8z:(G)<=64->(IntKind.u64.wrap (1*2^(G).toNat))=O:=shl_small L;have hji8u:(IntKind.u64.wrap (2^min (G).toNat 64))=O:=by have h_:=hji8_;rw[Int.one_mul]at h_;exact h_
     have hji8v:(G)<=64->(IntKind.u64.wrap (2^(G).toNat))=O:=fun hle_=>by have h_:=hji8z hle_;rw[Int.one_mul]at h_;exact h_
     have H':=aK H;clear H;go_wp2
     go_roundg k2
     case measure=>have:=Y.out;have:=Z.out;omega
     case rel=>exact⟨(Go.bits .or .u64 I (O)),(wrap64 (D+1)),(by first|rfl|(simp;done)|(simp only[<-L]<;>(first|rfl|simp))|(simp[*];done)),rsE,H',⟨by have:=Y.out;have:=Z.out;omega⟩,by repeat(first|exact Drawn0.refl _|apply Drawn0.step)⟩
def recoupref07_bad.f(k:Nat)(D:Int)(I:Int)(J:List Int)(a1:Int):Option (Int):=(recoupref03_Right.f D I J).bind fun L=>(if L=true then((recoupref06_Full.f k D).bind fun G=>(if(Go.bits .andNot .u64 a1 G.1)=0 then(some 0)else(some 2)))else(some 3))
theorem recoupref07_bad.calls(k:Nat)(G:Int)(J:Int)(L:Option Addr)(O:Nat)(I:List Int)(a1:Int)(r:Int)(w:World)(ae:Kd.C (Kd.int .u8) w L I.length I)(ac:I.length<=O)(h:recoupref07_bad.f k G J I a1=some r):
 Calls Tryd.prog 75 #[.agg #[.int .i64 G,.int .i64 J,.slice L I.length O],.int .u64 a1] w fun e w'=>e= .returned (.int .i64 r)/\Below w.heap.size w w':=by
 have bf:=Tryd.underlying24;have Y:=aK ae;have X:=aK ac;clear ae ac;have HB:=aK (Below.refl w.heap.size w);have H:((recoupref03_Right.f G J I).bind fun af=>(if af=true then((recoupref06_Full.f k G).bind fun ah=>(if(Go.bits .andNot .u64 a1 ah.1)=0 then(some 0)else(some 2)))else(some 3)))=some r:=h;clear h;obtain⟨af,A3,H⟩:=bindO H
 (try dsimp only at H)
 by_cases c4:af=true
 ·subst c4;rw[if_pos rfl]at H
  obtain⟨⟨U,ag⟩,A5,H⟩:=bindO H
  (try dsimp only at H)
  by_cases c6:(Go.bits .andNot .u64 a1 U)=0
  ·rw[if_pos c6]at H
   have c6b0:((Go.bits .andNot .u64 a1 U)==0)=true:=beq_iff_eq.mpr c6;have c6b1:((Go.bits .andNot .u64 a1 U)!=0)=false:=bne_eq_false_iff_eq.mpr c6;clear c6;obtain rfl:=Option.some.inj H
   go_enter Tryd.func75,Tryd.ntmps75
   go_wp2_with (first|((with_reducible refine gD 2 rfl ?_);refine bE 2 #[.int .i64 G,.int .i64 J,.slice L I.length O] 24 ?_;intro ab hg w7 hbox hb;have D:=aK (hbox);have aa:=hbS HB hg;have Z:=hbS HB hg;replace HB:=hbB HB hb;clear hb hbox hg;obtain⟨a9,ba,bb,bc,bd,be⟩:=cell3 D)|((with_reducible refine gC 45 rfl ?_);refine cG (some 8) Tryd.func45 #[.agg #[.int .i64 G,.int .i64 J,.slice L I.length O]] ?_;(with_reducible refine(recoupref03_Right.calls G J _ _ I true _ ?side1 ?side2 A3.out).mono ?_);(case side1=>exact kcB Y HB);(case side2=>exact X.out);rintro e w9 ⟨rfl,hb⟩;refine⟨_,rfl,?_⟩;replace D:=bkB D hb;replace HB:=hbB HB hb;(try clear hb);obtain⟨ai,aj,ak,aw,ax,ay⟩:=cell3 D)|((with_reducible refine gC 17 rfl ?_);refine cG (some 13) Tryd.func17 #[.int .i64 G] ?_;(with_reducible refine(recoupref06_Full.calls k G U ag _ A5.out).mono ?_);rintro e w' ⟨rfl,⟨nd,rfl⟩⟩;refine⟨_,rfl,?_⟩))
   go_ret
   exact⟨rfE,hbA HB.out⟩
  ·rw[if_neg c6]at H
   have c6b0:((Go.bits .andNot .u64 a1 U)==0)=false:=beq_eq_false_iff_ne.mpr c6;have c6b1:((Go.bits .andNot .u64 a1 U)!=0)=true:=bne_iff_ne.mpr c6;obtain rfl:=Option.some.inj H
   go_enter Tryd.func75,Tryd.ntmps75
   go_wp2_with (first|((with_reducible refine gD 2 rfl ?_);refine bE 2 #[.int .i64 G,.int .i64 J,.slice L I.length O] 24 ?_;intro ab hg bg hbox hb;have D:=aK (hbox);have aa:=hbS HB hg;have Z:=hbS HB hg;replace HB:=hbB HB hb;clear hb hbox hg;obtain⟨al,am,an,az,a0,a2⟩:=cell3 D)|((with_reducible refine gC 45 rfl ?_);refine cG (some 8) Tryd.func45 #[.agg #[.int .i64 G,.int .i64 J,.slice L I.length O]] ?_;(with_reducible refine(recoupref03_Right.calls G J _ _ I true _ ?side1 ?side2 A3.out).mono ?_);(case side1=>exact kcB Y HB);(case side2=>exact X.out);rintro e bh ⟨rfl,hb⟩;refine⟨_,rfl,?_⟩;replace D:=bkB D hb;replace HB:=hbB HB hb;(try clear hb);obtain⟨ao,ap,aq,a3,a4,a5⟩:=cell3 D)|((with_reducible refine gC 17 rfl ?_);refine cG (some 13) Tryd.func17 #[.int .i64 G] ?_;(with_reducible refine(recoupref06_Full.calls k G U ag _ A5.out).mono ?_);rintro e w' ⟨rfl,⟨nd,rfl⟩⟩;refine⟨_,rfl,?_⟩))
   go_ret
   exact⟨rfE,hbA HB.out⟩
 ·replace c4:=Bool.eq_false_iff.mpr c4;subst c4;rw[if_neg nofT]at H
  obtain rfl:=Option.some.inj H
  go_enter Tryd.func75,Tryd.ntmps75
  go_wp2_with (first|((with_reducible refine gD 2 rfl ?_);refine bE 2 #[.int .i64 G,.int .i64 J,.slice L I.length O] 24 ?_;intro ab hg bi hbox hb;have D:=aK (hbox);have aa:=hbS HB hg;have Z:=hbS HB hg;replace HB:=hbB HB hb;clear hb hbox hg;obtain⟨ar,au,av,a6,a7,a8⟩:=cell3 D)|((with_reducible refine gC 45 rfl ?_);refine cG (some 8) Tryd.func45 #[.agg #[.int .i64 G,.int .i64 J,.slice L I.length O]] ?_;(with_reducible refine(recoupref03_Right.calls G J _ _ I false _ ?side1 ?side2 A3.out).mono ?_);(case side1=>exact kcB Y HB);(case side2=>exact X.out);rintro e bj ⟨rfl,hb⟩;refine⟨_,rfl,?_⟩;replace D:=bkB D hb;replace HB:=hbB HB hb;(try clear hb)))
  go_ret
  exact⟨rfE,hbA HB.out⟩
def recoupref07_Rank.f(k:Nat)(D:Int)(G:Int)(I:List Int)(a1:Int):Option (Int×Int):=(recoupref07_bad.f k D G I a1).bind fun J=>(if J=0 then((recoupref07_rank.f k D G I a1).bind fun L=>(some (L,0)))else(some (0,J)))
theorem recoupref07_Rank.calls(k:Nat)(I:Int)(J:Int)(O:Option Addr)(U:Nat)(D:List Int)(a1:Int)(r1:Int)(r2:Int)(w:World)(aa:Kd.C (Kd.int .u8) w O D.length D)(Z:D.length<=U)(h:recoupref07_Rank.f k I J D a1=some (r1,r2)):
 Calls Tryd.prog 46 #[.agg #[.int .i64 I,.int .i64 J,.slice O D.length U],.int .u64 a1] w fun e w'=>e= .returned (.tuple #[.int .i64 r1,.int .i64 r2])/\Below w.heap.size w w':=by
 have a0:=Tryd.underlying24;have Y:=aK aa;have X:=aK Z;clear aa Z;have HB:=aK (Below.refl w.heap.size w);have H:((recoupref07_bad.f k I J D a1).bind fun L=>(if L=0 then((recoupref07_rank.f k I J D a1).bind fun ab=>(some (ab,0)))else(some (0,L))))=some (r1,r2):=h;clear h;obtain⟨L,A3,H⟩:=bindO H
 (try dsimp only at H)
 by_cases c4:L=0
 ·rw[if_pos c4]at H
  have c4b0:(L==0)=true:=beq_iff_eq.mpr c4;have c4b1:(L !=0)=false:=bne_eq_false_iff_eq.mpr c4;clear c4;obtain⟨ab,A5,H⟩:=bindO H
  (try dsimp only at H)
  obtain⟨rfl,rfl⟩:=zP2 H
  go_enter Tryd.func46,Tryd.ntmps46
  go_wp2_with (first|((with_reducible refine gD 2 rfl ?_);refine bE 2 #[.int .i64 I,.int .i64 J,.slice O D.length U] 24 ?_;intro af hg w6 hbox hb;have G:=aK (hbox);have ae:=hbS HB hg;have ac:=hbS HB hg;replace HB:=hbB HB hb;clear hb hbox hg;obtain⟨am,an,ao,au,av,aw⟩:=cell3 G)|((with_reducible refine gC 75 rfl ?_);refine cG (some 9) Tryd.func75 #[.agg #[.int .i64 I,.int .i64 J,.slice O D.length U],.int .u64 a1] ?_;(with_reducible refine(recoupref07_bad.calls k I J _ _ D a1 L _ ?side1 ?side2 A3.out).mono ?_);(case side1=>exact kcB Y HB);(case side2=>exact X.out);rintro e w8 ⟨rfl,hb⟩;refine⟨_,rfl,?_⟩;replace G:=bkB G hb;replace HB:=hbB HB hb;(try clear hb);obtain⟨ap,aq,ar,ax,ay,az⟩:=cell3 G)|((with_reducible refine gC 47 rfl ?_);refine cG (some 15) Tryd.func47 #[.agg #[.int .i64 I,.int .i64 J,.slice O D.length U],.int .u64 a1] ?_;(with_reducible refine(recoupref07_rank.calls k I J _ _ D a1 ab _ ?side1 ?side2 A5.out).mono ?_);(case side1=>exact kcB Y HB);(case side2=>exact X.out);rintro e a2 ⟨rfl,hb⟩;refine⟨_,rfl,?_⟩;replace G:=bkB G hb;replace HB:=hbB HB hb;(try clear hb)))
  go_ret2
  exact⟨rfE,hbA HB.out⟩
 ·rw[if_neg c4]at H
  have c4b0:(L==0)=false:=beq_eq_false_iff_ne.mpr c4;have c4b1:(L !=0)=true:=bne_iff_ne.mpr c4;obtain⟨rfl,rfl⟩:=zP2 H
  go_enter Tryd.func46,Tryd.ntmps46
  go_wp2_with (first|((with_reducible refine gD 2 rfl ?_);refine bE 2 #[.int .i64 I,.int .i64 J,.slice O D.length U] 24 ?_;intro af hg a3 hbox hb;have G:=aK (hbox);have ae:=hbS HB hg;have ac:=hbS HB hg;replace HB:=hbB HB hb;clear hb hbox hg;obtain⟨ag,ah,ai,aj,ak,al⟩:=cell3 G)|((with_reducible refine gC 75 rfl ?_);refine cG (some 9) Tryd.func75 #[.agg #[.int .i64 I,.int .i64 J,.slice O D.length U],.int .u64 a1] ?_;(with_reducible refine(recoupref07_bad.calls k I J _ _ D a1 L _ ?side1 ?side2 A3.out).mono ?_);(case side1=>exact kcB Y HB);(case side2=>exact X.out);rintro e a4 ⟨rfl,hb⟩;refine⟨_,rfl,?_⟩;replace G:=bkB G hb;replace HB:=hbB HB hb;(try clear hb)))
  go_ret2
  exact⟨rfE,hbA HB.out⟩
def recoupref07_one.f(a0:Int):Option (Int):=if 0<=(IntKind.u64.wrap (a0))then(some (shl .u64 1 (IntKind.u64.wrap (a0))))else(none)
theorem recoupref07_one.calls(a0:Int)(r:Int)(w:World)(h:recoupref07_one.f a0=some r):
 Calls Tryd.prog 48 #[.int .i64 a0] w fun e w'=>e= .returned (.int .u64 r)/\Drawn0 w w':=by
 have H:(if 0<=(IntKind.u64.wrap (a0))then(some (shl .u64 1 (IntKind.u64.wrap (a0))))else(none))=some r:=h;clear h;obtain⟨D,I⟩: ∃j_:Int,(IntKind.u64.wrap (a0))=j_:=⟨_,rfl⟩
 replace H:(if 0<=(D)then(some (shl .u64 1 (D)))else(none))=some r:=by first|(rw[I]at H;exact H)|(simp only[I]at H⊢;exact H)
 by_cases c3:0<=(D)
 ·rw[if_pos c3]at H
  have c3b0:=eq_true c3;have c3b1:decide (0<=(D))=true:=decide_eq_true c3;clear c3;obtain⟨J,G⟩: ∃j_:Int,(shl .u64 1 (D))=j_:=⟨_,rfl⟩
  replace H:(some J)=some r:=by first|(rw[G]at H;exact H)|(simp only[G]at H⊢;exact H)
  have hji4_:(IntKind.u64.wrap (1*2^min (D).toNat 64))=J:=G;have hji4z:(D)<=64->(IntKind.u64.wrap (1*2^(D).toNat))=J:=shl_small G;have hji4u:(IntKind.u64.wrap (2^min (D).toNat 64))=J:=by have h_:=hji4_;rw[Int.one_mul]at h_;exact h_
  have hji4v:(D)<=64->(IntKind.u64.wrap (2^(D).toNat))=J:=fun hle_=>by have h_:=hji4z hle_;rw[Int.one_mul]at h_;exact h_
  obtain rfl:=Option.some.inj H
  go_enter Tryd.func48,Tryd.ntmps48
  go_wp2
  go_ret
  exact⟨by first|rfl|(simp;done)|(simp only[<-I,<-G]<;>(first|rfl|simp))|(simp[*];done),by repeat(first|exact Drawn0.refl _|apply Drawn0.step)⟩
 ·rw[if_neg c3]at H
  exact absurd H zd
mutual
def recoupref07_Span.l0:Nat->Int->Int->Int->Int->Int->Int->Int->List Int->Option (Int×Int)
 |0,_,_,_,_,_,_,_,_=>none
 |k+1,x1,x6,x7,x8,x9,D,G,I=>if x9<D then(recoupref07_Span.j1 k x1 x6 x7 x8 x9 (x7==0) D G I)else(recoupref07_Span.j1 k x1 x6 x7 x8 x9 false D G I)
def recoupref07_Span.j1:Nat->Int->Int->Int->Int->Int->Bool->Int->Int->List Int->Option (Int×Int)
 |0,_,_,_,_,_,_,_,_,_=>none
 |k+1,x1,x6,x7,x8,x9,U,D,G,I=>if U=true then((recoupref07_one.f x9).bind fun J=>((recoupref07_rank.f k D G I (Go.bits .or .u64 x1 J)).bind fun L=>(if L=x6 then((recoupref07_one.f x9).bind fun O=>(recoupref07_Span.l0 k x1 x6 x7 (Go.bits .or .u64 x8 O) (wrap64 (x9+1)) D G I))else(recoupref07_Span.l0 k x1 x6 x7 x8 (wrap64 (x9+1)) D G I))))else(some (x8,x7))
end
def recoupref07_Span.f(k:Nat)(G:Int)(I:Int)(J:List Int)(a1:Int):Option (Int×Int):=(recoupref07_Rank.f k G I J a1).bind fun D=>(recoupref07_Span.l0 k a1 D.1 D.2 0 0 G I J)
def recoupref07_Span.T6:Bool×List (List Nat×List Nat):=(true,[([],[]),([],[]),([],[]),([2],[2]),([1,3],[1,3]),([0,4,3],[0,4]),([],[]),([5,6],[5,6])])
def recoupref07_Span.B6:List Nat:= [0,0,0,4,14,31,0,127]
theorem recoupref07_Span.tab6:rtab .any (opsOf Tryd.f16 6)=recoupref07_Span.T6:=by kernel_rfl
theorem recoupref07_Span.bits6:waitsOk recoupref07_Span.T6.2 recoupref07_Span.B6=true:=by kernel_rfl
theorem recoupref07_Span.calls(k:Nat)(G:Int)(J:Int)(O:Option Addr)(U:Nat)(I:List Int)(a1:Int)(r1:Int)(r2:Int)(w:World)(ay:Kd.C (Kd.int .u8) w O I.length I)(ap:I.length<=U)(h:recoupref07_Span.f k G J I a1=some (r1,r2)):
 Calls Tryd.prog 16 #[.agg #[.int .i64 G,.int .i64 J,.slice O I.length U],.int .u64 a1] w fun e w'=>e= .returned (.tuple #[.int .u64 r1,.int .i64 r2])/\Below w.heap.size w w':=by
 have bi:=Tryd.underlying24;have an:=aK ay;have am:=aK ap;clear ay ap;have HB:=aK (Below.refl w.heap.size w);have H:((recoupref07_Rank.f k G J I a1).bind fun ao=>(recoupref07_Span.l0 k a1 ao.1 ao.2 0 0 G J I))=some (r1,r2):=h;clear h;obtain⟨⟨X,ak⟩,A3,H⟩:=bindO H
 (try dsimp only at H)
 have H':=aK H;clear H
 go_enter Tryd.func16,Tryd.ntmps16
 go_wp2_with (first|((with_reducible refine gD 2 rfl ?_);refine bE 2 #[.int .i64 G,.int .i64 J,.slice O I.length U] 24 ?_;intro Y hg w4 hbox hb;have D:=aK (hbox);have bg:=hbS HB hg;have bf:=hbS HB hg;replace HB:=hbB HB hb;clear hb hbox hg;obtain⟨ae,af,ag,ah,ai,aj⟩:=cell3 D)|((with_reducible refine gC 46 rfl ?_);refine cG (some 13) Tryd.func46 #[.agg #[.int .i64 G,.int .i64 J,.slice O I.length U],.int .u64 a1] ?_;(with_reducible refine(recoupref07_Rank.calls k G J _ _ I a1 X ak _ ?side1 ?side2 A3.out).mono ?_);(case side1=>exact kcB an HB);(case side2=>exact am.out);rintro e w6 ⟨rfl,hb⟩;refine⟨_,rfl,?_⟩;replace D:=bkB D hb;replace HB:=hbB HB hb;(try clear hb)))
 go_loopg [8,9] k (fun kq v8 v9 w'=> ∃(aa:Int) (L:Int),v8= .int .u64 aa/\v9= .int .i64 L/\Aside0 (recoupref07_Span.l0 kq a1 X ak aa L G J I=some (r1,r2))/\Aside0 (kq<=k)/\Aside0 (w'.heap[Y]? =some (.cells #[.int .i64 G,.int .i64 J,(.slice O I.length U)] 24 (0,0)))/\Aside0 (Below w.heap.size w w'))
 case atStart=>exact⟨(0),(0),rsE,rsE,H',⟨Nat.le_refl _⟩,⟨bkA D.out⟩,⟨hbA HB.out⟩⟩
 case round=>
  clear H'
  (try clear c1);(try clear p2);(try clear c4);(try clear ae af ag ah ai aj)
  obtain⟨aa,L,rfl,rfl,HA,al,D,HB⟩:=hrel
  cases gk with
  |zero=>exact absurd HA.out (by simp[recoupref07_Span.l0])
  |succ k1=>
   have H:=HA.out;clear HA;simp only[recoupref07_Span.l0]at H;have ba:=aK H;clear H
   go_upto_region 4 with(fail)
   go_cut [23] (fun bh wc=> ∃(kq:Nat) (ab:Bool),bh= .bool ab/\Aside0 (recoupref07_Span.j1 kq a1 X ak aa L ab G J I=some (r1,r2))/\Aside0 (kq<=k1)/\Aside0 (wc.heap[Y]? =some (.cells #[.int .i64 G,.int .i64 J,(.slice O I.length U)] 24 (0,0)))/\Aside0 (Below w.heap.size w wc))
   case first=>
    have H:=ba.out;clear ba;by_cases c8:L<G
    case neg=>
     rw[if_neg c8]at H
     have c8b0:decide (L<G)=false:=decide_eq_false c8;clear c8
     (first|rw[c8b0] |(simp only[i64_w,i32_w];rw[c8b0])|skip)
     have H':=aK H;clear H;obtain⟨aq,ar,au,av,aw,ax⟩:=cell3 D;go_wp2
     go_meet
     case rel=>exact⟨_,(false),rsE,H',⟨by have:=al.out;first|omega|exact Nat.le_refl _⟩,⟨bkA D.out⟩,⟨hbA HB.out⟩⟩
    rw[if_pos c8]at H
    have c8b0:decide (L<G)=true:=decide_eq_true c8;clear c8
    (first|rw[c8b0] |(simp only[i64_w,i32_w];rw[c8b0])|skip)
    have H':=aK H;clear H;obtain⟨a3,a4,a5,a6,a7,a8⟩:=cell3 D;go_wp2
    go_meet
    case rel=>exact⟨_,((ak==0)),rsE,H',⟨by have:=al.out;first|omega|exact Nat.le_refl _⟩,⟨bkA D.out⟩,⟨hbA HB.out⟩⟩
   case rest=>
    clear ba
    (try clear c1);(try clear p2 p2);(try clear c4);(try clear c8);(try clear c8b0);(try clear aq ar au av aw ax);(try clear ae af ag ah ai aj);(try clear a3 a4 a5 a6 a7 a8)
    obtain⟨kq,ab,rfl,HA,a0,D,HB⟩:=hcut
    cases kq with
    |zero=>exact absurd HA.out (by simp[recoupref07_Span.j1])
    |succ bb=>
     have H:=HA.out;clear HA;simp only[recoupref07_Span.j1]at H;by_cases a2:ab=true
     case neg=>
      replace a2:=Bool.eq_false_iff.mpr a2;subst a2;rw[if_neg nofT]at H
      obtain⟨rfl,rfl⟩:=zP2 H;go_wp2
      go_ret2
      exact⟨rfE,hbA HB.out⟩
     subst a2;rw[if_pos rfl]at H
     obtain⟨az,bc,H⟩:=bindO H
     (try dsimp only at H)
     obtain⟨Z,bd,H⟩:=bindO H
     (try dsimp only at H)
     try go_wp2
     replace D:=aK (blk_drew D.out);replace HB:=aK (below_drew1 HB.out);refine start_ (n:=8) (S:=fun w'=>w'.cell? ⟨Y,0,none⟩=some (.int .i64 G)/\w'.cell? ⟨Y,1,none⟩=some (.int .i64 J)/\w'.cell? ⟨Y,2,none⟩=some (.slice O I.length U)) (ds:= []) (.replicate 8 false) zb rfl rfl (z3c D) (fun hHeld=>?_);refine with_tabW recoupref07_Span.tab6 recoupref07_Span.bits6 (fun HT_ HW_=>?_);generalize wc.drew=bk at D HB hHeld⊢;refine pu 1 (some 27) (mB 8 2) HT_ ?_;refine pu 2 (some 28) (mB 8 6) HT_ ?_;refine pu 6 (some 32) (mB 8 70) HT_ ?_;refine tk3 0 (some 26) (mB 8 71) HT_ HW_ hHeld ?_;refine zoh 3 (some 29) (mB 8 79) HT_ fun K hK=>?_;refine goes_ Tryd.func48 zb rfl #[.int .i64 L] ze rfl rfl (by(try simp only[List.map_toArray,List.map_cons,List.map_nil]);first|done|rfl|(simp only[List.length_drop,List.length_take];rfl)) ?_;with_reducible refine(recoupref07_one.calls L az _ bc.out).mono ?_
     rintro e w' ⟨rfl,⟨nd,rfl⟩⟩;refine⟨_,rfl,?_⟩;refine hK.out _ _ (z3c D) (fun hHeld=>?_);clear hK K;refine znm (some 29) ?_;refine pu 4 (some 30) (mB 8 95) HT_ ?_;refine zoh 5 (some 31) (mB 8 127) HT_ fun K hK=>?_;refine goes_ Tryd.func47 zb rfl #[.agg #[.int .i64 G,.int .i64 J,.slice O I.length U],.int .u64 (Go.bits .or .u64 a1 az)] ze rfl rfl (by(try simp only[List.map_toArray,List.map_cons,List.map_nil]);first|done|rfl|(simp only[List.length_drop,List.length_take];rfl)) ?_;with_reducible refine(recoupref07_rank.calls bb G J _ _ I (Go.bits .or .u64 a1 az) Z _ ?side1 ?side2 bd.out).mono ?_
     (case side1=>repeat(first|exact(Kd.C_below an.out (hbA HB.out))|(with_reducible refine Kd.C_alloc ?_ _)|(with_reducible refine Kd.C_drewN ?_ _)|(with_reducible refine Kd.C_drew ?_)))
     (case side2=>exact am.out)
     rintro e bl ⟨rfl,hb⟩;refine⟨_,rfl,?_⟩;replace D:=bkB D hb;replace HB:=hbB HB hb
     (try clear hb)
     (try clear bj)
     (try clear hk)
     (try clear hi)
     refine hK.out _ _ (z3c D) (fun hHeld=>?_);clear hK K;refine znm (some 31) ?_;refine pu 7 (some 33) (mB 8 255) HT_ ?_;refine done_ (done_of HT_.out zb) ?_;by_cases ac:Z=X
     case neg=>
      rw[if_neg ac]at H
      have c14b0:(Z==X)=false:=beq_eq_false_iff_ne.mpr ac;have c14b1:(Z !=X)=true:=bne_iff_ne.mpr ac;have H':=aK H;clear H
      try go_wp2
      go_roundg bb
      case measure=>have:=al.out;have:=a0.out;omega
      case rel=>exact⟨(aa),(wrap64 (L+1)),rsE,rsE,H',⟨by have:=al.out;have:=a0.out;omega⟩,⟨bkA D.out⟩,⟨hbA HB.out⟩⟩
     rw[if_pos ac]at H
     have c14b0:(Z==X)=true:=beq_iff_eq.mpr ac;have c14b1:(Z !=X)=false:=bne_eq_false_iff_eq.mpr ac;clear ac;obtain⟨a9,be,H⟩:=bindO H
     (try dsimp only at H)
     have H':=aK H;clear H
     try go_wp2_with (first|((with_reducible refine gC 48 rfl ?_);refine cG (some 36) Tryd.func48 #[.int .i64 L] ?_;(with_reducible refine(recoupref07_one.calls L a9 _ be.out).mono ?_);rintro e w' ⟨rfl,⟨nd,rfl⟩⟩;refine⟨_,rfl,?_⟩))
     go_roundg bb
     case measure=>have:=al.out;have:=a0.out;omega
     case rel=>exact⟨(Go.bits .or .u64 aa a9),(wrap64 (L+1)),rsE,rsE,H',⟨by have:=al.out;have:=a0.out;omega⟩,⟨bkA D.out⟩,⟨hbA HB.out⟩⟩
def bits_OnesCount64.f(a0:Int):Option (Int):=some (Go.bits .and .i64 (wrap64 (IntKind.u64.wrap ((IntKind.u64.wrap ((IntKind.u64.wrap ((Go.bits .and .u64 (IntKind.u64.wrap (((IntKind.u64.wrap ((Go.bits .and .u64 ((IntKind.u64.wrap ((Go.bits .and .u64 (a0 / 2) 6148914691236517205)+(Go.bits .and .u64 a0 6148914691236517205))) / 4) 3689348814741910323)+(Go.bits .and .u64 (IntKind.u64.wrap ((Go.bits .and .u64 (a0 / 2) 6148914691236517205)+(Go.bits .and .u64 a0 6148914691236517205))) 3689348814741910323))) / 16)+(IntKind.u64.wrap ((Go.bits .and .u64 ((IntKind.u64.wrap ((Go.bits .and .u64 (a0 / 2) 6148914691236517205)+(Go.bits .and .u64 a0 6148914691236517205))) / 4) 3689348814741910323)+(Go.bits .and .u64 (IntKind.u64.wrap ((Go.bits .and .u64 (a0 / 2) 6148914691236517205)+(Go.bits .and .u64 a0 6148914691236517205))) 3689348814741910323))))) 1085102592571150095)+((Go.bits .and .u64 (IntKind.u64.wrap (((IntKind.u64.wrap ((Go.bits .and .u64 ((IntKind.u64.wrap ((Go.bits .and .u64 (a0 / 2) 6148914691236517205)+(Go.bits .and .u64 a0 6148914691236517205))) / 4) 3689348814741910323)+(Go.bits .and .u64 (IntKind.u64.wrap ((Go.bits .and .u64 (a0 / 2) 6148914691236517205)+(Go.bits .and .u64 a0 6148914691236517205))) 3689348814741910323))) / 16)+(IntKind.u64.wrap ((Go.bits .and .u64 ((IntKind.u64.wrap ((Go.bits .and .u64 (a0 / 2) 6148914691236517205)+(Go.bits .and .u64 a0 6148914691236517205))) / 4) 3689348814741910323)+(Go.bits .and .u64 (IntKind.u64.wrap ((Go.bits .and .u64 (a0 / 2) 6148914691236517205)+(Go.bits .and .u64 a0 6148914691236517205))) 3689348814741910323))))) 1085102592571150095) / 256)))+((IntKind.u64.wrap ((Go.bits .and .u64 (IntKind.u64.wrap (((IntKind.u64.wrap ((Go.bits .and .u64 ((IntKind.u64.wrap ((Go.bits .and .u64 (a0 / 2) 6148914691236517205)+(Go.bits .and .u64 a0 6148914691236517205))) / 4) 3689348814741910323)+(Go.bits .and .u64 (IntKind.u64.wrap ((Go.bits .and .u64 (a0 / 2) 6148914691236517205)+(Go.bits .and .u64 a0 6148914691236517205))) 3689348814741910323))) / 16)+(IntKind.u64.wrap ((Go.bits .and .u64 ((IntKind.u64.wrap ((Go.bits .and .u64 (a0 / 2) 6148914691236517205)+(Go.bits .and .u64 a0 6148914691236517205))) / 4) 3689348814741910323)+(Go.bits .and .u64 (IntKind.u64.wrap ((Go.bits .and .u64 (a0 / 2) 6148914691236517205)+(Go.bits .and .u64 a0 6148914691236517205))) 3689348814741910323))))) 1085102592571150095)+((Go.bits .and .u64 (IntKind.u64.wrap (((IntKind.u64.wrap ((Go.bits .and .u64 ((IntKind.u64.wrap ((Go.bits .and .u64 (a0 / 2) 6148914691236517205)+(Go.bits .and .u64 a0 6148914691236517205))) / 4) 3689348814741910323)+(Go.bits .and .u64 (IntKind.u64.wrap ((Go.bits .and .u64 (a0 / 2) 6148914691236517205)+(Go.bits .and .u64 a0 6148914691236517205))) 3689348814741910323))) / 16)+(IntKind.u64.wrap ((Go.bits .and .u64 ((IntKind.u64.wrap ((Go.bits .and .u64 (a0 / 2) 6148914691236517205)+(Go.bits .and .u64 a0 6148914691236517205))) / 4) 3689348814741910323)+(Go.bits .and .u64 (IntKind.u64.wrap ((Go.bits .and .u64 (a0 / 2) 6148914691236517205)+(Go.bits .and .u64 a0 6148914691236517205))) 3689348814741910323))))) 1085102592571150095) / 256))) / 65536)))+((IntKind.u64.wrap ((IntKind.u64.wrap ((Go.bits .and .u64 (IntKind.u64.wrap (((IntKind.u64.wrap ((Go.bits .and .u64 ((IntKind.u64.wrap ((Go.bits .and .u64 (a0 / 2) 6148914691236517205)+(Go.bits .and .u64 a0 6148914691236517205))) / 4) 3689348814741910323)+(Go.bits .and .u64 (IntKind.u64.wrap ((Go.bits .and .u64 (a0 / 2) 6148914691236517205)+(Go.bits .and .u64 a0 6148914691236517205))) 3689348814741910323))) / 16)+(IntKind.u64.wrap ((Go.bits .and .u64 ((IntKind.u64.wrap ((Go.bits .and .u64 (a0 / 2) 6148914691236517205)+(Go.bits .and .u64 a0 6148914691236517205))) / 4) 3689348814741910323)+(Go.bits .and .u64 (IntKind.u64.wrap ((Go.bits .and .u64 (a0 / 2) 6148914691236517205)+(Go.bits .and .u64 a0 6148914691236517205))) 3689348814741910323))))) 1085102592571150095)+((Go.bits .and .u64 (IntKind.u64.wrap (((IntKind.u64.wrap ((Go.bits .and .u64 ((IntKind.u64.wrap ((Go.bits .and .u64 (a0 / 2) 6148914691236517205)+(Go.bits .and .u64 a0 6148914691236517205))) / 4) 3689348814741910323)+(Go.bits .and .u64 (IntKind.u64.wrap ((Go.bits .and .u64 (a0 / 2) 6148914691236517205)+(Go.bits .and .u64 a0 6148914691236517205))) 3689348814741910323))) / 16)+(IntKind.u64.wrap ((Go.bits .and .u64 ((IntKind.u64.wrap ((Go.bits .and .u64 (a0 / 2) 6148914691236517205)+(Go.bits .and .u64 a0 6148914691236517205))) / 4) 3689348814741910323)+(Go.bits .and .u64 (IntKind.u64.wrap ((Go.bits .and .u64 (a0 / 2) 6148914691236517205)+(Go.bits .and .u64 a0 6148914691236517205))) 3689348814741910323))))) 1085102592571150095) / 256)))+((IntKind.u64.wrap ((Go.bits .and .u64 (IntKind.u64.wrap (((IntKind.u64.wrap ((Go.bits .and .u64 ((IntKind.u64.wrap ((Go.bits .and .u64 (a0 / 2) 6148914691236517205)+(Go.bits .and .u64 a0 6148914691236517205))) / 4) 3689348814741910323)+(Go.bits .and .u64 (IntKind.u64.wrap ((Go.bits .and .u64 (a0 / 2) 6148914691236517205)+(Go.bits .and .u64 a0 6148914691236517205))) 3689348814741910323))) / 16)+(IntKind.u64.wrap ((Go.bits .and .u64 ((IntKind.u64.wrap ((Go.bits .and .u64 (a0 / 2) 6148914691236517205)+(Go.bits .and .u64 a0 6148914691236517205))) / 4) 3689348814741910323)+(Go.bits .and .u64 (IntKind.u64.wrap ((Go.bits .and .u64 (a0 / 2) 6148914691236517205)+(Go.bits .and .u64 a0 6148914691236517205))) 3689348814741910323))))) 1085102592571150095)+((Go.bits .and .u64 (IntKind.u64.wrap (((IntKind.u64.wrap ((Go.bits .and .u64 ((IntKind.u64.wrap ((Go.bits .and .u64 (a0 / 2) 6148914691236517205)+(Go.bits .and .u64 a0 6148914691236517205))) / 4) 3689348814741910323)+(Go.bits .and .u64 (IntKind.u64.wrap ((Go.bits .and .u64 (a0 / 2) 6148914691236517205)+(Go.bits .and .u64 a0 6148914691236517205))) 3689348814741910323))) / 16)+(IntKind.u64.wrap ((Go.bits .and .u64 ((IntKind.u64.wrap ((Go.bits .and .u64 (a0 / 2) 6148914691236517205)+(Go.bits .and .u64 a0 6148914691236517205))) / 4) 3689348814741910323)+(Go.bits .and .u64 (IntKind.u64.wrap ((Go.bits .and .u64 (a0 / 2) 6148914691236517205)+(Go.bits .and .u64 a0 6148914691236517205))) 3689348814741910323))))) 1085102592571150095) / 256))) / 65536))) / 4294967296)))) 127)
theorem bits_OnesCount64.calls(a0:Int)(r:Int)(w:World)(h:bits_OnesCount64.f a0=some r):
 Calls Tryd.prog 79 #[.int .u64 a0] w fun e w'=>e= .returned (.int .i64 r)/\Drawn0 w w':=by
 have H:(some (Go.bits .and .i64 (wrap64 (IntKind.u64.wrap ((IntKind.u64.wrap ((IntKind.u64.wrap ((Go.bits .and .u64 (IntKind.u64.wrap (((IntKind.u64.wrap ((Go.bits .and .u64 ((IntKind.u64.wrap ((Go.bits .and .u64 (a0 / 2) 6148914691236517205)+(Go.bits .and .u64 a0 6148914691236517205))) / 4) 3689348814741910323)+(Go.bits .and .u64 (IntKind.u64.wrap ((Go.bits .and .u64 (a0 / 2) 6148914691236517205)+(Go.bits .and .u64 a0 6148914691236517205))) 3689348814741910323))) / 16)+(IntKind.u64.wrap ((Go.bits .and .u64 ((IntKind.u64.wrap ((Go.bits .and .u64 (a0 / 2) 6148914691236517205)+(Go.bits .and .u64 a0 6148914691236517205))) / 4) 3689348814741910323)+(Go.bits .and .u64 (IntKind.u64.wrap ((Go.bits .and .u64 (a0 / 2) 6148914691236517205)+(Go.bits .and .u64 a0 6148914691236517205))) 3689348814741910323))))) 1085102592571150095)+((Go.bits .and .u64 (IntKind.u64.wrap (((IntKind.u64.wrap ((Go.bits .and .u64 ((IntKind.u64.wrap ((Go.bits .and .u64 (a0 / 2) 6148914691236517205)+(Go.bits .and .u64 a0 6148914691236517205))) / 4) 3689348814741910323)+(Go.bits .and .u64 (IntKind.u64.wrap ((Go.bits .and .u64 (a0 / 2) 6148914691236517205)+(Go.bits .and .u64 a0 6148914691236517205))) 3689348814741910323))) / 16)+(IntKind.u64.wrap ((Go.bits .and .u64 ((IntKind.u64.wrap ((Go.bits .and .u64 (a0 / 2) 6148914691236517205)+(Go.bits .and .u64 a0 6148914691236517205))) / 4) 3689348814741910323)+(Go.bits .and .u64 (IntKind.u64.wrap ((Go.bits .and .u64 (a0 / 2) 6148914691236517205)+(Go.bits .and .u64 a0 6148914691236517205))) 3689348814741910323))))) 1085102592571150095) / 256)))+((IntKind.u64.wrap ((Go.bits .and .u64 (IntKind.u64.wrap (((IntKind.u64.wrap ((Go.bits .and .u64 ((IntKind.u64.wrap ((Go.bits .and .u64 (a0 / 2) 6148914691236517205)+(Go.bits .and .u64 a0 6148914691236517205))) / 4) 3689348814741910323)+(Go.bits .and .u64 (IntKind.u64.wrap ((Go.bits .and .u64 (a0 / 2) 6148914691236517205)+(Go.bits .and .u64 a0 6148914691236517205))) 3689348814741910323))) / 16)+(IntKind.u64.wrap ((Go.bits .and .u64 ((IntKind.u64.wrap ((Go.bits .and .u64 (a0 / 2) 6148914691236517205)+(Go.bits .and .u64 a0 6148914691236517205))) / 4) 3689348814741910323)+(Go.bits .and .u64 (IntKind.u64.wrap ((Go.bits .and .u64 (a0 / 2) 6148914691236517205)+(Go.bits .and .u64 a0 6148914691236517205))) 3689348814741910323))))) 1085102592571150095)+((Go.bits .and .u64 (IntKind.u64.wrap (((IntKind.u64.wrap ((Go.bits .and .u64 ((IntKind.u64.wrap ((Go.bits .and .u64 (a0 / 2) 6148914691236517205)+(Go.bits .and .u64 a0 6148914691236517205))) / 4) 3689348814741910323)+(Go.bits .and .u64 (IntKind.u64.wrap ((Go.bits .and .u64 (a0 / 2) 6148914691236517205)+(Go.bits .and .u64 a0 6148914691236517205))) 3689348814741910323))) / 16)+(IntKind.u64.wrap ((Go.bits .and .u64 ((IntKind.u64.wrap ((Go.bits .and .u64 (a0 / 2) 6148914691236517205)+(Go.bits .and .u64 a0 6148914691236517205))) / 4) 3689348814741910323)+(Go.bits .and .u64 (IntKind.u64.wrap ((Go.bits .and .u64 (a0 / 2) 6148914691236517205)+(Go.bits .and .u64 a0 6148914691236517205))) 3689348814741910323))))) 1085102592571150095) / 256))) / 65536)))+((IntKind.u64.wrap ((IntKind.u64.wrap ((Go.bits .and .u64 (IntKind.u64.wrap (((IntKind.u64.wrap ((Go.bits .and .u64 ((IntKind.u64.wrap ((Go.bits .and .u64 (a0 / 2) 6148914691236517205)+(Go.bits .and .u64 a0 6148914691236517205))) / 4) 3689348814741910323)+(Go.bits .and .u64 (IntKind.u64.wrap ((Go.bits .and .u64 (a0 / 2) 6148914691236517205)+(Go.bits .and .u64 a0 6148914691236517205))) 3689348814741910323))) / 16)+(IntKind.u64.wrap ((Go.bits .and .u64 ((IntKind.u64.wrap ((Go.bits .and .u64 (a0 / 2) 6148914691236517205)+(Go.bits .and .u64 a0 6148914691236517205))) / 4) 3689348814741910323)+(Go.bits .and .u64 (IntKind.u64.wrap ((Go.bits .and .u64 (a0 / 2) 6148914691236517205)+(Go.bits .and .u64 a0 6148914691236517205))) 3689348814741910323))))) 1085102592571150095)+((Go.bits .and .u64 (IntKind.u64.wrap (((IntKind.u64.wrap ((Go.bits .and .u64 ((IntKind.u64.wrap ((Go.bits .and .u64 (a0 / 2) 6148914691236517205)+(Go.bits .and .u64 a0 6148914691236517205))) / 4) 3689348814741910323)+(Go.bits .and .u64 (IntKind.u64.wrap ((Go.bits .and .u64 (a0 / 2) 6148914691236517205)+(Go.bits .and .u64 a0 6148914691236517205))) 3689348814741910323))) / 16)+(IntKind.u64.wrap ((Go.bits .and .u64 ((IntKind.u64.wrap ((Go.bits .and .u64 (a0 / 2) 6148914691236517205)+(Go.bits .and .u64 a0 6148914691236517205))) / 4) 3689348814741910323)+(Go.bits .and .u64 (IntKind.u64.wrap ((Go.bits .and .u64 (a0 / 2) 6148914691236517205)+(Go.bits .and .u64 a0 6148914691236517205))) 3689348814741910323))))) 1085102592571150095) / 256)))+((IntKind.u64.wrap ((Go.bits .and .u64 (IntKind.u64.wrap (((IntKind.u64.wrap ((Go.bits .and .u64 ((IntKind.u64.wrap ((Go.bits .and .u64 (a0 / 2) 6148914691236517205)+(Go.bits .and .u64 a0 6148914691236517205))) / 4) 3689348814741910323)+(Go.bits .and .u64 (IntKind.u64.wrap ((Go.bits .and .u64 (a0 / 2) 6148914691236517205)+(Go.bits .and .u64 a0 6148914691236517205))) 3689348814741910323))) / 16)+(IntKind.u64.wrap ((Go.bits .and .u64 ((IntKind.u64.wrap ((Go.bits .and .u64 (a0 / 2) 6148914691236517205)+(Go.bits .and .u64 a0 6148914691236517205))) / 4) 3689348814741910323)+(Go.bits .and .u64 (IntKind.u64.wrap ((Go.bits .and .u64 (a0 / 2) 6148914691236517205)+(Go.bits .and .u64 a0 6148914691236517205))) 3689348814741910323))))) 1085102592571150095)+((Go.bits .and .u64 (IntKind.u64.wrap (((IntKind.u64.wrap ((Go.bits .and .u64 ((IntKind.u64.wrap ((Go.bits .and .u64 (a0 / 2) 6148914691236517205)+(Go.bits .and .u64 a0 6148914691236517205))) / 4) 3689348814741910323)+(Go.bits .and .u64 (IntKind.u64.wrap ((Go.bits .and .u64 (a0 / 2) 6148914691236517205)+(Go.bits .and .u64 a0 6148914691236517205))) 3689348814741910323))) / 16)+(IntKind.u64.wrap ((Go.bits .and .u64 ((IntKind.u64.wrap ((Go.bits .and .u64 (a0 / 2) 6148914691236517205)+(Go.bits .and .u64 a0 6148914691236517205))) / 4) 3689348814741910323)+(Go.bits .and .u64 (IntKind.u64.wrap ((Go.bits .and .u64 (a0 / 2) 6148914691236517205)+(Go.bits .and .u64 a0 6148914691236517205))) 3689348814741910323))))) 1085102592571150095) / 256))) / 65536))) / 4294967296)))) 127))=some r:=h
 clear h;obtain rfl:=Option.some.inj H
 go_enter Tryd.func79,Tryd.ntmps79
 go_wp2
 go_ret
 exact zD
def subset_Count.f(a0:Int):Option (Int):=(bits_OnesCount64.f a0).bind fun D=>(some D)
theorem subset_Count.calls(a0:Int)(r:Int)(w:World)(h:subset_Count.f a0=some r):
 Calls Tryd.prog 52 #[.int .u64 a0] w fun e w'=>e= .returned (.int .i64 r)/\Drawn0 w w':=by
 have H:((bits_OnesCount64.f a0).bind fun D=>(some D))=some r:=h;clear h;obtain⟨D,A2,H⟩:=bindO H
 (try dsimp only at H)
 obtain rfl:=Option.some.inj H
 go_enter Tryd.func52,Tryd.ntmps52
 go_wp2_with (first|((with_reducible refine gC 79 rfl ?_);refine cG (some 4) Tryd.func79 #[.int .u64 a0] ?_;(with_reducible refine(bits_OnesCount64.calls a0 D _ A2.out).mono ?_);rintro e w' ⟨rfl,⟨nd,rfl⟩⟩;refine⟨_,rfl,?_⟩))
 go_ret
 exact zD
def subset_choose.inner(row:List Int):Nat->List Int
 |0=>row
 |j+1=>subset_choose.inner (row.set (j+1) (wrap64 (row.getD (j+1) 0+row.getD j 0))) j
def subset_choose.rows:Nat->List Int
 |0=>(List.replicate 65 0).set 0 1
 |i+1=>subset_choose.inner (subset_choose.rows i) (i+1)
def subset_choose.f(n k:Int):Option Int:=
 if k<0 then some 0 else if k>n then some 0 else if n<=64 then some ((subset_choose.rows n.toNat).getD k.toNat 0)else none
theorem subset_choose.block_set{W:World}{g:Nat}{row:List Int}(j:Nat)(x:Int)(h:W.heap[g]? =some (.cells (nums .i64 row).toArray 133 (0,0))):(W.setCell ⟨g,j,none⟩ (.int .i64 x)).heap[g]? =some (.cells (nums .i64 (row.set j x)).toArray 133 (0,0)):=
 (blk_set h j _).trans (by simp[nums,List.map_set])
theorem subset_choose.block_cell{W:World}{g:Nat}{row:List Int}(h:W.heap[g]? =some (.cells (nums .i64 row).toArray 133 (0,0)))(j:Nat)(hj:j<row.length):W.cell? ⟨g,j,none⟩=some (.int .i64 (row.getD j 0)):=by
 rw[blk_cell h j];simp[nums,List.getElem?_eq_getElem hj,List.getD_eq_getElem?_getD]
theorem subset_choose.inner_length(j:Nat): ∀row:List Int,(subset_choose.inner row j).length=row.length:=by
 induction j with
 |zero=>intro row;rfl
 |succ j ih=>intro row;unfold subset_choose.inner;rw[ih,List.length_set]
theorem subset_choose.rows_length(i:Nat):(subset_choose.rows i).length=65:=by
 induction i with
 |zero=>rfl
 |succ i ih=>unfold subset_choose.rows;rw[subset_choose.inner_length,ih]
def Z65:Array Value:=Array.replicate 65 (.int .i64 0)
theorem zero65(w:World):(zeroValue 133).run Tryd.prog w= .ok (.agg Z65) w:=by kernel_rfl
theorem cellZ65(w:World):(w.alloc (.cells Z65 133)).cell? ⟨w.heap.size,0,none⟩=some (.int .i64 0):=(blk_cell (blk_new w _) 0).trans rfl
theorem subset_choose.calls(a0 a1:Int)(r:Int)(w:World)(h:subset_choose.f a0 a1=some r):
 Calls Tryd.prog 81 #[.int .i64 a0,.int .i64 a1] w fun e w'=>e= .returned (.int .i64 r)/\Below w.heap.size w w':=by
 unfold subset_choose.f at h;by_cases c1:a1<0
 ·rw[if_pos c1]at h
  obtain rfl:=Option.some.inj h;clear h
  go_enter Tryd.func81,Tryd.ntmps81
  go_wp2
  go_ret
  exact⟨rfl,Below.refl _ _⟩
 rw[if_neg c1]at h
 by_cases c2:a1>a0
 ·rw[if_pos c2]at h
  obtain rfl:=Option.some.inj h;clear h
  go_enter Tryd.func81,Tryd.ntmps81
  go_wp2
  go_ret
  exact⟨rfl,Below.refl _ _⟩
 rw[if_neg c2]at h
 by_cases c3:a0<=64
 case neg=>
  rw[if_neg c3]at h
  cases h
 rw[if_pos c3]at h
 have H:=aK (Option.some.inj h);clear h;have hz:=zero65;have J:=cellZ65 w
 go_enter Tryd.func81,Tryd.ntmps81
 go_wp2_with fail
 go_loopw [17] (fun v wr=> ∃i:Nat,i<=a0.toNat/\v= .int .i64 i/\Aside0 (wr.heap[w.heap.size]? =some (.cells (nums .i64 (subset_choose.rows i)).toArray 133 (0,0)))/\Aside0 (Below w.heap.size w wr)) (fun v _=>a0.toNat-(intOf v).toNat)
 case atStart=>exact⟨0,Nat.zero_le _,rfl,⟨(blk_new w _).trans rfl⟩,⟨below_alloc (Below.refl _ _) _⟩⟩
 case round=>
  obtain⟨i,hi,rfl,HW,HB⟩:=hrel;by_cases hlt:i<a0.toNat
  case neg=>
   have hlt': ¬(i:Int)<a0:=by omega
   obtain rfl:i=a0.toNat:=by omega
   have D:a1.toNat<(subset_choose.rows a0.toNat).length:=by rw[subset_choose.rows_length];omega
   have hA:=subset_choose.block_cell HW.out a1.toNat D;have G:a1<65:=by omega
   have I:0<=a1:=by omega
   clear D;go_wp2
   go_ret
   have e:=H.out;rw[List.getD_eq_getElem?_getD]at e
   rw[<-e];exact⟨rfl,HB.out⟩
  have hlt':(i:Int)<a0:=by omega
  go_wp2_with fail
  obtain⟨wo,hwo⟩: ∃wo:World,wo=wr:=⟨_,rfl⟩
  subst hwo
  go_loopw [7] (fun v wx=> ∃(j:Nat) (row:List Int),j<=i+1/\v= .int .i64 j/\row.length=65/\Aside0 (subset_choose.inner row j=subset_choose.rows (i+1))/\Aside0 (wx.heap[w.heap.size]? =some (.cells (nums .i64 row).toArray 133 (0,0)))/\Aside0 (Below w.heap.size w wx)) (fun v _=>(intOf v).toNat)
  case atStart=>exact⟨i+1,_,Nat.le_refl _,by go_num,subset_choose.rows_length i,⟨rfl⟩,HW,HB⟩
  case round=>
   obtain⟨j,row,hj,rfl,hl,HI,HX,HBx⟩:=hrel
   cases j with
   |zero=>
    go_wp2
    go_roundw
    case rel=>exact⟨i+1,hlt,by go_num,⟨by rw[<-HI.out];exact HX.out⟩,HBx⟩
    case measure=>simp[intOf];omega
   |succ j=>
    have hA:=subset_choose.block_cell HX.out (j+1) za;have hA':=subset_choose.block_cell HX.out j za;have hF:=blk_frozen HX.out (j+1);have hl:=aK hl;have G:(j:Int)+1<65:=by omega
    have hs: ∀i x,wr.cell? ⟨w.heap.size,i,none⟩=some x->True:=fun _ _ _=>trivial;clear hs
    go_wp2_with fail
    go_region
    go_wp2
    go_roundw
    case rel=>exact⟨j,row.set (j+1) (wrap64 (row.getD (j+1) 0+row.getD j 0)),by omega,by go_num,by rw[List.length_set];exact hl.out,⟨by rw[<-HI.out];rfl⟩,⟨subset_choose.block_set _ _ HX.out⟩,⟨below_drew (HBx.out.setCell (Nat.le_refl _) _)⟩⟩
    case measure=>first|(simp[intOf];done)|(simp[intOf];omega)
def subset_Upto.l0:Nat->Int->Int->Int->Int->Option (Int×Int)
 |0,_,_,_,_=>none
 |k+1,x0,x1,x6,x7=>if x7<=(mn x0 x1)then((subset_choose.f x0 x7).bind fun D=>(if(wrap64 (x6+D))>4611686018427387904 then(some (0,4))else(subset_Upto.l0 k x0 x1 (wrap64 (x6+D)) (wrap64 (x7+1)))))else(some (x6,0))
def subset_Upto.f(k:Nat)(a0:Int)(a1:Int):Option (Int×Int):=(subset_may.f a0).bind fun D=>(if D=true then(subset_Upto.l0 k a0 a1 0 0)else(some (0,2)))
theorem subset_Upto.calls(k:Nat)(a0:Int)(a1:Int)(r1:Int)(r2:Int)(w:World)(h:subset_Upto.f k a0 a1=some (r1,r2)):
 Calls Tryd.prog 53 #[.int .i64 a0,.int .i64 a1] w fun e w'=>e= .returned (.tuple #[.int .i64 r1,.int .i64 r2])/\Below w.heap.size w w':=by
 have HB:=aK (Below.refl w.heap.size w);have H:((subset_may.f a0).bind fun O=>(if O=true then(subset_Upto.l0 k a0 a1 0 0)else(some (0,2))))=some (r1,r2):=h;clear h;obtain⟨O,A3,H⟩:=bindO H
 (try dsimp only at H)
 by_cases c4:O=true
 case neg=>
  replace c4:=Bool.eq_false_iff.mpr c4;subst c4;rw[if_neg nofT]at H
  obtain⟨rfl,rfl⟩:=zP2 H
  go_enter Tryd.func53,Tryd.ntmps53
  go_wp2_with (first|((with_reducible refine gC 80 rfl ?_);refine cG (some 9) Tryd.func80 #[.int .i64 a0] ?_;(with_reducible refine(subset_may.calls a0 false _ A3.out).mono ?_);rintro e w' ⟨rfl,⟨nd,rfl⟩⟩;refine⟨_,rfl,?_⟩))
  go_ret2
  exact⟨rfE,hbA HB.out⟩
 subst c4;rw[if_pos rfl]at H
 have H':=aK H;clear H
 go_enter Tryd.func53,Tryd.ntmps53
 go_wp2_with (first|((with_reducible refine gC 80 rfl ?_);refine cG (some 9) Tryd.func80 #[.int .i64 a0] ?_;(with_reducible refine(subset_may.calls a0 true _ A3.out).mono ?_);rintro e w' ⟨rfl,⟨nd,rfl⟩⟩;refine⟨_,rfl,?_⟩))
 go_loopg [6,7] k (fun kq v6 v7 w'=> ∃(G:Int) (D:Int),v6= .int .i64 G/\v7= .int .i64 D/\Aside0 (subset_Upto.l0 kq a0 a1 G D=some (r1,r2))/\Aside0 (kq<=k)/\Aside0 (Below w.heap.size w w'))
 case atStart=>exact⟨(0),(0),rsE,rsE,H',⟨Nat.le_refl _⟩,⟨hbA HB.out⟩⟩
 case round=>
  clear H'
  (try clear p2);(try clear c4)
  obtain⟨G,D,rfl,rfl,HA,U,HB⟩:=hrel
  cases gk with
  |zero=>exact absurd HA.out (by simp[subset_Upto.l0])
  |succ k1=>
   have H:=HA.out;clear HA;simp only[subset_Upto.l0]at H;obtain⟨L,J⟩: ∃j_:Int,(mn a0 a1)=j_:=⟨_,rfl⟩
   replace H:(if D<=(L)then((subset_choose.f a0 D).bind fun I=>(if(wrap64 (G+I))>4611686018427387904 then(some (0,4))else(subset_Upto.l0 k1 a0 a1 (wrap64 (G+I)) (wrap64 (D+1)))))else(some (G,0)))=some (r1,r2):=by first|(rw[J]at H;exact H)|(simp only[J]at H⊢;exact H)
   have hji5_:(if a1<a0 then a1 else a0)=L:=J;by_cases c6:D<=(L)
   case neg=>
    rw[if_neg c6]at H
    have c6b0:decide (D<=(L))=false:=decide_eq_false c6;clear c6;obtain⟨rfl,rfl⟩:=zP2 H;go_wp2
    go_ret2
    exact⟨by first|rfl|(simp[errW_none,errW_some]<;>rfl)|(simp only[<-J];first|rfl|(simp[errW_none,errW_some]<;>rfl))|(simp[*,errW_none,errW_some]<;>rfl),hbA HB.out⟩
   rw[if_pos c6]at H
   have c6b0:decide (D<=(L))=true:=decide_eq_true c6;clear c6;obtain⟨I,A7,H⟩:=bindO H
   (try dsimp only at H)
   by_cases c8:(wrap64 (G+I))>4611686018427387904
   ·rw[if_pos c8]at H
    have c8b0:decide (4611686018427387904<(wrap64 (G+I)))=true:=decide_eq_true c8;clear c8;obtain⟨rfl,rfl⟩:=zP2 H
    go_wp2_with (first|((with_reducible refine gC 81 rfl ?_);refine cG (some 21) Tryd.func81 #[.int .i64 a0,.int .i64 D] ?_;(with_reducible refine(subset_choose.calls a0 D I _ A7.out).mono ?_);rintro e w9 ⟨rfl,hb⟩;refine⟨_,rfl,?_⟩;replace HB:=hbB HB hb;(try clear hb)))
    go_ret2
    exact⟨by first|rfl|(simp[errW_none,errW_some]<;>rfl)|(simp only[<-J];first|rfl|(simp[errW_none,errW_some]<;>rfl))|(simp[*,errW_none,errW_some]<;>rfl),hbA HB.out⟩
   rw[if_neg c8]at H
   have c8b0:decide (4611686018427387904<(wrap64 (G+I)))=false:=decide_eq_false c8;clear c8;have H':=aK H;clear H
   go_wp2_with (first|((with_reducible refine gC 81 rfl ?_);refine cG (some 21) Tryd.func81 #[.int .i64 a0,.int .i64 D] ?_;(with_reducible refine(subset_choose.calls a0 D I _ A7.out).mono ?_);rintro e X ⟨rfl,hb⟩;refine⟨_,rfl,?_⟩;replace HB:=hbB HB hb;(try clear hb)))
   go_roundg k1
   case measure=>have:=U.out;omega
   case rel=>exact⟨(wrap64 (G+I)),(wrap64 (D+1)),rsE,rsE,H',⟨by have:=U.out;omega⟩,⟨hbA HB.out⟩⟩
end Go.Proofs.YtjgcocfnilhggaaDoor.Q
