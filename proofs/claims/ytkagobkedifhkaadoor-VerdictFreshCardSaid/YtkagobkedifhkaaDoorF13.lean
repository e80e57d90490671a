/- Texts of the proof of VerdictFresh: what each Go function answers, and what the answers mean; no condition beyond each theorem's own. -/
import Derived.Test.YtkagobkedifhkaaDoorF12
namespace Go.Proofs.YtkagobkedifhkaaDoor.Q
open Go.RowKit Go.Proofs.YtkagobkedifhkaaDoorW.PrintWords Go.Proofs.YtkagobkedifhkaaDoorW.PrintLast Go.Proofs.YtkagobkedifhkaaDoorW.PrintMore
attribute [local go_sem] max2_int min2_int max_two min_two max_three min_three max_four min_four
set_option linter.unusedVariables false
set_option linter.unusedSimpArgs false
mutual
def verdict_decode.l0:Nat→List Int→Int→Int→Int→Int→List Int→Int→Int→List Int→Int→Int→List Int→Option (Int×Int×List Int×Int)
 |0,_,_,_,_,_,_,_,_,_,_,_,_=>none
 |k+1,x6,aa,Z,J,L,O,U,X,Y,D,G,I=>if Z<aa then(verdict_decode.l1 k x6 Z aa Z x6 (x6.length:Int) 0 J L O U X Y D G I)else(some (D,G,I,0))
def verdict_decode.l1:Nat→List Int→Int→Int→Int→List Int→Int→Int→Int→Int→List Int→Int→Int→List Int→Int→Int→List Int→Option (Int×Int×List Int×Int)
 |0,_,_,_,_,_,_,_,_,_,_,_,_,_,_,_,_=>none
 |k+1,x6,aa,ac,ae,ab,af,L,D,G,O,U,X,I,Y,Z,J=>if L<af then(if 0≤L then(if L<(ab.length:Int)then(if 0≤(wrap64 ((wrap64 (aa*G))+L))then(if(wrap64 ((wrap64 (aa*G))+L))<(I.length:Int)then(if 0≤(wrap64 ((wrap64 (aa*D))+(rd ab L)))then(if(wrap64 ((wrap64 (aa*D))+(rd ab L)))<(J.length:Int)then(verdict_decode.l1 k x6 aa ac ae ab af (wrap64 (L+1)) D G O U X I Y Z (J.set ((wrap64 ((wrap64 (aa*D))+(rd ab L))):Int).toNat (rd I (wrap64 ((wrap64 (aa*G))+L)))))else(none))else(none))else(none))else(none))else(none))else(none))else(verdict_decode.l0 k x6 ac (wrap64 (ae+1)) D G O U X I Y Z J)
end
def verdict_decode.f(k:Nat)(L:Int)(J:Int)(O:List Int)(a1:Int):Option (Int×Int×List Int×Int):=(subset_List.f k a1).bind fun U=>((matrix_Pick.f L J O U).bind fun D=>(if D.2.2.2=0 then((gauss_Inverse.f D.1 D.2.1 D.2.2.1).bind fun G=>(if G.2.2.2=0 then((matrix_Make.f J L).bind fun I=>(if I.2.2.2=0 then(verdict_decode.l0 k U J 0 L J O G.1 G.2.1 G.2.2.1 I.1 I.2.1 I.2.2.1)else(some (0,0,([]:List Int),I.2.2.2))))else(some (0,0,([]:List Int),G.2.2.2))))else(some (0,0,([]:List Int),D.2.2.2))))
theorem verdict_decode.mono_l: ∀k,(∀y0 y1 y2 y3 y4 y5 y6 y7 y8 y9 D G,LeO (verdict_decode.l0 k y0 y1 y2 y3 y4 y5 y6 y7 y8 y9 D G) (verdict_decode.l0 (k+1) y0 y1 y2 y3 y4 y5 y6 y7 y8 y9 D G))∧(∀y0 y1 y2 y3 y4 y5 y6 y7 y8 y9 D G L O U X,LeO (verdict_decode.l1 k y0 y1 y2 y3 y4 y5 y6 y7 y8 y9 D G L O U X) (verdict_decode.l1 (k+1) y0 y1 y2 y3 y4 y5 y6 y7 y8 y9 D G L O U X))
 |0=>⟨fun _ _ _ _ _ _ _ _ _ _ _ _ r h=>by simp[verdict_decode.l0]at h,fun _ _ _ _ _ _ _ _ _ _ _ _ _ _ _ _ r h=>by simp[verdict_decode.l1]at h⟩
 |k+1=>by
  obtain⟨I,J⟩:=verdict_decode.mono_l k;refine⟨?_,?_⟩;all_goals(intros;first|unfold verdict_decode.l0|unfold verdict_decode.l1)
  all_goals repeat' first|(with_reducible exact I _ _ _ _ _ _ _ _ _ _ _ _)|(with_reducible exact J _ _ _ _ _ _ _ _ _ _ _ _ _ _ _ _)|(with_reducible exact subset_List.mono _ _)|(with_reducible exact LeO.refl _)|(with_reducible exact LeO.none _)|(with_reducible refine LeO.ite ?_ ?_)|(with_reducible refine LeO.bind ?_ (fun _=>?_))|exact I _ _ _ _ _ _ _ _ _ _ _ _|exact J _ _ _ _ _ _ _ _ _ _ _ _ _ _ _ _|exact subset_List.mono _ _|exact LeO.none _|refine LeO.ite ?_ ?_|refine LeO.bind ?_ (fun _=>?_)
theorem verdict_decode.mono: ∀a0 a1 a2 a3 k,LeO (verdict_decode.f k a0 a1 a2 a3) (verdict_decode.f (k+1) a0 a1 a2 a3):=by
 intro a0 a1 a2 a3 k;obtain⟨D,G⟩:=verdict_decode.mono_l k;unfold verdict_decode.f
 repeat' first
  |(with_reducible exact D _ _ _ _ _ _ _ _ _ _ _ _)
  |(with_reducible exact G _ _ _ _ _ _ _ _ _ _ _ _ _ _ _ _)
  |(with_reducible exact subset_List.mono _ _)
  |(with_reducible exact LeO.refl _)
  |(with_reducible exact LeO.none _)
  |(with_reducible refine LeO.ite ?_ ?_)
  |(with_reducible refine LeO.bind ?_ (fun _=>?_))
  |exact D _ _ _ _ _ _ _ _ _ _ _ _
  |exact G _ _ _ _ _ _ _ _ _ _ _ _ _ _ _ _
  |exact subset_List.mono _ _
  |exact LeO.none _
  |refine LeO.ite ?_ ?_
  |refine LeO.bind ?_ (fun _=>?_)
def verdict_decode.T17:Bool×List (List Nat×List Nat):=(true,[([],[]),([0],[0]),([],[]),([],[]),([3],[3]),([2,4],[2,4]),([],[]),([5,6],[5,6]),([],[]),([8],[8]),([],[]),([],[]),([11],[11]),([10,12],[10,12]),([],[]),([13,14],[13,14]),([9,15],[9,15]),([16],[16]),([1,7,0,1,2,3,4,5,6,7,8,9,10,11,12,13,14,15,16,17],[1,7]),([18,17,0,1,2,3,4,5,6,7,8,9,10,11,12,13,14,15,16,17],[17,18])])
def verdict_decode.B17:List Nat:= [0,1,0,0,8,28,0,124,0,256,0,0,2048,7168,0,31744,65280,130816,262143,524287]
theorem verdict_decode.tab17:rtab .any (opsOf Tryd.f42 17)=verdict_decode.T17:=by kernel_rfl
theorem verdict_decode.bits17:waitsOk verdict_decode.T17.2 verdict_decode.B17=true:=by kernel_rfl
set_option maxHeartbeats 8000000 in
set_option maxRecDepth 100000 in
theorem verdict_decode.calls(k:Nat)(ac:Int)(aa:Int)(a6:Option Addr)(a7:Nat)(ai:List Int)(a1:Int)(r1:Int)(r2:Int)(r3:List Int)(r4:Int)(w:World)(ee:Kd.C (Kd.int .u8) w a6 ai.length ai)(ed:ai.length≤a7)(h:verdict_decode.f k ac aa ai a1=some (r1,r2,r3,r4))(hT:TabAt 0 Lib.deBruijn64tab w):
 Calls Tryd.prog 42 #[.agg #[.int .i64 ac,.int .i64 aa,.slice a6 ai.length a7],.int .u64 a1] w fun e w'=> ∃v2_:Value,e= .returned (.tuple #[.agg #[.int .i64 r1,.int .i64 r2,v2_],.int .i64 r4])∧Kd.R (Kd.int .u8) 5 w' w.heap.size (fun _=>True) v2_ r3∧Below w.heap.size w w':=by
 have HT:=aK hT;clear hT;have mr:=Tryd.underlying24;have cg:=aK ee;have cf:=aK ed;clear ee ed;have HB:=aK (Below.refl w.heap.size w);have H:((subset_List.f k a1).bind fun Y=>((matrix_Pick.f ac aa ai Y).bind fun b7=>(if b7.2.2.2=0 then((gauss_Inverse.f b7.1 b7.2.1 b7.2.2.1).bind fun b8=>(if b8.2.2.2=0 then((matrix_Make.f aa ac).bind fun b9=>(if b9.2.2.2=0 then(verdict_decode.l0 k Y aa 0 ac aa ai b8.1 b8.2.1 b8.2.2.1 b9.1 b9.2.1 b9.2.2.1)else(some (0,0,([]:List Int),b9.2.2.2))))else(some (0,0,([]:List Int),b8.2.2.2))))else(some (0,0,([]:List Int),b7.2.2.2)))))=some (r1,r2,r3,r4):=h;clear h;obtain⟨Y,A3,H⟩:=bindO H
 (try dsimp only at H)
 obtain⟨⟨ab,af,ag,b1⟩,A4,H⟩:=bindO H
 (try dsimp only at H)
 by_cases c5:b1=0
 ·rw[if_pos c5]at H
  have c5b0:(b1==0)=true:=beq_iff_eq.mpr c5;have c5b1:(b1 !=0)=false:=bne_eq_false_iff_eq.mpr c5;clear c5;obtain⟨⟨az,a5,bl,b5⟩,A6,H⟩:=bindO H
  (try dsimp only at H)
  by_cases c7:b5=0
  ·rw[if_pos c7]at H
   have c7b0:(b5==0)=true:=beq_iff_eq.mpr c7;have c7b1:(b5 !=0)=false:=bne_eq_false_iff_eq.mpr c7;clear c7;obtain⟨⟨bd,bf,b6,cb⟩,A8,H⟩:=bindO H
   (try dsimp only at H)
   by_cases c9:cb=0
   ·rw[if_pos c9]at H
    have c9b0:(cb==0)=true:=beq_iff_eq.mpr c9;have c9b1:(cb !=0)=false:=bne_eq_false_iff_eq.mpr c9;clear c9;have H':=aK H;clear H
    go_enter Tryd.func42,Tryd.ntmps42
    go_wp2_with (first|((with_reducible refine gD 2 rfl ?_);refine bE 2 #[.int .i64 ac,.int .i64 aa,.slice a6 ai.length a7] 24 ?_;intro au hg mz hbox hb;have D:=aK (hbox);have d1:=hbS HB hg;have dy:=hbS HB hg;replace HB:=hbB HB hb;clear hb hbox hg)|((with_reducible refine gD 4 rfl ?_);refine bE 4 #[.int .i64 0,.int .i64 0,.slice none 0 0] 24 ?_;intro aj hg m0 hbox hb;have G:=aK (hbox);have d2:=hbS HB hg;have dz:=hbS HB hg;replace HB:=hbB HB hb;have a2:=neL D hg;have a3:=neG D hg;replace D:=bkB D hb;clear hb hbox hg)|((with_reducible refine gC 47 rfl ?_);refine cG (some 15) Tryd.func47 #[.int .u64 a1] ?_;(with_reducible refine(subset_List.calls k a1 Y _ A3.out (tab_below HT.out zai)).mono ?_);rintro e m1 ⟨ej,rfl,av,hb⟩;refine⟨_,rfl,?_⟩;have L:=aK (Kd.R_lower av (below_size (hbA HB.out)));replace D:=bkB D hb;replace G:=bkB G hb;replace HB:=hbB HB hb;(try clear hb);(try clear av);have kp:=a2.out;have ln:=a3.out;obtain⟨cl,cm,cn,dd,de,df⟩:=cell3 D;obtain⟨b2,b3,gs⟩:=Kd.R_slice L.out;subst gs)|((with_reducible refine gC 46 rfl ?_);refine cG (some 19) Tryd.func46 #[.agg #[.int .i64 ac,.int .i64 aa,.slice a6 ai.length a7],.slice b2 Y.length b3] ?_;(with_reducible refine(matrix_Pick.calls ac aa _ _ ai _ _ Y ab af ag b1 _ ?side1 ?side2 ?side3 ?side4 A4.out).mono ?_);(case side1=>exact kcB cg HB);(case side2=>exact cf.out);(case side3=>exact kcA (Kd.R_reads' L.out).2.2);(case side4=>exact(Kd.R_reads' L.out).2.1);rintro e m2 ⟨ek,rfl,av,hb⟩;refine⟨_,rfl,?_⟩;replace L:=kdB L hb;have U:=aK (Kd.R_lower av (below_size (hbA HB.out)));replace D:=bkB D hb;replace G:=bkB G hb;replace HB:=hbB HB hb;(try clear hb);(try clear av))|((with_reducible refine gD 7 rfl ?_);refine bE 7 #[.int .i64 0,.int .i64 0,.slice none 0 0] 24 ?_;intro a0 hg m3 hbox hb;replace L:=kdB L hb;replace U:=kdB U hb;have I:=aK (hbox);have d3:=hbS HB hg;have d0:=hbS HB hg;replace HB:=hbB HB hb;have O:=neL D hg;have a9:=neG D hg;replace D:=bkB D hb;have J:=neL G hg;have a4:=neG G hg;replace G:=bkB G hb;clear hb hbox hg;have kr:=a9.out;have lp:=O.out;have ks:=a4.out;have lq:=J.out;obtain⟨co,cp,cq,dg,dh,di⟩:=cell3 I;obtain⟨bv,bu,gt⟩:=Kd.R_slice U.out;subst gt)|((with_reducible refine gC 63 rfl ?_);refine cG (some 28) Tryd.func63 #[.agg #[.int .i64 ab,.int .i64 af,.slice bv ag.length bu]] ?_;(with_reducible refine(gauss_Inverse.calls ab af _ _ ag az a5 bl b5 _ ?side1 ?side2 A6.out).mono ?_);(case side1=>refine(Kd.R_reads' (e:=5) (base:=w.heap.size) (ok:=fun k_=>True) (n:=ag.length) (c:=bu) ?_).2.2;exact(by(with_reducible repeat(first|apply Kd.R_alloc|apply Kd.R_drewN|apply Kd.R_drew));exact(zF U.out I.out  (.int .i64 ab)  (.int .i64 af)  (.slice bv ag.length bu))));(case side2=>exact(Kd.R_reads' U.out).2.1);rintro e m4 ⟨e9,rfl,av,hb⟩;refine⟨_,rfl,?_⟩;have ax:=aK (Kd.V_lower (Kd.V_mono (ok':=fun k_=>some k_≠(.slice b2 Y.length b3:Value).ownBlock∧some k_≠(.slice bv ag.length bu:Value).ownBlock∧k_≠au∧k_≠aj∧k_≠a0) av (fun k_ hk_=>⟨(Kd.fresh' (Kd.R_lt (by(with_reducible repeat(first|apply Kd.R_alloc|apply Kd.R_drewN|apply Kd.R_drew));exact(zF L.out I.out  (.int .i64 ab)  (.int .i64 af)  (.slice bv ag.length bu)))) k_ hk_),(Kd.fresh' (Kd.R_lt (by(with_reducible repeat(first|apply Kd.R_alloc|apply Kd.R_drewN|apply Kd.R_drew));exact(zF U.out I.out  (.int .i64 ab)  (.int .i64 af)  (.slice bv ag.length bu)))) k_ hk_),(Kd.freshB (g:=au) (o:= .cells #[.int .i64 ac,.int .i64 aa,.slice a6 ai.length a7] 24 (0,0)) zav k_ hk_),(Kd.freshB (g:=aj) (o:= .cells #[.int .i64 0,.int .i64 0,.slice none 0 0] 24 (0,0)) zaw k_ hk_),(Kd.freshB (g:=a0) (o:= .cells #[.int .i64 ab,.int .i64 af,.slice bv ag.length bu] 24 (0,0)) zar k_ hk_)⟩)) (below_size (hbA HB.out)));replace L:=aK (Kd.R_below (by(with_reducible repeat(first|apply Kd.R_alloc|apply Kd.R_drewN|apply Kd.R_drew));exact(zF L.out I.out  (.int .i64 ab)  (.int .i64 af)  (.slice bv ag.length bu))) hb);replace U:=aK (Kd.R_below (by(with_reducible repeat(first|apply Kd.R_alloc|apply Kd.R_drewN|apply Kd.R_drew));exact(zF U.out I.out  (.int .i64 ab)  (.int .i64 af)  (.slice bv ag.length bu))) hb);replace D:=aK (blk_below (g:=au) (o:= .cells #[.int .i64 ac,.int .i64 aa,.slice a6 ai.length a7] 24 (0,0)) zav hb);replace G:=aK (blk_below (g:=aj) (o:= .cells #[.int .i64 0,.int .i64 0,.slice none 0 0] 24 (0,0)) zaw hb);replace I:=aK (blk_below (g:=a0) (o:= .cells #[.int .i64 ab,.int .i64 af,.slice bv ag.length bu] 24 (0,0)) zar hb);replace HB:=hbB HB hb;(try clear hb);(try clear av))|((with_reducible refine gD 9 rfl ?_);refine bE 9 #[.int .i64 0,.int .i64 0,.slice none 0 0] 24 ?_;intro ao hg m5 hbox hb;replace L:=kdB L hb;replace U:=kdB U hb;replace ax:=aK (Kd.V_below (Kd.V_elderB (by(with_reducible repeat(first|apply Kd.V_alloc|apply Kd.V_drewN|apply Kd.V_drew));exact ax.out) ao (Nat.le_of_eq hg.symm)) hb);have Z:=aK (hbox);have eb:=hbS HB hg;have d9:=hbS HB hg;replace HB:=hbB HB hb;have al:=neL D hg;have bj:=neG D hg;replace D:=bkB D hb;have ae:=neL G hg;have bg:=neG G hg;replace G:=bkB G hb;have am:=neL I hg;have bk:=neG I hg;replace I:=bkB I hb;clear hb hbox hg;have kt:=bj.out;have lr:=al.out;have ku:=bg.out;have ls:=ae.out;have kv:=bk.out;have lt:=am.out;obtain⟨cr,ct,cu,dj,dk,dl⟩:=cell3 Z;obtain⟨cd,ce,gu⟩:=Kd.V_slice ax.out;subst gu;obtain⟨cv,cw,cx,dm,dn,dp⟩:=cell3 D)|((with_reducible refine gC 64 rfl ?_);refine cG (some 40) Tryd.func64 #[.int .i64 aa,.int .i64 ac] ?_;(with_reducible refine(matrix_Make.calls aa ac bd bf b6 cb _ A8.out).mono ?_);rintro e m6 ⟨js,rfl,av,hb⟩;refine⟨_,rfl,?_⟩;replace L:=aK (Kd.R_below (by(with_reducible repeat(first|apply Kd.R_alloc|apply Kd.R_drewN|apply Kd.R_drew));exact(zF L.out Z.out  (.int .i64 az)  (.int .i64 a5)  (.slice cd bl.length ce))) hb);replace ax:=aK (Kd.V_elder' (by(with_reducible repeat(first|apply Kd.V_alloc|apply Kd.V_drewN|apply Kd.V_drew));exact(Kd.V_mono (Kd.V_far (p:=⟨ao,2,none⟩) (Kd.V_far (p:=⟨ao,1,none⟩) (Kd.V_far (p:=⟨ao,0,none⟩) (Kd.V_mono ax.out (fun k_ hk=>(⟨hk,hk.2⟩:_∧k_≠ao))) (fun _ hk=>hk.2) (.int .i64 az)) (fun _ hk=>hk.2) (.int .i64 a5)) (fun _ hk=>hk.2) (.slice cd bl.length ce)) (fun _ h_=>h_.1))) (Kd.R_base av) hb);have bw:=aK (Kd.R_lower (Kd.R_new' av (Kd.R_lt (by(with_reducible repeat(first|apply Kd.R_alloc|apply Kd.R_drewN|apply Kd.R_drew));exact(zF U.out Z.out  (.int .i64 az)  (.int .i64 a5)  (.slice cd bl.length ce))))) (below_size (hbA HB.out)));replace U:=aK (Kd.R_elder' (by(with_reducible repeat(first|apply Kd.R_alloc|apply Kd.R_drewN|apply Kd.R_drew));exact(zF U.out Z.out  (.int .i64 az)  (.int .i64 a5)  (.slice cd bl.length ce))) (Kd.R_base av) hb);replace D:=aK (blk_below (g:=au) (o:= .cells #[.int .i64 ac,.int .i64 aa,.slice a6 ai.length a7] 24 (0,0)) zao hb);replace G:=aK (blk_below (g:=aj) (o:= .cells #[.int .i64 0,.int .i64 0,.slice none 0 0] 24 (0,0)) zce hb);replace I:=aK (blk_below (g:=a0) (o:= .cells #[.int .i64 ab,.int .i64 af,.slice bv ag.length bu] 24 (0,0)) zcb hb);replace Z:=aK (blk_below (g:=ao) (o:= .cells #[.int .i64 az,.int .i64 a5,.slice cd bl.length ce] 24 (0,0)) zb1 hb);replace HB:=hbB HB hb;(try clear hb);(try clear hk);(try clear av))|((with_reducible refine gD 10 rfl ?_);refine bE 10 #[.int .i64 0,.int .i64 0,.slice none 0 0] 24 ?_;intro an hg m7 hbox hb;replace L:=kdB L hb;replace U:=kdB U hb;replace ax:=aK (Kd.V_below (Kd.V_elderB (by(with_reducible repeat(first|apply Kd.V_alloc|apply Kd.V_drewN|apply Kd.V_drew));exact ax.out) an (Nat.le_of_eq hg.symm)) hb);replace bw:=kdB bw hb;have aw:=aK (hbox);have fd:=hbS HB hg;have fc:=hbS HB hg;replace HB:=hbB HB hb;have a8:=neL D hg;have bo:=neG D hg;replace D:=bkB D hb;have ar:=neL G hg;have bp:=neG G hg;replace G:=bkB G hb;have ba:=neL I hg;have bq:=neG I hg;replace I:=bkB I hb;have bb:=neL Z hg;have br:=neG Z hg;replace Z:=bkB Z hb;clear hb hbox hg;have kw:=bo.out;have lu:=a8.out;have kx:=bp.out;have lv:=ar.out;have ky:=bq.out;have lw:=ba.out;have kz:=br.out;have lx:=bb.out;obtain⟨cy,cz,c8,dq,dr,dt⟩:=cell3 aw;obtain⟨ch,cj,gv⟩:=Kd.R_slice bw.out;subst gv;obtain⟨da,db,dc,du,dv,dw⟩:=cell3 D))
    go_loopg [49] k (fun kq mj w'=> ∃(ap:Int) (b0:List Int) (bt:List Int) (bh:List Int) (aq:Value) (be:Value) (ay:Value),mj= .int .i64 ap∧Aside0 (verdict_decode.l0 kq Y aa ap ac aa ai az a5 bt bd bf bh=some (r1,r2,r3,r4))∧Aside0 (kq≤k)∧Aside0 (Kd.R (Kd.int .i64) 3 w' w.heap.size (fun _=>True) (.slice b2 Y.length b3) Y)∧Aside0 (Kd.R (Kd.int .u8) 5 w' w.heap.size (fun k_=>some k_≠(ay:Value).ownBlock) aq b0)∧Aside0 (Kd.V (Kd.int .u8) 5 w' w.heap.size (fun k_=>some k_≠((.slice b2 Y.length b3):Value).ownBlock∧some k_≠(aq:Value).ownBlock∧some k_≠(ay:Value).ownBlock∧k_≠au∧k_≠aj∧k_≠a0∧k_≠ao∧k_≠an) be bt)∧Aside0 (Kd.R (Kd.int .u8) 5 w' w.heap.size (fun k_=>some k_≠(aq:Value).ownBlock) ay bh)∧Aside0 (w'.heap[au]? =some (.cells #[.int .i64 ac,.int .i64 aa,(.slice a6 ai.length a7)] 24 (0,0)))∧Aside0 (w'.heap[aj]? =some (.cells #[.int .i64 0,.int .i64 0,(.slice none 0 0)] 24 (0,0)))∧Aside0 (w'.heap[a0]? =some (.cells #[.int .i64 ab,.int .i64 af,aq] 24 (0,0)))∧Aside0 (w'.heap[ao]? =some (.cells #[.int .i64 az,.int .i64 a5,be] 24 (0,0)))∧Aside0 (w'.heap[an]? =some (.cells #[.int .i64 bd,.int .i64 bf,ay] 24 (0,0)))∧Aside0 (Below w.heap.size w w'))
    case atStart=>exact⟨(0),(ag),(bl),(b6),(.slice bv ag.length bu),(.slice cd bl.length ce),(.slice ch b6.length cj),rsE,H',⟨Nat.le_refl _⟩,⟨by(with_reducible repeat(first|apply Kd.R_alloc|apply Kd.R_drewN|apply Kd.R_drew));exact Kd.R_mono (Kd.R_far (p:=⟨an,2,none⟩) (Kd.R_far (p:=⟨an,1,none⟩) (Kd.R_far (p:=⟨an,0,none⟩) (Kd.R_types L.out aw.out zaa) (fun _ hk=>hk.2) (.int .i64 bd)) (fun _ hk=>hk.2) (.int .i64 bf)) (fun _ hk=>hk.2) (.slice ch b6.length cj)) (fun _ hk=>trivial)⟩,⟨by(with_reducible repeat(first|apply Kd.R_alloc|apply Kd.R_drewN|apply Kd.R_drew));exact Kd.R_mono (Kd.R_far (p:=⟨an,2,none⟩) (Kd.R_far (p:=⟨an,1,none⟩) (Kd.R_far (p:=⟨an,0,none⟩) (Kd.R_types U.out aw.out zaa) (fun _ hk=>hk.2) (.int .i64 bd)) (fun _ hk=>hk.2) (.int .i64 bf)) (fun _ hk=>hk.2) (.slice ch b6.length cj)) (fun _ hk=>hk.1.2)⟩,⟨by(with_reducible repeat(first|apply Kd.V_alloc|apply Kd.V_drewN|apply Kd.V_drew));exact Kd.V_mono (Kd.V_far (p:=⟨an,2,none⟩) (Kd.V_far (p:=⟨an,1,none⟩) (Kd.V_far (p:=⟨an,0,none⟩) (Kd.V_mono ax.out (fun k_ hk=>(⟨hk,hk.2⟩:_∧k_≠an))) (fun _ hk=>hk.2) (.int .i64 bd)) (fun _ hk=>hk.2) (.int .i64 bf)) (fun _ hk=>hk.2) (.slice ch b6.length cj)) (fun _ hk=>⟨hk.1.1.1.1.1,⟨hk.1.1.1.1.2.1,⟨hk.1.1.2,⟨hk.1.1.1.1.2.2.1,⟨hk.1.1.1.1.2.2.2.1,⟨hk.1.1.1.1.2.2.2.2,⟨hk.1.1.1.2,hk.1.2⟩⟩⟩⟩⟩⟩⟩)⟩,⟨by(with_reducible repeat(first|apply Kd.R_alloc|apply Kd.R_drewN|apply Kd.R_drew));exact Kd.R_mono (Kd.R_far (p:=⟨an,2,none⟩) (Kd.R_far (p:=⟨an,1,none⟩) (Kd.R_far (p:=⟨an,0,none⟩) (Kd.R_types bw.out aw.out zaa) (fun _ hk=>hk.2) (.int .i64 bd)) (fun _ hk=>hk.2) (.int .i64 bf)) (fun _ hk=>hk.2) (.slice ch b6.length cj)) (fun _ hk=>hk.1.2)⟩,⟨by refine bkR ?_;refine blk_far ?_ a8.out _;refine bkR ?_;refine blk_far ?_ a8.out _;refine bkR ?_;refine blk_far ?_ a8.out _;refine bkR ?_;exact D.out⟩,⟨by refine bkR ?_;refine blk_far ?_ ar.out _;refine bkR ?_;refine blk_far ?_ ar.out _;refine bkR ?_;refine blk_far ?_ ar.out _;refine bkR ?_;exact G.out⟩,⟨by refine bkR ?_;refine blk_far ?_ ba.out _;refine bkR ?_;refine blk_far ?_ ba.out _;refine bkR ?_;refine blk_far ?_ ba.out _;refine bkR ?_;exact I.out⟩,⟨by refine bkR ?_;refine blk_far ?_ bb.out _;refine bkR ?_;refine blk_far ?_ bb.out _;refine bkR ?_;refine blk_far ?_ bb.out _;refine bkR ?_;exact Z.out⟩,⟨by refine bkR ?_;refine blk_put (cs:= #[.int .i64 bd,.int .i64 bf,.slice none 0 0]) ?_ 2 _ rfl;refine bkR ?_;refine blk_put (cs:= #[.int .i64 bd,.int .i64 0,.slice none 0 0]) ?_ 1 _ rfl;refine bkR ?_;refine blk_put (cs:= #[.int .i64 0,.int .i64 0,.slice none 0 0]) ?_ 0 _ rfl;refine bkR ?_;exact aw.out⟩,⟨hbA HB.out⟩⟩
    case round=>
     clear H'
     (try clear c1);(try clear c2);(try clear p2);(try clear c3);(try clear c4);(try clear c5);(try clear c5b0);(try clear c5b1);(try clear c6);(try clear c7);(try clear c7b0);(try clear c7b1);(try clear c9);(try clear c9b0);(try clear c9b1);(try clear kc);(try clear kd);(try clear ke);(try clear kf);(try clear kg);(try clear kh);(try clear ki);(try clear kj);(try clear kk);(try clear km);(try clear cl cm cn dd de df);(try clear co cp cq dg dh di);(try clear cr ct cu dj dk dl);(try clear cv cw cx dm dn dp);(try clear cy cz c8 dq dr dt);(try clear da db dc du dv dw)
     obtain⟨ap,b0,bt,bh,aq,be,ay,rfl,HA,el,HO_6,HO_276002,HO_283002,HO_290002,D,G,I,Z,aw,HB⟩:=hrel
     cases gk with
     |zero=>exact absurd HA.out (by simp[verdict_decode.l0])
     |succ k1=>
      have H:=HA.out;clear HA;simp only[verdict_decode.l0]at H;by_cases d5:ap<aa
      ·rw[if_pos d5]at H
       have c39b0:decide (ap<aa)=true:=decide_eq_true d5;clear d5;have H':=aK H;clear H;go_wp2
       go_loopg [54] k1 (fun kq ml w'=> ∃(ak:Int) (bs:List Int) (X:List Int) (ah:List Int) (aq:Value) (be:Value) (ay:Value),ml= .int .i64 ak∧Aside0 (verdict_decode.l1 kq Y ap aa ap Y (Y.length:Int) ak ac aa ai az a5 X bd bf ah=some (r1,r2,r3,r4))∧Aside0 (kq≤k1)∧Aside0 (Kd.R (Kd.int .i64) 3 w' w.heap.size (fun _=>True) (.slice b2 Y.length b3) Y)∧Aside0 (Kd.R (Kd.int .i64) 3 w' w.heap.size (fun _=>True) (.slice b2 Y.length b3) Y)∧Aside0 (Kd.R (Kd.int .u8) 5 w' w.heap.size (fun k_=>some k_≠(ay:Value).ownBlock) aq bs)∧Aside0 (Kd.V (Kd.int .u8) 5 w' w.heap.size (fun k_=>some k_≠((.slice b2 Y.length b3):Value).ownBlock∧some k_≠((.slice b2 Y.length b3):Value).ownBlock∧some k_≠(aq:Value).ownBlock∧some k_≠(ay:Value).ownBlock∧k_≠au∧k_≠aj∧k_≠a0∧k_≠ao∧k_≠an) be X)∧Aside0 (Kd.R (Kd.int .u8) 5 w' w.heap.size (fun k_=>some k_≠(aq:Value).ownBlock) ay ah)∧Aside0 (w'.heap[au]? =some (.cells #[.int .i64 ac,.int .i64 aa,(.slice a6 ai.length a7)] 24 (0,0)))∧Aside0 (w'.heap[aj]? =some (.cells #[.int .i64 0,.int .i64 0,(.slice none 0 0)] 24 (0,0)))∧Aside0 (w'.heap[a0]? =some (.cells #[.int .i64 ab,.int .i64 af,aq] 24 (0,0)))∧Aside0 (w'.heap[ao]? =some (.cells #[.int .i64 az,.int .i64 a5,be] 24 (0,0)))∧Aside0 (w'.heap[an]? =some (.cells #[.int .i64 bd,.int .i64 bf,ay] 24 (0,0)))∧Aside0 (Below w.heap.size w w'))
       case atStart=>exact⟨(0),(b0),(bt),(bh),(aq),(be),(ay),rsE,H',⟨Nat.le_refl _⟩,⟨kdA HO_6.out⟩,⟨kdA HO_6.out⟩,⟨kdA HO_276002.out⟩,⟨by(with_reducible repeat(first|apply Kd.V_alloc|apply Kd.V_drewN|apply Kd.V_drew));exact Kd.V_mono HO_283002.out (fun _ hk=>⟨hk.1,⟨hk.1,⟨hk.2.1,⟨hk.2.2.1,⟨hk.2.2.2.1,⟨hk.2.2.2.2.1,⟨hk.2.2.2.2.2.1,⟨hk.2.2.2.2.2.2.1,hk.2.2.2.2.2.2.2⟩⟩⟩⟩⟩⟩⟩⟩)⟩,⟨kdA HO_290002.out⟩,⟨bkA D.out⟩,⟨bkA G.out⟩,⟨bkA I.out⟩,⟨bkA Z.out⟩,⟨bkA aw.out⟩,⟨hbA HB.out⟩⟩
       case round=>
        clear H'
        (try clear c1);(try clear c2);(try clear p2 p2);(try clear c3);(try clear c4);(try clear c5);(try clear c5b0);(try clear c5b1);(try clear c6);(try clear c7);(try clear c7b0);(try clear c7b1);(try clear c9);(try clear c9b0);(try clear c9b1);(try clear kc);(try clear kd);(try clear ke);(try clear kf);(try clear kg);(try clear kh);(try clear ki);(try clear kj);(try clear kk);(try clear km);(try clear d5);(try clear c39b0);(try clear cl cm cn dd de df);(try clear co cp cq dg dh di);(try clear cr ct cu dj dk dl);(try clear cv cw cx dm dn dp);(try clear cy cz c8 dq dr dt);(try clear da db dc du dv dw)
        obtain⟨ak,bs,X,ah,aq,be,ay,rfl,HA,em,HO_6,HO_52,HO_276002,HO_283002,HO_290002,D,G,I,Z,aw,HB⟩:=hrel
        cases gk with
        |zero=>exact absurd HA.out (by simp[verdict_decode.l1])
        |succ k2=>
         have H:=HA.out;clear HA;simp only[verdict_decode.l1]at H;by_cases d8:ak<(Y.length:Int)
         ·rw[if_pos d8]at H
          have c40b0:decide (ak<(Y.length:Int))=true:=decide_eq_true d8;clear d8;by_cases en:0≤ak
          ·rw[if_pos en]at H
           have c41b0:decide (0≤ak)=true:=decide_eq_true en;clear en;by_cases eo:ak<(Y.length:Int)
           ·rw[if_pos eo]at H
            have c42b0:decide (ak<(Y.length:Int))=true:=decide_eq_true eo;clear eo;obtain⟨bc,d6⟩: ∃j_:Int,(wrap64 ((wrap64 (ap*aa))+ak))=j_:=⟨_,rfl⟩
            replace H:(if 0≤(bc)then(if(bc)<(X.length:Int)then(if 0≤(wrap64 ((wrap64 (ap*ac))+(rd Y ak)))then(if(wrap64 ((wrap64 (ap*ac))+(rd Y ak)))<(ah.length:Int)then(verdict_decode.l1 k2 Y ap aa ap Y (Y.length:Int) (wrap64 (ak+1)) ac aa ai az a5 X bd bf (ah.set ((wrap64 ((wrap64 (ap*ac))+(rd Y ak))):Int).toNat (rd X (bc))))else(none))else(none))else(none))else(none))=some (r1,r2,r3,r4):=by first|(rw[d6]at H;exact H)|(simp only[d6]at H⊢;exact H)
            have hji43w:(IntKind.i64.wrap ((wrap64 (ap*aa))+ak))=bc:=(i64_w _).trans d6;by_cases ep:0≤(bc)
            ·rw[if_pos ep]at H
             have c44b0:decide (0≤(bc))=true:=decide_eq_true ep;clear ep;by_cases er:(bc)<(X.length:Int)
             ·rw[if_pos er]at H
              have c45b0:decide ((bc)<(X.length:Int))=true:=decide_eq_true er;clear er;obtain⟨bi,d7⟩: ∃j_:Int,(wrap64 ((wrap64 (ap*ac))+(rd Y ak)))=j_:=⟨_,rfl⟩
              replace H:(if 0≤(bi)then(if(bi)<(ah.length:Int)then(verdict_decode.l1 k2 Y ap aa ap Y (Y.length:Int) (wrap64 (ak+1)) ac aa ai az a5 X bd bf (ah.set ((bi):Int).toNat (rd X (bc))))else(none))else(none))=some (r1,r2,r3,r4):=by first|(rw[d7]at H;exact H)|(simp only[d7]at H⊢;exact H)
              have hji46w:(IntKind.i64.wrap ((wrap64 (ap*ac))+(rd Y ak)))=bi:=(i64_w _).trans d7;by_cases es:0≤(bi)
              ·rw[if_pos es]at H
               have c47b0:decide (0≤(bi))=true:=decide_eq_true es;clear es;by_cases et:(bi)<(ah.length:Int)
               ·rw[if_pos et]at H
                have c48b0:decide ((bi)<(ah.length:Int))=true:=decide_eq_true et;clear et;obtain⟨fa,ca⟩: ∃y_:List Int,y_=(ah.set ((bi):Int).toNat (rd X (bc))):=⟨_,rfl⟩
                replace H:(verdict_decode.l1 k2 Y ap aa ap Y (Y.length:Int) (wrap64 (ak+1)) ac aa ai az a5 X bd bf fa)=some (r1,r2,r3,r4):=by first|(rw[ca];with_reducible exact H)|(have H2_:=(Option.bind_some _ _).symm.trans H;rw[ca];with_reducible exact H2_)|(have H2_:=(Option.bind_some _ _).symm.trans H;with_reducible exact H2_)|with_reducible exact H|(rw[ca];exact H)|exact H
                have fe:=aK ca;clear ca;have H':=aK H;clear H;have ef:0≤(ak:Int):=of_decide_eq_true asE;have eh:ak<(Y.length:Int):=of_decide_eq_true asE;obtain⟨kb,gq,jr⟩:=Kd.at_int (Kd.R_reads' HO_52.out).2.2 ak ef eh
                cases gq
                replace ef:=eq_true ef;replace eh:=eq_true eh
                try go_wp2
                replace HO_6:=aK (Kd.R_drew HO_6.out);replace HO_52:=aK (Kd.R_drew HO_52.out);replace HO_276002:=aK (Kd.R_drew HO_276002.out);replace HO_283002:=aK (Kd.V_drew HO_283002.out);replace HO_290002:=aK (Kd.R_drew HO_290002.out);replace D:=aK (blk_drew D.out);replace G:=aK (blk_drew G.out);replace I:=aK (blk_drew I.out);replace Z:=aK (blk_drew Z.out);replace aw:=aK (blk_drew aw.out);replace HB:=aK (below_drew1 HB.out);obtain⟨mm,e2,e7⟩:=Kd.V_slice HO_283002.out
                (first|subst e7|(injection e7 with f1_ f2_ f3_;have f4_:=f1_.symm;have f5_:=f3_.symm;clear f1_ f2_ f3_;subst f4_;subst f5_))
                have eg:0≤((bc):Int):=of_decide_eq_true asE;have ei:(bc)<(X.length:Int):=of_decide_eq_true asE;obtain⟨d4,gr,dx⟩:=Kd.at_int (Kd.V_reads' HO_283002.out).2.2 (bc) eg ei
                cases gr
                replace eg:=eq_true eg;replace ei:=eq_true ei;have p49:0≤((bi):Int):=of_decide_eq_true asE;have fk:((bi):Int)<((ah.length:Int):Int):=of_decide_eq_true asE;obtain⟨b4,e1,e6,e8,g2,mp,ez⟩:=Kd.R_form HO_290002.out zz
                (first|cases e6|(injection e6 with ea_ en_ ec_;(first|subst ea_|(injection ea_ with ea_;subst ea_));subst ec_;clear en_))
                have mo:=aK e8;have ea:=aK ez;clear e8 g2 ez;obtain⟨ev,eu⟩:=Kd.R_celln 0 HO_290002.out ((bi):Int) p49 fk;replace p49:=eq_true p49;replace fk:=eq_true fk;have ec:=Kd.R_putn HO_290002.out ((bi):Int) (rd X (bc));rw[←fe.out]at ec
                have e0:=aK ec;clear ec;refine start_ (n:=20) (S:=fun w'=>w'.cell? ⟨an,0,none⟩=some (.int .i64 bd)∧w'.cell? ⟨an,1,none⟩=some (.int .i64 bf)∧w'.cell? ⟨an,2,none⟩=some (.slice (some ⟨b4,0,none⟩) ah.length e1)∧w'.cell? ⟨au,0,none⟩=some (.int .i64 ac)∧w'.cell? ⟨au,1,none⟩=some (.int .i64 aa)∧w'.cell? ⟨au,2,none⟩=some (.slice a6 ai.length a7)∧w'.cell? ⟨ao,0,none⟩=some (.int .i64 az)∧w'.cell? ⟨ao,1,none⟩=some (.int .i64 a5)∧w'.cell? ⟨ao,2,none⟩=some (.slice (some d4) X.length e2)∧w'.cell? (d4.add ((bc)).toNat)=some (.int .u8 (rd X (bc)))) (ds:= [19]) (.replicate 20 false) zab rfl rfl ⟨(blk_cell aw.out 0).trans rfl,(blk_cell aw.out 1).trans rfl,(blk_cell aw.out 2).trans rfl,(blk_cell D.out 0).trans rfl,(blk_cell D.out 1).trans rfl,(blk_cell D.out 2).trans rfl,(blk_cell Z.out 0).trans rfl,(blk_cell Z.out 1).trans rfl,(blk_cell Z.out 2).trans rfl,dx⟩ (fun hHeld=>?_);refine with_tabW verdict_decode.tab17 verdict_decode.bits17 (fun HT_ HW_=>?_);generalize wr.drew=m8 at HO_6 HO_52 HO_276002 HO_283002 HO_290002 D G I Z aw HB ea e0 eu dx ev hHeld⊢;refine pu 0 (some 59) (mB 20 1) HT_ ?_;refine pu 2 (some 61) (mB 20 5) HT_ ?_;refine pu 3 (some 62) (mB 20 13) HT_ ?_;refine pu 6 (some 65) (mB 20 77) HT_ ?_;refine pu 8 (some 67) (mB 20 333) HT_ ?_;refine pu 10 (some 69) (mB 20 1357) HT_ ?_;refine pu 11 (some 70) (mB 20 3405) HT_ ?_;refine pu 14 (some 73) (mB 20 19789) HT_ ?_;refine tk10 1 (some 60) (mB 20 19791) HT_ HW_ hHeld ?_;refine tk10 4 (some 63) (mB 20 19807) HT_ HW_ hHeld ?_;refine pu 5 (some 64) (mB 20 19839) HT_ ?_;refine pu 7 (some 66) (mB 20 19967) HT_ ?_;refine tk10 9 (some 68) (mB 20 20479) HT_ HW_ hHeld ?_;refine tk10 12 (some 71) (mB 20 24575) HT_ HW_ hHeld ?_;refine pu 13 (some 72) (mB 20 32767) HT_ ?_;refine pu 15 (some 74) (mB 20 65535) HT_ ?_;refine pu 16 (some 75) (mB 20 131071) HT_ ?_;refine tk10 17 (some 76) (mB 20 262143) HT_ HW_ hHeld ?_;refine pu 18 (some 77) (mB 20 524287) HT_ ?_;refine zlh 19 (none) (mB 20 1048575) HT_ fun K hK=>?_;refine zsk ?_;refine hK.out _ _ ?_;clear hK K;refine done_ (done_of HT_.out zab) ?_
                try go_wp2
                go_roundg k2
                case measure=>have:=el.out;have:=em.out;omega
                case rel=>exact⟨(wrap64 (ak+1)),(bs),(X),(fa),(aq),(.slice (some d4) X.length e2),(.slice (some ⟨b4,0,none⟩) ah.length e1),rsE,H',⟨by have:=el.out;have:=em.out;omega⟩,⟨by(with_reducible repeat(first|apply Kd.R_alloc|apply Kd.R_drewN|apply Kd.R_drew));exact Kd.R_mono (Kd.R_far (p:=⟨b4,((bi):Int).toNat,none⟩) (Kd.R_types HO_6.out ea.out zaa) (fun _ hk=>hk.2) (.int .u8 (rd X (bc)))) (fun _ hk=>trivial)⟩,⟨by(with_reducible repeat(first|apply Kd.R_alloc|apply Kd.R_drewN|apply Kd.R_drew));exact Kd.R_mono (Kd.R_far (p:=⟨b4,((bi):Int).toNat,none⟩) (Kd.R_types HO_52.out ea.out zaa) (fun _ hk=>hk.2) (.int .u8 (rd X (bc)))) (fun _ hk=>trivial)⟩,⟨by(with_reducible repeat(first|apply Kd.R_alloc|apply Kd.R_drewN|apply Kd.R_drew));exact Kd.R_mono (Kd.R_far (p:=⟨b4,((bi):Int).toNat,none⟩) (Kd.R_mono HO_276002.out (fun k_ hk=>(⟨hk,fun e_=>hk zaf⟩:_∧k_≠b4))) (fun _ hk=>hk.2) (.int .u8 (rd X (bc)))) (fun _ hk=>hk.1)⟩,⟨by(with_reducible repeat(first|apply Kd.V_alloc|apply Kd.V_drewN|apply Kd.V_drew));exact Kd.V_mono (Kd.V_far (p:=⟨b4,((bi):Int).toNat,none⟩) (Kd.V_mono HO_283002.out (fun k_ hk=>(⟨hk,fun e_=>hk.2.2.2.1 zaf⟩:_∧k_≠b4))) (fun _ hk=>hk.2) (.int .u8 (rd X (bc)))) (fun _ hk=>⟨hk.1.1,⟨hk.1.2.1,⟨hk.1.2.2.1,⟨hk.1.2.2.2.1,⟨hk.1.2.2.2.2.1,⟨hk.1.2.2.2.2.2.1,⟨hk.1.2.2.2.2.2.2.1,⟨hk.1.2.2.2.2.2.2.2.1,hk.1.2.2.2.2.2.2.2.2⟩⟩⟩⟩⟩⟩⟩⟩)⟩,⟨kdA e0.out⟩,⟨by refine bkR ?_;refine blk_far ?_ (by have h_:=Kd.R_ne HO_290002.out D.out zaa;intro e_;exact h_ zaf) _;refine bkR ?_;exact D.out⟩,⟨by refine bkR ?_;refine blk_far ?_ (by have h_:=Kd.R_ne HO_290002.out G.out zaa;intro e_;exact h_ zaf) _;refine bkR ?_;exact G.out⟩,⟨by refine bkR ?_;refine blk_far ?_ (by have h_:=Kd.R_ne HO_290002.out I.out zaa;intro e_;exact h_ zaf) _;refine bkR ?_;exact I.out⟩,⟨by refine bkR ?_;refine blk_far ?_ (by have h_:=Kd.R_ne HO_290002.out Z.out zaa;intro e_;exact h_ zaf) _;refine bkR ?_;exact Z.out⟩,⟨by refine bkR ?_;refine blk_far ?_ (by have h_:=Kd.R_ne HO_290002.out aw.out zaa;intro e_;exact h_ zaf) _;refine bkR ?_;exact aw.out⟩,⟨hbA HB.out⟩⟩
               ·rw[if_neg et]at H
                exact absurd H zac
              ·rw[if_neg es]at H
               exact absurd H zac
             ·rw[if_neg er]at H
              exact absurd H zac
            ·rw[if_neg ep]at H
             exact absurd H zac
           ·rw[if_neg eo]at H
            exact absurd H zac
          ·rw[if_neg en]at H
           exact absurd H zac
         ·rw[if_neg d8]at H
          have c40b0:decide (ak<(Y.length:Int))=false:=decide_eq_false d8;clear d8;have H':=aK H;clear H;go_wp2
          go_roundg k2
          case measure=>have:=el.out;have:=em.out;omega
          case rel=>exact⟨(wrap64 (ap+1)),(bs),(X),(ah),(aq),(be),(ay),rsE,H',⟨by have:=el.out;have:=em.out;omega⟩,⟨kdA HO_6.out⟩,⟨kdA HO_276002.out⟩,⟨by(with_reducible repeat(first|apply Kd.V_alloc|apply Kd.V_drewN|apply Kd.V_drew));exact Kd.V_mono HO_283002.out (fun _ hk=>⟨hk.1,⟨hk.2.2.1,⟨hk.2.2.2.1,⟨hk.2.2.2.2.1,⟨hk.2.2.2.2.2.1,⟨hk.2.2.2.2.2.2.1,⟨hk.2.2.2.2.2.2.2.1,hk.2.2.2.2.2.2.2.2⟩⟩⟩⟩⟩⟩⟩)⟩,⟨kdA HO_290002.out⟩,⟨bkA D.out⟩,⟨bkA G.out⟩,⟨bkA I.out⟩,⟨bkA Z.out⟩,⟨bkA aw.out⟩,⟨hbA HB.out⟩⟩
      ·rw[if_neg d5]at H
       have c39b0:decide (ap<aa)=false:=decide_eq_false d5;clear d5;simp only[Option.some.injEq,Prod.mk.injEq]at H;obtain⟨rfl,rfl,rfl,rfl⟩:=H;have k0:=bo.out;have ly:=a8.out;have k3:=bp.out;have lz:=ar.out;have k4:=bq.out;have l2:=ba.out;have k5:=br.out;have l3:=bb.out;obtain⟨g3,g4,g5,iz,i1,i2⟩:=cell3 aw;have k6:=a3.out;have l4:=a2.out;have k7:=J.out;have l5:=a4.out;have k8:=ae.out;have l6:=bg.out;obtain⟨g6,g7,g8,i3,i4,i5⟩:=cell3 G;obtain⟨ew,e3,gw⟩:=Kd.R_slice HO_290002.out;subst gw;go_wp2;refine bodyPost_ret (results_ct rfl _ _ aj 24 #[.int .i64 bd,.int .i64 bf,.slice ew bh.length e3] (0,0) _ rfl (by refine bkR ?_;refine blk_put (cs:= #[.int .i64 bd,.int .i64 bf,.slice none 0 0]) ?_ 2 _ rfl;refine bkR ?_;refine blk_put (cs:= #[.int .i64 bd,.int .i64 0,.slice none 0 0]) ?_ 1 _ rfl;refine bkR ?_;refine blk_put (cs:= #[.int .i64 0,.int .i64 0,.slice none 0 0]) ?_ 0 _ rfl;refine bkR ?_;exact G.out) Tryd.underlying24 rfl zab) rfl ?_;exact⟨_,rfE,by(with_reducible repeat(first|apply Kd.R_alloc|apply Kd.R_drewN|apply Kd.R_drew));exact Kd.R_mono (Kd.R_far (p:=⟨aj,2,none⟩) (Kd.R_far (p:=⟨aj,1,none⟩) (Kd.R_far (p:=⟨aj,0,none⟩) (Kd.R_types HO_290002.out G.out zaa) (fun _ hk=>hk.2) (.int .i64 bd)) (fun _ hk=>hk.2) (.int .i64 bf)) (fun _ hk=>hk.2) (.slice ew bh.length e3)) (fun _ hk=>trivial),hbA HB.out⟩
   ·rw[if_neg c9]at H
    have c9b0:(cb==0)=false:=beq_eq_false_iff_ne.mpr c9;have c9b1:(cb !=0)=true:=bne_iff_ne.mpr c9;simp only[Option.some.injEq,Prod.mk.injEq]at H;obtain⟨rfl,rfl,rfl,rfl⟩:=H
    go_enter Tryd.func42,Tryd.ntmps42
    go_wp2_with (first|((with_reducible refine gD 2 rfl ?_);refine bE 2 #[.int .i64 ac,.int .i64 aa,.slice a6 ai.length a7] 24 ?_;intro au hg m9 hbox hb;have D:=aK (hbox);have d1:=hbS HB hg;have dy:=hbS HB hg;replace HB:=hbB HB hb;clear hb hbox hg)|((with_reducible refine gD 4 rfl ?_);refine bE 4 #[.int .i64 0,.int .i64 0,.slice none 0 0] 24 ?_;intro aj hg w64 hbox hb;have G:=aK (hbox);have d2:=hbS HB hg;have dz:=hbS HB hg;replace HB:=hbB HB hb;have a2:=neL D hg;have a3:=neG D hg;replace D:=bkB D hb;clear hb hbox hg)|((with_reducible refine gC 47 rfl ?_);refine cG (some 15) Tryd.func47 #[.int .u64 a1] ?_;(with_reducible refine(subset_List.calls k a1 Y _ A3.out (tab_below HT.out zai)).mono ?_);rintro e na ⟨ej,rfl,av,hb⟩;refine⟨_,rfl,?_⟩;have L:=aK (Kd.R_lower av (below_size (hbA HB.out)));replace D:=bkB D hb;replace G:=bkB G hb;replace HB:=hbB HB hb;(try clear hb);(try clear av);have k9:=a2.out;have l7:=a3.out;obtain⟨g9,ia,ib,i6,i7,i8⟩:=cell3 D;obtain⟨ex,e4,gx⟩:=Kd.R_slice L.out;subst gx)|((with_reducible refine gC 46 rfl ?_);refine cG (some 19) Tryd.func46 #[.agg #[.int .i64 ac,.int .i64 aa,.slice a6 ai.length a7],.slice ex Y.length e4] ?_;(with_reducible refine(matrix_Pick.calls ac aa _ _ ai _ _ Y ab af ag b1 _ ?side1 ?side2 ?side3 ?side4 A4.out).mono ?_);(case side1=>exact kcB cg HB);(case side2=>exact cf.out);(case side3=>exact kcA (Kd.R_reads' L.out).2.2);(case side4=>exact(Kd.R_reads' L.out).2.1);rintro e nb ⟨ek,rfl,av,hb⟩;refine⟨_,rfl,?_⟩;replace L:=kdB L hb;have U:=aK (Kd.R_lower av (below_size (hbA HB.out)));replace D:=bkB D hb;replace G:=bkB G hb;replace HB:=hbB HB hb;(try clear hb);(try clear av))|((with_reducible refine gD 7 rfl ?_);refine bE 7 #[.int .i64 0,.int .i64 0,.slice none 0 0] 24 ?_;intro a0 hg nc hbox hb;replace L:=kdB L hb;replace U:=kdB U hb;have I:=aK (hbox);have d3:=hbS HB hg;have d0:=hbS HB hg;replace HB:=hbB HB hb;have O:=neL D hg;have a9:=neG D hg;replace D:=bkB D hb;have J:=neL G hg;have a4:=neG G hg;replace G:=bkB G hb;clear hb hbox hg;have la:=a9.out;have l8:=O.out;have lb:=a4.out;have l9:=J.out;obtain⟨ic,ie,ig,i9,ja,jb⟩:=cell3 I;obtain⟨bz,bx,gy⟩:=Kd.R_slice U.out;subst gy)|((with_reducible refine gC 63 rfl ?_);refine cG (some 28) Tryd.func63 #[.agg #[.int .i64 ab,.int .i64 af,.slice bz ag.length bx]] ?_;(with_reducible refine(gauss_Inverse.calls ab af _ _ ag az a5 bl b5 _ ?side1 ?side2 A6.out).mono ?_);(case side1=>refine(Kd.R_reads' (e:=5) (base:=w.heap.size) (ok:=fun k_=>True) (n:=ag.length) (c:=bx) ?_).2.2;exact(by(with_reducible repeat(first|apply Kd.R_alloc|apply Kd.R_drewN|apply Kd.R_drew));exact(zF U.out I.out  (.int .i64 ab)  (.int .i64 af)  (.slice bz ag.length bx))));(case side2=>exact(Kd.R_reads' U.out).2.1);rintro e nd ⟨e9,rfl,av,hb⟩;refine⟨_,rfl,?_⟩;have ax:=aK (Kd.V_lower (Kd.V_mono (ok':=fun k_=>some k_≠(.slice ex Y.length e4:Value).ownBlock∧some k_≠(.slice bz ag.length bx:Value).ownBlock∧k_≠au∧k_≠aj∧k_≠a0) av (fun k_ hk_=>⟨(Kd.fresh' (Kd.R_lt (by(with_reducible repeat(first|apply Kd.R_alloc|apply Kd.R_drewN|apply Kd.R_drew));exact(zF L.out I.out  (.int .i64 ab)  (.int .i64 af)  (.slice bz ag.length bx)))) k_ hk_),(Kd.fresh' (Kd.R_lt (by(with_reducible repeat(first|apply Kd.R_alloc|apply Kd.R_drewN|apply Kd.R_drew));exact(zF U.out I.out  (.int .i64 ab)  (.int .i64 af)  (.slice bz ag.length bx)))) k_ hk_),(Kd.freshB (g:=au) (o:= .cells #[.int .i64 ac,.int .i64 aa,.slice a6 ai.length a7] 24 (0,0)) zav k_ hk_),(Kd.freshB (g:=aj) (o:= .cells #[.int .i64 0,.int .i64 0,.slice none 0 0] 24 (0,0)) zaw k_ hk_),(Kd.freshB (g:=a0) (o:= .cells #[.int .i64 ab,.int .i64 af,.slice bz ag.length bx] 24 (0,0)) zar k_ hk_)⟩)) (below_size (hbA HB.out)));replace L:=aK (Kd.R_below (by(with_reducible repeat(first|apply Kd.R_alloc|apply Kd.R_drewN|apply Kd.R_drew));exact(zF L.out I.out  (.int .i64 ab)  (.int .i64 af)  (.slice bz ag.length bx))) hb);replace U:=aK (Kd.R_below (by(with_reducible repeat(first|apply Kd.R_alloc|apply Kd.R_drewN|apply Kd.R_drew));exact(zF U.out I.out  (.int .i64 ab)  (.int .i64 af)  (.slice bz ag.length bx))) hb);replace D:=aK (blk_below (g:=au) (o:= .cells #[.int .i64 ac,.int .i64 aa,.slice a6 ai.length a7] 24 (0,0)) zav hb);replace G:=aK (blk_below (g:=aj) (o:= .cells #[.int .i64 0,.int .i64 0,.slice none 0 0] 24 (0,0)) zaw hb);replace I:=aK (blk_below (g:=a0) (o:= .cells #[.int .i64 ab,.int .i64 af,.slice bz ag.length bx] 24 (0,0)) zar hb);replace HB:=hbB HB hb;(try clear hb);(try clear av))|((with_reducible refine gD 9 rfl ?_);refine bE 9 #[.int .i64 0,.int .i64 0,.slice none 0 0] 24 ?_;intro ao hg ne hbox hb;replace L:=kdB L hb;replace U:=kdB U hb;replace ax:=aK (Kd.V_below (Kd.V_elderB (by(with_reducible repeat(first|apply Kd.V_alloc|apply Kd.V_drewN|apply Kd.V_drew));exact ax.out) ao (Nat.le_of_eq hg.symm)) hb);have Z:=aK (hbox);have eb:=hbS HB hg;have d9:=hbS HB hg;replace HB:=hbB HB hb;have al:=neL D hg;have bj:=neG D hg;replace D:=bkB D hb;have ae:=neL G hg;have bg:=neG G hg;replace G:=bkB G hb;have am:=neL I hg;have bk:=neG I hg;replace I:=bkB I hb;clear hb hbox hg;have lc:=bj.out;have ma:=al.out;have ld:=bg.out;have mb:=ae.out;have le:=bk.out;have mc:=am.out;obtain⟨ii,ij,ik,jc,jd,je⟩:=cell3 Z;obtain⟨ci,ck,gz⟩:=Kd.V_slice ax.out;subst gz;obtain⟨il,im,io,jf,jg,jh⟩:=cell3 D)|((with_reducible refine gC 64 rfl ?_);refine cG (some 40) Tryd.func64 #[.int .i64 aa,.int .i64 ac] ?_;(with_reducible refine(matrix_Make.calls aa ac bd bf b6 cb _ A8.out).mono ?_);rintro e nf ⟨js,rfl,av,hb⟩;refine⟨_,rfl,?_⟩;replace L:=aK (Kd.R_below (by(with_reducible repeat(first|apply Kd.R_alloc|apply Kd.R_drewN|apply Kd.R_drew));exact(zF L.out Z.out  (.int .i64 az)  (.int .i64 a5)  (.slice ci bl.length ck))) hb);replace ax:=aK (Kd.V_elder' (by(with_reducible repeat(first|apply Kd.V_alloc|apply Kd.V_drewN|apply Kd.V_drew));exact(Kd.V_mono (Kd.V_far (p:=⟨ao,2,none⟩) (Kd.V_far (p:=⟨ao,1,none⟩) (Kd.V_far (p:=⟨ao,0,none⟩) (Kd.V_mono ax.out (fun k_ hk=>(⟨hk,hk.2⟩:_∧k_≠ao))) (fun _ hk=>hk.2) (.int .i64 az)) (fun _ hk=>hk.2) (.int .i64 a5)) (fun _ hk=>hk.2) (.slice ci bl.length ck)) (fun _ h_=>h_.1))) (Kd.R_base av) hb);have bw:=aK (Kd.R_lower (Kd.R_new' av (Kd.R_lt (by(with_reducible repeat(first|apply Kd.R_alloc|apply Kd.R_drewN|apply Kd.R_drew));exact(zF U.out Z.out  (.int .i64 az)  (.int .i64 a5)  (.slice ci bl.length ck))))) (below_size (hbA HB.out)));replace U:=aK (Kd.R_elder' (by(with_reducible repeat(first|apply Kd.R_alloc|apply Kd.R_drewN|apply Kd.R_drew));exact(zF U.out Z.out  (.int .i64 az)  (.int .i64 a5)  (.slice ci bl.length ck))) (Kd.R_base av) hb);replace D:=aK (blk_below (g:=au) (o:= .cells #[.int .i64 ac,.int .i64 aa,.slice a6 ai.length a7] 24 (0,0)) zao hb);replace G:=aK (blk_below (g:=aj) (o:= .cells #[.int .i64 0,.int .i64 0,.slice none 0 0] 24 (0,0)) zce hb);replace I:=aK (blk_below (g:=a0) (o:= .cells #[.int .i64 ab,.int .i64 af,.slice bz ag.length bx] 24 (0,0)) zcb hb);replace Z:=aK (blk_below (g:=ao) (o:= .cells #[.int .i64 az,.int .i64 a5,.slice ci bl.length ck] 24 (0,0)) zb1 hb);replace HB:=hbB HB hb;(try clear hb);(try clear hk);(try clear av))|((with_reducible refine gD 10 rfl ?_);refine bE 10 #[.int .i64 0,.int .i64 0,.slice none 0 0] 24 ?_;intro an hg ng hbox hb;replace L:=kdB L hb;replace U:=kdB U hb;replace ax:=aK (Kd.V_below (Kd.V_elderB (by(with_reducible repeat(first|apply Kd.V_alloc|apply Kd.V_drewN|apply Kd.V_drew));exact ax.out) an (Nat.le_of_eq hg.symm)) hb);replace bw:=kdB bw hb;have aw:=aK (hbox);have fd:=hbS HB hg;have fc:=hbS HB hg;replace HB:=hbB HB hb;have a8:=neL D hg;have bo:=neG D hg;replace D:=bkB D hb;have ar:=neL G hg;have bp:=neG G hg;replace G:=bkB G hb;have ba:=neL I hg;have bq:=neG I hg;replace I:=bkB I hb;have bb:=neL Z hg;have br:=neG Z hg;replace Z:=bkB Z hb;clear hb hbox hg;have lf:=bo.out;have me:=a8.out;have lg:=bp.out;have mf:=ar.out;have lh:=bq.out;have mg:=ba.out;have ll:=br.out;have mh:=bb.out;obtain⟨ip,iq,ir,ji,jj,jk⟩:=cell3 aw;obtain⟨mn,mq,g0⟩:=Kd.R_slice bw.out;subst g0;obtain⟨it,iu,iv,jl,jm,jn⟩:=cell3 G))
    refine bodyPost_ret (results_ct rfl _ _ aj 24 #[.int .i64 0,.int .i64 0,.slice none 0 0] (0,0) _ rfl (by refine bkR ?_;refine blk_put (cs:= #[.int .i64 0,.int .i64 0,.slice none 0 0]) ?_ 2 _ rfl;refine bkR ?_;refine blk_put (cs:= #[.int .i64 0,.int .i64 0,.slice none 0 0]) ?_ 1 _ rfl;refine bkR ?_;refine blk_put (cs:= #[.int .i64 0,.int .i64 0,.slice none 0 0]) ?_ 0 _ rfl;refine bkR ?_;refine blk_far ?_ ar.out _;refine bkR ?_;refine blk_far ?_ ar.out _;refine bkR ?_;refine blk_far ?_ ar.out _;refine bkR ?_;exact G.out) Tryd.underlying24 rfl zab) rfl ?_;exact⟨_,rfE,nilE,hbA HB.out⟩
  ·rw[if_neg c7]at H
   have c7b0:(b5==0)=false:=beq_eq_false_iff_ne.mpr c7;have c7b1:(b5 !=0)=true:=bne_iff_ne.mpr c7;simp only[Option.some.injEq,Prod.mk.injEq]at H;obtain⟨rfl,rfl,rfl,rfl⟩:=H
   go_enter Tryd.func42,Tryd.ntmps42
   go_wp2_with (first|((with_reducible refine gD 2 rfl ?_);refine bE 2 #[.int .i64 ac,.int .i64 aa,.slice a6 ai.length a7] 24 ?_;intro au hg nh hbox hb;have D:=aK (hbox);have d1:=hbS HB hg;have dy:=hbS HB hg;replace HB:=hbB HB hb;clear hb hbox hg)|((with_reducible refine gD 4 rfl ?_);refine bE 4 #[.int .i64 0,.int .i64 0,.slice none 0 0] 24 ?_;intro aj hg ni hbox hb;have G:=aK (hbox);have d2:=hbS HB hg;have dz:=hbS HB hg;replace HB:=hbB HB hb;have a2:=neL D hg;have a3:=neG D hg;replace D:=bkB D hb;clear hb hbox hg)|((with_reducible refine gC 47 rfl ?_);refine cG (some 15) Tryd.func47 #[.int .u64 a1] ?_;(with_reducible refine(subset_List.calls k a1 Y _ A3.out (tab_below HT.out zai)).mono ?_);rintro e nj ⟨ej,rfl,av,hb⟩;refine⟨_,rfl,?_⟩;have L:=aK (Kd.R_lower av (below_size (hbA HB.out)));replace D:=bkB D hb;replace G:=bkB G hb;replace HB:=hbB HB hb;(try clear hb);(try clear av);have lm:=a2.out;have mi:=a3.out;obtain⟨iw,ix,iy,jo,jp,jq⟩:=cell3 D;obtain⟨ey,e5,g1⟩:=Kd.R_slice L.out;subst g1)|((with_reducible refine gC 46 rfl ?_);refine cG (some 19) Tryd.func46 #[.agg #[.int .i64 ac,.int .i64 aa,.slice a6 ai.length a7],.slice ey Y.length e5] ?_;(with_reducible refine(matrix_Pick.calls ac aa _ _ ai _ _ Y ab af ag b1 _ ?side1 ?side2 ?side3 ?side4 A4.out).mono ?_);(case side1=>exact kcB cg HB);(case side2=>exact cf.out);(case side3=>exact kcA (Kd.R_reads' L.out).2.2);(case side4=>exact(Kd.R_reads' L.out).2.1);rintro e nk ⟨ek,rfl,av,hb⟩;refine⟨_,rfl,?_⟩;replace L:=kdB L hb;have U:=aK (Kd.R_lower av (below_size (hbA HB.out)));replace D:=bkB D hb;replace G:=bkB G hb;replace HB:=hbB HB hb;(try clear hb);(try clear av))|((with_reducible refine gD 7 rfl ?_);refine bE 7 #[.int .i64 0,.int .i64 0,.slice none 0 0] 24 ?_;intro a0 hg nl hbox hb;replace L:=kdB L hb;replace U:=kdB U hb;have I:=aK (hbox);have d3:=hbS HB hg;have d0:=hbS HB hg;replace HB:=hbB HB hb;have O:=neL D hg;have a9:=neG D hg;replace D:=bkB D hb;have J:=neL G hg;have a4:=neG G hg;replace G:=bkB G hb;clear hb hbox hg;have jt:=a9.out;have j1:=O.out;have ju:=a4.out;have j2:=J.out;obtain⟨fl,fm,fo,f5,f6,f7⟩:=cell3 I;obtain⟨bn,bm,fg⟩:=Kd.R_slice U.out;subst fg)|((with_reducible refine gC 63 rfl ?_);refine cG (some 28) Tryd.func63 #[.agg #[.int .i64 ab,.int .i64 af,.slice bn ag.length bm]] ?_;(with_reducible refine(gauss_Inverse.calls ab af _ _ ag az a5 bl b5 _ ?side1 ?side2 A6.out).mono ?_);(case side1=>refine(Kd.R_reads' (e:=5) (base:=w.heap.size) (ok:=fun k_=>True) (n:=ag.length) (c:=bm) ?_).2.2;exact(by(with_reducible repeat(first|apply Kd.R_alloc|apply Kd.R_drewN|apply Kd.R_drew));exact(zF U.out I.out  (.int .i64 ab)  (.int .i64 af)  (.slice bn ag.length bm))));(case side2=>exact(Kd.R_reads' U.out).2.1);rintro e ms ⟨e9,rfl,av,hb⟩;refine⟨_,rfl,?_⟩;have ax:=aK (Kd.V_lower (Kd.V_mono (ok':=fun k_=>some k_≠(.slice ey Y.length e5:Value).ownBlock∧some k_≠(.slice bn ag.length bm:Value).ownBlock∧k_≠au∧k_≠aj∧k_≠a0) av (fun k_ hk_=>⟨(Kd.fresh' (Kd.R_lt (by(with_reducible repeat(first|apply Kd.R_alloc|apply Kd.R_drewN|apply Kd.R_drew));exact(zF L.out I.out  (.int .i64 ab)  (.int .i64 af)  (.slice bn ag.length bm)))) k_ hk_),(Kd.fresh' (Kd.R_lt (by(with_reducible repeat(first|apply Kd.R_alloc|apply Kd.R_drewN|apply Kd.R_drew));exact(zF U.out I.out  (.int .i64 ab)  (.int .i64 af)  (.slice bn ag.length bm)))) k_ hk_),(Kd.freshB (g:=au) (o:= .cells #[.int .i64 ac,.int .i64 aa,.slice a6 ai.length a7] 24 (0,0)) zav k_ hk_),(Kd.freshB (g:=aj) (o:= .cells #[.int .i64 0,.int .i64 0,.slice none 0 0] 24 (0,0)) zaw k_ hk_),(Kd.freshB (g:=a0) (o:= .cells #[.int .i64 ab,.int .i64 af,.slice bn ag.length bm] 24 (0,0)) zar k_ hk_)⟩)) (below_size (hbA HB.out)));replace L:=aK (Kd.R_below (by(with_reducible repeat(first|apply Kd.R_alloc|apply Kd.R_drewN|apply Kd.R_drew));exact(zF L.out I.out  (.int .i64 ab)  (.int .i64 af)  (.slice bn ag.length bm))) hb);replace U:=aK (Kd.R_below (by(with_reducible repeat(first|apply Kd.R_alloc|apply Kd.R_drewN|apply Kd.R_drew));exact(zF U.out I.out  (.int .i64 ab)  (.int .i64 af)  (.slice bn ag.length bm))) hb);replace D:=aK (blk_below (g:=au) (o:= .cells #[.int .i64 ac,.int .i64 aa,.slice a6 ai.length a7] 24 (0,0)) zav hb);replace G:=aK (blk_below (g:=aj) (o:= .cells #[.int .i64 0,.int .i64 0,.slice none 0 0] 24 (0,0)) zaw hb);replace I:=aK (blk_below (g:=a0) (o:= .cells #[.int .i64 ab,.int .i64 af,.slice bn ag.length bm] 24 (0,0)) zar hb);replace HB:=hbB HB hb;(try clear hb);(try clear av))|((with_reducible refine gD 9 rfl ?_);refine bE 9 #[.int .i64 0,.int .i64 0,.slice none 0 0] 24 ?_;intro ao hg mt hbox hb;replace L:=kdB L hb;replace U:=kdB U hb;replace ax:=aK (Kd.V_below (Kd.V_elderB (by(with_reducible repeat(first|apply Kd.V_alloc|apply Kd.V_drewN|apply Kd.V_drew));exact ax.out) ao (Nat.le_of_eq hg.symm)) hb);have Z:=aK (hbox);have eb:=hbS HB hg;have d9:=hbS HB hg;replace HB:=hbB HB hb;have al:=neL D hg;have bj:=neG D hg;replace D:=bkB D hb;have ae:=neL G hg;have bg:=neG G hg;replace G:=bkB G hb;have am:=neL I hg;have bk:=neG I hg;replace I:=bkB I hb;clear hb hbox hg;have jv:=bj.out;have j3:=al.out;have jw:=bg.out;have j4:=ae.out;have jx:=bk.out;have j5:=am.out;obtain⟨fp,fq,fs,f8,f9,ga⟩:=cell3 Z;obtain⟨j9,kn,fh⟩:=Kd.V_slice ax.out;subst fh;obtain⟨ft,fu,fv,gb,gc,ge⟩:=cell3 G))
   refine bodyPost_ret (results_ct rfl _ _ aj 24 #[.int .i64 0,.int .i64 0,.slice none 0 0] (0,0) _ rfl (by refine bkR ?_;refine blk_put (cs:= #[.int .i64 0,.int .i64 0,.slice none 0 0]) ?_ 2 _ rfl;refine bkR ?_;refine blk_put (cs:= #[.int .i64 0,.int .i64 0,.slice none 0 0]) ?_ 1 _ rfl;refine bkR ?_;refine blk_put (cs:= #[.int .i64 0,.int .i64 0,.slice none 0 0]) ?_ 0 _ rfl;refine bkR ?_;refine blk_far ?_ ae.out _;refine bkR ?_;refine blk_far ?_ ae.out _;refine bkR ?_;refine blk_far ?_ ae.out _;refine bkR ?_;exact G.out) Tryd.underlying24 rfl zab) rfl ?_;exact⟨_,rfE,nilE,hbA HB.out⟩
 ·rw[if_neg c5]at H
  have c5b0:(b1==0)=false:=beq_eq_false_iff_ne.mpr c5;have c5b1:(b1 !=0)=true:=bne_iff_ne.mpr c5;simp only[Option.some.injEq,Prod.mk.injEq]at H;obtain⟨rfl,rfl,rfl,rfl⟩:=H
  go_enter Tryd.func42,Tryd.ntmps42
  go_wp2_with (first|((with_reducible refine gD 2 rfl ?_);refine bE 2 #[.int .i64 ac,.int .i64 aa,.slice a6 ai.length a7] 24 ?_;intro au hg mu hbox hb;have D:=aK (hbox);have d1:=hbS HB hg;have dy:=hbS HB hg;replace HB:=hbB HB hb;clear hb hbox hg)|((with_reducible refine gD 4 rfl ?_);refine bE 4 #[.int .i64 0,.int .i64 0,.slice none 0 0] 24 ?_;intro aj hg mv hbox hb;have G:=aK (hbox);have d2:=hbS HB hg;have dz:=hbS HB hg;replace HB:=hbB HB hb;have a2:=neL D hg;have a3:=neG D hg;replace D:=bkB D hb;clear hb hbox hg)|((with_reducible refine gC 47 rfl ?_);refine cG (some 15) Tryd.func47 #[.int .u64 a1] ?_;(with_reducible refine(subset_List.calls k a1 Y _ A3.out (tab_below HT.out zai)).mono ?_);rintro e mw ⟨ej,rfl,av,hb⟩;refine⟨_,rfl,?_⟩;have L:=aK (Kd.R_lower av (below_size (hbA HB.out)));replace D:=bkB D hb;replace G:=bkB G hb;replace HB:=hbB HB hb;(try clear hb);(try clear av);have jy:=a2.out;have j6:=a3.out;obtain⟨fw,fx,fy,gf,gg,gh⟩:=cell3 D;obtain⟨fb,ff,fi⟩:=Kd.R_slice L.out;subst fi)|((with_reducible refine gC 46 rfl ?_);refine cG (some 19) Tryd.func46 #[.agg #[.int .i64 ac,.int .i64 aa,.slice a6 ai.length a7],.slice fb Y.length ff] ?_;(with_reducible refine(matrix_Pick.calls ac aa _ _ ai _ _ Y ab af ag b1 _ ?side1 ?side2 ?side3 ?side4 A4.out).mono ?_);(case side1=>exact kcB cg HB);(case side2=>exact cf.out);(case side3=>exact kcA (Kd.R_reads' L.out).2.2);(case side4=>exact(Kd.R_reads' L.out).2.1);rintro e mx ⟨ek,rfl,av,hb⟩;refine⟨_,rfl,?_⟩;replace L:=kdB L hb;have U:=aK (Kd.R_lower av (below_size (hbA HB.out)));replace D:=bkB D hb;replace G:=bkB G hb;replace HB:=hbB HB hb;(try clear hb);(try clear av))|((with_reducible refine gD 7 rfl ?_);refine bE 7 #[.int .i64 0,.int .i64 0,.slice none 0 0] 24 ?_;intro a0 hg my hbox hb;replace L:=kdB L hb;replace U:=kdB U hb;have I:=aK (hbox);have d3:=hbS HB hg;have d0:=hbS HB hg;replace HB:=hbB HB hb;have O:=neL D hg;have a9:=neG D hg;replace D:=bkB D hb;have J:=neL G hg;have a4:=neG G hg;replace G:=bkB G hb;clear hb hbox hg;have jz:=a9.out;have j7:=O.out;have j0:=a4.out;have j8:=J.out;obtain⟨fz,f0,f1,gi,gj,gl⟩:=cell3 I;obtain⟨ka,ko,fj⟩:=Kd.R_slice U.out;subst fj;obtain⟨f2,f3,f4,gm,gn,gp⟩:=cell3 G))
  refine bodyPost_ret (results_ct rfl _ _ aj 24 #[.int .i64 0,.int .i64 0,.slice none 0 0] (0,0) _ rfl (by refine bkR ?_;refine blk_put (cs:= #[.int .i64 0,.int .i64 0,.slice none 0 0]) ?_ 2 _ rfl;refine bkR ?_;refine blk_put (cs:= #[.int .i64 0,.int .i64 0,.slice none 0 0]) ?_ 1 _ rfl;refine bkR ?_;refine blk_put (cs:= #[.int .i64 0,.int .i64 0,.slice none 0 0]) ?_ 0 _ rfl;refine bkR ?_;refine blk_far ?_ J.out _;refine bkR ?_;refine blk_far ?_ J.out _;refine bkR ?_;refine blk_far ?_ J.out _;refine bkR ?_;exact G.out) Tryd.underlying24 rfl zab) rfl ?_;exact⟨_,rfE,nilE,hbA HB.out⟩
end Go.Proofs.YtkagobkedifhkaaDoor.Q
namespace Go.Proofs.YtkagobkedifhkaaDoor.Q
open Go.RowKit Go.Proofs.YtkagobkedifhkaaDoorW.PrintWords Go.Proofs.YtkagobkedifhkaaDoorW.PrintLast Go.Proofs.YtkagobkedifhkaaDoorW.PrintMore
attribute [local go_sem] max2_int min2_int max_two min_two max_three min_three max_four min_four
set_option linter.unusedVariables false
set_option linter.unusedSimpArgs false
def verdict_Decode.f(k:Nat)(D:Int)(G:Int)(I:List Int)(a1:Int):Option (Int×Int×List Int×Bool×Int):=
 (verdict_rec.f k D G I a1).bind fun p=>if p.2.1=true then((verdict_decode.f k D G I p.1).bind fun q=>some (q.1,q.2.1,q.2.2.1,q.2.2.2==0,q.2.2.2))else some (0,0,[],false,p.2.2)
theorem verdict_Decode.mono: ∀a0 a1 a2 a3 k,LeO (verdict_Decode.f k a0 a1 a2 a3) (verdict_Decode.f (k+1) a0 a1 a2 a3):=fun a0 a1 a2 a3 k=>by
 unfold verdict_Decode.f;refine LeO.bind (verdict_rec.mono k a0 a1 a2 a3) fun p=>?_
 split
 ·exact LeO.bind (verdict_decode.mono _ _ _ _ _) fun q=>LeO.refl _
 ·exact LeO.refl _
structure Stored18 (w w':World) (bd:Nat) (r1 r2:Int) (r3:List Int):Prop where
 box: ∃v:Value,w'.heap[bd]? =some (.cells #[.int .i64 r1,.int .i64 r2,v] 24 (0,0))∧Kd.R (Kd.int .u8) 5 w' w.heap.size (fun _=>True) v r3
 below:Below bd w w'
 same: ∀k,k<w.heap.size→k≠bd→w'.heap[k]? =w.heap[k]?
set_option maxHeartbeats 4000000 in
set_option maxRecDepth 100000 in
theorem verdict_fn41.calls(k:Nat)(a b:Int)(A:Option Addr)(c:Nat)(l:List Int)(s r1 r2:Int)(r3:List Int)(r4:Int)(bg bd:Nat)(w:World)
 (hg:w.heap[bg]? =some (.cells #[.int .i64 a,.int .i64 b,.slice A l.length c] 24 (0,0))) (hd:w.heap[bd]? =some (.cells #[.int .i64 0,.int .i64 0,.slice none 0 0] 24 (0,0)))
 (hr:Kd.C (Kd.int .u8) w A l.length l) (hc:l.length≤c) (h:verdict_decode.f k a b l s=some (r1,r2,r3,r4)) (hT:TabAt 0 Lib.deBruijn64tab w):
 Calls Tryd.prog 41 #[.int .u64 s,.pointer (some ⟨bg,0,none⟩),.pointer (some ⟨bd,0,none⟩)] w fun e w'=>e= .returned (.int .i64 r4)∧Stored18 w w' bd r1 r2 r3:=by
 have G:=Tryd.underlying24;have HR:=aK hr;have HC:=aK hc;have HT:=aK hT;have HH:=aK h;have HB:=aK (Below.refl w.heap.size w);have HD:=aK hd;have BK:=aK hg;have hbd:bd<w.heap.size:=(Array.getElem?_eq_some_iff.1 hd).1;clear hr hc hT h hd hg;obtain⟨hcx_0,hcx_1,hcx_2,hfx_0,hfx_1,hfx_2⟩:=cell3 BK
 go_enter Tryd.func41,Tryd.ntmps41
 go_wp2_with (go_at_call 42;refine(verdict_decode.calls k a b A c l s r1 r2 r3 r4 _ HR.out HC.out HH.out HT.out).mono ?_;rintro e w1 ⟨v,rfl,ho,hb⟩;obtain⟨Av,cv,ev⟩:=Kd.R_slice ho;subst ev;have D:=aK (blk_below HD.out hb);obtain⟨hcy_0,hcy_1,hcy_2,hfy_0,hfy_1,hfy_2⟩:=cell3 D)
 go_ret
 have b0:=blk_put (cs:= #[.int .i64 0,.int .i64 0,.slice none 0 0]) D.out 0 (.int .i64 r1) rfl;have b1:=blk_put (cs:= #[.int .i64 r1,.int .i64 0,.slice none 0 0]) b0 1 (.int .i64 r2) rfl;have b2:=blk_put (cs:= #[.int .i64 r1,.int .i64 r2,.slice none 0 0]) b1 2 (.slice Av r3.length cv) rfl;have ho':Kd.R (Kd.int .u8) 5 w1 w.heap.size (fun k=>True∧k≠bd) (.slice Av r3.length cv) r3:=Kd.R_types ho D.out zaa;have o2:=Kd.R_far (p:=⟨bd,2,none⟩) (Kd.R_far (p:=⟨bd,1,none⟩) (Kd.R_far (p:=⟨bd,0,none⟩) ho' (fun _ hk=>hk.2) (.int .i64 r1)) (fun _ hk=>hk.2) (.int .i64 r2)) (fun _ hk=>hk.2) (.slice Av r3.length cv);have hw:Below bd w w1:=hb.mono zz;refine⟨rfl,⟨⟨_,b2,Kd.R_mono o2 fun _ _=>trivial⟩,((hw.setCell (p:=⟨bd,0,none⟩) (Nat.le_refl _) _).setCell (p:=⟨bd,1,none⟩) (Nat.le_refl _) _).setCell (p:=⟨bd,2,none⟩) (Nat.le_refl _) _,fun k hk hne=>?_⟩⟩;rw[Below.heap_setCell _ _ _ k hne,Below.heap_setCell _ _ _ k hne,Below.heap_setCell _ _ _ k hne];exact hb.block k hk
theorem Stored18.mark{w W W2:World}{bd D:Nat}{r1 r2:Int}{r3:List Int}(h:Stored18 W W2 bd r1 r2 r3)(hw:w.heap.size≤W.heap.size)(hbd:bd≤w.heap.size)(hD:w.heap.size≤D)(hK:W2.heap[D]? =some (.deferred (some [])))(hB:Below bd w W):
 (∃v:Value,(W2.putObj D (.deferred none)).heap[bd]? =some (.cells #[.int .i64 r1,.int .i64 r2,v] 24 (0,0))∧Kd.R (Kd.int .u8) 5 (W2.putObj D (.deferred none)) w.heap.size (fun _=>True) v r3)∧Below bd w (W2.putObj D (.deferred none)):=by
 obtain⟨v,h1,h2⟩:=h.box;have ne: ∀k,(∃(cells:Array Value) (t:TypeId),W2.heap[k]? =some (Obj.cells cells t ((0,0):Nat×Nat)))→(W2.putObj D (.deferred none)).heap[k]? =W2.heap[k]? :=fun k hx=>by
  obtain⟨cells,t,hk⟩:=hx;refine World.putObj_heap_other ?_;intro e
  first
  |rw[e,hK]at hk;cases hk
  |rw[←e,hK]at hk;cases hk
 refine⟨⟨v,(ne bd ⟨_,_,h1⟩).trans h1,?_⟩,?_⟩
 ·refine Kd.R_mono (Kd.R_step (Kd.R_bound (Kd.R_lower h2 hw)) fun k hk _=>?_) fun _ _=>trivial;obtain⟨_,_,_,q,_,cells,hc⟩:=hk;exact ne k ⟨cells,q,hc⟩
 ·have h3:=hB.trans h.below;have hsz:D<W2.heap.size:=(Array.getElem?_eq_some_iff.1 hK).1;exact h3.grown (grownBy_putObj' W2 D (.deferred none)) (by have h4:=(Array.getElem?_eq_some_iff.1 h1).1;omega) (fun k e=>by cases e;omega)
theorem verdict_recovered41.calls(k:Nat)(a b:Int)(A:Option Addr)(c:Nat)(l:List Int)(x:Int)(r1 r2:Int)(r3:List Int)(r4:Bool)(r5:Int)(bg bd:Nat)(w:World)
 (hr:Kd.C (Kd.int .u8) w A l.length l) (hc:l.length≤c) (h:verdict_Decode.f k a b l x=some (r1,r2,r3,r4,r5)) (hT:TabAt 0 Lib.deBruijn64tab w)
 (hg:w.heap[bg]? =some (.cells #[.int .i64 a,.int .i64 b,.slice A l.length c] 24 (0,0))) (hd:w.heap[bd]? =some (.cells #[.int .i64 0,.int .i64 0,.slice none 0 0] 24 (0,0))):
 Calls Tryd.prog 30 #[.agg #[.int .i64 a,.int .i64 b,.slice A l.length c],.int .u64 x,.func (.func 41) #[] #[.pointer (some ⟨bg,0,none⟩),.pointer (some ⟨bd,0,none⟩)]] w fun e w'=>
  e= .returned (.tuple #[.bool r4,.int .i64 r5])∧(∃v:Value,w'.heap[bd]? =some (.cells #[.int .i64 r1,.int .i64 r2,v] 24 (0,0))∧Kd.R (Kd.int .u8) 5 w' w.heap.size (fun _=>True) v r3)∧Below bd w w':=by
 unfold verdict_Decode.f at h;obtain⟨⟨s,ok,er⟩,h1,h2⟩:=Option.bind_eq_some_iff.mp h;have hlt:bd<w.heap.size:=(Array.getElem?_eq_some_iff.1 hd).1
 cases ok with
 |false=>
  rw[if_neg (show¬(false=true)by decide)]at h2
  injection h2 with h2;injection h2 with e1 h2;injection h2 with e2 h2;injection h2 with e3 h2;injection h2 with e4 e5;refine verdict_recovered.goes k a b A c l x s false er 41 _ w (fun W G W2=>True) _ hr hc h1 hT (enters_of Tryd.func41 zab rfl) (fun e=>by cases e) (fun _ w' hB=>?_) (fun e=>by cases e);rw[←e1,←e2,←e3,←e4,←e5];exact⟨rfl,⟨_,(hB.block _ hlt).trans hd,Kd.R_nil _ _ _ _ _⟩,hB.mono (Nat.le_of_lt hlt)⟩
 |true=>
  rw[if_pos rfl]at h2
  obtain⟨⟨q1,q2,q3,q4⟩,h3,h2⟩:=Option.bind_eq_some_iff.mp h2;injection h2 with h2;injection h2 with e1 h2;injection h2 with e2 h2;injection h2 with e3 h2;injection h2 with e4 e5
  dsimp only at e1 e2 e3 e4 e5
  subst e1 e2 e3 e5;refine verdict_recovered.goes k a b A c l x s true er 41 #[.pointer (some ⟨bg,0,none⟩),.pointer (some ⟨bd,0,none⟩)] w (fun W G W2=>G=q4∧Stored18 W W2 bd q1 q2 q3) _ hr hc h1 hT (enters_of Tryd.func41 zab rfl) (fun _ W hB=>?_) (fun e=>by cases e) (fun _ W G W2 D hB I L J hK=>?_)
  ·have hgW:=(hB.block _ (Array.getElem?_eq_some_iff.1 hg).1).trans hg;have hdW:=(hB.block _ hlt).trans hd;refine(verdict_fn41.calls k a b A c l s q1 q2 q3 q4 bg bd W hgW hdW (Kd.C_below hr hB) hc h3 (tab_below hT hB)).mono ?_;rintro e W' ⟨rfl,hS⟩;refine⟨q4,rfl,⟨rfl,hS⟩,fun D hD=>?_⟩;refine(hS.same D (Array.getElem?_eq_some_iff.1 hD).1 ?_).trans hD;intro e;rw[e,hdW]at hD
   cases hD
  ·obtain⟨rfl,hS⟩:=J;have hm:=hS.mark hB.size (Nat.le_of_lt hlt) I hK (hB.mono (Nat.le_of_lt hlt));rw[←e4];exact⟨rfl,hm.1,hm.2⟩
set_option maxHeartbeats 4000000 in
set_option maxRecDepth 100000 in
theorem verdict_Decode.calls(k:Nat)(I:Int)(J:Int)(G:Option Addr)(L:Nat)(D:List Int)(a1:Int)(r1:Int)(r2:Int)(r3:List Int)(r4:Bool)(r5:Int)(w:World)(U:Kd.C (Kd.int .u8) w G D.length D)(O:D.length≤L)(h:verdict_Decode.f k I J D a1=some (r1,r2,r3,r4,r5))(hT:TabAt 0 Lib.deBruijn64tab w):
 Calls Tryd.prog 20 #[.agg #[.int .i64 I,.int .i64 J,.slice G D.length L],.int .u64 a1] w fun e w'=> ∃v2_:Value,e= .returned (.tuple #[.agg #[.int .i64 r1,.int .i64 r2,v2_],.bool r4,.int .i64 r5])∧Kd.R (Kd.int .u8) 5 w' w.heap.size (fun _=>True) v2_ r3∧Below w.heap.size w w':=by
 have Z:=Tryd.underlying24;have HR:=aK U;have HC:=aK O;have HT:=aK hT;have HH:=aK h;have HB:=aK (Below.refl w.heap.size w);clear U O hT h;have Y:=World.alloc_heap_new w (.cells #[.int .i64 I,.int .i64 J,.slice G D.length L] 24);have BK:=aK ((Below.heap_alloc (w.alloc (.cells #[.int .i64 I,.int .i64 J,.slice G D.length L] 24)) (.cells #[.int .i64 0,.int .i64 0,.slice none 0 0] 24) _ zac).trans Y);have X:=World.alloc_heap_new (w.alloc (.cells #[.int .i64 I,.int .i64 J,.slice G D.length L] 24)) (.cells #[.int .i64 0,.int .i64 0,.slice none 0 0] 24);rw[World.size_alloc]at X
 have BD:=aK X;obtain⟨hcx_0,hcx_1,hcx_2,hfx_0,hfx_1,hfx_2⟩:=cell3 BK;clear Y X
 go_enter Tryd.func20,Tryd.ntmps20
 go_wp2_with (go_at_call 30;refine(verdict_recovered41.calls k I J G L D a1 r1 r2 r3 r4 r5 w.heap.size (w.heap.size+1) _ (kcB HR HB) HC.out HH.out (tab_below HT.out (hbA HB.out)) BK.out BD.out).mono ?_;rintro e w1 ⟨rfl,⟨v,hv,ho⟩,hb⟩;obtain⟨Av,cv,ev⟩:=Kd.R_slice ho;subst ev;have HV:=aK hv;clear hv;obtain⟨hcy_0,hcy_1,hcy_2,hfy_0,hfy_1,hfy_2⟩:=cell3 HV)
 have b0:=blk_put (cs:= #[.int .i64 r1,.int .i64 r2,.slice Av r3.length cv]) HV.out 0 (.int .i64 r1) rfl;have b1:=blk_put (cs:= #[.int .i64 r1,.int .i64 r2,.slice Av r3.length cv]) b0 1 (.int .i64 r2) rfl;have b2:=blk_put (cs:= #[.int .i64 r1,.int .i64 r2,.slice Av r3.length cv]) b1 2 (.slice Av r3.length cv) rfl;have ho':=Kd.R_types ho HV.out zaa;have o2:=Kd.R_far (p:=⟨w.heap.size+1,2,none⟩) (Kd.R_far (p:=⟨w.heap.size+1,1,none⟩) (Kd.R_far (p:=⟨w.heap.size+1,0,none⟩) ho' (fun _ hk=>hk.2) (.int .i64 r1)) (fun _ hk=>hk.2) (.int .i64 r2)) (fun _ hk=>hk.2) (.slice Av r3.length cv);obtain⟨hcz_0,hcz_1,hcz_2,hfz_0,hfz_1,hfz_2⟩:=cell3 (aK b2);have h0:Below w.heap.size w ((w.alloc (.cells #[.int .i64 I,.int .i64 J,.slice G D.length L] 24)).alloc (.cells #[.int .i64 0,.int .i64 0,.slice none 0 0] 24)):=hbA HB.out;have hw:=h0.trans (hb.mono zz);refine⟨rfl,.tuple #[.agg #[.int .i64 r1,.int .i64 r2,.slice Av r3.length cv],.bool r4,.int .i64 r5],?_,.slice Av r3.length cv,rfl,Kd.R_mono (Kd.R_lower o2 h0.size) fun _ _=>trivial,?_⟩
 ·simp[results,show Tryd.f20.results= #[ResultVar.cell 4 24,ResultVar.tmp 5,ResultVar.tmp 6]from rfl,go_sem,Z,hcz_0,hcz_1,hcz_2]
 ·exact((hw.setCell (p:=⟨w.heap.size+1,0,none⟩) zac _).setCell (p:=⟨w.heap.size+1,1,none⟩) zac _).setCell (p:=⟨w.heap.size+1,2,none⟩) zac _
def recoupref01_Same.f(l0:List Int)(l1:List Int):Option (Bool):=some ((strOfNums l0).toList==(strOfNums l1).toList)
set_option maxHeartbeats 8000000 in
set_option maxRecDepth 100000 in
theorem recoupref01_Same.calls(A0:Option Addr)(c0:Nat)(l0:List Int)(A1:Option Addr)(c1:Nat)(l1:List Int)(r:Bool)(w:World)(I:Kd.C (Kd.int .u8) w A0 l0.length l0)(D:l0.length≤c0)(J:Kd.C (Kd.int .u8) w A1 l1.length l1)(G:l1.length≤c1)(h:recoupref01_Same.f l0 l1=some r):
 Calls Tryd.prog 27 #[.slice A0 l0.length c0,.slice A1 l1.length c1] w fun e w'=>e= .returned (.bool r)∧Drawn0 w w':=by
 have L:=aK I;have Y:=aK D;clear I D;have O:=aK J;have Z:=aK G;clear J G;have H:(some ((strOfNums l0).toList==(strOfNums l1).toList))=some r:=h;clear h;obtain rfl:=Option.some.inj H;have U:=Kd.C_string (P:=Tryd.prog) (A:=A0) (c:=c0) Tryd.underlying22 Tryd.underlying5 Tryd.underlying9 L.out;have X:=Kd.C_string (P:=Tryd.prog) (A:=A1) (c:=c1) Tryd.underlying22 Tryd.underlying5 Tryd.underlying9 O.out
 go_enter Tryd.func27,Tryd.ntmps27
 go_wp2
 go_ret
 exact⟨by first|rfl|(simp;done)|(simp[*];done),by repeat(first|exact Drawn0.refl _|apply Drawn0.step)⟩
def recoupref03_Like.f(D:Int)(G:Int)(L:List Int)(I:Int)(J:Int)(O:List Int):Option (Bool):=if D=I then(if G=J then((recoupref01_Same.f L O).bind fun U=>(some U))else(some false))else(some false)
set_option maxHeartbeats 8000000 in
set_option maxRecDepth 100000 in
theorem recoupref03_Like.calls(J:Int)(L:Int)(aa:Option Addr)(ac:Nat)(X:List Int)(O:Int)(U:Int)(ab:Option Addr)(ae:Nat)(Y:List Int)(r:Bool)(w:World)(an:Kd.C (Kd.int .u8) w aa X.length X)(al:X.length≤ac)(ao:Kd.C (Kd.int .u8) w ab Y.length Y)(am:Y.length≤ae)(h:recoupref03_Like.f J L X O U Y=some r):
 Calls Tryd.prog 24 #[.agg #[.int .i64 J,.int .i64 L,.slice aa X.length ac],.agg #[.int .i64 O,.int .i64 U,.slice ab Y.length ae]] w fun e w'=>e= .returned (.bool r)∧Below w.heap.size w w':=by
 have b3:=Tryd.underlying24;have au:=aK an;have aq:=aK al;clear an al;have av:=aK ao;have ar:=aK am;clear ao am;have HB:=aK (Below.refl w.heap.size w);have H:(if J=O then(if L=U then((recoupref01_Same.f X Y).bind fun ap=>(some ap))else(some false))else(some false))=some r:=h;clear h;by_cases c3:J=O
 ·rw[if_pos c3]at H
  have c3b0:(J==O)=true:=beq_iff_eq.mpr c3;have c3b1:(J !=O)=false:=bne_eq_false_iff_eq.mpr c3;clear c3;by_cases c4:L=U
  ·rw[if_pos c4]at H
   have c4b0:(L==U)=true:=beq_iff_eq.mpr c4;have c4b1:(L !=U)=false:=bne_eq_false_iff_eq.mpr c4;clear c4;obtain⟨ap,A5,H⟩:=bindO H
   (try dsimp only at H)
   obtain rfl:=Option.some.inj H
   go_enter Tryd.func24,Tryd.ntmps24
   go_wp2_with (first|((with_reducible refine gD 2 rfl ?_);refine bE 2 #[.int .i64 J,.int .i64 L,.slice aa X.length ac] 24 ?_;intro aj hg w6 hbox hb;have D:=aK (hbox);have ah:=hbS HB hg;have af:=hbS HB hg;replace HB:=hbB HB hb;clear hb hbox hg)|((with_reducible refine gD 3 rfl ?_);refine bE 3 #[.int .i64 O,.int .i64 U,.slice ab Y.length ae] 24 ?_;intro ak hg w7 hbox hb;have Z:=aK (hbox);have ai:=hbS HB hg;have ag:=hbS HB hg;replace HB:=hbB HB hb;have G:=neL D hg;have I:=neG D hg;replace D:=bkB D hb;clear hb hbox hg;have b1:=G.out;have b2:=I.out;obtain⟨bq,br,bs,bt,bu,bv⟩:=cell3 D;obtain⟨aw,ax,ay,bb,bc,bd⟩:=cell3 Z)|(go_at_call 27;(with_reducible refine(recoupref01_Same.calls _ _ X _ _ Y ap _ ?side1 ?side2 ?side3 ?side4 A5.out).mono ?_);(case side1=>exact kcB au HB);(case side2=>exact aq.out);(case side3=>exact kcB av HB);(case side4=>exact ar.out);rintro e w' ⟨rfl,⟨nd,rfl⟩⟩))
   go_ret
   exact⟨rfE,hbA HB.out⟩
  ·rw[if_neg c4]at H
   have c4b0:(L==U)=false:=beq_eq_false_iff_ne.mpr c4;have c4b1:(L !=U)=true:=bne_iff_ne.mpr c4;obtain rfl:=Option.some.inj H
   go_enter Tryd.func24,Tryd.ntmps24
   go_wp2_with (first|((with_reducible refine gD 2 rfl ?_);refine bE 2 #[.int .i64 J,.int .i64 L,.slice aa X.length ac] 24 ?_;intro aj hg b4 hbox hb;have D:=aK (hbox);have ah:=hbS HB hg;have af:=hbS HB hg;replace HB:=hbB HB hb;clear hb hbox hg)|((with_reducible refine gD 3 rfl ?_);refine bE 3 #[.int .i64 O,.int .i64 U,.slice ab Y.length ae] 24 ?_;intro ak hg b5 hbox hb;have Z:=aK (hbox);have ai:=hbS HB hg;have ag:=hbS HB hg;replace HB:=hbB HB hb;have G:=neL D hg;have I:=neG D hg;replace D:=bkB D hb;clear hb hbox hg;have bw:=G.out;have bz:=I.out;obtain⟨az,a0,a1,be,bf,bg⟩:=cell3 D;obtain⟨a2,a3,a4,bh,bi,bj⟩:=cell3 Z))
   go_ret
   exact⟨rfE,hbA HB.out⟩
 ·rw[if_neg c3]at H
  have c3b0:(J==O)=false:=beq_eq_false_iff_ne.mpr c3;have c3b1:(J !=O)=true:=bne_iff_ne.mpr c3;obtain rfl:=Option.some.inj H
  go_enter Tryd.func24,Tryd.ntmps24
  go_wp2_with (first|((with_reducible refine gD 2 rfl ?_);refine bE 2 #[.int .i64 J,.int .i64 L,.slice aa X.length ac] 24 ?_;intro aj hg b6 hbox hb;have D:=aK (hbox);have ah:=hbS HB hg;have af:=hbS HB hg;replace HB:=hbB HB hb;clear hb hbox hg)|((with_reducible refine gD 3 rfl ?_);refine bE 3 #[.int .i64 O,.int .i64 U,.slice ab Y.length ae] 24 ?_;intro ak hg b7 hbox hb;have Z:=aK (hbox);have ai:=hbS HB hg;have ag:=hbS HB hg;replace HB:=hbB HB hb;have G:=neL D hg;have I:=neG D hg;replace D:=bkB D hb;clear hb hbox hg;have bx:=G.out;have b0:=I.out;obtain⟨a5,a6,a7,bk,bl,bm⟩:=cell3 D;obtain⟨a8,a9,ba,bn,bo,bp⟩:=cell3 Z))
  go_ret
  exact⟨rfE,hbA HB.out⟩
def recouplaw18_three.f:Option (Int×Int×List Int):=some (3,2,(([1,0,0,1,1,1]:List Int)))
set_option maxHeartbeats 8000000 in
set_option maxRecDepth 100000 in
theorem recouplaw18_three.calls(r1:Int)(r2:Int)(r3:List Int)(w:World)(h:recouplaw18_three.f=some (r1,r2,r3)):
 Calls Tryd.prog 36 #[] w fun e w'=> ∃v2_:Value,e= .returned (.agg #[.int .i64 r1,.int .i64 r2,v2_])∧Kd.R (Kd.int .u8) 5 w' w.heap.size (fun _=>True) v2_ r3∧Below w.heap.size w w':=by
 have aj:=Tryd.underlying24;have HB:=aK (Below.refl w.heap.size w);have H:(some (3,2,(([1,0,0,1,1,1]:List Int))))=some (r1,r2,r3):=h;clear h;obtain⟨U,G⟩: ∃y_:List Int,y_=(([1,0,0,1,1,1]:List Int)):=⟨_,rfl⟩
 replace H:(some (3,2,U))=some (r1,r2,r3):=by first|(rw[G];with_reducible exact H)|(have H2_:=(Option.bind_some _ _).symm.trans H;rw[G];with_reducible exact H2_)|(have H2_:=(Option.bind_some _ _).symm.trans H;with_reducible exact H2_)|with_reducible exact H|(rw[G];exact H)|exact H
 have L:=aK G;clear G;simp only[Option.some.injEq,Prod.mk.injEq]at H;obtain⟨rfl,rfl,rfl⟩:=H
 go_enter Tryd.func36,Tryd.ntmps36
 go_wp2_with (first|((with_reducible refine gD 0 rfl ?_);refine bE 0 #[.int .i64 0,.int .i64 0,.slice none 0 0] 24 ?_;intro I hg w1 hbox hb;have D:=aK (hbox);have ah:=hbS HB hg;have ag:=hbS HB hg;replace HB:=hbB HB hb;clear hb hbox hg)|((with_reducible refine gate_dst (N:=1) rfl ?_);refine Kd.R_lit (Kd.int .u8) _ 5 ?hg (N:=1) ?hd (xs:=([1,0,0,1,1,1]:List Int)) (inner:= [.int .u8 1,.int .u8 0,.int .u8 0,.int .u8 1,.int .u8 1,.int .u8 1]) (ok:=fun _=>True) (okp:=fun _=>True) ?hr ?hp (fun _ hk=>hk) trivial (Below.refl _ _) (Nat.le_refl _) zac ?_;(case hd=>rfl);(case hg=>rfl);(case hr=>first|(go_simp;done)|(go_simp;rfl));(case hp=>exact(Reps.one (show Kd.M (Kd.int .u8) _ _ _ 1 [.int .u8 1]from rfl) (Reps.one (show Kd.M (Kd.int .u8) _ _ _ 0 [.int .u8 0]from rfl) (Reps.one (show Kd.M (Kd.int .u8) _ _ _ 0 [.int .u8 0]from rfl) (Reps.one (show Kd.M (Kd.int .u8) _ _ _ 1 [.int .u8 1]from rfl) (Reps.one (show Kd.M (Kd.int .u8) _ _ _ 1 [.int .u8 1]from rfl) (Reps.one (show Kd.M (Kd.int .u8) _ _ _ 1 [.int .u8 1]from rfl) (Reps.none _ _))))))));intro ak w2 O hb hg_ hnew_;clear hg_ hnew_;(first|rw[←L.out]at O|(simp only[Int.reduceToNat]at O;rw[←L.out]at O));have J:=aK (Kd.R_lower O (below_size (hbA HB.out)));replace D:=bkB D hb;replace HB:=hbB HB hb;clear hb O;obtain⟨X,Y,ai⟩:=Kd.R_slice J.out;subst ai;obtain⟨Z,aa,ab,ac,ae,af⟩:=cell3 D))
 refine bodyPost_ret (results_cell_row rfl _ _ I 24 #[.int .i64 3,.int .i64 2,.slice X U.length Y] (0,0) _ rfl (by refine bkR ?_;refine blk_put (cs:= #[.int .i64 3,.int .i64 2,.slice none 0 0]) ?_ 2 _ rfl;refine bkR ?_;refine blk_put (cs:= #[.int .i64 3,.int .i64 0,.slice none 0 0]) ?_ 1 _ rfl;refine bkR ?_;refine blk_put (cs:= #[.int .i64 0,.int .i64 0,.slice none 0 0]) ?_ 0 _ rfl;refine bkR ?_;exact D.out) Tryd.underlying24 rfl zab) rfl ?_;exact⟨_,rfE,by(with_reducible repeat(first|apply Kd.R_alloc|apply Kd.R_drewN|apply Kd.R_drew));exact Kd.R_mono (Kd.R_far (p:=⟨I,2,none⟩) (Kd.R_far (p:=⟨I,1,none⟩) (Kd.R_far (p:=⟨I,0,none⟩) (Kd.R_types J.out D.out zaa) (fun _ hk=>hk.2) (.int .i64 3)) (fun _ hk=>hk.2) (.int .i64 2)) (fun _ hk=>hk.2) (.slice X U.length Y)) (fun _ hk=>trivial),hbA HB.out⟩
def recouplaw18_anchored.f(k:Nat):Option (Bool):=(recouplaw18_three.f).bind fun G=>((verdict_Recovers.f k G.1 G.2.1 G.2.2 1).bind fun J=>((recouplaw18_three.f).bind fun I=>((verdict_Decode.f k I.1 I.2.1 I.2.2 1).bind fun D=>(if J.1=true then(if D.2.2.2.1=true then(if J.2=0 then(if D.2.2.2.2=0 then((recoupref03_Like.f D.1 D.2.1 D.2.2.1 2 3 (([0,1,1,0,1,0]:List Int))).bind fun L=>(some L))else(some false))else(some false))else(some false))else(some false)))))
theorem recouplaw18_anchored.mono: ∀k,LeO (recouplaw18_anchored.f k) (recouplaw18_anchored.f (k+1)):=by
 intro k;unfold recouplaw18_anchored.f
 repeat' first
  |(with_reducible exact verdict_Decode.mono _ _ _ _ _)
  |(with_reducible exact verdict_Recovers.mono _ _ _ _ _)
  |(with_reducible exact LeO.refl _)
  |(with_reducible exact LeO.none _)
  |(with_reducible refine LeO.ite ?_ ?_)
  |(with_reducible refine LeO.bind ?_ (fun _=>?_))
  |exact verdict_Decode.mono _ _ _ _ _
  |exact verdict_Recovers.mono _ _ _ _ _
  |exact LeO.none _
  |refine LeO.ite ?_ ?_
  |refine LeO.bind ?_ (fun _=>?_)
set_option maxHeartbeats 8000000 in
set_option maxRecDepth 100000 in
theorem recouplaw18_anchored.calls(k:Nat)(r:Bool)(w:World)(h:recouplaw18_anchored.f k=some r)(hT:TabAt 0 Lib.deBruijn64tab w):
 Calls Tryd.prog 14 #[] w fun e w'=>e= .returned (.bool r)∧Below w.heap.size w w':=by
 have HT:=aK hT;clear hT;have dg:=Tryd.underlying24;have HB:=aK (Below.refl w.heap.size w);have H:((recouplaw18_three.f).bind fun ar=>((verdict_Recovers.f k ar.1 ar.2.1 ar.2.2 1).bind fun az=>((recouplaw18_three.f).bind fun au=>((verdict_Decode.f k au.1 au.2.1 au.2.2 1).bind fun ak=>(if az.1=true then(if ak.2.2.2.1=true then(if az.2=0 then(if ak.2.2.2.2=0 then((recoupref03_Like.f ak.1 ak.2.1 ak.2.2.1 2 3 (([0,1,1,0,1,0]:List Int))).bind fun aq=>(some aq))else(some false))else(some false))else(some false))else(some false))))))=some r:=h;clear h;obtain⟨⟨U,X,Y⟩,A1,H⟩:=bindO H
 (try dsimp only at H)
 obtain⟨⟨cz,af⟩,A2,H⟩:=bindO H
 (try dsimp only at H)
 obtain⟨⟨Z,aa,ab⟩,A3,H⟩:=bindO H
 (try dsimp only at H)
 obtain⟨⟨O,ac,ae,a0,ag⟩,A4,H⟩:=bindO H
 (try dsimp only at H)
 by_cases c5:cz=true
 ·subst c5;rw[if_pos rfl]at H
  by_cases c6:a0=true
  ·subst c6;rw[if_pos rfl]at H
   by_cases c7:af=0
   ·rw[if_pos c7]at H
    have c7b0:(af==0)=true:=beq_iff_eq.mpr c7;have c7b1:(af !=0)=false:=bne_eq_false_iff_eq.mpr c7;clear c7;by_cases c8:ag=0
    ·rw[if_pos c8]at H
     have c8b0:(ag==0)=true:=beq_iff_eq.mpr c8;have c8b1:(ag !=0)=false:=bne_eq_false_iff_eq.mpr c8;clear c8;obtain⟨a1,an⟩: ∃y_:List Int,y_=(([0,1,1,0,1,0]:List Int)):=⟨_,rfl⟩
     replace H:((recoupref03_Like.f O ac ae 2 3 a1).bind fun aq=>(some aq))=some r:=by first|(rw[an];with_reducible exact H)|(have H2_:=(Option.bind_some _ _).symm.trans H;rw[an];with_reducible exact H2_)|(have H2_:=(Option.bind_some _ _).symm.trans H;with_reducible exact H2_)|with_reducible exact H|(rw[an];exact H)|exact H
     have ay:=aK an;clear an;obtain⟨aq,A9,H⟩:=bindO H
     (try dsimp only at H)
     obtain rfl:=Option.some.inj H
     go_enter Tryd.func14,Tryd.ntmps14
     go_wp2_with (first|((with_reducible refine gC 36 rfl ?_);refine cG (some 7) Tryd.func36 #[] ?_;(with_reducible refine(recouplaw18_three.calls U X Y _ A1.out).mono ?_);rintro e di ⟨av,rfl,I,hb⟩;refine⟨_,rfl,?_⟩;have D:=aK (Kd.R_lower I (below_size (hbA HB.out)));replace HB:=hbB HB hb;(try clear hb);(try clear I);obtain⟨a2,bc,bm⟩:=Kd.R_slice D.out;subst bm)|((with_reducible refine gC 9 rfl ?_);refine cG (some 8) Tryd.func9 #[.agg #[.int .i64 U,.int .i64 X,.slice a2 Y.length bc],.int .u64 1] ?_;(with_reducible refine(verdict_Recovers.calls k U X _ _ Y 1 true af _ ?side1 ?side2 A2.out (tab_below HT.out zai)).mono ?_);(case side1=>exact kcA (Kd.R_reads' D.out).2.2);(case side2=>exact(Kd.R_reads' D.out).2.1);rintro e dj ⟨rfl,hb⟩;refine⟨_,rfl,?_⟩;replace D:=kdB D hb;replace HB:=hbB HB hb;(try clear hb))|((with_reducible refine gC 36 rfl ?_);refine cG (some 12) Tryd.func36 #[] ?_;(with_reducible refine(recouplaw18_three.calls Z aa ab _ A3.out).mono ?_);rintro e dk ⟨aw,rfl,I,hb⟩;refine⟨_,rfl,?_⟩;have G:=aK (Kd.R_lower (Kd.R_new' I (Kd.R_lt (kdA D.out))) (below_size (hbA HB.out)));replace D:=aK (Kd.R_elder' (kdA D.out) (Kd.R_base I) hb);replace HB:=hbB HB hb;(try clear hb);(try clear I);obtain⟨a3,bd,bn⟩:=Kd.R_slice G.out;subst bn)|((with_reducible refine gC 20 rfl ?_);refine cG (some 13) Tryd.func20 #[.agg #[.int .i64 Z,.int .i64 aa,.slice a3 ab.length bd],.int .u64 1] ?_;(with_reducible refine(verdict_Decode.calls k Z aa _ _ ab 1 O ac ae true ag _ ?side1 ?side2 A4.out (tab_below HT.out zai)).mono ?_);(case side1=>exact kcA (Kd.R_reads' G.out).2.2);(case side2=>exact(Kd.R_reads' G.out).2.1);rintro e dl ⟨ax,rfl,I,hb⟩;refine⟨_,rfl,?_⟩;have J:=aK (Kd.R_lower (Kd.R_new' (Kd.R_new' I (Kd.R_lt (kdA D.out))) (Kd.R_lt (kdA G.out))) (below_size (hbA HB.out)));replace D:=aK (Kd.R_elder' (kdA D.out) (Kd.R_base I) hb);replace G:=aK (Kd.R_elder' (kdA G.out) (Kd.R_base I) hb);replace HB:=hbB HB hb;(try clear hb);(try clear I))|((with_reducible refine gD 3 rfl ?_);(try(refine gate_guard zad ?_;dsimp only));refine bE 3 #[.int .i64 0,.int .i64 0,.slice none 0 0] 24 ?_;intro am hg dm hbox hb;replace D:=kdB D hb;replace G:=kdB G hb;replace J:=kdB J hb;have L:=aK (hbox);have ap:=hbS HB hg;have ao:=hbS HB hg;replace HB:=hbB HB hb;clear hb hbox hg;obtain⟨b3,b4,b5,cj,ck,cl⟩:=cell3 L;obtain⟨ai,al,bo⟩:=Kd.R_slice J.out;subst bo)|((with_reducible refine gate_dst (N:=31) rfl ?_);(try(refine gate_guard zad ?_;dsimp only));refine Kd.R_lit (Kd.int .u8) _ 5 ?hg (N:=31) ?hd (xs:=([0,1,1,0,1,0]:List Int)) (inner:= [.int .u8 0,.int .u8 1,.int .u8 1,.int .u8 0,.int .u8 1,.int .u8 0]) (ok:=fun _=>True) (okp:=fun _=>True) ?hr ?hp (fun _ hk=>hk) trivial (Below.refl _ _) (Nat.le_refl _) zac ?_;(case hd=>rfl);(case hg=>rfl);(case hr=>first|(go_simp;done)|(go_simp;rfl));(case hp=>exact(Reps.one (show Kd.M (Kd.int .u8) _ _ _ 0 [.int .u8 0]from rfl) (Reps.one (show Kd.M (Kd.int .u8) _ _ _ 1 [.int .u8 1]from rfl) (Reps.one (show Kd.M (Kd.int .u8) _ _ _ 1 [.int .u8 1]from rfl) (Reps.one (show Kd.M (Kd.int .u8) _ _ _ 0 [.int .u8 0]from rfl) (Reps.one (show Kd.M (Kd.int .u8) _ _ _ 1 [.int .u8 1]from rfl) (Reps.one (show Kd.M (Kd.int .u8) _ _ _ 0 [.int .u8 0]from rfl) (Reps.none _ _))))))));intro dh dn ah hb hg_ hnew_;clear hg_ hnew_;(first|rw[←ay.out]at ah|(simp only[Int.reduceToNat]at ah;rw[←ay.out]at ah));have aj:=aK (Kd.R_lower (Kd.R_new' (Kd.R_new' (Kd.R_new' ah (Kd.R_lt (by(with_reducible repeat(first|apply Kd.R_alloc|apply Kd.R_drewN|apply Kd.R_drew));exact(zF D.out L.out  (.int .i64 O)  (.int .i64 ac)  (.slice ai ae.length al))))) (Kd.R_lt (by(with_reducible repeat(first|apply Kd.R_alloc|apply Kd.R_drewN|apply Kd.R_drew));exact(zF G.out L.out  (.int .i64 O)  (.int .i64 ac)  (.slice ai ae.length al))))) (Kd.R_lt (by(with_reducible repeat(first|apply Kd.R_alloc|apply Kd.R_drewN|apply Kd.R_drew));exact(zF J.out L.out  (.int .i64 O)  (.int .i64 ac)  (.slice ai ae.length al))))) (below_size (hbA HB.out)));replace D:=aK (Kd.R_elder' (by(with_reducible repeat(first|apply Kd.R_alloc|apply Kd.R_drewN|apply Kd.R_drew));exact(zF D.out L.out  (.int .i64 O)  (.int .i64 ac)  (.slice ai ae.length al))) (Kd.R_base ah) hb);replace G:=aK (Kd.R_elder' (by(with_reducible repeat(first|apply Kd.R_alloc|apply Kd.R_drewN|apply Kd.R_drew));exact(zF G.out L.out  (.int .i64 O)  (.int .i64 ac)  (.slice ai ae.length al))) (Kd.R_base ah) hb);replace J:=aK (Kd.R_elder' (by(with_reducible repeat(first|apply Kd.R_alloc|apply Kd.R_drewN|apply Kd.R_drew));exact(zF J.out L.out  (.int .i64 O)  (.int .i64 ac)  (.slice ai ae.length al))) (Kd.R_base ah) hb);replace L:=aK (blk_below (g:=am) (o:= .cells #[.int .i64 O,.int .i64 ac,.slice ai ae.length al] 24 (0,0)) (by refine bkR ?_;refine blk_put (cs:= #[.int .i64 O,.int .i64 ac,.slice none 0 0]) ?_ 2 _ rfl;refine bkR ?_;refine blk_put (cs:= #[.int .i64 O,.int .i64 0,.slice none 0 0]) ?_ 1 _ rfl;refine bkR ?_;refine blk_put (cs:= #[.int .i64 0,.int .i64 0,.slice none 0 0]) ?_ 0 _ rfl;refine bkR ?_;exact L.out) hb);replace HB:=hbB HB hb;clear hb ah;obtain⟨c2,db,bp⟩:=Kd.R_slice aj.out;subst bp)|(go_at_call 24;(with_reducible refine(recoupref03_Like.calls O ac _ _ ae 2 3 _ _ a1 aq _ ?side1 ?side2 ?side3 ?side4 A9.out).mono ?_);(case side1=>exact kcA (Kd.R_reads' J.out).2.2);(case side2=>exact(Kd.R_reads' J.out).2.1);(case side3=>exact kcA (Kd.R_reads' aj.out).2.2);(case side4=>exact(Kd.R_reads' aj.out).2.1);rintro e dp ⟨rfl,hb⟩;replace D:=kdB D hb;replace G:=kdB G hb;replace J:=kdB J hb;replace aj:=kdB aj hb;replace L:=bkB L hb;replace HB:=hbB HB hb;(try clear hb)))
     go_ret
     exact⟨rfE,hbA HB.out⟩
    ·rw[if_neg c8]at H
     have c8b0:(ag==0)=false:=beq_eq_false_iff_ne.mpr c8;have c8b1:(ag !=0)=true:=bne_iff_ne.mpr c8;obtain rfl:=Option.some.inj H
     go_enter Tryd.func14,Tryd.ntmps14
     go_wp2_with (first|((with_reducible refine gC 36 rfl ?_);refine cG (some 7) Tryd.func36 #[] ?_;(with_reducible refine(recouplaw18_three.calls U X Y _ A1.out).mono ?_);rintro e dq ⟨av,rfl,I,hb⟩;refine⟨_,rfl,?_⟩;have D:=aK (Kd.R_lower I (below_size (hbA HB.out)));replace HB:=hbB HB hb;(try clear hb);(try clear I);obtain⟨a4,be,bq⟩:=Kd.R_slice D.out;subst bq)|((with_reducible refine gC 9 rfl ?_);refine cG (some 8) Tryd.func9 #[.agg #[.int .i64 U,.int .i64 X,.slice a4 Y.length be],.int .u64 1] ?_;(with_reducible refine(verdict_Recovers.calls k U X _ _ Y 1 true af _ ?side1 ?side2 A2.out (tab_below HT.out zai)).mono ?_);(case side1=>exact kcA (Kd.R_reads' D.out).2.2);(case side2=>exact(Kd.R_reads' D.out).2.1);rintro e dr ⟨rfl,hb⟩;refine⟨_,rfl,?_⟩;replace D:=kdB D hb;replace HB:=hbB HB hb;(try clear hb))|((with_reducible refine gC 36 rfl ?_);refine cG (some 12) Tryd.func36 #[] ?_;(with_reducible refine(recouplaw18_three.calls Z aa ab _ A3.out).mono ?_);rintro e dt ⟨aw,rfl,I,hb⟩;refine⟨_,rfl,?_⟩;have G:=aK (Kd.R_lower (Kd.R_new' I (Kd.R_lt (kdA D.out))) (below_size (hbA HB.out)));replace D:=aK (Kd.R_elder' (kdA D.out) (Kd.R_base I) hb);replace HB:=hbB HB hb;(try clear hb);(try clear I);obtain⟨a5,bf,br⟩:=Kd.R_slice G.out;subst br)|((with_reducible refine gC 20 rfl ?_);refine cG (some 13) Tryd.func20 #[.agg #[.int .i64 Z,.int .i64 aa,.slice a5 ab.length bf],.int .u64 1] ?_;(with_reducible refine(verdict_Decode.calls k Z aa _ _ ab 1 O ac ae true ag _ ?side1 ?side2 A4.out (tab_below HT.out zai)).mono ?_);(case side1=>exact kcA (Kd.R_reads' G.out).2.2);(case side2=>exact(Kd.R_reads' G.out).2.1);rintro e du ⟨ax,rfl,I,hb⟩;refine⟨_,rfl,?_⟩;have J:=aK (Kd.R_lower (Kd.R_new' (Kd.R_new' I (Kd.R_lt (kdA D.out))) (Kd.R_lt (kdA G.out))) (below_size (hbA HB.out)));replace D:=aK (Kd.R_elder' (kdA D.out) (Kd.R_base I) hb);replace G:=aK (Kd.R_elder' (kdA G.out) (Kd.R_base I) hb);replace HB:=hbB HB hb;(try clear hb);(try clear I))|((with_reducible refine gD 3 rfl ?_);(try(refine gate_guard zad ?_;dsimp only));refine bE 3 #[.int .i64 0,.int .i64 0,.slice none 0 0] 24 ?_;intro am hg dv hbox hb;replace D:=kdB D hb;replace G:=kdB G hb;replace J:=kdB J hb;have L:=aK (hbox);have ap:=hbS HB hg;have ao:=hbS HB hg;replace HB:=hbB HB hb;clear hb hbox hg;obtain⟨b6,b7,b8,cm,cn,co⟩:=cell3 L;obtain⟨c3,dc,bs⟩:=Kd.R_slice J.out;subst bs))
     go_ret
     exact⟨rfE,hbA HB.out⟩
   ·rw[if_neg c7]at H
    have c7b0:(af==0)=false:=beq_eq_false_iff_ne.mpr c7;have c7b1:(af !=0)=true:=bne_iff_ne.mpr c7;obtain rfl:=Option.some.inj H
    go_enter Tryd.func14,Tryd.ntmps14
    go_wp2_with (first|((with_reducible refine gC 36 rfl ?_);refine cG (some 7) Tryd.func36 #[] ?_;(with_reducible refine(recouplaw18_three.calls U X Y _ A1.out).mono ?_);rintro e dw ⟨av,rfl,I,hb⟩;refine⟨_,rfl,?_⟩;have D:=aK (Kd.R_lower I (below_size (hbA HB.out)));replace HB:=hbB HB hb;(try clear hb);(try clear I);obtain⟨a6,bg,bt⟩:=Kd.R_slice D.out;subst bt)|((with_reducible refine gC 9 rfl ?_);refine cG (some 8) Tryd.func9 #[.agg #[.int .i64 U,.int .i64 X,.slice a6 Y.length bg],.int .u64 1] ?_;(with_reducible refine(verdict_Recovers.calls k U X _ _ Y 1 true af _ ?side1 ?side2 A2.out (tab_below HT.out zai)).mono ?_);(case side1=>exact kcA (Kd.R_reads' D.out).2.2);(case side2=>exact(Kd.R_reads' D.out).2.1);rintro e dx ⟨rfl,hb⟩;refine⟨_,rfl,?_⟩;replace D:=kdB D hb;replace HB:=hbB HB hb;(try clear hb))|((with_reducible refine gC 36 rfl ?_);refine cG (some 12) Tryd.func36 #[] ?_;(with_reducible refine(recouplaw18_three.calls Z aa ab _ A3.out).mono ?_);rintro e dy ⟨aw,rfl,I,hb⟩;refine⟨_,rfl,?_⟩;have G:=aK (Kd.R_lower (Kd.R_new' I (Kd.R_lt (kdA D.out))) (below_size (hbA HB.out)));replace D:=aK (Kd.R_elder' (kdA D.out) (Kd.R_base I) hb);replace HB:=hbB HB hb;(try clear hb);(try clear I);obtain⟨a7,bh,bu⟩:=Kd.R_slice G.out;subst bu)|((with_reducible refine gC 20 rfl ?_);refine cG (some 13) Tryd.func20 #[.agg #[.int .i64 Z,.int .i64 aa,.slice a7 ab.length bh],.int .u64 1] ?_;(with_reducible refine(verdict_Decode.calls k Z aa _ _ ab 1 O ac ae true ag _ ?side1 ?side2 A4.out (tab_below HT.out zai)).mono ?_);(case side1=>exact kcA (Kd.R_reads' G.out).2.2);(case side2=>exact(Kd.R_reads' G.out).2.1);rintro e dz ⟨ax,rfl,I,hb⟩;refine⟨_,rfl,?_⟩;have J:=aK (Kd.R_lower (Kd.R_new' (Kd.R_new' I (Kd.R_lt (kdA D.out))) (Kd.R_lt (kdA G.out))) (below_size (hbA HB.out)));replace D:=aK (Kd.R_elder' (kdA D.out) (Kd.R_base I) hb);replace G:=aK (Kd.R_elder' (kdA G.out) (Kd.R_base I) hb);replace HB:=hbB HB hb;(try clear hb);(try clear I))|((with_reducible refine gD 3 rfl ?_);(try(refine gate_guard zad ?_;dsimp only));refine bE 3 #[.int .i64 0,.int .i64 0,.slice none 0 0] 24 ?_;intro am hg d0 hbox hb;replace D:=kdB D hb;replace G:=kdB G hb;replace J:=kdB J hb;have L:=aK (hbox);have ap:=hbS HB hg;have ao:=hbS HB hg;replace HB:=hbB HB hb;clear hb hbox hg;obtain⟨b9,ca,cb,cp,cq,cr⟩:=cell3 L;obtain⟨c4,dd,bv⟩:=Kd.R_slice J.out;subst bv))
    go_ret
    exact⟨rfE,hbA HB.out⟩
  ·replace c6:=Bool.eq_false_iff.mpr c6;subst c6;rw[if_neg nofT]at H
   obtain rfl:=Option.some.inj H
   go_enter Tryd.func14,Tryd.ntmps14
   go_wp2_with (first|((with_reducible refine gC 36 rfl ?_);refine cG (some 7) Tryd.func36 #[] ?_;(with_reducible refine(recouplaw18_three.calls U X Y _ A1.out).mono ?_);rintro e d1 ⟨av,rfl,I,hb⟩;refine⟨_,rfl,?_⟩;have D:=aK (Kd.R_lower I (below_size (hbA HB.out)));replace HB:=hbB HB hb;(try clear hb);(try clear I);obtain⟨a8,bi,bw⟩:=Kd.R_slice D.out;subst bw)|((with_reducible refine gC 9 rfl ?_);refine cG (some 8) Tryd.func9 #[.agg #[.int .i64 U,.int .i64 X,.slice a8 Y.length bi],.int .u64 1] ?_;(with_reducible refine(verdict_Recovers.calls k U X _ _ Y 1 true af _ ?side1 ?side2 A2.out (tab_below HT.out zai)).mono ?_);(case side1=>exact kcA (Kd.R_reads' D.out).2.2);(case side2=>exact(Kd.R_reads' D.out).2.1);rintro e d2 ⟨rfl,hb⟩;refine⟨_,rfl,?_⟩;replace D:=kdB D hb;replace HB:=hbB HB hb;(try clear hb))|((with_reducible refine gC 36 rfl ?_);refine cG (some 12) Tryd.func36 #[] ?_;(with_reducible refine(recouplaw18_three.calls Z aa ab _ A3.out).mono ?_);rintro e d3 ⟨aw,rfl,I,hb⟩;refine⟨_,rfl,?_⟩;have G:=aK (Kd.R_lower (Kd.R_new' I (Kd.R_lt (kdA D.out))) (below_size (hbA HB.out)));replace D:=aK (Kd.R_elder' (kdA D.out) (Kd.R_base I) hb);replace HB:=hbB HB hb;(try clear hb);(try clear I);obtain⟨a9,bj,bx⟩:=Kd.R_slice G.out;subst bx)|((with_reducible refine gC 20 rfl ?_);refine cG (some 13) Tryd.func20 #[.agg #[.int .i64 Z,.int .i64 aa,.slice a9 ab.length bj],.int .u64 1] ?_;(with_reducible refine(verdict_Decode.calls k Z aa _ _ ab 1 O ac ae false ag _ ?side1 ?side2 A4.out (tab_below HT.out zai)).mono ?_);(case side1=>exact kcA (Kd.R_reads' G.out).2.2);(case side2=>exact(Kd.R_reads' G.out).2.1);rintro e d4 ⟨ax,rfl,I,hb⟩;refine⟨_,rfl,?_⟩;have J:=aK (Kd.R_lower (Kd.R_new' (Kd.R_new' I (Kd.R_lt (kdA D.out))) (Kd.R_lt (kdA G.out))) (below_size (hbA HB.out)));replace D:=aK (Kd.R_elder' (kdA D.out) (Kd.R_base I) hb);replace G:=aK (Kd.R_elder' (kdA G.out) (Kd.R_base I) hb);replace HB:=hbB HB hb;(try clear hb);(try clear I))|((with_reducible refine gD 3 rfl ?_);(try(refine gate_guard zad ?_;dsimp only));refine bE 3 #[.int .i64 0,.int .i64 0,.slice none 0 0] 24 ?_;intro am hg d5 hbox hb;replace D:=kdB D hb;replace G:=kdB G hb;replace J:=kdB J hb;have L:=aK (hbox);have ap:=hbS HB hg;have ao:=hbS HB hg;replace HB:=hbB HB hb;clear hb hbox hg;obtain⟨cd,ce,cf,ct,cu,cv⟩:=cell3 L;obtain⟨c9,de,bz⟩:=Kd.R_slice J.out;subst bz))
   go_ret
   exact⟨rfE,hbA HB.out⟩
 ·replace c5:=Bool.eq_false_iff.mpr c5;subst c5;rw[if_neg nofT]at H
  obtain rfl:=Option.some.inj H
  go_enter Tryd.func14,Tryd.ntmps14
  go_wp2_with (first|((with_reducible refine gC 36 rfl ?_);refine cG (some 7) Tryd.func36 #[] ?_;(with_reducible refine(recouplaw18_three.calls U X Y _ A1.out).mono ?_);rintro e d6 ⟨av,rfl,I,hb⟩;refine⟨_,rfl,?_⟩;have D:=aK (Kd.R_lower I (below_size (hbA HB.out)));replace HB:=hbB HB hb;(try clear hb);(try clear I);obtain⟨ba,bk,b0⟩:=Kd.R_slice D.out;subst b0)|((with_reducible refine gC 9 rfl ?_);refine cG (some 8) Tryd.func9 #[.agg #[.int .i64 U,.int .i64 X,.slice ba Y.length bk],.int .u64 1] ?_;(with_reducible refine(verdict_Recovers.calls k U X _ _ Y 1 false af _ ?side1 ?side2 A2.out (tab_below HT.out zai)).mono ?_);(case side1=>exact kcA (Kd.R_reads' D.out).2.2);(case side2=>exact(Kd.R_reads' D.out).2.1);rintro e d7 ⟨rfl,hb⟩;refine⟨_,rfl,?_⟩;replace D:=kdB D hb;replace HB:=hbB HB hb;(try clear hb))|((with_reducible refine gC 36 rfl ?_);refine cG (some 12) Tryd.func36 #[] ?_;(with_reducible refine(recouplaw18_three.calls Z aa ab _ A3.out).mono ?_);rintro e d8 ⟨aw,rfl,I,hb⟩;refine⟨_,rfl,?_⟩;have G:=aK (Kd.R_lower (Kd.R_new' I (Kd.R_lt (kdA D.out))) (below_size (hbA HB.out)));replace D:=aK (Kd.R_elder' (kdA D.out) (Kd.R_base I) hb);replace HB:=hbB HB hb;(try clear hb);(try clear I);obtain⟨bb,bl,b1⟩:=Kd.R_slice G.out;subst b1)|((with_reducible refine gC 20 rfl ?_);refine cG (some 13) Tryd.func20 #[.agg #[.int .i64 Z,.int .i64 aa,.slice bb ab.length bl],.int .u64 1] ?_;(with_reducible refine(verdict_Decode.calls k Z aa _ _ ab 1 O ac ae a0 ag _ ?side1 ?side2 A4.out (tab_below HT.out zai)).mono ?_);(case side1=>exact kcA (Kd.R_reads' G.out).2.2);(case side2=>exact(Kd.R_reads' G.out).2.1);rintro e d9 ⟨ax,rfl,I,hb⟩;refine⟨_,rfl,?_⟩;have J:=aK (Kd.R_lower (Kd.R_new' (Kd.R_new' I (Kd.R_lt (kdA D.out))) (Kd.R_lt (kdA G.out))) (below_size (hbA HB.out)));replace D:=aK (Kd.R_elder' (kdA D.out) (Kd.R_base I) hb);replace G:=aK (Kd.R_elder' (kdA G.out) (Kd.R_base I) hb);replace HB:=hbB HB hb;(try clear hb);(try clear I))|((with_reducible refine gD 3 rfl ?_);(try(refine gate_guard zad ?_;dsimp only));refine bE 3 #[.int .i64 0,.int .i64 0,.slice none 0 0] 24 ?_;intro am hg ea hbox hb;replace D:=kdB D hb;replace G:=kdB G hb;replace J:=kdB J hb;have L:=aK (hbox);have ap:=hbS HB hg;have ao:=hbS HB hg;replace HB:=hbB HB hb;clear hb hbox hg;obtain⟨cg,ch,ci,cw,cx,cy⟩:=cell3 L;obtain⟨da,df,b2⟩:=Kd.R_slice J.out;subst b2))
  go_ret
  exact⟨rfE,hbA HB.out⟩
mutual
def recoupref06_Full.j0:Nat→Int→Bool→Option (Int×Int)
 |0,_,_=>none
 |k+1,x0,D=>if D=true then(some (0,2))else(recoupref06_Full.l0 k x0 0 0)
def recoupref06_Full.l0:Nat→Int→Int→Int→Option (Int×Int)
 |0,_,_,_=>none
 |k+1,x0,x4,x5=>if x5<x0 then(if 0≤(IntKind.u64.wrap (x5))then(recoupref06_Full.l0 k x0 (Go.bits .or .u64 x4 (shl .u64 1 (IntKind.u64.wrap (x5)))) (wrap64 (x5+1)))else(none))else(some (x4,0))
end
def recoupref06_Full.f(k:Nat)(a0:Int):Option (Int×Int):=if a0<0 then(recoupref06_Full.j0 k a0 true)else(recoupref06_Full.j0 k a0 (decide (a0>64)))
set_option maxHeartbeats 8000000 in
set_option maxRecDepth 100000 in
theorem recoupref06_Full.calls(k:Nat)(a0:Int)(r1:Int)(r2:Int)(w:World)(h:recoupref06_Full.f k a0=some (r1,r2)):
 Calls Tryd.prog 15 #[.int .i64 a0] w fun e w'=>e= .returned (.tuple #[.int .u64 r1,.int .i64 r2])∧Drawn0 w w':=by
 have H:(if a0<0 then(recoupref06_Full.j0 k a0 true)else(recoupref06_Full.j0 k a0 (decide (a0>64))))=some (r1,r2):=h;clear h;have X:=aK H;clear H
 go_enter Tryd.func15,Tryd.ntmps15
 go_upto_region 1 with(fail)
 go_cut [11] (fun ab wc=> ∃(kq:Nat) (J:Bool),ab= .bool J∧Aside0 (recoupref06_Full.j0 kq a0 J=some (r1,r2))∧Aside0 (kq≤k)∧Drawn0 w wc)
 case first=>
  have H:=X.out;clear X;by_cases c3:a0<0
  ·rw[if_pos c3]at H
   have c3b0:decide (a0<0)=true:=decide_eq_true c3;clear c3
   (first|rw[c3b0] |(simp only[i64_w,i32_w];rw[c3b0])|skip)
   have H':=aK H;clear H;go_wp2
   go_meet
   case rel=>exact⟨_,(true),rsE,H',⟨leE⟩,by repeat(first|exact Drawn0.refl _|apply Drawn0.step)⟩
  ·rw[if_neg c3]at H
   have c3b0:decide (a0<0)=false:=decide_eq_false c3;clear c3
   (first|rw[c3b0] |(simp only[i64_w,i32_w];rw[c3b0])|skip)
   have H':=aK H;clear H;go_wp2
   go_meet
   case rel=>exact⟨_,(decide (a0>64)),rsE,H',⟨leE⟩,by repeat(first|exact Drawn0.refl _|apply Drawn0.step)⟩
 case rest=>
  clear X
  (try clear c1);(try clear p2);(try clear c3);(try clear c3b0)
  obtain⟨kq,J,rfl,HA,Y,⟨ac,rfl⟩⟩:=hcut
  cases kq with
  |zero=>exact absurd HA.out (by simp[recoupref06_Full.j0])
  |succ aa=>
   have H:=HA.out;clear HA;simp only[recoupref06_Full.j0]at H;by_cases c4:J=true
   ·subst c4;rw[if_pos rfl]at H
    simp only[Option.some.injEq,Prod.mk.injEq]at H;obtain⟨rfl,rfl⟩:=H;go_wp2
    go_ret2
    exact⟨by first|rfl|(simp;done)|(simp[*];done),by repeat(first|exact Drawn0.refl _|apply Drawn0.step)⟩
   ·replace c4:=Bool.eq_false_iff.mpr c4;subst c4;rw[if_neg nofT]at H
    have H':=aK H;clear H;go_wp2
    go_loopg [4,5] aa (fun kq v4 v5 w'=> ∃(I:Int) (D:Int),v4= .int .u64 I∧v5= .int .i64 D∧Aside0 (recoupref06_Full.l0 kq a0 I D=some (r1,r2))∧Aside0 (kq≤aa)∧Drawn0 w w')
    case atStart=>exact⟨(0),(0),rsE,rsE,H',⟨Nat.le_refl _⟩,by repeat(first|exact Drawn0.refl _|apply Drawn0.step)⟩
    case round=>
     clear H'
     (try clear c1);(try clear p2 p2);(try clear c3);(try clear c3b0);(try clear c4)
     obtain⟨I,D,rfl,rfl,HA,Z,⟨m2,rfl⟩⟩:=hrel
     cases gk with
     |zero=>exact absurd HA.out (by simp[recoupref06_Full.l0])
     |succ k2=>
      have H:=HA.out;clear HA;simp only[recoupref06_Full.l0]at H;by_cases c5:D<a0
      ·rw[if_pos c5]at H
       have c5b0:decide (D<a0)=true:=decide_eq_true c5;clear c5;obtain⟨G,U⟩: ∃j_:Int,(IntKind.u64.wrap (D))=j_:=⟨_,rfl⟩
       replace H:(if 0≤(G)then(recoupref06_Full.l0 k2 a0 (Go.bits .or .u64 I (shl .u64 1 (G))) (wrap64 (D+1)))else(none))=some (r1,r2):=by first|(rw[U]at H;exact H)|(simp only[U]at H⊢;exact H)
       by_cases c7:0≤(G)
       ·rw[if_pos c7]at H
        have c7b0:=eq_true c7;have c7b1:decide (0≤(G))=true:=decide_eq_true c7;clear c7;obtain⟨O,L⟩: ∃j_:Int,(shl .u64 1 (G))=j_:=⟨_,rfl⟩
        replace H:(recoupref06_Full.l0 k2 a0 (Go.bits .or .u64 I (O)) (wrap64 (D+1)))=some (r1,r2):=by first|(rw[L]at H;exact H)|(simp only[L]at H⊢;exact H)
        have hji8_:(IntKind.u64.wrap (1*2^min (G).toNat 64))=O:=L;have hji8z:(G)≤64→(IntKind.u64.wrap (1*2^(G).toNat))=O:=shl_small L;have hji8u:(IntKind.u64.wrap (2^min (G).toNat 64))=O:=by have h_:=hji8_;rw[Int.one_mul]at h_;exact h_
        have hji8v:(G)≤64→(IntKind.u64.wrap (2^(G).toNat))=O:=fun hle_=>by have h_:=hji8z hle_;rw[Int.one_mul]at h_;exact h_
        have H':=aK H;clear H;go_wp2
        go_roundg k2
        case measure=>have:=Y.out;have:=Z.out;omega
        case rel=>exact⟨(Go.bits .or .u64 I (O)),(wrap64 (D+1)),(by first|rfl|(simp;done)|(simp only[←L]<;>(first|rfl|simp))|(simp[*];done)),rsE,H',⟨by have:=Y.out;have:=Z.out;omega⟩,by repeat(first|exact Drawn0.refl _|apply Drawn0.step)⟩
       ·rw[if_neg c7]at H
        exact absurd H zac
      ·rw[if_neg c5]at H
       have c5b0:decide (D<a0)=false:=decide_eq_false c5;clear c5;simp only[Option.some.injEq,Prod.mk.injEq]at H;obtain⟨rfl,rfl⟩:=H;go_wp2
       go_ret2
       exact⟨by first|rfl|(simp;done)|(simp[*];done),by repeat(first|exact Drawn0.refl _|apply Drawn0.step)⟩
def recoupref03_Right.f(D:Int)(G:Int)(I:List Int):Option (Bool):=if D≥0 then(if D≤64 then(if G≥0 then(if G≤64 then(some ((I.length:Int)==(wrap64 (D*G))))else(some false))else(some false))else(some false))else(some false)
set_option maxHeartbeats 8000000 in
set_option maxRecDepth 100000 in
theorem recoupref03_Right.calls(D:Int)(G:Int)(L:Option Addr)(O:Nat)(J:List Int)(r:Bool)(w:World)(aa:Kd.C (Kd.int .u8) w L J.length J)(Z:J.length≤O)(h:recoupref03_Right.f D G J=some r):
 Calls Tryd.prog 37 #[.agg #[.int .i64 D,.int .i64 G,.slice L J.length O]] w fun e w'=>e= .returned (.bool r)∧Below w.heap.size w w':=by
 have ba:=Tryd.underlying24;have a9:=aK aa;have a8:=aK Z;clear aa Z;have HB:=aK (Below.refl w.heap.size w);have H:(if D≥0 then(if D≤64 then(if G≥0 then(if G≤64 then(some ((J.length:Int)==(wrap64 (D*G))))else(some false))else(some false))else(some false))else(some false))=some r:=h;clear h;by_cases c2:D≥0
 ·rw[if_pos c2]at H
  have c2b0:decide (0≤D)=true:=decide_eq_true c2;clear c2;by_cases c3:D≤64
  ·rw[if_pos c3]at H
   have c3b0:decide (D≤64)=true:=decide_eq_true c3;clear c3;by_cases c4:G≥0
   ·rw[if_pos c4]at H
    have c4b0:decide (0≤G)=true:=decide_eq_true c4;clear c4;by_cases c5:G≤64
    ·rw[if_pos c5]at H
     have c5b0:decide (G≤64)=true:=decide_eq_true c5;clear c5;obtain rfl:=Option.some.inj H
     go_enter Tryd.func37,Tryd.ntmps37
     go_wp2_with (first|((with_reducible refine gD 1 rfl ?_);(try(refine gate_guard zad ?_;dsimp only));refine bE 1 #[.int .i64 D,.int .i64 G,.slice L J.length O] 24 ?_;intro Y hg w6 hbox hb;have I:=aK (hbox);have X:=hbS HB hg;have U:=hbS HB hg;replace HB:=hbB HB hb;clear hb hbox hg;obtain⟨aw,ax,ay,a2,a3,a4⟩:=cell3 I))
     go_ret
     exact⟨rfE,hbA HB.out⟩
    ·rw[if_neg c5]at H
     have c5b0:decide (G≤64)=false:=decide_eq_false c5;clear c5;obtain rfl:=Option.some.inj H
     go_enter Tryd.func37,Tryd.ntmps37
     go_wp2_with (first|((with_reducible refine gD 1 rfl ?_);(try(refine gate_guard zad ?_;dsimp only));refine bE 1 #[.int .i64 D,.int .i64 G,.slice L J.length O] 24 ?_;intro Y hg w8 hbox hb;have I:=aK (hbox);have X:=hbS HB hg;have U:=hbS HB hg;replace HB:=hbB HB hb;clear hb hbox hg;obtain⟨az,a0,a1,a5,a6,a7⟩:=cell3 I))
     go_ret
     exact⟨rfE,hbA HB.out⟩
   ·rw[if_neg c4]at H
    have c4b0:decide (0≤G)=false:=decide_eq_false c4;clear c4;obtain rfl:=Option.some.inj H
    go_enter Tryd.func37,Tryd.ntmps37
    go_wp2_with (first|((with_reducible refine gD 1 rfl ?_);(try(refine gate_guard zad ?_;dsimp only));refine bE 1 #[.int .i64 D,.int .i64 G,.slice L J.length O] 24 ?_;intro Y hg bb hbox hb;have I:=aK (hbox);have X:=hbS HB hg;have U:=hbS HB hg;replace HB:=hbB HB hb;clear hb hbox hg;obtain⟨ab,ac,ae,al,am,an⟩:=cell3 I))
    go_ret
    exact⟨rfE,hbA HB.out⟩
  ·rw[if_neg c3]at H
   have c3b0:decide (D≤64)=false:=decide_eq_false c3;clear c3;obtain rfl:=Option.some.inj H
   go_enter Tryd.func37,Tryd.ntmps37
   go_wp2_with (first|((with_reducible refine gD 1 rfl ?_);(try(refine gate_guard zad ?_;dsimp only));refine bE 1 #[.int .i64 D,.int .i64 G,.slice L J.length O] 24 ?_;intro Y hg bc hbox hb;have I:=aK (hbox);have X:=hbS HB hg;have U:=hbS HB hg;replace HB:=hbB HB hb;clear hb hbox hg;obtain⟨af,ag,ah,ao,ap,aq⟩:=cell3 I))
   go_ret
   exact⟨rfE,hbA HB.out⟩
 ·rw[if_neg c2]at H
  have c2b0:decide (0≤D)=false:=decide_eq_false c2;clear c2;obtain rfl:=Option.some.inj H
  go_enter Tryd.func37,Tryd.ntmps37
  go_wp2_with (first|((with_reducible refine gD 1 rfl ?_);(try(refine gate_guard zad ?_;dsimp only));refine bE 1 #[.int .i64 D,.int .i64 G,.slice L J.length O] 24 ?_;intro Y hg bd hbox hb;have I:=aK (hbox);have X:=hbS HB hg;have U:=hbS HB hg;replace HB:=hbB HB hb;clear hb hbox hg;obtain⟨ai,aj,ak,ar,au,av⟩:=cell3 I))
  go_ret
  exact⟨rfE,hbA HB.out⟩
def recoupref16_Generator.f(G:Int)(D:Int)(I:List Int):Option (Bool):=(recoupref03_Right.f G D I).bind fun J=>(if J=true then(if D≥1 then(some (decide (G≥D)))else(some false))else(some false))
set_option maxHeartbeats 8000000 in
set_option maxRecDepth 100000 in
theorem recoupref16_Generator.calls(J:Int)(G:Int)(L:Option Addr)(O:Nat)(I:List Int)(r:Bool)(w:World)(ac:Kd.C (Kd.int .u8) w L I.length I)(ab:I.length≤O)(h:recoupref16_Generator.f J G I=some r):
 Calls Tryd.prog 19 #[.agg #[.int .i64 J,.int .i64 G,.slice L I.length O]] w fun e w'=>e= .returned (.bool r)∧Below w.heap.size w w':=by
 have bb:=Tryd.underlying24;have X:=aK ac;have U:=aK ab;clear ac ab;have HB:=aK (Below.refl w.heap.size w);have H:((recoupref03_Right.f J G I).bind fun ae=>(if ae=true then(if G≥1 then(some (decide (J≥G)))else(some false))else(some false)))=some r:=h;clear h;obtain⟨ae,A2,H⟩:=bindO H
 (try dsimp only at H)
 by_cases c3:ae=true
 ·subst c3;rw[if_pos rfl]at H
  by_cases c4:G≥1
  ·rw[if_pos c4]at H
   have c4b0:decide (1≤G)=true:=decide_eq_true c4;clear c4;obtain rfl:=Option.some.inj H
   go_enter Tryd.func19,Tryd.ntmps19
   go_wp2_with (first|((with_reducible refine gD 1 rfl ?_);refine bE 1 #[.int .i64 J,.int .i64 G,.slice L I.length O] 24 ?_;intro aa hg w5 hbox hb;have D:=aK (hbox);have Z:=hbS HB hg;have Y:=hbS HB hg;replace HB:=hbB HB hb;clear hb hbox hg;obtain⟨az,a0,a1,a5,a6,a7⟩:=cell3 D)|((with_reducible refine gC 37 rfl ?_);refine cG (some 4) Tryd.func37 #[.agg #[.int .i64 J,.int .i64 G,.slice L I.length O]] ?_;(with_reducible refine(recoupref03_Right.calls J G _ _ I true _ ?side1 ?side2 A2.out).mono ?_);(case side1=>exact kcB X HB);(case side2=>exact U.out);rintro e w7 ⟨rfl,hb⟩;refine⟨_,rfl,?_⟩;replace D:=bkB D hb;replace HB:=hbB HB hb;(try clear hb);obtain⟨a2,a3,a4,a8,a9,ba⟩:=cell3 D))
   go_ret
   exact⟨rfE,hbA HB.out⟩
  ·rw[if_neg c4]at H
   have c4b0:decide (1≤G)=false:=decide_eq_false c4;clear c4;obtain rfl:=Option.some.inj H
   go_enter Tryd.func19,Tryd.ntmps19
   go_wp2_with (first|((with_reducible refine gD 1 rfl ?_);refine bE 1 #[.int .i64 J,.int .i64 G,.slice L I.length O] 24 ?_;intro aa hg w9 hbox hb;have D:=aK (hbox);have Z:=hbS HB hg;have Y:=hbS HB hg;replace HB:=hbB HB hb;clear hb hbox hg;obtain⟨af,ag,ah,ao,ap,aq⟩:=cell3 D)|((with_reducible refine gC 37 rfl ?_);refine cG (some 4) Tryd.func37 #[.agg #[.int .i64 J,.int .i64 G,.slice L I.length O]] ?_;(with_reducible refine(recoupref03_Right.calls J G _ _ I true _ ?side1 ?side2 A2.out).mono ?_);(case side1=>exact kcB X HB);(case side2=>exact U.out);rintro e bc ⟨rfl,hb⟩;refine⟨_,rfl,?_⟩;replace D:=bkB D hb;replace HB:=hbB HB hb;(try clear hb);obtain⟨ai,aj,ak,ar,au,av⟩:=cell3 D))
   go_ret
   exact⟨rfE,hbA HB.out⟩
 ·replace c3:=Bool.eq_false_iff.mpr c3;subst c3;rw[if_neg nofT]at H
  obtain rfl:=Option.some.inj H
  go_enter Tryd.func19,Tryd.ntmps19
  go_wp2_with (first|((with_reducible refine gD 1 rfl ?_);refine bE 1 #[.int .i64 J,.int .i64 G,.slice L I.length O] 24 ?_;intro aa hg bd hbox hb;have D:=aK (hbox);have Z:=hbS HB hg;have Y:=hbS HB hg;replace HB:=hbB HB hb;clear hb hbox hg;obtain⟨al,am,an,aw,ax,ay⟩:=cell3 D)|((with_reducible refine gC 37 rfl ?_);refine cG (some 4) Tryd.func37 #[.agg #[.int .i64 J,.int .i64 G,.slice L I.length O]] ?_;(with_reducible refine(recoupref03_Right.calls J G _ _ I false _ ?side1 ?side2 A2.out).mono ?_);(case side1=>exact kcB X HB);(case side2=>exact U.out);rintro e be ⟨rfl,hb⟩;refine⟨_,rfl,?_⟩;replace D:=bkB D hb;replace HB:=hbB HB hb;(try clear hb)))
  go_ret
  exact⟨rfE,hbA HB.out⟩
def recoupref18_left.f(k:Nat)(G:Int)(I:Int)(J:List Int)(a1:Int):Option (Int×Int):=(recoupref16_Generator.f G I J).bind fun L=>(if L=true then((recoupref06_Full.f k G).bind fun D=>(if(Go.bits .andNot .u64 a1 D.1)=0 then(some (Go.bits .andNot .u64 D.1 a1,0))else(some (0,2))))else(some (0,3)))
set_option maxHeartbeats 8000000 in
set_option maxRecDepth 100000 in
theorem recoupref18_left.calls(k:Nat)(G:Int)(J:Int)(L:Option Addr)(O:Nat)(I:List Int)(a1:Int)(r1:Int)(r2:Int)(w:World)(af:Kd.C (Kd.int .u8) w L I.length I)(ae:I.length≤O)(h:recoupref18_left.f k G J I a1=some (r1,r2)):
 Calls Tryd.prog 32 #[.agg #[.int .i64 G,.int .i64 J,.slice L I.length O],.int .u64 a1] w fun e w'=>e= .returned (.tuple #[.int .u64 r1,.int .i64 r2])∧Below w.heap.size w w':=by
 have bf:=Tryd.underlying24;have Y:=aK af;have X:=aK ae;clear af ae;have HB:=aK (Below.refl w.heap.size w);have H:((recoupref16_Generator.f G J I).bind fun ag=>(if ag=true then((recoupref06_Full.f k G).bind fun ab=>(if(Go.bits .andNot .u64 a1 ab.1)=0 then(some (Go.bits .andNot .u64 ab.1 a1,0))else(some (0,2))))else(some (0,3))))=some (r1,r2):=h;clear h;obtain⟨ag,A3,H⟩:=bindO H
 (try dsimp only at H)
 by_cases c4:ag=true
 ·subst c4;rw[if_pos rfl]at H
  obtain⟨⟨U,ah⟩,A5,H⟩:=bindO H
  (try dsimp only at H)
  by_cases c6:(Go.bits .andNot .u64 a1 U)=0
  ·rw[if_pos c6]at H
   have c6b0:((Go.bits .andNot .u64 a1 U)==0)=true:=beq_iff_eq.mpr c6;have c6b1:((Go.bits .andNot .u64 a1 U)!=0)=false:=bne_eq_false_iff_eq.mpr c6;clear c6;simp only[Option.some.injEq,Prod.mk.injEq]at H;obtain⟨rfl,rfl⟩:=H
   go_enter Tryd.func32,Tryd.ntmps32
   go_wp2_with (first|((with_reducible refine gD 2 rfl ?_);refine bE 2 #[.int .i64 G,.int .i64 J,.slice L I.length O] 24 ?_;intro ac hg w7 hbox hb;have D:=aK (hbox);have aa:=hbS HB hg;have Z:=hbS HB hg;replace HB:=hbB HB hb;clear hb hbox hg;obtain⟨a9,ba,bb,bc,bd,be⟩:=cell3 D)|((with_reducible refine gC 19 rfl ?_);refine cG (some 9) Tryd.func19 #[.agg #[.int .i64 G,.int .i64 J,.slice L I.length O]] ?_;(with_reducible refine(recoupref16_Generator.calls G J _ _ I true _ ?side1 ?side2 A3.out).mono ?_);(case side1=>exact kcB Y HB);(case side2=>exact X.out);rintro e w9 ⟨rfl,hb⟩;refine⟨_,rfl,?_⟩;replace D:=bkB D hb;replace HB:=hbB HB hb;(try clear hb);obtain⟨ai,aj,ak,aw,ax,ay⟩:=cell3 D)|((with_reducible refine gC 15 rfl ?_);refine cG (some 14) Tryd.func15 #[.int .i64 G] ?_;(with_reducible refine(recoupref06_Full.calls k G U ah _ A5.out).mono ?_);rintro e w' ⟨rfl,⟨nd,rfl⟩⟩;refine⟨_,rfl,?_⟩))
   go_ret2
   exact⟨rfE,hbA HB.out⟩
  ·rw[if_neg c6]at H
   have c6b0:((Go.bits .andNot .u64 a1 U)==0)=false:=beq_eq_false_iff_ne.mpr c6;have c6b1:((Go.bits .andNot .u64 a1 U)!=0)=true:=bne_iff_ne.mpr c6;simp only[Option.some.injEq,Prod.mk.injEq]at H;obtain⟨rfl,rfl⟩:=H
   go_enter Tryd.func32,Tryd.ntmps32
   go_wp2_with (first|((with_reducible refine gD 2 rfl ?_);refine bE 2 #[.int .i64 G,.int .i64 J,.slice L I.length O] 24 ?_;intro ac hg bg hbox hb;have D:=aK (hbox);have aa:=hbS HB hg;have Z:=hbS HB hg;replace HB:=hbB HB hb;clear hb hbox hg;obtain⟨al,am,an,az,a0,a2⟩:=cell3 D)|((with_reducible refine gC 19 rfl ?_);refine cG (some 9) Tryd.func19 #[.agg #[.int .i64 G,.int .i64 J,.slice L I.length O]] ?_;(with_reducible refine(recoupref16_Generator.calls G J _ _ I true _ ?side1 ?side2 A3.out).mono ?_);(case side1=>exact kcB Y HB);(case side2=>exact X.out);rintro e bh ⟨rfl,hb⟩;refine⟨_,rfl,?_⟩;replace D:=bkB D hb;replace HB:=hbB HB hb;(try clear hb);obtain⟨ao,ap,aq,a3,a4,a5⟩:=cell3 D)|((with_reducible refine gC 15 rfl ?_);refine cG (some 14) Tryd.func15 #[.int .i64 G] ?_;(with_reducible refine(recoupref06_Full.calls k G U ah _ A5.out).mono ?_);rintro e w' ⟨rfl,⟨nd,rfl⟩⟩;refine⟨_,rfl,?_⟩))
   go_ret2
   exact⟨rfE,hbA HB.out⟩
 ·replace c4:=Bool.eq_false_iff.mpr c4;subst c4;rw[if_neg nofT]at H
  simp only[Option.some.injEq,Prod.mk.injEq]at H;obtain⟨rfl,rfl⟩:=H
  go_enter Tryd.func32,Tryd.ntmps32
  go_wp2_with (first|((with_reducible refine gD 2 rfl ?_);refine bE 2 #[.int .i64 G,.int .i64 J,.slice L I.length O] 24 ?_;intro ac hg bi hbox hb;have D:=aK (hbox);have aa:=hbS HB hg;have Z:=hbS HB hg;replace HB:=hbB HB hb;clear hb hbox hg;obtain⟨ar,au,av,a6,a7,a8⟩:=cell3 D)|((with_reducible refine gC 19 rfl ?_);refine cG (some 9) Tryd.func19 #[.agg #[.int .i64 G,.int .i64 J,.slice L I.length O]] ?_;(with_reducible refine(recoupref16_Generator.calls G J _ _ I false _ ?side1 ?side2 A3.out).mono ?_);(case side1=>exact kcB Y HB);(case side2=>exact X.out);rintro e bj ⟨rfl,hb⟩;refine⟨_,rfl,?_⟩;replace D:=bkB D hb;replace HB:=hbB HB hb;(try clear hb)))
  go_ret2
  exact⟨rfE,hbA HB.out⟩
end Go.Proofs.YtkagobkedifhkaaDoor.Q
namespace Go.Proofs.YtkagobkedifhkaaDoor.Q
open Go.RowKit Go.Proofs.YtkagobkedifhkaaDoorW.PrintWords Go.Proofs.YtkagobkedifhkaaDoorW.PrintLast Go.Proofs.YtkagobkedifhkaaDoorW.PrintMore
attribute [local go_sem] max2_int min2_int max_two min_two max_three min_three max_four min_four
set_option linter.unusedVariables false
set_option linter.unusedSimpArgs false
def recoupref07_bad.f(k:Nat)(D:Int)(I:Int)(J:List Int)(a1:Int):Option (Int):=(recoupref03_Right.f D I J).bind fun L=>(if L=true then((recoupref06_Full.f k D).bind fun G=>(if(Go.bits .andNot .u64 a1 G.1)=0 then(some 0)else(some 2)))else(some 3))
set_option maxHeartbeats 8000000 in
set_option maxRecDepth 100000 in
theorem recoupref07_bad.calls(k:Nat)(G:Int)(J:Int)(L:Option Addr)(O:Nat)(I:List Int)(a1:Int)(r:Int)(w:World)(ae:Kd.C (Kd.int .u8) w L I.length I)(ac:I.length≤O)(h:recoupref07_bad.f k G J I a1=some r):
 Calls Tryd.prog 57 #[.agg #[.int .i64 G,.int .i64 J,.slice L I.length O],.int .u64 a1] w fun e w'=>e= .returned (.int .i64 r)∧Below w.heap.size w w':=by
 have bf:=Tryd.underlying24;have Y:=aK ae;have X:=aK ac;clear ae ac;have HB:=aK (Below.refl w.heap.size w);have H:((recoupref03_Right.f G J I).bind fun af=>(if af=true then((recoupref06_Full.f k G).bind fun ah=>(if(Go.bits .andNot .u64 a1 ah.1)=0 then(some 0)else(some 2)))else(some 3)))=some r:=h;clear h;obtain⟨af,A3,H⟩:=bindO H
 (try dsimp only at H)
 by_cases c4:af=true
 ·subst c4;rw[if_pos rfl]at H
  obtain⟨⟨U,ag⟩,A5,H⟩:=bindO H
  (try dsimp only at H)
  by_cases c6:(Go.bits .andNot .u64 a1 U)=0
  ·rw[if_pos c6]at H
   have c6b0:((Go.bits .andNot .u64 a1 U)==0)=true:=beq_iff_eq.mpr c6;have c6b1:((Go.bits .andNot .u64 a1 U)!=0)=false:=bne_eq_false_iff_eq.mpr c6;clear c6;obtain rfl:=Option.some.inj H
   go_enter Tryd.func57,Tryd.ntmps57
   go_wp2_with (first|((with_reducible refine gD 2 rfl ?_);refine bE 2 #[.int .i64 G,.int .i64 J,.slice L I.length O] 24 ?_;intro ab hg w7 hbox hb;have D:=aK (hbox);have aa:=hbS HB hg;have Z:=hbS HB hg;replace HB:=hbB HB hb;clear hb hbox hg;obtain⟨a9,ba,bb,bc,bd,be⟩:=cell3 D)|((with_reducible refine gC 37 rfl ?_);refine cG (some 8) Tryd.func37 #[.agg #[.int .i64 G,.int .i64 J,.slice L I.length O]] ?_;(with_reducible refine(recoupref03_Right.calls G J _ _ I true _ ?side1 ?side2 A3.out).mono ?_);(case side1=>exact kcB Y HB);(case side2=>exact X.out);rintro e w9 ⟨rfl,hb⟩;refine⟨_,rfl,?_⟩;replace D:=bkB D hb;replace HB:=hbB HB hb;(try clear hb);obtain⟨ai,aj,ak,aw,ax,ay⟩:=cell3 D)|((with_reducible refine gC 15 rfl ?_);refine cG (some 13) Tryd.func15 #[.int .i64 G] ?_;(with_reducible refine(recoupref06_Full.calls k G U ag _ A5.out).mono ?_);rintro e w' ⟨rfl,⟨nd,rfl⟩⟩;refine⟨_,rfl,?_⟩))
   go_ret
   exact⟨rfE,hbA HB.out⟩
  ·rw[if_neg c6]at H
   have c6b0:((Go.bits .andNot .u64 a1 U)==0)=false:=beq_eq_false_iff_ne.mpr c6;have c6b1:((Go.bits .andNot .u64 a1 U)!=0)=true:=bne_iff_ne.mpr c6;obtain rfl:=Option.some.inj H
   go_enter Tryd.func57,Tryd.ntmps57
   go_wp2_with (first|((with_reducible refine gD 2 rfl ?_);refine bE 2 #[.int .i64 G,.int .i64 J,.slice L I.length O] 24 ?_;intro ab hg bg hbox hb;have D:=aK (hbox);have aa:=hbS HB hg;have Z:=hbS HB hg;replace HB:=hbB HB hb;clear hb hbox hg;obtain⟨al,am,an,az,a0,a2⟩:=cell3 D)|((with_reducible refine gC 37 rfl ?_);refine cG (some 8) Tryd.func37 #[.agg #[.int .i64 G,.int .i64 J,.slice L I.length O]] ?_;(with_reducible refine(recoupref03_Right.calls G J _ _ I true _ ?side1 ?side2 A3.out).mono ?_);(case side1=>exact kcB Y HB);(case side2=>exact X.out);rintro e bh ⟨rfl,hb⟩;refine⟨_,rfl,?_⟩;replace D:=bkB D hb;replace HB:=hbB HB hb;(try clear hb);obtain⟨ao,ap,aq,a3,a4,a5⟩:=cell3 D)|((with_reducible refine gC 15 rfl ?_);refine cG (some 13) Tryd.func15 #[.int .i64 G] ?_;(with_reducible refine(recoupref06_Full.calls k G U ag _ A5.out).mono ?_);rintro e w' ⟨rfl,⟨nd,rfl⟩⟩;refine⟨_,rfl,?_⟩))
   go_ret
   exact⟨rfE,hbA HB.out⟩
 ·replace c4:=Bool.eq_false_iff.mpr c4;subst c4;rw[if_neg nofT]at H
  obtain rfl:=Option.some.inj H
  go_enter Tryd.func57,Tryd.ntmps57
  go_wp2_with (first|((with_reducible refine gD 2 rfl ?_);refine bE 2 #[.int .i64 G,.int .i64 J,.slice L I.length O] 24 ?_;intro ab hg bi hbox hb;have D:=aK (hbox);have aa:=hbS HB hg;have Z:=hbS HB hg;replace HB:=hbB HB hb;clear hb hbox hg;obtain⟨ar,au,av,a6,a7,a8⟩:=cell3 D)|((with_reducible refine gC 37 rfl ?_);refine cG (some 8) Tryd.func37 #[.agg #[.int .i64 G,.int .i64 J,.slice L I.length O]] ?_;(with_reducible refine(recoupref03_Right.calls G J _ _ I false _ ?side1 ?side2 A3.out).mono ?_);(case side1=>exact kcB Y HB);(case side2=>exact X.out);rintro e bj ⟨rfl,hb⟩;refine⟨_,rfl,?_⟩;replace D:=bkB D hb;replace HB:=hbB HB hb;(try clear hb)))
  go_ret
  exact⟨rfE,hbA HB.out⟩
def recoupref03_At.f(I:Int)(D:Int)(G:List Int)(a1:Int)(a2:Int):Option (Int):=if 0≤(wrap64 ((wrap64 (a1*D))+a2))then(if(wrap64 ((wrap64 (a1*D))+a2))<(G.length:Int)then(some (rd G (wrap64 ((wrap64 (a1*D))+a2))))else(none))else(none)
set_option maxHeartbeats 8000000 in
set_option maxRecDepth 100000 in
theorem recoupref03_At.calls(U:Int)(G:Int)(O:Option Addr)(X:Nat)(D:List Int)(a1:Int)(a2:Int)(r:Int)(w:World)(Z:Kd.C (Kd.int .u8) w O D.length D)(Y:D.length≤X)(h:recoupref03_At.f U G D a1 a2=some r):
 Calls Tryd.prog 40 #[.agg #[.int .i64 U,.int .i64 G,.slice O D.length X],.int .i64 a1,.int .i64 a2] w fun e w'=>e= .returned (.int .u8 r)∧Below w.heap.size w w':=by
 have ar:=Tryd.underlying24;have ae:=aK Z;have ao:=aK Y;clear Z Y;have HB:=aK (Below.refl w.heap.size w);have H:(if 0≤(wrap64 ((wrap64 (a1*G))+a2))then(if(wrap64 ((wrap64 (a1*G))+a2))<(D.length:Int)then(some (rd D (wrap64 ((wrap64 (a1*G))+a2))))else(none))else(none))=some r:=h;clear h;obtain⟨J,L⟩: ∃j_:Int,(wrap64 ((wrap64 (a1*G))+a2))=j_:=⟨_,rfl⟩
 replace H:(if 0≤(J)then(if(J)<(D.length:Int)then(some (rd D (J)))else(none))else(none))=some r:=by first|(rw[L]at H;exact H)|(simp only[L]at H⊢;exact H)
 have hji4w:(IntKind.i64.wrap ((wrap64 (a1*G))+a2))=J:=(i64_w _).trans L;by_cases c5:0≤(J)
 ·rw[if_pos c5]at H
  have c5b0:decide (0≤(J))=true:=decide_eq_true c5;clear c5;by_cases c6:(J)<(D.length:Int)
  ·rw[if_pos c6]at H
   have c6b0:decide ((J)<(D.length:Int))=true:=decide_eq_true c6;clear c6;obtain rfl:=Option.some.inj H
   go_enter Tryd.func40,Tryd.ntmps40
   go_wp2_with (first|((with_reducible refine gD 3 rfl ?_);refine bE 3 #[.int .i64 U,.int .i64 G,.slice O D.length X] 24 ?_;intro aq hg w7 hbox hb;have ac:=aK (hbox);have an:=hbS HB hg;have am:=hbS HB hg;replace HB:=hbB HB hb;clear hb hbox hg;obtain⟨ag,ah,ai,aj,ak,al⟩:=cell3 ac;have aa:0≤((J):Int):=of_decide_eq_true asE;have ab:(J)<(D.length:Int):=of_decide_eq_true asE;obtain⟨ap,af,I⟩:=Kd.at_int ae.out (J) aa ab;cases af;replace I:=(HB.out.cell (World.block_lt_of_cell? w _ I)).trans I;replace aa:=eq_true aa;replace ab:=eq_true ab))
   go_ret
   exact⟨by first|rfl|(simp[errW_none,errW_some]<;>rfl)|(simp only[←L];first|rfl|(simp[errW_none,errW_some]<;>rfl))|(simp[*,errW_none,errW_some]<;>rfl),hbA HB.out⟩
  ·rw[if_neg c6]at H
   exact absurd H zac
 ·rw[if_neg c5]at H
  exact absurd H zac
mutual
def recoupref03_Row.j0:Nat→Int→Bool→Int→Int→List Int→Option (List Int×Int)
 |0,_,_,_,_,_=>none
 |k+1,x1,J,D,G,I=>if J=true then(some (([]:List Int),2))else(recoupref03_Row.l0 k x1 ([]:List Int) 0 D G I)
def recoupref03_Row.l0:Nat→Int→List Int→Int→Int→Int→List Int→Option (List Int×Int)
 |0,_,_,_,_,_,_=>none
 |k+1,x1,x6,x7,G,D,I=>if x7<D then((recoupref03_At.f G D I x1 x7).bind fun J=>(if x6.length<140737488355328 then(recoupref03_Row.l0 k x1 (x6++ [J]) (wrap64 (x7+1)) G D I)else(none)))else(some (x6,0))
end
def recoupref03_Row.f(k:Nat)(D:Int)(G:Int)(I:List Int)(a1:Int):Option (List Int×Int):=(recoupref03_Right.f D G I).bind fun J=>(if J=true then(if a1<0 then(recoupref03_Row.j0 k a1 true D G I)else(recoupref03_Row.j0 k a1 (decide (a1≥D)) D G I))else(some (([]:List Int),3)))
set_option maxHeartbeats 8000000 in
set_option maxRecDepth 100000 in
theorem recoupref03_Row.calls(k:Nat)(J:Int)(G:Int)(L:Option Addr)(O:Nat)(I:List Int)(a1:Int)(r1:List Int)(r2:Int)(w:World)(aw:Kd.C (Kd.int .u8) w L I.length I)(av:I.length≤O)(h:recoupref03_Row.f k J G I a1=some (r1,r2)):
 Calls Tryd.prog 38 #[.agg #[.int .i64 J,.int .i64 G,.slice L I.length O],.int .i64 a1] w fun e w'=> ∃v0_:Value,e= .returned (.tuple #[v0_,.int .i64 r2])∧Kd.R (Kd.int .u8) 5 w' w.heap.size (fun _=>True) v0_ r1∧Below w.heap.size w w':=by
 have bu:=Tryd.underlying24;have aj:=aK aw;have ai:=aK av;clear aw av;have HB:=aK (Below.refl w.heap.size w);have H:((recoupref03_Right.f J G I).bind fun ax=>(if ax=true then(if a1<0 then(recoupref03_Row.j0 k a1 true J G I)else(recoupref03_Row.j0 k a1 (decide (a1≥J)) J G I))else(some (([]:List Int),3))))=some (r1,r2):=h;clear h;obtain⟨ax,A3,H⟩:=bindO H
 (try dsimp only at H)
 by_cases c4:ax=true
 ·subst c4;rw[if_pos rfl]at H
  have a3:=aK H;clear H
  go_enter Tryd.func38,Tryd.ntmps38
  go_upto_region 3 with(first|((with_reducible refine gD 2 rfl ?_);refine bE 2 #[.int .i64 J,.int .i64 G,.slice L I.length O] 24 ?_;intro Z hg w6 hbox hb;have D:=aK (hbox);have a2:=hbS HB hg;have a0:=hbS HB hg;replace HB:=hbB HB hb;clear hb hbox hg;obtain⟨ak,al,am,an,ao,ap⟩:=cell3 D)|((with_reducible refine gC 37 rfl ?_);refine cG (some 9) Tryd.func37 #[.agg #[.int .i64 J,.int .i64 G,.slice L I.length O]] ?_;(with_reducible refine(recoupref03_Right.calls J G _ _ I true _ ?side1 ?side2 A3.out).mono ?_);(case side1=>exact kcB aj HB);(case side2=>exact ai.out);rintro e w8 ⟨rfl,hb⟩;refine⟨_,rfl,?_⟩;replace D:=bkB D hb;replace HB:=hbB HB hb;(try clear hb)))
  (try simp only[Act.put,zL])
  go_cut [18] (fun bt wc=> ∃(kq:Nat) (aa:Bool),bt= .bool aa∧Aside0 (recoupref03_Row.j0 kq a1 aa J G I=some (r1,r2))∧Aside0 (kq≤k)∧Aside0 (wc.heap[Z]? =some (.cells #[.int .i64 J,.int .i64 G,(.slice L I.length O)] 24 (0,0)))∧Aside0 (Below w.heap.size w wc))
  case first=>
   have H:=a3.out;clear a3;by_cases c9:a1<0
   ·rw[if_pos c9]at H
    have c9b0:decide (a1<0)=true:=decide_eq_true c9;clear c9
    (first|rw[c9b0] |(simp only[i64_w,i32_w];rw[c9b0])|skip)
    have H':=aK H;clear H;go_wp2
    go_meet
    case rel=>exact⟨_,(true),rsE,H',⟨leE⟩,⟨bkA D.out⟩,⟨hbA HB.out⟩⟩
   ·rw[if_neg c9]at H
    have c9b0:decide (a1<0)=false:=decide_eq_false c9;clear c9
    (first|rw[c9b0] |(simp only[i64_w,i32_w];rw[c9b0])|skip)
    have H':=aK H;clear H;obtain⟨ab,ac,ae,af,ag,ah⟩:=cell3 D;go_wp2
    go_meet
    case rel=>exact⟨_,(decide (a1≥J)),rsE,H',⟨leE⟩,⟨bkA D.out⟩,⟨hbA HB.out⟩⟩
  case rest=>
   clear a3
   (try clear p2);(try clear c3);(try clear c4);(try clear c9);(try clear c9b0);(try clear ab ac ae af ag ah);(try clear ak al am an ao ap)
   obtain⟨kq,aa,rfl,HA,a7,D,HB⟩:=hcut
   cases kq with
   |zero=>exact absurd HA.out (by simp[recoupref03_Row.j0])
   |succ br=>
    have H:=HA.out;clear HA;simp only[recoupref03_Row.j0]at H;by_cases au:aa=true
    ·subst au;rw[if_pos rfl]at H
     simp only[Option.some.injEq,Prod.mk.injEq]at H;obtain⟨rfl,rfl⟩:=H;go_wp2
     go_ret2
     exact⟨_,rfE,nilE,hbA HB.out⟩
    ·replace au:=Bool.eq_false_iff.mpr au;subst au;rw[if_neg nofT]at H
     have H':=aK H;clear H;go_wp2
     go_loopg [6,7] br (fun kq v6 v7 w'=> ∃(Y:List Int) (U:Int),v7= .int .i64 U∧Aside0 (recoupref03_Row.l0 kq a1 Y U J G I=some (r1,r2))∧Aside0 (kq≤br)∧Aside0 (Kd.R (Kd.int .u8) 5 w' w.heap.size (fun _=>True) v6 Y)∧Aside0 (w'.heap[Z]? =some (.cells #[.int .i64 J,.int .i64 G,(.slice L I.length O)] 24 (0,0)))∧Aside0 (Below w.heap.size w w'))
     case atStart=>exact⟨(([]:List Int)),(0),rsE,H',⟨Nat.le_refl _⟩,⟨nilE⟩,⟨bkA D.out⟩,⟨hbA HB.out⟩⟩
     case round=>
      clear H'
      (try clear c1);(try clear p2 p2);(try clear c3);(try clear c4);(try clear c9);(try clear c9b0);(try clear au);(try clear ab ac ae af ag ah);(try clear ak al am an ao ap)
      obtain⟨Y,U,rfl,HA,a8,HO_6,D,HB⟩:=hrel
      cases gk with
      |zero=>exact absurd HA.out (by simp[recoupref03_Row.l0])
      |succ k2=>
       have H:=HA.out;clear HA;simp only[recoupref03_Row.l0]at H;by_cases ar:U<G
       ·rw[if_pos ar]at H
        have c12b0:decide (U<G)=true:=decide_eq_true ar;clear ar;obtain⟨aq,bs,H⟩:=bindO H
        (try dsimp only at H)
        by_cases ay:Y.length<140737488355328
        ·rw[if_pos ay]at H
         have a5:=aK ay;clear ay;obtain⟨az,X⟩: ∃y_:List Int,y_=(Y++ [aq]):=⟨_,rfl⟩
         replace H:(recoupref03_Row.l0 k2 a1 az (wrap64 (U+1)) J G I)=some (r1,r2):=by first|(rw[X];with_reducible exact H)|(have H2_:=(Option.bind_some _ _).symm.trans H;rw[X];with_reducible exact H2_)|(have H2_:=(Option.bind_some _ _).symm.trans H;with_reducible exact H2_)|with_reducible exact H|(rw[X];exact H)|exact H
         have a6:=aK X;clear X;have H':=aK H;clear H;obtain⟨a9,ba,bb,bi,bj,bk⟩:=cell3 D
         go_wp2_with (first|((with_reducible refine gC 40 rfl ?_);refine cG (some 29) Tryd.func40 #[.agg #[.int .i64 J,.int .i64 G,.slice L I.length O],.int .i64 a1,.int .i64 U] ?_;(with_reducible refine(recoupref03_At.calls J G _ _ I a1 U aq _ ?side1 ?side2 bs.out).mono ?_);(case side1=>exact kcB aj HB);(case side2=>exact ai.out);rintro e bw ⟨rfl,hb⟩;refine⟨_,rfl,?_⟩;replace HO_6:=kdB HO_6 hb;replace D:=bkB D hb;replace HB:=hbB HB hb;(try clear hb))|((with_reducible refine gate_builtin (b:= .append) (xs:= #[.tmp 25,.tmp 30]) rfl ?_);at_builtin;refine Kd.R_append (Kd.int .u8) (w0:=w) w.heap.size rfl (.tmp 25) (.tmp 30) 22 5 (.int .u8 0) 1 rfl Tryd.underlying22 info5 rfl zaa zz u6 Y aq [.int .u8 aq] (fun _=>True) (fun _=>False) rfl rfl ?aP (fun _ hk=>hk.elim) ?aF ?aO ?aB ?aS ?aL ?_;(case aP=>exact rfl);(case aB=>exact(hbA HB.out));(case aF=>exact(fun _ _=>trivial));(case aO=>exact(kdA HO_6.out));(case aS=>exact(below_size (hbA HB.out)));(case aL=>have:=a5.out;omega);intro bv bx ho hb hg hat;rw[←a6.out]at ho;have n0_:=aK (blk_grown (g:=Z) (o:= .cells #[.int .i64 J,.int .i64 G,.slice L I.length O] 24 (0,0)) (bkA D.out) hg (Kd.R_ne HO_6.out D.out zaa));have n1_:=aK (hb);have n2_:=aK (ho);clear D;clear HB;clear HO_6;have D:=n0_;have HB:=n1_;have a4:=n2_;clear n0_ n1_ n2_;clear ho hb hg hat))
         go_roundg k2
         case measure=>have:=a7.out;have:=a8.out;omega
         case rel=>exact⟨(az),(wrap64 (U+1)),rsE,H',⟨by have:=a7.out;have:=a8.out;omega⟩,⟨kdA a4.out⟩,⟨bkA D.out⟩,⟨hbA HB.out⟩⟩
        ·rw[if_neg ay]at H
         exact absurd H zac
       ·rw[if_neg ar]at H
        have c12b0:decide (U<G)=false:=decide_eq_false ar;clear ar;simp only[Option.some.injEq,Prod.mk.injEq]at H;obtain⟨rfl,rfl⟩:=H;obtain⟨bc,bd,be,bl,bm,bn⟩:=cell3 D;go_wp2
        go_ret2
        exact⟨_,rfE,by(with_reducible repeat(first|apply Kd.R_alloc|apply Kd.R_drewN|apply Kd.R_drew));exact HO_6.out,hbA HB.out⟩
 ·replace c4:=Bool.eq_false_iff.mpr c4;subst c4;rw[if_neg nofT]at H
  simp only[Option.some.injEq,Prod.mk.injEq]at H;obtain⟨rfl,rfl⟩:=H
  go_enter Tryd.func38,Tryd.ntmps38
  go_wp2_with (first|((with_reducible refine gD 2 rfl ?_);refine bE 2 #[.int .i64 J,.int .i64 G,.slice L I.length O] 24 ?_;intro Z hg bz hbox hb;have D:=aK (hbox);have a2:=hbS HB hg;have a0:=hbS HB hg;replace HB:=hbB HB hb;clear hb hbox hg;obtain⟨bf,bg,bh,bo,bp,bq⟩:=cell3 D)|((with_reducible refine gC 37 rfl ?_);refine cG (some 9) Tryd.func37 #[.agg #[.int .i64 J,.int .i64 G,.slice L I.length O]] ?_;(with_reducible refine(recoupref03_Right.calls J G _ _ I false _ ?side1 ?side2 A3.out).mono ?_);(case side1=>exact kcB aj HB);(case side2=>exact ai.out);rintro e b0 ⟨rfl,hb⟩;refine⟨_,rfl,?_⟩;replace D:=bkB D hb;replace HB:=hbB HB hb;(try clear hb)))
  go_ret2
  exact⟨_,rfE,nilE,hbA HB.out⟩
end Go.Proofs.YtkagobkedifhkaaDoor.Q
namespace Go.Proofs.YtkagobkedifhkaaDoor.Q
open Go.RowKit Go.Proofs.YtkagobkedifhkaaDoorW.PrintWords Go.Proofs.YtkagobkedifhkaaDoorW.PrintLast Go.Proofs.YtkagobkedifhkaaDoorW.PrintMore
attribute [local go_sem] max2_int min2_int max_two min_two max_three min_three max_four min_four
set_option linter.unusedVariables false
set_option linter.unusedSimpArgs false
mutual
def recoupref03_Pick.l0:Nat→List Int→Int→Int→Int→List Int→Option (Int×Int×List Int×Int)
 |0,_,_,_,_,_=>none
 |k+1,x1,x6,D,G,I=>if x6<(x1.length:Int)then(if 0≤x6 then(if(rd x1 x6)<0 then(some (0,0,([]:List Int),2))else(if(rd x1 x6)≥D then(some (0,0,([]:List Int),2))else(recoupref03_Pick.l0 k x1 (wrap64 (x6+1)) D G I)))else(none))else(if(x1.length:Int)>64 then(some (0,0,([]:List Int),4))else(recoupref03_Pick.l1 k x1 0 D G I (x1.length:Int) G ([]:List Int)))
def recoupref03_Pick.l1:Nat→List Int→Int→Int→Int→List Int→Int→Int→List Int→Option (Int×Int×List Int×Int)
 |0,_,_,_,_,_,_,_,_=>none
 |k+1,x1,x8,G,I,J,L,O,D=>if x8<(x1.length:Int)then(if 0≤x8 then((recoupref03_Row.f k G I J (rd x1 x8)).bind fun U=>(if D.length+U.1.length<140737488355328 then(recoupref03_Pick.l1 k x1 (wrap64 (x8+1)) G I J L O (D++U.1))else(none)))else(none))else(some (L,O,D,0))
end
def recoupref03_Pick.f(k:Nat)(D:Int)(G:Int)(I:List Int)(l1:List Int):Option (Int×Int×List Int×Int):=(recoupref03_Right.f D G I).bind fun J=>(if J=true then(recoupref03_Pick.l0 k l1 0 D G I)else(some (0,0,([]:List Int),3)))
def recoupref03_Pick.T6:Bool×List (List Nat×List Nat):=(true,[([],[]),([],[]),([0,1],[0,1]),([2],[2]),([3],[3]),([4],[4]),([5],[5]),([5],[5]),([6,7,5],[5,6,7]),([8,5],[5,8]),([5],[5]),([10,5],[5,10]),([9,11,5],[5,9,11]),([5,12],[5,12])])
def recoupref03_Pick.B6:List Nat:= [0,0,3,7,15,31,63,63,255,511,63,1087,4095,8191]
theorem recoupref03_Pick.tab6:rtab .any (opsOf Tryd.f16 6)=recoupref03_Pick.T6:=by kernel_rfl
theorem recoupref03_Pick.bits6:waitsOk recoupref03_Pick.T6.2 recoupref03_Pick.B6=true:=by kernel_rfl
def recoupref03_Pick.T14:Bool×List (List Nat×List Nat):=(true,[([],[]),([],[]),([],[]),([1,2],[1,2]),([3],[3]),([0,4],[0,4]),([5],[5]),([6],[6]),([6],[6]),([7,5,0,1,2,3,4,5,6,7],[7]),([8,9,0,1,2,3,4,5,6,7,8,9],[8])])
def recoupref03_Pick.B14:List Nat:= [0,0,0,6,14,31,63,127,127,255,1023]
theorem recoupref03_Pick.tab14:rtab .any (opsOf Tryd.f16 14)=recoupref03_Pick.T14:=by kernel_rfl
theorem recoupref03_Pick.bits14:waitsOk recoupref03_Pick.T14.2 recoupref03_Pick.B14=true:=by kernel_rfl
set_option maxHeartbeats 8000000 in
set_option maxRecDepth 100000 in
theorem recoupref03_Pick.calls(k:Nat)(Y:Int)(O:Int)(al:Option Addr)(am:Nat)(Z:List Int)(A1:Option Addr)(c1:Nat)(l1:List Int)(r1:Int)(r2:Int)(r3:List Int)(r4:Int)(w:World)(cl:Kd.C (Kd.int .u8) w al Z.length Z)(bo:Z.length≤am)(el:Kd.C (Kd.int .i64) w A1 l1.length l1)(di:l1.length≤c1)(h:recoupref03_Pick.f k Y O Z l1=some (r1,r2,r3,r4)):
 Calls Tryd.prog 16 #[.agg #[.int .i64 Y,.int .i64 O,.slice al Z.length am],.slice A1 l1.length c1] w fun e w'=> ∃v2_:Value,e= .returned (.tuple #[.agg #[.int .i64 r1,.int .i64 r2,v2_],.int .i64 r4])∧Kd.R (Kd.int .u8) 5 w' w.heap.size (fun _=>True) v2_ r3∧Below w.heap.size w w':=by
 have fh:=Tryd.underlying24;have a5:=aK cl;have a4:=aK bo;clear cl bo;have bj:=aK el;have fl:=aK di;clear el di;have HB:=aK (Below.refl w.heap.size w);have H:((recoupref03_Right.f Y O Z).bind fun co=>(if co=true then(recoupref03_Pick.l0 k l1 0 Y O Z)else(some (0,0,([]:List Int),3))))=some (r1,r2,r3,r4):=h;clear h;obtain⟨co,A3,H⟩:=bindO H
 (try dsimp only at H)
 by_cases c4:co=true
 ·subst c4;rw[if_pos rfl]at H
  have H':=aK H;clear H
  go_enter Tryd.func16,Tryd.ntmps16
  go_wp2_with (first|((with_reducible refine gD 2 rfl ?_);refine bE 2 #[.int .i64 Y,.int .i64 O,.slice al Z.length am] 24 ?_;intro ah hg w5 hbox hb;have D:=aK (hbox);have cz:=hbS HB hg;have cx:=hbS HB hg;replace HB:=hbB HB hb;clear hb hbox hg)|((with_reducible refine gD 4 rfl ?_);refine bE 4 #[.int .i64 0,.int .i64 0,.slice none 0 0] 24 ?_;intro ak hg w6 hbox hb;have G:=aK (hbox);have c5:=hbS HB hg;have cy:=hbS HB hg;replace HB:=hbB HB hb;have ab:=neL D hg;have ac:=neG D hg;replace D:=bkB D hb;clear hb hbox hg;have ff:=ab.out;have fg:=ac.out;obtain⟨bc,bd,be,bf,bg,bh⟩:=cell3 D)|((with_reducible refine gC 37 rfl ?_);refine cG (some 12) Tryd.func37 #[.agg #[.int .i64 Y,.int .i64 O,.slice al Z.length am]] ?_;(with_reducible refine(recoupref03_Right.calls Y O _ _ Z true _ ?side1 ?side2 A3.out).mono ?_);(case side1=>exact kcB a5 HB);(case side2=>exact a4.out);rintro e w9 ⟨rfl,hb⟩;refine⟨_,rfl,?_⟩;replace D:=bkB D hb;replace G:=bkB G hb;replace HB:=hbB HB hb;(try clear hb)))
  go_loopg [6] k (fun kq v6 w'=> ∃(I:Int) (U:Int) (L:Int),v6= .int .i64 I∧Aside0 (recoupref03_Pick.l0 kq l1 I Y O Z=some (r1,r2,r3,r4))∧Aside0 (kq≤k)∧Aside0 (w'.heap[ah]? =some (.cells #[.int .i64 Y,.int .i64 O,(.slice al Z.length am)] 24 (0,0)))∧Aside0 (w'.heap[ak]? =some (.cells #[.int .i64 U,.int .i64 L,(.slice none 0 0)] 24 (0,0)))∧Aside0 (Below w.heap.size w w'))
  case atStart=>exact⟨(0),(0),(0),rsE,H',⟨Nat.le_refl _⟩,⟨bkA D.out⟩,⟨bkA G.out⟩,⟨hbA HB.out⟩⟩
  case round=>
   clear H'
   (try clear c1);(try clear p2);(try clear c3);(try clear c4);(try clear c7);(try clear bc bd be bf bg bh)
   obtain⟨I,U,L,rfl,HA,cp,D,G,HB⟩:=hrel
   cases gk with
   |zero=>exact absurd HA.out (by simp[recoupref03_Pick.l0])
   |succ k1=>
    have H:=HA.out;clear HA;simp only[recoupref03_Pick.l0]at H;by_cases a7:I<(l1.length:Int)
    ·rw[if_pos a7]at H
     have c10b0:decide (I<(l1.length:Int))=true:=decide_eq_true a7;clear a7;by_cases bm:0≤I
     ·rw[if_pos bm]at H
      have c11b0:decide (0≤I)=true:=decide_eq_true bm;clear bm;by_cases a8:(rd l1 I)<0
      ·rw[if_pos a8]at H
       have c12b0:decide ((rd l1 I)<0)=true:=decide_eq_true a8;clear a8;simp only[Option.some.injEq,Prod.mk.injEq]at H;obtain⟨rfl,rfl,rfl,rfl⟩:=H
       try go_wp2
       replace D:=aK (blk_drew D.out);replace G:=aK (blk_drew G.out);replace HB:=aK (below_drew1 HB.out);have ap:0≤(I:Int):=of_decide_eq_true asE;have aq:I<(l1.length:Int):=of_decide_eq_true asE;obtain⟨ao,a2,J⟩:=Kd.at_int bj.out I ap aq;have ai:=J
       cases a2
       replace J:=(HB.out.cell (World.block_lt_of_cell? w _ J)).trans J;replace ap:=eq_true ap;replace aq:=eq_true aq;refine start_ (n:=14) (S:=fun w'=>w'.cell? (ao.add (I).toNat)=some (.int .i64 (rd l1 I))) (ds:= []) (.replicate 14 false) zab rfl rfl (((HB.out.cell (World.block_lt_of_cell? w _ ai)).trans ai)) (fun hHeld=>?_);refine with_tabW recoupref03_Pick.tab6 recoupref03_Pick.bits6 (fun HT_ HW_=>?_);generalize wr.drew=fy at D G HB J hHeld⊢;refine pu 0 (some 21) (mB 14 1) HT_ ?_;refine pu 1 (some 22) (mB 14 3) HT_ ?_;refine pu 2 (some 23) (mB 14 7) HT_ ?_;refine tk1 3 (some 24) (mB 14 15) HT_ HW_ hHeld ?_;refine pu 4 (some 25) (mB 14 31) HT_ ?_;refine pu 5 (some 26) (mB 14 63) HT_ ?_;refine zpo 6 (some 27) (mB 14 127) HT_ ?_;refine zpo 7 (some 28) (mB 14 255) HT_ ?_;refine zpo 8 (some 29) (mB 14 511) HT_ ?_;refine zpo 9 (some 30) (mB 14 1023) HT_ ?_;refine zpo 10 (some 31) (mB 14 2047) HT_ ?_;refine zpo 11 (some 32) (mB 14 4095) HT_ ?_;refine zpo 12 (some 33) (mB 14 8191) HT_ ?_;refine pu 13 (some 34) (mB 14 16383) HT_ ?_;refine done_ (done_of HT_.out zab) ?_;have er:=ac.out;have e3:=ab.out;obtain⟨bp,bq,br,b5,b6,b7⟩:=cell3 G
       try go_wp2
       refine bodyPost_ret (results_ct rfl _ _ ak 24 #[.int .i64 0,.int .i64 0,.slice none 0 0] (0,0) _ rfl zbq Tryd.underlying24 rfl zab) rfl ?_;exact⟨_,rfE,nilE,hbA HB.out⟩
      ·rw[if_neg a8]at H
       have c12b0:decide ((rd l1 I)<0)=false:=decide_eq_false a8;clear a8;by_cases a9:(rd l1 I)≥Y
       ·rw[if_pos a9]at H
        have c16b0:decide (Y≤(rd l1 I))=true:=decide_eq_true a9;clear a9;simp only[Option.some.injEq,Prod.mk.injEq]at H;obtain⟨rfl,rfl,rfl,rfl⟩:=H
        try go_wp2
        replace D:=aK (blk_drew D.out);replace G:=aK (blk_drew G.out);replace HB:=aK (below_drew1 HB.out);have ap:0≤(I:Int):=of_decide_eq_true asE;have aq:I<(l1.length:Int):=of_decide_eq_true asE;obtain⟨ao,a2,J⟩:=Kd.at_int bj.out I ap aq;have ai:=J
        cases a2
        replace J:=(HB.out.cell (World.block_lt_of_cell? w _ J)).trans J;replace ap:=eq_true ap;replace aq:=eq_true aq;have az:0≤(I:Int):=of_decide_eq_true asE;have a0:I<(l1.length:Int):=of_decide_eq_true asE;obtain⟨a6,bn,X⟩:=Kd.at_int bj.out I az a0;have ar:=X;obtain rfl:ao=a6:=(by injection bn)
        replace X:=(HB.out.cell (World.block_lt_of_cell? w _ X)).trans X;replace az:=eq_true az;replace a0:=eq_true a0;refine start_ (n:=14) (S:=fun w'=>w'.cell? ⟨ah,0,none⟩=some (.int .i64 Y)∧w'.cell? ⟨ah,1,none⟩=some (.int .i64 O)∧w'.cell? ⟨ah,2,none⟩=some (.slice al Z.length am)∧w'.cell? (ao.add (I).toNat)=some (.int .i64 (rd l1 I))∧w'.cell? (ao.add (I).toNat)=some (.int .i64 (rd l1 I))) (ds:= []) (.replicate 14 false) zab rfl rfl ⟨(blk_cell D.out 0).trans rfl,(blk_cell D.out 1).trans rfl,(blk_cell D.out 2).trans rfl,((HB.out.cell (World.block_lt_of_cell? w _ ai)).trans ai),((HB.out.cell (World.block_lt_of_cell? w _ ar)).trans ar)⟩ (fun hHeld=>?_);refine with_tabW recoupref03_Pick.tab6 recoupref03_Pick.bits6 (fun HT_ HW_=>?_);generalize wr.drew=fz at D G HB J X hHeld⊢;refine pu 0 (some 21) (mB 14 1) HT_ ?_;refine pu 1 (some 22) (mB 14 3) HT_ ?_;refine pu 2 (some 23) (mB 14 7) HT_ ?_;refine tk5 3 (some 24) (mB 14 15) HT_ HW_ hHeld ?_;refine pu 4 (some 25) (mB 14 31) HT_ ?_;refine pu 5 (some 26) (mB 14 63) HT_ ?_;refine pu 6 (some 27) (mB 14 127) HT_ ?_;refine pu 7 (some 28) (mB 14 255) HT_ ?_;refine pu 8 (some 29) (mB 14 511) HT_ ?_;refine pu 10 (some 31) (mB 14 1535) HT_ ?_;refine tk5 9 (some 30) (mB 14 2047) HT_ HW_ hHeld ?_;refine tk5 11 (some 32) (mB 14 4095) HT_ HW_ hHeld ?_;refine pu 12 (some 33) (mB 14 8191) HT_ ?_;refine pu 13 (some 34) (mB 14 16383) HT_ ?_;refine done_ (done_of HT_.out zab) ?_;have es:=ac.out;have e4:=ab.out;obtain⟨bs,bt,bu,b8,b9,ca⟩:=cell3 G
        try go_wp2
        refine bodyPost_ret (results_ct rfl _ _ ak 24 #[.int .i64 0,.int .i64 0,.slice none 0 0] (0,0) _ rfl zbq Tryd.underlying24 rfl zab) rfl ?_;exact⟨_,rfE,nilE,hbA HB.out⟩
       ·rw[if_neg a9]at H
        have c16b0:decide (Y≤(rd l1 I))=false:=decide_eq_false a9;clear a9;have H':=aK H;clear H
        try go_wp2
        replace D:=aK (blk_drew D.out);replace G:=aK (blk_drew G.out);replace HB:=aK (below_drew1 HB.out);have ap:0≤(I:Int):=of_decide_eq_true asE;have aq:I<(l1.length:Int):=of_decide_eq_true asE;obtain⟨ao,a2,J⟩:=Kd.at_int bj.out I ap aq;have ai:=J
        cases a2
        replace J:=(HB.out.cell (World.block_lt_of_cell? w _ J)).trans J;replace ap:=eq_true ap;replace aq:=eq_true aq;have az:0≤(I:Int):=of_decide_eq_true asE;have a0:I<(l1.length:Int):=of_decide_eq_true asE;obtain⟨a6,bn,X⟩:=Kd.at_int bj.out I az a0;have ar:=X;obtain rfl:ao=a6:=(by injection bn)
        replace X:=(HB.out.cell (World.block_lt_of_cell? w _ X)).trans X;replace az:=eq_true az;replace a0:=eq_true a0;refine start_ (n:=14) (S:=fun w'=>w'.cell? ⟨ah,0,none⟩=some (.int .i64 Y)∧w'.cell? ⟨ah,1,none⟩=some (.int .i64 O)∧w'.cell? ⟨ah,2,none⟩=some (.slice al Z.length am)∧w'.cell? (ao.add (I).toNat)=some (.int .i64 (rd l1 I))∧w'.cell? (ao.add (I).toNat)=some (.int .i64 (rd l1 I))) (ds:= []) (.replicate 14 false) zab rfl rfl ⟨(blk_cell D.out 0).trans rfl,(blk_cell D.out 1).trans rfl,(blk_cell D.out 2).trans rfl,((HB.out.cell (World.block_lt_of_cell? w _ ai)).trans ai),((HB.out.cell (World.block_lt_of_cell? w _ ar)).trans ar)⟩ (fun hHeld=>?_);refine with_tabW recoupref03_Pick.tab6 recoupref03_Pick.bits6 (fun HT_ HW_=>?_);generalize wr.drew=f0 at D G HB J X hHeld⊢;refine pu 0 (some 21) (mB 14 1) HT_ ?_;refine pu 1 (some 22) (mB 14 3) HT_ ?_;refine pu 2 (some 23) (mB 14 7) HT_ ?_;refine tk5 3 (some 24) (mB 14 15) HT_ HW_ hHeld ?_;refine pu 4 (some 25) (mB 14 31) HT_ ?_;refine pu 5 (some 26) (mB 14 63) HT_ ?_;refine pu 6 (some 27) (mB 14 127) HT_ ?_;refine pu 7 (some 28) (mB 14 255) HT_ ?_;refine pu 8 (some 29) (mB 14 511) HT_ ?_;refine pu 10 (some 31) (mB 14 1535) HT_ ?_;refine tk5 9 (some 30) (mB 14 2047) HT_ HW_ hHeld ?_;refine tk5 11 (some 32) (mB 14 4095) HT_ HW_ hHeld ?_;refine pu 12 (some 33) (mB 14 8191) HT_ ?_;refine pu 13 (some 34) (mB 14 16383) HT_ ?_;refine done_ (done_of HT_.out zab) ?_
        try go_wp2
        go_roundg k1
        case measure=>have:=cp.out;omega
        case rel=>exact⟨(wrap64 (I+1)),(U),(L),rsE,H',⟨by have:=cp.out;omega⟩,⟨bkA D.out⟩,⟨bkA G.out⟩,⟨hbA HB.out⟩⟩
     ·rw[if_neg bm]at H
      exact absurd H zac
    ·rw[if_neg a7]at H
     have c10b0:decide (I<(l1.length:Int))=false:=decide_eq_false a7;clear a7;by_cases ba:(l1.length:Int)>64
     ·rw[if_pos ba]at H
      have c21b0:decide (64<(l1.length:Int))=true:=decide_eq_true ba;have c21b1:decide (64<l1.length)=true:=decide_eq_true zz;clear ba;simp only[Option.some.injEq,Prod.mk.injEq]at H;obtain⟨rfl,rfl,rfl,rfl⟩:=H;have et:=ac.out;have e5:=ab.out;obtain⟨bv,bw,bx,cb,cd,ce⟩:=cell3 G;go_wp2;refine bodyPost_ret (results_ct rfl _ _ ak 24 #[.int .i64 0,.int .i64 0,.slice none 0 0] (0,0) _ rfl zbq Tryd.underlying24 rfl zab) rfl ?_;exact⟨_,rfE,nilE,hbA HB.out⟩
     ·rw[if_neg ba]at H
      have c21b0:decide (64<(l1.length:Int))=false:=decide_eq_false ba;have c21b1:decide (64<l1.length)=false:=decide_eq_false zz;clear ba;have H':=aK H;clear H;have eu:=ab.out;have e6:=ac.out;obtain⟨bz,b0,b1,cf,cg,ch⟩:=cell3 D
      go_wp2_with (first|((with_reducible refine gD 7 rfl ?_);refine bE 7 #[.int .i64 0,.int .i64 0,.slice none 0 0] 24 ?_;intro bb hg f1 hbox hb;have aa:=aK (hbox);have ep:=hbS HB hg;have eo:=hbS HB hg;replace HB:=hbB HB hb;have af:=neL D hg;have av:=neG D hg;replace D:=bkB D hb;have ag:=neL G hg;have aw:=neG G hg;replace G:=bkB G hb;clear hb hbox hg;have ev:=av.out;have e7:=af.out;have ew:=aw.out;have e8:=ag.out;obtain⟨b2,b3,b4,ci,cj,ck⟩:=cell3 aa))
      go_loopg [8] k1 (fun kq v8 w'=> ∃(aj:Int) (ae:List Int) (an:Value),v8= .int .i64 aj∧Aside0 (recoupref03_Pick.l1 kq l1 aj Y O Z (l1.length:Int) O ae=some (r1,r2,r3,r4))∧Aside0 (kq≤k1)∧Aside0 (Kd.R (Kd.int .u8) 5 w' w.heap.size (fun _=>True) an ae)∧Aside0 (w'.heap[ah]? =some (.cells #[.int .i64 Y,.int .i64 O,(.slice al Z.length am)] 24 (0,0)))∧Aside0 (w'.heap[ak]? =some (.cells #[.int .i64 U,.int .i64 L,(.slice none 0 0)] 24 (0,0)))∧Aside0 (w'.heap[bb]? =some (.cells #[.int .i64 (l1.length:Int),.int .i64 O,an] 24 (0,0)))∧Aside0 (Below w.heap.size w w'))
      case atStart=>exact⟨(0),(([]:List Int)),(.slice none 0 0),rsE,H',⟨Nat.le_refl _⟩,⟨nilE⟩,⟨by refine bkR ?_;refine blk_far ?_ af.out _;refine bkR ?_;refine blk_far ?_ af.out _;refine bkR ?_;refine blk_far ?_ af.out _;refine bkR ?_;exact D.out⟩,⟨by refine bkR ?_;refine blk_far ?_ ag.out _;refine bkR ?_;refine blk_far ?_ ag.out _;refine bkR ?_;refine blk_far ?_ ag.out _;refine bkR ?_;exact G.out⟩,⟨by refine bkR ?_;refine blk_put (cs:= #[.int .i64 (l1.length:Int),.int .i64 O,.slice none 0 0]) ?_ 2 _ rfl;refine bkR ?_;refine blk_put (cs:= #[.int .i64 (l1.length:Int),.int .i64 0,.slice none 0 0]) ?_ 1 _ rfl;refine bkR ?_;refine blk_put (cs:= #[.int .i64 0,.int .i64 0,.slice none 0 0]) ?_ 0 _ rfl;refine bkR ?_;exact aa.out⟩,⟨hbA HB.out⟩⟩
      case round=>
       clear H'
       (try clear c1);(try clear p1);(try clear q1);(try clear fv);(try clear c2);(try clear p2 p2);(try clear c3);(try clear c4);(try clear p6);(try clear c7);(try clear a7);(try clear c10b0);(try clear bm);(try clear c11b0);(try clear a8);(try clear c12b0);(try clear fm);(try clear a9);(try clear c16b0);(try clear fo);(try clear fw);(try clear fx);(try clear fi);(try clear ba);(try clear c21b0);(try clear c21b1);(try clear fp);(try clear fq);(try clear fs);(try clear ft);(try clear bp bq br b5 b6 b7);(try clear bs bt bu b8 b9 ca);(try clear bv bw bx cb cd ce);(try clear bz b0 b1 cf cg ch);(try clear b2 b3 b4 ci cj ck);(try clear bc bd be bf bg bh);(try clear J);(try clear X);(try clear ap);(try clear az);(try clear aq);(try clear a0)
       obtain⟨aj,ae,an,rfl,HA,dc,HO_195002,D,G,aa,HB⟩:=hrel
       cases gk with
       |zero=>exact absurd HA.out (by simp[recoupref03_Pick.l1])
       |succ k2=>
        have H:=HA.out;clear HA;simp only[recoupref03_Pick.l1]at H;by_cases bk:aj<(l1.length:Int)
        ·rw[if_pos bk]at H
         have c30b0:decide (aj<(l1.length:Int))=true:=decide_eq_true bk;clear bk;by_cases cq:0≤aj
         ·rw[if_pos cq]at H
          have c31b0:decide (0≤aj)=true:=decide_eq_true cq;clear cq;obtain⟨⟨a3,em⟩,en,H⟩:=bindO H
          (try dsimp only at H)
          by_cases cr:ae.length+a3.length<140737488355328
          ·rw[if_pos cr]at H
           have c6:=aK cr;clear cr;obtain⟨bi,a1⟩: ∃y_:List Int,y_=(ae++a3):=⟨_,rfl⟩
           replace H:(recoupref03_Pick.l1 k2 l1 (wrap64 (aj+1)) Y O Z (l1.length:Int) O bi)=some (r1,r2,r3,r4):=by first|(rw[a1];with_reducible exact H)|(have H2_:=(Option.bind_some _ _).symm.trans H;rw[a1];with_reducible exact H2_)|(have H2_:=(Option.bind_some _ _).symm.trans H;with_reducible exact H2_)|with_reducible exact H|(rw[a1];exact H)|exact H
           have c8:=aK a1;clear a1;have H':=aK H;clear H
           try go_wp2
           replace HO_195002:=aK (Kd.R_drew HO_195002.out);replace D:=aK (blk_drew D.out);replace G:=aK (blk_drew G.out);replace aa:=aK (blk_drew aa.out);replace HB:=aK (below_drew1 HB.out);have cm:0≤(aj:Int):=of_decide_eq_true asE;have cn:aj<(l1.length:Int):=of_decide_eq_true asE;obtain⟨c9,de,au⟩:=Kd.at_int bj.out aj cm cn;have ax:=au
           cases de
           replace au:=(HB.out.cell (World.block_lt_of_cell? w _ au)).trans au;replace cm:=eq_true cm;replace cn:=eq_true cn;refine start_ (n:=11) (S:=fun w'=>w'.cell? ⟨ah,0,none⟩=some (.int .i64 Y)∧w'.cell? ⟨ah,1,none⟩=some (.int .i64 O)∧w'.cell? ⟨ah,2,none⟩=some (.slice al Z.length am)∧w'.cell? (c9.add (aj).toNat)=some (.int .i64 (rd l1 aj))) (ds:= []) (.replicate 11 false) zab rfl rfl ⟨(blk_cell D.out 0).trans rfl,(blk_cell D.out 1).trans rfl,(blk_cell D.out 2).trans rfl,((HB.out.cell (World.block_lt_of_cell? w _ ax)).trans ax)⟩ (fun hHeld=>?_);refine with_tabW recoupref03_Pick.tab14 recoupref03_Pick.bits14 (fun HT_ HW_=>?_);generalize wr.drew=f2 at HO_195002 D G aa HB au hHeld⊢;refine pu 1 (some 53) (mB 11 2) HT_ ?_;refine pu 2 (some 54) (mB 11 6) HT_ ?_;refine pu 3 (some 55) (mB 11 14) HT_ ?_;refine tk4 0 (some 52) (mB 11 15) HT_ HW_ hHeld ?_;refine tk4 4 (some 56) (mB 11 31) HT_ HW_ hHeld ?_;refine zoh 5 (some 57) (mB 11 63) HT_ fun K hK=>?_;refine goes_ Tryd.func38 zab rfl #[.agg #[.int .i64 Y,.int .i64 O,.slice al Z.length am],.int .i64 (rd l1 aj)] zad rfl rfl (by(try simp only[List.map_toArray,List.map_cons,List.map_nil]);first|done|rfl|(simp only[List.length_drop,List.length_take];rfl)) ?_;with_reducible refine(recoupref03_Row.calls k2 Y O _ _ Z (rd l1 aj) a3 em _ ?side1 ?side2 en.out).mono ?_
           (case side1=>exact kcB a5 HB)
           (case side2=>exact a4.out)
           rintro e f3 ⟨fj,rfl,da,hb⟩;refine⟨_,rfl,?_⟩;have ay:=aK (Kd.R_lower (Kd.R_new' da (Kd.R_lt (kdA HO_195002.out))) (below_size (hbA HB.out)));replace HO_195002:=aK (Kd.R_elder' (kdA HO_195002.out) (Kd.R_base da) hb);replace D:=bkB D hb;replace G:=bkB G hb;replace aa:=bkB aa hb;replace HB:=hbB HB hb
           (try clear hb)
           (try clear fu)
           (try clear hk)
           (try clear hi)
           (try clear da)
           refine hK.out _ _ ⟨(blk_cell D.out 0).trans rfl,(blk_cell D.out 1).trans rfl,(blk_cell D.out 2).trans rfl,((HB.out.cell (World.block_lt_of_cell? w _ ax)).trans ax)⟩ (fun hHeld=>?_);clear hK K;refine znm (some 57) ?_;refine pu 6 (some 51) (mB 11 127) HT_ ?_;refine pu 7 (some 58) (mB 11 255) HT_ ?_;refine pu 8 (some 59) (mB 11 511) HT_ ?_;refine pu 9 (some 9) (mB 11 1023) HT_ ?_;refine pu 10 (some 10) (mB 11 2047) HT_ ?_;refine done_ (done_of HT_.out zab) ?_;have ex:=av.out;have e9:=af.out;have ey:=aw.out;have fa:=ag.out;obtain⟨dj,dk,dl,d3,d4,d5⟩:=cell3 aa;obtain⟨db,dd,df⟩:=Kd.R_slice ay.out;subst df
           try go_wp2_with (first|((with_reducible refine gate_builtin (b:= .append) (xs:= #[.tmp 61,.tmp 62]) rfl ?_);at_builtin;refine Kd.R_append_rows (Kd.int .u8) (w0:=w) w.heap.size rfl (.tmp 61) (.tmp 62) 22 5 (.int .u8 0) 1 rfl Tryd.underlying22 info5 rfl zaa zz an ae a3 _ _ _ (fun k_=>some k_≠(.slice db a3.length dd:Value).ownBlock) (fun _=>False) rfl rfl ?aO ?aR (fun _ _ h=>h) (fun _ h=>h.elim) ?aF ?aB ?aS ?aL ?_;(case aR=>exact kcA (Kd.R_reads' ay.out).2.2);(case aB=>exact(hbA HB.out));(case aF=>exact(fun k_ hk=>Kd.fresh' (Kd.R_lt (kdA ay.out)) k_ hk));(case aO=>exact(by(with_reducible repeat(first|apply Kd.R_alloc|apply Kd.R_drewN|apply Kd.R_drew));exact Kd.R_mono HO_195002.out (fun _ hk=>hk.2)));(case aS=>exact(below_size (hbA HB.out)));(case aL=>have:=c6.out;omega);intro fk f4 ho hb hg hat;rw[←c8.out]at ho;have n0_:=aK (blk_grown (g:=ah) (o:= .cells #[.int .i64 Y,.int .i64 O,.slice al Z.length am] 24 (0,0)) (bkA D.out) hg (Kd.R_ne HO_195002.out D.out zaa));have n1_:=aK (blk_grown (g:=ak) (o:= .cells #[.int .i64 U,.int .i64 L,.slice none 0 0] 24 (0,0)) (bkA G.out) hg (Kd.R_ne HO_195002.out G.out zaa));have n2_:=aK (blk_grown (g:=bb) (o:= .cells #[.int .i64 (l1.length:Int),.int .i64 O,an] 24 (0,0)) (bkA aa.out) hg (Kd.R_ne HO_195002.out aa.out zaa));have n3_:=aK (Kd.R_after (ok:=(fun _=>True)) (kdA ay.out) hg hat);have n4_:=aK (hb);have n5_:=aK (ho);clear D;clear G;clear aa;clear ay;clear HB;clear HO_195002;have D:=n0_;have G:=n1_;have aa:=n2_;have ay:=n3_;have HB:=n4_;have bl:=n5_;clear n0_ n1_ n2_ n3_ n4_ n5_;clear ho hb hg hat;obtain⟨ct,cv,dg⟩:=Kd.R_slice bl.out;subst dg;obtain⟨dm,dn,dp,d6,d7,d8⟩:=cell3 aa))
           go_roundg k2
           case measure=>have:=cp.out;have:=dc.out;omega
           case rel=>exact⟨(wrap64 (aj+1)),(bi),(.slice ct bi.length cv),rsE,H',⟨by have:=cp.out;have:=dc.out;omega⟩,⟨by(with_reducible repeat(first|apply Kd.R_alloc|apply Kd.R_drewN|apply Kd.R_drew));exact Kd.R_mono (Kd.R_far (p:=⟨bb,2,none⟩) (Kd.R_types bl.out aa.out zaa) (fun _ hk=>hk.2) (.slice ct bi.length cv)) (fun _ hk=>trivial)⟩,⟨by refine bkR ?_;refine blk_far ?_ af.out _;refine bkR ?_;exact D.out⟩,⟨by refine bkR ?_;refine blk_far ?_ ag.out _;refine bkR ?_;exact G.out⟩,⟨by refine bkR ?_;refine blk_put (cs:= #[.int .i64 (l1.length:Int),.int .i64 O,an]) ?_ 2 _ rfl;refine bkR ?_;exact aa.out⟩,⟨hbA HB.out⟩⟩
          ·rw[if_neg cr]at H
           exact absurd H zac
         ·rw[if_neg cq]at H
          exact absurd H zac
        ·rw[if_neg bk]at H
         have c30b0:decide (aj<(l1.length:Int))=false:=decide_eq_false bk;clear bk;simp only[Option.some.injEq,Prod.mk.injEq]at H;obtain⟨rfl,rfl,rfl,rfl⟩:=H;have ez:=av.out;have fb:=af.out;have e0:=aw.out;have fc:=ag.out;obtain⟨dq,dr,dt,d9,ea,eb⟩:=cell3 aa;have e1:=ac.out;have fd:=ab.out;obtain⟨du,dv,dw,ec,ed,ee⟩:=cell3 G;obtain⟨cu,cw,dh⟩:=Kd.R_slice HO_195002.out;subst dh;go_wp2;refine bodyPost_ret (results_ct rfl _ _ ak 24 #[.int .i64 (l1.length:Int),.int .i64 O,.slice cu ae.length cw] (0,0) _ rfl (by refine bkR ?_;refine blk_put (cs:= #[.int .i64 (l1.length:Int),.int .i64 O,.slice none 0 0]) ?_ 2 _ rfl;refine bkR ?_;refine blk_put (cs:= #[.int .i64 (l1.length:Int),.int .i64 L,.slice none 0 0]) ?_ 1 _ rfl;refine bkR ?_;refine blk_put (cs:= #[.int .i64 U,.int .i64 L,.slice none 0 0]) ?_ 0 _ rfl;refine bkR ?_;exact G.out) Tryd.underlying24 rfl zab) rfl ?_;exact⟨_,rfE,by(with_reducible repeat(first|apply Kd.R_alloc|apply Kd.R_drewN|apply Kd.R_drew));exact Kd.R_mono (Kd.R_far (p:=⟨ak,2,none⟩) (Kd.R_far (p:=⟨ak,1,none⟩) (Kd.R_far (p:=⟨ak,0,none⟩) (Kd.R_types HO_195002.out G.out zaa) (fun _ hk=>hk.2) (.int .i64 (l1.length:Int))) (fun _ hk=>hk.2) (.int .i64 O)) (fun _ hk=>hk.2) (.slice cu ae.length cw)) (fun _ hk=>trivial),hbA HB.out⟩
 ·replace c4:=Bool.eq_false_iff.mpr c4;subst c4;rw[if_neg nofT]at H
  simp only[Option.some.injEq,Prod.mk.injEq]at H;obtain⟨rfl,rfl,rfl,rfl⟩:=H
  go_enter Tryd.func16,Tryd.ntmps16
  go_wp2_with (first|((with_reducible refine gD 2 rfl ?_);refine bE 2 #[.int .i64 Y,.int .i64 O,.slice al Z.length am] 24 ?_;intro ah hg f5 hbox hb;have D:=aK (hbox);have cz:=hbS HB hg;have cx:=hbS HB hg;replace HB:=hbB HB hb;clear hb hbox hg)|((with_reducible refine gD 4 rfl ?_);refine bE 4 #[.int .i64 0,.int .i64 0,.slice none 0 0] 24 ?_;intro ak hg f6 hbox hb;have G:=aK (hbox);have c5:=hbS HB hg;have cy:=hbS HB hg;replace HB:=hbB HB hb;have ab:=neL D hg;have ac:=neG D hg;replace D:=bkB D hb;clear hb hbox hg;have e2:=ab.out;have fe:=ac.out;obtain⟨dx,dy,dz,ef,eg,eh⟩:=cell3 D)|((with_reducible refine gC 37 rfl ?_);refine cG (some 12) Tryd.func37 #[.agg #[.int .i64 Y,.int .i64 O,.slice al Z.length am]] ?_;(with_reducible refine(recoupref03_Right.calls Y O _ _ Z false _ ?side1 ?side2 A3.out).mono ?_);(case side1=>exact kcB a5 HB);(case side2=>exact a4.out);rintro e f7 ⟨rfl,hb⟩;refine⟨_,rfl,?_⟩;replace D:=bkB D hb;replace G:=bkB G hb;replace HB:=hbB HB hb;(try clear hb);obtain⟨d0,d1,d2,ei,ej,ek⟩:=cell3 G))
  refine bodyPost_ret (results_ct rfl _ _ ak 24 #[.int .i64 0,.int .i64 0,.slice none 0 0] (0,0) _ rfl zb8 Tryd.underlying24 rfl zab) rfl ?_;exact⟨_,rfE,nilE,hbA HB.out⟩
end Go.Proofs.YtkagobkedifhkaaDoor.Q
namespace Go.Proofs.YtkagobkedifhkaaDoor.Q
open Go.RowKit Go.Proofs.YtkagobkedifhkaaDoorW.PrintWords Go.Proofs.YtkagobkedifhkaaDoorW.PrintLast Go.Proofs.YtkagobkedifhkaaDoorW.PrintMore
attribute [local go_sem] max2_int min2_int max_two min_two max_three min_three max_four min_four
set_option linter.unusedVariables false
set_option linter.unusedSimpArgs false
def recoupref06_Has.f(a0:Int)(a1:Int):Option (Bool):=if a1≥0 then(if a1<64 then(if 0≤(IntKind.u64.wrap (a1))then(some ((Go.bits .and .u64 (shr .u64 a0 (IntKind.u64.wrap (a1))) 1)==1))else(none))else(some false))else(some false)
set_option maxHeartbeats 8000000 in
set_option maxRecDepth 100000 in
theorem recoupref06_Has.calls(a0:Int)(a1:Int)(r:Bool)(w:World)(h:recoupref06_Has.f a0 a1=some r):
 Calls Tryd.prog 26 #[.int .u64 a0,.int .i64 a1] w fun e w'=>e= .returned (.bool r)∧Drawn0 w w':=by
 have H:(if a1≥0 then(if a1<64 then(if 0≤(IntKind.u64.wrap (a1))then(some ((Go.bits .and .u64 (shr .u64 a0 (IntKind.u64.wrap (a1))) 1)==1))else(none))else(some false))else(some false))=some r:=h;clear h;by_cases c3:a1≥0
 ·rw[if_pos c3]at H
  have c3b0:decide (0≤a1)=true:=decide_eq_true c3;clear c3;by_cases c4:a1<64
  ·rw[if_pos c4]at H
   have c4b0:decide (a1<64)=true:=decide_eq_true c4;clear c4;obtain⟨G,I⟩: ∃j_:Int,(IntKind.u64.wrap (a1))=j_:=⟨_,rfl⟩
   replace H:(if 0≤(G)then(some ((Go.bits .and .u64 (shr .u64 a0 (G)) 1)==1))else(none))=some r:=by first|(rw[I]at H;exact H)|(simp only[I]at H⊢;exact H)
   by_cases c6:0≤(G)
   ·rw[if_pos c6]at H
    have c6b0:=eq_true c6;have c6b1:decide (0≤(G))=true:=decide_eq_true c6;clear c6;obtain⟨J,D⟩: ∃j_:Int,(shr .u64 a0 (G))=j_:=⟨_,rfl⟩
    replace H:(some ((Go.bits .and .u64 (J) 1)==1))=some r:=by first|(rw[D]at H;exact H)|(simp only[D]at H⊢;exact H)
    have hji7_:(a0 / 2^min (G).toNat 64)=J:=D;have hji7z:(G)≤64→(a0 / 2^(G).toNat)=J:=shr_small D;obtain rfl:=Option.some.inj H
    go_enter Tryd.func26,Tryd.ntmps26
    go_wp2
    go_ret
    exact⟨by first|rfl|(simp;done)|(simp only[←I,←D]<;>(first|rfl|simp))|(simp[*];done),by repeat(first|exact Drawn0.refl _|apply Drawn0.step)⟩
   ·rw[if_neg c6]at H
    exact absurd H zac
  ·rw[if_neg c4]at H
   have c4b0:decide (a1<64)=false:=decide_eq_false c4;clear c4;obtain rfl:=Option.some.inj H
   go_enter Tryd.func26,Tryd.ntmps26
   go_wp2
   go_ret
   exact⟨by first|rfl|(simp;done)|(simp[*];done),by repeat(first|exact Drawn0.refl _|apply Drawn0.step)⟩
 ·rw[if_neg c3]at H
  have c3b0:decide (0≤a1)=false:=decide_eq_false c3;clear c3;obtain rfl:=Option.some.inj H
  go_enter Tryd.func26,Tryd.ntmps26
  go_wp2
  go_ret
  exact⟨by first|rfl|(simp;done)|(simp[*];done),by repeat(first|exact Drawn0.refl _|apply Drawn0.step)⟩
def recoupref06_List.l0:Nat→Int→List Int→Int→Option (List Int)
 |0,_,_,_=>none
 |k+1,x0,x3,x4=>if x4<64 then((recoupref06_Has.f x0 x4).bind fun D=>(if D=true then(if x3.length<17592186044416 then(recoupref06_List.l0 k x0 (x3++ [x4]) (wrap64 (x4+1)))else(none))else(recoupref06_List.l0 k x0 x3 (wrap64 (x4+1)))))else(some x3)
def recoupref06_List.f(k:Nat)(a0:Int):Option (List Int):=recoupref06_List.l0 k a0 ([]:List Int) 0
set_option maxHeartbeats 8000000 in
set_option maxRecDepth 100000 in
theorem recoupref06_List.calls(k:Nat)(a0:Int)(r:List Int)(w:World)(h:recoupref06_List.f k a0=some r):
 Calls Tryd.prog 17 #[.int .u64 a0] w fun e w'=> ∃v0_:Value,e= .returned (v0_)∧Kd.R (Kd.int .i64) 3 w' w.heap.size (fun _=>True) v0_ r∧Below w.heap.size w w':=by
 have HB:=aK (Below.refl w.heap.size w);have H:(recoupref06_List.l0 k a0 ([]:List Int) 0)=some r:=h;clear h;have H':=aK H;clear H
 go_enter Tryd.func17,Tryd.ntmps17
 go_wp2
 go_loopg [3,4] k (fun kq v3 v4 w'=> ∃(I:List Int) (D:Int),v4= .int .i64 D∧Aside0 (recoupref06_List.l0 kq a0 I D=some r)∧Aside0 (kq≤k)∧Aside0 (Kd.R (Kd.int .i64) 3 w' w.heap.size (fun _=>True) v3 I)∧Aside0 (Below w.heap.size w w'))
 case atStart=>exact⟨(([]:List Int)),(0),rsE,H',⟨Nat.le_refl _⟩,⟨nilE⟩,⟨hbA HB.out⟩⟩
 case round=>
  clear H'
  (try clear c1)
  obtain⟨I,D,rfl,HA,J,HO_3,HB⟩:=hrel
  cases gk with
  |zero=>exact absurd HA.out (by simp[recoupref06_List.l0])
  |succ k1=>
   have H:=HA.out;clear HA;simp only[recoupref06_List.l0]at H;by_cases c2:D<64
   ·rw[if_pos c2]at H
    have c2b0:decide (D<64)=true:=decide_eq_true c2;clear c2;obtain⟨Y,A3,H⟩:=bindO H
    (try dsimp only at H)
    by_cases c4:Y=true
    ·subst c4;rw[if_pos rfl]at H
     by_cases c5:I.length<17592186044416
     ·rw[if_pos c5]at H
      have X:=aK c5;clear c5;obtain⟨L,G⟩: ∃y_:List Int,y_=(I++ [D]):=⟨_,rfl⟩
      replace H:(recoupref06_List.l0 k1 a0 L (wrap64 (D+1)))=some r:=by first|(rw[G];with_reducible exact H)|(have H2_:=(Option.bind_some _ _).symm.trans H;rw[G];with_reducible exact H2_)|(have H2_:=(Option.bind_some _ _).symm.trans H;with_reducible exact H2_)|with_reducible exact H|(rw[G];exact H)|exact H
      have U:=aK G;clear G;have H':=aK H;clear H
      go_wp2_with (first|((with_reducible refine gC 26 rfl ?_);refine cG (some 11) Tryd.func26 #[.int .u64 a0,.int .i64 D] ?_;(with_reducible refine(recoupref06_Has.calls a0 D true _ A3.out).mono ?_);rintro e w' ⟨rfl,⟨nd,rfl⟩⟩;refine⟨_,rfl,?_⟩)|((with_reducible refine gate_builtin (b:= .append) (xs:= #[.tmp 12,.tmp 14]) rfl ?_);at_builtin;refine Kd.R_append (Kd.int .i64) (w0:=w) w.heap.size rfl (.tmp 12) (.tmp 14) 42 3 (.int .i64 0) 8 rfl Tryd.underlying42 info3 rfl zaa zz u3 I D [.int .i64 D] (fun _=>True) (fun _=>False) rfl rfl ?aP (fun _ hk=>hk.elim) ?aF ?aO ?aB ?aS ?aL ?_;(case aP=>exact rfl);(case aB=>exact(hbA HB.out));(case aF=>exact(fun _ _=>trivial));(case aO=>exact(kdA HO_3.out));(case aS=>exact(below_size (hbA HB.out)));(case aL=>have:=X.out;omega);intro Z w6 ho hb hg hat;rw[←U.out]at ho;have n0_:=aK (hb);have n1_:=aK (ho);clear HB;clear HO_3;have HB:=n0_;have O:=n1_;clear n0_ n1_;clear ho hb hg hat))
      go_roundg k1
      case measure=>have:=J.out;omega
      case rel=>exact⟨(L),(wrap64 (D+1)),rsE,H',⟨by have:=J.out;omega⟩,⟨kdA O.out⟩,⟨hbA HB.out⟩⟩
     ·rw[if_neg c5]at H
      exact absurd H zac
    ·replace c4:=Bool.eq_false_iff.mpr c4;subst c4;rw[if_neg nofT]at H
     have H':=aK H;clear H
     go_wp2_with (first|((with_reducible refine gC 26 rfl ?_);refine cG (some 11) Tryd.func26 #[.int .u64 a0,.int .i64 D] ?_;(with_reducible refine(recoupref06_Has.calls a0 D false _ A3.out).mono ?_);rintro e w' ⟨rfl,⟨nd,rfl⟩⟩;refine⟨_,rfl,?_⟩))
     go_roundg k1
     case measure=>have:=J.out;omega
     case rel=>exact⟨(I),(wrap64 (D+1)),rsE,H',⟨by have:=J.out;omega⟩,⟨kdA HO_3.out⟩,⟨hbA HB.out⟩⟩
   ·rw[if_neg c2]at H
    have c2b0:decide (D<64)=false:=decide_eq_false c2;clear c2;obtain rfl:=Option.some.inj H;go_wp2
    go_ret
    exact⟨_,rfE,by(with_reducible repeat(first|apply Kd.R_alloc|apply Kd.R_drewN|apply Kd.R_drew));exact HO_3.out,hbA HB.out⟩
def recoupref01_Copy.f(l0:List Int):Option (List Int):=(some (([]:List Int):List Int)).bind fun D=>(if D.length+l0.length<140737488355328 then(some (D++l0))else(none))
set_option maxHeartbeats 8000000 in
set_option maxRecDepth 100000 in
theorem recoupref01_Copy.calls(A0:Option Addr)(c0:Nat)(l0:List Int)(r:List Int)(w:World)(aa:Kd.C (Kd.int .u8) w A0 l0.length l0)(Z:l0.length≤c0)(h:recoupref01_Copy.f l0=some r):
 Calls Tryd.prog 50 #[.slice A0 l0.length c0] w fun e w'=> ∃v0_:Value,e= .returned (v0_)∧Kd.R (Kd.int .u8) 5 w' w.heap.size (fun _=>True) v0_ r∧Below w.heap.size w w':=by
 have ae:=aK aa;have ag:=aK Z;clear aa Z;have HB:=aK (Below.refl w.heap.size w);have H:((some (([]:List Int):List Int)).bind fun D=>(if D.length+l0.length<140737488355328 then(some (D++l0))else(none)))=some r:=h;clear h;obtain⟨D,G⟩: ∃y_:List Int,y_=(([]:List Int)):=⟨_,rfl⟩
 replace H:(if D.length+l0.length<140737488355328 then(some (D++l0))else(none))=some r:=by first|(rw[G];with_reducible exact H)|(have H2_:=(Option.bind_some _ _).symm.trans H;rw[G];with_reducible exact H2_)|(have H2_:=(Option.bind_some _ _).symm.trans H;with_reducible exact H2_)|with_reducible exact H|(rw[G];exact H)|exact H
 have L:=aK G;clear G;by_cases c2:D.length+l0.length<140737488355328
 ·rw[if_pos c2]at H
  have Y:=aK c2;clear c2;obtain⟨ac,I⟩: ∃y_:List Int,y_=(D++l0):=⟨_,rfl⟩
  replace H:(some ac)=some r:=by first|(rw[I];with_reducible exact H)|(have H2_:=(Option.bind_some _ _).symm.trans H;rw[I];with_reducible exact H2_)|(have H2_:=(Option.bind_some _ _).symm.trans H;with_reducible exact H2_)|with_reducible exact H|(rw[I];exact H)|exact H
  have X:=aK I;clear I;obtain rfl:=Option.some.inj H
  go_enter Tryd.func50,Tryd.ntmps50
  go_wp2_with (first|((with_reducible refine gate_dst (N:=3) rfl ?_);refine Kd.R_lit (Kd.int .u8) _ 5 ?hg (N:=3) ?hd (xs:=([]:List Int)) (inner:= []) (ok:=fun _=>True) (okp:=fun _=>True) ?hr ?hp (fun _ hk=>hk) trivial (Below.refl _ _) (Nat.le_refl _) zac ?_;(case hd=>rfl);(case hg=>rfl);(case hr=>first|(go_simp;done)|(go_simp;rfl));(case hp=>exact(Reps.none _ _));intro ab w3 O hb hg_ hnew_;clear hg_ hnew_;(first|rw[←L.out]at O|(simp only[Int.reduceToNat]at O;rw[←L.out]at O));have J:=aK (Kd.R_lower O (below_size (hbA HB.out)));replace HB:=hbB HB hb;clear hb O)|((with_reducible refine gate_builtin (b:= .append) (xs:= #[.tmp 3,.tmp 4]) rfl ?_);at_builtin;refine Kd.R_append_rows (Kd.int .u8) (w0:=w) w.heap.size rfl (.tmp 3) (.tmp 4) 22 5 (.int .u8 0) 1 rfl Tryd.underlying22 info5 rfl zaa zz ab D l0 _ _ _ (fun _=>True) (fun _=>False) rfl rfl ?aO ?aR (fun _ _ h=>h) (fun _ h=>h.elim) ?aF ?aB ?aS ?aL ?_;(case aR=>exact kcB ae HB);(case aB=>exact(hbA HB.out));(case aF=>exact(fun _ _=>trivial));(case aO=>exact(kdA J.out));(case aS=>exact(below_size (hbA HB.out)));(case aL=>have:=Y.out;omega);intro af w5 ho hb hg hat;rw[←X.out]at ho;have n0_:=aK (hb);have n1_:=aK (ho);clear HB;clear J;have HB:=n0_;have U:=n1_;clear n0_ n1_;clear ho hb hg hat))
  go_ret
  exact⟨_,rfE,by(with_reducible repeat(first|apply Kd.R_alloc|apply Kd.R_drewN|apply Kd.R_drew));exact U.out,hbA HB.out⟩
 ·rw[if_neg c2]at H
  exact absurd H zac
def recoupref03_Copy.f(D:Int)(G:Int)(I:List Int):Option (Int×Int×List Int):=(recoupref01_Copy.f I).bind fun J=>(some (D,G,J))
set_option maxHeartbeats 8000000 in
set_option maxRecDepth 100000 in
theorem recoupref03_Copy.calls(I:Int)(O:Int)(Z:Option Addr)(aa:Nat)(G:List Int)(r1:Int)(r2:Int)(r3:List Int)(w:World)(ae:Kd.C (Kd.int .u8) w Z G.length G)(ac:G.length≤aa)(h:recoupref03_Copy.f I O G=some (r1,r2,r3)):
 Calls Tryd.prog 28 #[.agg #[.int .i64 I,.int .i64 O,.slice Z G.length aa]] w fun e w'=> ∃v2_:Value,e= .returned (.agg #[.int .i64 r1,.int .i64 r2,v2_])∧Kd.R (Kd.int .u8) 5 w' w.heap.size (fun _=>True) v2_ r3∧Below w.heap.size w w':=by
 have bc:=Tryd.underlying24;have ah:=aK ae;have ag:=aK ac;clear ae ac;have HB:=aK (Below.refl w.heap.size w);have H:((recoupref01_Copy.f G).bind fun U=>(some (I,O,U)))=some (r1,r2,r3):=h;clear h;obtain⟨U,A2,H⟩:=bindO H
 (try dsimp only at H)
 simp only[Option.some.injEq,Prod.mk.injEq]at H;obtain⟨rfl,rfl,rfl⟩:=H
 go_enter Tryd.func28,Tryd.ntmps28
 go_wp2_with (first|((with_reducible refine gD 1 rfl ?_);refine bE 1 #[.int .i64 I,.int .i64 O,.slice Z G.length aa] 24 ?_;intro aj hg w3 hbox hb;have D:=aK (hbox);have a7:=hbS HB hg;have a5:=hbS HB hg;replace HB:=hbB HB hb;clear hb hbox hg)|((with_reducible refine gD 2 rfl ?_);refine bE 2 #[.int .i64 0,.int .i64 0,.slice none 0 0] 24 ?_;intro X hg w4 hbox hb;have J:=aK (hbox);have a8:=hbS HB hg;have a6:=hbS HB hg;replace HB:=hbB HB hb;have Y:=neL D hg;have L:=neG D hg;replace D:=bkB D hb;clear hb hbox hg;have ba:=Y.out;have bb:=L.out;obtain⟨ar,au,av,az,a0,a1⟩:=cell3 D)|((with_reducible refine gC 50 rfl ?_);refine cG (some 5) Tryd.func50 #[.slice Z G.length aa] ?_;(with_reducible refine(recoupref01_Copy.calls _ _ G U _ ?side1 ?side2 A2.out).mono ?_);(case side1=>exact kcB ah HB);(case side2=>exact ag.out);rintro e w7 ⟨bd,rfl,aq,hb⟩;refine⟨_,rfl,?_⟩;have ab:=aK (Kd.R_lower aq (below_size (hbA HB.out)));replace D:=bkB D hb;replace J:=bkB J hb;replace HB:=hbB HB hb;(try clear hb);(try clear aq);obtain⟨af,ai,a9⟩:=Kd.R_slice ab.out;subst a9;obtain⟨aw,ax,ay,a2,a3,a4⟩:=cell3 D;obtain⟨ak,al,am,an,ao,ap⟩:=cell3 J))
 refine bodyPost_ret (results_cell_row rfl _ _ X 24 #[.int .i64 I,.int .i64 O,.slice af U.length ai] (0,0) _ rfl (by refine bkR ?_;refine blk_put (cs:= #[.int .i64 I,.int .i64 O,.slice none 0 0]) ?_ 2 _ rfl;refine bkR ?_;refine blk_put (cs:= #[.int .i64 I,.int .i64 0,.slice none 0 0]) ?_ 1 _ rfl;refine bkR ?_;refine blk_put (cs:= #[.int .i64 0,.int .i64 0,.slice none 0 0]) ?_ 0 _ rfl;refine bkR ?_;refine blk_far ?_ L.out _;refine bkR ?_;exact J.out) Tryd.underlying24 rfl zab) rfl ?_;exact⟨_,rfE,by(with_reducible repeat(first|apply Kd.R_alloc|apply Kd.R_drewN|apply Kd.R_drew));exact Kd.R_mono (Kd.R_far (p:=⟨X,2,none⟩) (Kd.R_far (p:=⟨X,1,none⟩) (Kd.R_far (p:=⟨X,0,none⟩) (Kd.R_far (p:=⟨aj,2,none⟩) (Kd.R_types (Kd.R_types ab.out D.out zaa) J.out zaa) (fun _ hk=>hk.1.2) (.slice af U.length ai)) (fun _ hk=>hk.2) (.int .i64 I)) (fun _ hk=>hk.2) (.int .i64 O)) (fun _ hk=>hk.2) (.slice af U.length ai)) (fun _ hk=>trivial),hbA HB.out⟩
mutual
def recoupref01_Mul.l0:Nat→Int→Int→Int→Int→Option (Int)
 |0,_,_,_,_=>none
 |k+1,x0,x1,x5,x6=>if x6<8 then(if 0≤(IntKind.u64.wrap (x6))then(if(Go.bits .and .u8 (shr .u8 x1 (IntKind.u64.wrap (x6))) 1)=1 then(recoupref01_Mul.l0 k x0 x1 (Go.bits .xor .i64 x5 (shl .i64 (wrap64 (x0)) (IntKind.u64.wrap (x6)))) (wrap64 (x6+1)))else(recoupref01_Mul.l0 k x0 x1 x5 (wrap64 (x6+1))))else(none))else(recoupref01_Mul.l1 k x5 14)
def recoupref01_Mul.l1:Nat→Int→Int→Option (Int)
 |0,_,_=>none
 |k+1,x5,x7=>if x7≥8 then(if 0≤(IntKind.u64.wrap (x7))then(if(Go.bits .and .i64 (shr .i64 x5 (IntKind.u64.wrap (x7))) 1)=1 then(if 0≤(IntKind.u64.wrap (wrap64 (x7-8)))then(recoupref01_Mul.l1 k (Go.bits .xor .i64 x5 (shl .i64 285 (IntKind.u64.wrap (wrap64 (x7-8))))) (wrap64 (x7-1)))else(none))else(recoupref01_Mul.l1 k x5 (wrap64 (x7-1))))else(none))else(some ((x5) % 256))
end
def recoupref01_Mul.f(k:Nat)(a0:Int)(a1:Int):Option (Int):=recoupref01_Mul.l0 k a0 a1 0 0
set_option maxHeartbeats 8000000 in
set_option maxRecDepth 100000 in
theorem recoupref01_Mul.calls(k:Nat)(a0:Int)(a1:Int)(r:Int)(w:World)(h:recoupref01_Mul.f k a0 a1=some r):
 Calls Tryd.prog 62 #[.int .u8 a0,.int .u8 a1] w fun e w'=>e= .returned (.int .u8 r)∧Drawn0 w w':=by
 have H:(recoupref01_Mul.l0 k a0 a1 0 0)=some r:=h;clear h;have H':=aK H;clear H
 go_enter Tryd.func62,Tryd.ntmps62
 go_wp2
 go_loopg [5,6] k (fun kq v5 v6 w'=> ∃(O:Int) (I:Int),v5= .int .i64 O∧v6= .int .i64 I∧Aside0 (recoupref01_Mul.l0 kq a0 a1 O I=some r)∧Aside0 (kq≤k)∧Drawn0 w w')
 case atStart=>exact⟨(0),(0),rsE,rsE,H',⟨Nat.le_refl _⟩,by repeat(first|exact Drawn0.refl _|apply Drawn0.step)⟩
 case round=>
  clear H'
  (try clear p2)
  obtain⟨O,I,rfl,rfl,HA,ab,⟨m1,rfl⟩⟩:=hrel
  cases gk with
  |zero=>exact absurd HA.out (by simp[recoupref01_Mul.l0])
  |succ k1=>
   have H:=HA.out;clear HA;simp only[recoupref01_Mul.l0]at H;by_cases c3:I<8
   ·rw[if_pos c3]at H
    have c3b0:decide (I<8)=true:=decide_eq_true c3;clear c3;obtain⟨J,ao⟩: ∃j_:Int,(IntKind.u64.wrap (I))=j_:=⟨_,rfl⟩
    replace H:(if 0≤(J)then(if(Go.bits .and .u8 (shr .u8 a1 (J)) 1)=1 then(recoupref01_Mul.l0 k1 a0 a1 (Go.bits .xor .i64 O (shl .i64 (wrap64 (a0)) (J))) (wrap64 (I+1)))else(recoupref01_Mul.l0 k1 a0 a1 O (wrap64 (I+1))))else(none))=some r:=by first|(rw[ao]at H;exact H)|(simp only[ao]at H⊢;exact H)
    by_cases c5:0≤(J)
    ·rw[if_pos c5]at H
     have c5b0:=eq_true c5;have c5b1:decide (0≤(J))=true:=decide_eq_true c5;clear c5;obtain⟨ae,ag⟩: ∃j_:Int,(shr .u8 a1 (J))=j_:=⟨_,rfl⟩
     replace H:(if(Go.bits .and .u8 (ae) 1)=1 then(recoupref01_Mul.l0 k1 a0 a1 (Go.bits .xor .i64 O (shl .i64 (wrap64 (a0)) (J))) (wrap64 (I+1)))else(recoupref01_Mul.l0 k1 a0 a1 O (wrap64 (I+1))))=some r:=by first|(rw[ag]at H;exact H)|(simp only[ag]at H⊢;exact H)
     have hji6_:(a1 / 2^min (J).toNat 8)=ae:=ag;have hji6z:(J)≤8→(a1 / 2^(J).toNat)=ae:=shr_small ag;by_cases c7:(Go.bits .and .u8 (ae) 1)=1
     ·rw[if_pos c7]at H
      have c7b0:((Go.bits .and .u8 (ae) 1)==1)=true:=beq_iff_eq.mpr c7;have c7b1:((Go.bits .and .u8 (ae) 1)!=1)=false:=bne_eq_false_iff_eq.mpr c7;clear c7;have c8b0:=eq_true (of_decide_eq_true asE:0≤(J));obtain⟨ai,ac⟩: ∃j_:Int,(shl .i64 (wrap64 (a0)) (J))=j_:=⟨_,rfl⟩
      replace H:(recoupref01_Mul.l0 k1 a0 a1 (Go.bits .xor .i64 O (ai)) (wrap64 (I+1)))=some r:=by first|(rw[ac]at H;exact H)|(simp only[ac]at H⊢;exact H)
      have hji9_:(IntKind.i64.wrap ((wrap64 (a0))*2^min (J).toNat 64))=ai:=ac;have hji9z:(J)≤64→(IntKind.i64.wrap ((wrap64 (a0))*2^(J).toNat))=ai:=shl_small ac;have hji9y:(wrap64 ((wrap64 (a0))*2^min (J).toNat 64))=ai:=(i64_w _).symm.trans hji9_;have hji9x:(J)≤64→(wrap64 ((wrap64 (a0))*2^(J).toNat))=ai:=fun h_=>(i64_w _).symm.trans (hji9z h_);have H':=aK H;clear H;go_wp2
      go_roundg k1
      case measure=>have:=ab.out;omega
      case rel=>exact⟨(Go.bits .xor .i64 O (ai)),(wrap64 (I+1)),(by first|rfl|(simp;done)|(simp only[←ac]<;>(first|rfl|simp))|(simp[*];done)),rsE,H',⟨by have:=ab.out;omega⟩,by repeat(first|exact Drawn0.refl _|apply Drawn0.step)⟩
     ·rw[if_neg c7]at H
      have c7b0:((Go.bits .and .u8 (ae) 1)==1)=false:=beq_eq_false_iff_ne.mpr c7;have c7b1:((Go.bits .and .u8 (ae) 1)!=1)=true:=bne_iff_ne.mpr c7;have H':=aK H;clear H;go_wp2
      go_roundg k1
      case measure=>have:=ab.out;omega
      case rel=>exact⟨(O),(wrap64 (I+1)),rsE,rsE,H',⟨by have:=ab.out;omega⟩,by repeat(first|exact Drawn0.refl _|apply Drawn0.step)⟩
    ·rw[if_neg c5]at H
     exact absurd H zac
   ·rw[if_neg c3]at H
    have c3b0:decide (I<8)=false:=decide_eq_false c3;clear c3;have H':=aK H;clear H;go_wp2
    go_loopg [5,7] k1 (fun kq v5 v7 w'=> ∃(G:Int) (D:Int),v5= .int .i64 G∧v7= .int .i64 D∧Aside0 (recoupref01_Mul.l1 kq G D=some r)∧Aside0 (kq≤k1)∧Drawn0 w w')
    case atStart=>exact⟨(O),(14),rsE,rsE,H',⟨Nat.le_refl _⟩,by repeat(first|exact Drawn0.refl _|apply Drawn0.step)⟩
    case round=>
     clear H'
     (try clear p2 p2);(try clear c3);(try clear c3b0);(try clear c5);(try clear c5b0);(try clear c5b1);(try clear c6);(try clear p6);(try clear c7);(try clear c7b0);(try clear c7b1);(try clear c8);(try clear c8b0)
     obtain⟨G,D,rfl,rfl,HA,an,⟨m2,rfl⟩⟩:=hrel
     cases gk with
     |zero=>exact absurd HA.out (by simp[recoupref01_Mul.l1])
     |succ k2=>
      have H:=HA.out;clear HA;simp only[recoupref01_Mul.l1]at H;by_cases ah:D≥8
      ·rw[if_pos ah]at H
       have c10b0:decide (8≤D)=true:=decide_eq_true ah;clear ah;obtain⟨U,al⟩: ∃j_:Int,(IntKind.u64.wrap (D))=j_:=⟨_,rfl⟩
       replace H:(if 0≤(U)then(if(Go.bits .and .i64 (shr .i64 G (U)) 1)=1 then(if 0≤(IntKind.u64.wrap (wrap64 (D-8)))then(recoupref01_Mul.l1 k2 (Go.bits .xor .i64 G (shl .i64 285 (IntKind.u64.wrap (wrap64 (D-8))))) (wrap64 (D-1)))else(none))else(recoupref01_Mul.l1 k2 G (wrap64 (D-1))))else(none))=some r:=by first|(rw[al]at H;exact H)|(simp only[al]at H⊢;exact H)
       by_cases aj:0≤(U)
       ·rw[if_pos aj]at H
        have c12b0:=eq_true aj;have c12b1:decide (0≤(U))=true:=decide_eq_true aj;clear aj;obtain⟨X,aa⟩: ∃j_:Int,(shr .i64 G (U))=j_:=⟨_,rfl⟩
        replace H:(if(Go.bits .and .i64 (X) 1)=1 then(if 0≤(IntKind.u64.wrap (wrap64 (D-8)))then(recoupref01_Mul.l1 k2 (Go.bits .xor .i64 G (shl .i64 285 (IntKind.u64.wrap (wrap64 (D-8))))) (wrap64 (D-1)))else(none))else(recoupref01_Mul.l1 k2 G (wrap64 (D-1))))=some r:=by first|(rw[aa]at H;exact H)|(simp only[aa]at H⊢;exact H)
        have hji13_:(G / 2^min (U).toNat 64)=X:=aa;have hji13z:(U)≤64→(G / 2^(U).toNat)=X:=shr_small aa;by_cases af:(Go.bits .and .i64 (X) 1)=1
        ·rw[if_pos af]at H
         have c14b0:((Go.bits .and .i64 (X) 1)==1)=true:=beq_iff_eq.mpr af;have c14b1:((Go.bits .and .i64 (X) 1)!=1)=false:=bne_eq_false_iff_eq.mpr af;clear af;obtain⟨L,am⟩: ∃j_:Int,(IntKind.u64.wrap (wrap64 (D-8)))=j_:=⟨_,rfl⟩
         replace H:(if 0≤(L)then(recoupref01_Mul.l1 k2 (Go.bits .xor .i64 G (shl .i64 285 (L))) (wrap64 (D-1)))else(none))=some r:=by first|(rw[am]at H;exact H)|(simp only[am]at H⊢;exact H)
         by_cases ak:0≤(L)
         ·rw[if_pos ak]at H
          have c16b0:=eq_true ak;have c16b1:decide (0≤(L))=true:=decide_eq_true ak;clear ak;obtain⟨Z,Y⟩: ∃j_:Int,(shl .i64 285 (L))=j_:=⟨_,rfl⟩
          replace H:(recoupref01_Mul.l1 k2 (Go.bits .xor .i64 G (Z)) (wrap64 (D-1)))=some r:=by first|(rw[Y]at H;exact H)|(simp only[Y]at H⊢;exact H)
          have hji17_:(IntKind.i64.wrap (285*2^min (L).toNat 64))=Z:=Y;have hji17z:(L)≤64→(IntKind.i64.wrap (285*2^(L).toNat))=Z:=shl_small Y;have hji17y:(wrap64 (285*2^min (L).toNat 64))=Z:=(i64_w _).symm.trans hji17_;have hji17x:(L)≤64→(wrap64 (285*2^(L).toNat))=Z:=fun h_=>(i64_w _).symm.trans (hji17z h_);have H':=aK H;clear H;go_wp2
          go_roundg k2
          case measure=>have:=ab.out;have:=an.out;omega
          case rel=>exact⟨(Go.bits .xor .i64 G (Z)),(wrap64 (D-1)),(by first|rfl|(simp;done)|(simp only[←Y]<;>(first|rfl|simp))|(simp[*];done)),rsE,H',⟨by have:=ab.out;have:=an.out;omega⟩,by repeat(first|exact Drawn0.refl _|apply Drawn0.step)⟩
         ·rw[if_neg ak]at H
          exact absurd H zac
        ·rw[if_neg af]at H
         have c14b0:((Go.bits .and .i64 (X) 1)==1)=false:=beq_eq_false_iff_ne.mpr af;have c14b1:((Go.bits .and .i64 (X) 1)!=1)=true:=bne_iff_ne.mpr af;have H':=aK H;clear H;go_wp2
         go_roundg k2
         case measure=>have:=ab.out;have:=an.out;omega
         case rel=>exact⟨(G),(wrap64 (D-1)),rsE,rsE,H',⟨by have:=ab.out;have:=an.out;omega⟩,by repeat(first|exact Drawn0.refl _|apply Drawn0.step)⟩
       ·rw[if_neg aj]at H
        exact absurd H zac
      ·rw[if_neg ah]at H
       have c10b0:decide (8≤D)=false:=decide_eq_false ah;clear ah;obtain rfl:=Option.some.inj H;go_wp2
       go_ret
       exact⟨by first|rfl|(simp;done)|(simp[*];done),by repeat(first|exact Drawn0.refl _|apply Drawn0.step)⟩
end Go.Proofs.YtkagobkedifhkaaDoor.Q
namespace Go.Proofs.YtkagobkedifhkaaDoor.Q
open Go.RowKit Go.Proofs.YtkagobkedifhkaaDoorW.PrintWords Go.Proofs.YtkagobkedifhkaaDoorW.PrintLast Go.Proofs.YtkagobkedifhkaaDoorW.PrintMore
attribute [local go_sem] max2_int min2_int max_two min_two max_three min_three max_four min_four
set_option linter.unusedVariables false
set_option linter.unusedSimpArgs false
def recoupref01_Inv.l0:Nat→Int→Int→Option (Int×Int)
 |0,_,_=>none
 |k+1,x0,x4=>if x4<256 then((recoupref01_Mul.f k x0 ((x4) % 256)).bind fun D=>(if D=1 then(some ((x4) % 256,0))else(recoupref01_Inv.l0 k x0 (wrap64 (x4+1)))))else(some (0,5))
def recoupref01_Inv.f(k:Nat)(a0:Int):Option (Int×Int):=recoupref01_Inv.l0 k a0 1
set_option maxHeartbeats 8000000 in
set_option maxRecDepth 100000 in
theorem recoupref01_Inv.calls(k:Nat)(a0:Int)(r1:Int)(r2:Int)(w:World)(h:recoupref01_Inv.f k a0=some (r1,r2)):
 Calls Tryd.prog 60 #[.int .u8 a0] w fun e w'=>e= .returned (.tuple #[.int .u8 r1,.int .i64 r2])∧Drawn0 w w':=by
 have H:(recoupref01_Inv.l0 k a0 1)=some (r1,r2):=h;clear h;have H':=aK H;clear H
 go_enter Tryd.func60,Tryd.ntmps60
 go_wp2
 go_loopg [4] k (fun kq v4 w'=> ∃(D:Int),v4= .int .i64 D∧Aside0 (recoupref01_Inv.l0 kq a0 D=some (r1,r2))∧Aside0 (kq≤k)∧Drawn0 w w')
 case atStart=>exact⟨(1),rsE,H',⟨Nat.le_refl _⟩,by repeat(first|exact Drawn0.refl _|apply Drawn0.step)⟩
 case round=>
  clear H';obtain⟨D,rfl,HA,I,⟨m1,rfl⟩⟩:=hrel
  cases gk with
  |zero=>exact absurd HA.out (by simp[recoupref01_Inv.l0])
  |succ k1=>
   have H:=HA.out;clear HA;simp only[recoupref01_Inv.l0]at H;by_cases c2:D<256
   ·rw[if_pos c2]at H
    have c2b0:decide (D<256)=true:=decide_eq_true c2;clear c2;obtain⟨G,A3,H⟩:=bindO H
    (try dsimp only at H)
    by_cases c4:G=1
    ·rw[if_pos c4]at H
     have c4b0:(G==1)=true:=beq_iff_eq.mpr c4;have c4b1:(G !=1)=false:=bne_eq_false_iff_eq.mpr c4;clear c4;simp only[Option.some.injEq,Prod.mk.injEq]at H;obtain⟨rfl,rfl⟩:=H
     go_wp2_with (first|((with_reducible refine gC 62 rfl ?_);refine cG (some 12) Tryd.func62 #[.int .u8 a0,.int .u8 ((D) % 256)] ?_;(with_reducible refine(recoupref01_Mul.calls k1 a0 ((D) % 256) G _ A3.out).mono ?_);rintro e w' ⟨rfl,⟨nd,rfl⟩⟩;refine⟨_,rfl,?_⟩))
     go_ret2
     exact⟨by first|rfl|(simp;done)|(simp[*];done),by repeat(first|exact Drawn0.refl _|apply Drawn0.step)⟩
    ·rw[if_neg c4]at H
     have c4b0:(G==1)=false:=beq_eq_false_iff_ne.mpr c4;have c4b1:(G !=1)=true:=bne_iff_ne.mpr c4;have H':=aK H;clear H
     go_wp2_with (first|((with_reducible refine gC 62 rfl ?_);refine cG (some 12) Tryd.func62 #[.int .u8 a0,.int .u8 ((D) % 256)] ?_;(with_reducible refine(recoupref01_Mul.calls k1 a0 ((D) % 256) G _ A3.out).mono ?_);rintro e w' ⟨rfl,⟨nd,rfl⟩⟩;refine⟨_,rfl,?_⟩))
     go_roundg k1
     case measure=>have:=I.out;omega
     case rel=>exact⟨(wrap64 (D+1)),rsE,H',⟨by have:=I.out;omega⟩,by repeat(first|exact Drawn0.refl _|apply Drawn0.step)⟩
   ·rw[if_neg c2]at H
    have c2b0:decide (D<256)=false:=decide_eq_false c2;clear c2;simp only[Option.some.injEq,Prod.mk.injEq]at H;obtain⟨rfl,rfl⟩:=H;go_wp2
    go_ret2
    exact⟨by first|rfl|(simp;done)|(simp[*];done),by repeat(first|exact Drawn0.refl _|apply Drawn0.step)⟩
def recoupref01_Scale.l0:Nat→Int→List Int→List Int→Int→Option (List Int)
 |0,_,_,_,_=>none
 |k+1,x0,x1,x5,x6=>if x6<(x1.length:Int)then(if 0≤x6 then((recoupref01_Mul.f k x0 (rd x1 x6)).bind fun D=>(if x5.length<140737488355328 then(recoupref01_Scale.l0 k x0 x1 (x5++ [D]) (wrap64 (x6+1)))else(none)))else(none))else(some x5)
def recoupref01_Scale.f(k:Nat)(a0:Int)(l1:List Int):Option (List Int):=recoupref01_Scale.l0 k a0 l1 ([]:List Int) 0
set_option maxHeartbeats 8000000 in
set_option maxRecDepth 100000 in
theorem recoupref01_Scale.calls(k:Nat)(a0:Int)(A1:Option Addr)(c1:Nat)(l1:List Int)(r:List Int)(w:World)(af:Kd.C (Kd.int .u8) w A1 l1.length l1)(ae:l1.length≤c1)(h:recoupref01_Scale.f k a0 l1=some r):
 Calls Tryd.prog 61 #[.int .u8 a0,.slice A1 l1.length c1] w fun e w'=> ∃v0_:Value,e= .returned (v0_)∧Kd.R (Kd.int .u8) 5 w' w.heap.size (fun _=>True) v0_ r∧Below w.heap.size w w':=by
 have ag:=aK af;have aj:=aK ae;clear af ae;have HB:=aK (Below.refl w.heap.size w);have H:(recoupref01_Scale.l0 k a0 l1 ([]:List Int) 0)=some r:=h;clear h;have H':=aK H;clear H
 go_enter Tryd.func61,Tryd.ntmps61
 go_wp2
 go_loopg [5,6] k (fun kq v5 v6 w'=> ∃(J:List Int) (D:Int),v6= .int .i64 D∧Aside0 (recoupref01_Scale.l0 kq a0 l1 J D=some r)∧Aside0 (kq≤k)∧Aside0 (Kd.R (Kd.int .u8) 5 w' w.heap.size (fun _=>True) v5 J)∧Aside0 (Below w.heap.size w w'))
 case atStart=>exact⟨(([]:List Int)),(0),rsE,H',⟨Nat.le_refl _⟩,⟨nilE⟩,⟨hbA HB.out⟩⟩
 case round=>
  clear H'
  (try clear c1);(try clear p2)
  obtain⟨J,D,rfl,HA,aa,HO_5,HB⟩:=hrel
  cases gk with
  |zero=>exact absurd HA.out (by simp[recoupref01_Scale.l0])
  |succ k1=>
   have H:=HA.out;clear HA;simp only[recoupref01_Scale.l0]at H;by_cases c3:D<(l1.length:Int)
   ·rw[if_pos c3]at H
    have c3b0:decide (D<(l1.length:Int))=true:=decide_eq_true c3;clear c3;by_cases c4:0≤D
    ·rw[if_pos c4]at H
     have c4b0:decide (0≤D)=true:=decide_eq_true c4;clear c4;obtain⟨L,A5,H⟩:=bindO H
     (try dsimp only at H)
     by_cases c6:J.length<140737488355328
     ·rw[if_pos c6]at H
      have ab:=aK c6;clear c6;obtain⟨X,I⟩: ∃y_:List Int,y_=(J++ [L]):=⟨_,rfl⟩
      replace H:(recoupref01_Scale.l0 k1 a0 l1 X (wrap64 (D+1)))=some r:=by first|(rw[I];with_reducible exact H)|(have H2_:=(Option.bind_some _ _).symm.trans H;rw[I];with_reducible exact H2_)|(have H2_:=(Option.bind_some _ _).symm.trans H;with_reducible exact H2_)|with_reducible exact H|(rw[I];exact H)|exact H
      have Z:=aK I;clear I;have H':=aK H;clear H;have O:0≤(D:Int):=of_decide_eq_true asE;have U:D<(l1.length:Int):=of_decide_eq_true asE;obtain⟨ah,ac,G⟩:=Kd.at_int ag.out D O U
      cases ac
      replace G:=(HB.out.cell (World.block_lt_of_cell? w _ G)).trans G;replace O:=eq_true O;replace U:=eq_true U
      go_wp2_with (first|((with_reducible refine gC 62 rfl ?_);refine cG (some 19) Tryd.func62 #[.int .u8 a0,.int .u8 (rd l1 D)] ?_;(with_reducible refine(recoupref01_Mul.calls k1 a0 (rd l1 D) L _ A5.out).mono ?_);rintro e w' ⟨rfl,⟨nd,rfl⟩⟩;refine⟨_,rfl,?_⟩)|((with_reducible refine gate_builtin (b:= .append) (xs:= #[.tmp 13,.tmp 20]) rfl ?_);at_builtin;refine Kd.R_append (Kd.int .u8) (w0:=w) w.heap.size rfl (.tmp 13) (.tmp 20) 22 5 (.int .u8 0) 1 rfl Tryd.underlying22 info5 rfl zaa zz u5 J L [.int .u8 L] (fun _=>True) (fun _=>False) rfl rfl ?aP (fun _ hk=>hk.elim) ?aF ?aO ?aB ?aS ?aL ?_;(case aP=>exact rfl);(case aB=>exact(hbA HB.out));(case aF=>exact(fun _ _=>trivial));(case aO=>exact(kdA HO_5.out));(case aS=>exact(below_size (hbA HB.out)));(case aL=>have:=ab.out;omega);intro ai w7 ho hb hg hat;rw[←Z.out]at ho;have n0_:=aK (hb);have n1_:=aK (ho);clear HB;clear HO_5;have HB:=n0_;have Y:=n1_;clear n0_ n1_;clear ho hb hg hat))
      go_roundg k1
      case measure=>have:=aa.out;omega
      case rel=>exact⟨(X),(wrap64 (D+1)),rsE,H',⟨by have:=aa.out;omega⟩,⟨kdA Y.out⟩,⟨hbA HB.out⟩⟩
     ·rw[if_neg c6]at H
      exact absurd H zac
    ·rw[if_neg c4]at H
     exact absurd H zac
   ·rw[if_neg c3]at H
    have c3b0:decide (D<(l1.length:Int))=false:=decide_eq_false c3;clear c3;obtain rfl:=Option.some.inj H;go_wp2
    go_ret
    exact⟨_,rfE,by(with_reducible repeat(first|apply Kd.R_alloc|apply Kd.R_drewN|apply Kd.R_drew));exact HO_5.out,hbA HB.out⟩
def copyL(l:List Int)(i:Int)(s:List Int):List Int:=splice l i.toNat (s.take (l.length-i.toNat))
theorem copyL_cur{w:World}{base:Nat}{ok:Nat→Prop}{g n c:Nat}{L:List Int}(h:Kd.R (Kd.int .u8) 5 w base ok (.slice (some ⟨g,0,none⟩) n c) L): ∃cur:List Value,w.heap[g]? =some (.cells cur.toArray 5 (0,0))∧cur.length=c∧n≤c∧n=L.length∧base≤g∧cur.take n=nums .u8 L∧c≤maxLen:=by
 have ho:=Kd.own_of_R h;rcases ho.2 with⟨h',_⟩|⟨g',cap',cur,h',D,hh,hle,hm,hsz,htk⟩
 ·cases h'
 ·injection h' with h1 h2 h3;injection h1 with h1;injection h1 with h1;subst h1 h2 h3;refine⟨cur.toList,by simpa using hh,by simpa using hsz,hle,rfl,D,?_,hm⟩;simpa[nums,encs]using htk
theorem copyL_splice{w w1:World}{base:Nat}{ok:Nat→Prop}{g n c off:Nat}{L seg:List Int}{cur:List Value}(h:Kd.R (Kd.int .u8) 5 w base ok (.slice (some ⟨g,0,none⟩) n c) L)(hg:w.heap[g]? =some (.cells cur.toArray 5 (0,0)))(hfit:off+seg.length≤L.length)
 (h1:w1.heap[g]? =some (.cells (splice cur off (nums .u8 seg)).toArray 5 (0,0))):Kd.R (Kd.int .u8) 5 w1 base ok (.slice (some ⟨g,0,none⟩) n c) (splice L off seg):=by
 obtain⟨cur',D,I,X,J,O,G,U⟩:=copyL_cur h;rw[hg]at D
 injection D with D;injection D with D;have hce:cur=cur':=by simpa using congrArg Array.toList D
 subst hce;have hls:(splice L off seg).length=n:=by rw[length_splice _ _ _ hfit,J]
 have hlc:(splice cur off (nums .u8 seg)).length=c:=by rw[length_splice _ _ _ (by simp[nums];omega),I]
 refine Kd.R_of_own ⟨by simp[encs],.inr ⟨g,c,(splice cur off (nums .u8 seg)).toArray,by rw[hls],O,h1,by omega,U,by simpa using hlc,?_⟩⟩ h.1;rw[hls,Nat.mul_one];show(splice cur off (nums .u8 seg)).take n=(splice L off seg).map _;unfold splice;rw[List.take_append,List.take_append,List.map_append,List.map_append];have e1:(nums .u8 seg).length=seg.length:=by simp[nums]
 rw[List.take_take,Nat.min_eq_right zz,List.length_take,Nat.min_eq_left zz,List.take_of_length_le (l:=nums .u8 seg) zz,e1,List.take_drop];have e2:off+seg.length+(n-off-seg.length)=n:=by omega
 rw[e2];have e3:cur.take off=(L.take off).map (fun x=>Value.int .u8 x):=by
  have:(cur.take n).take off=(nums .u8 L).take off:=by rw[G]
  rw[List.take_take,Nat.min_eq_left zz]at this
  rw[this,nums,List.map_take]
 have e4:(cur.take n).drop (off+seg.length)=(L.drop (off+seg.length)).map (fun x=>Value.int .u8 x):=by
  rw[G,nums,List.map_drop]
 rw[e3,e4];rfl
theorem copyL_event{P:Program}{ops:Array Oper}{rest:List Oper}{o:Oper}{a:Act}{Q:Exit→Act→World→Prop}{W:World}{base:Nat}{ok:Nat→Prop}{g n c:Nat}{L S:List Int}{sp dp:Option Addr}{sc dLen dCap:Nat}{d s:Operand}{dT sT:TypeId}(hgd:o.guard=none)
 (ho:o.op= .call { callee:= .builtin .copy,args:= #[d,s],argTypes:= #[dT,sT] }) (hu:P.underlying dT=some (.slice 5)) (hsz:(P.info? 5).map (·.size)=some 1)
 (h:Kd.R (Kd.int .u8) 5 W base ok (.slice (some ⟨g,0,none⟩) n c) L) (hS:Kd.C (Kd.int .u8) W sp S.length S) (i:Int) (h0:0≤i) (hi:i<(L.length:Int))
 (hd:a.eval d= .slice dp dLen dCap) (hs:a.eval s= .slice sp S.length sc) (hdp:dp=some ⟨g,i.toNat,none⟩) (hdl:dLen=L.length-i.toNat)
 (hk: ∀w' m,W.grownBy w' (some g)→Kd.R (Kd.int .u8) 5 w' base ok (.slice (some ⟨g,0,none⟩) n c) (copyL L i S)→wpList P ops Q rest (a.put o.dst (goInt m)) w'):wpList P ops Q (o::rest) a W:=by
 obtain⟨cur,hg,hcl,hnc,hnL,hbg,htk,hcm⟩:=copyL_cur h;have hseg:(S.take (L.length-i.toNat)).length=Nat.min S.length dLen:=by rw[List.length_take,hdl,Nat.min_comm]
 refine wpList_plain hgd fun K hK=>?_;rcases Nat.eq_zero_or_pos (Nat.min S.length dLen)with e|e
 ·have hrun:=run_copy_none (P:=P) W dT sT o.type 5 dp sp dLen dCap S.length sc hu hsz e;have hz:copyL L i S=L:=by
   have:S.take (L.length-i.toNat)= []:=List.length_eq_zero_iff.1 (hseg.trans e);unfold copyL splice;rw[this];simp
  unfold Oper.wp;simp[execOp,ho,resolve,invoke,builtin,hd,hs,hrun,Result.andThen];exact hK _ _ (hk W 0 ⟨rfl,rfl,rfl,Nat.le_refl _,fun _ _ _=>rfl⟩ (by rw[hz];exact h))
 ·have hSp:0<S.length:=Nat.lt_of_lt_of_le e (Nat.min_le_left _ _);obtain⟨ad,rfl,hc⟩:=hS.2.2 hSp;subst hdp;have hsrc: ∀j v,(nums .u8 (S.take (L.length-i.toNat)))[j]? =some v→W.cell? (ad.add j)=some v:=by
   intro j v hv;unfold nums at hv;rw[List.getElem?_map,Option.map_eq_some_iff]at hv
   obtain⟨x,hx,rfl⟩:=hv;rw[List.getElem?_take]at hx
   split at hx
   ·obtain⟨c1,_,rfl,hcell⟩:=hc j x hx;have:=hcell 0 _ rfl
    rwa [show(Kd.int .u8).sz=1 from rfl,Nat.mul_one,Nat.add_zero]at this
   ·cases hx
  have hfit:i.toNat+(nums .u8 (S.take (L.length-i.toNat))).length≤cur.length:=by
   have:(nums .u8 (S.take (L.length-i.toNat))).length=Nat.min S.length dLen:=by rw[←hseg];simp[nums]
   have h2:Nat.min S.length dLen≤dLen:=Nat.min_le_right _ _;omega
  have hlen:(nums .u8 (S.take (L.length-i.toNat))).length=Nat.min S.length dLen:=by rw[←hseg];simp[nums]
  have hrun:=run_copy_row (P:=P) W dT sT o.type 5 g i.toNat dLen dCap ad S.length sc cur.toArray 5 (nums .u8 (S.take (L.length-i.toNat))) hu hsz hg hlen hsrc (by simpa using hfit) (fun v hv=>by
   unfold nums at hv;obtain⟨x,_,rfl⟩:=List.mem_map.1 hv;rfl)
  unfold Oper.wp;simp[execOp,ho,resolve,invoke,builtin,hd,hs,hrun,Result.andThen];refine hK _ _ (hk _ _ ⟨rfl,rfl,rfl,by simp[World.setRow],fun k _ hk=>setRow_other W g k _ (fun e=>hk (by rw[e]))⟩ ?_);refine copyL_splice h hg (by rw[hseg];have:Nat.min S.length dLen≤dLen:=Nat.min_le_right _ _;omega) ?_;simpa[splice]using setRow_heap W g _ _ 5 _ hg
mutual
def recoupref04_Reduce.l0:Nat→List Int→Int→Int→Int→List Int→Option (Int×Int×List Int×List Int×Int)
 |0,_,_,_,_,_=>none
 |k+1,x6,x7,D,G,I=>if x7<G then(recoupref04_Reduce.j1 k x6 x7 (decide ((x6.length:Int)<D)) D G I)else(recoupref04_Reduce.j1 k x6 x7 false D G I)
def recoupref04_Reduce.j1:Nat→List Int→Int→Bool→Int→Int→List Int→Option (Int×Int×List Int×List Int×Int)
 |0,_,_,_,_,_,_=>none
 |k+1,x6,x7,J,D,G,I=>if J=true then(recoupref04_Reduce.l1 k x6 x7 (x6.length:Int) (x6.length:Int) D G I)else(some (D,G,I,x6,0))
def recoupref04_Reduce.j3:Nat→List Int→Int→Int→Int→Int→Int→List Int→Option (Int×Int×List Int×List Int×Int)
 |0,_,_,_,_,_,_,_=>none
 |k+1,x6,x7,x8,x9,D,G,I=>if x9=D then(recoupref04_Reduce.l0 k x6 (wrap64 (x7+1)) D G I)else(if 0≤D then(if(D:Int).toNat≤35184372088832 then(recoupref04_Reduce.l2 k x6 x7 x8 x9 (List.replicate (D:Int).toNat 0) 0 D G I)else(none))else(none))
def recoupref04_Reduce.l2:Nat→List Int→Int→Int→Int→List Int→Int→Int→Int→List Int→Option (Int×Int×List Int×List Int×Int)
 |0,_,_,_,_,_,_,_,_,_=>none
 |k+1,x6,x7,x8,x9,O,L,G,I,J=>if L<G then(if 0≤L then(if L<(O.length:Int)then(recoupref04_Reduce.l2 k x6 x7 x8 x9 (O.set (L:Int).toNat L) (wrap64 (L+1)) G I J)else(none))else(none))else(if 0≤x8 then(if x8<(O.length:Int)then(if 0≤x9 then(if x9<(O.length:Int)then((recoupref03_Pick.f k G I J ((O.set (x8:Int).toNat x9).set (x9:Int).toNat x8)).bind fun D=>((recoupref03_At.f D.1 D.2.1 D.2.2.1 x8 x7).bind fun Z=>((recoupref01_Inv.f k Z).bind fun X=>((recoupref03_Row.f k D.1 D.2.1 D.2.2.1 x8).bind fun Y=>((recoupref01_Scale.f k X.1 Y.1).bind fun U=>(if 0≤(wrap64 (x8*D.2.1))then(if(wrap64 (x8*D.2.1))<(D.2.2.1.length:Int)then(recoupref04_Reduce.l3 k x6 x7 x8 U 0 D.1 D.2.1 (copyL D.2.2.1 (wrap64 (x8*D.2.1)) U))else(none))else(none)))))))else(none))else(none))else(none))else(none))
def recoupref04_Reduce.l3:Nat→List Int→Int→Int→List Int→Int→Int→Int→List Int→Option (Int×Int×List Int×List Int×Int)
 |0,_,_,_,_,_,_,_,_=>none
 |k+1,x6,x7,x8,O,J,D,G,I=>if J<D then(if J=x8 then(recoupref04_Reduce.l3 k x6 x7 x8 O (wrap64 (J+1)) D G I)else((recoupref03_At.f D G I J x7).bind fun L=>(recoupref04_Reduce.l4 k x6 x7 x8 O J L 0 D G I)))else(if x6.length<17592186044416 then(recoupref04_Reduce.l0 k (x6++ [x7]) (wrap64 (x7+1)) D G I)else(none))
def recoupref04_Reduce.l4:Nat→List Int→Int→Int→List Int→Int→Int→Int→Int→Int→List Int→Option (Int×Int×List Int×List Int×Int)
 |0,_,_,_,_,_,_,_,_,_,_=>none
 |k+1,x6,x7,x8,O,L,X,I,J,D,G=>if I<D then(if 0≤(wrap64 ((wrap64 (L*D))+I))then(if(wrap64 ((wrap64 (L*D))+I))<(G.length:Int)then(if 0≤I then(if I<(O.length:Int)then((recoupref01_Mul.f k X (rd O I)).bind fun U=>(recoupref04_Reduce.l4 k x6 x7 x8 O L X (wrap64 (I+1)) J D (G.set ((wrap64 ((wrap64 (L*D))+I)):Int).toNat (Go.bits .xor .u8 (rd G (wrap64 ((wrap64 (L*D))+I))) U))))else(none))else(none))else(none))else(none))else(recoupref04_Reduce.l3 k x6 x7 x8 O (wrap64 (L+1)) J D G)
def recoupref04_Reduce.l1:Nat→List Int→Int→Int→Int→Int→Int→List Int→Option (Int×Int×List Int×List Int×Int)
 |0,_,_,_,_,_,_,_=>none
 |k+1,x6,x7,x8,x9,D,G,I=>if x9<D then((recoupref03_At.f D G I x9 x7).bind fun J=>(if J=0 then(recoupref04_Reduce.l1 k x6 x7 x8 (wrap64 (x9+1)) D G I)else(recoupref04_Reduce.j3 k x6 x7 x8 x9 D G I)))else(recoupref04_Reduce.j3 k x6 x7 x8 x9 D G I)
end
def recoupref04_Reduce.f(k:Nat)(G:Int)(I:Int)(J:List Int):Option (Int×Int×List Int×List Int×Int):=(recoupref03_Right.f G I J).bind fun L=>(if L=true then((recoupref03_Copy.f G I J).bind fun D=>(recoupref04_Reduce.l0 k ([]:List Int) 0 D.1 D.2.1 D.2.2))else(some (0,0,([]:List Int),([]:List Int),3)))
def recoupref04_Reduce.T32:Bool×List (List Nat×List Nat):=(true,[([],[]),([0],[0]),([],[]),([],[]),([3],[3]),([2,4],[2,4]),([],[]),([5,6],[5,6]),([1,7],[1,7]),([8],[8]),([],[]),([],[]),([],[]),([11,12],[11,12]),([13],[13]),([10,14],[10,14]),([9,15],[9,15]),([1,7,0,1,2,3,4,5,6,7,8,9,10,11,12,13,14,15,16],[1,7]),([17,16,15,0,1,2,3,4,5,6,7,8,9,10,11,12,13,14,15,16],[16,17])])
def recoupref04_Reduce.B32:List Nat:= [0,1,0,0,8,28,0,124,255,511,0,0,0,6144,14336,31744,65535,131071,262143]
theorem recoupref04_Reduce.tab32:rtab .any (opsOf Tryd.f39 32)=recoupref04_Reduce.T32:=by kernel_rfl
theorem recoupref04_Reduce.bits32:waitsOk recoupref04_Reduce.T32.2 recoupref04_Reduce.B32=true:=by kernel_rfl
set_option maxHeartbeats 8000000 in
set_option maxRecDepth 100000 in
theorem recoupref04_Reduce.calls(k:Nat)(av:Int)(aw:Int)(a0:Option Addr)(a1:Nat)(au:List Int)(r1:Int)(r2:Int)(r3:List Int)(r4:List Int)(r5:Int)(w:World)(i1:Kd.C (Kd.int .u8) w a0 au.length au)(iz:au.length≤a1)(h:recoupref04_Reduce.f k av aw au=some (r1,r2,r3,r4,r5)):
 Calls Tryd.prog 39 #[.agg #[.int .i64 av,.int .i64 aw,.slice a0 au.length a1]] w fun e w'=> ∃v2_ v3_:Value,e= .returned (.tuple #[.agg #[.int .i64 r1,.int .i64 r2,v2_],v3_,.int .i64 r5])∧Kd.R (Kd.int .u8) 5 w' w.heap.size (fun _=>True) v2_ r3∧Kd.R (Kd.int .i64) 3 w' w.heap.size (fun _=>True) v3_ r4∧Below w.heap.size w w':=by
 have rl:=Tryd.underlying24;have f0:=aK i1;have fy:=aK iz;clear i1 iz;have HB:=aK (Below.refl w.heap.size w);have H:((recoupref03_Right.f av aw au).bind fun i9=>(if i9=true then((recoupref03_Copy.f av aw au).bind fun f1=>(recoupref04_Reduce.l0 k ([]:List Int) 0 f1.1 f1.2.1 f1.2.2))else(some (0,0,([]:List Int),([]:List Int),3))))=some (r1,r2,r3,r4,r5):=h;clear h;obtain⟨i9,A2,H⟩:=bindO H
 (try dsimp only at H)
 by_cases c3:i9=true
 ·subst c3;rw[if_pos rfl]at H
  obtain⟨⟨fw,gn,gp⟩,A4,H⟩:=bindO H
  (try dsimp only at H)
  have H':=aK H;clear H
  go_enter Tryd.func39,Tryd.ntmps39
  go_wp2_with (first|((with_reducible refine gD 1 rfl ?_);(try(refine gate_guard zad ?_;dsimp only));refine bE 1 #[.int .i64 av,.int .i64 aw,.slice a0 au.length a1] 24 ?_;intro a3 hg w5 hbox hb;have I:=aK (hbox);have j7:=hbS HB hg;have j4:=hbS HB hg;replace HB:=hbB HB hb;clear hb hbox hg)|((with_reducible refine gD 2 rfl ?_);(try(refine gate_guard zad ?_;dsimp only));refine bE 2 #[.int .i64 0,.int .i64 0,.slice none 0 0] 24 ?_;intro ar hg w6 hbox hb;have J:=aK (hbox);have j8:=hbS HB hg;have j5:=hbS HB hg;replace HB:=hbB HB hb;have bt:=neL I hg;have bu:=neG I hg;replace I:=bkB I hb;clear hb hbox hg;have rj:=bt.out;have rk:=bu.out;obtain⟨bv,bw,bx,bz,b0,b1⟩:=cell3 I)|((with_reducible refine gC 37 rfl ?_);refine cG (some 20) Tryd.func37 #[.agg #[.int .i64 av,.int .i64 aw,.slice a0 au.length a1]] ?_;(with_reducible refine(recoupref03_Right.calls av aw _ _ au true _ ?side1 ?side2 A2.out).mono ?_);(case side1=>exact kcB f0 HB);(case side2=>exact fy.out);rintro e w9 ⟨rfl,hb⟩;refine⟨_,rfl,?_⟩;replace I:=bkB I hb;replace J:=bkB J hb;replace HB:=hbB HB hb;(try clear hb);obtain⟨a5,a6,a7,bb,bc,bd⟩:=cell3 I)|((with_reducible refine gC 28 rfl ?_);refine cG (some 24) Tryd.func28 #[.agg #[.int .i64 av,.int .i64 aw,.slice a0 au.length a1]] ?_;(with_reducible refine(recoupref03_Copy.calls av aw _ _ au fw gn gp _ ?side1 ?side2 A4.out).mono ?_);(case side1=>exact kcB f0 HB);(case side2=>exact fy.out);rintro e r6 ⟨rm,rfl,cg,hb⟩;refine⟨_,rfl,?_⟩;have eg:=aK (Kd.R_lower cg (below_size (hbA HB.out)));replace I:=bkB I hb;replace J:=bkB J hb;replace HB:=hbB HB hb;(try clear hb);(try clear cg))|((with_reducible refine gD 5 rfl ?_);(try(refine gate_guard zad ?_;dsimp only));refine bE 5 #[.int .i64 0,.int .i64 0,.slice none 0 0] 24 ?_;intro ay hg r7 hbox hb;replace eg:=kdB eg hb;have D:=aK (hbox);have o0:=hbS HB hg;have oz:=hbS HB hg;replace HB:=hbB HB hb;have X:=neL I hg;have ab:=neG I hg;replace I:=bkB I hb;have Y:=neL J hg;have ac:=neG J hg;replace J:=bkB J hb;clear hb hbox hg;have pd:=ab.out;have pz:=X.out;have pe:=ac.out;have p0:=Y.out;obtain⟨a8,a9,ba,be,bf,bg⟩:=cell3 D;obtain⟨jk,jr,m2⟩:=Kd.R_slice eg.out;subst m2))
  go_loopg [6,7] k (fun kq v6 v7 w'=> ∃(O:List Int) (ak:Int) (G:Int) (U:Int) (L:List Int) (Z:Value),v7= .int .i64 ak∧Aside0 (recoupref04_Reduce.l0 kq O ak G U L=some (r1,r2,r3,r4,r5))∧Aside0 (kq≤k)∧Aside0 (Kd.R (Kd.int .i64) 3 w' w.heap.size (fun _=>True) v6 O)∧Aside0 (Kd.R (Kd.int .u8) 5 w' w.heap.size (fun _=>True) Z L)∧Aside0 (w'.heap[a3]? =some (.cells #[.int .i64 av,.int .i64 aw,(.slice a0 au.length a1)] 24 (0,0)))∧Aside0 (w'.heap[ar]? =some (.cells #[.int .i64 0,.int .i64 0,(.slice none 0 0)] 24 (0,0)))∧Aside0 (w'.heap[ay]? =some (.cells #[.int .i64 G,.int .i64 U,Z] 24 (0,0)))∧Aside0 (Below w.heap.size w w'))
  case atStart=>exact⟨(([]:List Int)),(0),(fw),(gn),(gp),(.slice jk gp.length jr),rsE,H',⟨Nat.le_refl _⟩,⟨nilE⟩,⟨by(with_reducible repeat(first|apply Kd.R_alloc|apply Kd.R_drewN|apply Kd.R_drew));exact Kd.R_mono (Kd.R_far (p:=⟨ay,2,none⟩) (Kd.R_far (p:=⟨ay,1,none⟩) (Kd.R_far (p:=⟨ay,0,none⟩) (Kd.R_types eg.out D.out zaa) (fun _ hk=>hk.2) (.int .i64 fw)) (fun _ hk=>hk.2) (.int .i64 gn)) (fun _ hk=>hk.2) (.slice jk gp.length jr)) (fun _ hk=>trivial)⟩,⟨by refine bkR ?_;refine blk_far ?_ X.out _;refine bkR ?_;refine blk_far ?_ X.out _;refine bkR ?_;refine blk_far ?_ X.out _;refine bkR ?_;exact I.out⟩,⟨by refine bkR ?_;refine blk_far ?_ Y.out _;refine bkR ?_;refine blk_far ?_ Y.out _;refine bkR ?_;refine blk_far ?_ Y.out _;refine bkR ?_;exact J.out⟩,⟨by refine bkR ?_;refine blk_put (cs:= #[.int .i64 fw,.int .i64 gn,.slice none 0 0]) ?_ 2 _ rfl;refine bkR ?_;refine blk_put (cs:= #[.int .i64 fw,.int .i64 0,.slice none 0 0]) ?_ 1 _ rfl;refine bkR ?_;refine blk_put (cs:= #[.int .i64 0,.int .i64 0,.slice none 0 0]) ?_ 0 _ rfl;refine bkR ?_;exact D.out⟩,⟨hbA HB.out⟩⟩
  case round=>
   clear H'
   (try clear c1);(try clear c2);(try clear p2);(try clear c3);(try clear c7);(try clear gq);(try clear gr);(try clear a5 a6 a7 bb bc bd);(try clear a8 a9 ba be bf bg);(try clear bv bw bx bz b0 b1)
   obtain⟨O,ak,G,U,L,Z,rfl,HA,b7,HO_6,HO_161002,I,J,D,HB⟩:=hrel
   cases gk with
   |zero=>exact absurd HA.out (by simp[recoupref04_Reduce.l0])
   |succ k1=>
    have H:=HA.out;clear HA;simp only[recoupref04_Reduce.l0]at H;have ic:=aK H;clear H
    go_upto_region 6 with(fail)
    go_cut [35] (fun qw wc=> ∃(kq:Nat) (dd:Bool),qw= .bool dd∧Aside0 (recoupref04_Reduce.j1 kq O ak dd G U L=some (r1,r2,r3,r4,r5))∧Aside0 (kq≤k1)∧Aside0 (Kd.R (Kd.int .i64) 3 wc w.heap.size (fun _=>True) u6 O)∧Aside0 (Kd.R (Kd.int .u8) 5 wc w.heap.size (fun _=>True) Z L)∧Aside0 (wc.heap[a3]? =some (.cells #[.int .i64 av,.int .i64 aw,(.slice a0 au.length a1)] 24 (0,0)))∧Aside0 (wc.heap[ar]? =some (.cells #[.int .i64 0,.int .i64 0,(.slice none 0 0)] 24 (0,0)))∧Aside0 (wc.heap[ay]? =some (.cells #[.int .i64 G,.int .i64 U,Z] 24 (0,0)))∧Aside0 (Below w.heap.size w wc))
    case first=>
     have H:=ic.out;clear ic;by_cases dc:ak<U
     ·rw[if_pos dc]at H
      have c18b0:decide (ak<U)=true:=decide_eq_true dc;clear dc
      (first|rw[c18b0] |(simp only[i64_w,i32_w];rw[c18b0])|skip)
      have H':=aK H;clear H;have pf:=ab.out;have p1:=X.out;have pg:=ac.out;have p3:=Y.out;obtain⟨bh,bi,bj,bn,bo,bp⟩:=cell3 D;obtain⟨qy,rf,m3⟩:=Kd.R_slice HO_6.out;subst m3;go_wp2
      go_meet
      case rel=>exact⟨_,(decide ((O.length:Int)<G)),rsE,H',⟨by have:=b7.out;first|omega|exact Nat.le_refl _⟩,⟨kdA HO_6.out⟩,⟨kdA HO_161002.out⟩,⟨bkA I.out⟩,⟨bkA J.out⟩,⟨bkA D.out⟩,⟨hbA HB.out⟩⟩
     ·rw[if_neg dc]at H
      have c18b0:decide (ak<U)=false:=decide_eq_false dc;clear dc
      (first|rw[c18b0] |(simp only[i64_w,i32_w];rw[c18b0])|skip)
      have H':=aK H;clear H;have ph:=ab.out;have p4:=X.out;have pi:=ac.out;have p8:=Y.out;obtain⟨bk,bl,bm,bq,br,bs⟩:=cell3 D;go_wp2
      go_meet
      case rel=>exact⟨_,(false),rsE,H',⟨by have:=b7.out;first|omega|exact Nat.le_refl _⟩,⟨kdA HO_6.out⟩,⟨kdA HO_161002.out⟩,⟨bkA I.out⟩,⟨bkA J.out⟩,⟨bkA D.out⟩,⟨hbA HB.out⟩⟩
    case rest=>
     clear ic
     (try clear c1);(try clear c2);(try clear p2 p2);(try clear c3);(try clear c7);(try clear gq);(try clear gr);(try clear dc);(try clear c18b0);(try clear io);(try clear ip);(try clear iq);(try clear ir);(try clear a5 a6 a7 bb bc bd);(try clear a8 a9 ba be bf bg);(try clear bh bi bj bn bo bp);(try clear bk bl bm bq br bs);(try clear bv bw bx bz b0 b1)
     obtain⟨kq,dd,rfl,HA,a2,HO_6,HO_161002,I,J,D,HB⟩:=hcut
     cases kq with
     |zero=>exact absurd HA.out (by simp[recoupref04_Reduce.j1])
     |succ i2=>
      have H:=HA.out;clear HA;simp only[recoupref04_Reduce.j1]at H;by_cases ei:dd=true
      ·subst ei;rw[if_pos rfl]at H
       have ie:=aK H;clear H;obtain⟨b2,b4,m4⟩:=Kd.R_slice HO_6.out;subst m4
       go_upto_block 2 with(fail)
       go_cut [9] (fun v9 wc=> ∃(kq:Nat) (ag:Int),v9= .int .i64 ag∧Aside0 (recoupref04_Reduce.j3 kq O ak (O.length:Int) ag G U L=some (r1,r2,r3,r4,r5))∧Aside0 (kq≤i2)∧Aside0 (Kd.R (Kd.int .i64) 3 wc w.heap.size (fun _=>True) (.slice b2 O.length b4) O)∧Aside0 (Kd.R (Kd.int .u8) 5 wc w.heap.size (fun _=>True) Z L)∧Aside0 (wc.heap[a3]? =some (.cells #[.int .i64 av,.int .i64 aw,(.slice a0 au.length a1)] 24 (0,0)))∧Aside0 (wc.heap[ar]? =some (.cells #[.int .i64 0,.int .i64 0,(.slice none 0 0)] 24 (0,0)))∧Aside0 (wc.heap[ay]? =some (.cells #[.int .i64 G,.int .i64 U,Z] 24 (0,0)))∧Aside0 (Below w.heap.size w wc))
       case first=>
        have H:=ie.out;clear ie;have H':=aK H;clear H;go_wp2
        go_loopg [9] i2 (fun kq v9 w'=> ∃(ch:Int),v9= .int .i64 ch∧Aside0 (recoupref04_Reduce.l1 kq O ak (O.length:Int) ch G U L=some (r1,r2,r3,r4,r5))∧Aside0 (kq≤i2)∧Aside0 (Kd.R (Kd.int .i64) 3 w' w.heap.size (fun _=>True) (.slice b2 O.length b4) O)∧Aside0 (Kd.R (Kd.int .u8) 5 w' w.heap.size (fun _=>True) Z L)∧Aside0 (w'.heap[a3]? =some (.cells #[.int .i64 av,.int .i64 aw,(.slice a0 au.length a1)] 24 (0,0)))∧Aside0 (w'.heap[ar]? =some (.cells #[.int .i64 0,.int .i64 0,(.slice none 0 0)] 24 (0,0)))∧Aside0 (w'.heap[ay]? =some (.cells #[.int .i64 G,.int .i64 U,Z] 24 (0,0)))∧Aside0 (Below w.heap.size w w'))
        case atStart=>exact⟨((O.length:Int)),rsE,H',⟨Nat.le_refl _⟩,⟨kdA HO_6.out⟩,⟨kdA HO_161002.out⟩,⟨bkA I.out⟩,⟨bkA J.out⟩,⟨bkA D.out⟩,⟨hbA HB.out⟩⟩
        case round=>
         clear H'
         (try clear c1);(try clear c2);(try clear p2 p2);(try clear c3);(try clear c7);(try clear gq);(try clear gr);(try clear dc);(try clear c18b0);(try clear io);(try clear ip);(try clear iq);(try clear ir);(try clear ei);(try clear ji);(try clear a5 a6 a7 bb bc bd);(try clear a8 a9 ba be bf bg);(try clear bh bi bj bn bo bp);(try clear bk bl bm bq br bs);(try clear bv bw bx bz b0 b1)
         obtain⟨ch,rfl,HA,jf,HO_6,HO_161002,I,J,D,HB⟩:=hrel
         cases gk with
         |zero=>exact absurd HA.out (by simp[recoupref04_Reduce.l1])
         |succ k3=>
          have H:=HA.out;clear HA;simp only[recoupref04_Reduce.l1]at H;by_cases eb:ch<G
          ·rw[if_pos eb]at H
           have c29b0:decide (ch<G)=true:=decide_eq_true eb;clear eb
           (first|rw[c29b0] |(simp only[i64_w,i32_w];rw[c29b0])|skip)
           obtain⟨d2,mn,H⟩:=bindO H
           (try dsimp only at H)
           by_cases df:d2=0
           ·rw[if_pos df]at H
            have c31b0:(d2==0)=true:=beq_iff_eq.mpr df;have c31b1:(d2 !=0)=false:=bne_eq_false_iff_eq.mpr df;clear df;have H':=aK H;clear H;have pj:=ab.out;have p9:=X.out;have pk:=ac.out;have qa:=Y.out;obtain⟨ci,cj,ck,cr,ct,cu⟩:=cell3 D;obtain⟨qz,rg,m5⟩:=Kd.R_slice HO_161002.out;subst m5
            go_wp2_with (first|(go_at_call 40;(with_reducible refine(recoupref03_At.calls G U _ _ L ch ak d2 _ ?side1 ?side2 mn.out).mono ?_);(case side1=>exact kcA (Kd.R_reads' HO_161002.out).2.2);(case side2=>exact(Kd.R_reads' HO_161002.out).2.1);rintro e r8 ⟨rfl,hb⟩;replace HO_6:=kdB HO_6 hb;replace HO_161002:=kdB HO_161002 hb;replace I:=bkB I hb;replace J:=bkB J hb;replace D:=bkB D hb;replace HB:=hbB HB hb;(try clear hb)))
            go_roundg k3
            case measure=>have:=b7.out;have:=a2.out;have:=jf.out;omega
            case rel=>exact⟨(wrap64 (ch+1)),rsE,H',⟨by have:=b7.out;have:=a2.out;have:=jf.out;omega⟩,⟨kdA HO_6.out⟩,⟨kdA HO_161002.out⟩,⟨bkA I.out⟩,⟨bkA J.out⟩,⟨bkA D.out⟩,⟨hbA HB.out⟩⟩
           ·rw[if_neg df]at H
            have c31b0:(d2==0)=false:=beq_eq_false_iff_ne.mpr df;have c31b1:(d2 !=0)=true:=bne_iff_ne.mpr df;have H':=aK H;clear H;have pl:=ab.out;have qb:=X.out;have pm:=ac.out;have qc:=Y.out;obtain⟨cl,cm,cn,cv,cw,cx⟩:=cell3 D;obtain⟨q0,rh,m6⟩:=Kd.R_slice HO_161002.out;subst m6
            go_wp2_with (first|(go_at_call 40;(with_reducible refine(recoupref03_At.calls G U _ _ L ch ak d2 _ ?side1 ?side2 mn.out).mono ?_);(case side1=>exact kcA (Kd.R_reads' HO_161002.out).2.2);(case side2=>exact(Kd.R_reads' HO_161002.out).2.1);rintro e r9 ⟨rfl,hb⟩;replace HO_6:=kdB HO_6 hb;replace HO_161002:=kdB HO_161002 hb;replace I:=bkB I hb;replace J:=bkB J hb;replace D:=bkB D hb;replace HB:=hbB HB hb;(try clear hb)))
            go_meet
            case rel=>exact⟨_,(ch),rsE,H',⟨by have:=b7.out;have:=a2.out;have:=jf.out;first|omega|exact Nat.le_refl _⟩,⟨kdA HO_6.out⟩,⟨kdA HO_161002.out⟩,⟨bkA I.out⟩,⟨bkA J.out⟩,⟨bkA D.out⟩,⟨hbA HB.out⟩⟩
          ·rw[if_neg eb]at H
           have c29b0:decide (ch<G)=false:=decide_eq_false eb;clear eb
           (first|rw[c29b0] |(simp only[i64_w,i32_w];rw[c29b0])|skip)
           have H':=aK H;clear H;have pn:=ab.out;have qd:=X.out;have po:=ac.out;have qe:=Y.out;obtain⟨co,cp,cq,cy,cz,c9⟩:=cell3 D;go_wp2
           go_meet
           case rel=>exact⟨_,(ch),rsE,H',⟨by have:=b7.out;have:=a2.out;have:=jf.out;first|omega|exact Nat.le_refl _⟩,⟨kdA HO_6.out⟩,⟨kdA HO_161002.out⟩,⟨bkA I.out⟩,⟨bkA J.out⟩,⟨bkA D.out⟩,⟨hbA HB.out⟩⟩
       case rest=>
        clear ie
        (try clear c1);(try clear c2);(try clear p2 p2);(try clear c3);(try clear c4);(try clear p6);(try clear c7);(try clear gq);(try clear gr);(try clear dc);(try clear c18b0);(try clear io);(try clear ip);(try clear iq);(try clear ir);(try clear ei);(try clear ji);(try clear eb);(try clear c29b0);(try clear df);(try clear c31b0);(try clear c31b1);(try clear kj);(try clear kk);(try clear km);(try clear kn);(try clear ko);(try clear kp);(try clear kr);(try clear a5 a6 a7 bb bc bd);(try clear a8 a9 ba be bf bg);(try clear bh bi bj bn bo bp);(try clear bk bl bm bq br bs);(try clear ci cj ck cr ct cu);(try clear cl cm cn cv cw cx);(try clear co cp cq cy cz c9);(try clear bv bw bx bz b0 b1)
        obtain⟨kq,ag,rfl,HA,b3,HO_6,HO_161002,I,J,D,HB⟩:=hcut
        cases kq with
        |zero=>exact absurd HA.out (by simp[recoupref04_Reduce.j3])
        |succ gm=>
         have H:=HA.out;clear HA;simp only[recoupref04_Reduce.j3]at H;by_cases ec:ag=G
         ·rw[if_pos ec]at H
          have c45b0:(ag==G)=true:=beq_iff_eq.mpr ec;have c45b1:(ag !=G)=false:=bne_eq_false_iff_eq.mpr ec;clear ec;have H':=aK H;clear H;have pp:=ab.out;have qf:=X.out;have pq:=ac.out;have qg:=Y.out;obtain⟨dg,dh,di,dm,dn,dp⟩:=cell3 D;go_wp2
          go_roundg gm
          case measure=>have:=b7.out;have:=a2.out;have:=b3.out;omega
          case rel=>exact⟨(O),(wrap64 (ak+1)),(G),(U),(L),(Z),rsE,H',⟨by have:=b7.out;have:=a2.out;have:=b3.out;omega⟩,⟨kdA HO_6.out⟩,⟨kdA HO_161002.out⟩,⟨bkA I.out⟩,⟨bkA J.out⟩,⟨bkA D.out⟩,⟨hbA HB.out⟩⟩
         ·rw[if_neg ec]at H
          have c45b0:(ag==G)=false:=beq_eq_false_iff_ne.mpr ec;have c45b1:(ag !=G)=true:=bne_iff_ne.mpr ec;by_cases eo:0≤G
          ·rw[if_pos eo]at H
           have c49b0:=eq_true eo;have c49b1:decide (0≤G)=true:=decide_eq_true eo;clear eo;by_cases ep:(G:Int).toNat≤35184372088832
           ·rw[if_pos ep]at H
            have c50b0:=eq_true ep;have c50b1:decide ((G:Int).toNat≤35184372088832)=true:=decide_eq_true ep;clear ep;obtain⟨jz,dv⟩: ∃y_:List Int,y_=(List.replicate (G:Int).toNat 0):=⟨_,rfl⟩
            replace H:(recoupref04_Reduce.l2 gm O ak (O.length:Int) ag jz 0 G U L)=some (r1,r2,r3,r4,r5):=by first|(rw[dv];with_reducible exact H)|(have H2_:=(Option.bind_some _ _).symm.trans H;rw[dv];with_reducible exact H2_)|(have H2_:=(Option.bind_some _ _).symm.trans H;with_reducible exact H2_)|with_reducible exact H|(rw[dv];exact H)|exact H
            have il:=aK dv;clear dv;have H':=aK H;clear H;have pr:=ab.out;have qh:=X.out;have pt:=ac.out;have qi:=Y.out;obtain⟨dj,dk,dl,dq,dr,dt⟩:=cell3 D
            go_wp2_with (first|((with_reducible refine gate_dst (N:=60) rfl ?_);(try(refine gate_guard zad ?_;dsimp only));refine Kd.R_make (Kd.int .i64) _ 3 rfl (N:=60) rfl 42 _ _ rfl G rfl rfl Tryd.underlying42 (.int .i64 0) 8 info3 rfl zaa zz 0 (ok:=fun _=>True) (okp:=fun _=>True) rfl (fun _ hk=>hk) trivial (of_decide_eq_true asE) (Nat.le_trans (Nat.mul_le_mul_right _ (of_decide_eq_true asE:G.toNat≤35184372088832)) zz) (Below.refl _ _) (Nat.le_refl _) ?_;intro jy sa ef hb hg_ hnew_;clear hg_ hnew_;(first|rw[←il.out]at ef|(simp only[Int.reduceToNat]at ef;rw[←il.out]at ef));replace HO_161002:=kdB HO_161002 hb;have j9:=aK (Kd.R_lower (Kd.R_new' ef (Kd.R_lt (kdA HO_6.out))) (below_size (hbA HB.out)));replace HO_6:=aK (Kd.R_elder' (kdA HO_6.out) (Kd.R_base ef) hb);replace I:=bkB I hb;replace J:=bkB J hb;replace D:=bkB D hb;replace HB:=hbB HB hb;clear hb ef))
            go_loopg [11] gm (fun kq qt w'=> ∃(ae:List Int) (ao:Int),qt= .int .i64 ao∧Aside0 (recoupref04_Reduce.l2 kq O ak (O.length:Int) ag ae ao G U L=some (r1,r2,r3,r4,r5))∧Aside0 (kq≤gm)∧Aside0 (Kd.R (Kd.int .i64) 3 w' w.heap.size (fun k_=>some k_≠(jy:Value).ownBlock) (.slice b2 O.length b4) O)∧Aside0 (Kd.R (Kd.int .i64) 3 w' w.heap.size (fun k_=>some k_≠((.slice b2 O.length b4):Value).ownBlock) jy ae)∧Aside0 (Kd.R (Kd.int .u8) 5 w' w.heap.size (fun _=>True) Z L)∧Aside0 (w'.heap[a3]? =some (.cells #[.int .i64 av,.int .i64 aw,(.slice a0 au.length a1)] 24 (0,0)))∧Aside0 (w'.heap[ar]? =some (.cells #[.int .i64 0,.int .i64 0,(.slice none 0 0)] 24 (0,0)))∧Aside0 (w'.heap[ay]? =some (.cells #[.int .i64 G,.int .i64 U,Z] 24 (0,0)))∧Aside0 (Below w.heap.size w w'))
            case atStart=>exact⟨(jz),(0),rsE,H',⟨Nat.le_refl _⟩,⟨by(with_reducible repeat(first|apply Kd.R_alloc|apply Kd.R_drewN|apply Kd.R_drew));exact Kd.R_mono HO_6.out (fun _ hk=>hk.2)⟩,⟨by(with_reducible repeat(first|apply Kd.R_alloc|apply Kd.R_drewN|apply Kd.R_drew));exact Kd.R_mono j9.out (fun _ hk=>hk.2)⟩,⟨kdA HO_161002.out⟩,⟨bkA I.out⟩,⟨bkA J.out⟩,⟨bkA D.out⟩,⟨hbA HB.out⟩⟩
            case round=>
             clear H'
             (try clear c1);(try clear c2);(try clear p2 p2);(try clear c3);(try clear c4);(try clear c5);(try clear p6 p6);(try clear c7);(try clear gq);(try clear gr);(try clear dc);(try clear c18b0);(try clear io);(try clear ip);(try clear iq);(try clear ir);(try clear ei);(try clear ji);(try clear eb);(try clear c29b0);(try clear df);(try clear c31b0);(try clear c31b1);(try clear kj);(try clear kk);(try clear km);(try clear kn);(try clear ko);(try clear kp);(try clear kr);(try clear ec);(try clear c45b0);(try clear c45b1);(try clear mw);(try clear mx);(try clear eo);(try clear c49b0);(try clear c49b1);(try clear ep);(try clear c50b0);(try clear c50b1);(try clear my);(try clear mz);(try clear a5 a6 a7 bb bc bd);(try clear a8 a9 ba be bf bg);(try clear bh bi bj bn bo bp);(try clear bk bl bm bq br bs);(try clear ci cj ck cr ct cu);(try clear cl cm cn cv cw cx);(try clear co cp cq cy cz c9);(try clear dg dh di dm dn dp);(try clear dj dk dl dq dr dt);(try clear bv bw bx bz b0 b1)
             obtain⟨ae,ao,rfl,HA,ea,HO_6,HO_10,HO_161002,I,J,D,HB⟩:=hrel
             cases gk with
             |zero=>exact absurd HA.out (by simp[recoupref04_Reduce.l2])
             |succ k4=>
              have H:=HA.out;clear HA;simp only[recoupref04_Reduce.l2]at H;by_cases er:ao<G
              ·rw[if_pos er]at H
               have c56b0:decide (ao<G)=true:=decide_eq_true er;clear er;by_cases gs:0≤ao
               ·rw[if_pos gs]at H
                have c57b0:decide (0≤ao)=true:=decide_eq_true gs;clear gs;by_cases gt:ao<(ae.length:Int)
                ·rw[if_pos gt]at H
                 have c58b0:decide (ao<(ae.length:Int))=true:=decide_eq_true gt;clear gt;obtain⟨jc,dw⟩: ∃y_:List Int,y_=(ae.set (ao:Int).toNat ao):=⟨_,rfl⟩
                 replace H:(recoupref04_Reduce.l2 k4 O ak (O.length:Int) ag jc (wrap64 (ao+1)) G U L)=some (r1,r2,r3,r4,r5):=by first|(rw[dw];with_reducible exact H)|(have H2_:=(Option.bind_some _ _).symm.trans H;rw[dw];with_reducible exact H2_)|(have H2_:=(Option.bind_some _ _).symm.trans H;with_reducible exact H2_)|with_reducible exact H|(rw[dw];exact H)|exact H
                 have kc:=aK dw;clear dw;have H':=aK H;clear H;have pv:=ab.out;have qj:=X.out;have pw:=ac.out;have qk:=Y.out;obtain⟨et,eu,ev,fb,fc,fd⟩:=cell3 D;have p59:0≤(ao:Int):=of_decide_eq_true asE;have f7:(ao:Int)<((ae.length:Int):Int):=of_decide_eq_true asE;obtain⟨ee,gh,js,jv,na,rb,jo⟩:=Kd.R_form HO_10.out zz
                 (first|cases js|(injection js with ea_ en_ ec_;(first|subst ea_|(injection ea_ with ea_;subst ea_));subst ec_;clear en_))
                 have mu:=aK jv;have q1:=aK jo;clear jv na jo;obtain⟨gi,nv⟩:=Kd.R_celln 0 HO_10.out (ao:Int) p59 f7;replace p59:=eq_true p59;replace f7:=eq_true f7;have ii:=Kd.R_putg HO_10.out (ao:Int) ao
                 go_wp2_with (first|((with_reducible refine gate_store (t:=3) (p:=70) rfl ?_);refine store_event (t:=3) (p:=70) (v:=?vo_w64) (w1:=(wr.setCell ⟨ee,(ao:Int).toNat,none⟩ (.int .i64 ao))) ?hg ?ho ?hn ?hr ?_;(case ho=>rfl);(case hg=>rfl);(case hn=>rfl);(case hr=>first|(go_simp;done)|(go_simp;rfl));intro w64 hw;have hg:wr.grownBy w64 (some ee):=(by rw[hw];exact ii.2);have hp_:Kd.R (Kd.int .i64) 3 w64 w.heap.size (fun k_=>some k_≠(.slice b2 O.length b4:Value).ownBlock) (.slice (some ⟨ee,0,none⟩) ae.length gh) jc:=(by rw[hw,kc.out];exact ii.1);clear ii;replace HO_6:=aK (Kd.R_after (v:=(.slice (some ⟨ee,0,none⟩) ae.length gh)) (v1:=(.slice (some ⟨ee,0,none⟩) ae.length gh)) (ok:=(fun _=>True)) (by(with_reducible repeat(first|apply Kd.R_alloc|apply Kd.R_drewN|apply Kd.R_drew));exact Kd.R_mono HO_6.out (fun _ hk=>⟨trivial,hk⟩)) hg (.inl rfl));replace HO_161002:=aK (Kd.R_over' (v:=(.slice (some ⟨ee,0,none⟩) ae.length gh)) (kdA HO_161002.out) (Kd.R_typed HO_10.out) zaa hg);replace I:=bkG I hg (Kd.R_ne HO_10.out I.out zaa);replace J:=bkG J hg (Kd.R_ne HO_10.out J.out zaa);replace D:=bkG D hg (Kd.R_ne HO_10.out D.out zaa);replace HO_10:=aK (hp_);replace HB:=aK ((by rw[hw];exact below_set (HB.out) mu.out:Below w.heap.size w w64));clear hg hw hp_))
                 go_roundg k4
                 case measure=>have:=b7.out;have:=a2.out;have:=b3.out;have:=ea.out;omega
                 case rel=>exact⟨(jc),(wrap64 (ao+1)),rsE,H',⟨by have:=b7.out;have:=a2.out;have:=b3.out;have:=ea.out;omega⟩,⟨by(with_reducible repeat(first|apply Kd.R_alloc|apply Kd.R_drewN|apply Kd.R_drew));exact Kd.R_mono HO_6.out (fun _ hk=>hk.2)⟩,⟨kdA HO_10.out⟩,⟨kdA HO_161002.out⟩,⟨bkA I.out⟩,⟨bkA J.out⟩,⟨bkA D.out⟩,⟨hbA HB.out⟩⟩
                ·rw[if_neg gt]at H
                 exact absurd H zac
               ·rw[if_neg gs]at H
                exact absurd H zac
              ·rw[if_neg er]at H
               have c56b0:decide (ao<G)=false:=decide_eq_false er;clear er;by_cases gu:0≤(O.length:Int)
               ·rw[if_pos gu]at H
                have c65b0:decide (0≤(O.length:Int))=true:=decide_eq_true gu;have c65b1:decide (0≤O.length)=true:=decide_eq_true zz;clear gu;by_cases f4:(O.length:Int)<(ae.length:Int)
                ·rw[if_pos f4]at H
                 have c66b0:decide ((O.length:Int)<(ae.length:Int))=true:=decide_eq_true f4;have c66b1:decide (O.length<ae.length)=true:=decide_eq_true (Int.ofNat_lt.mp f4);clear f4;obtain⟨jd,dx⟩: ∃y_:List Int,y_=(ae.set ((O.length:Int):Int).toNat ag):=⟨_,rfl⟩
                 replace H:(if 0≤ag then(if ag<(ae.length:Int)then((recoupref03_Pick.f k4 G U L (jd.set (ag:Int).toNat (O.length:Int))).bind fun ah=>((recoupref03_At.f ah.1 ah.2.1 ah.2.2.1 (O.length:Int) ak).bind fun d3=>((recoupref01_Inv.f k4 d3).bind fun f2=>((recoupref03_Row.f k4 ah.1 ah.2.1 ah.2.2.1 (O.length:Int)).bind fun f3=>((recoupref01_Scale.f k4 f2.1 f3.1).bind fun b6=>(if 0≤(wrap64 ((O.length:Int)*ah.2.1))then(if(wrap64 ((O.length:Int)*ah.2.1))<(ah.2.2.1.length:Int)then(recoupref04_Reduce.l3 k4 O ak (O.length:Int) b6 0 ah.1 ah.2.1 (copyL ah.2.2.1 (wrap64 ((O.length:Int)*ah.2.1)) b6))else(none))else(none)))))))else(none))else(none))=some (r1,r2,r3,r4,r5):=by first|(rw[dx];with_reducible exact H)|(have H2_:=(Option.bind_some _ _).symm.trans H;rw[dx];with_reducible exact H2_)|(have H2_:=(Option.bind_some _ _).symm.trans H;with_reducible exact H2_)|with_reducible exact H|(rw[dx];exact H)|exact H
                 have kd:=aK dx;clear dx;by_cases gv:0≤ag
                 ·rw[if_pos gv]at H
                  have c68b0:decide (0≤ag)=true:=decide_eq_true gv;clear gv;by_cases gw:ag<(ae.length:Int)
                  ·rw[if_pos gw]at H
                   have c69b0:decide (ag<(ae.length:Int))=true:=decide_eq_true gw;clear gw;obtain⟨d9,dy⟩: ∃y_:List Int,y_=(jd.set (ag:Int).toNat (O.length:Int)):=⟨_,rfl⟩
                   replace H:((recoupref03_Pick.f k4 G U L d9).bind fun ah=>((recoupref03_At.f ah.1 ah.2.1 ah.2.2.1 (O.length:Int) ak).bind fun d3=>((recoupref01_Inv.f k4 d3).bind fun f2=>((recoupref03_Row.f k4 ah.1 ah.2.1 ah.2.2.1 (O.length:Int)).bind fun f3=>((recoupref01_Scale.f k4 f2.1 f3.1).bind fun b6=>(if 0≤(wrap64 ((O.length:Int)*ah.2.1))then(if(wrap64 ((O.length:Int)*ah.2.1))<(ah.2.2.1.length:Int)then(recoupref04_Reduce.l3 k4 O ak (O.length:Int) b6 0 ah.1 ah.2.1 (copyL ah.2.2.1 (wrap64 ((O.length:Int)*ah.2.1)) b6))else(none))else(none)))))))=some (r1,r2,r3,r4,r5):=by first|(rw[dy];with_reducible exact H)|(have H2_:=(Option.bind_some _ _).symm.trans H;rw[dy];with_reducible exact H2_)|(have H2_:=(Option.bind_some _ _).symm.trans H;with_reducible exact H2_)|with_reducible exact H|(rw[dy];exact H)|exact H
                   have ke:=aK dy;clear dy;obtain⟨⟨an,ai,aj,nr⟩,mo,H⟩:=bindO H
                   (try dsimp only at H)
                   obtain⟨d3,mq,H⟩:=bindO H
                   (try dsimp only at H)
                   obtain⟨⟨ja,nt⟩,mr,H⟩:=bindO H
                   (try dsimp only at H)
                   obtain⟨⟨d4,nu⟩,ms,H⟩:=bindO H
                   (try dsimp only at H)
                   obtain⟨b6,mt,H⟩:=bindO H
                   (try dsimp only at H)
                   obtain⟨b5,cf⟩: ∃j_:Int,(wrap64 ((O.length:Int)*ai))=j_:=⟨_,rfl⟩
                   replace H:(if 0≤(b5)then(if(b5)<(aj.length:Int)then(recoupref04_Reduce.l3 k4 O ak (O.length:Int) b6 0 an ai (copyL aj (b5) b6))else(none))else(none))=some (r1,r2,r3,r4,r5):=by first|(rw[cf]at H;exact H)|(simp only[cf]at H⊢;exact H)
                   (try rw[cf]at mo)
                   (try rw[cf]at mq)
                   (try rw[cf]at mr)
                   (try rw[cf]at ms)
                   (try rw[cf]at mt)
                   have hji76w:(IntKind.i64.wrap ((O.length:Int)*ai))=b5:=(i64_w _).trans cf;by_cases gx:0≤(b5)
                   ·rw[if_pos gx]at H
                    have c77b0:decide (0≤(b5))=true:=decide_eq_true gx;clear gx;by_cases gy:(b5)<(aj.length:Int)
                    ·rw[if_pos gy]at H
                     have c78b0:decide ((b5)<(aj.length:Int))=true:=decide_eq_true gy;clear gy;obtain⟨je,dz⟩: ∃y_:List Int,y_=(copyL aj (b5) b6):=⟨_,rfl⟩
                     replace H:(recoupref04_Reduce.l3 k4 O ak (O.length:Int) b6 0 an ai je)=some (r1,r2,r3,r4,r5):=by first|(rw[dz];with_reducible exact H)|(have H2_:=(Option.bind_some _ _).symm.trans H;rw[dz];with_reducible exact H2_)|(have H2_:=(Option.bind_some _ _).symm.trans H;with_reducible exact H2_)|with_reducible exact H|(rw[dz];exact H)|exact H
                     have kf:=aK dz;clear dz;have H':=aK H;clear H;have px:=ab.out;have ql:=X.out;have py:=ac.out;have qm:=Y.out;obtain⟨ew,ex,ey,fe,ff,fg⟩:=cell3 D;have p67:0≤((O.length:Int):Int):=of_decide_eq_true asE;have f8:((O.length:Int):Int)<((ae.length:Int):Int):=of_decide_eq_true asE;obtain⟨a4,cb,jt,jw,nb,rc,jp⟩:=Kd.R_form HO_10.out zz
                     (first|cases jt|(injection jt with ea_ en_ ec_;(first|subst ea_|(injection ea_ with ea_;subst ea_));subst ec_;clear en_))
                     have jl:=aK jw;have q2:=aK jp;clear jw nb jp;obtain⟨el,jj⟩:=Kd.R_celln 0 HO_10.out ((O.length:Int):Int) p67 f8;replace p67:=eq_true p67;replace f8:=eq_true f8;have kw:=el;have kv:=jj;simp only[Int.toNat_natCast]at kw kv;have ij:=Kd.R_putg HO_10.out ((O.length:Int):Int) ag
                     go_wp2_with (first|((with_reducible refine gate_store (t:=3) (p:=77) rfl ?_);refine store_event (t:=3) (p:=77) (v:=?vo_w84) (w1:=(wr.setCell ⟨a4,((O.length:Int):Int).toNat,none⟩ (.int .i64 ag))) ?hg ?ho ?hn ?hr ?_;(case ho=>rfl);(case hg=>rfl);(case hn=>rfl);(case hr=>first|(go_simp;done)|(go_simp;rfl));intro jb hw;have hg:wr.grownBy jb (some a4):=(by rw[hw];exact ij.2);have hp_:Kd.R (Kd.int .i64) 3 jb w.heap.size (fun k_=>some k_≠(.slice b2 O.length b4:Value).ownBlock) (.slice (some ⟨a4,0,none⟩) ae.length cb) jd:=(by rw[hw,kd.out];exact ij.1);clear ij;replace HO_6:=aK (Kd.R_after (v:=(.slice (some ⟨a4,0,none⟩) ae.length cb)) (v1:=(.slice (some ⟨a4,0,none⟩) ae.length cb)) (ok:=(fun _=>True)) (by(with_reducible repeat(first|apply Kd.R_alloc|apply Kd.R_drewN|apply Kd.R_drew));exact Kd.R_mono HO_6.out (fun _ hk=>⟨trivial,hk⟩)) hg (.inl rfl));replace HO_161002:=aK (Kd.R_over' (v:=(.slice (some ⟨a4,0,none⟩) ae.length cb)) (kdA HO_161002.out) (Kd.R_typed HO_10.out) zaa hg);replace I:=bkG I hg (Kd.R_ne HO_10.out I.out zaa);replace J:=bkG J hg (Kd.R_ne HO_10.out J.out zaa);replace D:=bkG D hg (Kd.R_ne HO_10.out D.out zaa);replace HO_10:=aK (hp_);replace HB:=aK ((by rw[hw];exact below_set (HB.out) jl.out:Below w.heap.size w jb));clear hg hw hp_;have p70:0≤(ag:Int):=of_decide_eq_true asE;have f9:(ag:Int)<((ae.length:Int):Int):=of_decide_eq_true asE;obtain⟨gj,nw⟩:=Kd.R_celln 0 HO_10.out (ag:Int) p70 f9;replace p70:=eq_true p70;replace f9:=eq_true f9;obtain⟨hy85_,hz85_⟩:=Kd.R_celln 0 HO_10.out (ag:Int) (of_decide_eq_true asE) (of_decide_eq_true asE);have ik:=Kd.R_putg HO_10.out (ag:Int) (O.length:Int))|((with_reducible refine gate_store (t:=3) (p:=78) rfl ?_);refine store_event (t:=3) (p:=78) (v:=?vo_w86) (w1:=(jb.setCell ⟨a4,(ag:Int).toNat,none⟩ (.int .i64 (O.length:Int)))) ?hg ?ho ?hn ?hr ?_;(case ho=>rfl);(case hg=>rfl);(case hn=>rfl);(case hr=>first|(go_simp;done)|(go_simp;rfl));intro kx hw;have hg:jb.grownBy kx (some a4):=(by rw[hw];exact ik.2);have hp_:Kd.R (Kd.int .i64) 3 kx w.heap.size (fun k_=>some k_≠(.slice b2 O.length b4:Value).ownBlock) (.slice (some ⟨a4,0,none⟩) ae.length cb) d9:=(by rw[hw,ke.out];exact ik.1);clear ik;replace HO_6:=aK (Kd.R_after (v:=(.slice (some ⟨a4,0,none⟩) ae.length cb)) (v1:=(.slice (some ⟨a4,0,none⟩) ae.length cb)) (ok:=(fun _=>True)) (kdA HO_6.out) hg (.inl rfl));replace HO_161002:=aK (Kd.R_over' (v:=(.slice (some ⟨a4,0,none⟩) ae.length cb)) (kdA HO_161002.out) (Kd.R_typed HO_10.out) zaa hg);replace I:=bkG I hg (Kd.R_ne HO_10.out I.out zaa);replace J:=bkG J hg (Kd.R_ne HO_10.out J.out zaa);replace D:=bkG D hg (Kd.R_ne HO_10.out D.out zaa);replace HO_10:=aK (hp_);replace HB:=aK ((by rw[hw];exact below_set (HB.out) jl.out:Below w.heap.size w kx));clear hg hw hp_;obtain⟨ez,e0,e1,fh,fi,fj⟩:=cell3 D;obtain⟨b8,cd,m7⟩:=Kd.R_slice HO_161002.out;subst m7)|((with_reducible refine gC 16 rfl ?_);refine goesL_ (some 82) rfl rfl Tryd.func16 zab rfl #[.agg #[.int .i64 G,.int .i64 U,.slice b8 L.length cd],.slice (some ⟨a4,0,none⟩) d9.length cb] rfl (by(try simp only[List.map_toArray,List.map_cons,List.map_nil]);first|done|(rw[show d9.length=ae.length from(Kd.R_reads' HO_10.out).1.symm]<;>rfl)|rfl|(simp only[List.length_drop,List.length_take];rfl)) ?_;(with_reducible refine(recoupref03_Pick.calls k4 G U _ _ L _ _ d9 an ai aj nr _ ?side1 ?side2 ?side3 ?side4 mo.out).mono ?_);(case side1=>exact kcA (Kd.R_reads' HO_161002.out).2.2);(case side2=>exact(Kd.R_reads' HO_161002.out).2.1);(case side3=>exact kcA (Kd.R_reads' HO_10.out).2.2);(case side4=>rw[show d9.length=ae.length from(Kd.R_reads' HO_10.out).1.symm];exact(Kd.R_reads' HO_10.out).2.1);rintro e sb ⟨rn,rfl,cg,hb⟩;refine⟨_,rfl,?_⟩;replace HO_6:=kdB HO_6 hb;replace HO_10:=kdB HO_10 hb;have af:=aK (Kd.R_lower (Kd.R_new' cg (Kd.R_lt (kdA HO_161002.out))) (below_size (hbA HB.out)));replace HO_161002:=aK (Kd.R_elder' (kdA HO_161002.out) (Kd.R_base cg) hb);replace I:=bkB I hb;replace J:=bkB J hb;replace D:=bkB D hb;replace HB:=hbB HB hb;(try clear hb);(try clear cg);obtain⟨e2,e3,e4,fk,fl,fm⟩:=cell3 D;obtain⟨b9,ax,m8⟩:=Kd.R_slice af.out;subst m8)|((with_reducible refine gC 40 rfl ?_);refine cG (some 89) Tryd.func40 #[.agg #[.int .i64 an,.int .i64 ai,.slice b9 aj.length ax],.int .i64 (O.length:Int),.int .i64 ak] ?_;(with_reducible refine(recoupref03_At.calls an ai _ _ aj (O.length:Int) ak d3 _ ?side1 ?side2 mq.out).mono ?_);(case side1=>refine(Kd.R_reads' (e:=5) (base:=w.heap.size) (ok:=fun k_=>(True∧some k_≠(.slice b8 L.length cd:Value).ownBlock)) (n:=aj.length) (c:=ax) ?_).2.2;exact(by(with_reducible repeat(first|apply Kd.R_alloc|apply Kd.R_drewN|apply Kd.R_drew));exact(zF af.out D.out  (.int .i64 an)  (.int .i64 ai)  (.slice b9 aj.length ax))));(case side2=>exact(Kd.R_reads' af.out).2.1);rintro e d7 ⟨rfl,hb⟩;refine⟨_,rfl,?_⟩;replace HO_6:=aK (Kd.R_below (by(with_reducible repeat(first|apply Kd.R_alloc|apply Kd.R_drewN|apply Kd.R_drew));exact(zF HO_6.out D.out  (.int .i64 an)  (.int .i64 ai)  (.slice b9 aj.length ax))) hb);replace HO_10:=aK (Kd.R_below (by(with_reducible repeat(first|apply Kd.R_alloc|apply Kd.R_drewN|apply Kd.R_drew));exact(zF HO_10.out D.out  (.int .i64 an)  (.int .i64 ai)  (.slice b9 aj.length ax))) hb);replace HO_161002:=aK (Kd.R_below (by(with_reducible repeat(first|apply Kd.R_alloc|apply Kd.R_drewN|apply Kd.R_drew));exact(zF HO_161002.out D.out  (.int .i64 an)  (.int .i64 ai)  (.slice b9 aj.length ax))) hb);replace af:=aK (Kd.R_below (by(with_reducible repeat(first|apply Kd.R_alloc|apply Kd.R_drewN|apply Kd.R_drew));exact(zF af.out D.out  (.int .i64 an)  (.int .i64 ai)  (.slice b9 aj.length ax))) hb);replace I:=aK (blk_below (g:=a3) (o:= .cells #[.int .i64 av,.int .i64 aw,.slice a0 au.length a1] 24 (0,0)) (by refine bkR ?_;refine blk_far ?_ X.out _;refine bkR ?_;refine blk_far ?_ X.out _;refine bkR ?_;refine blk_far ?_ X.out _;refine bkR ?_;exact I.out) hb);replace J:=aK (blk_below (g:=ar) (o:= .cells #[.int .i64 0,.int .i64 0,.slice none 0 0] 24 (0,0)) (by refine bkR ?_;refine blk_far ?_ Y.out _;refine bkR ?_;refine blk_far ?_ Y.out _;refine bkR ?_;refine blk_far ?_ Y.out _;refine bkR ?_;exact J.out) hb);replace D:=aK (blk_below (g:=ay) (o:= .cells #[.int .i64 an,.int .i64 ai,.slice b9 aj.length ax] 24 (0,0)) (by refine bkR ?_;refine blk_put (cs:= #[.int .i64 an,.int .i64 ai,.slice b8 L.length cd]) ?_ 2 _ rfl;refine bkR ?_;refine blk_put (cs:= #[.int .i64 an,.int .i64 U,.slice b8 L.length cd]) ?_ 1 _ rfl;refine bkR ?_;refine blk_put (cs:= #[.int .i64 G,.int .i64 U,.slice b8 L.length cd]) ?_ 0 _ rfl;refine bkR ?_;exact D.out) hb);replace HB:=hbB HB hb;(try clear hb))|((with_reducible refine gC 60 rfl ?_);refine cG (some 90) Tryd.func60 #[.int .u8 d3] ?_;(with_reducible refine(recoupref01_Inv.calls k4 d3 ja nt _ mr.out).mono ?_);rintro e w' ⟨rfl,⟨nd,rfl⟩⟩;refine⟨_,rfl,?_⟩;(try(rw[drewN_self d7];generalize hq_:World.drewN d7 _=d7;have n0_:Aside0 (Kd.R (Kd.int .u8) 5 d7 w.heap.size (fun k_=>some k_≠(.slice b8 L.length cd:Value).ownBlock) (.slice b9 aj.length ax) aj):=⟨by rw[←hq_];exact(by(with_reducible repeat(first|apply Kd.R_alloc|apply Kd.R_drewN|apply Kd.R_drew));exact Kd.R_mono af.out (fun _ hk=>hk.2))⟩;have n1_:Aside0 (Kd.R (Kd.int .i64) 3 d7 w.heap.size (fun k_=>some k_≠(.slice b2 O.length b4:Value).ownBlock) (.slice (some ⟨a4,0,none⟩) ae.length cb) d9):=⟨by rw[←hq_];exact(kdA HO_10.out)⟩;have n2_:Aside0 (Kd.R (Kd.int .u8) 5 d7 w.heap.size (fun k_=>some k_≠(.slice b9 aj.length ax:Value).ownBlock) (.slice b8 L.length cd) L):=⟨by rw[←hq_];exact(by(with_reducible repeat(first|apply Kd.R_alloc|apply Kd.R_drewN|apply Kd.R_drew));exact Kd.R_mono HO_161002.out (fun _ hk=>hk.2))⟩;have n3_:Aside0 (Kd.R (Kd.int .i64) 3 d7 w.heap.size (fun k_=>some k_≠(.slice (some ⟨a4,0,none⟩) ae.length cb:Value).ownBlock) (.slice b2 O.length b4) O):=⟨by rw[←hq_];exact(by(with_reducible repeat(first|apply Kd.R_alloc|apply Kd.R_drewN|apply Kd.R_drew));exact Kd.R_mono HO_6.out (fun _ hk=>hk.2))⟩;have n4_:Aside0 (d7.heap[a3]? =some (.cells #[.int .i64 av,.int .i64 aw,.slice a0 au.length a1] 24 (0,0))):=⟨by rw[←hq_];exact(bkA I.out)⟩;have n5_:Aside0 (d7.heap[ar]? =some (.cells #[.int .i64 0,.int .i64 0,.slice none 0 0] 24 (0,0))):=⟨by rw[←hq_];exact(bkA J.out)⟩;have n6_:Aside0 (d7.heap[ay]? =some (.cells #[.int .i64 an,.int .i64 ai,.slice b9 aj.length ax] 24 (0,0))):=⟨by rw[←hq_];exact(bkA D.out)⟩;have n7_:Aside0 (Below w.heap.size w d7):=⟨by rw[←hq_];exact(hbA HB.out)⟩;clear af HO_10 HO_161002 HO_6 I J D HB hq_;have af:=n0_;have HO_10:=n1_;have HO_161002:=n2_;have HO_6:=n3_;have I:=n4_;have J:=n5_;have D:=n6_;have HB:=n7_;clear n0_ n1_ n2_ n3_ n4_ n5_ n6_ n7_));obtain⟨e5,e6,e7,fo,fp,fq⟩:=cell3 D)|((with_reducible refine gC 38 rfl ?_);refine cG (some 96) Tryd.func38 #[.agg #[.int .i64 an,.int .i64 ai,.slice b9 aj.length ax],.int .i64 (O.length:Int)] ?_;(with_reducible refine(recoupref03_Row.calls k4 an ai _ _ aj (O.length:Int) d4 nu _ ?side1 ?side2 ms.out).mono ?_);(case side1=>exact kcA (Kd.R_reads' af.out).2.2);(case side2=>exact(Kd.R_reads' af.out).2.1);rintro e sd ⟨ro,rfl,cg,hb⟩;refine⟨_,rfl,?_⟩;replace HO_6:=kdB HO_6 hb;replace HO_10:=kdB HO_10 hb;have ca:=aK (Kd.R_lower (Kd.R_new' (Kd.R_new' cg (Kd.R_lt (kdA HO_161002.out))) (Kd.R_lt (kdA af.out))) (below_size (hbA HB.out)));replace HO_161002:=aK (Kd.R_elder' (kdA HO_161002.out) (Kd.R_base cg) hb);replace af:=aK (Kd.R_elder' (kdA af.out) (Kd.R_base cg) hb);replace I:=bkB I hb;replace J:=bkB J hb;replace D:=bkB D hb;replace HB:=hbB HB hb;(try clear hb);(try clear cg);obtain⟨em,es,m9⟩:=Kd.R_slice ca.out;subst m9)|((with_reducible refine gC 61 rfl ?_);refine cG (some 101) Tryd.func61 #[.int .u8 ja,.slice em d4.length es] ?_;(with_reducible refine(recoupref01_Scale.calls k4 ja _ _ d4 b6 _ ?side1 ?side2 mt.out).mono ?_);(case side1=>exact kcA (Kd.R_reads' ca.out).2.2);(case side2=>exact(Kd.R_reads' ca.out).2.1);rintro e qx ⟨db,rfl,cg,hb⟩;refine⟨_,rfl,?_⟩;replace HO_6:=kdB HO_6 hb;replace HO_10:=kdB HO_10 hb;have eh:=aK (Kd.R_lower (Kd.R_new' (Kd.R_new' (Kd.R_new' cg (Kd.R_lt (kdA HO_161002.out))) (Kd.R_lt (kdA af.out))) (Kd.R_lt (kdA ca.out))) (below_size (hbA HB.out)));replace HO_161002:=aK (Kd.R_elder' (kdA HO_161002.out) (Kd.R_base cg) hb);replace af:=aK (Kd.R_elder' (kdA af.out) (Kd.R_base cg) hb);replace ca:=aK (Kd.R_elder' (kdA ca.out) (Kd.R_base cg) hb);replace I:=bkB I hb;replace J:=bkB J hb;replace D:=bkB D hb;replace HB:=hbB HB hb;(try clear hb);(try clear cg);obtain⟨e8,e9,fa,fs,ft,fu⟩:=cell3 D;have f6:0≤((b5):Int):=of_decide_eq_true asE;have ga:((b5):Int)<((aj.length:Int):Int):=of_decide_eq_true asE;obtain⟨ce,ri,ju,jx,nc,re,jq⟩:=Kd.R_form af.out zz;(first|cases ju|(injection ju with ea_ en_ ec_;(first|subst ea_|(injection ea_ with ea_;subst ea_));subst ec_;clear en_));have mv:=aK jx;have q3:=aK jq;clear jx nc jq;obtain⟨gl,nx⟩:=Kd.R_celln 0 af.out ((b5):Int) f6 ga;replace f6:=eq_true f6;replace ga:=eq_true ga;have n_:=aK (Kd.R_mono (ok':=(fun k_=>some k_≠(.slice b8 L.length cd:Value).ownBlock∧some k_≠(.slice em d4.length es:Value).ownBlock∧some k_≠(db:Value).ownBlock)) af.out (by first|exact fun k_ hk=>⟨hk.1.1.2,⟨hk.1.2,hk.2⟩⟩|exact fun k_ hk=>⟨hk.1.1,⟨hk.1.2,hk.2⟩⟩));clear af;have af:=n_;clear n_;have qq:=of_decide_eq_true c77b0;have nq:=of_decide_eq_true c78b0;obtain⟨jn,rfl⟩:=Int.eq_ofNat_of_zero_le qq;have rz:=(Kd.R_reads' af.out).2.1;have qr:jn<aj.length:=Int.ofNat_lt.1 nq;have r0:jn≤aj.length:=Nat.le_of_lt qr)|((with_reducible refine gate_builtin (b:= .copy) (xs:= #[.tmp 108,.tmp 109]) rfl ?_);obtain⟨sA,sc,eS,_,hS⟩:=Kd.R_reads eh.out;refine copyL_event (d:= .tmp 108) (s:= .tmp 109) (dT:=22) (sT:=22) rfl rfl Tryd.underlying22 zab af.out hS (jn:Int) (Int.natCast_nonneg jn) nq rfl eS rfl rfl ?_;intro ky jm hg nj;clear eS hS;have hg:qx.grownBy ky (some ce):=hg;have hp_:Kd.R (Kd.int .u8) 5 ky w.heap.size (fun k_=>some k_≠(.slice b8 L.length cd:Value).ownBlock∧some k_≠(.slice em d4.length es:Value).ownBlock∧some k_≠(db:Value).ownBlock) (.slice (some ⟨ce,0,none⟩) aj.length ax) je:=(by rw[kf.out];exact nj);replace HO_6:=aK (Kd.R_over' (v:=(.slice (some ⟨ce,0,none⟩) aj.length ax)) (kdA HO_6.out) (Kd.R_typed af.out) zaa hg);replace HO_10:=aK (Kd.R_over' (v:=(.slice (some ⟨ce,0,none⟩) aj.length ax)) (kdA HO_10.out) (Kd.R_typed af.out) zaa hg);replace HO_161002:=aK (Kd.R_after (v:=(.slice (some ⟨ce,0,none⟩) aj.length ax)) (v1:=(.slice (some ⟨ce,0,none⟩) aj.length ax)) (ok:=(fun k_=>some k_≠(.slice em d4.length es:Value).ownBlock∧some k_≠(db:Value).ownBlock)) (by(with_reducible repeat(first|apply Kd.R_alloc|apply Kd.R_drewN|apply Kd.R_drew));exact Kd.R_mono HO_161002.out (by first|exact fun _ hk=>⟨⟨hk.1.2,hk.2⟩,hk.1.1.2⟩|exact fun _ hk=>⟨⟨hk.1.2,hk.2⟩,hk.1.1⟩)) hg (.inl rfl));replace I:=bkG I hg (Kd.R_ne af.out I.out zaa);replace J:=bkG J hg (Kd.R_ne af.out J.out zaa);replace D:=bkG D hg (Kd.R_ne af.out D.out zaa);replace af:=aK (hp_);replace ca:=aK (Kd.R_after (v:=(.slice (some ⟨ce,0,none⟩) aj.length ax)) (v1:=(.slice (some ⟨ce,0,none⟩) aj.length ax)) (ok:=(fun k_=>some k_≠(.slice b8 L.length cd:Value).ownBlock∧some k_≠(db:Value).ownBlock)) (by(with_reducible repeat(first|apply Kd.R_alloc|apply Kd.R_drewN|apply Kd.R_drew));exact Kd.R_mono ca.out (fun _ hk=>⟨⟨hk.1.1.2,hk.2⟩,hk.1.2⟩)) hg (.inl rfl));replace eh:=aK (Kd.R_after (v:=(.slice (some ⟨ce,0,none⟩) aj.length ax)) (v1:=(.slice (some ⟨ce,0,none⟩) aj.length ax)) (ok:=(fun k_=>some k_≠(.slice b8 L.length cd:Value).ownBlock∧some k_≠(.slice em d4.length es:Value).ownBlock)) (by(with_reducible repeat(first|apply Kd.R_alloc|apply Kd.R_drewN|apply Kd.R_drew));exact Kd.R_mono eh.out (fun _ hk=>⟨⟨hk.1.1.2,hk.2⟩,hk.1.2⟩)) hg (.inl rfl));replace HB:=aK ((HB.out.grown hg HB.out.size (fun k_ hk_=>by injection hk_ with hk_;rw[←hk_];exact mv.out):Below w.heap.size w ky));clear hg nj hp_))
                     go_loopg [16] k4 (fun kq qu w'=> ∃(d8:List Int) (aq:Int) (ap:List Int) (Z:Value),qu= .int .i64 aq∧Aside0 (recoupref04_Reduce.l3 kq O ak (O.length:Int) d8 aq an ai ap=some (r1,r2,r3,r4,r5))∧Aside0 (kq≤k4)∧Aside0 (Kd.R (Kd.int .i64) 3 w' w.heap.size (fun _=>True) (.slice b2 O.length b4) O)∧Aside0 (Kd.R (Kd.int .u8) 5 w' w.heap.size (fun k_=>some k_≠(Z:Value).ownBlock) db d8)∧Aside0 (Kd.R (Kd.int .u8) 5 w' w.heap.size (fun k_=>some k_≠(db:Value).ownBlock) Z ap)∧Aside0 (w'.heap[a3]? =some (.cells #[.int .i64 av,.int .i64 aw,(.slice a0 au.length a1)] 24 (0,0)))∧Aside0 (w'.heap[ar]? =some (.cells #[.int .i64 0,.int .i64 0,(.slice none 0 0)] 24 (0,0)))∧Aside0 (w'.heap[ay]? =some (.cells #[.int .i64 an,.int .i64 ai,Z] 24 (0,0)))∧Aside0 (Below w.heap.size w w'))
                     case atStart=>exact⟨(b6),(0),(je),(.slice (some ⟨ce,0,none⟩) aj.length ax),rsE,H',⟨Nat.le_refl _⟩,⟨by(with_reducible repeat(first|apply Kd.R_alloc|apply Kd.R_drewN|apply Kd.R_drew));exact Kd.R_mono HO_6.out (fun _ hk=>trivial)⟩,⟨by(with_reducible repeat(first|apply Kd.R_alloc|apply Kd.R_drewN|apply Kd.R_drew));exact Kd.R_mono eh.out (fun _ hk=>hk.2)⟩,⟨by(with_reducible repeat(first|apply Kd.R_alloc|apply Kd.R_drewN|apply Kd.R_drew));exact Kd.R_mono af.out (fun _ hk=>hk.2.2)⟩,⟨bkA I.out⟩,⟨bkA J.out⟩,⟨bkA D.out⟩,⟨hbA HB.out⟩⟩
                     case round=>
                      clear H'
                      (try clear c1);(try clear c2);(try clear p2 p2);(try clear c3);(try clear c4);(try clear c5);(try clear p5);(try clear q5);(try clear qn);(try clear pa);(try clear c6);(try clear p6 p6);(try clear q6);(try clear qo);(try clear pb);(try clear c7);(try clear p7);(try clear q7);(try clear qp);(try clear pc);(try clear c8);(try clear gq);(try clear gr);(try clear o1);(try clear dc);(try clear c18b0);(try clear io);(try clear ip);(try clear iq);(try clear ir);(try clear ei);(try clear ji);(try clear eb);(try clear c29b0);(try clear df);(try clear c31b0);(try clear c31b1);(try clear kj);(try clear kk);(try clear km);(try clear kn);(try clear ko);(try clear o2);(try clear kp);(try clear kr);(try clear ec);(try clear c45b0);(try clear c45b1);(try clear mw);(try clear mx);(try clear eo);(try clear c49b0);(try clear c49b1);(try clear ep);(try clear c50b0);(try clear c50b1);(try clear my);(try clear mz);(try clear er);(try clear c56b0);(try clear gs);(try clear c57b0);(try clear gt);(try clear c58b0);(try clear p59 p59);(try clear f7 f7);(try clear nl);(try clear nf);(try clear o3);(try clear o4);(try clear p64);(try clear gu);(try clear c65b0);(try clear c65b1);(try clear f4);(try clear c66b0);(try clear c66b1);(try clear p67 p67);(try clear f8 f8);(try clear nm);(try clear ng);(try clear gv);(try clear c68b0);(try clear gw);(try clear c69b0);(try clear p70 p70);(try clear f9 f9);(try clear nn);(try clear nh);(try clear gx);(try clear c77b0);(try clear gy);(try clear c78b0);(try clear f6 f6);(try clear ga ga);(try clear np);(try clear ni);(try clear o5);(try clear o6);(try clear a5 a6 a7 bb bc bd);(try clear a8 a9 ba be bf bg);(try clear bh bi bj bn bo bp);(try clear bk bl bm bq br bs);(try clear ci cj ck cr ct cu);(try clear cl cm cn cv cw cx);(try clear co cp cq cy cz c9);(try clear dg dh di dm dn dp);(try clear dj dk dl dq dr dt);(try clear et eu ev fb fc fd);(try clear ew ex ey fe ff fg);(try clear ez e0 e1 fh fi fj);(try clear bv bw bx bz b0 b1);(try clear e2 e3 e4 fk fl fm);(try clear e5 e6 e7 fo fp fq);(try clear e8 e9 fa fs ft fu);(try clear gi);(try clear el);(try clear gj);(try clear gl)
                      obtain⟨d8,aq,ap,Z,rfl,HA,en,HO_6,HO_14,HO_161002,I,J,D,HB⟩:=hrel
                      cases gk with
                      |zero=>exact absurd HA.out (by simp[recoupref04_Reduce.l3])
                      |succ k5=>
                       have H:=HA.out;clear HA;simp only[recoupref04_Reduce.l3]at H;by_cases de:aq<an
                       ·rw[if_pos de]at H
                        have c100b0:decide (aq<an)=true:=decide_eq_true de;clear de;by_cases da:aq=(O.length:Int)
                        ·rw[if_pos da]at H
                         have c101b0:(aq==(O.length:Int))=true:=beq_iff_eq.mpr da;have c101b1:(aq !=(O.length:Int))=false:=bne_eq_false_iff_eq.mpr da;clear da;have H':=aK H;clear H;have ny:=ab.out;have oc:=X.out;have nz:=ac.out;have od:=Y.out;obtain⟨gz,g0,g1,g5,g6,g7⟩:=cell3 D;go_wp2
                         go_roundg k5
                         case measure=>have:=b7.out;have:=a2.out;have:=b3.out;have:=ea.out;have:=en.out;omega
                         case rel=>exact⟨(d8),(wrap64 (aq+1)),(ap),(Z),rsE,H',⟨by have:=b7.out;have:=a2.out;have:=b3.out;have:=ea.out;have:=en.out;omega⟩,⟨kdA HO_6.out⟩,⟨kdA HO_14.out⟩,⟨kdA HO_161002.out⟩,⟨bkA I.out⟩,⟨bkA J.out⟩,⟨bkA D.out⟩,⟨hbA HB.out⟩⟩
                        ·rw[if_neg da]at H
                         have c101b0:(aq==(O.length:Int))=false:=beq_eq_false_iff_ne.mpr da;have c101b1:(aq !=(O.length:Int))=true:=bne_iff_ne.mpr da;obtain⟨d5,ml,H⟩:=bindO H
                         (try dsimp only at H)
                         have H':=aK H;clear H;have n0:=ab.out;have oe:=X.out;have n1:=ac.out;have og:=Y.out;obtain⟨g2,g3,g4,g8,g9,ia⟩:=cell3 D;obtain⟨ib,it,ks⟩:=Kd.R_slice HO_161002.out;subst ks
                         go_wp2_with (first|((with_reducible refine gC 40 rfl ?_);refine cG (some 123) Tryd.func40 #[.agg #[.int .i64 an,.int .i64 ai,.slice ib ap.length it],.int .i64 aq,.int .i64 ak] ?_;(with_reducible refine(recoupref03_At.calls an ai _ _ ap aq ak d5 _ ?side1 ?side2 ml.out).mono ?_);(case side1=>exact kcA (Kd.R_reads' HO_161002.out).2.2);(case side2=>exact(Kd.R_reads' HO_161002.out).2.1);rintro e rq ⟨rfl,hb⟩;refine⟨_,rfl,?_⟩;replace HO_6:=kdB HO_6 hb;replace HO_14:=kdB HO_14 hb;replace HO_161002:=kdB HO_161002 hb;replace I:=bkB I hb;replace J:=bkB J hb;replace D:=bkB D hb;replace HB:=hbB HB hb;(try clear hb)))
                         go_loopg [18] k5 (fun kq qv w'=> ∃(az:List Int) (am:Int) (aa:List Int) (Z:Value),qv= .int .i64 am∧Aside0 (recoupref04_Reduce.l4 kq O ak (O.length:Int) az aq d5 am an ai aa=some (r1,r2,r3,r4,r5))∧Aside0 (kq≤k5)∧Aside0 (Kd.R (Kd.int .i64) 3 w' w.heap.size (fun _=>True) (.slice b2 O.length b4) O)∧Aside0 (Kd.R (Kd.int .u8) 5 w' w.heap.size (fun k_=>some k_≠(Z:Value).ownBlock) db az)∧Aside0 (Kd.R (Kd.int .u8) 5 w' w.heap.size (fun k_=>some k_≠(db:Value).ownBlock) Z aa)∧Aside0 (w'.heap[a3]? =some (.cells #[.int .i64 av,.int .i64 aw,(.slice a0 au.length a1)] 24 (0,0)))∧Aside0 (w'.heap[ar]? =some (.cells #[.int .i64 0,.int .i64 0,(.slice none 0 0)] 24 (0,0)))∧Aside0 (w'.heap[ay]? =some (.cells #[.int .i64 an,.int .i64 ai,Z] 24 (0,0)))∧Aside0 (Below w.heap.size w w'))
                         case atStart=>exact⟨(d8),(0),(ap),(.slice ib ap.length it),rsE,H',⟨Nat.le_refl _⟩,⟨kdA HO_6.out⟩,⟨kdA HO_14.out⟩,⟨kdA HO_161002.out⟩,⟨bkA I.out⟩,⟨bkA J.out⟩,⟨bkA D.out⟩,⟨hbA HB.out⟩⟩
                         case round=>
                          clear H'
                          (try clear c1);(try clear c2);(try clear p2 p2);(try clear c3);(try clear c4);(try clear c5);(try clear p5 p5);(try clear q5 q5);(try clear qn);(try clear pa);(try clear c6);(try clear p6 p6);(try clear q6 q6);(try clear qo);(try clear pb);(try clear c7);(try clear p7 p7);(try clear q7 q7);(try clear qp);(try clear pc);(try clear c8);(try clear ry);(try clear gq);(try clear gr);(try clear o1);(try clear dc);(try clear c18b0);(try clear io);(try clear ip);(try clear iq);(try clear ir);(try clear ei);(try clear ji);(try clear eb);(try clear c29b0);(try clear df);(try clear c31b0);(try clear c31b1);(try clear kj);(try clear kk);(try clear km);(try clear kn);(try clear ko);(try clear o2);(try clear kp);(try clear kr);(try clear ec);(try clear c45b0);(try clear c45b1);(try clear mw);(try clear mx);(try clear eo);(try clear c49b0);(try clear c49b1);(try clear ep);(try clear c50b0);(try clear c50b1);(try clear my);(try clear mz);(try clear er);(try clear c56b0);(try clear gs);(try clear c57b0);(try clear gt);(try clear c58b0);(try clear p59 p59);(try clear f7 f7);(try clear nl);(try clear nf);(try clear o3);(try clear o4);(try clear p64 p64);(try clear gu);(try clear c65b0);(try clear c65b1);(try clear f4);(try clear c66b0);(try clear c66b1);(try clear p67 p67);(try clear f8 f8);(try clear nm);(try clear ng);(try clear gv);(try clear c68b0);(try clear gw);(try clear c69b0);(try clear p70 p70);(try clear f9 f9);(try clear nn);(try clear nh);(try clear gx);(try clear c77b0);(try clear gy);(try clear c78b0);(try clear f6 f6);(try clear ga ga);(try clear np);(try clear ni);(try clear o5);(try clear o6);(try clear de);(try clear c100b0);(try clear da);(try clear c101b0);(try clear c101b1);(try clear q4);(try clear q8);(try clear q9);(try clear ra);(try clear gz g0 g1 g5 g6 g7);(try clear g2 g3 g4 g8 g9 ia);(try clear a5 a6 a7 bb bc bd);(try clear a8 a9 ba be bf bg);(try clear bh bi bj bn bo bp);(try clear bk bl bm bq br bs);(try clear ci cj ck cr ct cu);(try clear cl cm cn cv cw cx);(try clear co cp cq cy cz c9);(try clear dg dh di dm dn dp);(try clear dj dk dl dq dr dt);(try clear et eu ev fb fc fd);(try clear ew ex ey fe ff fg);(try clear ez e0 e1 fh fi fj);(try clear bv bw bx bz b0 b1);(try clear e2 e3 e4 fk fl fm);(try clear e5 e6 e7 fo fp fq);(try clear e8 e9 fa fs ft fu);(try clear gi);(try clear el);(try clear gj);(try clear gl)
                          obtain⟨az,am,aa,Z,rfl,HA,jg,HO_6,HO_14,HO_161002,I,J,D,HB⟩:=hrel
                          cases gk with
                          |zero=>exact absurd HA.out (by simp[recoupref04_Reduce.l4])
                          |succ k6=>
                           have H:=HA.out;clear HA;simp only[recoupref04_Reduce.l4]at H;by_cases ed:am<ai
                           ·rw[if_pos ed]at H
                            have c111b0:decide (am<ai)=true:=decide_eq_true ed;clear ed;obtain⟨al,ek⟩: ∃j_:Int,(wrap64 ((wrap64 (aq*ai))+am))=j_:=⟨_,rfl⟩
                            replace H:(if 0≤(al)then(if(al)<(aa.length:Int)then(if 0≤am then(if am<(az.length:Int)then((recoupref01_Mul.f k6 d5 (rd az am)).bind fun d6=>(recoupref04_Reduce.l4 k6 O ak (O.length:Int) az aq d5 (wrap64 (am+1)) an ai (aa.set ((al):Int).toNat (Go.bits .xor .u8 (rd aa (al)) d6))))else(none))else(none))else(none))else(none))=some (r1,r2,r3,r4,r5):=by first|(rw[ek]at H;exact H)|(simp only[ek]at H⊢;exact H)
                            have hji112w:(IntKind.i64.wrap ((wrap64 (aq*ai))+am))=al:=(i64_w _).trans ek;by_cases gb:0≤(al)
                            ·rw[if_pos gb]at H
                             have c113b0:decide (0≤(al))=true:=decide_eq_true gb;clear gb;by_cases gc:(al)<(aa.length:Int)
                             ·rw[if_pos gc]at H
                              have c114b0:decide ((al)<(aa.length:Int))=true:=decide_eq_true gc;clear gc;by_cases ge:0≤am
                              ·rw[if_pos ge]at H
                               have c115b0:decide (0≤am)=true:=decide_eq_true ge;clear ge;by_cases gf:am<(az.length:Int)
                               ·rw[if_pos gf]at H
                                have c116b0:decide (am<(az.length:Int))=true:=decide_eq_true gf;clear gf;obtain⟨d6,mm,H⟩:=bindO H
                                (try dsimp only at H)
                                obtain⟨j2,d1⟩: ∃y_:List Int,y_=(aa.set ((al):Int).toNat (Go.bits .xor .u8 (rd aa (al)) d6)):=⟨_,rfl⟩
                                replace H:(recoupref04_Reduce.l4 k6 O ak (O.length:Int) az aq d5 (wrap64 (am+1)) an ai j2)=some (r1,r2,r3,r4,r5):=by first|(rw[d1];with_reducible exact H)|(have H2_:=(Option.bind_some _ _).symm.trans H;rw[d1];with_reducible exact H2_)|(have H2_:=(Option.bind_some _ _).symm.trans H;with_reducible exact H2_)|with_reducible exact H|(rw[d1];exact H)|exact H
                                have kh:=aK d1;clear d1;have H':=aK H;clear H;have n2:=ab.out;have oh:=X.out;have n3:=ac.out;have ol:=Y.out;obtain⟨kz,k0,k2,lt,lu,lv⟩:=cell3 D
                                try go_wp2
                                replace HO_6:=aK (Kd.R_drew HO_6.out);replace HO_14:=aK (Kd.R_drew HO_14.out);replace HO_161002:=aK (Kd.R_drew HO_161002.out);replace I:=aK (blk_drew I.out);replace J:=aK (blk_drew J.out);replace D:=aK (blk_drew D.out);replace HB:=aK (below_drew1 HB.out);obtain⟨ow,iu,iw⟩:=Kd.R_slice HO_161002.out
                                (first|subst iw|(injection iw with f1_ f2_ f3_;have f4_:=f1_.symm;have f5_:=f3_.symm;clear f1_ f2_ f3_;subst f4_;subst f5_))
                                have i4:0≤((al):Int):=of_decide_eq_true asE;have i7:(al)<(aa.length:Int):=of_decide_eq_true asE;obtain⟨im,m0,du⟩:=Kd.at_int (Kd.R_reads' HO_161002.out).2.2 (al) i4 i7
                                cases m0
                                replace i4:=eq_true i4;replace i7:=eq_true i7;obtain⟨ox,o9,ix⟩:=Kd.R_slice HO_14.out
                                (first|subst ix|(injection ix with f1_ f2_ f3_;have f4_:=f1_.symm;have f5_:=f3_.symm;clear f1_ f2_ f3_;subst f4_;subst f5_))
                                have i5:0≤(am:Int):=of_decide_eq_true asE;have i8:am<(az.length:Int):=of_decide_eq_true asE;obtain⟨ki,m1,fv⟩:=Kd.at_int (Kd.R_reads' HO_14.out).2.2 am i5 i8
                                cases m1
                                replace i5:=eq_true i5;replace i8:=eq_true i8;refine start_ (n:=19) (S:=fun w'=>w'.cell? ⟨ay,0,none⟩=some (.int .i64 an)∧w'.cell? ⟨ay,1,none⟩=some (.int .i64 ai)∧w'.cell? ⟨ay,2,none⟩=some (.slice (some im) aa.length iu)∧w'.cell? (im.add ((al)).toNat)=some (.int .u8 (rd aa (al)))∧w'.cell? (ki.add (am).toNat)=some (.int .u8 (rd az am))) (ds:= [18]) (.replicate 19 false) zab rfl rfl ⟨(blk_cell D.out 0).trans rfl,(blk_cell D.out 1).trans rfl,(blk_cell D.out 2).trans rfl,du,fv⟩ (fun hHeld=>?_);refine with_tabW recoupref04_Reduce.tab32 recoupref04_Reduce.bits32 (fun HT_ HW_=>?_);generalize wr.drew=rr at HO_6 HO_14 HO_161002 I J D HB du fv hHeld⊢;refine pu 0 (some 130) (mB 19 1) HT_ ?_;refine pu 2 (some 132) (mB 19 5) HT_ ?_;refine pu 3 (some 133) (mB 19 13) HT_ ?_;refine pu 6 (some 136) (mB 19 77) HT_ ?_;refine pu 10 (some 140) (mB 19 1101) HT_ ?_;refine pu 11 (some 141) (mB 19 3149) HT_ ?_;refine pu 12 (some 142) (mB 19 7245) HT_ ?_;refine pu 13 (some 143) (mB 19 15437) HT_ ?_;refine tk5 1 (some 131) (mB 19 15439) HT_ HW_ hHeld ?_;refine tk5 4 (some 134) (mB 19 15455) HT_ HW_ hHeld ?_;refine pu 5 (some 135) (mB 19 15487) HT_ ?_;refine pu 7 (some 137) (mB 19 15615) HT_ ?_;refine pu 8 (some 138) (mB 19 15871) HT_ ?_;refine tk5 9 (some 139) (mB 19 16383) HT_ HW_ hHeld ?_;refine tk5 14 (some 144) (mB 19 32767) HT_ HW_ hHeld ?_;refine zoh 15 (some 145) (mB 19 65535) HT_ fun K hK=>?_;refine goes_ Tryd.func62 zab rfl #[.int .u8 d5,.int .u8 (rd az am)] zad rfl rfl (by(try simp only[List.map_toArray,List.map_cons,List.map_nil]);first|done|rfl|(simp only[List.length_drop,List.length_take];rfl)) ?_;with_reducible refine(recoupref01_Mul.calls k6 d5 (rd az am) d6 _ mm.out).mono ?_
                                rintro e w' ⟨rfl,⟨nd,rfl⟩⟩;refine⟨_,rfl,?_⟩;have i3:0≤((al):Int):=of_decide_eq_true asE;have i6:((al):Int)<((aa.length:Int):Int):=of_decide_eq_true asE;obtain⟨ej,o8,iv,iy,ku,o7,ig⟩:=Kd.R_form HO_161002.out zz
                                (first|cases iv|(injection iv with ea_ en_ ec_;(first|subst ea_|(injection ea_ with ea_;subst ea_));subst ec_;clear en_))
                                have oy:=aK iy;have j6:=aK ig;clear iy ku ig
                                (first|simp only[add_plain]at du|skip)
                                obtain⟨nk,ne⟩:=Kd.R_celln 0 HO_161002.out ((al):Int) i3 i6;replace i3:=eq_true i3;replace i6:=eq_true i6;have fz:=Kd.R_putn HO_161002.out ((al):Int) (Go.bits .xor .u8 (rd aa (al)) d6);rw[←kh.out]at fz
                                have kb:=aK fz;clear fz;refine hK.out _ _ ⟨(blk_cell D.out 0).trans rfl,(blk_cell D.out 1).trans rfl,(blk_cell D.out 2).trans rfl,hHeld.2.2.2.1,hHeld.2.2.2.2⟩ (fun hHeld=>?_);clear hK K;refine znm (some 145) ?_;refine pu 16 (some 146) (mB 19 131071) HT_ ?_;refine pu 17 (some 147) (mB 19 262143) HT_ ?_;refine zlh 18 (none) (mB 19 524287) HT_ fun K hK=>?_;refine zsk ?_;refine hK.out _ _ ?_;clear hK K;refine done_ (done_of HT_.out zab) ?_
                                try go_wp2
                                go_roundg k6
                                case measure=>have:=b7.out;have:=a2.out;have:=b3.out;have:=ea.out;have:=en.out;have:=jg.out;omega
                                case rel=>exact⟨(az),(wrap64 (am+1)),(j2),(.slice (some ⟨ej,0,none⟩) aa.length iu),rsE,H',⟨by have:=b7.out;have:=a2.out;have:=b3.out;have:=ea.out;have:=en.out;have:=jg.out;omega⟩,⟨by(with_reducible repeat(first|apply Kd.R_alloc|apply Kd.R_drewN|apply Kd.R_drew));exact Kd.R_mono (Kd.R_far (p:=⟨ej,((al):Int).toNat,none⟩) (Kd.R_types HO_6.out j6.out zaa) (fun _ hk=>hk.2) (.int .u8 (Go.bits .xor .u8 (rd aa (al)) d6))) (fun _ hk=>trivial)⟩,⟨by(with_reducible repeat(first|apply Kd.R_alloc|apply Kd.R_drewN|apply Kd.R_drew));exact Kd.R_mono (Kd.R_far (p:=⟨ej,((al):Int).toNat,none⟩) (Kd.R_mono HO_14.out (fun k_ hk=>(⟨hk,fun e_=>hk zaf⟩:_∧k_≠ej))) (fun _ hk=>hk.2) (.int .u8 (Go.bits .xor .u8 (rd aa (al)) d6))) (fun _ hk=>hk.1)⟩,⟨kdA kb.out⟩,⟨by refine bkR ?_;refine blk_far ?_ (by have h_:=Kd.R_ne HO_161002.out I.out zaa;intro e_;exact h_ zaf) _;refine bkR ?_;exact I.out⟩,⟨by refine bkR ?_;refine blk_far ?_ (by have h_:=Kd.R_ne HO_161002.out J.out zaa;intro e_;exact h_ zaf) _;refine bkR ?_;exact J.out⟩,⟨by refine bkR ?_;refine blk_far ?_ (by have h_:=Kd.R_ne HO_161002.out D.out zaa;intro e_;exact h_ zaf) _;refine bkR ?_;exact D.out⟩,⟨hbA HB.out⟩⟩
                               ·rw[if_neg gf]at H
                                exact absurd H zac
                              ·rw[if_neg ge]at H
                               exact absurd H zac
                             ·rw[if_neg gc]at H
                              exact absurd H zac
                            ·rw[if_neg gb]at H
                             exact absurd H zac
                           ·rw[if_neg ed]at H
                            have c111b0:decide (am<ai)=false:=decide_eq_false ed;clear ed;have H':=aK H;clear H;have n4:=ab.out;have om:=X.out;have n5:=ac.out;have oo:=Y.out;obtain⟨k7,k8,k9,lw,lx,ly⟩:=cell3 D;go_wp2
                            go_roundg k6
                            case measure=>have:=b7.out;have:=a2.out;have:=b3.out;have:=ea.out;have:=en.out;have:=jg.out;omega
                            case rel=>exact⟨(az),(wrap64 (aq+1)),(aa),(Z),rsE,H',⟨by have:=b7.out;have:=a2.out;have:=b3.out;have:=ea.out;have:=en.out;have:=jg.out;omega⟩,⟨kdA HO_6.out⟩,⟨kdA HO_14.out⟩,⟨kdA HO_161002.out⟩,⟨bkA I.out⟩,⟨bkA J.out⟩,⟨bkA D.out⟩,⟨hbA HB.out⟩⟩
                       ·rw[if_neg de]at H
                        have c100b0:decide (aq<an)=false:=decide_eq_false de;clear de;by_cases gg:O.length<17592186044416
                        ·rw[if_pos gg]at H
                         have jh:=aK gg;clear gg;obtain⟨j0,d0⟩: ∃y_:List Int,y_=(O++ [ak]):=⟨_,rfl⟩
                         replace H:(recoupref04_Reduce.l0 k5 j0 (wrap64 (ak+1)) an ai ap)=some (r1,r2,r3,r4,r5):=by first|(rw[d0];with_reducible exact H)|(have H2_:=(Option.bind_some _ _).symm.trans H;rw[d0];with_reducible exact H2_)|(have H2_:=(Option.bind_some _ _).symm.trans H;with_reducible exact H2_)|with_reducible exact H|(rw[d0];exact H)|exact H
                         have kg:=aK d0;clear d0;have H':=aK H;clear H;have n6:=ab.out;have op:=X.out;have n7:=ac.out;have oq:=Y.out;obtain⟨la,lb,lc,lz,l5,l6⟩:=cell3 D
                         go_wp2_with (first|((with_reducible refine gate_builtin (b:= .append) (xs:= #[.tmp 148,.tmp 150]) rfl ?_);(try(refine gate_guard zad ?_;dsimp only));at_builtin;refine Kd.R_append (Kd.int .i64) (w0:=w) w.heap.size rfl (.tmp 148) (.tmp 150) 42 3 (.int .i64 0) 8 rfl Tryd.underlying42 info3 rfl zaa zz (.slice b2 O.length b4) O ak [.int .i64 ak] (fun _=>True) (fun _=>False) rfl rfl ?aP (fun _ hk=>hk.elim) ?aF ?aO ?aB ?aS ?aL ?_;(case aP=>exact rfl);(case aB=>exact(hbA HB.out));(case aF=>exact(fun _ _=>trivial));(case aO=>exact(kdA HO_6.out));(case aS=>exact(below_size (hbA HB.out)));(case aL=>have:=jh.out;omega);intro rp rt ho hb hg hat;rw[←kg.out]at ho;have n0_:=aK (Kd.R_over' (kdA HO_14.out) (Kd.R_typed (kdA HO_6.out)) zaa hg);have n1_:=aK (Kd.R_over' (kdA HO_161002.out) (Kd.R_typed (kdA HO_6.out)) zaa hg);have n2_:=aK (blk_grown (g:=a3) (o:= .cells #[.int .i64 av,.int .i64 aw,.slice a0 au.length a1] 24 (0,0)) (bkA I.out) hg (Kd.R_ne HO_6.out I.out zaa));have n3_:=aK (blk_grown (g:=ar) (o:= .cells #[.int .i64 0,.int .i64 0,.slice none 0 0] 24 (0,0)) (bkA J.out) hg (Kd.R_ne HO_6.out J.out zaa));have n4_:=aK (blk_grown (g:=ay) (o:= .cells #[.int .i64 an,.int .i64 ai,Z] 24 (0,0)) (bkA D.out) hg (Kd.R_ne HO_6.out D.out zaa));have n5_:=aK (hb);have n6_:=aK (ho);clear HO_14;clear HO_161002;clear I;clear J;clear D;clear HB;clear HO_6;have HO_14:=n0_;have HO_161002:=n1_;have I:=n2_;have J:=n3_;have D:=n4_;have HB:=n5_;have ka:=n6_;clear n0_ n1_ n2_ n3_ n4_ n5_ n6_;clear ho hb hg hat))
                         go_roundg k5
                         case measure=>have:=b7.out;have:=a2.out;have:=b3.out;have:=ea.out;have:=en.out;omega
                         case rel=>exact⟨(j0),(wrap64 (ak+1)),(an),(ai),(ap),(Z),rsE,H',⟨by have:=b7.out;have:=a2.out;have:=b3.out;have:=ea.out;have:=en.out;omega⟩,⟨kdA ka.out⟩,⟨by(with_reducible repeat(first|apply Kd.R_alloc|apply Kd.R_drewN|apply Kd.R_drew));exact Kd.R_mono HO_161002.out (fun _ hk=>trivial)⟩,⟨bkA I.out⟩,⟨bkA J.out⟩,⟨bkA D.out⟩,⟨hbA HB.out⟩⟩
                        ·rw[if_neg gg]at H
                         exact absurd H zac
                    ·rw[if_neg gy]at H
                     exact absurd H zac
                   ·rw[if_neg gx]at H
                    exact absurd H zac
                  ·rw[if_neg gw]at H
                   exact absurd H zac
                 ·rw[if_neg gv]at H
                  exact absurd H zac
                ·rw[if_neg f4]at H
                 exact absurd H zac
               ·rw[if_neg gu]at H
                exact absurd H zac
           ·rw[if_neg ep]at H
            exact absurd H zac
          ·rw[if_neg eo]at H
           exact absurd H zac
      ·replace ei:=Bool.eq_false_iff.mpr ei;subst ei;rw[if_neg nofT]at H
       simp only[Option.some.injEq,Prod.mk.injEq]at H;obtain⟨rfl,rfl,rfl,rfl,rfl⟩:=H;have n8:=ab.out;have os:=X.out;have n9:=ac.out;have ot:=Y.out;obtain⟨ld,le,lf,l7,l8,l9⟩:=cell3 D;have oa:=bu.out;have ou:=bt.out;obtain⟨lg,lh,ll,ma,mb,mc⟩:=cell3 J;obtain⟨fx,f5,kt⟩:=Kd.R_slice HO_161002.out;subst kt;go_wp2;refine bodyPost_ret (results_ctt rfl _ _ ar 24 #[.int .i64 G,.int .i64 U,.slice fx L.length f5] (0,0) _ rfl (by refine bkR ?_;refine blk_put (cs:= #[.int .i64 G,.int .i64 U,.slice none 0 0]) ?_ 2 _ rfl;refine bkR ?_;refine blk_put (cs:= #[.int .i64 G,.int .i64 0,.slice none 0 0]) ?_ 1 _ rfl;refine bkR ?_;refine blk_put (cs:= #[.int .i64 0,.int .i64 0,.slice none 0 0]) ?_ 0 _ rfl;refine bkR ?_;exact J.out) Tryd.underlying24 rfl zab) rfl ?_;exact⟨_,_,rfE,by(with_reducible repeat(first|apply Kd.R_alloc|apply Kd.R_drewN|apply Kd.R_drew));exact Kd.R_mono (Kd.R_far (p:=⟨ar,2,none⟩) (Kd.R_far (p:=⟨ar,1,none⟩) (Kd.R_far (p:=⟨ar,0,none⟩) (Kd.R_types HO_161002.out J.out zaa) (fun _ hk=>hk.2) (.int .i64 G)) (fun _ hk=>hk.2) (.int .i64 U)) (fun _ hk=>hk.2) (.slice fx L.length f5)) (fun _ hk=>trivial),by(with_reducible repeat(first|apply Kd.R_alloc|apply Kd.R_drewN|apply Kd.R_drew));exact Kd.R_mono (Kd.R_far (p:=⟨ar,2,none⟩) (Kd.R_far (p:=⟨ar,1,none⟩) (Kd.R_far (p:=⟨ar,0,none⟩) (Kd.R_types HO_6.out J.out zaa) (fun _ hk=>hk.2) (.int .i64 G)) (fun _ hk=>hk.2) (.int .i64 U)) (fun _ hk=>hk.2) (.slice fx L.length f5)) (fun _ hk=>trivial),hbA HB.out⟩
 ·replace c3:=Bool.eq_false_iff.mpr c3;subst c3;rw[if_neg nofT]at H
  simp only[Option.some.injEq,Prod.mk.injEq]at H;obtain⟨rfl,rfl,rfl,rfl,rfl⟩:=H
  go_enter Tryd.func39,Tryd.ntmps39
  go_wp2_with (first|((with_reducible refine gD 1 rfl ?_);(try(refine gate_guard zad ?_;dsimp only));refine bE 1 #[.int .i64 av,.int .i64 aw,.slice a0 au.length a1] 24 ?_;intro a3 hg ru hbox hb;have I:=aK (hbox);have j7:=hbS HB hg;have j4:=hbS HB hg;replace HB:=hbB HB hb;clear hb hbox hg)|((with_reducible refine gD 2 rfl ?_);(try(refine gate_guard zad ?_;dsimp only));refine bE 2 #[.int .i64 0,.int .i64 0,.slice none 0 0] 24 ?_;intro ar hg rv hbox hb;have J:=aK (hbox);have j8:=hbS HB hg;have j5:=hbS HB hg;replace HB:=hbB HB hb;have bt:=neL I hg;have bu:=neG I hg;replace I:=bkB I hb;clear hb hbox hg;have ob:=bt.out;have ov:=bu.out;obtain⟨lm,ln,lp,me,mf,mg⟩:=cell3 I)|((with_reducible refine gC 37 rfl ?_);refine cG (some 20) Tryd.func37 #[.agg #[.int .i64 av,.int .i64 aw,.slice a0 au.length a1]] ?_;(with_reducible refine(recoupref03_Right.calls av aw _ _ au false _ ?side1 ?side2 A2.out).mono ?_);(case side1=>exact kcB f0 HB);(case side2=>exact fy.out);rintro e rx ⟨rfl,hb⟩;refine⟨_,rfl,?_⟩;replace I:=bkB I hb;replace J:=bkB J hb;replace HB:=hbB HB hb;(try clear hb);obtain⟨lq,lr,ls,mh,mi,mj⟩:=cell3 J))
  refine bodyPost_ret (results_ctt rfl _ _ ar 24 #[.int .i64 0,.int .i64 0,.slice none 0 0] (0,0) _ rfl (by refine bkR ?_;refine blk_put (cs:= #[.int .i64 0,.int .i64 0,.slice none 0 0]) ?_ 2 _ rfl;refine bkR ?_;refine blk_put (cs:= #[.int .i64 0,.int .i64 0,.slice none 0 0]) ?_ 1 _ rfl;refine bkR ?_;refine blk_put (cs:= #[.int .i64 0,.int .i64 0,.slice none 0 0]) ?_ 0 _ rfl;refine bkR ?_;exact J.out) Tryd.underlying24 rfl zab) rfl ?_;exact⟨_,_,rfE,nilE,nilE,hbA HB.out⟩
end Go.Proofs.YtkagobkedifhkaaDoor.Q
namespace Go.Proofs.YtkagobkedifhkaaDoor.Q
open Go.RowKit Go.Proofs.YtkagobkedifhkaaDoorW.PrintWords Go.Proofs.YtkagobkedifhkaaDoorW.PrintLast Go.Proofs.YtkagobkedifhkaaDoorW.PrintMore
attribute [local go_sem] max2_int min2_int max_two min_two max_three min_three max_four min_four
set_option linter.unusedVariables false
set_option linter.unusedSimpArgs false
def recoupref04_Rank.f(k:Nat)(G:Int)(I:Int)(J:List Int):Option (Int×Int):=(recoupref04_Reduce.f k G I J).bind fun D=>(some ((D.2.2.2.1.length:Int),D.2.2.2.2))
set_option maxHeartbeats 8000000 in
set_option maxRecDepth 100000 in
theorem recoupref04_Rank.calls(k:Nat)(I:Int)(J:Int)(Y:Option Addr)(Z:Nat)(G:List Int)(r1:Int)(r2:Int)(w:World)(ac:Kd.C (Kd.int .u8) w Y G.length G)(ab:G.length≤Z)(h:recoupref04_Rank.f k I J G=some (r1,r2)):
 Calls Tryd.prog 81 #[.agg #[.int .i64 I,.int .i64 J,.slice Y G.length Z]] w fun e w'=>e= .returned (.tuple #[.int .i64 r1,.int .i64 r2])∧Below w.heap.size w w':=by
 have be:=Tryd.underlying24;have ag:=aK ac;have af:=aK ab;clear ac ab;have HB:=aK (Below.refl w.heap.size w);have H:((recoupref04_Reduce.f k I J G).bind fun aa=>(some ((aa.2.2.2.1.length:Int),aa.2.2.2.2)))=some (r1,r2):=h;clear h;obtain⟨⟨ak,al,am,an,ao⟩,A2,H⟩:=bindO H
 (try dsimp only at H)
 simp only[Option.some.injEq,Prod.mk.injEq]at H;obtain⟨rfl,rfl⟩:=H
 go_enter Tryd.func81,Tryd.ntmps81
 go_wp2_with (first|((with_reducible refine gD 1 rfl ?_);refine bE 1 #[.int .i64 I,.int .i64 J,.slice Y G.length Z] 24 ?_;intro a8 hg w3 hbox hb;have D:=aK (hbox);have a5:=hbS HB hg;have a3:=hbS HB hg;replace HB:=hbB HB hb;clear hb hbox hg;obtain⟨ap,aq,ar,ax,ay,az⟩:=cell3 D)|((with_reducible refine gC 39 rfl ?_);refine cG (some 9) Tryd.func39 #[.agg #[.int .i64 I,.int .i64 J,.slice Y G.length Z]] ?_;(with_reducible refine(recoupref04_Reduce.calls k I J _ _ G ak al am an ao _ ?side1 ?side2 A2.out).mono ?_);(case side1=>exact kcB ag HB);(case side2=>exact af.out);rintro e w5 ⟨bf,bg,rfl,ai,aj,hb⟩;refine⟨_,rfl,?_⟩;have L:=aK (Kd.R_lower ai (below_size (hbA HB.out)));have O:=aK (Kd.R_lower aj (below_size (hbA HB.out)));replace D:=bkB D hb;replace HB:=hbB HB hb;(try clear hb);(try clear ai);(try clear aj))|((with_reducible refine gD 4 rfl ?_);refine bE 4 #[.int .i64 0,.int .i64 0,.slice none 0 0] 24 ?_;intro a9 hg w6 hbox hb;replace L:=kdB L hb;replace O:=kdB O hb;have ae:=aK (hbox);have a6:=hbS HB hg;have a4:=hbS HB hg;replace HB:=hbB HB hb;have U:=neL D hg;have X:=neG D hg;replace D:=bkB D hb;clear hb hbox hg;have bc:=X.out;have bd:=U.out;obtain⟨au,av,aw,a0,a1,a2⟩:=cell3 ae;obtain⟨bh,bi,a7⟩:=Kd.R_slice L.out;subst a7;obtain⟨ba,bb,ah⟩:=Kd.R_slice O.out;subst ah))
 go_ret2
 exact⟨rfE,hbA HB.out⟩
def recoupref07_rank.f(k:Nat)(I:Int)(J:Int)(L:List Int)(a1:Int):Option (Int):=(recoupref06_List.f k a1).bind fun O=>((recoupref03_Pick.f k I J L O).bind fun D=>((recoupref04_Rank.f k D.1 D.2.1 D.2.2.1).bind fun G=>(some G.1)))
def recoupref07_rank.T1:Bool×List (List Nat×List Nat):=(true,[([],[]),([],[]),([1],[1]),([0,2,2],[0,2]),([3],[3]),([4],[4]),([4],[4]),([],[]),([7,5,3,0,1,2,3,4,5,7],[5,7]),([6,8,0,1,2,3,4,5,6,7,8],[6])])
def recoupref07_rank.B1:List Nat:= [0,0,2,7,15,31,31,0,191,511]
theorem recoupref07_rank.tab1:rtab .any (opsOf Tryd.f58 1)=recoupref07_rank.T1:=by kernel_rfl
theorem recoupref07_rank.bits1:waitsOk recoupref07_rank.T1.2 recoupref07_rank.B1=true:=by kernel_rfl
set_option maxHeartbeats 8000000 in
set_option maxRecDepth 100000 in
theorem recoupref07_rank.calls(k:Nat)(Z:Int)(aa:Int)(af:Option Addr)(ag:Nat)(X:List Int)(a1:Int)(r:Int)(w:World)(az:Kd.C (Kd.int .u8) w af X.length X)(ay:X.length≤ag)(h:recoupref07_rank.f k Z aa X a1=some r):
 Calls Tryd.prog 58 #[.agg #[.int .i64 Z,.int .i64 aa,.slice af X.length ag],.int .u64 a1] w fun e w'=>e= .returned (.int .i64 r)∧Below w.heap.size w w':=by
 have bx:=Tryd.underlying24;have aw:=aK az;have av:=aK ay;clear az ay;have HB:=aK (Below.refl w.heap.size w);have H:((recoupref06_List.f k a1).bind fun ab=>((recoupref03_Pick.f k Z aa X ab).bind fun ax=>((recoupref04_Rank.f k ax.1 ax.2.1 ax.2.2.1).bind fun a4=>(some a4.1))))=some r:=h;clear h;obtain⟨ab,A3,H⟩:=bindO H
 (try dsimp only at H)
 obtain⟨⟨ac,ae,ah,ao⟩,A4,H⟩:=bindO H
 (try dsimp only at H)
 obtain⟨⟨bk,bl⟩,A5,H⟩:=bindO H
 (try dsimp only at H)
 obtain rfl:=Option.some.inj H
 go_enter Tryd.func58,Tryd.ntmps58
 try go_wp2_with (first|((with_reducible refine gD 2 rfl ?_);refine bE 2 #[.int .i64 Z,.int .i64 aa,.slice af X.length ag] 24 ?_;intro U hg w6 hbox hb;have D:=aK (hbox);have bo:=hbS HB hg;have bn:=hbS HB hg;replace HB:=hbB HB hb;clear hb hbox hg))
 replace D:=aK (blk_drew D.out);replace HB:=aK (below_drew1 HB.out);refine start_ (n:=10) (S:=fun w'=>w'.cell? ⟨U,0,none⟩=some (.int .i64 Z)∧w'.cell? ⟨U,1,none⟩=some (.int .i64 aa)∧w'.cell? ⟨U,2,none⟩=some (.slice af X.length ag)) (ds:= []) (.replicate 10 false) zab rfl rfl ⟨(blk_cell D.out 0).trans rfl,(blk_cell D.out 1).trans rfl,(blk_cell D.out 2).trans rfl⟩ (fun hHeld=>?_);refine with_tabW recoupref07_rank.tab1 recoupref07_rank.bits1 (fun HT_ HW_=>?_);generalize w6.drew=w7 at D HB hHeld⊢;refine pu 1 (some 11) (mB 10 2) HT_ ?_;refine tk3 0 (some 10) (mB 10 3) HT_ HW_ hHeld ?_;refine join_ (σ:=Value×Value×Nat) 2 (mB 10 255) (fun s_=> [(12,s_.1),(13,.tuple #[.agg #[.int .i64 ac,.int .i64 ae,s_.2.1],.int .i64 ao]),(5,.pointer (some ⟨s_.2.2,0,none⟩)),(9,.tuple #[.agg #[.int .i64 ac,.int .i64 ae,s_.2.1],.int .i64 ao]),(14,.agg #[.int .i64 ac,.int .i64 ae,s_.2.1]),(15,.int .i64 ao)]) (fun s_ w'=>(w'.cell? ⟨U,0,none⟩=some (.int .i64 Z)∧w'.cell? ⟨U,1,none⟩=some (.int .i64 aa)∧w'.cell? ⟨U,2,none⟩=some (.slice af X.length ag))∧(Kd.R (Kd.int .i64) 3 w' w.heap.size (fun _=>True) s_.1 ab)∧(Kd.R (Kd.int .u8) 5 w' w.heap.size (fun _=>True) s_.2.1 ah)∧(w'.heap[U]? =some (.cells #[.int .i64 Z,.int .i64 aa,.slice af X.length ag] 24 (0,0)))∧(w'.heap[s_.2.2]? =some (.cells #[.int .i64 0,.int .i64 0,.slice none 0 0] 24 (0,0)))∧(w.heap.size≤s_.2.2)∧(w.heap.size≤s_.2.2)∧(U≠s_.2.2)∧(s_.2.2≠U)∧(Below w.heap.size w w')) ?_ ?_;rotate_left
 ·intro hCont;refine two_ (i:=2) (j:=7) (Ni:=some 12) (Nj:=some 5) (mB 10 7) (mB 10 131) rfl rfl rfl rfl (two_of HT_.out zab) zaa zaa (fun K hK=>?_) (fun K hK=>?_)
  ·skip
   refine goes_ Tryd.func17 zab rfl #[.int .u64 a1] zad rfl rfl (by(try simp only[List.map_toArray,List.map_cons,List.map_nil]);first|done|rfl|(simp only[List.length_drop,List.length_take];rfl)) ?_;with_reducible refine(recoupref06_List.calls k a1 ab _ A3.out).mono ?_
   rintro e w8 ⟨a0,rfl,ai,hb⟩;refine⟨_,rfl,?_⟩;have I:=aK (Kd.R_lower ai (below_size (hbA HB.out)));replace D:=bkB D hb;replace HB:=hbB HB hb
   (try clear hb)
   (try clear a2)
   (try clear hk)
   (try clear hi)
   (try clear ai)
   obtain⟨a5,a6,a7⟩:=Kd.R_slice I.out
   (first|subst a7|(injection a7 with f1_ f2_ f3_;have f4_:=f1_.symm;have f5_:=f3_.symm;clear f1_ f2_ f3_;subst f4_;subst f5_))
   refine hK.out _ _ ⟨(blk_cell D.out 0).trans rfl,(blk_cell D.out 1).trans rfl,(blk_cell D.out 2).trans rfl⟩ (fun hHeld=>?_);clear hK K;refine znm (some 12) ?_;refine two_ (i:=3) (j:=7) (Ni:=some 13) (Nj:=some 5) (mB 10 15) (mB 10 135) rfl rfl rfl rfl (two_of HT_.out zab) zaa zaa (fun K hK=>?_) (fun K hK=>?_)
   ·skip
    refine goes_ Tryd.func16 zab rfl #[.agg #[.int .i64 Z,.int .i64 aa,.slice af X.length ag],.slice a5 ab.length a6] zad rfl rfl (by(try simp only[List.map_toArray,List.map_cons,List.map_nil]);first|done|rfl|(simp only[List.length_drop,List.length_take];rfl)) ?_;with_reducible refine(recoupref03_Pick.calls k Z aa _ _ X _ _ ab ac ae ah ao _ ?side1 ?side2 ?side3 ?side4 A4.out).mono ?_
    (case side1=>exact kcB aw HB)
    (case side2=>exact av.out)
    (case side3=>exact kcA (Kd.R_reads' I.out).2.2)
    (case side4=>exact(Kd.R_reads' I.out).2.1)
    rintro e bz ⟨al,rfl,ai,hb⟩;refine⟨_,rfl,?_⟩;replace I:=kdB I hb;have Y:=aK (Kd.R_lower ai (below_size (hbA HB.out)));replace D:=bkB D hb;replace HB:=hbB HB hb
    (try clear hb)
    (try clear a2)
    (try clear hk)
    (try clear hi)
    (try clear ai)
    refine hK.out _ _ ⟨(blk_cell D.out 0).trans rfl,(blk_cell D.out 1).trans rfl,(blk_cell D.out 2).trans rfl⟩ (fun hHeld=>?_);clear hK K;refine znm (some 13) ?_;refine pu 4 (some 9) (mB 10 31) HT_ ?_;refine pu 5 (some 14) (mB 10 63) HT_ ?_;refine pu 6 (some 15) (mB 10 127) HT_ ?_;refine zoh 7 (some 5) (mB 10 255) HT_ fun K hK=>?_;refine box_step ?hg (N:=5) ?hd (cs:= #[.int .i64 0,.int .i64 0,.slice none 0 0]) (t:=24) ?hr ?_;(case hd=>rfl);(case hg=>rfl);(case hr=>first|(go_simp;done)|(go_simp;rfl))
    intro L hg bm hbox hb;replace I:=kdB I hb;replace Y:=kdB Y hb;have J:=aK (hbox);have ak:=hbS HB hg;have aj:=hbS HB hg;replace HB:=hbB HB hb;have G:=neL D hg;have O:=neG D hg;replace D:=bkB D hb;clear hb hbox hg;refine hK.out _ _ ⟨(blk_cell D.out 0).trans rfl,(blk_cell D.out 1).trans rfl,(blk_cell D.out 2).trans rfl⟩ (fun hHeld=>?_);clear hK K;refine znm (some 5) ?_;exact norm_ zap (hCont (.slice a5 ab.length a6,al,L) _ ⟨hHeld,(kdA I.out),(kdA Y.out),(bkA D.out),(bkA J.out),ak.out,aj.out,G.out,O.out,(hbA HB.out)⟩)
   ·skip
    refine box_step ?hg (N:=5) ?hd (cs:= #[.int .i64 0,.int .i64 0,.slice none 0 0]) (t:=24) ?hr ?_;(case hd=>rfl);(case hg=>rfl);(case hr=>first|(go_simp;done)|(go_simp;rfl))
    intro L hg w9 hbox hb;replace I:=kdB I hb;have J:=aK (hbox);have ak:=hbS HB hg;have aj:=hbS HB hg;replace HB:=hbB HB hb;have G:=neL D hg;have O:=neG D hg;replace D:=bkB D hb;clear hb hbox hg;obtain⟨ap,ar,au⟩:=Kd.R_slice I.out
    (first|subst au|(injection au with f1_ f2_ f3_;have f4_:=f1_.symm;have f5_:=f3_.symm;clear f1_ f2_ f3_;subst f4_;subst f5_))
    refine hK.out _ _ ⟨(blk_cell D.out 0).trans rfl,(blk_cell D.out 1).trans rfl,(blk_cell D.out 2).trans rfl⟩ (fun hHeld=>?_);clear hK K;refine znm (some 5) ?_;refine zoh 3 (some 13) (mB 10 143) HT_ fun K hK=>?_;refine goes_ Tryd.func16 zab rfl #[.agg #[.int .i64 Z,.int .i64 aa,.slice af X.length ag],.slice ap ab.length ar] zad rfl rfl (by(try simp only[List.map_toArray,List.map_cons,List.map_nil]);first|done|rfl|(simp only[List.length_drop,List.length_take];rfl)) ?_;with_reducible refine(recoupref03_Pick.calls k Z aa _ _ X _ _ ab ac ae ah ao _ ?side1 ?side2 ?side3 ?side4 A4.out).mono ?_
    (case side1=>exact kcB aw HB)
    (case side2=>exact av.out)
    (case side3=>exact kcA (Kd.R_reads' I.out).2.2)
    (case side4=>exact(Kd.R_reads' I.out).2.1)
    rintro e bm ⟨al,rfl,ai,hb⟩;refine⟨_,rfl,?_⟩;replace I:=kdB I hb;have Y:=aK (Kd.R_lower ai (below_size (hbA HB.out)));replace D:=bkB D hb;replace J:=bkB J hb;replace HB:=hbB HB hb
    (try clear hb)
    (try clear a2)
    (try clear hk)
    (try clear hi)
    (try clear ai)
    refine hK.out _ _ ⟨(blk_cell D.out 0).trans rfl,(blk_cell D.out 1).trans rfl,(blk_cell D.out 2).trans rfl⟩ (fun hHeld=>?_);clear hK K;refine znm (some 13) ?_;refine pu 4 (some 9) (mB 10 159) HT_ ?_;refine pu 5 (some 14) (mB 10 191) HT_ ?_;refine pu 6 (some 15) (mB 10 255) HT_ ?_;exact norm_ zap (hCont (.slice ap ab.length ar,al,L) _ ⟨hHeld,(kdA I.out),(kdA Y.out),(bkA D.out),(bkA J.out),ak.out,aj.out,G.out,O.out,(hbA HB.out)⟩)
  ·skip
   refine box_step ?hg (N:=5) ?hd (cs:= #[.int .i64 0,.int .i64 0,.slice none 0 0]) (t:=24) ?hr ?_;(case hd=>rfl);(case hg=>rfl);(case hr=>first|(go_simp;done)|(go_simp;rfl))
   intro L hg w8 hbox hb;have J:=aK (hbox);have ak:=hbS HB hg;have aj:=hbS HB hg;replace HB:=hbB HB hb;have G:=neL D hg;have O:=neG D hg;replace D:=bkB D hb;clear hb hbox hg;refine hK.out _ _ ⟨(blk_cell D.out 0).trans rfl,(blk_cell D.out 1).trans rfl,(blk_cell D.out 2).trans rfl⟩ (fun hHeld=>?_);clear hK K;refine znm (some 5) ?_;refine zoh 2 (some 12) (mB 10 135) HT_ fun K hK=>?_;refine goes_ Tryd.func17 zab rfl #[.int .u64 a1] zad rfl rfl (by(try simp only[List.map_toArray,List.map_cons,List.map_nil]);first|done|rfl|(simp only[List.length_drop,List.length_take];rfl)) ?_;with_reducible refine(recoupref06_List.calls k a1 ab _ A3.out).mono ?_
   rintro e w9 ⟨a0,rfl,ai,hb⟩;refine⟨_,rfl,?_⟩;have I:=aK (Kd.R_lower ai (below_size (hbA HB.out)));replace D:=bkB D hb;replace J:=bkB J hb;replace HB:=hbB HB hb
   (try clear hb)
   (try clear a2)
   (try clear hk)
   (try clear hi)
   (try clear ai)
   obtain⟨ap,ar,au⟩:=Kd.R_slice I.out
   (first|subst au|(injection au with f1_ f2_ f3_;have f4_:=f1_.symm;have f5_:=f3_.symm;clear f1_ f2_ f3_;subst f4_;subst f5_))
   refine hK.out _ _ ⟨(blk_cell D.out 0).trans rfl,(blk_cell D.out 1).trans rfl,(blk_cell D.out 2).trans rfl⟩ (fun hHeld=>?_);clear hK K;refine znm (some 12) ?_;refine zoh 3 (some 13) (mB 10 143) HT_ fun K hK=>?_;refine goes_ Tryd.func16 zab rfl #[.agg #[.int .i64 Z,.int .i64 aa,.slice af X.length ag],.slice ap ab.length ar] zad rfl rfl (by(try simp only[List.map_toArray,List.map_cons,List.map_nil]);first|done|rfl|(simp only[List.length_drop,List.length_take];rfl)) ?_;with_reducible refine(recoupref03_Pick.calls k Z aa _ _ X _ _ ab ac ae ah ao _ ?side1 ?side2 ?side3 ?side4 A4.out).mono ?_
   (case side1=>exact kcB aw HB)
   (case side2=>exact av.out)
   (case side3=>exact kcA (Kd.R_reads' I.out).2.2)
   (case side4=>exact(Kd.R_reads' I.out).2.1)
   rintro e bm ⟨al,rfl,ai,hb⟩;refine⟨_,rfl,?_⟩;replace I:=kdB I hb;have Y:=aK (Kd.R_lower ai (below_size (hbA HB.out)));replace D:=bkB D hb;replace J:=bkB J hb;replace HB:=hbB HB hb
   (try clear hb)
   (try clear a2)
   (try clear hk)
   (try clear hi)
   (try clear ai)
   refine hK.out _ _ ⟨(blk_cell D.out 0).trans rfl,(blk_cell D.out 1).trans rfl,(blk_cell D.out 2).trans rfl⟩ (fun hHeld=>?_);clear hK K;refine znm (some 13) ?_;refine pu 4 (some 9) (mB 10 159) HT_ ?_;refine pu 5 (some 14) (mB 10 191) HT_ ?_;refine pu 6 (some 15) (mB 10 255) HT_ ?_;exact norm_ zap (hCont (.slice ap ab.length ar,al,L) _ ⟨hHeld,(kdA I.out),(kdA Y.out),(bkA D.out),(bkA J.out),ak.out,aj.out,G.out,O.out,(hbA HB.out)⟩)
 rintro⟨a0,al,L⟩ am ⟨hS_,h0_,h1_,h2_,h3_,h4_,h5_,h6_,h7_,h8_⟩;have n0_:Aside0 (Kd.R (Kd.int .i64) 3 am w.heap.size (fun _=>True) a0 ab):=⟨h0_⟩
 have n1_:Aside0 (Kd.R (Kd.int .u8) 5 am w.heap.size (fun _=>True) al ah):=⟨h1_⟩
 have n2_:Aside0 (am.heap[U]? =some (.cells #[.int .i64 Z,.int .i64 aa,.slice af X.length ag] 24 (0,0))):=⟨h2_⟩
 have n3_:Aside0 (am.heap[L]? =some (.cells #[.int .i64 0,.int .i64 0,.slice none 0 0] 24 (0,0))):=⟨h3_⟩
 have n4_:Aside0 (w.heap.size≤L):=⟨h4_⟩
 have n5_:Aside0 (w.heap.size≤L):=⟨h5_⟩
 have n6_:Aside0 (U≠L):=⟨h6_⟩
 have n7_:Aside0 (L≠U):=⟨h7_⟩
 have n8_:Aside0 (Below w.heap.size w am):=⟨h8_⟩
 clear D;clear HB;clear h0_ h1_ h2_ h3_ h4_ h5_ h6_ h7_ h8_;have I:=n0_;have Y:=n1_;have D:=n2_;have J:=n3_;have ak:=n4_;have aj:=n5_;have G:=n6_;have O:=n7_;have HB:=n8_;clear n0_ n1_ n2_ n3_ n4_ n5_ n6_ n7_ n8_;have hHeld:am.cell? ⟨U,0,none⟩=some (.int .i64 Z)∧am.cell? ⟨U,1,none⟩=some (.int .i64 aa)∧am.cell? ⟨U,2,none⟩=some (.slice af X.length ag):=hS_;obtain⟨aq,an,a3⟩:=Kd.R_slice Y.out
 (first|subst a3|(injection a3 with f1_ f2_ f3_;have f4_:=f1_.symm;have f5_:=f3_.symm;clear f1_ f2_ f3_;subst f4_;subst f5_))
 refine znq ?_;refine zoh 8 (none) (mB 10 511) HT_ fun K hK=>?_;have bu:am.cell? ⟨L,0,none⟩=some (.int .i64 0):=(blk_cell J.out 0).trans rfl;have bp:=blk_frozen J.out 0;have bh:=G.out;have be:=O.out;have bv:am.cell? ⟨L,1,none⟩=some (.int .i64 0):=(blk_cell J.out 1).trans rfl;have bq:=blk_frozen J.out 1;have bi:=G.out;have bf:=O.out;have bw:am.cell? ⟨L,2,none⟩=some (.slice none 0 0):=(blk_cell J.out 2).trans rfl;have br:=blk_frozen J.out 2;have bj:=G.out;have bg:=O.out;refine zsk ?_;refine hK.out _ _ ⟨((cell_far (p:=⟨L,_,none⟩) G.out _).trans (((cell_far (p:=⟨L,_,none⟩) G.out _).trans (((cell_far (p:=⟨L,_,none⟩) G.out _).trans (hHeld.1)))))),((cell_far (p:=⟨L,_,none⟩) G.out _).trans (((cell_far (p:=⟨L,_,none⟩) G.out _).trans (((cell_far (p:=⟨L,_,none⟩) G.out _).trans (hHeld.2.1)))))),((cell_far (p:=⟨L,_,none⟩) G.out _).trans (((cell_far (p:=⟨L,_,none⟩) G.out _).trans (((cell_far (p:=⟨L,_,none⟩) G.out _).trans (hHeld.2.2))))))⟩ (fun hHeld=>?_);clear hK K;refine pu 9 (some 6) (mB 10 1023) HT_ ?_;refine done_ (done_of HT_.out zab) ?_;have bs:=O.out;have bt:=G.out;obtain⟨a8,a9,ba,bb,bc,bd⟩:=cell3 J
 try go_wp2_with (first|((with_reducible refine gC 81 rfl ?_);refine cG (some 18) Tryd.func81 #[.agg #[.int .i64 ac,.int .i64 ae,.slice aq ah.length an]] ?_;(with_reducible refine(recoupref04_Rank.calls k ac ae _ _ ah bk bl _ ?side1 ?side2 A5.out).mono ?_);(case side1=>refine(Kd.R_reads' (e:=5) (base:=w.heap.size) (ok:=fun k_=>True) (n:=ah.length) (c:=an) ?_).2.2;exact(by(with_reducible repeat(first|apply Kd.R_alloc|apply Kd.R_drewN|apply Kd.R_drew));exact(zF Y.out J.out  (.int .i64 ac)  (.int .i64 ae)  (.slice aq ah.length an))));(case side2=>exact(Kd.R_reads' Y.out).2.1);rintro e b0 ⟨rfl,hb⟩;refine⟨_,rfl,?_⟩;replace I:=aK (Kd.R_below (by(with_reducible repeat(first|apply Kd.R_alloc|apply Kd.R_drewN|apply Kd.R_drew));exact(zF I.out J.out  (.int .i64 ac)  (.int .i64 ae)  (.slice aq ah.length an))) hb);replace Y:=aK (Kd.R_below (by(with_reducible repeat(first|apply Kd.R_alloc|apply Kd.R_drewN|apply Kd.R_drew));exact(zF Y.out J.out  (.int .i64 ac)  (.int .i64 ae)  (.slice aq ah.length an))) hb);replace D:=aK (blk_below (g:=U) (o:= .cells #[.int .i64 Z,.int .i64 aa,.slice af X.length ag] 24 (0,0)) zbr hb);replace J:=aK (blk_below (g:=L) (o:= .cells #[.int .i64 ac,.int .i64 ae,.slice aq ah.length an] 24 (0,0)) (by refine bkR ?_;refine blk_put (cs:= #[.int .i64 ac,.int .i64 ae,.slice none 0 0]) ?_ 2 _ rfl;refine bkR ?_;refine blk_put (cs:= #[.int .i64 ac,.int .i64 0,.slice none 0 0]) ?_ 1 _ rfl;refine bkR ?_;refine blk_put (cs:= #[.int .i64 0,.int .i64 0,.slice none 0 0]) ?_ 0 _ rfl;refine bkR ?_;exact J.out) hb);replace HB:=hbB HB hb;(try clear hb)))
 go_ret
 exact⟨rfE,hbA HB.out⟩
def recoupref07_Rank.f(k:Nat)(D:Int)(G:Int)(I:List Int)(a1:Int):Option (Int×Int):=(recoupref07_bad.f k D G I a1).bind fun J=>(if J=0 then((recoupref07_rank.f k D G I a1).bind fun L=>(some (L,0)))else(some (0,J)))
set_option maxHeartbeats 8000000 in
set_option maxRecDepth 100000 in
theorem recoupref07_Rank.calls(k:Nat)(I:Int)(J:Int)(O:Option Addr)(U:Nat)(D:List Int)(a1:Int)(r1:Int)(r2:Int)(w:World)(aa:Kd.C (Kd.int .u8) w O D.length D)(Z:D.length≤U)(h:recoupref07_Rank.f k I J D a1=some (r1,r2)):
 Calls Tryd.prog 56 #[.agg #[.int .i64 I,.int .i64 J,.slice O D.length U],.int .u64 a1] w fun e w'=>e= .returned (.tuple #[.int .i64 r1,.int .i64 r2])∧Below w.heap.size w w':=by
 have a0:=Tryd.underlying24;have Y:=aK aa;have X:=aK Z;clear aa Z;have HB:=aK (Below.refl w.heap.size w);have H:((recoupref07_bad.f k I J D a1).bind fun L=>(if L=0 then((recoupref07_rank.f k I J D a1).bind fun ab=>(some (ab,0)))else(some (0,L))))=some (r1,r2):=h;clear h;obtain⟨L,A3,H⟩:=bindO H
 (try dsimp only at H)
 by_cases c4:L=0
 ·rw[if_pos c4]at H
  have c4b0:(L==0)=true:=beq_iff_eq.mpr c4;have c4b1:(L !=0)=false:=bne_eq_false_iff_eq.mpr c4;clear c4;obtain⟨ab,A5,H⟩:=bindO H
  (try dsimp only at H)
  simp only[Option.some.injEq,Prod.mk.injEq]at H;obtain⟨rfl,rfl⟩:=H
  go_enter Tryd.func56,Tryd.ntmps56
  go_wp2_with (first|((with_reducible refine gD 2 rfl ?_);refine bE 2 #[.int .i64 I,.int .i64 J,.slice O D.length U] 24 ?_;intro af hg w6 hbox hb;have G:=aK (hbox);have ae:=hbS HB hg;have ac:=hbS HB hg;replace HB:=hbB HB hb;clear hb hbox hg;obtain⟨am,an,ao,au,av,aw⟩:=cell3 G)|((with_reducible refine gC 57 rfl ?_);refine cG (some 9) Tryd.func57 #[.agg #[.int .i64 I,.int .i64 J,.slice O D.length U],.int .u64 a1] ?_;(with_reducible refine(recoupref07_bad.calls k I J _ _ D a1 L _ ?side1 ?side2 A3.out).mono ?_);(case side1=>exact kcB Y HB);(case side2=>exact X.out);rintro e w8 ⟨rfl,hb⟩;refine⟨_,rfl,?_⟩;replace G:=bkB G hb;replace HB:=hbB HB hb;(try clear hb);obtain⟨ap,aq,ar,ax,ay,az⟩:=cell3 G)|((with_reducible refine gC 58 rfl ?_);refine cG (some 15) Tryd.func58 #[.agg #[.int .i64 I,.int .i64 J,.slice O D.length U],.int .u64 a1] ?_;(with_reducible refine(recoupref07_rank.calls k I J _ _ D a1 ab _ ?side1 ?side2 A5.out).mono ?_);(case side1=>exact kcB Y HB);(case side2=>exact X.out);rintro e a2 ⟨rfl,hb⟩;refine⟨_,rfl,?_⟩;replace G:=bkB G hb;replace HB:=hbB HB hb;(try clear hb)))
  go_ret2
  exact⟨rfE,hbA HB.out⟩
 ·rw[if_neg c4]at H
  have c4b0:(L==0)=false:=beq_eq_false_iff_ne.mpr c4;have c4b1:(L !=0)=true:=bne_iff_ne.mpr c4;simp only[Option.some.injEq,Prod.mk.injEq]at H;obtain⟨rfl,rfl⟩:=H
  go_enter Tryd.func56,Tryd.ntmps56
  go_wp2_with (first|((with_reducible refine gD 2 rfl ?_);refine bE 2 #[.int .i64 I,.int .i64 J,.slice O D.length U] 24 ?_;intro af hg a3 hbox hb;have G:=aK (hbox);have ae:=hbS HB hg;have ac:=hbS HB hg;replace HB:=hbB HB hb;clear hb hbox hg;obtain⟨ag,ah,ai,aj,ak,al⟩:=cell3 G)|((with_reducible refine gC 57 rfl ?_);refine cG (some 9) Tryd.func57 #[.agg #[.int .i64 I,.int .i64 J,.slice O D.length U],.int .u64 a1] ?_;(with_reducible refine(recoupref07_bad.calls k I J _ _ D a1 L _ ?side1 ?side2 A3.out).mono ?_);(case side1=>exact kcB Y HB);(case side2=>exact X.out);rintro e a4 ⟨rfl,hb⟩;refine⟨_,rfl,?_⟩;replace G:=bkB G hb;replace HB:=hbB HB hb;(try clear hb)))
  go_ret2
  exact⟨rfE,hbA HB.out⟩
end Go.Proofs.YtkagobkedifhkaaDoor.Q
