/- Texts of the proof of LocalFresh: what each Go function answers, and what the answers mean; no condition beyond each theorem's own. -/
import Derived.Test.YtjgcocfnilhggaaDoorLh4
set_option maxHeartbeats 16000000
set_option maxRecDepth 100000
set_option linter.unusedVariables false
set_option linter.unusedSimpArgs false
namespace Go.Proofs.YtjgcocfnilhggaaDoor.Q
open RowKit YtjgcocfnilhggaaDoorW.PrintWords YtjgcocfnilhggaaDoorW.PrintLast YtjgcocfnilhggaaDoorW.PrintMore
open Kd (R_lower R_slice R_reads' R_alloc R_drewN R_drew R_new' R_lt R_elder' R_base C_below R_mono R_form R_celln R_far R_ne)
attribute [local go_sem] max2_int min2_int max_two min_two max_three min_three max_four min_four
mutual
def recoupref04_Combine.j0:Nat->List Int->Bool->Int->Int->List Int->Option (List Int×Bool×Int)
 |0,_,_,_,_,_=>none
 |k+1,x1,X,D,G,I=>if X=true then(some (([]:List Int),false,3))else((recoupref04_First.f k D G I).bind fun O=>((recoupref03_Pick.f k D G I O.1).bind fun J=>((recoupref03_Transpose.f k J.1 J.2.1 J.2.2.1).bind fun L=>((recoupref04_Solve.f k L.1 L.2.1 L.2.2.1 x1).bind fun U=>(if U.2.1=true then(if 0<=D then(if(D:Int).toNat<=281474976710656 then(recoupref04_Combine.l0 k O.1 U.1 (List.replicate (D:Int).toNat 0) 0)else(none))else(none))else(some (([]:List Int),false,0)))))))
def recoupref04_Combine.l0:Nat->List Int->List Int->List Int->Int->Option (List Int×Bool×Int)
 |0,_,_,_,_=>none
 |k+1,x7,G,I,D=>if D<(x7.length:Int)then(if 0<=D then(if D<(G.length:Int)then(if 0<=(rd x7 D)then(if(rd x7 D)<(I.length:Int)then(recoupref04_Combine.l0 k x7 G (I.set ((rd x7 D):Int).toNat (rd G D)) (wrap64 (D+1)))else(none))else(none))else(none))else(none))else(some (I,true,0))
end
def recoupref04_Combine.f(k:Nat)(G:Int)(D:Int)(I:List Int)(l1:List Int):Option (List Int×Bool×Int):=(recoupref03_Right.f G D I).bind fun J=>(if J=true then(recoupref04_Combine.j0 k l1 ((l1.length:Int)!=D) G D I)else(recoupref04_Combine.j0 k l1 true G D I))
def recoupref04_Combine.T13:Bool×List (List Nat×List Nat):=(true,[([],[]),([],[]),([],[]),([1,2],[1,2]),([3],[3]),([],[]),([],[]),([5,6],[5,6]),([7],[7]),([0,4,0,1,2,3,4,5,6,7,8],[0,4]),([9,8,0,1,2,3,4,5,6,7,8],[8,9])])
def recoupref04_Combine.B13:List Nat:= [0,0,0,6,14,0,0,96,224,511,1023]
theorem recoupref04_Combine.tab13:rtab .any (opsOf Tryd.f44 13)=recoupref04_Combine.T13:=by kernel_rfl
theorem recoupref04_Combine.bits13:waitsOk recoupref04_Combine.T13.2 recoupref04_Combine.B13=true:=by kernel_rfl
theorem recoupref04_Combine.calls(k:Nat)(U:Int)(ac:Int)(an:Option Addr)(ao:Nat)(Z:List Int)(A1:Option Addr)(c1:Nat)(l1:List Int)(r1:List Int)(r2:Bool)(r3:Int)(w:World)(dd:Kd.C (Kd.int .u8) w an Z.length Z)(b9:Z.length<=ao)(fp:Kd.C (Kd.int .u8) w A1 l1.length l1)(ez:l1.length<=c1)(h:recoupref04_Combine.f k U ac Z l1=some (r1,r2,r3)):
 Calls Tryd.prog 44 #[.agg #[.int .i64 U,.int .i64 ac,.slice an Z.length ao],.slice A1 l1.length c1] w fun e w'=> ∃v0_:Value,e= .returned (.tuple #[v0_,.bool r2,.int .i64 r3])/\Kd.R (Kd.int .u8) 5 w' w.heap.size (fun _=>True) v0_ r1/\Below w.heap.size w w':=by
 have gh:=Tryd.underlying24;have a2:=aK dd;have a1:=aK b9;clear dd b9;have en:=aK fp;have ek:=aK ez;clear fp ez;have HB:=aK (Below.refl w.heap.size w);have H:((recoupref03_Right.f U ac Z).bind fun di=>(if di=true then(recoupref04_Combine.j0 k l1 ((l1.length:Int)!=ac) U ac Z)else(recoupref04_Combine.j0 k l1 true U ac Z)))=some (r1,r2,r3):=h;clear h;have d9:=aK H;clear H
 go_enter Tryd.func44,Tryd.ntmps44
 go_upto_region 1 with(first|((with_reducible refine gD 2 rfl ?_);(try(refine gate_guard ze ?_;dsimp only));refine bE 2 #[.int .i64 U,.int .i64 ac,.slice an Z.length ao] 24 ?_;intro a3 hg w4 hbox hb;have D:=aK (hbox);have fw:=hbS HB hg;have fv:=hbS HB hg;replace HB:=hbB HB hb;clear hb hbox hg))
 (try simp only[Act.put,zL])
 go_cut [27] (fun ga wc=> ∃(kq:Nat) (be:Bool),ga= .bool be/\Aside0 (recoupref04_Combine.j0 kq l1 be U ac Z=some (r1,r2,r3))/\Aside0 (kq<=k)/\Aside0 (wc.heap[a3]? =some (.cells #[.int .i64 U,.int .i64 ac,(.slice an Z.length ao)] 24 (0,0)))/\Aside0 (Below w.heap.size w wc))
 case first=>
  have H:=d9.out;clear d9;obtain⟨di,A5,H⟩:=bindO H
  (try dsimp only at H)
  by_cases c6:di=true
  ·subst c6;rw[if_pos rfl]at H
   have H':=aK H;clear H;obtain⟨bo,bp,bq,bu,bv,bw⟩:=cell3 D
   go_wp2_with (first|((with_reducible refine gC 45 rfl ?_);refine cG (some 19) Tryd.func45 #[.agg #[.int .i64 U,.int .i64 ac,.slice an Z.length ao]] ?_;(with_reducible refine(recoupref03_Right.calls U ac _ _ Z true _ ?side1 ?side2 A5.out).mono ?_);(case side1=>exact kcB a2 HB);(case side2=>exact a1.out);rintro e w8 ⟨rfl,hb⟩;refine⟨_,rfl,?_⟩;replace D:=bkB D hb;replace HB:=hbB HB hb;(try clear hb);obtain⟨br,bs,bt,bx,bz,b0⟩:=cell3 D))
   go_meet
   case rel=>exact⟨_,(((l1.length:Int)!=ac)),rsE,H',⟨leE⟩,⟨bkA D.out⟩,⟨hbA HB.out⟩⟩
  replace c6:=Bool.eq_false_iff.mpr c6;subst c6;rw[if_neg nofT]at H
  have H':=aK H;clear H;obtain⟨bf,bg,bh,bi,bj,bk⟩:=cell3 D
  go_wp2_with (first|((with_reducible refine gC 45 rfl ?_);refine cG (some 19) Tryd.func45 #[.agg #[.int .i64 U,.int .i64 ac,.slice an Z.length ao]] ?_;(with_reducible refine(recoupref03_Right.calls U ac _ _ Z false _ ?side1 ?side2 A5.out).mono ?_);(case side1=>exact kcB a2 HB);(case side2=>exact a1.out);rintro e gm ⟨rfl,hb⟩;refine⟨_,rfl,?_⟩;replace D:=bkB D hb;replace HB:=hbB HB hb;(try clear hb)))
  go_meet
  case rel=>exact⟨_,(true),rsE,H',⟨leE⟩,⟨bkA D.out⟩,⟨hbA HB.out⟩⟩
 case rest=>
  clear d9
  (try clear c1);(try clear p2);(try clear c4);(try clear c6);(try clear bf bg bh bi bj bk);(try clear bo bp bq bu bv bw);(try clear br bs bt bx bz b0)
  obtain⟨kq,be,rfl,HA,el,D,HB⟩:=hcut
  cases kq with
  |zero=>exact absurd HA.out (by simp[recoupref04_Combine.j0])
  |succ bc=>
   have H:=HA.out;clear HA;simp only[recoupref04_Combine.j0]at H;by_cases b7:be=true
   ·subst b7;rw[if_pos rfl]at H
    obtain⟨rfl,rfl,rfl⟩:=zP3 H;go_wp2
    go_ret3
    exact⟨_,rfE,nilE,hbA HB.out⟩
   replace b7:=Bool.eq_false_iff.mpr b7;subst b7;rw[if_neg nofT]at H
   obtain⟨⟨X,dz⟩,ef,H⟩:=bindO H
   (try dsimp only at H)
   obtain⟨⟨ai,ak,aa,d0⟩,eg,H⟩:=bindO H
   (try dsimp only at H)
   obtain⟨⟨ah,aj,ab,d1⟩,eh,H⟩:=bindO H
   (try dsimp only at H)
   obtain⟨⟨am,fq,d2⟩,ei,H⟩:=bindO H
   (try dsimp only at H)
   by_cases b8:fq=true
   case neg=>
    replace b8:=Bool.eq_false_iff.mpr b8;subst b8;rw[if_neg nofT]at H
    obtain⟨rfl,rfl,rfl⟩:=zP3 H;obtain⟨e0,e1,e2,fc,fd,fe⟩:=cell3 D
    go_wp2_with (first|((with_reducible refine gC 73 rfl ?_);refine cG (some 30) Tryd.func73 #[.agg #[.int .i64 U,.int .i64 ac,.slice an Z.length ao]] ?_;(with_reducible refine(recoupref04_First.calls bc U ac _ _ Z X dz _ ?side1 ?side2 ef.out).mono ?_);(case side1=>exact kcB a2 HB);(case side2=>exact a1.out);rintro e gw ⟨fs,rfl,al,hb⟩;refine⟨_,rfl,?_⟩;have L:=aK (R_lower al (below_size (hbA HB.out)));replace D:=bkB D hb;replace HB:=hbB HB hb;(try clear hb);(try clear al);obtain⟨e3,e4,e5,ff,fg,fh⟩:=cell3 D;obtain⟨ej,eo,ev⟩:=R_slice L.out;subst ev)|((with_reducible refine gC 43 rfl ?_);refine cG (some 36) Tryd.func43 #[.agg #[.int .i64 U,.int .i64 ac,.slice an Z.length ao],.slice ej X.length eo] ?_;(with_reducible refine(recoupref03_Pick.calls bc U ac _ _ Z _ _ X ai ak aa d0 _ ?side1 ?side2 ?side3 ?side4 eg.out).mono ?_);(case side1=>exact kcB a2 HB);(case side2=>exact a1.out);(case side3=>exact kcA (R_reads' L.out).2.2);(case side4=>exact(R_reads' L.out).2.1);rintro e gx ⟨ft,rfl,al,hb⟩;refine⟨_,rfl,?_⟩;replace L:=kdB L hb;have J:=aK (R_lower al (below_size (hbA HB.out)));replace D:=bkB D hb;replace HB:=hbB HB hb;(try clear hb);(try clear al))|((with_reducible refine gD 9 rfl ?_);(try(refine gate_guard ze ?_;dsimp only));refine bE 9 #[.int .i64 0,.int .i64 0,.slice none 0 0] 24 ?_;intro a4 hg gy hbox hb;replace L:=kdB L hb;replace J:=kdB J hb;have I:=aK (hbox);have d7:=hbS HB hg;have d5:=hbS HB hg;replace HB:=hbB HB hb;have ae:=neL D hg;have av:=neG D hg;replace D:=bkB D hb;clear hb hbox hg;have f0:=av.out;have f6:=ae.out;obtain⟨e6,e7,e8,fi,fj,fk⟩:=cell3 I;obtain⟨a5,az,ew⟩:=R_slice J.out;subst ew)|((with_reducible refine gC 19 rfl ?_);refine cG (some 41) Tryd.func19 #[.agg #[.int .i64 ai,.int .i64 ak,.slice a5 aa.length az]] ?_;(with_reducible refine(recoupref03_Transpose.calls bc ai ak _ _ aa ah aj ab d1 _ ?side1 ?side2 eh.out).mono ?_);(case side1=>refine(R_reads' (e:=5) (base:=w.heap.size) (ok:=fun k_=>True) (n:=aa.length) (c:=az) ?_).2.2;exact(by(with_reducible repeat(first|apply R_alloc|apply R_drewN|apply R_drew));exact(zF J.out I.out  (.int .i64 ai)  (.int .i64 ak)  (.slice a5 aa.length az))));(case side2=>exact(R_reads' J.out).2.1);rintro e gz ⟨fu,rfl,al,hb⟩;refine⟨_,rfl,?_⟩;replace L:=aK (Kd.R_below (by(with_reducible repeat(first|apply R_alloc|apply R_drewN|apply R_drew));exact(zF L.out I.out  (.int .i64 ai)  (.int .i64 ak)  (.slice a5 aa.length az))) hb);have Y:=aK (R_lower (R_new' al (R_lt (by(with_reducible repeat(first|apply R_alloc|apply R_drewN|apply R_drew));exact(zF J.out I.out  (.int .i64 ai)  (.int .i64 ak)  (.slice a5 aa.length az))))) (below_size (hbA HB.out)));replace J:=aK (R_elder' (by(with_reducible repeat(first|apply R_alloc|apply R_drewN|apply R_drew));exact(zF J.out I.out  (.int .i64 ai)  (.int .i64 ak)  (.slice a5 aa.length az))) (R_base al) hb);replace D:=aK (blk_below (g:=a3) (o:= .cells #[.int .i64 U,.int .i64 ac,.slice an Z.length ao] 24 (0,0)) zax hb);replace I:=aK (blk_below (g:=a4) (o:= .cells #[.int .i64 ai,.int .i64 ak,.slice a5 aa.length az] 24 (0,0)) zap hb);replace HB:=hbB HB hb;(try clear hb);(try clear al))|((with_reducible refine gD 11 rfl ?_);(try(refine gate_guard ze ?_;dsimp only));refine bE 11 #[.int .i64 0,.int .i64 0,.slice none 0 0] 24 ?_;intro bd hg g0 hbox hb;replace L:=kdB L hb;replace J:=kdB J hb;replace Y:=kdB Y hb;have O:=aK (hbox);have d8:=hbS HB hg;have d6:=hbS HB hg;replace HB:=hbB HB hb;have af:=neL D hg;have aw:=neG D hg;replace D:=bkB D hb;have ag:=neL I hg;have ax:=neG I hg;replace I:=bkB I hb;clear hb hbox hg;have f1:=aw.out;have f7:=af.out;have f2:=ax.out;have f8:=ag.out;obtain⟨e9,fa,fb,fl,fm,fo⟩:=cell3 O;obtain⟨a6,a0,ex⟩:=R_slice Y.out;subst ex)|((with_reducible refine gC 74 rfl ?_);refine cG (some 47) Tryd.func74 #[.agg #[.int .i64 ah,.int .i64 aj,.slice a6 ab.length a0],.slice A1 l1.length c1] ?_;(with_reducible refine(recoupref04_Solve.calls bc ah aj _ _ ab _ _ l1 am false d2 _ ?side1 ?side2 ?side3 ?side4 ei.out).mono ?_);(case side1=>refine(R_reads' (e:=5) (base:=w.heap.size) (ok:=fun k_=>(True/\some k_≠(.slice a5 aa.length az:Value).ownBlock)) (n:=ab.length) (c:=a0) ?_).2.2;exact(by(with_reducible repeat(first|apply R_alloc|apply R_drewN|apply R_drew));exact(zF Y.out O.out  (.int .i64 ah)  (.int .i64 aj)  (.slice a6 ab.length a0))));(case side2=>exact(R_reads' Y.out).2.1);(case side3=>exact C_below en.out (hbA HB.out));(case side4=>exact ek.out);rintro e g1 ⟨bn,rfl,al,hb⟩;refine⟨_,rfl,?_⟩;replace L:=aK (Kd.R_below (by(with_reducible repeat(first|apply R_alloc|apply R_drewN|apply R_drew));exact(zF L.out O.out  (.int .i64 ah)  (.int .i64 aj)  (.slice a6 ab.length a0))) hb);have a8:=aK (R_lower (R_new' (R_new' al (R_lt (by(with_reducible repeat(first|apply R_alloc|apply R_drewN|apply R_drew));exact(zF J.out O.out  (.int .i64 ah)  (.int .i64 aj)  (.slice a6 ab.length a0))))) (R_lt (by(with_reducible repeat(first|apply R_alloc|apply R_drewN|apply R_drew));exact(zF Y.out O.out  (.int .i64 ah)  (.int .i64 aj)  (.slice a6 ab.length a0))))) (below_size (hbA HB.out)));replace J:=aK (R_elder' (by(with_reducible repeat(first|apply R_alloc|apply R_drewN|apply R_drew));exact(zF J.out O.out  (.int .i64 ah)  (.int .i64 aj)  (.slice a6 ab.length a0))) (R_base al) hb);replace Y:=aK (R_elder' (by(with_reducible repeat(first|apply R_alloc|apply R_drewN|apply R_drew));exact(zF Y.out O.out  (.int .i64 ah)  (.int .i64 aj)  (.slice a6 ab.length a0))) (R_base al) hb);replace D:=aK (blk_below (g:=a3) (o:= .cells #[.int .i64 U,.int .i64 ac,.slice an Z.length ao] 24 (0,0)) zaw hb);replace I:=aK (blk_below (g:=a4) (o:= .cells #[.int .i64 ai,.int .i64 ak,.slice a5 aa.length az] 24 (0,0)) zav hb);replace O:=aK (blk_below (g:=bd) (o:= .cells #[.int .i64 ah,.int .i64 aj,.slice a6 ab.length a0] 24 (0,0)) zaq hb);replace HB:=hbB HB hb;(try clear hb);(try clear al)))
    go_ret3
    exact⟨_,rfE,nilE,hbA HB.out⟩
   subst b8;rw[if_pos rfl]at H
   by_cases b2:0<=U
   case neg=>rw[if_neg b2]at H;exact absurd H zd
   rw[if_pos b2]at H
   have c18b0:=eq_true b2;have c18b1:decide (0<=U)=true:=decide_eq_true b2;clear b2;by_cases b3:(U:Int).toNat<=281474976710656
   case neg=>rw[if_neg b3]at H;exact absurd H zd
   rw[if_pos b3]at H
   have c19b0:=eq_true b3;have c19b1:decide ((U:Int).toNat<=281474976710656)=true:=decide_eq_true b3;clear b3;obtain⟨d3,ba⟩: ∃y_:List Int,y_=(List.replicate (U:Int).toNat 0):=⟨_,rfl⟩
   replace H:(recoupref04_Combine.l0 bc X am d3 0)=some (r1,r2,r3):=zH ba H
   have b6:=aK ba;clear ba;have H':=aK H;clear H;obtain⟨ca,cb,cd,cq,cr,ct⟩:=cell3 D
   go_wp2_with (first|((with_reducible refine gC 73 rfl ?_);refine cG (some 30) Tryd.func73 #[.agg #[.int .i64 U,.int .i64 ac,.slice an Z.length ao]] ?_;(with_reducible refine(recoupref04_First.calls bc U ac _ _ Z X dz _ ?side1 ?side2 ef.out).mono ?_);(case side1=>exact kcB a2 HB);(case side2=>exact a1.out);rintro e gn ⟨fs,rfl,al,hb⟩;refine⟨_,rfl,?_⟩;have L:=aK (R_lower al (below_size (hbA HB.out)));replace D:=bkB D hb;replace HB:=hbB HB hb;(try clear hb);(try clear al);obtain⟨ce,cf,cg,cu,cv,cw⟩:=cell3 D;obtain⟨dq,dv,es⟩:=R_slice L.out;subst es)|((with_reducible refine gC 43 rfl ?_);refine cG (some 36) Tryd.func43 #[.agg #[.int .i64 U,.int .i64 ac,.slice an Z.length ao],.slice dq X.length dv] ?_;(with_reducible refine(recoupref03_Pick.calls bc U ac _ _ Z _ _ X ai ak aa d0 _ ?side1 ?side2 ?side3 ?side4 eg.out).mono ?_);(case side1=>exact kcB a2 HB);(case side2=>exact a1.out);(case side3=>exact kcA (R_reads' L.out).2.2);(case side4=>exact(R_reads' L.out).2.1);rintro e gp ⟨ft,rfl,al,hb⟩;refine⟨_,rfl,?_⟩;replace L:=kdB L hb;have J:=aK (R_lower al (below_size (hbA HB.out)));replace D:=bkB D hb;replace HB:=hbB HB hb;(try clear hb);(try clear al))|((with_reducible refine gD 9 rfl ?_);(try(refine gate_guard ze ?_;dsimp only));refine bE 9 #[.int .i64 0,.int .i64 0,.slice none 0 0] 24 ?_;intro a4 hg gq hbox hb;replace L:=kdB L hb;replace J:=kdB J hb;have I:=aK (hbox);have d7:=hbS HB hg;have d5:=hbS HB hg;replace HB:=hbB HB hb;have ae:=neL D hg;have av:=neG D hg;replace D:=bkB D hb;clear hb hbox hg;have fx:=av.out;have f3:=ae.out;obtain⟨ch,ci,cj,cx,cy,cz⟩:=cell3 I;obtain⟨ar,ap,et⟩:=R_slice J.out;subst et)|((with_reducible refine gC 19 rfl ?_);refine cG (some 41) Tryd.func19 #[.agg #[.int .i64 ai,.int .i64 ak,.slice ar aa.length ap]] ?_;(with_reducible refine(recoupref03_Transpose.calls bc ai ak _ _ aa ah aj ab d1 _ ?side1 ?side2 eh.out).mono ?_);(case side1=>refine(R_reads' (e:=5) (base:=w.heap.size) (ok:=fun k_=>True) (n:=aa.length) (c:=ap) ?_).2.2;exact(by(with_reducible repeat(first|apply R_alloc|apply R_drewN|apply R_drew));exact(zF J.out I.out  (.int .i64 ai)  (.int .i64 ak)  (.slice ar aa.length ap))));(case side2=>exact(R_reads' J.out).2.1);rintro e gr ⟨fu,rfl,al,hb⟩;refine⟨_,rfl,?_⟩;replace L:=aK (Kd.R_below (by(with_reducible repeat(first|apply R_alloc|apply R_drewN|apply R_drew));exact(zF L.out I.out  (.int .i64 ai)  (.int .i64 ak)  (.slice ar aa.length ap))) hb);have Y:=aK (R_lower (R_new' al (R_lt (by(with_reducible repeat(first|apply R_alloc|apply R_drewN|apply R_drew));exact(zF J.out I.out  (.int .i64 ai)  (.int .i64 ak)  (.slice ar aa.length ap))))) (below_size (hbA HB.out)));replace J:=aK (R_elder' (by(with_reducible repeat(first|apply R_alloc|apply R_drewN|apply R_drew));exact(zF J.out I.out  (.int .i64 ai)  (.int .i64 ak)  (.slice ar aa.length ap))) (R_base al) hb);replace D:=aK (blk_below (g:=a3) (o:= .cells #[.int .i64 U,.int .i64 ac,.slice an Z.length ao] 24 (0,0)) zax hb);replace I:=aK (blk_below (g:=a4) (o:= .cells #[.int .i64 ai,.int .i64 ak,.slice ar aa.length ap] 24 (0,0)) zap hb);replace HB:=hbB HB hb;(try clear hb);(try clear al))|((with_reducible refine gD 11 rfl ?_);(try(refine gate_guard ze ?_;dsimp only));refine bE 11 #[.int .i64 0,.int .i64 0,.slice none 0 0] 24 ?_;intro bd hg gs hbox hb;replace L:=kdB L hb;replace J:=kdB J hb;replace Y:=kdB Y hb;have O:=aK (hbox);have d8:=hbS HB hg;have d6:=hbS HB hg;replace HB:=hbB HB hb;have af:=neL D hg;have aw:=neG D hg;replace D:=bkB D hb;have ag:=neL I hg;have ax:=neG I hg;replace I:=bkB I hb;clear hb hbox hg;have fy:=aw.out;have f4:=af.out;have fz:=ax.out;have f5:=ag.out;obtain⟨ck,cl,cm,c5,c8,c9⟩:=cell3 O;obtain⟨au,aq,eu⟩:=R_slice Y.out;subst eu)|((with_reducible refine gC 74 rfl ?_);refine cG (some 47) Tryd.func74 #[.agg #[.int .i64 ah,.int .i64 aj,.slice au ab.length aq],.slice A1 l1.length c1] ?_;(with_reducible refine(recoupref04_Solve.calls bc ah aj _ _ ab _ _ l1 am true d2 _ ?side1 ?side2 ?side3 ?side4 ei.out).mono ?_);(case side1=>refine(R_reads' (e:=5) (base:=w.heap.size) (ok:=fun k_=>(True/\some k_≠(.slice ar aa.length ap:Value).ownBlock)) (n:=ab.length) (c:=aq) ?_).2.2;exact(by(with_reducible repeat(first|apply R_alloc|apply R_drewN|apply R_drew));exact(zF Y.out O.out  (.int .i64 ah)  (.int .i64 aj)  (.slice au ab.length aq))));(case side2=>exact(R_reads' Y.out).2.1);(case side3=>exact C_below en.out (hbA HB.out));(case side4=>exact ek.out);rintro e gt ⟨bn,rfl,al,hb⟩;refine⟨_,rfl,?_⟩;replace L:=aK (Kd.R_below (by(with_reducible repeat(first|apply R_alloc|apply R_drewN|apply R_drew));exact(zF L.out O.out  (.int .i64 ah)  (.int .i64 aj)  (.slice au ab.length aq))) hb);have a8:=aK (R_lower (R_new' (R_new' al (R_lt (by(with_reducible repeat(first|apply R_alloc|apply R_drewN|apply R_drew));exact(zF J.out O.out  (.int .i64 ah)  (.int .i64 aj)  (.slice au ab.length aq))))) (R_lt (by(with_reducible repeat(first|apply R_alloc|apply R_drewN|apply R_drew));exact(zF Y.out O.out  (.int .i64 ah)  (.int .i64 aj)  (.slice au ab.length aq))))) (below_size (hbA HB.out)));replace J:=aK (R_elder' (by(with_reducible repeat(first|apply R_alloc|apply R_drewN|apply R_drew));exact(zF J.out O.out  (.int .i64 ah)  (.int .i64 aj)  (.slice au ab.length aq))) (R_base al) hb);replace Y:=aK (R_elder' (by(with_reducible repeat(first|apply R_alloc|apply R_drewN|apply R_drew));exact(zF Y.out O.out  (.int .i64 ah)  (.int .i64 aj)  (.slice au ab.length aq))) (R_base al) hb);replace D:=aK (blk_below (g:=a3) (o:= .cells #[.int .i64 U,.int .i64 ac,.slice an Z.length ao] 24 (0,0)) zaw hb);replace I:=aK (blk_below (g:=a4) (o:= .cells #[.int .i64 ai,.int .i64 ak,.slice ar aa.length ap] 24 (0,0)) zav hb);replace O:=aK (blk_below (g:=bd) (o:= .cells #[.int .i64 ah,.int .i64 aj,.slice au ab.length aq] 24 (0,0)) zaq hb);replace HB:=hbB HB hb;(try clear hb);(try clear al);obtain⟨cn,co,cp,da,db,dc⟩:=cell3 D)|((with_reducible refine gate_dst (N:=55) rfl ?_);(try(refine gate_guard ze ?_;dsimp only));refine Kd.R_make (Kd.int .u8) _ 5 rfl (N:=55) rfl 22 _ _ rfl U rfl rfl Tryd.underlying22 (.int .u8 0) 1 info5 rfl zb za 0 (ok:=fun _=>True) (okp:=fun _=>True) rfl (fun _ hk=>hk) trivial (of_decide_eq_true asE) (Nat.le_trans (Nat.mul_le_mul_right _ (of_decide_eq_true asE:U.toNat<=281474976710656)) za) (Below.refl _ _) (Nat.le_refl _) ?_;intro b1 gu a7 hb hg_ hnew_;clear hg_ hnew_;(first|rw[<-b6.out]at a7|(simp only[Int.reduceToNat]at a7;rw[<-b6.out]at a7));replace L:=kdB L hb;have ea:=aK (R_lower (R_new' (R_new' (R_new' a7 (R_lt (kdA J.out))) (R_lt (kdA Y.out))) (R_lt (kdA a8.out))) (below_size (hbA HB.out)));replace J:=aK (R_elder' (kdA J.out) (R_base a7) hb);replace Y:=aK (R_elder' (kdA Y.out) (R_base a7) hb);replace a8:=aK (R_elder' (kdA a8.out) (R_base a7) hb);replace D:=bkB D hb;replace I:=bkB I hb;replace O:=bkB O hb;replace HB:=hbB HB hb;clear hb a7))
   go_loopg [17] bc (fun kq f9 w'=> ∃(ay:List Int) (G:Int),f9= .int .i64 G/\Aside0 (recoupref04_Combine.l0 kq X am ay G=some (r1,r2,r3))/\Aside0 (kq<=bc)/\Aside0 (Kd.R (Kd.int .i64) 3 w' w.heap.size (fun _=>True) (.slice dq X.length dv) X)/\Aside0 (Kd.R (Kd.int .u8) 5 w' w.heap.size (fun k_=>some k_≠(b1:Value).ownBlock/\some k_≠((.slice ar aa.length ap):Value).ownBlock/\some k_≠((.slice au ab.length aq):Value).ownBlock) bn am)/\Aside0 (Kd.R (Kd.int .u8) 5 w' w.heap.size (fun k_=>some k_≠(bn:Value).ownBlock/\some k_≠((.slice ar aa.length ap):Value).ownBlock/\some k_≠((.slice au ab.length aq):Value).ownBlock) b1 ay)/\Aside0 (Kd.R (Kd.int .u8) 5 w' w.heap.size (fun k_=>some k_≠(bn:Value).ownBlock/\some k_≠(b1:Value).ownBlock/\some k_≠((.slice au ab.length aq):Value).ownBlock) (.slice ar aa.length ap) aa)/\Aside0 (Kd.R (Kd.int .u8) 5 w' w.heap.size (fun k_=>some k_≠(bn:Value).ownBlock/\some k_≠(b1:Value).ownBlock/\some k_≠((.slice ar aa.length ap):Value).ownBlock) (.slice au ab.length aq) ab)/\Aside0 (w'.heap[a3]? =some (.cells #[.int .i64 U,.int .i64 ac,(.slice an Z.length ao)] 24 (0,0)))/\Aside0 (w'.heap[a4]? =some (.cells #[.int .i64 ai,.int .i64 ak,(.slice ar aa.length ap)] 24 (0,0)))/\Aside0 (w'.heap[bd]? =some (.cells #[.int .i64 ah,.int .i64 aj,(.slice au ab.length aq)] 24 (0,0)))/\Aside0 (Below w.heap.size w w'))
   case atStart=>exact⟨(d3),(0),rsE,H',⟨Nat.le_refl _⟩,⟨kdA L.out⟩,⟨by(with_reducible repeat(first|apply R_alloc|apply R_drewN|apply R_drew));exact R_mono a8.out (fun _ hk=>⟨hk.2,⟨hk.1.1.2,hk.1.2⟩⟩)⟩,⟨by(with_reducible repeat(first|apply R_alloc|apply R_drewN|apply R_drew));exact R_mono ea.out (fun _ hk=>⟨hk.2,⟨hk.1.1.2,hk.1.2⟩⟩)⟩,⟨by(with_reducible repeat(first|apply R_alloc|apply R_drewN|apply R_drew));exact R_mono J.out (fun _ hk=>⟨hk.1.2,⟨hk.2,hk.1.1.2⟩⟩)⟩,⟨by(with_reducible repeat(first|apply R_alloc|apply R_drewN|apply R_drew));exact R_mono Y.out (fun _ hk=>⟨hk.1.2,⟨hk.2,hk.1.1.2⟩⟩)⟩,⟨bkA D.out⟩,⟨bkA I.out⟩,⟨bkA O.out⟩,⟨hbA HB.out⟩⟩
   case round=>
    clear H'
    (try clear c1);(try clear c2);(try clear p2 p2);(try clear c3);(try clear c4);(try clear c6);(try clear c7);(try clear b7);(try clear b8);(try clear b2);(try clear c18b0);(try clear c18b1);(try clear b3);(try clear c19b0);(try clear c19b1);(try clear gi);(try clear gj);(try clear gl);(try clear bf bg bh bi bj bk);(try clear ca cb cd cq cr ct);(try clear ce cf cg cu cv cw);(try clear ch ci cj cx cy cz);(try clear ck cl cm c5 c8 c9);(try clear cn co cp da db dc);(try clear bo bp bq bu bv bw);(try clear br bs bt bx bz b0)
    obtain⟨ay,G,rfl,HA,em,HO_7,HO_13,HO_16,HO_486002,HO_493002,D,I,O,HB⟩:=hrel
    cases gk with
    |zero=>exact absurd HA.out (by simp[recoupref04_Combine.l0])
    |succ k2=>
     have H:=HA.out;clear HA;simp only[recoupref04_Combine.l0]at H;by_cases b4:G<(X.length:Int)
     case neg=>
      rw[if_neg b4]at H
      have c39b0:decide (G<(X.length:Int))=false:=decide_eq_false b4;clear b4;obtain⟨rfl,rfl,rfl⟩:=zP3 H;go_wp2
      go_ret3
      exact⟨_,rfE,by(with_reducible repeat(first|apply R_alloc|apply R_drewN|apply R_drew));exact R_mono HO_16.out (fun _ hk=>trivial),hbA HB.out⟩
     rw[if_pos b4]at H
     have c39b0:decide (G<(X.length:Int))=true:=decide_eq_true b4;clear b4;by_cases dj:0<=G
     case neg=>rw[if_neg dj]at H;exact absurd H zd
     rw[if_pos dj]at H
     have c40b0:decide (0<=G)=true:=decide_eq_true dj;clear dj;by_cases dk:G<(am.length:Int)
     case neg=>rw[if_neg dk]at H;exact absurd H zd
     rw[if_pos dk]at H
     have c41b0:decide (G<(am.length:Int))=true:=decide_eq_true dk;clear dk;by_cases dl:0<=(rd X G)
     case neg=>rw[if_neg dl]at H;exact absurd H zd
     rw[if_pos dl]at H
     have c42b0:decide (0<=(rd X G))=true:=decide_eq_true dl;clear dl;by_cases dm:(rd X G)<(ay.length:Int)
     case neg=>rw[if_neg dm]at H;exact absurd H zd
     rw[if_pos dm]at H
     have c43b0:decide ((rd X G)<(ay.length:Int))=true:=decide_eq_true dm;clear dm;obtain⟨d4,bb⟩: ∃y_:List Int,y_=(ay.set ((rd X G):Int).toNat (rd am G)):=⟨_,rfl⟩
     replace H:(recoupref04_Combine.l0 k2 X am d4 (wrap64 (G+1)))=some (r1,r2,r3):=zH bb H
     have eb:=aK bb;clear bb;have H':=aK H;clear H
     try go_wp2
     replace HO_7:=aK (R_drew HO_7.out);replace HO_13:=aK (R_drew HO_13.out);replace HO_16:=aK (R_drew HO_16.out);replace HO_486002:=aK (R_drew HO_486002.out);replace HO_493002:=aK (R_drew HO_493002.out);replace D:=aK (blk_drew D.out);replace I:=aK (blk_drew I.out);replace O:=aK (blk_drew O.out);replace HB:=aK (below_drew1 HB.out);have de:0<=(G:Int):=of_decide_eq_true asE;have dg:G<(X.length:Int):=of_decide_eq_true asE;obtain⟨ec,ep,bl⟩:=Kd.at_int (R_reads' HO_7.out).2.2 G de dg
     cases ep
     replace de:=eq_true de;replace dg:=eq_true dg;obtain⟨gb,gg,dx⟩:=R_slice HO_13.out
     (first|subst dx|(injection dx with f1_ f2_ f3_;have f4_:=f1_.symm;have f5_:=f3_.symm;clear f1_ f2_ f3_;subst f4_;subst f5_))
     have df:0<=(G:Int):=of_decide_eq_true asE;have dh:G<(am.length:Int):=of_decide_eq_true asE;obtain⟨ed,er,bm⟩:=Kd.at_int (R_reads' HO_13.out).2.2 G df dh
     cases er
     replace df:=eq_true df;replace dh:=eq_true dh;have p44:0<=((rd X G):Int):=of_decide_eq_true asE;have ee:((rd X G):Int)<((ay.length:Int):Int):=of_decide_eq_true asE;obtain⟨a9,gf,dw,dy,ey,ge,dt⟩:=R_form HO_16.out za
     (first|cases dw|(injection dw with ea_ en_ ec_;(first|subst ea_|(injection ea_ with ea_;subst ea_));subst ec_;clear en_))
     have gc:=aK dy;have dr:=aK dt;clear dy ey dt;obtain⟨dp,dn⟩:=R_celln 0 HO_16.out ((rd X G):Int) p44 ee;replace p44:=eq_true p44;replace ee:=eq_true ee;have b5:=Kd.R_putn HO_16.out ((rd X G):Int) (rd am G);rw[<-eb.out]at b5
     have du:=aK b5;clear b5;refine start_ (n:=11) (S:=fun w'=>w'.cell? (ec.add (G).toNat)=some (.int .i64 (rd X G))/\w'.cell? (ed.add (G).toNat)=some (.int .u8 (rd am G))) (ds:= [10]) (.replicate 11 false) zc rfl rfl ⟨bl,bm⟩ (fun hHeld=>?_);refine with_tabW recoupref04_Combine.tab13 recoupref04_Combine.bits13 (fun HT_ HW_=>?_);generalize wr.drew=gv at HO_7 HO_13 HO_16 HO_486002 HO_493002 D I O HB dr du dn dp bl bm hHeld⊢;refine pu 0 (some 62) (mB 11 1) HT_ ?_;refine pu 1 (some 63) (mB 11 3) HT_ ?_;refine pu 2 (some 64) (mB 11 7) HT_ ?_;refine pu 3 (some 65) (mB 11 15) HT_ ?_;refine pu 5 (some 67) (mB 11 47) HT_ ?_;refine pu 6 (some 68) (mB 11 111) HT_ ?_;refine pu 7 (some 69) (mB 11 239) HT_ ?_;refine tk2 4 (some 66) (mB 11 255) HT_ HW_ hHeld ?_;refine tk2 8 (some 70) (mB 11 511) HT_ HW_ hHeld ?_;refine pu 9 (some 71) (mB 11 1023) HT_ ?_;refine zlh 10 (none) (mB 11 2047) HT_ fun K hK=>?_;refine zsk ?_;refine hK.out _ _ ?_;clear hK K;refine done_ (done_of HT_.out zc) ?_
     try go_wp2
     go_roundg k2
     case measure=>have:=el.out;have:=em.out;omega
     case rel=>exact⟨(d4),(wrap64 (G+1)),rsE,H',⟨by have:=el.out;have:=em.out;omega⟩,⟨by(with_reducible repeat(first|apply R_alloc|apply R_drewN|apply R_drew));exact R_mono (R_far (p:=⟨a9,((rd X G):Int).toNat,none⟩) (Kd.R_types HO_7.out dr.out zb) (fun _ hk=>hk.2) (.int .u8 (rd am G))) (fun _ hk=>trivial)⟩,⟨by(with_reducible repeat(first|apply R_alloc|apply R_drewN|apply R_drew));exact R_mono (R_far (p:=⟨a9,((rd X G):Int).toNat,none⟩) (R_mono HO_13.out (fun k_ hk=>(⟨hk,fun e_=>hk.1 zi⟩:_/\k_≠a9))) (fun _ hk=>hk.2) (.int .u8 (rd am G))) (fun _ hk=>⟨hk.1.1,⟨hk.1.2.1,hk.1.2.2⟩⟩)⟩,⟨kdA du.out⟩,⟨by(with_reducible repeat(first|apply R_alloc|apply R_drewN|apply R_drew));exact R_mono (R_far (p:=⟨a9,((rd X G):Int).toNat,none⟩) (R_mono HO_486002.out (fun k_ hk=>(⟨hk,fun e_=>hk.2.1 zi⟩:_/\k_≠a9))) (fun _ hk=>hk.2) (.int .u8 (rd am G))) (fun _ hk=>⟨hk.1.1,⟨hk.1.2.1,hk.1.2.2⟩⟩)⟩,⟨by(with_reducible repeat(first|apply R_alloc|apply R_drewN|apply R_drew));exact R_mono (R_far (p:=⟨a9,((rd X G):Int).toNat,none⟩) (R_mono HO_493002.out (fun k_ hk=>(⟨hk,fun e_=>hk.2.1 zi⟩:_/\k_≠a9))) (fun _ hk=>hk.2) (.int .u8 (rd am G))) (fun _ hk=>⟨hk.1.1,⟨hk.1.2.1,hk.1.2.2⟩⟩)⟩,⟨by refine bkR ?_;refine blk_far ?_ (by have h_:=R_ne HO_16.out D.out zb;intro e_;exact h_ zi) _;refine bkR ?_;exact D.out⟩,⟨by refine bkR ?_;refine blk_far ?_ (by have h_:=R_ne HO_16.out I.out zb;intro e_;exact h_ zi) _;refine bkR ?_;exact I.out⟩,⟨by refine bkR ?_;refine blk_far ?_ (by have h_:=R_ne HO_16.out O.out zb;intro e_;exact h_ zi) _;refine bkR ?_;exact O.out⟩,⟨hbA HB.out⟩⟩
def recoupref19_Least.l0:Nat->Int->List Int->List Int->List Int->Int->Option (Int×List Int×Bool×Int)
 |0,_,_,_,_,_=>none
 |k+1,x9,G,I,J,D=>if D<(G.length:Int)then(if 0<=D then(if D<(I.length:Int)then(if 0<=(rd G D)then(if(rd G D)<(J.length:Int)then(recoupref19_Least.l0 k x9 G I (J.set ((rd G D):Int).toNat (rd I D)) (wrap64 (D+1)))else(none))else(none))else(none))else(none))else(some (x9,J,true,0))
def recoupref19_Least.f(k:Nat)(D:Int)(G:Int)(I:List Int)(a1:Int):Option (Int×List Int×Bool×Int):=(recoupref19_bad.f D G I a1).bind fun O=>(if O=0 then((recoupref19_others.f k D G I a1).bind fun Z=>((recoupref19_repairs.f k D G I a1 Z).bind fun aa=>(if aa=true then((recoupref19_first.f k D G I a1).bind fun J=>(if J.2=true then((recoupref06_List.f k J.1).bind fun U=>((recoupref03_Pick.f k D G I U).bind fun L=>((recoupref03_Row.f k D G I a1).bind fun X=>((recoupref04_Combine.f k L.1 L.2.1 L.2.2.1 X.1).bind fun Y=>(if 0<=D then(if(D:Int).toNat<=281474976710656 then(recoupref19_Least.l0 k J.1 U Y.1 (List.replicate (D:Int).toNat 0) 0)else(none))else(none))))))else(some (0,([]:List Int),false,4))))else(some (0,([]:List Int),false,0)))))else(some (0,([]:List Int),false,O)))
def recoupref19_Least.T17:Bool×List (List Nat×List Nat):=(true,[([],[]),([],[]),([],[]),([1,2],[1,2]),([3],[3]),([],[]),([],[]),([5,6],[5,6]),([7],[7]),([0,4,0,1,2,3,4,5,6,7,8],[0,4]),([9,8,0,1,2,3,4,5,6,7,8],[8,9])])
def recoupref19_Least.B17:List Nat:= [0,0,0,6,14,0,0,96,224,511,1023]
theorem recoupref19_Least.tab17:rtab .any (opsOf Tryd.f12 17)=recoupref19_Least.T17:=by kernel_rfl
theorem recoupref19_Least.bits17:waitsOk recoupref19_Least.T17.2 recoupref19_Least.B17=true:=by kernel_rfl
theorem recoupref19_Least.calls(k:Nat)(G:Int)(L:Int)(U:Option Addr)(X:Nat)(J:List Int)(a1:Int)(r1:Int)(r2:List Int)(r3:Bool)(r4:Int)(w:World)(cn:Kd.C (Kd.int .u8) w U J.length J)(be:J.length<=X)(h:recoupref19_Least.f k G L J a1=some (r1,r2,r3,r4)):
 Calls Tryd.prog 12 #[.agg #[.int .i64 G,.int .i64 L,.slice U J.length X],.int .i64 a1] w fun e w'=> ∃v1_:Value,e= .returned (.tuple #[.int .u64 r1,v1_,.bool r3,.int .i64 r4])/\Kd.R (Kd.int .u8) 5 w' w.heap.size (fun _=>True) v1_ r2/\Below w.heap.size w w':=by
 have fd:=Tryd.underlying24;have ac:=aK cn;have aa:=aK be;clear cn be;have HB:=aK (Below.refl w.heap.size w);have H:((recoupref19_bad.f G L J a1).bind fun ai=>(if ai=0 then((recoupref19_others.f k G L J a1).bind fun ak=>((recoupref19_repairs.f k G L J a1 ak).bind fun ct=>(if ct=true then((recoupref19_first.f k G L J a1).bind fun a5=>(if a5.2=true then((recoupref06_List.f k a5.1).bind fun O=>((recoupref03_Pick.f k G L J O).bind fun a6=>((recoupref03_Row.f k G L J a1).bind fun dp=>((recoupref04_Combine.f k a6.1 a6.2.1 a6.2.2.1 dp.1).bind fun dq=>(if 0<=G then(if(G:Int).toNat<=281474976710656 then(recoupref19_Least.l0 k a5.1 O dq.1 (List.replicate (G:Int).toNat 0) 0)else(none))else(none))))))else(some (0,([]:List Int),false,4))))else(some (0,([]:List Int),false,0)))))else(some (0,([]:List Int),false,ai))))=some (r1,r2,r3,r4):=h;clear h;obtain⟨ai,A3,H⟩:=bindO H
 (try dsimp only at H)
 by_cases c4:ai=0
 case neg=>
  rw[if_neg c4]at H
  have c4b0:(ai==0)=false:=beq_eq_false_iff_ne.mpr c4;have c4b1:(ai !=0)=true:=bne_iff_ne.mpr c4;obtain⟨rfl,rfl,rfl,rfl⟩:=zP4 H
  go_enter Tryd.func12,Tryd.ntmps12
  go_wp2_with (first|((with_reducible refine gD 2 rfl ?_);refine bE 2 #[.int .i64 G,.int .i64 L,.slice U J.length X] 24 ?_;intro ae hg f9 hbox hb;have D:=aK (hbox);have a3:=hbS HB hg;have a2:=hbS HB hg;replace HB:=hbB HB hb;clear hb hbox hg;obtain⟨eb,ec,ed,en,eo,ep⟩:=cell3 D)|((with_reducible refine gC 39 rfl ?_);refine cG (some 23) Tryd.func39 #[.agg #[.int .i64 G,.int .i64 L,.slice U J.length X],.int .i64 a1] ?_;(with_reducible refine(recoupref19_bad.calls G L _ _ J a1 ai _ ?side1 ?side2 A3.out).mono ?_);(case side1=>exact kcB ac HB);(case side2=>exact aa.out);rintro e ga ⟨rfl,hb⟩;refine⟨_,rfl,?_⟩;replace D:=bkB D hb;replace HB:=hbB HB hb;(try clear hb)))
  refine bodyPost_ret (results_list (rs:= [.tmp 4,.tmp 5,.tmp 6,.tmp 7]) rfl zd (.tmp (.tmp (.tmp (.tmp .nil))))) rfl ?_;exact⟨_,rfE,nilE,hbA HB.out⟩
 rw[if_pos c4]at H
 have c4b0:(ai==0)=true:=beq_iff_eq.mpr c4;have c4b1:(ai !=0)=false:=bne_eq_false_iff_eq.mpr c4;clear c4;obtain⟨ak,A5,H⟩:=bindO H
 (try dsimp only at H)
 obtain⟨ct,A6,H⟩:=bindO H
 (try dsimp only at H)
 by_cases c7:ct=true
 case neg=>
  replace c7:=Bool.eq_false_iff.mpr c7;subst c7;rw[if_neg nofT]at H
  obtain⟨rfl,rfl,rfl,rfl⟩:=zP4 H
  go_enter Tryd.func12,Tryd.ntmps12
  try go_wp2_with (first|((with_reducible refine gD 2 rfl ?_);refine bE 2 #[.int .i64 G,.int .i64 L,.slice U J.length X] 24 ?_;intro ae hg f5 hbox hb;have D:=aK (hbox);have a3:=hbS HB hg;have a2:=hbS HB hg;replace HB:=hbB HB hb;clear hb hbox hg;obtain⟨d8,d9,ea,ek,el,em⟩:=cell3 D)|((with_reducible refine gC 39 rfl ?_);refine cG (some 23) Tryd.func39 #[.agg #[.int .i64 G,.int .i64 L,.slice U J.length X],.int .i64 a1] ?_;(with_reducible refine(recoupref19_bad.calls G L _ _ J a1 ai _ ?side1 ?side2 A3.out).mono ?_);(case side1=>exact kcB ac HB);(case side2=>exact aa.out);rintro e e7 ⟨rfl,hb⟩;refine⟨_,rfl,?_⟩;replace D:=bkB D hb;replace HB:=hbB HB hb;(try clear hb)))
  replace D:=aK (blk_drew D.out);replace HB:=aK (below_drew1 HB.out);refine start_ (n:=7) (S:=fun w'=>w'.cell? ⟨ae,0,none⟩=some (.int .i64 G)/\w'.cell? ⟨ae,1,none⟩=some (.int .i64 L)/\w'.cell? ⟨ae,2,none⟩=some (.slice U J.length X)) (ds:= []) (.replicate 7 false) zc rfl rfl (z3c D) (fun hHeld=>?_);generalize e7.drew=f6 at D HB hHeld⊢;refine zpu 1 (some 28) (mB 7 2) ?_;refine zpu 3 (some 30) (mB 7 10) ?_;refine ztk3 0 (some 27) (mB 7 11) hHeld ?_;refine ztk3 2 (some 29) (mB 7 15) hHeld ?_;refine zon 4 (some 31) (mB 7 31) fun K hK=>?_;refine goes_ Tryd.func41 zc rfl #[.agg #[.int .i64 G,.int .i64 L,.slice U J.length X],.int .i64 a1] ze rfl rfl (by(try simp only[List.map_toArray,List.map_cons,List.map_nil]);first|done|rfl|(simp only[List.length_drop,List.length_take];rfl)) ?_;with_reducible refine(recoupref19_others.calls k G L _ _ J a1 ak _ ?side1 ?side2 A5.out).mono ?_
  (case side1=>exact kcB ac HB)
  (case side2=>exact aa.out)
  rintro e f7 ⟨rfl,hb⟩;refine⟨_,rfl,?_⟩;replace D:=bkB D hb;replace HB:=hbB HB hb
  (try clear hb)
  (try clear bd)
  (try clear hk)
  (try clear hi)
  refine hK.out _ _ (z3c D) (fun hHeld=>?_);clear hK K;refine znm (some 31) ?_;refine zon 5 (some 32) (mB 7 63) fun K hK=>?_;refine goes_ Tryd.func40 zc rfl #[.agg #[.int .i64 G,.int .i64 L,.slice U J.length X],.int .i64 a1,.int .u64 ak] ze rfl rfl (by(try simp only[List.map_toArray,List.map_cons,List.map_nil]);first|done|rfl|(simp only[List.length_drop,List.length_take];rfl)) ?_;with_reducible refine(recoupref19_repairs.calls k G L _ _ J a1 ak false _ ?side1 ?side2 A6.out).mono ?_
  (case side1=>exact kcB ac HB)
  (case side2=>exact aa.out)
  rintro e f8 ⟨rfl,hb⟩;refine⟨_,rfl,?_⟩;replace D:=bkB D hb;replace HB:=hbB HB hb
  (try clear hb)
  (try clear bd)
  (try clear hk)
  (try clear hi)
  refine hK.out _ _ (z3c D) (fun hHeld=>?_);clear hK K;refine znm (some 32) ?_;refine zpu 6 (some 33) (mB 7 127) ?_;refine done_ zc ?_
  try go_wp2
  refine bodyPost_ret (results_list (rs:= [.tmp 4,.tmp 5,.tmp 6,.tmp 7]) rfl zd (.tmp (.tmp (.tmp (.tmp .nil))))) rfl ?_;exact⟨_,rfE,nilE,hbA HB.out⟩
 subst c7;rw[if_pos rfl]at H
 obtain⟨⟨aw,er⟩,A8,H⟩:=bindO H
 (try dsimp only at H)
 by_cases c9:er=true
 case neg=>
  replace c9:=Bool.eq_false_iff.mpr c9;subst c9;rw[if_neg nofT]at H
  obtain⟨rfl,rfl,rfl,rfl⟩:=zP4 H
  go_enter Tryd.func12,Tryd.ntmps12
  try go_wp2_with (first|((with_reducible refine gD 2 rfl ?_);refine bE 2 #[.int .i64 G,.int .i64 L,.slice U J.length X] 24 ?_;intro ae hg f0 hbox hb;have D:=aK (hbox);have a3:=hbS HB hg;have a2:=hbS HB hg;replace HB:=hbB HB hb;clear hb hbox hg;obtain⟨d2,d3,d4,ee,ef,eg⟩:=cell3 D)|((with_reducible refine gC 39 rfl ?_);refine cG (some 23) Tryd.func39 #[.agg #[.int .i64 G,.int .i64 L,.slice U J.length X],.int .i64 a1] ?_;(with_reducible refine(recoupref19_bad.calls G L _ _ J a1 ai _ ?side1 ?side2 A3.out).mono ?_);(case side1=>exact kcB ac HB);(case side2=>exact aa.out);rintro e e6 ⟨rfl,hb⟩;refine⟨_,rfl,?_⟩;replace D:=bkB D hb;replace HB:=hbB HB hb;(try clear hb)))
  replace D:=aK (blk_drew D.out);replace HB:=aK (below_drew1 HB.out);refine start_ (n:=7) (S:=fun w'=>w'.cell? ⟨ae,0,none⟩=some (.int .i64 G)/\w'.cell? ⟨ae,1,none⟩=some (.int .i64 L)/\w'.cell? ⟨ae,2,none⟩=some (.slice U J.length X)) (ds:= []) (.replicate 7 false) zc rfl rfl (z3c D) (fun hHeld=>?_);generalize e6.drew=f1 at D HB hHeld⊢;refine zpu 1 (some 28) (mB 7 2) ?_;refine zpu 3 (some 30) (mB 7 10) ?_;refine ztk3 0 (some 27) (mB 7 11) hHeld ?_;refine ztk3 2 (some 29) (mB 7 15) hHeld ?_;refine zon 4 (some 31) (mB 7 31) fun K hK=>?_;refine goes_ Tryd.func41 zc rfl #[.agg #[.int .i64 G,.int .i64 L,.slice U J.length X],.int .i64 a1] ze rfl rfl (by(try simp only[List.map_toArray,List.map_cons,List.map_nil]);first|done|rfl|(simp only[List.length_drop,List.length_take];rfl)) ?_;with_reducible refine(recoupref19_others.calls k G L _ _ J a1 ak _ ?side1 ?side2 A5.out).mono ?_
  (case side1=>exact kcB ac HB)
  (case side2=>exact aa.out)
  rintro e f2 ⟨rfl,hb⟩;refine⟨_,rfl,?_⟩;replace D:=bkB D hb;replace HB:=hbB HB hb
  (try clear hb)
  (try clear bd)
  (try clear hk)
  (try clear hi)
  refine hK.out _ _ (z3c D) (fun hHeld=>?_);clear hK K;refine znm (some 31) ?_;refine zon 5 (some 32) (mB 7 63) fun K hK=>?_;refine goes_ Tryd.func40 zc rfl #[.agg #[.int .i64 G,.int .i64 L,.slice U J.length X],.int .i64 a1,.int .u64 ak] ze rfl rfl (by(try simp only[List.map_toArray,List.map_cons,List.map_nil]);first|done|rfl|(simp only[List.length_drop,List.length_take];rfl)) ?_;with_reducible refine(recoupref19_repairs.calls k G L _ _ J a1 ak true _ ?side1 ?side2 A6.out).mono ?_
  (case side1=>exact kcB ac HB)
  (case side2=>exact aa.out)
  rintro e f3 ⟨rfl,hb⟩;refine⟨_,rfl,?_⟩;replace D:=bkB D hb;replace HB:=hbB HB hb
  (try clear hb)
  (try clear bd)
  (try clear hk)
  (try clear hi)
  refine hK.out _ _ (z3c D) (fun hHeld=>?_);clear hK K;refine znm (some 32) ?_;refine zpu 6 (some 33) (mB 7 127) ?_;refine done_ zc ?_;obtain⟨d5,d6,d7,eh,ei,ej⟩:=cell3 D
  try go_wp2_with (first|((with_reducible refine gC 42 rfl ?_);refine cG (some 37) Tryd.func42 #[.agg #[.int .i64 G,.int .i64 L,.slice U J.length X],.int .i64 a1] ?_;(with_reducible refine(recoupref19_first.calls k G L _ _ J a1 aw false _ ?side1 ?side2 A8.out).mono ?_);(case side1=>exact kcB ac HB);(case side2=>exact aa.out);rintro e f4 ⟨rfl,hb⟩;refine⟨_,rfl,?_⟩;replace D:=bkB D hb;replace HB:=hbB HB hb;(try clear hb)))
  refine bodyPost_ret (results_list (rs:= [.tmp 4,.tmp 5,.tmp 6,.tmp 7]) rfl zd (.tmp (.tmp (.tmp (.tmp .nil))))) rfl ?_;exact⟨_,rfE,nilE,hbA HB.out⟩
 subst c9;rw[if_pos rfl]at H
 obtain⟨O,ew,H⟩:=bindO H
 (try dsimp only at H)
 obtain⟨⟨al,aq,aj,es⟩,ex,H⟩:=bindO H
 (try dsimp only at H)
 obtain⟨⟨cu,et⟩,ey,H⟩:=bindO H
 (try dsimp only at H)
 obtain⟨⟨af,eu,ev⟩,ez,H⟩:=bindO H
 (try dsimp only at H)
 by_cases a7:0<=G
 case neg=>rw[if_neg a7]at H;exact absurd H zd
 rw[if_pos a7]at H
 have c14b0:=eq_true a7;have c14b1:decide (0<=G)=true:=decide_eq_true a7;clear a7;by_cases a8:(G:Int).toNat<=281474976710656
 case neg=>rw[if_neg a8]at H;exact absurd H zd
 rw[if_pos a8]at H
 have c15b0:=eq_true a8;have c15b1:decide ((G:Int).toNat<=281474976710656)=true:=decide_eq_true a8;clear a8;obtain⟨di,au⟩: ∃y_:List Int,y_=(List.replicate (G:Int).toNat 0):=⟨_,rfl⟩
 replace H:(recoupref19_Least.l0 k aw O af di 0)=some (r1,r2,r3,r4):=zH au H
 have bb:=aK au;clear au;have H':=aK H;clear H
 go_enter Tryd.func12,Tryd.ntmps12
 try go_wp2_with (first|((with_reducible refine gD 2 rfl ?_);refine bE 2 #[.int .i64 G,.int .i64 L,.slice U J.length X] 24 ?_;intro ae hg fm hbox hb;have D:=aK (hbox);have a3:=hbS HB hg;have a2:=hbS HB hg;replace HB:=hbB HB hb;clear hb hbox hg;obtain⟨bf,bg,bh,b1,b2,b3⟩:=cell3 D)|((with_reducible refine gC 39 rfl ?_);refine cG (some 23) Tryd.func39 #[.agg #[.int .i64 G,.int .i64 L,.slice U J.length X],.int .i64 a1] ?_;(with_reducible refine(recoupref19_bad.calls G L _ _ J a1 ai _ ?side1 ?side2 A3.out).mono ?_);(case side1=>exact kcB ac HB);(case side2=>exact aa.out);rintro e e5 ⟨rfl,hb⟩;refine⟨_,rfl,?_⟩;replace D:=bkB D hb;replace HB:=hbB HB hb;(try clear hb)))
 replace D:=aK (blk_drew D.out);replace HB:=aK (below_drew1 HB.out);refine start_ (n:=7) (S:=fun w'=>w'.cell? ⟨ae,0,none⟩=some (.int .i64 G)/\w'.cell? ⟨ae,1,none⟩=some (.int .i64 L)/\w'.cell? ⟨ae,2,none⟩=some (.slice U J.length X)) (ds:= []) (.replicate 7 false) zc rfl rfl (z3c D) (fun hHeld=>?_);generalize e5.drew=fo at D HB hHeld⊢;refine zpu 1 (some 28) (mB 7 2) ?_;refine zpu 3 (some 30) (mB 7 10) ?_;refine ztk3 0 (some 27) (mB 7 11) hHeld ?_;refine ztk3 2 (some 29) (mB 7 15) hHeld ?_;refine zon 4 (some 31) (mB 7 31) fun K hK=>?_;refine goes_ Tryd.func41 zc rfl #[.agg #[.int .i64 G,.int .i64 L,.slice U J.length X],.int .i64 a1] ze rfl rfl (by(try simp only[List.map_toArray,List.map_cons,List.map_nil]);first|done|rfl|(simp only[List.length_drop,List.length_take];rfl)) ?_;with_reducible refine(recoupref19_others.calls k G L _ _ J a1 ak _ ?side1 ?side2 A5.out).mono ?_
 (case side1=>exact kcB ac HB)
 (case side2=>exact aa.out)
 rintro e fp ⟨rfl,hb⟩;refine⟨_,rfl,?_⟩;replace D:=bkB D hb;replace HB:=hbB HB hb
 (try clear hb)
 (try clear bd)
 (try clear hk)
 (try clear hi)
 refine hK.out _ _ (z3c D) (fun hHeld=>?_);clear hK K;refine znm (some 31) ?_;refine zon 5 (some 32) (mB 7 63) fun K hK=>?_;refine goes_ Tryd.func40 zc rfl #[.agg #[.int .i64 G,.int .i64 L,.slice U J.length X],.int .i64 a1,.int .u64 ak] ze rfl rfl (by(try simp only[List.map_toArray,List.map_cons,List.map_nil]);first|done|rfl|(simp only[List.length_drop,List.length_take];rfl)) ?_;with_reducible refine(recoupref19_repairs.calls k G L _ _ J a1 ak true _ ?side1 ?side2 A6.out).mono ?_
 (case side1=>exact kcB ac HB)
 (case side2=>exact aa.out)
 rintro e fq ⟨rfl,hb⟩;refine⟨_,rfl,?_⟩;replace D:=bkB D hb;replace HB:=hbB HB hb
 (try clear hb)
 (try clear bd)
 (try clear hk)
 (try clear hi)
 refine hK.out _ _ (z3c D) (fun hHeld=>?_);clear hK K;refine znm (some 32) ?_;refine zpu 6 (some 33) (mB 7 127) ?_;refine done_ zc ?_;obtain⟨bi,bj,bk,b4,b5,b6⟩:=cell3 D
 try go_wp2_with (first|((with_reducible refine gC 42 rfl ?_);refine cG (some 37) Tryd.func42 #[.agg #[.int .i64 G,.int .i64 L,.slice U J.length X],.int .i64 a1] ?_;(with_reducible refine(recoupref19_first.calls k G L _ _ J a1 aw true _ ?side1 ?side2 A8.out).mono ?_);(case side1=>exact kcB ac HB);(case side2=>exact aa.out);rintro e fs ⟨rfl,hb⟩;refine⟨_,rfl,?_⟩;replace D:=bkB D hb;replace HB:=hbB HB hb;(try clear hb))|((with_reducible refine gC 23 rfl ?_);refine cG (some 43) Tryd.func23 #[.int .u64 aw] ?_;(with_reducible refine(recoupref06_List.calls k aw O _ ew.out).mono ?_);rintro e ft ⟨fe,rfl,ap,hb⟩;refine⟨_,rfl,?_⟩;have ab:=aK (R_lower ap (below_size (hbA HB.out)));replace D:=bkB D hb;replace HB:=hbB HB hb;(try clear hb);(try clear ap);obtain⟨bl,bm,bn,b7,b8,b9⟩:=cell3 D;obtain⟨da,de,dy⟩:=R_slice ab.out;subst dy)|((with_reducible refine gC 43 rfl ?_);refine cG (some 47) Tryd.func43 #[.agg #[.int .i64 G,.int .i64 L,.slice U J.length X],.slice da O.length de] ?_;(with_reducible refine(recoupref03_Pick.calls k G L _ _ J _ _ O al aq aj es _ ?side1 ?side2 ?side3 ?side4 ex.out).mono ?_);(case side1=>exact kcB ac HB);(case side2=>exact aa.out);(case side3=>exact kcA (R_reads' ab.out).2.2);(case side4=>exact(R_reads' ab.out).2.1);rintro e fu ⟨ff,rfl,ap,hb⟩;refine⟨_,rfl,?_⟩;replace ab:=kdB ab hb;have Z:=aK (R_lower ap (below_size (hbA HB.out)));replace D:=bkB D hb;replace HB:=hbB HB hb;(try clear hb);(try clear ap))|((with_reducible refine gD 12 rfl ?_);refine bE 12 #[.int .i64 0,.int .i64 0,.slice none 0 0] 24 ?_;intro bc hg fv hbox hb;replace ab:=kdB ab hb;replace Z:=kdB Z hb;have Y:=aK (hbox);have e1:=hbS HB hg;have e0:=hbS HB hg;replace HB:=hbB HB hb;have ah:=neL D hg;have a4:=neG D hg;replace D:=bkB D hb;clear hb hbox hg;have e2:=a4.out;have e3:=ah.out;obtain⟨bo,bp,bq,ca,cb,cd⟩:=cell3 Y;obtain⟨an,ao,dz⟩:=R_slice Z.out;subst dz;obtain⟨br,bs,bt,ce,cf,cg⟩:=cell3 D)|((with_reducible refine gC 21 rfl ?_);refine cG (some 53) Tryd.func21 #[.agg #[.int .i64 G,.int .i64 L,.slice U J.length X],.int .i64 a1] ?_;(with_reducible refine(recoupref03_Row.calls k G L _ _ J a1 cu et _ ?side1 ?side2 ey.out).mono ?_);(case side1=>exact C_below ac.out (hbA HB.out));(case side2=>exact aa.out);rintro e fw ⟨fg,rfl,ap,hb⟩;refine⟨_,rfl,?_⟩;replace ab:=aK (Kd.R_below (by(with_reducible repeat(first|apply R_alloc|apply R_drewN|apply R_drew));exact(zF ab.out Y.out  (.int .i64 al)  (.int .i64 aq)  (.slice an aj.length ao))) hb);have ag:=aK (R_lower (R_new' ap (R_lt (by(with_reducible repeat(first|apply R_alloc|apply R_drewN|apply R_drew));exact(zF Z.out Y.out  (.int .i64 al)  (.int .i64 aq)  (.slice an aj.length ao))))) (below_size (hbA HB.out)));replace Z:=aK (R_elder' (by(with_reducible repeat(first|apply R_alloc|apply R_drewN|apply R_drew));exact(zF Z.out Y.out  (.int .i64 al)  (.int .i64 aq)  (.slice an aj.length ao))) (R_base ap) hb);replace D:=aK (blk_below (g:=ae) (o:= .cells #[.int .i64 G,.int .i64 L,.slice U J.length X] 24 (0,0)) (by refine bkR ?_;refine blk_far ?_ ah.out _;refine bkR ?_;refine blk_far ?_ ah.out _;refine bkR ?_;refine blk_far ?_ ah.out _;refine bkR ?_;exact D.out) hb);replace Y:=aK (blk_below (g:=bc) (o:= .cells #[.int .i64 al,.int .i64 aq,.slice an aj.length ao] 24 (0,0)) (by refine bkR ?_;refine blk_put (cs:= #[.int .i64 al,.int .i64 aq,.slice none 0 0]) ?_ 2 _ rfl;refine bkR ?_;refine blk_put (cs:= #[.int .i64 al,.int .i64 0,.slice none 0 0]) ?_ 1 _ rfl;refine bkR ?_;refine blk_put (cs:= #[.int .i64 0,.int .i64 0,.slice none 0 0]) ?_ 0 _ rfl;refine bkR ?_;exact Y.out) hb);replace HB:=hbB HB hb;(try clear hb);(try clear ap);obtain⟨bu,bv,bw,ch,ci,cj⟩:=cell3 Y;obtain⟨dt,dv,d0⟩:=R_slice ag.out;subst d0)|((with_reducible refine gC 44 rfl ?_);refine cG (some 59) Tryd.func44 #[.agg #[.int .i64 al,.int .i64 aq,.slice an aj.length ao],.slice dt cu.length dv] ?_;(with_reducible refine(recoupref04_Combine.calls k al aq _ _ aj _ _ cu af eu ev _ ?side1 ?side2 ?side3 ?side4 ez.out).mono ?_);(case side1=>exact kcA (R_reads' Z.out).2.2);(case side2=>exact(R_reads' Z.out).2.1);(case side3=>exact kcA (R_reads' ag.out).2.2);(case side4=>exact(R_reads' ag.out).2.1);rintro e fx ⟨cv,rfl,ap,hb⟩;refine⟨_,rfl,?_⟩;replace ab:=kdB ab hb;have ax:=aK (R_lower (R_new' (R_new' ap (R_lt (kdA Z.out))) (R_lt (kdA ag.out))) (below_size (hbA HB.out)));replace Z:=aK (R_elder' (kdA Z.out) (R_base ap) hb);replace ag:=aK (R_elder' (kdA ag.out) (R_base ap) hb);replace D:=bkB D hb;replace Y:=bkB Y hb;replace HB:=hbB HB hb;(try clear hb);(try clear ap);obtain⟨bx,bz,b0,ck,cl,cm⟩:=cell3 D)|((with_reducible refine gate_dst (N:=65) rfl ?_);refine Kd.R_make (Kd.int .u8) _ 5 rfl (N:=65) rfl 22 _ _ rfl G rfl rfl Tryd.underlying22 (.int .u8 0) 1 info5 rfl zb za 0 (ok:=fun _=>True) (okp:=fun _=>True) rfl (fun _ hk=>hk) trivial (of_decide_eq_true asE) (Nat.le_trans (Nat.mul_le_mul_right _ (of_decide_eq_true asE:G.toNat<=281474976710656)) za) (Below.refl _ _) (Nat.le_refl _) ?_;intro cw fy ar hb hg_ hnew_;clear hg_ hnew_;(first|rw[<-bb.out]at ar|(simp only[Int.reduceToNat]at ar;rw[<-bb.out]at ar));replace ab:=kdB ab hb;have dk:=aK (R_lower (R_new' (R_new' (R_new' ar (R_lt (kdA Z.out))) (R_lt (kdA ag.out))) (R_lt (kdA ax.out))) (below_size (hbA HB.out)));replace Z:=aK (R_elder' (kdA Z.out) (R_base ar) hb);replace ag:=aK (R_elder' (kdA ag.out) (R_base ar) hb);replace ax:=aK (R_elder' (kdA ax.out) (R_base ar) hb);replace D:=bkB D hb;replace Y:=bkB Y hb;replace HB:=hbB HB hb;clear hb ar))
 go_loopg [20] k (fun kq e4 w'=> ∃(am:List Int) (I:Int),e4= .int .i64 I/\Aside0 (recoupref19_Least.l0 kq aw O af am I=some (r1,r2,r3,r4))/\Aside0 (kq<=k)/\Aside0 (Kd.R (Kd.int .i64) 3 w' w.heap.size (fun _=>True) (.slice da O.length de) O)/\Aside0 (Kd.R (Kd.int .u8) 5 w' w.heap.size (fun k_=>some k_≠(cw:Value).ownBlock/\some k_≠((.slice an aj.length ao):Value).ownBlock) cv af)/\Aside0 (Kd.R (Kd.int .u8) 5 w' w.heap.size (fun k_=>some k_≠(cv:Value).ownBlock/\some k_≠((.slice an aj.length ao):Value).ownBlock) cw am)/\Aside0 (Kd.R (Kd.int .u8) 5 w' w.heap.size (fun k_=>some k_≠(cv:Value).ownBlock/\some k_≠(cw:Value).ownBlock) (.slice an aj.length ao) aj)/\Aside0 (w'.heap[ae]? =some (.cells #[.int .i64 G,.int .i64 L,(.slice U J.length X)] 24 (0,0)))/\Aside0 (w'.heap[bc]? =some (.cells #[.int .i64 al,.int .i64 aq,(.slice an aj.length ao)] 24 (0,0)))/\Aside0 (Below w.heap.size w w'))
 case atStart=>exact⟨(di),(0),rsE,H',⟨Nat.le_refl _⟩,⟨kdA ab.out⟩,⟨by(with_reducible repeat(first|apply R_alloc|apply R_drewN|apply R_drew));exact R_mono ax.out (fun _ hk=>⟨hk.2,hk.1.1.2⟩)⟩,⟨by(with_reducible repeat(first|apply R_alloc|apply R_drewN|apply R_drew));exact R_mono dk.out (fun _ hk=>⟨hk.2,hk.1.1.2⟩)⟩,⟨by(with_reducible repeat(first|apply R_alloc|apply R_drewN|apply R_drew));exact R_mono Z.out (fun _ hk=>⟨hk.1.2,hk.2⟩)⟩,⟨bkA D.out⟩,⟨bkA Y.out⟩,⟨hbA HB.out⟩⟩
 case round=>
  clear H'
  (try clear c1);(try clear c2);(try clear p2);(try clear c3);(try clear c4);(try clear c4b0);(try clear c4b1);(try clear c7);(try clear c9);(try clear fh);(try clear a7);(try clear c14b0);(try clear c14b1);(try clear a8);(try clear c15b0);(try clear c15b1);(try clear fi);(try clear fj);(try clear fk);(try clear fl);(try clear bf bg bh b1 b2 b3);(try clear bi bj bk b4 b5 b6);(try clear bl bm bn b7 b8 b9);(try clear bo bp bq ca cb cd);(try clear br bs bt ce cf cg);(try clear bu bv bw ch ci cj);(try clear bx bz b0 ck cl cm)
  obtain⟨am,I,rfl,HA,du,HO_11,HO_16,HO_19,HO_520002,D,Y,HB⟩:=hrel
  cases gk with
  |zero=>exact absurd HA.out (by simp[recoupref19_Least.l0])
  |succ k1=>
   have H:=HA.out;clear HA;simp only[recoupref19_Least.l0]at H;by_cases a9:I<(O.length:Int)
   case neg=>
    rw[if_neg a9]at H
    have c40b0:decide (I<(O.length:Int))=false:=decide_eq_false a9;clear a9;obtain⟨rfl,rfl,rfl,rfl⟩:=zP4 H;go_wp2;refine bodyPost_ret (results_list (rs:= [.tmp 4,.tmp 5,.tmp 6,.tmp 7]) rfl zd (.tmp (.tmp (.tmp (.tmp .nil))))) rfl ?_;exact⟨_,rfE,by(with_reducible repeat(first|apply R_alloc|apply R_drewN|apply R_drew));exact R_mono HO_19.out (fun _ hk=>trivial),hbA HB.out⟩
   rw[if_pos a9]at H
   have c40b0:decide (I<(O.length:Int))=true:=decide_eq_true a9;clear a9;by_cases cx:0<=I
   case neg=>rw[if_neg cx]at H;exact absurd H zd
   rw[if_pos cx]at H
   have c41b0:decide (0<=I)=true:=decide_eq_true cx;clear cx;by_cases cy:I<(af.length:Int)
   case neg=>rw[if_neg cy]at H;exact absurd H zd
   rw[if_pos cy]at H
   have c42b0:decide (I<(af.length:Int))=true:=decide_eq_true cy;clear cy;by_cases cz:0<=(rd O I)
   case neg=>rw[if_neg cz]at H;exact absurd H zd
   rw[if_pos cz]at H
   have c43b0:decide (0<=(rd O I))=true:=decide_eq_true cz;clear cz;by_cases c5:(rd O I)<(am.length:Int)
   case neg=>rw[if_neg c5]at H;exact absurd H zd
   rw[if_pos c5]at H
   have c44b0:decide ((rd O I)<(am.length:Int))=true:=decide_eq_true c5;clear c5;obtain⟨dj,av⟩: ∃y_:List Int,y_=(am.set ((rd O I):Int).toNat (rd af I)):=⟨_,rfl⟩
   replace H:(recoupref19_Least.l0 k1 aw O af dj (wrap64 (I+1)))=some (r1,r2,r3,r4):=zH av H
   have dl:=aK av;clear av;have H':=aK H;clear H
   try go_wp2
   replace HO_11:=aK (R_drew HO_11.out);replace HO_16:=aK (R_drew HO_16.out);replace HO_19:=aK (R_drew HO_19.out);replace HO_520002:=aK (R_drew HO_520002.out);replace D:=aK (blk_drew D.out);replace Y:=aK (blk_drew Y.out);replace HB:=aK (below_drew1 HB.out);have co:0<=(I:Int):=of_decide_eq_true asE;have cq:I<(O.length:Int):=of_decide_eq_true asE;obtain⟨dm,dw,az⟩:=Kd.at_int (R_reads' HO_11.out).2.2 I co cq
   cases dw
   replace co:=eq_true co;replace cq:=eq_true cq;obtain⟨e8,fc,dg⟩:=R_slice HO_16.out
   (first|subst dg|(injection dg with f1_ f2_ f3_;have f4_:=f1_.symm;have f5_:=f3_.symm;clear f1_ f2_ f3_;subst f4_;subst f5_))
   have cp:0<=(I:Int):=of_decide_eq_true asE;have cr:I<(af.length:Int):=of_decide_eq_true asE;obtain⟨dn,dx,a0⟩:=Kd.at_int (R_reads' HO_16.out).2.2 I cp cr
   cases dx
   replace cp:=eq_true cp;replace cr:=eq_true cr;have p45:0<=((rd O I):Int):=of_decide_eq_true asE;have dr:((rd O I):Int)<((am.length:Int):Int):=of_decide_eq_true asE;obtain⟨ay,fb,df,dh,d1,fa,dc⟩:=R_form HO_19.out za
   (first|cases df|(injection df with ea_ en_ ec_;(first|subst ea_|(injection ea_ with ea_;subst ea_));subst ec_;clear en_))
   have e9:=aK dh;have db:=aK dc;clear dh d1 dc;obtain⟨c8,c6⟩:=R_celln 0 HO_19.out ((rd O I):Int) p45 dr;replace p45:=eq_true p45;replace dr:=eq_true dr;have ba:=Kd.R_putn HO_19.out ((rd O I):Int) (rd af I);rw[<-dl.out]at ba
   have dd:=aK ba;clear ba;refine start_ (n:=11) (S:=fun w'=>w'.cell? (dm.add (I).toNat)=some (.int .i64 (rd O I))/\w'.cell? (dn.add (I).toNat)=some (.int .u8 (rd af I))) (ds:= [10]) (.replicate 11 false) zc rfl rfl ⟨az,a0⟩ (fun hHeld=>?_);refine with_tabW recoupref19_Least.tab17 recoupref19_Least.bits17 (fun HT_ HW_=>?_);generalize wr.drew=fz at HO_11 HO_16 HO_19 HO_520002 D Y HB db dd c6 c8 az a0 hHeld⊢;refine pu 0 (some 72) (mB 11 1) HT_ ?_;refine pu 1 (some 73) (mB 11 3) HT_ ?_;refine pu 2 (some 74) (mB 11 7) HT_ ?_;refine pu 3 (some 75) (mB 11 15) HT_ ?_;refine pu 5 (some 77) (mB 11 47) HT_ ?_;refine pu 6 (some 78) (mB 11 111) HT_ ?_;refine pu 7 (some 79) (mB 11 239) HT_ ?_;refine tk2 4 (some 76) (mB 11 255) HT_ HW_ hHeld ?_;refine tk2 8 (some 80) (mB 11 511) HT_ HW_ hHeld ?_;refine pu 9 (some 81) (mB 11 1023) HT_ ?_;refine zlh 10 (none) (mB 11 2047) HT_ fun K hK=>?_;refine zsk ?_;refine hK.out _ _ ?_;clear hK K;refine done_ (done_of HT_.out zc) ?_
   try go_wp2
   go_roundg k1
   case measure=>have:=du.out;omega
   case rel=>exact⟨(dj),(wrap64 (I+1)),rsE,H',⟨by have:=du.out;omega⟩,⟨by(with_reducible repeat(first|apply R_alloc|apply R_drewN|apply R_drew));exact R_mono (R_far (p:=⟨ay,((rd O I):Int).toNat,none⟩) (Kd.R_types HO_11.out db.out zb) (fun _ hk=>hk.2) (.int .u8 (rd af I))) (fun _ hk=>trivial)⟩,⟨by(with_reducible repeat(first|apply R_alloc|apply R_drewN|apply R_drew));exact R_mono (R_far (p:=⟨ay,((rd O I):Int).toNat,none⟩) (R_mono HO_16.out (fun k_ hk=>(⟨hk,fun e_=>hk.1 zi⟩:_/\k_≠ay))) (fun _ hk=>hk.2) (.int .u8 (rd af I))) (fun _ hk=>⟨hk.1.1,hk.1.2⟩)⟩,⟨kdA dd.out⟩,⟨by(with_reducible repeat(first|apply R_alloc|apply R_drewN|apply R_drew));exact R_mono (R_far (p:=⟨ay,((rd O I):Int).toNat,none⟩) (R_mono HO_520002.out (fun k_ hk=>(⟨hk,fun e_=>hk.2 zi⟩:_/\k_≠ay))) (fun _ hk=>hk.2) (.int .u8 (rd af I))) (fun _ hk=>⟨hk.1.1,hk.1.2⟩)⟩,⟨by refine bkR ?_;refine blk_far ?_ (by have h_:=R_ne HO_19.out D.out zb;intro e_;exact h_ zi) _;refine bkR ?_;exact D.out⟩,⟨by refine bkR ?_;refine blk_far ?_ (by have h_:=R_ne HO_19.out Y.out zb;intro e_;exact h_ zi) _;refine bkR ?_;exact Y.out⟩,⟨hbA HB.out⟩⟩
def recoupref01_Same.f(l0:List Int)(l1:List Int):Option (Bool):=some ((strOfNums l0).toList==(strOfNums l1).toList)
theorem recoupref01_Same.calls(A0:Option Addr)(c0:Nat)(l0:List Int)(A1:Option Addr)(c1:Nat)(l1:List Int)(r:Bool)(w:World)(I:Kd.C (Kd.int .u8) w A0 l0.length l0)(D:l0.length<=c0)(J:Kd.C (Kd.int .u8) w A1 l1.length l1)(G:l1.length<=c1)(h:recoupref01_Same.f l0 l1=some r):
 Calls Tryd.prog 13 #[.slice A0 l0.length c0,.slice A1 l1.length c1] w fun e w'=>e= .returned (.bool r)/\Drawn0 w w':=by
 have L:=aK I;have Y:=aK D;clear I D;have O:=aK J;have Z:=aK G;clear J G;have H:(some ((strOfNums l0).toList==(strOfNums l1).toList))=some r:=h;clear h;obtain rfl:=Option.some.inj H;have U:=Kd.C_string (P:=Tryd.prog) (A:=A0) (c:=c0) Tryd.underlying22 Tryd.underlying5 Tryd.underlying9 L.out;have X:=Kd.C_string (P:=Tryd.prog) (A:=A1) (c:=c1) Tryd.underlying22 Tryd.underlying5 Tryd.underlying9 O.out
 go_enter Tryd.func13,Tryd.ntmps13
 go_wp2
 go_ret
 exact zD
def recouplaw19_anchored.f(k:Nat):Option (Bool):=(local_Least.f k 5 2 (([1,0,0,1,1,1,2,2,0,0]:List Int)) 0).bind fun D=>(if D.2.2.1=true then(if D.2.2.2=0 then(if D.1=6 then((recoupref01_Same.f D.2.1 (([0,1,1,0,0]:List Int))).bind fun G=>(some G))else(some false))else(some false))else(some false))
theorem recouplaw19_anchored.mono: ∀k,LeO (recouplaw19_anchored.f k) (recouplaw19_anchored.f (k+1)):=by
 intro k;unfold recouplaw19_anchored.f
 with_reducible repeat' first|exact local_Least.mono _ _ _ _ _|exact LeO.refl _|exact LeO.none _|refine LeO.ite ?_ ?_|refine LeO.bind ?_ (fun _=>?_)
theorem recouplaw19_anchored.calls(k:Nat)(r:Bool)(w:World)(h:recouplaw19_anchored.f k=some r)(hT:TabAt 0 Lib.deBruijn64tab w):
 Calls Tryd.prog 15 #[] w fun e w'=>e= .returned (.bool r)/\Below w.heap.size w w':=by
 have HT:=aK hT;clear hT;have b1:=Tryd.underlying24;have HB:=aK (Below.refl w.heap.size w);have H:((local_Least.f k 5 2 (([1,0,0,1,1,1,2,2,0,0]:List Int)) 0).bind fun O=>(if O.2.2.1=true then(if O.2.2.2=0 then(if O.1=6 then((recoupref01_Same.f O.2.1 (([0,1,1,0,0]:List Int))).bind fun ae=>(some ae))else(some false))else(some false))else(some false)))=some r:=h;clear h;obtain⟨I,ab⟩: ∃y_:List Int,y_=(([1,0,0,1,1,1,2,2,0,0]:List Int)):=⟨_,rfl⟩
 replace H:((local_Least.f k 5 2 I 0).bind fun O=>(if O.2.2.1=true then(if O.2.2.2=0 then(if O.1=6 then((recoupref01_Same.f O.2.1 (([0,1,1,0,0]:List Int))).bind fun ae=>(some ae))else(some false))else(some false))else(some false)))=some r:=zH ab H
 have U:=aK ab;clear ab;obtain⟨⟨Y,ai,bu,Z⟩,A1,H⟩:=bindO H
 (try dsimp only at H)
 by_cases c2:bu=true
 ·subst c2;rw[if_pos rfl]at H
  by_cases c3:Z=0
  ·rw[if_pos c3]at H
   have c3b0:(Z==0)=true:=beq_iff_eq.mpr c3;have c3b1:(Z !=0)=false:=bne_eq_false_iff_eq.mpr c3;clear c3;by_cases c4:Y=6
   ·rw[if_pos c4]at H
    have c4b0:(Y==6)=true:=beq_iff_eq.mpr c4;have c4b1:(Y !=6)=false:=bne_eq_false_iff_eq.mpr c4;clear c4;obtain⟨a0,ac⟩: ∃y_:List Int,y_=(([0,1,1,0,0]:List Int)):=⟨_,rfl⟩
    replace H:((recoupref01_Same.f ai a0).bind fun ae=>(some ae))=some r:=zH ac H
    have aw:=aK ac;clear ac;obtain⟨ae,A5,H⟩:=bindO H
    (try dsimp only at H)
    obtain rfl:=Option.some.inj H
    go_enter Tryd.func15,Tryd.ntmps15
    go_wp2_with (first|((with_reducible refine gate_dst (N:=6) rfl ?_);(try(refine gate_guard ze ?_;dsimp only));refine Kd.R_lit (Kd.int .u8) _ 5 ?hg (N:=6) ?hd (xs:=([1,0,0,1,1,1,2,2,0,0]:List Int)) (inner:= [.int .u8 1,.int .u8 0,.int .u8 0,.int .u8 1,.int .u8 1,.int .u8 1,.int .u8 2,.int .u8 2,.int .u8 0,.int .u8 0]) (ok:=fun _=>True) (okp:=fun _=>True) ?hr ?hp (fun _ hk=>hk) trivial (Below.refl _ _) (Nat.le_refl _) zd ?_;(case hd=>rfl);(case hg=>rfl);(case hr=>first|(go_simp;done)|(go_simp;rfl));(case hp=>exact(Reps.one (show Kd.M (Kd.int .u8) _ _ _ 1 [.int .u8 1]from rfl) (Reps.one (show Kd.M (Kd.int .u8) _ _ _ 0 [.int .u8 0]from rfl) (Reps.one (show Kd.M (Kd.int .u8) _ _ _ 0 [.int .u8 0]from rfl) (Reps.one (show Kd.M (Kd.int .u8) _ _ _ 1 [.int .u8 1]from rfl) (Reps.one (show Kd.M (Kd.int .u8) _ _ _ 1 [.int .u8 1]from rfl) (Reps.one (show Kd.M (Kd.int .u8) _ _ _ 1 [.int .u8 1]from rfl) (Reps.one (show Kd.M (Kd.int .u8) _ _ _ 2 [.int .u8 2]from rfl) (Reps.one (show Kd.M (Kd.int .u8) _ _ _ 2 [.int .u8 2]from rfl) (Reps.one (show Kd.M (Kd.int .u8) _ _ _ 0 [.int .u8 0]from rfl) (Reps.one (show Kd.M (Kd.int .u8) _ _ _ 0 [.int .u8 0]from rfl) (Reps.none _ _))))))))))));intro ay w6 ax hb hg_ hnew_;clear hg_ hnew_;(first|rw[<-U.out]at ax|(simp only[Int.reduceToNat]at ax;rw[<-U.out]at ax));have D:=aK (R_lower ax (below_size zh));replace HB:=aK (below_step zh hb);clear hb ax;obtain⟨av,au,bv⟩:=R_slice D.out;subst bv)|((with_reducible refine gD 1 rfl ?_);(try(refine gate_guard ze ?_;dsimp only));refine bE 1 #[.int .i64 0,.int .i64 0,.slice none 0 0] 24 ?_;intro J hg w9 hbox hb;replace D:=kdB D hb;have G:=aK (hbox);have aq:=aK ((by rw[hg];exact(below_size zh):w.heap.size<=J));have ap:=aK ((by rw[hg];exact(below_size zh):w.heap.size<=J));replace HB:=aK (below_step zh hb);clear hb hbox hg;obtain⟨a6,a7,a8,bi,bj,bk⟩:=cell3 G)|((with_reducible refine gC 11 rfl ?_);refine cG (some 10) Tryd.func11 #[.agg #[.int .i64 5,.int .i64 2,.slice av I.length au],.int .i64 0] ?_;(with_reducible refine(local_Least.calls k 5 2 _ _ I 0 Y ai true Z _ ?side1 ?side2 A1.out (tab_below HT.out zl)).mono ?_);(case side1=>refine(R_reads' (e:=5) (base:=w.heap.size) (ok:=fun k_=>True) (n:=I.length) (c:=au) ?_).2.2;exact(by(with_reducible repeat(first|apply R_alloc|apply R_drewN|apply R_drew));exact(zF D.out G.out  (.int .i64 5)  (.int .i64 2)  (.slice av I.length au))));(case side2=>exact(R_reads' D.out).2.1);rintro e b3 ⟨az,rfl,X,hb⟩;refine⟨_,rfl,?_⟩;have L:=aK (R_lower (R_new' X (R_lt (by(with_reducible repeat(first|apply R_alloc|apply R_drewN|apply R_drew));exact(zF D.out G.out  (.int .i64 5)  (.int .i64 2)  (.slice av I.length au))))) (below_size (hbA HB.out)));replace D:=aK (R_elder' (by(with_reducible repeat(first|apply R_alloc|apply R_drewN|apply R_drew));exact(zF D.out G.out  (.int .i64 5)  (.int .i64 2)  (.slice av I.length au))) (R_base X) hb);replace G:=aK (blk_below (g:=J) (o:= .cells #[.int .i64 5,.int .i64 2,.slice av I.length au] 24 (0,0)) zy hb);replace HB:=hbB HB hb;(try clear hb);(try clear X))|((with_reducible refine gate_dst (N:=26) rfl ?_);(try(refine gate_guard ze ?_;dsimp only));refine Kd.R_lit (Kd.int .u8) _ 5 ?hg (N:=26) ?hd (xs:=([0,1,1,0,0]:List Int)) (inner:= [.int .u8 0,.int .u8 1,.int .u8 1,.int .u8 0,.int .u8 0]) (ok:=fun _=>True) (okp:=fun _=>True) ?hr ?hp (fun _ hk=>hk) trivial (Below.refl _ _) (Nat.le_refl _) zd ?_;(case hd=>rfl);(case hg=>rfl);(case hr=>first|(go_simp;done)|(go_simp;rfl));(case hp=>exact(Reps.one (show Kd.M (Kd.int .u8) _ _ _ 0 [.int .u8 0]from rfl) (Reps.one (show Kd.M (Kd.int .u8) _ _ _ 1 [.int .u8 1]from rfl) (Reps.one (show Kd.M (Kd.int .u8) _ _ _ 1 [.int .u8 1]from rfl) (Reps.one (show Kd.M (Kd.int .u8) _ _ _ 0 [.int .u8 0]from rfl) (Reps.one (show Kd.M (Kd.int .u8) _ _ _ 0 [.int .u8 0]from rfl) (Reps.none _ _)))))));intro b2 b4 aa hb hg_ hnew_;clear hg_ hnew_;(first|rw[<-aw.out]at aa|(simp only[Int.reduceToNat]at aa;rw[<-aw.out]at aa));have ar:=aK (R_lower (R_new' (R_new' aa (R_lt (kdA D.out))) (R_lt (kdA L.out))) (below_size (hbA HB.out)));replace D:=aK (R_elder' (kdA D.out) (R_base aa) hb);replace L:=aK (R_elder' (kdA L.out) (R_base aa) hb);replace G:=bkB G hb;replace HB:=hbB HB hb;clear hb aa;obtain⟨bw,bz,a1⟩:=R_slice L.out;subst a1;obtain⟨bx,b0,a2⟩:=R_slice ar.out;subst a2)|(go_at_call 13;(with_reducible refine(recoupref01_Same.calls _ _ ai _ _ a0 ae _ ?side1 ?side2 ?side3 ?side4 A5.out).mono ?_);(case side1=>exact kcA (R_reads' L.out).2.2);(case side2=>exact(R_reads' L.out).2.1);(case side3=>exact kcA (R_reads' ar.out).2.2);(case side4=>exact(R_reads' ar.out).2.1);rintro e w' ⟨rfl,⟨nd,rfl⟩⟩))
    go_ret
    exact⟨rfE,hbA HB.out⟩
   ·rw[if_neg c4]at H
    have c4b0:(Y==6)=false:=beq_eq_false_iff_ne.mpr c4;have c4b1:(Y !=6)=true:=bne_iff_ne.mpr c4;obtain rfl:=Option.some.inj H
    go_enter Tryd.func15,Tryd.ntmps15
    go_wp2_with (first|((with_reducible refine gate_dst (N:=6) rfl ?_);(try(refine gate_guard ze ?_;dsimp only));refine Kd.R_lit (Kd.int .u8) _ 5 ?hg (N:=6) ?hd (xs:=([1,0,0,1,1,1,2,2,0,0]:List Int)) (inner:= [.int .u8 1,.int .u8 0,.int .u8 0,.int .u8 1,.int .u8 1,.int .u8 1,.int .u8 2,.int .u8 2,.int .u8 0,.int .u8 0]) (ok:=fun _=>True) (okp:=fun _=>True) ?hr ?hp (fun _ hk=>hk) trivial (Below.refl _ _) (Nat.le_refl _) zd ?_;(case hd=>rfl);(case hg=>rfl);(case hr=>first|(go_simp;done)|(go_simp;rfl));(case hp=>exact(Reps.one (show Kd.M (Kd.int .u8) _ _ _ 1 [.int .u8 1]from rfl) (Reps.one (show Kd.M (Kd.int .u8) _ _ _ 0 [.int .u8 0]from rfl) (Reps.one (show Kd.M (Kd.int .u8) _ _ _ 0 [.int .u8 0]from rfl) (Reps.one (show Kd.M (Kd.int .u8) _ _ _ 1 [.int .u8 1]from rfl) (Reps.one (show Kd.M (Kd.int .u8) _ _ _ 1 [.int .u8 1]from rfl) (Reps.one (show Kd.M (Kd.int .u8) _ _ _ 1 [.int .u8 1]from rfl) (Reps.one (show Kd.M (Kd.int .u8) _ _ _ 2 [.int .u8 2]from rfl) (Reps.one (show Kd.M (Kd.int .u8) _ _ _ 2 [.int .u8 2]from rfl) (Reps.one (show Kd.M (Kd.int .u8) _ _ _ 0 [.int .u8 0]from rfl) (Reps.one (show Kd.M (Kd.int .u8) _ _ _ 0 [.int .u8 0]from rfl) (Reps.none _ _))))))))))));intro ay b5 am hb hg_ hnew_;clear hg_ hnew_;(first|rw[<-U.out]at am|(simp only[Int.reduceToNat]at am;rw[<-U.out]at am));have D:=aK (R_lower am (below_size zh));replace HB:=aK (below_step zh hb);clear hb am;obtain⟨aj,af,a3⟩:=R_slice D.out;subst a3)|((with_reducible refine gD 1 rfl ?_);(try(refine gate_guard ze ?_;dsimp only));refine bE 1 #[.int .i64 0,.int .i64 0,.slice none 0 0] 24 ?_;intro J hg b6 hbox hb;replace D:=kdB D hb;have G:=aK (hbox);have aq:=aK ((by rw[hg];exact(below_size zh):w.heap.size<=J));have ap:=aK ((by rw[hg];exact(below_size zh):w.heap.size<=J));replace HB:=aK (below_step zh hb);clear hb hbox hg;obtain⟨a9,ba,bb,bl,bm,bn⟩:=cell3 G)|((with_reducible refine gC 11 rfl ?_);refine cG (some 10) Tryd.func11 #[.agg #[.int .i64 5,.int .i64 2,.slice aj I.length af],.int .i64 0] ?_;(with_reducible refine(local_Least.calls k 5 2 _ _ I 0 Y ai true Z _ ?side1 ?side2 A1.out (tab_below HT.out zl)).mono ?_);(case side1=>refine(R_reads' (e:=5) (base:=w.heap.size) (ok:=fun k_=>True) (n:=I.length) (c:=af) ?_).2.2;exact(by(with_reducible repeat(first|apply R_alloc|apply R_drewN|apply R_drew));exact(zF D.out G.out  (.int .i64 5)  (.int .i64 2)  (.slice aj I.length af))));(case side2=>exact(R_reads' D.out).2.1);rintro e b7 ⟨az,rfl,X,hb⟩;refine⟨_,rfl,?_⟩;have L:=aK (R_lower (R_new' X (R_lt (by(with_reducible repeat(first|apply R_alloc|apply R_drewN|apply R_drew));exact(zF D.out G.out  (.int .i64 5)  (.int .i64 2)  (.slice aj I.length af))))) (below_size (hbA HB.out)));replace D:=aK (R_elder' (by(with_reducible repeat(first|apply R_alloc|apply R_drewN|apply R_drew));exact(zF D.out G.out  (.int .i64 5)  (.int .i64 2)  (.slice aj I.length af))) (R_base X) hb);replace G:=aK (blk_below (g:=J) (o:= .cells #[.int .i64 5,.int .i64 2,.slice aj I.length af] 24 (0,0)) zy hb);replace HB:=hbB HB hb;(try clear hb);(try clear X)))
    go_ret
    exact⟨rfE,hbA HB.out⟩
  ·rw[if_neg c3]at H
   have c3b0:(Z==0)=false:=beq_eq_false_iff_ne.mpr c3;have c3b1:(Z !=0)=true:=bne_iff_ne.mpr c3;obtain rfl:=Option.some.inj H
   go_enter Tryd.func15,Tryd.ntmps15
   go_wp2_with (first|((with_reducible refine gate_dst (N:=6) rfl ?_);(try(refine gate_guard ze ?_;dsimp only));refine Kd.R_lit (Kd.int .u8) _ 5 ?hg (N:=6) ?hd (xs:=([1,0,0,1,1,1,2,2,0,0]:List Int)) (inner:= [.int .u8 1,.int .u8 0,.int .u8 0,.int .u8 1,.int .u8 1,.int .u8 1,.int .u8 2,.int .u8 2,.int .u8 0,.int .u8 0]) (ok:=fun _=>True) (okp:=fun _=>True) ?hr ?hp (fun _ hk=>hk) trivial (Below.refl _ _) (Nat.le_refl _) zd ?_;(case hd=>rfl);(case hg=>rfl);(case hr=>first|(go_simp;done)|(go_simp;rfl));(case hp=>exact(Reps.one (show Kd.M (Kd.int .u8) _ _ _ 1 [.int .u8 1]from rfl) (Reps.one (show Kd.M (Kd.int .u8) _ _ _ 0 [.int .u8 0]from rfl) (Reps.one (show Kd.M (Kd.int .u8) _ _ _ 0 [.int .u8 0]from rfl) (Reps.one (show Kd.M (Kd.int .u8) _ _ _ 1 [.int .u8 1]from rfl) (Reps.one (show Kd.M (Kd.int .u8) _ _ _ 1 [.int .u8 1]from rfl) (Reps.one (show Kd.M (Kd.int .u8) _ _ _ 1 [.int .u8 1]from rfl) (Reps.one (show Kd.M (Kd.int .u8) _ _ _ 2 [.int .u8 2]from rfl) (Reps.one (show Kd.M (Kd.int .u8) _ _ _ 2 [.int .u8 2]from rfl) (Reps.one (show Kd.M (Kd.int .u8) _ _ _ 0 [.int .u8 0]from rfl) (Reps.one (show Kd.M (Kd.int .u8) _ _ _ 0 [.int .u8 0]from rfl) (Reps.none _ _))))))))))));intro ay b8 an hb hg_ hnew_;clear hg_ hnew_;(first|rw[<-U.out]at an|(simp only[Int.reduceToNat]at an;rw[<-U.out]at an));have D:=aK (R_lower an (below_size zh));replace HB:=aK (below_step zh hb);clear hb an;obtain⟨ak,ag,a4⟩:=R_slice D.out;subst a4)|((with_reducible refine gD 1 rfl ?_);(try(refine gate_guard ze ?_;dsimp only));refine bE 1 #[.int .i64 0,.int .i64 0,.slice none 0 0] 24 ?_;intro J hg b9 hbox hb;replace D:=kdB D hb;have G:=aK (hbox);have aq:=aK ((by rw[hg];exact(below_size zh):w.heap.size<=J));have ap:=aK ((by rw[hg];exact(below_size zh):w.heap.size<=J));replace HB:=aK (below_step zh hb);clear hb hbox hg;obtain⟨bc,bd,be,bo,bp,bq⟩:=cell3 G)|((with_reducible refine gC 11 rfl ?_);refine cG (some 10) Tryd.func11 #[.agg #[.int .i64 5,.int .i64 2,.slice ak I.length ag],.int .i64 0] ?_;(with_reducible refine(local_Least.calls k 5 2 _ _ I 0 Y ai true Z _ ?side1 ?side2 A1.out (tab_below HT.out zl)).mono ?_);(case side1=>refine(R_reads' (e:=5) (base:=w.heap.size) (ok:=fun k_=>True) (n:=I.length) (c:=ag) ?_).2.2;exact(by(with_reducible repeat(first|apply R_alloc|apply R_drewN|apply R_drew));exact(zF D.out G.out  (.int .i64 5)  (.int .i64 2)  (.slice ak I.length ag))));(case side2=>exact(R_reads' D.out).2.1);rintro e ca ⟨az,rfl,X,hb⟩;refine⟨_,rfl,?_⟩;have L:=aK (R_lower (R_new' X (R_lt (by(with_reducible repeat(first|apply R_alloc|apply R_drewN|apply R_drew));exact(zF D.out G.out  (.int .i64 5)  (.int .i64 2)  (.slice ak I.length ag))))) (below_size (hbA HB.out)));replace D:=aK (R_elder' (by(with_reducible repeat(first|apply R_alloc|apply R_drewN|apply R_drew));exact(zF D.out G.out  (.int .i64 5)  (.int .i64 2)  (.slice ak I.length ag))) (R_base X) hb);replace G:=aK (blk_below (g:=J) (o:= .cells #[.int .i64 5,.int .i64 2,.slice ak I.length ag] 24 (0,0)) zy hb);replace HB:=hbB HB hb;(try clear hb);(try clear X)))
   go_ret
   exact⟨rfE,hbA HB.out⟩
 ·replace c2:=Bool.eq_false_iff.mpr c2;subst c2;rw[if_neg nofT]at H
  obtain rfl:=Option.some.inj H
  go_enter Tryd.func15,Tryd.ntmps15
  go_wp2_with (first|((with_reducible refine gate_dst (N:=6) rfl ?_);(try(refine gate_guard ze ?_;dsimp only));refine Kd.R_lit (Kd.int .u8) _ 5 ?hg (N:=6) ?hd (xs:=([1,0,0,1,1,1,2,2,0,0]:List Int)) (inner:= [.int .u8 1,.int .u8 0,.int .u8 0,.int .u8 1,.int .u8 1,.int .u8 1,.int .u8 2,.int .u8 2,.int .u8 0,.int .u8 0]) (ok:=fun _=>True) (okp:=fun _=>True) ?hr ?hp (fun _ hk=>hk) trivial (Below.refl _ _) (Nat.le_refl _) zd ?_;(case hd=>rfl);(case hg=>rfl);(case hr=>first|(go_simp;done)|(go_simp;rfl));(case hp=>exact(Reps.one (show Kd.M (Kd.int .u8) _ _ _ 1 [.int .u8 1]from rfl) (Reps.one (show Kd.M (Kd.int .u8) _ _ _ 0 [.int .u8 0]from rfl) (Reps.one (show Kd.M (Kd.int .u8) _ _ _ 0 [.int .u8 0]from rfl) (Reps.one (show Kd.M (Kd.int .u8) _ _ _ 1 [.int .u8 1]from rfl) (Reps.one (show Kd.M (Kd.int .u8) _ _ _ 1 [.int .u8 1]from rfl) (Reps.one (show Kd.M (Kd.int .u8) _ _ _ 1 [.int .u8 1]from rfl) (Reps.one (show Kd.M (Kd.int .u8) _ _ _ 2 [.int .u8 2]from rfl) (Reps.one (show Kd.M (Kd.int .u8) _ _ _ 2 [.int .u8 2]from rfl) (Reps.one (show Kd.M (Kd.int .u8) _ _ _ 0 [.int .u8 0]from rfl) (Reps.one (show Kd.M (Kd.int .u8) _ _ _ 0 [.int .u8 0]from rfl) (Reps.none _ _))))))))))));intro ay cb ao hb hg_ hnew_;clear hg_ hnew_;(first|rw[<-U.out]at ao|(simp only[Int.reduceToNat]at ao;rw[<-U.out]at ao));have D:=aK (R_lower ao (below_size zh));replace HB:=aK (below_step zh hb);clear hb ao;obtain⟨al,ah,a5⟩:=R_slice D.out;subst a5)|((with_reducible refine gD 1 rfl ?_);(try(refine gate_guard ze ?_;dsimp only));refine bE 1 #[.int .i64 0,.int .i64 0,.slice none 0 0] 24 ?_;intro J hg cd hbox hb;replace D:=kdB D hb;have G:=aK (hbox);have aq:=aK ((by rw[hg];exact(below_size zh):w.heap.size<=J));have ap:=aK ((by rw[hg];exact(below_size zh):w.heap.size<=J));replace HB:=aK (below_step zh hb);clear hb hbox hg;obtain⟨bf,bg,bh,br,bs,bt⟩:=cell3 G)|((with_reducible refine gC 11 rfl ?_);refine cG (some 10) Tryd.func11 #[.agg #[.int .i64 5,.int .i64 2,.slice al I.length ah],.int .i64 0] ?_;(with_reducible refine(local_Least.calls k 5 2 _ _ I 0 Y ai false Z _ ?side1 ?side2 A1.out (tab_below HT.out zl)).mono ?_);(case side1=>refine(R_reads' (e:=5) (base:=w.heap.size) (ok:=fun k_=>True) (n:=I.length) (c:=ah) ?_).2.2;exact(by(with_reducible repeat(first|apply R_alloc|apply R_drewN|apply R_drew));exact(zF D.out G.out  (.int .i64 5)  (.int .i64 2)  (.slice al I.length ah))));(case side2=>exact(R_reads' D.out).2.1);rintro e ce ⟨az,rfl,X,hb⟩;refine⟨_,rfl,?_⟩;have L:=aK (R_lower (R_new' X (R_lt (by(with_reducible repeat(first|apply R_alloc|apply R_drewN|apply R_drew));exact(zF D.out G.out  (.int .i64 5)  (.int .i64 2)  (.slice al I.length ah))))) (below_size (hbA HB.out)));replace D:=aK (R_elder' (by(with_reducible repeat(first|apply R_alloc|apply R_drewN|apply R_drew));exact(zF D.out G.out  (.int .i64 5)  (.int .i64 2)  (.slice al I.length ah))) (R_base X) hb);replace G:=aK (blk_below (g:=J) (o:= .cells #[.int .i64 5,.int .i64 2,.slice al I.length ah] 24 (0,0)) zy hb);replace HB:=hbB HB hb;(try clear hb);(try clear X)))
  go_ret
  exact⟨rfE,hbA HB.out⟩
def bits_OnesCount64.f(a0:Int):Option (Int):=some (Go.bits .and .i64 (wrap64 (IntKind.u64.wrap ((IntKind.u64.wrap ((IntKind.u64.wrap ((Go.bits .and .u64 (IntKind.u64.wrap (((IntKind.u64.wrap ((Go.bits .and .u64 ((IntKind.u64.wrap ((Go.bits .and .u64 (a0 / 2) 6148914691236517205)+(Go.bits .and .u64 a0 6148914691236517205))) / 4) 3689348814741910323)+(Go.bits .and .u64 (IntKind.u64.wrap ((Go.bits .and .u64 (a0 / 2) 6148914691236517205)+(Go.bits .and .u64 a0 6148914691236517205))) 3689348814741910323))) / 16)+(IntKind.u64.wrap ((Go.bits .and .u64 ((IntKind.u64.wrap ((Go.bits .and .u64 (a0 / 2) 6148914691236517205)+(Go.bits .and .u64 a0 6148914691236517205))) / 4) 3689348814741910323)+(Go.bits .and .u64 (IntKind.u64.wrap ((Go.bits .and .u64 (a0 / 2) 6148914691236517205)+(Go.bits .and .u64 a0 6148914691236517205))) 3689348814741910323))))) 1085102592571150095)+((Go.bits .and .u64 (IntKind.u64.wrap (((IntKind.u64.wrap ((Go.bits .and .u64 ((IntKind.u64.wrap ((Go.bits .and .u64 (a0 / 2) 6148914691236517205)+(Go.bits .and .u64 a0 6148914691236517205))) / 4) 3689348814741910323)+(Go.bits .and .u64 (IntKind.u64.wrap ((Go.bits .and .u64 (a0 / 2) 6148914691236517205)+(Go.bits .and .u64 a0 6148914691236517205))) 3689348814741910323))) / 16)+(IntKind.u64.wrap ((Go.bits .and .u64 ((IntKind.u64.wrap ((Go.bits .and .u64 (a0 / 2) 6148914691236517205)+(Go.bits .and .u64 a0 6148914691236517205))) / 4) 3689348814741910323)+(Go.bits .and .u64 (IntKind.u64.wrap ((Go.bits .and .u64 (a0 / 2) 6148914691236517205)+(Go.bits .and .u64 a0 6148914691236517205))) 3689348814741910323))))) 1085102592571150095) / 256)))+((IntKind.u64.wrap ((Go.bits .and .u64 (IntKind.u64.wrap (((IntKind.u64.wrap ((Go.bits .and .u64 ((IntKind.u64.wrap ((Go.bits .and .u64 (a0 / 2) 6148914691236517205)+(Go.bits .and .u64 a0 6148914691236517205))) / 4) 3689348814741910323)+(Go.bits .and .u64 (IntKind.u64.wrap ((Go.bits .and .u64 (a0 / 2) 6148914691236517205)+(Go.bits .and .u64 a0 6148914691236517205))) 3689348814741910323))) / 16)+(IntKind.u64.wrap ((Go.bits .and .u64 ((IntKind.u64.wrap ((Go.bits .and .u64 (a0 / 2) 6148914691236517205)+(Go.bits .and .u64 a0 6148914691236517205))) / 4) 3689348814741910323)+(Go.bits .and .u64 (IntKind.u64.wrap ((Go.bits .and .u64 (a0 / 2) 6148914691236517205)+(Go.bits .and .u64 a0 6148914691236517205))) 3689348814741910323))))) 1085102592571150095)+((Go.bits .and .u64 (IntKind.u64.wrap (((IntKind.u64.wrap ((Go.bits .and .u64 ((IntKind.u64.wrap ((Go.bits .and .u64 (a0 / 2) 6148914691236517205)+(Go.bits .and .u64 a0 6148914691236517205))) / 4) 3689348814741910323)+(Go.bits .and .u64 (IntKind.u64.wrap ((Go.bits .and .u64 (a0 / 2) 6148914691236517205)+(Go.bits .and .u64 a0 6148914691236517205))) 3689348814741910323))) / 16)+(IntKind.u64.wrap ((Go.bits .and .u64 ((IntKind.u64.wrap ((Go.bits .and .u64 (a0 / 2) 6148914691236517205)+(Go.bits .and .u64 a0 6148914691236517205))) / 4) 3689348814741910323)+(Go.bits .and .u64 (IntKind.u64.wrap ((Go.bits .and .u64 (a0 / 2) 6148914691236517205)+(Go.bits .and .u64 a0 6148914691236517205))) 3689348814741910323))))) 1085102592571150095) / 256))) / 65536)))+((IntKind.u64.wrap ((IntKind.u64.wrap ((Go.bits .and .u64 (IntKind.u64.wrap (((IntKind.u64.wrap ((Go.bits .and .u64 ((IntKind.u64.wrap ((Go.bits .and .u64 (a0 / 2) 6148914691236517205)+(Go.bits .and .u64 a0 6148914691236517205))) / 4) 3689348814741910323)+(Go.bits .and .u64 (IntKind.u64.wrap ((Go.bits .and .u64 (a0 / 2) 6148914691236517205)+(Go.bits .and .u64 a0 6148914691236517205))) 3689348814741910323))) / 16)+(IntKind.u64.wrap ((Go.bits .and .u64 ((IntKind.u64.wrap ((Go.bits .and .u64 (a0 / 2) 6148914691236517205)+(Go.bits .and .u64 a0 6148914691236517205))) / 4) 3689348814741910323)+(Go.bits .and .u64 (IntKind.u64.wrap ((Go.bits .and .u64 (a0 / 2) 6148914691236517205)+(Go.bits .and .u64 a0 6148914691236517205))) 3689348814741910323))))) 1085102592571150095)+((Go.bits .and .u64 (IntKind.u64.wrap (((IntKind.u64.wrap ((Go.bits .and .u64 ((IntKind.u64.wrap ((Go.bits .and .u64 (a0 / 2) 6148914691236517205)+(Go.bits .and .u64 a0 6148914691236517205))) / 4) 3689348814741910323)+(Go.bits .and .u64 (IntKind.u64.wrap ((Go.bits .and .u64 (a0 / 2) 6148914691236517205)+(Go.bits .and .u64 a0 6148914691236517205))) 3689348814741910323))) / 16)+(IntKind.u64.wrap ((Go.bits .and .u64 ((IntKind.u64.wrap ((Go.bits .and .u64 (a0 / 2) 6148914691236517205)+(Go.bits .and .u64 a0 6148914691236517205))) / 4) 3689348814741910323)+(Go.bits .and .u64 (IntKind.u64.wrap ((Go.bits .and .u64 (a0 / 2) 6148914691236517205)+(Go.bits .and .u64 a0 6148914691236517205))) 3689348814741910323))))) 1085102592571150095) / 256)))+((IntKind.u64.wrap ((Go.bits .and .u64 (IntKind.u64.wrap (((IntKind.u64.wrap ((Go.bits .and .u64 ((IntKind.u64.wrap ((Go.bits .and .u64 (a0 / 2) 6148914691236517205)+(Go.bits .and .u64 a0 6148914691236517205))) / 4) 3689348814741910323)+(Go.bits .and .u64 (IntKind.u64.wrap ((Go.bits .and .u64 (a0 / 2) 6148914691236517205)+(Go.bits .and .u64 a0 6148914691236517205))) 3689348814741910323))) / 16)+(IntKind.u64.wrap ((Go.bits .and .u64 ((IntKind.u64.wrap ((Go.bits .and .u64 (a0 / 2) 6148914691236517205)+(Go.bits .and .u64 a0 6148914691236517205))) / 4) 3689348814741910323)+(Go.bits .and .u64 (IntKind.u64.wrap ((Go.bits .and .u64 (a0 / 2) 6148914691236517205)+(Go.bits .and .u64 a0 6148914691236517205))) 3689348814741910323))))) 1085102592571150095)+((Go.bits .and .u64 (IntKind.u64.wrap (((IntKind.u64.wrap ((Go.bits .and .u64 ((IntKind.u64.wrap ((Go.bits .and .u64 (a0 / 2) 6148914691236517205)+(Go.bits .and .u64 a0 6148914691236517205))) / 4) 3689348814741910323)+(Go.bits .and .u64 (IntKind.u64.wrap ((Go.bits .and .u64 (a0 / 2) 6148914691236517205)+(Go.bits .and .u64 a0 6148914691236517205))) 3689348814741910323))) / 16)+(IntKind.u64.wrap ((Go.bits .and .u64 ((IntKind.u64.wrap ((Go.bits .and .u64 (a0 / 2) 6148914691236517205)+(Go.bits .and .u64 a0 6148914691236517205))) / 4) 3689348814741910323)+(Go.bits .and .u64 (IntKind.u64.wrap ((Go.bits .and .u64 (a0 / 2) 6148914691236517205)+(Go.bits .and .u64 a0 6148914691236517205))) 3689348814741910323))))) 1085102592571150095) / 256))) / 65536))) / 4294967296)))) 127)
theorem bits_OnesCount64.calls(a0:Int)(r:Int)(w:World)(h:bits_OnesCount64.f a0=some r):
 Calls Tryd.prog 79 #[.int .u64 a0] w fun e w'=>e= .returned (.int .i64 r)/\Drawn0 w w':=by
 have H:(some (Go.bits .and .i64 (wrap64 (IntKind.u64.wrap ((IntKind.u64.wrap ((IntKind.u64.wrap ((Go.bits .and .u64 (IntKind.u64.wrap (((IntKind.u64.wrap ((Go.bits .and .u64 ((IntKind.u64.wrap ((Go.bits .and .u64 (a0 / 2) 6148914691236517205)+(Go.bits .and .u64 a0 6148914691236517205))) / 4) 3689348814741910323)+(Go.bits .and .u64 (IntKind.u64.wrap ((Go.bits .and .u64 (a0 / 2) 6148914691236517205)+(Go.bits .and .u64 a0 6148914691236517205))) 3689348814741910323))) / 16)+(IntKind.u64.wrap ((Go.bits .and .u64 ((IntKind.u64.wrap ((Go.bits .and .u64 (a0 / 2) 6148914691236517205)+(Go.bits .and .u64 a0 6148914691236517205))) / 4) 3689348814741910323)+(Go.bits .and .u64 (IntKind.u64.wrap ((Go.bits .and .u64 (a0 / 2) 6148914691236517205)+(Go.bits .and .u64 a0 6148914691236517205))) 3689348814741910323))))) 1085102592571150095)+((Go.bits .and .u64 (IntKind.u64.wrap (((IntKind.u64.wrap ((Go.bits .and .u64 ((IntKind.u64.wrap ((Go.bits .and .u64 (a0 / 2) 6148914691236517205)+(Go.bits .and .u64 a0 6148914691236517205))) / 4) 3689348814741910323)+(Go.bits .and .u64 (IntKind.u64.wrap ((Go.bits .and .u64 (a0 / 2) 6148914691236517205)+(Go.bits .and .u64 a0 6148914691236517205))) 3689348814741910323))) / 16)+(IntKind.u64.wrap ((Go.bits .and .u64 ((IntKind.u64.wrap ((Go.bits .and .u64 (a0 / 2) 6148914691236517205)+(Go.bits .and .u64 a0 6148914691236517205))) / 4) 3689348814741910323)+(Go.bits .and .u64 (IntKind.u64.wrap ((Go.bits .and .u64 (a0 / 2) 6148914691236517205)+(Go.bits .and .u64 a0 6148914691236517205))) 3689348814741910323))))) 1085102592571150095) / 256)))+((IntKind.u64.wrap ((Go.bits .and .u64 (IntKind.u64.wrap (((IntKind.u64.wrap ((Go.bits .and .u64 ((IntKind.u64.wrap ((Go.bits .and .u64 (a0 / 2) 6148914691236517205)+(Go.bits .and .u64 a0 6148914691236517205))) / 4) 3689348814741910323)+(Go.bits .and .u64 (IntKind.u64.wrap ((Go.bits .and .u64 (a0 / 2) 6148914691236517205)+(Go.bits .and .u64 a0 6148914691236517205))) 3689348814741910323))) / 16)+(IntKind.u64.wrap ((Go.bits .and .u64 ((IntKind.u64.wrap ((Go.bits .and .u64 (a0 / 2) 6148914691236517205)+(Go.bits .and .u64 a0 6148914691236517205))) / 4) 3689348814741910323)+(Go.bits .and .u64 (IntKind.u64.wrap ((Go.bits .and .u64 (a0 / 2) 6148914691236517205)+(Go.bits .and .u64 a0 6148914691236517205))) 3689348814741910323))))) 1085102592571150095)+((Go.bits .and .u64 (IntKind.u64.wrap (((IntKind.u64.wrap ((Go.bits .and .u64 ((IntKind.u64.wrap ((Go.bits .and .u64 (a0 / 2) 6148914691236517205)+(Go.bits .and .u64 a0 6148914691236517205))) / 4) 3689348814741910323)+(Go.bits .and .u64 (IntKind.u64.wrap ((Go.bits .and .u64 (a0 / 2) 6148914691236517205)+(Go.bits .and .u64 a0 6148914691236517205))) 3689348814741910323))) / 16)+(IntKind.u64.wrap ((Go.bits .and .u64 ((IntKind.u64.wrap ((Go.bits .and .u64 (a0 / 2) 6148914691236517205)+(Go.bits .and .u64 a0 6148914691236517205))) / 4) 3689348814741910323)+(Go.bits .and .u64 (IntKind.u64.wrap ((Go.bits .and .u64 (a0 / 2) 6148914691236517205)+(Go.bits .and .u64 a0 6148914691236517205))) 3689348814741910323))))) 1085102592571150095) / 256))) / 65536)))+((IntKind.u64.wrap ((IntKind.u64.wrap ((Go.bits .and .u64 (IntKind.u64.wrap (((IntKind.u64.wrap ((Go.bits .and .u64 ((IntKind.u64.wrap ((Go.bits .and .u64 (a0 / 2) 6148914691236517205)+(Go.bits .and .u64 a0 6148914691236517205))) / 4) 3689348814741910323)+(Go.bits .and .u64 (IntKind.u64.wrap ((Go.bits .and .u64 (a0 / 2) 6148914691236517205)+(Go.bits .and .u64 a0 6148914691236517205))) 3689348814741910323))) / 16)+(IntKind.u64.wrap ((Go.bits .and .u64 ((IntKind.u64.wrap ((Go.bits .and .u64 (a0 / 2) 6148914691236517205)+(Go.bits .and .u64 a0 6148914691236517205))) / 4) 3689348814741910323)+(Go.bits .and .u64 (IntKind.u64.wrap ((Go.bits .and .u64 (a0 / 2) 6148914691236517205)+(Go.bits .and .u64 a0 6148914691236517205))) 3689348814741910323))))) 1085102592571150095)+((Go.bits .and .u64 (IntKind.u64.wrap (((IntKind.u64.wrap ((Go.bits .and .u64 ((IntKind.u64.wrap ((Go.bits .and .u64 (a0 / 2) 6148914691236517205)+(Go.bits .and .u64 a0 6148914691236517205))) / 4) 3689348814741910323)+(Go.bits .and .u64 (IntKind.u64.wrap ((Go.bits .and .u64 (a0 / 2) 6148914691236517205)+(Go.bits .and .u64 a0 6148914691236517205))) 3689348814741910323))) / 16)+(IntKind.u64.wrap ((Go.bits .and .u64 ((IntKind.u64.wrap ((Go.bits .and .u64 (a0 / 2) 6148914691236517205)+(Go.bits .and .u64 a0 6148914691236517205))) / 4) 3689348814741910323)+(Go.bits .and .u64 (IntKind.u64.wrap ((Go.bits .and .u64 (a0 / 2) 6148914691236517205)+(Go.bits .and .u64 a0 6148914691236517205))) 3689348814741910323))))) 1085102592571150095) / 256)))+((IntKind.u64.wrap ((Go.bits .and .u64 (IntKind.u64.wrap (((IntKind.u64.wrap ((Go.bits .and .u64 ((IntKind.u64.wrap ((Go.bits .and .u64 (a0 / 2) 6148914691236517205)+(Go.bits .and .u64 a0 6148914691236517205))) / 4) 3689348814741910323)+(Go.bits .and .u64 (IntKind.u64.wrap ((Go.bits .and .u64 (a0 / 2) 6148914691236517205)+(Go.bits .and .u64 a0 6148914691236517205))) 3689348814741910323))) / 16)+(IntKind.u64.wrap ((Go.bits .and .u64 ((IntKind.u64.wrap ((Go.bits .and .u64 (a0 / 2) 6148914691236517205)+(Go.bits .and .u64 a0 6148914691236517205))) / 4) 3689348814741910323)+(Go.bits .and .u64 (IntKind.u64.wrap ((Go.bits .and .u64 (a0 / 2) 6148914691236517205)+(Go.bits .and .u64 a0 6148914691236517205))) 3689348814741910323))))) 1085102592571150095)+((Go.bits .and .u64 (IntKind.u64.wrap (((IntKind.u64.wrap ((Go.bits .and .u64 ((IntKind.u64.wrap ((Go.bits .and .u64 (a0 / 2) 6148914691236517205)+(Go.bits .and .u64 a0 6148914691236517205))) / 4) 3689348814741910323)+(Go.bits .and .u64 (IntKind.u64.wrap ((Go.bits .and .u64 (a0 / 2) 6148914691236517205)+(Go.bits .and .u64 a0 6148914691236517205))) 3689348814741910323))) / 16)+(IntKind.u64.wrap ((Go.bits .and .u64 ((IntKind.u64.wrap ((Go.bits .and .u64 (a0 / 2) 6148914691236517205)+(Go.bits .and .u64 a0 6148914691236517205))) / 4) 3689348814741910323)+(Go.bits .and .u64 (IntKind.u64.wrap ((Go.bits .and .u64 (a0 / 2) 6148914691236517205)+(Go.bits .and .u64 a0 6148914691236517205))) 3689348814741910323))))) 1085102592571150095) / 256))) / 65536))) / 4294967296)))) 127))=some r:=h
 clear h;obtain rfl:=Option.some.inj H
 go_enter Tryd.func79,Tryd.ntmps79
 go_wp2
 go_ret
 exact zD
def subset_Count.f(a0:Int):Option (Int):=(bits_OnesCount64.f a0).bind fun D=>(some D)
theorem subset_Count.calls(a0:Int)(r:Int)(w:World)(h:subset_Count.f a0=some r):
 Calls Tryd.prog 52 #[.int .u64 a0] w fun e w'=>e= .returned (.int .i64 r)/\Drawn0 w w':=by
 have H:((bits_OnesCount64.f a0).bind fun D=>(some D))=some r:=h;clear h;obtain⟨D,A2,H⟩:=bindO H
 (try dsimp only at H)
 obtain rfl:=Option.some.inj H
 go_enter Tryd.func52,Tryd.ntmps52
 go_wp2_with (first|((with_reducible refine gC 79 rfl ?_);refine cG (some 4) Tryd.func79 #[.int .u64 a0] ?_;(with_reducible refine(bits_OnesCount64.calls a0 D _ A2.out).mono ?_);rintro e w' ⟨rfl,⟨nd,rfl⟩⟩;refine⟨_,rfl,?_⟩))
 go_ret
 exact zD
def subset_choose.inner(row:List Int):Nat->List Int
 |0=>row
 |j+1=>subset_choose.inner (row.set (j+1) (wrap64 (row.getD (j+1) 0+row.getD j 0))) j
def subset_choose.rows:Nat->List Int
 |0=>(List.replicate 65 0).set 0 1
 |i+1=>subset_choose.inner (subset_choose.rows i) (i+1)
def subset_choose.f(n k:Int):Option Int:=
 if k<0 then some 0 else if k>n then some 0 else if n<=64 then some ((subset_choose.rows n.toNat).getD k.toNat 0)else none
theorem subset_choose.block_set{W:World}{g:Nat}{row:List Int}(j:Nat)(x:Int)(h:W.heap[g]? =some (.cells (nums .i64 row).toArray 133 (0,0))):(W.setCell ⟨g,j,none⟩ (.int .i64 x)).heap[g]? =some (.cells (nums .i64 (row.set j x)).toArray 133 (0,0)):=
 (blk_set h j _).trans (by simp[nums,List.map_set])
theorem subset_choose.block_cell{W:World}{g:Nat}{row:List Int}(h:W.heap[g]? =some (.cells (nums .i64 row).toArray 133 (0,0)))(j:Nat)(hj:j<row.length):W.cell? ⟨g,j,none⟩=some (.int .i64 (row.getD j 0)):=by
 rw[blk_cell h j];simp[nums,List.getElem?_eq_getElem hj,List.getD_eq_getElem?_getD]
theorem subset_choose.inner_length(j:Nat): ∀row:List Int,(subset_choose.inner row j).length=row.length:=by
 induction j with
 |zero=>intro row;rfl
 |succ j ih=>intro row;unfold subset_choose.inner;rw[ih,List.length_set]
theorem subset_choose.rows_length(i:Nat):(subset_choose.rows i).length=65:=by
 induction i with
 |zero=>rfl
 |succ i ih=>unfold subset_choose.rows;rw[subset_choose.inner_length,ih]
def Z65:Array Value:=Array.replicate 65 (.int .i64 0)
theorem zero65(w:World):(zeroValue 133).run Tryd.prog w= .ok (.agg Z65) w:=by kernel_rfl
theorem cellZ65(w:World):(w.alloc (.cells Z65 133)).cell? ⟨w.heap.size,0,none⟩=some (.int .i64 0):=(blk_cell (blk_new w _) 0).trans rfl
theorem subset_choose.calls(a0 a1:Int)(r:Int)(w:World)(h:subset_choose.f a0 a1=some r):
 Calls Tryd.prog 81 #[.int .i64 a0,.int .i64 a1] w fun e w'=>e= .returned (.int .i64 r)/\Below w.heap.size w w':=by
 unfold subset_choose.f at h;by_cases c1:a1<0
 ·rw[if_pos c1]at h
  obtain rfl:=Option.some.inj h;clear h
  go_enter Tryd.func81,Tryd.ntmps81
  go_wp2
  go_ret
  exact⟨rfl,Below.refl _ _⟩
 rw[if_neg c1]at h
 by_cases c2:a1>a0
 ·rw[if_pos c2]at h
  obtain rfl:=Option.some.inj h;clear h
  go_enter Tryd.func81,Tryd.ntmps81
  go_wp2
  go_ret
  exact⟨rfl,Below.refl _ _⟩
 rw[if_neg c2]at h
 by_cases c3:a0<=64
 case neg=>
  rw[if_neg c3]at h
  cases h
 rw[if_pos c3]at h
 have H:=aK (Option.some.inj h);clear h;have hz:=zero65;have J:=cellZ65 w
 go_enter Tryd.func81,Tryd.ntmps81
 go_wp2_with fail
 go_loopw [17] (fun v wr=> ∃i:Nat,i<=a0.toNat/\v= .int .i64 i/\Aside0 (wr.heap[w.heap.size]? =some (.cells (nums .i64 (subset_choose.rows i)).toArray 133 (0,0)))/\Aside0 (Below w.heap.size w wr)) (fun v _=>a0.toNat-(intOf v).toNat)
 case atStart=>exact⟨0,Nat.zero_le _,rfl,⟨(blk_new w _).trans rfl⟩,⟨below_alloc (Below.refl _ _) _⟩⟩
 case round=>
  obtain⟨i,hi,rfl,HW,HB⟩:=hrel;by_cases hlt:i<a0.toNat
  case neg=>
   have hlt': ¬(i:Int)<a0:=by omega
   obtain rfl:i=a0.toNat:=by omega
   have D:a1.toNat<(subset_choose.rows a0.toNat).length:=by rw[subset_choose.rows_length];omega
   have hA:=subset_choose.block_cell HW.out a1.toNat D;have G:a1<65:=by omega
   have I:0<=a1:=by omega
   clear D;go_wp2
   go_ret
   have e:=H.out;rw[List.getD_eq_getElem?_getD]at e
   rw[<-e];exact⟨rfl,HB.out⟩
  have hlt':(i:Int)<a0:=by omega
  go_wp2_with fail
  obtain⟨wo,hwo⟩: ∃wo:World,wo=wr:=⟨_,rfl⟩
  subst hwo
  go_loopw [7] (fun v wx=> ∃(j:Nat) (row:List Int),j<=i+1/\v= .int .i64 j/\row.length=65/\Aside0 (subset_choose.inner row j=subset_choose.rows (i+1))/\Aside0 (wx.heap[w.heap.size]? =some (.cells (nums .i64 row).toArray 133 (0,0)))/\Aside0 (Below w.heap.size w wx)) (fun v _=>(intOf v).toNat)
  case atStart=>exact⟨i+1,_,Nat.le_refl _,by go_num,subset_choose.rows_length i,⟨rfl⟩,HW,HB⟩
  case round=>
   obtain⟨j,row,hj,rfl,hl,HI,HX,HBx⟩:=hrel
   cases j with
   |zero=>
    go_wp2
    go_roundw
    case rel=>exact⟨i+1,hlt,by go_num,⟨by rw[<-HI.out];exact HX.out⟩,HBx⟩
    case measure=>simp[intOf];omega
   |succ j=>
    have hA:=subset_choose.block_cell HX.out (j+1) za;have hA':=subset_choose.block_cell HX.out j za;have hF:=blk_frozen HX.out (j+1);have hl:=aK hl;have G:(j:Int)+1<65:=by omega
    have hs: ∀i x,wr.cell? ⟨w.heap.size,i,none⟩=some x->True:=fun _ _ _=>trivial;clear hs
    go_wp2_with fail
    go_region
    go_wp2
    go_roundw
    case rel=>exact⟨j,row.set (j+1) (wrap64 (row.getD (j+1) 0+row.getD j 0)),by omega,by go_num,by rw[List.length_set];exact hl.out,⟨by rw[<-HI.out];rfl⟩,⟨subset_choose.block_set _ _ HX.out⟩,⟨below_drew (HBx.out.setCell (Nat.le_refl _) _)⟩⟩
    case measure=>first|(simp[intOf];done)|(simp[intOf];omega)
def subset_Upto.l0:Nat->Int->Int->Int->Int->Option (Int×Int)
 |0,_,_,_,_=>none
 |k+1,x0,x1,x6,x7=>if x7<=(mn x0 x1)then((subset_choose.f x0 x7).bind fun D=>(if(wrap64 (x6+D))>4611686018427387904 then(some (0,4))else(subset_Upto.l0 k x0 x1 (wrap64 (x6+D)) (wrap64 (x7+1)))))else(some (x6,0))
def subset_Upto.f(k:Nat)(a0:Int)(a1:Int):Option (Int×Int):=(subset_may.f a0).bind fun D=>(if D=true then(subset_Upto.l0 k a0 a1 0 0)else(some (0,2)))
theorem subset_Upto.calls(k:Nat)(a0:Int)(a1:Int)(r1:Int)(r2:Int)(w:World)(h:subset_Upto.f k a0 a1=some (r1,r2)):
 Calls Tryd.prog 53 #[.int .i64 a0,.int .i64 a1] w fun e w'=>e= .returned (.tuple #[.int .i64 r1,.int .i64 r2])/\Below w.heap.size w w':=by
 have HB:=aK (Below.refl w.heap.size w);have H:((subset_may.f a0).bind fun O=>(if O=true then(subset_Upto.l0 k a0 a1 0 0)else(some (0,2))))=some (r1,r2):=h;clear h;obtain⟨O,A3,H⟩:=bindO H
 (try dsimp only at H)
 by_cases c4:O=true
 case neg=>
  replace c4:=Bool.eq_false_iff.mpr c4;subst c4;rw[if_neg nofT]at H
  obtain⟨rfl,rfl⟩:=zP2 H
  go_enter Tryd.func53,Tryd.ntmps53
  go_wp2_with (first|((with_reducible refine gC 80 rfl ?_);refine cG (some 9) Tryd.func80 #[.int .i64 a0] ?_;(with_reducible refine(subset_may.calls a0 false _ A3.out).mono ?_);rintro e w' ⟨rfl,⟨nd,rfl⟩⟩;refine⟨_,rfl,?_⟩))
  go_ret2
  exact⟨rfE,hbA HB.out⟩
 subst c4;rw[if_pos rfl]at H
 have H':=aK H;clear H
 go_enter Tryd.func53,Tryd.ntmps53
 go_wp2_with (first|((with_reducible refine gC 80 rfl ?_);refine cG (some 9) Tryd.func80 #[.int .i64 a0] ?_;(with_reducible refine(subset_may.calls a0 true _ A3.out).mono ?_);rintro e w' ⟨rfl,⟨nd,rfl⟩⟩;refine⟨_,rfl,?_⟩))
 go_loopg [6,7] k (fun kq v6 v7 w'=> ∃(G:Int) (D:Int),v6= .int .i64 G/\v7= .int .i64 D/\Aside0 (subset_Upto.l0 kq a0 a1 G D=some (r1,r2))/\Aside0 (kq<=k)/\Aside0 (Below w.heap.size w w'))
 case atStart=>exact⟨(0),(0),rsE,rsE,H',⟨Nat.le_refl _⟩,⟨hbA HB.out⟩⟩
 case round=>
  clear H'
  (try clear p2);(try clear c4)
  obtain⟨G,D,rfl,rfl,HA,U,HB⟩:=hrel
  cases gk with
  |zero=>exact absurd HA.out (by simp[subset_Upto.l0])
  |succ k1=>
   have H:=HA.out;clear HA;simp only[subset_Upto.l0]at H;obtain⟨L,J⟩: ∃j_:Int,(mn a0 a1)=j_:=⟨_,rfl⟩
   replace H:(if D<=(L)then((subset_choose.f a0 D).bind fun I=>(if(wrap64 (G+I))>4611686018427387904 then(some (0,4))else(subset_Upto.l0 k1 a0 a1 (wrap64 (G+I)) (wrap64 (D+1)))))else(some (G,0)))=some (r1,r2):=by first|(rw[J]at H;exact H)|(simp only[J]at H⊢;exact H)
   have hji5_:(if a1<a0 then a1 else a0)=L:=J;by_cases c6:D<=(L)
   case neg=>
    rw[if_neg c6]at H
    have c6b0:decide (D<=(L))=false:=decide_eq_false c6;clear c6;obtain⟨rfl,rfl⟩:=zP2 H;go_wp2
    go_ret2
    exact⟨by first|rfl|(simp[errW_none,errW_some]<;>rfl)|(simp only[<-J];first|rfl|(simp[errW_none,errW_some]<;>rfl))|(simp[*,errW_none,errW_some]<;>rfl),hbA HB.out⟩
   rw[if_pos c6]at H
   have c6b0:decide (D<=(L))=true:=decide_eq_true c6;clear c6;obtain⟨I,A7,H⟩:=bindO H
   (try dsimp only at H)
   by_cases c8:(wrap64 (G+I))>4611686018427387904
   ·rw[if_pos c8]at H
    have c8b0:decide (4611686018427387904<(wrap64 (G+I)))=true:=decide_eq_true c8;clear c8;obtain⟨rfl,rfl⟩:=zP2 H
    go_wp2_with (first|((with_reducible refine gC 81 rfl ?_);refine cG (some 21) Tryd.func81 #[.int .i64 a0,.int .i64 D] ?_;(with_reducible refine(subset_choose.calls a0 D I _ A7.out).mono ?_);rintro e w9 ⟨rfl,hb⟩;refine⟨_,rfl,?_⟩;replace HB:=hbB HB hb;(try clear hb)))
    go_ret2
    exact⟨by first|rfl|(simp[errW_none,errW_some]<;>rfl)|(simp only[<-J];first|rfl|(simp[errW_none,errW_some]<;>rfl))|(simp[*,errW_none,errW_some]<;>rfl),hbA HB.out⟩
   rw[if_neg c8]at H
   have c8b0:decide (4611686018427387904<(wrap64 (G+I)))=false:=decide_eq_false c8;clear c8;have H':=aK H;clear H
   go_wp2_with (first|((with_reducible refine gC 81 rfl ?_);refine cG (some 21) Tryd.func81 #[.int .i64 a0,.int .i64 D] ?_;(with_reducible refine(subset_choose.calls a0 D I _ A7.out).mono ?_);rintro e X ⟨rfl,hb⟩;refine⟨_,rfl,?_⟩;replace HB:=hbB HB hb;(try clear hb)))
   go_roundg k1
   case measure=>have:=U.out;omega
   case rel=>exact⟨(wrap64 (G+I)),(wrap64 (D+1)),rsE,rsE,H',⟨by have:=U.out;omega⟩,⟨hbA HB.out⟩⟩
end Go.Proofs.YtjgcocfnilhggaaDoor.Q
namespace Go.Proofs.YtjgcocfnilhggaaDoor.Q
open RowKit YtjgcocfnilhggaaDoorW.PrintWords YtjgcocfnilhggaaDoorW.PrintLast YtjgcocfnilhggaaDoorW.PrintMore
open Kd (R_lower R_slice R_reads' R_alloc R_drewN R_drew R_new' R_lt R_elder' R_base C_below R_mono R_form R_celln R_far R_ne)
attribute [local go_sem] max2_int min2_int max_two min_two max_three min_three max_four min_four
attribute [local go_sem] Oper.semAt_some
def chooseN(k:Nat)(a b:Int)(l:List Int)(i most:Int):List Int->List Int->Option (List Int)
 | [],acc=>some acc
 |y::r,acc=>if acc.length<100000 then(if(acc.length:Int)=most then some acc else(local_repairs.f k a b l i y).bind fun t=>if t=true then chooseN k a b l i most r (acc++ [y])else chooseN k a b l i most r acc)else none
def local_Choices.f(k:Nat)(a b:Int)(l:List Int)(i most:Int):Option (List Int×Int):=
 (local_Least.f k a b l i).bind fun q=>if q.2.2.2=0 then(if most<0 then some ([],2)else(if q.2.2.1=true then
   ((subset_Count.f q.1).bind fun n=>(subset_Upto.f k (wrap64 (a-1)) n).bind fun u=>if u.2=0/\u.1<=16384 then
     (if 0<=i/\0<=a/\a<=64 then((allN k (wrap64 (a-1)) n).bind fun xs=>(chooseN k a b l i most (xs.map (oth i)) []).bind fun L=>some (L,0))else none)else some ([],4))
   else some ([],0)))else some ([],q.2.2.2)
structure CBox (w:World) (a b i most:Int) (A:Option Addr) (n cp:Nat) (V:World):Prop where
 mat:V.heap[w.heap.size]? =some (.cells #[.int .i64 a,.int .i64 b,.slice A n cp] 24 (0,0))
 blk:Boxed V (w.heap.size+1) 3 (.int .i64 i)
 mst:Boxed V (w.heap.size+2) 3 (.int .i64 most)
 low:Below w.heap.size w V
theorem CBox.ext{w V V':World}{a b i most:Int}{A:Option Addr}{n cp:Nat}(h:CBox w a b i most A n cp V)(hb:Below V.heap.size V V'):CBox w a b i most A n cp V':=
 ⟨(hb.block _ (Array.getElem?_eq_some_iff.1 h.mat).1).trans h.mat,(hb.block _ h.blk.lt).trans h.blk,(hb.block _ h.mst.lt).trans h.mst,below_step h.low hb⟩
theorem CBox.same{w V V':World}{a b i most:Int}{A:Option Addr}{n cp:Nat}(h:CBox w a b i most A n cp V)(hb:Below (w.heap.size+3) V V'):CBox w a b i most A n cp V':=
 ⟨(hb.block _ za).trans h.mat,(hb.block _ za).trans h.blk,(hb.block _ za).trans h.mst,h.low.trans (hb.mono za)⟩
theorem CBox.own{w:World}{a b i most:Int}{A:Option Addr}{n cp B:Nat}{β:Type}(hB:w.heap.size<=B):OwnFrom B (fun(_:β) V=>CBox w a b i most A n cp V):=fun s X Y row h hg hr=>
 ⟨(hg.block _ (Array.getElem?_eq_some_iff.1 h.mat).1 fun e=>by
    obtain⟨_,o,ho,hc⟩:=hr _ e.symm;rw[h.mat]at ho;cases ho;cases hc).trans h.mat,
   boxed_own _ _ (fun _:Unit=>_) () X Y row h.blk hg (fun r e=>(hr r e).2),boxed_own _ _ (fun _:Unit=>_) () X Y row h.mst hg (fun r e=>(hr r e).2),
   ownFrom_below (β:=Unit) (Nat.le_refl _) hB () X Y row h.low hg hr⟩
theorem CBox.new(w:World)(a b i most:Int)(A:Option Addr)(n cp:Nat):CBox w a b i most A n cp (((w.alloc (.cells #[.int .i64 a,.int .i64 b,.slice A n cp] 24)).alloc (.cells #[.int .i64 i] 3)).alloc (.cells #[.int .i64 most] 3)):=by
 refine⟨(Below.heap_alloc _ _ _ zk).trans ((Below.heap_alloc _ _ _ zd).trans (World.alloc_heap_new w _)),?_,?_,(((Below.refl _ w).alloc (Nat.le_refl _) _).alloc zd _).alloc zk _⟩
 ·have:=Boxed.new (w.alloc (.cells #[.int .i64 a,.int .i64 b,.slice A n cp] 24)) 3 (.int .i64 i);rw[World.size_alloc]at this
  exact this.alloc _
 ·have:=Boxed.new ((w.alloc (.cells #[.int .i64 a,.int .i64 b,.slice A n cp] 24)).alloc (.cells #[.int .i64 i] 3)) 3 (.int .i64 most)
  rwa [World.size_alloc,World.size_alloc]at this
theorem app_all{V w1:World}{base B0:Nat}{t e:TypeId}{v v':Value}{k m:Nat}{xs ys:List Value}{tmp:Obj}(hv:Boxed V B0 t v)(hte:t≠e)(hrow:V.ownsRow base e 1 v k xs)(hlt:B0<base)
 (hown':w1.ownsRow base e 1 v' m ys) (hg:(V.alloc tmp).grownBy w1 v.ownBlock):
 Boxed w1 B0 t v/\Boxed (w1.setCell ⟨B0,0,none⟩ v') B0 t v'/\(w1.setCell ⟨B0,0,none⟩ v').ownsRow base e 1 v' m ys/\Below B0 V (w1.setCell ⟨B0,0,none⟩ v')/\
  (∀k,k<base->k≠B0->k<V.heap.size->(w1.setCell ⟨B0,0,none⟩ v').heap[k]? =V.heap[k]?)/\(∀(k:Nat) (o:Obj),V.heap[k]? =some o->o.isCells=false->(w1.setCell ⟨B0,0,none⟩ v').heap[k]? =some o):=by
 have h1:=own_weaken hrow (Nat.le_of_lt hlt);obtain⟨a1,a2,_,a4,a5⟩:=hv.appended hte h1 (Nat.le_of_lt hv.lt) (Nat.le_refl _) (own_weaken hown' (Nat.le_of_lt hlt)) hg;refine⟨a1,a2,hown'.kept (grownBy_setCell' w1 B0 v') (.inr (a1.not_row hte hown').symm),a5,fun j hj hne hjs=>?_,a4.same⟩;have e1:(w1.setCell ⟨B0,0,none⟩ v').heap[j]? =w1.heap[j]? :=Below.heap_setCell w1 ⟨B0,0,none⟩ v' j (fun h=>hne h);rw[e1,hg.block j zk (fun he=>by have:=own_base hrow j he.symm;omega)];exact Below.heap_alloc V tmp j hjs
theorem local_Choices.calls(k:Nat)(a b:Int)(A:Option Addr)(cp:Nat)(l:List Int)(i most:Int)(r1:List Int)(r2:Int)(w:World)(hr:Kd.C (Kd.int .u8) w A l.length l)(hc:l.length<=cp)(h:local_Choices.f k a b l i most=some (r1,r2))(hT:TabAt 0 Lib.deBruijn64tab w):
 Calls Tryd.prog 25 #[.agg #[.int .i64 a,.int .i64 b,.slice A l.length cp],.int .i64 i,.int .i64 most] w fun e w'=> ∃v0_:Value,e= .returned (.tuple #[v0_,.int .i64 r2])/\Kd.R (Kd.int .u64) 29 w' w.heap.size (fun _=>True) v0_ r1/\Below w.heap.size w w':=by
 have a7:=Tryd.underlying24;have av:=Tryd.underlying25;have a8:0<w.heap.size:=World.block_lt_of_cell? _ _ (hT 0 zb);have HR:=aK hr;have HC:=aK hc;have HT:=aK hT;clear hr hc hT;refine(callsIn_wide (n:=9)).1 ?_;refine callsIn_of_wp_marks Tryd.func25 rfl trivial ?_ rfl;simp only[Tryd.ntmps25,List.size_toArray,List.length_cons,List.length_nil,Nat.reduceAdd,Nat.reduceSub,Array.replicate_succ,Array.replicate_zero,List.push_toArray,List.append_toArray,List.nil_append,List.cons_append];have cb0:=CBox.new w a b i most A l.length cp;have ap:=(blk_cell cb0.mat 0).trans rfl;have aq:=(blk_cell cb0.mat 1).trans rfl;have ar:=(blk_cell cb0.mat 2).trans rfl;have au:=cb0.blk.cell;have I:=aK cb0;clear cb0;unfold local_Choices.f at h;obtain⟨⟨q1,q2,q3,q4⟩,hL,h⟩:=Option.bind_eq_some_iff.mp h;have HL:=aK hL;clear hL
 dsimp only at h
 by_cases he:q4=0
 case neg=>
  rw[if_neg he]at h
  obtain⟨rfl,rfl⟩:=Prod.mk.inj (Option.some.inj h);have ce:(q4 !=0)=true:=bne_iff_ne.mpr he;clear he h
  gi_wp2_with (refine⟨trivial,?_⟩;gi_at_call 11;refine(callsIn_wide.2 (local_Least.calls k a b A cp l i q1 q2 q3 q4 _ (C_below HR.out I.out.low) HC.out HL.out (tab_below HT.out I.out.low))).mono ?_;rintro e w1 ⟨v1,rfl,O,J⟩;obtain⟨Av,cv,ev⟩:=R_slice O;subst ev;have G:=aK (I.out.ext J);clear O J)
  exact⟨_,results_tmp2 rfl _ _ _,_,rfl,Kd.R_nil _ _ _ _ _,G.out.low⟩
 rw[if_pos he]at h
 subst he;by_cases hm:most<0
 ·rw[if_pos hm]at h
  obtain⟨rfl,rfl⟩:=Prod.mk.inj (Option.some.inj h);have cm:decide (most<0)=true:=decide_eq_true hm;clear hm h
  gi_wp2_with (refine⟨trivial,?_⟩;gi_at_call 11;refine(callsIn_wide.2 (local_Least.calls k a b A cp l i q1 q2 q3 0 _ (C_below HR.out I.out.low) HC.out HL.out (tab_below HT.out I.out.low))).mono ?_;rintro e w1 ⟨v1,rfl,O,J⟩;obtain⟨Av,cv,ev⟩:=R_slice O;subst ev;have G:=aK (I.out.ext J);have af:=G.out.mst.cell;clear O J)
  exact⟨_,results_tmp2 rfl _ _ _,_,rfl,Kd.R_nil _ _ _ _ _,G.out.low⟩
 rw[if_neg hm]at h
 have cm:decide (most<0)=false:=decide_eq_false hm
 cases q3 with
 |false=>
  simp only[Bool.false_eq_true,if_false]at h;obtain⟨rfl,rfl⟩:=Prod.mk.inj (Option.some.inj h);clear hm h
  gi_wp2_with (refine⟨trivial,?_⟩;gi_at_call 11;refine(callsIn_wide.2 (local_Least.calls k a b A cp l i q1 q2 false 0 _ (C_below HR.out I.out.low) HC.out HL.out (tab_below HT.out I.out.low))).mono ?_;rintro e w1 ⟨v1,rfl,O,J⟩;obtain⟨Av,cv,ev⟩:=R_slice O;subst ev;have G:=aK (I.out.ext J);have af:=G.out.mst.cell;clear O J)
  exact⟨_,results_tmp2 rfl _ _ _,_,rfl,Kd.R_nil _ _ _ _ _,G.out.low⟩
 |true=>
 simp only[if_true]at h;obtain⟨n,hn,h⟩:=Option.bind_eq_some_iff.mp h;obtain⟨⟨u1,u2⟩,hu,h⟩:=Option.bind_eq_some_iff.mp h;have HN:=aK hn;have HU:=aK hu;clear hn hu
 dsimp only at h
 by_cases hq:u2=0/\u1<=16384
 case neg=>
  rw[if_neg hq]at h
  obtain⟨rfl,rfl⟩:=Prod.mk.inj (Option.some.inj h);by_cases ah:u2=0
  case neg=>
   have cu:(u2 !=0)=true:=bne_iff_ne.mpr ah;clear hm h hq ah
   gi_wp2_with (first
    |(refine⟨trivial,?_⟩;gi_at_call 11;refine(callsIn_wide.2 (local_Least.calls k a b A cp l i q1 q2 true 0 _ (C_below HR.out I.out.low) HC.out HL.out (tab_below HT.out I.out.low))).mono ?_;rintro e w1 ⟨v1,rfl,O,J⟩;obtain⟨Av,cv,ev⟩:=R_slice O;subst ev;have G:=aK (I.out.ext J);have af:=G.out.mst.cell;have ag:=(blk_cell G.out.mat 0).trans rfl;clear O J)
    |(refine⟨trivial,?_⟩;gi_at_call 52;refine(callsIn_wide.2 (subset_Count.calls q1 n _ HN.out)).mono ?_;rintro e w2 ⟨rfl,⟨nd,rfl⟩⟩)
    |(refine⟨trivial,?_⟩;gi_at_call 53;refine(callsIn_wide.2 (subset_Upto.calls k _ n u1 u2 _ HU.out)).mono ?_;rintro e w3 ⟨rfl,aa⟩;have ac:=aK (G.out.ext ((pw_below_drewN (Below.refl _ _) _).trans aa));clear aa))
   exact⟨_,results_tmp2 rfl _ _ _,_,rfl,Kd.R_nil _ _ _ _ _,ac.out.low⟩
  have cu:(u2 !=0)=false:=by simpa using ah
  have ay:decide (16384<u1)=true:=decide_eq_true (by have: ¬u1<=16384:=fun h=>hq ⟨ah,h⟩;omega);clear hm h hq ah
  gi_wp2_with (first
   |(refine⟨trivial,?_⟩;gi_at_call 11;refine(callsIn_wide.2 (local_Least.calls k a b A cp l i q1 q2 true 0 _ (C_below HR.out I.out.low) HC.out HL.out (tab_below HT.out I.out.low))).mono ?_;rintro e w1 ⟨v1,rfl,O,J⟩;obtain⟨Av,cv,ev⟩:=R_slice O;subst ev;have G:=aK (I.out.ext J);have af:=G.out.mst.cell;have ag:=(blk_cell G.out.mat 0).trans rfl;clear O J)
   |(refine⟨trivial,?_⟩;gi_at_call 52;refine(callsIn_wide.2 (subset_Count.calls q1 n _ HN.out)).mono ?_;rintro e w2 ⟨rfl,⟨nd,rfl⟩⟩)
   |(refine⟨trivial,?_⟩;gi_at_call 53;refine(callsIn_wide.2 (subset_Upto.calls k _ n u1 u2 _ HU.out)).mono ?_;rintro e w3 ⟨rfl,aa⟩;have ac:=aK (G.out.ext ((pw_below_drewN (Below.refl _ _) _).trans aa));clear aa))
  exact⟨_,results_tmp2 rfl _ _ _,_,rfl,Kd.R_nil _ _ _ _ _,ac.out.low⟩
 rw[if_pos hq]at h
 obtain⟨rfl,a5⟩:=hq;have ay:decide (16384<u1)=false:=decide_eq_false za;by_cases hi:0<=i/\0<=a/\a<=64
 case neg=>rw[if_neg hi]at h;cases h
 rw[if_pos hi]at h
 obtain⟨xs,hall,h⟩:=Option.bind_eq_some_iff.mp h;obtain⟨L,hch,h⟩:=Option.bind_eq_some_iff.mp h;obtain⟨rfl,rfl⟩:=Prod.mk.inj (Option.some.inj h);have HX:=aK (allN_good hall);have HCH:=aK hch;have HI:=aK hi;clear hall hch h hm a5 hi
 gi_wp2_with (first
  |(refine⟨trivial,?_⟩;gi_at_call 11;refine(callsIn_wide.2 (local_Least.calls k a b A cp l i q1 q2 true 0 _ (C_below HR.out I.out.low) HC.out HL.out (tab_below HT.out I.out.low))).mono ?_;rintro e w1 ⟨v1,rfl,O,J⟩;obtain⟨Av,cv,ev⟩:=R_slice O;subst ev;have G:=aK (I.out.ext J);have af:=G.out.mst.cell;have ag:=(blk_cell G.out.mat 0).trans rfl;clear O J)
  |(refine⟨trivial,?_⟩;gi_at_call 52;refine(callsIn_wide.2 (subset_Count.calls q1 n _ HN.out)).mono ?_;rintro e w2 ⟨rfl,⟨nd,rfl⟩⟩))
 refine⟨trivial,?_⟩;refine(callsIn_wide.2 (subset_Upto.calls k _ n u1 0 _ HU.out)).mono ?_;rintro e w2 ⟨rfl,aa⟩;have ao:=aK (G.out.ext ((pw_below_drewN (Below.refl _ _) _).trans aa));clear aa;have bl:=Boxed.new w2 25 (.slice none 0 0);have hbA:Below w2.heap.size w2 (w2.alloc (.cells #[.slice none 0 0] 25)):=(Below.refl _ w2).alloc (Nat.le_refl _) _;have ac:=aK (ao.out.ext hbA);have hsA:(w2.alloc (.cells #[.slice none 0 0] 25)).heap.size=w2.heap.size+1:=by simp
 have al:(w2.alloc (.cells #[.slice none 0 0] 25)).cell? ⟨w.heap.size,0,none⟩=some (.int .i64 a):=(blk_cell ac.out.mat 0).trans rfl;have am:(w2.alloc (.cells #[.slice none 0 0] 25)).cell? ⟨w.heap.size,1,none⟩=some (.int .i64 b):=(blk_cell ac.out.mat 1).trans rfl;have an:(w2.alloc (.cells #[.slice none 0 0] 25)).cell? ⟨w.heap.size,2,none⟩=some (.slice A l.length cp):=(blk_cell ac.out.mat 2).trans rfl;have a6:=ac.out.blk.cell
 gi_wp2_with (refine⟨trivial,?_⟩;gi_at_call 54;refine(callsIn_wide.2 (local_others.calls a b A l.length cp i n _)).mono ?_;rintro e w3 ⟨rfl,hbg,hbb,hbs,ak,aa⟩)
 have aj:=ac.out.ext aa;have a4:Boxed w3 w2.heap.size 25 (.slice none 0 0):=(aa.block _ bl.lt).trans bl;have ccg:=blk_cell hbg 0;have ccb:=hbb.cell;have ccs:=hbs.cell;have ybb:=aK hbb;rw[hsA]at ccg ccb ccs ak hbg hbb hbs
 have az:w.heap.size+3<=w2.heap.size:=ao.out.mst.lt;have ax:=aK (tab_below HT.out aj.low);have aw:=aK aj;clear hbg hbb hbs aa aj bl hbA hsA al am an a6 af ag ap aq ar au ybb;obtain⟨ys,eys⟩: ∃ys,ys=xs.map (oth i):=⟨_,rfl⟩
 have hKt: ∀ {X Y Z:World},(Below w2.heap.size X Y/\ ∀k,w2.heap.size+1<=k->k<w3.heap.size->k<X.heap.size->Y.heap[k]? =X.heap[k]?)->(Below w2.heap.size Y Z/\ ∀k,w2.heap.size+1<=k->k<w3.heap.size->k<Y.heap.size->Z.heap[k]? =Y.heap[k]?)->
  (Below w2.heap.size X Z/\ ∀k,w2.heap.size+1<=k->k<w3.heap.size->k<X.heap.size->Z.heap[k]? =X.heap[k]?):=fun {X Y Z} h1 h2=>⟨h1.1.trans h2.1,fun k a1 a2 a3=>by
  have e1:=h1.2 k a1 a2 a3;refine(h2.2 k a1 a2 ?_).trans e1;rw[Array.getElem?_eq_getElem a3]at e1
  exact(Array.getElem?_eq_some_iff.1 e1).1⟩
 have hKb: ∀(U:World) (lo:Nat) (o:Obj),w3.heap.size<=lo->(Below w2.heap.size U (U.putObj lo o)/\ ∀k,w2.heap.size+1<=k->k<w3.heap.size->k<U.heap.size->(U.putObj lo o).heap[k]? =U.heap[k]?):=
  fun U lo o hlo=>⟨by have hg:=grownBy_putObj' U lo o;exact⟨hg.os,hg.tape,hg.output,hg.size,fun k hk=>World.putObj_heap_other za⟩,fun k a1 a2 a3=>World.putObj_heap_other za⟩
 have htells:=local_others1.tells (w2.heap.size+1) (w2.heap.size+1+2) (w2.heap.size+1+1) a n i xs HX.out HI.out.1 (fun V V'=>Below w2.heap.size V V'/\ ∀k,w2.heap.size+1<=k->k<w3.heap.size->k<V.heap.size->V'.heap[k]? =V.heap[k]?) w3 ccg ccs ccb ax.out za
  (fun {X Y Z} =>hKt) hKb (fun V V' h hlt=>h.2 _ za za hlt) (fun V V' h hlt=>h.1.block 0 za)
 rw[<-eys]at htells HCH
 have HTL:=aK htells;clear htells ccg ccb ccs eys
 refine rangeFunc_tells (xs:=ys) (w0:=w3) (gf:=82) (lb:= #[.pointer (some ⟨w2.heap.size+1,0,none⟩),.pointer (some ⟨w2.heap.size+1+2,0,none⟩),.pointer (some ⟨w2.heap.size+1+1,0,none⟩)]) (encs:=fun x:Int=> #[.int .u64 x])
  (by simp[go_sem]) (enters_of Tryd.func82 zc rfl) HTL.out (fun {X Y Z} =>hKt) hKb (Below.refl _ _) (fun _=>rfl)
  (fun pre V=> ∃acc rest v,ys=pre++rest/\chooseN k a b l i most rest acc=some L/\CBox w a b i most A l.length cp V/\Boxed V w2.heap.size 25 v/\V.ownsRow (w3.heap.size+5) 29 1 v acc.length (acc.map (Value.int .u64))/\(v= .slice none 0 0↔acc= []))
  (fun c pre V=>c= .exit 1/\ ∃v,CBox w a b i most A l.length cp V/\Boxed V w2.heap.size 25 v/\V.ownsRow (w3.heap.size+5) 29 1 v L.length (L.map (Value.int .u64)))
  ?own ?ownx ?start ?a1 ?assign ?body ?done ?stop
 case own=>
  rintro pre V V' row ⟨acc,rest,v,h1,h2,h3,h4,h5,h6⟩ hg hr;obtain⟨v',g1,g2,g3⟩:=holdsRow_own (w3.heap.size+5) w2.heap.size 25 29 1 (fun _:Unit=>acc.length) (fun _=>acc.map (Value.int .u64)) (fun _ u=>u=v) () V V' row ⟨v,h4,h5,rfl⟩ hg (fun r e=>(hr r e).2);subst g3;exact⟨acc,rest,v',h1,h2,CBox.own (β:=Unit) za () V V' row h3 hg hr,g1,g2,h6⟩
 case ownx=>
  rintro c pre V V' row ⟨h1,v,h3,h4,h5⟩ hg hr;obtain⟨v',g1,g2,g3⟩:=holdsRow_own (w3.heap.size+5) w2.heap.size 25 29 1 (fun _:Unit=>L.length) (fun _=>L.map (Value.int .u64)) (fun _ u=>u=v) () V V' row ⟨v,h4,h5,rfl⟩ hg (fun r e=>(hr r e).2);subst g3;exact⟨h1,v',CBox.own (β:=Unit) za () V V' row h3 hg hr,g1,g2⟩
 case start=>exact⟨[],ys,_,rfl,HCH.out,aw.out,a4,World.ownsRow_nil _ _ _ _,by simp⟩
 case assign=>
  intro lo x V K hK
  gi_wp2
  exact hK
 case body=>
  rintro lo pre x V hlo hVs ⟨acc,rest,v,hys,hch,hCV,hbV,hrow,hnil⟩ hpre;obtain⟨rest,rfl⟩: ∃r,rest=x::r:=by
   obtain⟨t,ht⟩:=hpre;rw[hys,List.append_assoc]at ht
   exact⟨t,(List.append_cancel_left ht).symm⟩
  have HCV:=aK hCV;have HBV:=aK hbV;have HROW:=aK hrow;have HYS:=aK (show ys=(pre++ [x])++rest by rw[hys];simp);have cbl:=hbV.cell;have cmo:=hCV.mst.cell;have m0:V.cell? ⟨w.heap.size,0,none⟩=some (.int .i64 a):=(blk_cell hCV.mat 0).trans rfl;have m1:V.cell? ⟨w.heap.size,1,none⟩=some (.int .i64 b):=(blk_cell hCV.mat 1).trans rfl;have m2:V.cell? ⟨w.heap.size,2,none⟩=some (.slice A l.length cp):=(blk_cell hCV.mat 2).trans rfl;have mb:=hCV.blk.cell;have hvf: ∃Av cv,v= .slice Av acc.length cv:=by
   rcases hrow.2 with⟨rfl,h0⟩|⟨g,cap,cur,rfl,_⟩
   ·exact⟨none,0,by rw[h0]⟩
   ·exact⟨_,_,rfl⟩
  obtain⟨Av,cv,rfl⟩:=hvf;unfold chooseN at hch;by_cases hguard:acc.length<100000
  case neg=>rw[if_neg hguard]at hch;cases hch
  rw[if_pos hguard]at hch
  have HSS:=aK ak;have HVS:=aK hVs;clear hCV hbV hrow hys ak hVs hpre;by_cases hfull:(acc.length:Int)=most
  ·rw[if_pos hfull]at hch
   have cc:((acc.length:Int)==most)=true:=by simpa using hfull
   obtain rfl:=Option.some.inj hch;clear hch
   gi_wp2
   exact⟨Stays.refl _ _ _ _,rfl,_,HCV.out,HBV.out,HROW.out⟩
  rw[if_neg hfull]at hch
  have cc:((acc.length:Int)==most)=false:=by simpa using hfull
  obtain⟨t,ht,hch⟩:=Option.bind_eq_some_iff.mp hch;have HTT:=aK ht;have HCC:=aK hch;clear ht hch
  cases t with
  |false=>
   gi_wp2_with (refine⟨trivial,?_⟩;gi_at_call 55;refine(callsIn_wide.2 (local_repairs.calls k a b A cp l i x false _ (C_below HR.out HCV.out.low) HC.out HTT.out (tab_below HT.out HCV.out.low))).mono ?_;rintro e w5 ⟨rfl,ab⟩;have ai:=aK (HCV.out.ext ab);have ae:=aK ab;have HBW:=aK ((ab.block _ HBV.out.lt).trans HBV.out);have HRW:=aK (pw_own_below HROW.out ab);clear ab)
   refine⟨Stays.any ae.out,⟨ae.out.mono (by have:=HVS.out;have:=HSS.out;omega),fun k _ _ hk=>ae.out.block k hk⟩,acc,rest,_,HYS.out,?_,ai.out,HBW.out,HRW.out,hnil⟩;simpa using HCC.out
  |true=>
   have hinf:(Tryd.prog.info? 29).map (fun i=>(i.zero,i.size,i.bytes))=some (some (.int .u64 0),1,8):=by kernel_rfl
   obtain⟨i0,a0,al,am,an⟩:=info_parts hinf
   gi_wp2_with (first
    |(refine⟨trivial,?_⟩;gi_at_call 55;refine(callsIn_wide.2 (local_repairs.calls k a b A cp l i x true _ (C_below HR.out HCV.out.low) HC.out HTT.out (tab_below HT.out HCV.out.low))).mono ?_;rintro e w5 ⟨rfl,ab⟩;have ai:=aK (HCV.out.ext ab);have ae:=aK ab;have HBW:Aside0 (Boxed w5 w2.heap.size 25 (.slice Av acc.length cv)):=aK ((ab.block _ HBV.out.lt).trans HBV.out);have HRW:=aK (pw_own_below HROW.out ab);have cbw:=HBW.out.cell;clear ab)
    |(gi_at_builtin;refine wpListIn_append_own _ rfl _ _ 25 rfl (w3.heap.size+5) 29 i0 (.int .u64 0) 1 8 av a0 al am an rfl zb _ _ _ rfl (HRW.out.alloc _) ⟨w5.heap.size,0,none⟩ 1 1 [.int .u64 x] rfl rfl (cell_one_new _ _ _) (by simp[Value.oneCell']) (by simp only[maxLen];omega) za (by have:=HVS.out;have:=ae.out.size;simp;omega) ?_;intro v' w6 hown' hgrow hnil';obtain⟨g',cap',rfl⟩:=ownsRow_succ hown';have hap:=aK (app_all HBW.out zb HRW.out (by have:=HSS.out;omega) hown' hgrow);have a9:=hap.out.1.cell;have ba:=hap.out.1.frozen))
   obtain⟨_,g2,g3,g4,g5,g6⟩:=hap.out;have hsz:=ae.out.size;have hss:=HSS.out;have hvs:=HVS.out;have e1: ∀k,k<w3.heap.size+5->k≠w2.heap.size->k<V.heap.size->(w6.setCell ⟨w2.heap.size,0,none⟩ (.slice (some ⟨g',0,none⟩) (acc.length+1) cap')).heap[k]? =V.heap[k]? :=fun k k1 k2 k3=>(g5 k k1 k2 (Nat.lt_of_lt_of_le k3 hsz)).trans (ae.out.block k k3);refine⟨⟨Nat.le_trans hsz g4.size,fun k k1 k2 k3=>e1 k za za k3,fun k o _ ho hoc=>g6 k o ((ae.out.block k (Array.getElem?_eq_some_iff.1 ho).1).trans ho) hoc⟩,⟨(ae.out.mono za).trans g4,fun k k1 k2 k3=>e1 k za za k3⟩,acc++ [x],rest,_,HYS.out,?_,ai.out.same (g4.mono az),g2,?_,?_⟩
   ·simpa using HCC.out
   ·simpa using g3
   ·constructor
    ·intro h;have:=(hnil'.1 h).2;omega
    ·intro h;simp at h
 case done=>
  rintro D V hD ⟨acc,rest,v,hys,hch,hCV,hbV,hrow,hnil⟩ hK;have e0:rest= []:=by
   have:=congrArg List.length hys;simp at this;exact this
  subst e0;obtain rfl:=Option.some.inj hch;have cbl:=hbV.cell;have HCV:=aK hCV;have HROW:=aK hrow;clear hCV hrow hch hys
  gi_wp2
  refine⟨by simp,.inl ⟨_,_,rfl,run_takeDeferred hK,?_⟩⟩;exact⟨_,results_tmp2 rfl _ _ _,v,rfl,Kd.R_of_own (own_weaken (ownsRow_putObj HROW.out _ hK rfl) za) (fun _ _=>trivial),(HCV.out.same zaz).low⟩
 case stop=>
  rintro D c pre V hD hpre ⟨rfl,v,hCV,hbV,hrow⟩ hK;have cbl:=hbV.cell;have HCV:=aK hCV;have HROW:=aK hrow;clear hCV hrow
  gi_wp2
  refine⟨by simp,.inl ⟨_,_,rfl,run_takeDeferred hK,?_⟩⟩;exact⟨_,results_tmp2 rfl _ _ _,v,rfl,Kd.R_of_own (own_weaken (ownsRow_putObj HROW.out _ hK rfl) za) (fun _ _=>trivial),(HCV.out.same zaz).low⟩
end Go.Proofs.YtjgcocfnilhggaaDoor.Q
namespace Go.Proofs.YtjgcocfnilhggaaDoor.Q
open RowKit YtjgcocfnilhggaaDoorW.PrintWords YtjgcocfnilhggaaDoorW.PrintLast YtjgcocfnilhggaaDoorW.PrintMore
open Kd (R_lower R_slice R_reads' R_alloc R_drewN R_drew R_new' R_lt R_elder' R_base C_below R_mono R_form R_celln R_far R_ne)
attribute [local go_sem] max2_int min2_int max_two min_two max_three min_three max_four min_four
mutual
def local_Sizes.j0:Nat->Bool->Int->Int->List Int->Option (List Int×Int)
 |0,_,_,_,_=>none
 |k+1,L,D,G,I=>if L=true then(some (([]:List Int),3))else(if 0<=D then(if(D:Int).toNat<=35184372088832 then((some (List.replicate (D:Int).toNat 0:List Int)).bind fun J=>(local_Sizes.l0 k J (J.length:Int) 0 D G I))else(none))else(none))
def local_Sizes.l0:Nat->List Int->Int->Int->Int->Int->List Int->Option (List Int×Int)
 |0,_,_,_,_,_,_=>none
 |k+1,x4,U,L,D,G,I=>if L<U then((local_Least.f k D G I L).bind fun J=>(if J.2.2.2=0 then((subset_Count.f J.1).bind fun X=>(if 0<=L then(if L<(x4.length:Int)then((some (x4.set (L:Int).toNat X:List Int)).bind fun O=>(if J.2.2.1=true then(local_Sizes.l0 k O U (wrap64 (L+1)) D G I)else(local_Sizes.l0 k (O.set (L:Int).toNat (-1)) U (wrap64 (L+1)) D G I)))else(none))else(none)))else(some (([]:List Int),J.2.2.2))))else(some (x4,0))
end
def local_Sizes.f(k:Nat)(G:Int)(D:Int)(I:List Int):Option (List Int×Int):=(matrix_Right.f G D I).bind fun J=>(if J=true then(if D<1 then(local_Sizes.j0 k true G D I)else(local_Sizes.j0 k (decide (G<D)) G D I))else(local_Sizes.j0 k true G D I))
theorem local_Sizes.calls(k:Nat)(I:Int)(J:Int)(Y:Option Addr)(Z:Nat)(L:List Int)(r1:List Int)(r2:Int)(w:World)(ci:Kd.C (Kd.int .u8) w Y L.length L)(ca:L.length<=Z)(h:local_Sizes.f k I J L=some (r1,r2))(hT:TabAt 0 Lib.deBruijn64tab w):
 Calls Tryd.prog 26 #[.agg #[.int .i64 I,.int .i64 J,.slice Y L.length Z]] w fun e w'=> ∃v0_:Value,e= .returned (.tuple #[v0_,.int .i64 r2])/\Kd.R (Kd.int .i64) 3 w' w.heap.size (fun _=>True) v0_ r1/\Below w.heap.size w w':=by
 have HT:=aK hT;clear hT;have d2:=Tryd.underlying24;have af:=aK ci;have ae:=aK ca;clear ci ca;have HB:=aK (Below.refl w.heap.size w);have H:((matrix_Right.f I J L).bind fun cj=>(if cj=true then(if J<1 then(local_Sizes.j0 k true I J L)else(local_Sizes.j0 k (decide (I<J)) I J L))else(local_Sizes.j0 k true I J L)))=some (r1,r2):=h;clear h;have cw:=aK H;clear H
 go_enter Tryd.func26,Tryd.ntmps26
 go_upto_region 1 with(first|((with_reducible refine gD 1 rfl ?_);refine bE 1 #[.int .i64 I,.int .i64 J,.slice Y L.length Z] 24 ?_;intro an hg w3 hbox hb;have D:=aK (hbox);have dz:=hbS HB hg;have dy:=hbS HB hg;replace HB:=hbB HB hb;clear hb hbox hg))
 (try simp only[Act.put,zL])
 go_cut [24] (fun d0 wc=> ∃(kq:Nat) (aq:Bool),d0= .bool aq/\Aside0 (local_Sizes.j0 kq aq I J L=some (r1,r2))/\Aside0 (kq<=k)/\Aside0 (wc.heap[an]? =some (.cells #[.int .i64 I,.int .i64 J,(.slice Y L.length Z)] 24 (0,0)))/\Aside0 (Below w.heap.size w wc))
 case first=>
  have H:=cw.out;clear cw;obtain⟨cj,A4,H⟩:=bindO H
  (try dsimp only at H)
  by_cases c5:cj=true
  case neg=>
   replace c5:=Bool.eq_false_iff.mpr c5;subst c5;rw[if_neg nofT]at H
   have H':=aK H;clear H;obtain⟨a2,a3,a4,bb,bc,bd⟩:=cell3 D
   go_wp2_with (first|((with_reducible refine gC 56 rfl ?_);refine cG (some 11) Tryd.func56 #[.agg #[.int .i64 I,.int .i64 J,.slice Y L.length Z]] ?_;(with_reducible refine(matrix_Right.calls I J _ _ L false _ ?side1 ?side2 A4.out).mono ?_);(case side1=>exact kcB af HB);(case side2=>exact ae.out);rintro e d5 ⟨rfl,hb⟩;refine⟨_,rfl,?_⟩;replace D:=bkB D hb;replace HB:=hbB HB hb;(try clear hb)))
   go_meet
   case rel=>exact⟨_,(true),rsE,H',⟨leE⟩,⟨bkA D.out⟩,⟨hbA HB.out⟩⟩
  subst c5;rw[if_pos rfl]at H
  by_cases c6:J<1
  case neg=>
   rw[if_neg c6]at H
   have c6b0:decide (J<1)=false:=decide_eq_false c6;clear c6
   (first|rw[c6b0] |(simp only[i64_w,i32_w];rw[c6b0])|skip)
   have H':=aK H;clear H;obtain⟨aw,ax,ay,a5,a6,a7⟩:=cell3 D
   go_wp2_with (first|((with_reducible refine gC 56 rfl ?_);refine cG (some 11) Tryd.func56 #[.agg #[.int .i64 I,.int .i64 J,.slice Y L.length Z]] ?_;(with_reducible refine(matrix_Right.calls I J _ _ L true _ ?side1 ?side2 A4.out).mono ?_);(case side1=>exact kcB af HB);(case side2=>exact ae.out);rintro e d4 ⟨rfl,hb⟩;refine⟨_,rfl,?_⟩;replace D:=bkB D hb;replace HB:=hbB HB hb;(try clear hb);obtain⟨az,a0,a1,a8,a9,ba⟩:=cell3 D))
   go_meet
   case rel=>exact⟨_,(decide (I<J)),rsE,H',⟨leE⟩,⟨bkA D.out⟩,⟨hbA HB.out⟩⟩
  rw[if_pos c6]at H
  have c6b0:decide (J<1)=true:=decide_eq_true c6;clear c6
  (first|rw[c6b0] |(simp only[i64_w,i32_w];rw[c6b0])|skip)
  have H':=aK H;clear H;obtain⟨bk,bl,bm,bq,br,bs⟩:=cell3 D
  go_wp2_with (first|((with_reducible refine gC 56 rfl ?_);refine cG (some 11) Tryd.func56 #[.agg #[.int .i64 I,.int .i64 J,.slice Y L.length Z]] ?_;(with_reducible refine(matrix_Right.calls I J _ _ L true _ ?side1 ?side2 A4.out).mono ?_);(case side1=>exact kcB af HB);(case side2=>exact ae.out);rintro e w8 ⟨rfl,hb⟩;refine⟨_,rfl,?_⟩;replace D:=bkB D hb;replace HB:=hbB HB hb;(try clear hb);obtain⟨bn,bo,bp,bt,bu,bv⟩:=cell3 D))
  go_meet
  case rel=>exact⟨_,(true),rsE,H',⟨leE⟩,⟨bkA D.out⟩,⟨hbA HB.out⟩⟩
 case rest=>
  clear cw
  (try clear c2);(try clear p2);(try clear c5);(try clear c6);(try clear c6b0);(try clear aw ax ay a5 a6 a7);(try clear az a0 a1 a8 a9 ba);(try clear a2 a3 a4 bb bc bd);(try clear bk bl bm bq br bs);(try clear bn bo bp bt bu bv)
  obtain⟨kq,aq,rfl,HA,cn,D,HB⟩:=hcut
  cases kq with
  |zero=>exact absurd HA.out (by simp[local_Sizes.j0])
  |succ cy=>
   have H:=HA.out;clear HA;simp only[local_Sizes.j0]at H;by_cases b8:aq=true
   ·subst b8;rw[if_pos rfl]at H
    obtain⟨rfl,rfl⟩:=zP2 H;go_wp2
    go_ret2
    exact⟨_,rfE,nilE,hbA HB.out⟩
   replace b8:=Bool.eq_false_iff.mpr b8;subst b8;rw[if_neg nofT]at H
   by_cases bx:0<=I
   case neg=>rw[if_neg bx]at H;exact absurd H zd
   rw[if_pos bx]at H
   have c16b0:=eq_true bx;have c16b1:decide (0<=I)=true:=decide_eq_true bx;clear bx;by_cases bz:(I:Int).toNat<=35184372088832
   case neg=>rw[if_neg bz]at H;exact absurd H zd
   rw[if_pos bz]at H
   have c17b0:=eq_true bz;have c17b1:decide ((I:Int).toNat<=35184372088832)=true:=decide_eq_true bz;clear bz;obtain⟨ab,ah⟩: ∃y_:List Int,y_=(List.replicate (I:Int).toNat 0):=⟨_,rfl⟩
   replace H:(local_Sizes.l0 cy ab (ab.length:Int) 0 I J L)=some (r1,r2):=zH ah H
   have b6:=aK ah;clear ah;have H':=aK H;clear H;obtain⟨cb,cd,ce,cf,cg,ch⟩:=cell3 D
   go_wp2_with (first|((with_reducible refine gate_dst (N:=27) rfl ?_);refine Kd.R_make (Kd.int .i64) _ 3 rfl (N:=27) rfl 56 _ _ rfl I rfl rfl Tryd.underlying56 (.int .i64 0) 8 info3 rfl zb za 0 (ok:=fun _=>True) (okp:=fun _=>True) rfl (fun _ hk=>hk) trivial (of_decide_eq_true asE) (Nat.le_trans (Nat.mul_le_mul_right _ (of_decide_eq_true asE:I.toNat<=35184372088832)) za) (Below.refl _ _) (Nat.le_refl _) ?_;intro d3 d6 bf hb hg_ hnew_;clear hg_ hnew_;(first|rw[<-b6.out]at bf|(simp only[Int.reduceToNat]at bf;rw[<-b6.out]at bf));have b2:=aK (R_lower bf (below_size (hbA HB.out)));replace D:=bkB D hb;replace HB:=hbB HB hb;clear hb bf;obtain⟨b1,ac,db⟩:=R_slice b2.out;subst db))
   go_loopg [30] cy (fun kq d1 w'=> ∃(U:List Int) (G:Int),d1= .int .i64 G/\Aside0 (local_Sizes.l0 kq U (ab.length:Int) G I J L=some (r1,r2))/\Aside0 (kq<=cy)/\Aside0 (Kd.R (Kd.int .i64) 3 w' w.heap.size (fun _=>True) (.slice b1 ab.length ac) U)/\Aside0 (w'.heap[an]? =some (.cells #[.int .i64 I,.int .i64 J,(.slice Y L.length Z)] 24 (0,0)))/\Aside0 (Below w.heap.size w w'))
   case atStart=>exact⟨(ab),(0),rsE,H',⟨Nat.le_refl _⟩,⟨kdA b2.out⟩,⟨bkA D.out⟩,⟨hbA HB.out⟩⟩
   case round=>
    clear H'
    (try clear c1);(try clear c2);(try clear p2 p2);(try clear c5);(try clear c6);(try clear c6b0);(try clear b8);(try clear bx);(try clear c16b0);(try clear c16b1);(try clear bz);(try clear c17b0);(try clear c17b1);(try clear aw ax ay a5 a6 a7);(try clear az a0 a1 a8 a9 ba);(try clear a2 a3 a4 bb bc bd);(try clear cb cd ce cf cg ch);(try clear bk bl bm bq br bs);(try clear bn bo bp bt bu bv)
    obtain⟨U,G,rfl,HA,co,HO_4,D,HB⟩:=hrel;have X:=(R_reads' HO_4.out).1;rw[X]at HO_4
    (try simp only[X])
    (try simp only[X]at D)
    cases gk with
    |zero=>exact absurd HA.out (by simp[local_Sizes.l0])
    |succ k2=>
     have H:=HA.out;clear HA;simp only[local_Sizes.l0]at H;by_cases b0:G<(ab.length:Int)
     case neg=>
      rw[if_neg b0]at H
      have c22b0:decide (G<(ab.length:Int))=false:=decide_eq_false b0;rw[X]at c22b0
      clear b0;obtain⟨rfl,rfl⟩:=zP2 H;go_wp2
      go_ret2
      exact⟨_,rfE,by(with_reducible repeat(first|apply R_alloc|apply R_drewN|apply R_drew));exact HO_4.out,hbA HB.out⟩
     rw[if_pos b0]at H
     have c22b0:decide (G<(ab.length:Int))=true:=decide_eq_true b0;rw[X]at c22b0
     clear b0;obtain⟨⟨ak,bg,ck,ag⟩,cv,H⟩:=bindO H
     (try dsimp only at H)
     by_cases bh:ag=0
     case neg=>
      rw[if_neg bh]at H
      have c24b0:(ag==0)=false:=beq_eq_false_iff_ne.mpr bh;have c24b1:(ag !=0)=true:=bne_iff_ne.mpr bh;obtain⟨rfl,rfl⟩:=zP2 H;obtain⟨di,dj,dk,dt,du,dv⟩:=cell3 D
      go_wp2_with (first|((with_reducible refine gC 11 rfl ?_);refine cG (some 36) Tryd.func11 #[.agg #[.int .i64 I,.int .i64 J,.slice Y L.length Z],.int .i64 G] ?_;(with_reducible refine(local_Least.calls k2 I J _ _ L G ak bg ck ag _ ?side1 ?side2 cv.out (tab_below HT.out zj)).mono ?_);(case side1=>exact kcB af HB);(case side2=>exact ae.out);rintro e d7 ⟨bw,rfl,be,hb⟩;refine⟨_,rfl,?_⟩;replace HO_4:=kdB HO_4 hb;have O:=aK (R_lower be (below_size (hbA HB.out)));replace D:=bkB D hb;replace HB:=hbB HB hb;(try clear hb);(try clear be)))
      go_ret2
      exact⟨_,rfE,nilE,hbA HB.out⟩
     rw[if_pos bh]at H
     have c24b0:(ag==0)=true:=beq_iff_eq.mpr bh;have c24b1:(ag !=0)=false:=bne_eq_false_iff_eq.mpr bh;clear bh;obtain⟨al,c7,H⟩:=bindO H
     (try dsimp only at H)
     by_cases cp:0<=G
     case neg=>rw[if_neg cp]at H;exact absurd H zd
     rw[if_pos cp]at H
     have c26b0:decide (0<=G)=true:=decide_eq_true cp;clear cp;by_cases cq:G<(U.length:Int)
     case neg=>rw[if_neg cq]at H;exact absurd H zd
     rw[if_pos cq]at H
     have c27b0:decide (G<(U.length:Int))=true:=decide_eq_true cq;clear cq;obtain⟨am,ai⟩: ∃y_:List Int,y_=(U.set (G:Int).toNat al):=⟨_,rfl⟩
     replace H:(if ck=true then(local_Sizes.l0 k2 am (ab.length:Int) (wrap64 (G+1)) I J L)else(local_Sizes.l0 k2 (am.set (G:Int).toNat (-1)) (ab.length:Int) (wrap64 (G+1)) I J L))=some (r1,r2):=zH ai H
     have b7:=aK ai;clear ai;by_cases cr:ck=true
     ·subst cr;rw[if_pos rfl]at H
      have H':=aK H;clear H;obtain⟨dc,dd,de,dl,dm,dn⟩:=cell3 D
      go_wp2_with (first|((with_reducible refine gC 11 rfl ?_);refine cG (some 36) Tryd.func11 #[.agg #[.int .i64 I,.int .i64 J,.slice Y L.length Z],.int .i64 G] ?_;(with_reducible refine(local_Least.calls k2 I J _ _ L G ak bg true ag _ ?side1 ?side2 cv.out (tab_below HT.out zj)).mono ?_);(case side1=>exact kcB af HB);(case side2=>exact ae.out);rintro e ao ⟨bw,rfl,be,hb⟩;refine⟨_,rfl,?_⟩;replace HO_4:=kdB HO_4 hb;have O:=aK (R_lower be (below_size (hbA HB.out)));replace D:=bkB D hb;replace HB:=hbB HB hb;(try clear hb);(try clear be))|((with_reducible refine gC 52 rfl ?_);refine cG (some 47) Tryd.func52 #[.int .u64 ak] ?_;(with_reducible refine(subset_Count.calls ak al _ c7.out).mono ?_);rintro e w' ⟨rfl,⟨nd,rfl⟩⟩;refine⟨_,rfl,?_⟩;(try(rw[drewN_self ao];generalize hq_:World.drewN ao _=ao;have n0_:Aside0 (Kd.R (Kd.int .u8) 5 ao w.heap.size (fun _=>True) bw bg):=⟨by rw[<-hq_];exact(kdA O.out)⟩;have n1_:Aside0 (Kd.R (Kd.int .i64) 3 ao w.heap.size (fun _=>True) (.slice b1 U.length ac) U):=⟨by rw[<-hq_];exact(kdA HO_4.out)⟩;have n2_:Aside0 (ao.heap[an]? =some (.cells #[.int .i64 I,.int .i64 J,.slice Y L.length Z] 24 (0,0))):=⟨by rw[<-hq_];exact(bkA D.out)⟩;have n3_:Aside0 (Below w.heap.size w ao):=⟨by rw[<-hq_];exact(hbA HB.out)⟩;clear O HO_4 D HB hq_;have O:=n0_;have HO_4:=n1_;have D:=n2_;have HB:=n3_;clear n0_ n1_ n2_ n3_));have p28:0<=(G:Int):=of_decide_eq_true asE;have bi:(G:Int)<((U.length:Int):Int):=of_decide_eq_true asE;obtain⟨aa,da,au,av,b9,c9,ar⟩:=R_form HO_4.out za;(first|cases au|(injection au with ea_ en_ ec_;(first|subst ea_|(injection ea_ with ea_;subst ea_));subst ec_;clear en_));have bj:=aK av;have c8:=aK ar;clear av b9 ar;obtain⟨cu,ct⟩:=R_celln 0 HO_4.out (G:Int) p28 bi;replace p28:=eq_true p28;replace bi:=eq_true bi;obtain⟨hy32_,hz32_⟩:=R_celln 0 HO_4.out (G:Int) (of_decide_eq_true asE) (of_decide_eq_true asE);have b3:=Kd.R_putg HO_4.out (G:Int) al)|((with_reducible refine gate_store (t:=3) (p:=48) rfl ?_);refine store_event (t:=3) (p:=48) (v:=?vo_w33) (w1:=(ao.setCell ⟨aa,(G:Int).toNat,none⟩ (.int .i64 al))) ?hg ?ho ?hn ?hr ?_;(case ho=>rfl);(case hg=>rfl);(case hn=>rfl);(case hr=>first|(go_simp;done)|(go_simp;rfl));intro c3 hw;have hg:ao.grownBy c3 (some aa):=(by rw[hw];exact b3.2);have hp_:Kd.R (Kd.int .i64) 3 c3 w.heap.size (fun _=>True) (.slice (some ⟨aa,0,none⟩) U.length ac) am:=(by rw[hw,b7.out];exact b3.1);clear b3;replace D:=bkG D hg (R_ne HO_4.out D.out zb);replace O:=aK (Kd.R_over' (v:=(.slice (some ⟨aa,0,none⟩) U.length ac)) (kdA O.out) (Kd.R_typed HO_4.out) zb hg);replace HO_4:=aK (hp_);replace HB:=aK ((by rw[hw];exact below_set (HB.out) bj.out:Below w.heap.size w c3));clear hg hw hp_))
      (try simp only[<-X])
      go_roundg k2
      case measure=>have:=cn.out;have:=co.out;omega
      case rel=>exact⟨(am),(wrap64 (G+1)),rsE,H',⟨by have:=cn.out;have:=co.out;omega⟩,⟨by(try simp only[X]);(with_reducible repeat(first|apply R_alloc|apply R_drewN|apply R_drew));exact HO_4.out⟩,⟨by(try simp only[X]);refine bkR ?_;exact D.out⟩,⟨hbA HB.out⟩⟩
     replace cr:=Bool.eq_false_iff.mpr cr;subst cr;rw[if_neg nofT]at H
     obtain⟨cm,aj⟩: ∃y_:List Int,y_=(am.set (G:Int).toNat (-1)):=⟨_,rfl⟩
     replace H:(local_Sizes.l0 k2 cm (ab.length:Int) (wrap64 (G+1)) I J L)=some (r1,r2):=zH aj H
     have cx:=aK aj;clear aj;have H':=aK H;clear H;obtain⟨df,dg,dh,dp,dq,dr⟩:=cell3 D
     go_wp2_with (first|((with_reducible refine gC 11 rfl ?_);refine cG (some 36) Tryd.func11 #[.agg #[.int .i64 I,.int .i64 J,.slice Y L.length Z],.int .i64 G] ?_;(with_reducible refine(local_Least.calls k2 I J _ _ L G ak bg false ag _ ?side1 ?side2 cv.out (tab_below HT.out zj)).mono ?_);(case side1=>exact kcB af HB);(case side2=>exact ae.out);rintro e ap ⟨bw,rfl,be,hb⟩;refine⟨_,rfl,?_⟩;replace HO_4:=kdB HO_4 hb;have O:=aK (R_lower be (below_size (hbA HB.out)));replace D:=bkB D hb;replace HB:=hbB HB hb;(try clear hb);(try clear be))|((with_reducible refine gC 52 rfl ?_);refine cG (some 47) Tryd.func52 #[.int .u64 ak] ?_;(with_reducible refine(subset_Count.calls ak al _ c7.out).mono ?_);rintro e w' ⟨rfl,⟨nd,rfl⟩⟩;refine⟨_,rfl,?_⟩;(try(rw[drewN_self ap];generalize hq_:World.drewN ap _=ap;have n0_:Aside0 (Kd.R (Kd.int .u8) 5 ap w.heap.size (fun _=>True) bw bg):=⟨by rw[<-hq_];exact(kdA O.out)⟩;have n1_:Aside0 (Kd.R (Kd.int .i64) 3 ap w.heap.size (fun _=>True) (.slice b1 U.length ac) U):=⟨by rw[<-hq_];exact(kdA HO_4.out)⟩;have n2_:Aside0 (ap.heap[an]? =some (.cells #[.int .i64 I,.int .i64 J,.slice Y L.length Z] 24 (0,0))):=⟨by rw[<-hq_];exact(bkA D.out)⟩;have n3_:Aside0 (Below w.heap.size w ap):=⟨by rw[<-hq_];exact(hbA HB.out)⟩;clear O HO_4 D HB hq_;have O:=n0_;have HO_4:=n1_;have D:=n2_;have HB:=n3_;clear n0_ n1_ n2_ n3_));have p28:0<=(G:Int):=of_decide_eq_true asE;have bi:(G:Int)<((U.length:Int):Int):=of_decide_eq_true asE;obtain⟨aa,da,au,av,b9,c9,ar⟩:=R_form HO_4.out za;(first|cases au|(injection au with ea_ en_ ec_;(first|subst ea_|(injection ea_ with ea_;subst ea_));subst ec_;clear en_));have bj:=aK av;have c8:=aK ar;clear av b9 ar;obtain⟨cu,ct⟩:=R_celln 0 HO_4.out (G:Int) p28 bi;replace p28:=eq_true p28;replace bi:=eq_true bi;obtain⟨hy37_,hz37_⟩:=R_celln 0 HO_4.out (G:Int) (of_decide_eq_true asE) (of_decide_eq_true asE);have b4:=Kd.R_putg HO_4.out (G:Int) al)|((with_reducible refine gate_store (t:=3) (p:=48) rfl ?_);refine store_event (t:=3) (p:=48) (v:=?vo_w38) (w1:=(ap.setCell ⟨aa,(G:Int).toNat,none⟩ (.int .i64 al))) ?hg ?ho ?hn ?hr ?_;(case ho=>rfl);(case hg=>rfl);(case hn=>rfl);(case hr=>first|(go_simp;done)|(go_simp;rfl));intro cl hw;have hg:ap.grownBy cl (some aa):=(by rw[hw];exact b4.2);have hp_:Kd.R (Kd.int .i64) 3 cl w.heap.size (fun _=>True) (.slice (some ⟨aa,0,none⟩) U.length ac) am:=(by rw[hw,b7.out];exact b4.1);clear b4;replace D:=bkG D hg (R_ne HO_4.out D.out zb);replace O:=aK (Kd.R_over' (v:=(.slice (some ⟨aa,0,none⟩) U.length ac)) (kdA O.out) (Kd.R_typed HO_4.out) zb hg);replace HO_4:=aK (hp_);replace HB:=aK ((by rw[hw];exact below_set (HB.out) bj.out:Below w.heap.size w cl));clear hg hw hp_;have p34:0<=(G:Int):=of_decide_eq_true asE;have cz:(G:Int)<((U.length:Int):Int):=of_decide_eq_true asE;obtain⟨dx,dw⟩:=R_celln 0 HO_4.out (G:Int) p34 cz;replace p34:=eq_true p34;replace cz:=eq_true cz;obtain⟨hy39_,hz39_⟩:=R_celln 0 HO_4.out (G:Int) (of_decide_eq_true asE) (of_decide_eq_true asE);have b5:=Kd.R_putg HO_4.out (G:Int) (-1))|((with_reducible refine gate_store (t:=3) (p:=53) rfl ?_);refine store_event (t:=3) (p:=53) (v:=?vo_w40) (w1:=(cl.setCell ⟨aa,(G:Int).toNat,none⟩ (.int .i64 (-1)))) ?hg ?ho ?hn ?hr ?_;(case ho=>rfl);(case hg=>rfl);(case hn=>rfl);(case hr=>first|(go_simp;done)|(go_simp;rfl));intro c4 hw;have hg:cl.grownBy c4 (some aa):=(by rw[hw];exact b5.2);have hp_:Kd.R (Kd.int .i64) 3 c4 w.heap.size (fun _=>True) (.slice (some ⟨aa,0,none⟩) U.length ac) cm:=(by rw[hw,cx.out];exact b5.1);clear b5;replace D:=bkG D hg (R_ne HO_4.out D.out zb);replace O:=aK (Kd.R_over' (v:=(.slice (some ⟨aa,0,none⟩) U.length ac)) (kdA O.out) (Kd.R_typed HO_4.out) zb hg);replace HO_4:=aK (hp_);replace HB:=aK ((by rw[hw];exact below_set (HB.out) bj.out:Below w.heap.size w c4));clear hg hw hp_))
     (try simp only[<-X])
     go_roundg k2
     case measure=>have:=cn.out;have:=co.out;omega
     case rel=>exact⟨(cm),(wrap64 (G+1)),rsE,H',⟨by have:=cn.out;have:=co.out;omega⟩,⟨by(try simp only[X]);(with_reducible repeat(first|apply R_alloc|apply R_drewN|apply R_drew));exact HO_4.out⟩,⟨by(try simp only[X]);refine bkR ?_;exact D.out⟩,⟨hbA HB.out⟩⟩
mutual
def recoupref01_Spoil.l0:Nat->List Int->Int->Int->Option (Unit)
 |0,_,_,_=>none
 |k+1,x0,x1,x4=>if x4<(x0.length:Int)then(if 0<=x4 then(recoupref01_Spoil.l0 k (x0.set (x4:Int).toNat (Go.bits .xor .u8 x1 ((x4) % 256))) x1 (wrap64 (x4+1)))else(none))else((some (([x1,x1,x1]:List Int):List Int)).bind fun D=>(if x0.length+D.length<140737488355328 then(recoupref01_Spoil.l1 k (x0++D) x1 0)else(none)))
def recoupref01_Spoil.l1:Nat->List Int->Int->Int->Option (Unit)
 |0,_,_,_=>none
 |k+1,x0,x1,x5=>if x5<(x0.length:Int)then(if 0<=x5 then(recoupref01_Spoil.l1 k (x0.set (x5:Int).toNat x1) x1 (wrap64 (x5+1)))else(none))else(some ())
end
def recoupref01_Spoil.f(k:Nat)(l0:List Int)(a1:Int):Option (Unit):=recoupref01_Spoil.l0 k l0 a1 0
theorem recoupref01_Spoil.calls(k:Nat)(P0_:Nat->Prop)(u9000_:Value)(l0:List Int)(a1:Int)(w0 w:World)(hB:Below w0.heap.size w0 w)(bs:Kd.R (Kd.int .u8) 5 w w0.heap.size P0_ u9000_ l0)(h:recoupref01_Spoil.f k l0 a1=some ()):
 Calls Tryd.prog 27 #[u9000_,.int .u8 a1] w fun e w'=>e= .returned (.tuple #[])/\Below w0.heap.size w0 w'/\Kept w w' (fun k_=>P0_ k_):=by
 have bn:=aK (show Kd.R (Kd.int .u8) 5 w w0.heap.size (fun k_=>(P0_ k_∨w.heap.size<=k_)) u9000_ l0 from R_mono bs (fun k_ hk=>(.inl hk)));have HK:=aK (Kept.refl w (fun k_=>P0_ k_));have b3:=aK hB.size;have HB:=aK hB;clear hB;have H:(recoupref01_Spoil.l0 k l0 a1 0)=some ():=h;clear h;have H':=aK H;clear H
 go_enter Tryd.func27,Tryd.ntmps27
 go_wp2
 go_loopg [4] k (fun kq v4 w'=> ∃(I:List Int) (D:Int),v4= .int .i64 D/\Aside0 (recoupref01_Spoil.l0 kq I a1 D=some ())/\Aside0 (kq<=k)/\Aside0 (Kd.R (Kd.int .u8) 5 w' w0.heap.size (fun k_=>(P0_ k_∨w.heap.size<=k_)) u9000_ I)/\Aside0 (Kept w w' (fun k_=>P0_ k_))/\Aside0 (Below w0.heap.size w0 w'))
 case atStart=>exact⟨(l0),(0),rsE,H',⟨Nat.le_refl _⟩,⟨kdA bn.out⟩,⟨by repeat(first|(with_reducible first|exact HK.out|apply Kept.alloc|apply Kept.drewN|apply Kept.drew)|exact HK.out)⟩,⟨hbA HB.out⟩⟩
 case round=>
  clear H'
  (try clear c2);(try clear p2)
  obtain⟨I,D,rfl,HA,aj,HO_0,HK,HB⟩:=hrel
  cases gk with
  |zero=>exact absurd HA.out (by simp[recoupref01_Spoil.l0])
  |succ k1=>
   have H:=HA.out;clear HA;simp only[recoupref01_Spoil.l0]at H;by_cases c3:D<(I.length:Int)
   ·rw[if_pos c3]at H
    have c3b0:decide (D<(I.length:Int))=true:=decide_eq_true c3;clear c3;by_cases c4:0<=D
    case neg=>rw[if_neg c4]at H;exact absurd H zd
    rw[if_pos c4]at H
    have c4b0:decide (0<=D)=true:=decide_eq_true c4;clear c4;obtain⟨ah,O⟩: ∃y_:List Int,y_=(I.set (D:Int).toNat (Go.bits .xor .u8 a1 ((D) % 256))):=⟨_,rfl⟩
    replace H:(recoupref01_Spoil.l0 k1 ah a1 (wrap64 (D+1)))=some ():=zH O H
    have ar:=aK O;clear O;have H':=aK H;clear H;obtain⟨b1,bo,bp⟩:=R_slice HO_0.out;subst bp;have p5:0<=(D:Int):=of_decide_eq_true asE;have q5:(D:Int)<((I.length:Int):Int):=of_decide_eq_true asE;obtain⟨ag,b5,be,bf,bq,b4,a4⟩:=R_form HO_0.out za
    (first|cases be|(injection be with ea_ en_ ec_;(first|subst ea_|(injection ea_ with ea_;subst ea_));subst ec_;clear en_))
    have bl:=aK bf;have b2:=aK a4;clear bf bq a4;have bm:=aK (show(P0_ ag∨w.heap.size<=ag)from(HO_0.out.1 _ rfl));obtain⟨aw,br⟩:=R_celln 0 HO_0.out (D:Int) p5 q5;replace p5:=eq_true p5;replace q5:=eq_true q5;have aq:=Kd.R_putg HO_0.out (D:Int) (Go.bits .xor .u8 a1 ((D) % 256))
    go_wp2_with (first|((with_reducible refine gate_store (t:=5) (p:=18) rfl ?_);refine store_event (t:=5) (p:=18) (v:=?vo_w8) (w1:=(wr.setCell ⟨ag,(D:Int).toNat,none⟩ (.int .u8 (Go.bits .xor .u8 a1 ((D) % 256))))) ?hg ?ho ?hn ?hr ?_;(case ho=>rfl);(case hg=>rfl);(case hn=>rfl);(case hr=>first|(go_simp;done)|(go_simp;rfl));intro w8 hw;have hg:wr.grownBy w8 (some ag):=(by rw[hw];exact aq.2);have hp_:Kd.R (Kd.int .u8) 5 w8 w0.heap.size (fun k_=>(P0_ k_∨w.heap.size<=k_)) (.slice (some ⟨ag,0,none⟩) I.length bo) ah:=(by rw[hw,ar.out];exact aq.1);clear aq;replace HB:=aK ((by rw[hw];exact below_set (HB.out) bl.out:Below w0.heap.size w0 w8));replace HK:=aK (Kept.of_grown (S:=(fun k_=>P0_ k_)) hg zt (fun k_ e_=>(HO_0.out.1 k_ e_)));replace HO_0:=aK (hp_);clear hg hw hp_))
    go_roundg k1
    case measure=>have:=aj.out;omega
    case rel=>exact⟨(ah),(wrap64 (D+1)),rsE,H',⟨by have:=aj.out;omega⟩,⟨kdA HO_0.out⟩,⟨by repeat(first|(with_reducible first|exact HK.out|apply Kept.alloc|apply Kept.drewN|apply Kept.drew)|exact HK.out)⟩,⟨hbA HB.out⟩⟩
   rw[if_neg c3]at H
   have c3b0:decide (D<(I.length:Int))=false:=decide_eq_false c3;clear c3;obtain⟨aa,U⟩: ∃y_:List Int,y_=(([a1,a1,a1]:List Int)):=⟨_,rfl⟩
   replace H:(if I.length+aa.length<140737488355328 then(recoupref01_Spoil.l1 k1 (I++aa) a1 0)else(none))=some ():=zH U H
   have af:=aK U;clear U;by_cases c9:I.length+aa.length<140737488355328
   case neg=>rw[if_neg c9]at H;exact absurd H zd
   rw[if_pos c9]at H
   have a6:=aK c9;clear c9;obtain⟨ao,X⟩: ∃y_:List Int,y_=(I++aa):=⟨_,rfl⟩
   replace H:(recoupref01_Spoil.l1 k1 ao a1 0)=some ():=zH X H
   have au:=aK X;clear X;have H':=aK H;clear H;obtain⟨a0,a7,ba⟩:=R_slice HO_0.out;subst ba
   go_wp2_with (first|((with_reducible refine gate_dst (N:=23) rfl ?_);refine Kd.R_lit (Kd.int .u8) _ 5 ?hg (N:=23) ?hd (xs:=([a1,a1,a1]:List Int)) (inner:= [.int .u8 a1,.int .u8 a1,.int .u8 a1]) (ok:=fun _=>True) (okp:=fun _=>True) ?hr ?hp (fun _ hk=>hk) trivial (Below.refl _ _) (Nat.le_refl _) zd ?_;(case hd=>rfl);(case hg=>rfl);(case hr=>first|(go_simp;done)|(go_simp;rfl));(case hp=>exact(Reps.one (show Kd.M (Kd.int .u8) _ _ _ a1 [.int .u8 a1]from rfl) (Reps.one (show Kd.M (Kd.int .u8) _ _ _ a1 [.int .u8 a1]from rfl) (Reps.one (show Kd.M (Kd.int .u8) _ _ _ a1 [.int .u8 a1]from rfl) (Reps.none _ _)))));intro b0 b8 Z hb hg_ hnew_;clear hg_ hnew_;(first|rw[<-af.out]at Z|(simp only[Int.reduceToNat]at Z;rw[<-af.out]at Z));have L:=aK (R_lower (R_new' (Kd.R_newM (M:=fun k_=>(P0_ k_∨w.heap.size<=k_)) Z zau (fun k_ h_=> .inr h_)) (R_lt (kdA HO_0.out))) (below_size (hbA HB.out)));replace HO_0:=aK (R_elder' (kdA HO_0.out) (R_base Z) hb);replace HK:=aK (Kept.below (S:=(fun k_=>P0_ k_)) zt hb);replace HB:=hbB HB hb;clear hb Z;obtain⟨a2,a8,bb⟩:=R_slice L.out;subst bb)|((with_reducible refine gate_builtin (b:= .append) (xs:= #[.tmp 19,.tmp 23]) rfl ?_);at_builtin;refine Kd.R_append_rows (Kd.int .u8) (w0:=w0) w0.heap.size rfl (.tmp 19) (.tmp 23) 22 5 (.int .u8 0) 1 rfl Tryd.underlying22 info5 rfl zb za (.slice a0 I.length a7) I aa _ _ _ (fun k_=>(P0_ k_∨w.heap.size<=k_)/\some k_≠(.slice a2 aa.length a8:Value).ownBlock) (fun _=>False) rfl rfl ?aO ?aR (fun _ _ h=>h) (fun _ h=>h.elim) ?aF ?aB ?aS ?aL ?_;(case aR=>exact kcA (R_reads' L.out).2.2);(case aB=>exact(hbA HB.out));(case aF=>exact(fun k_ hk=>⟨(.inr (Nat.le_trans zau hk)),Kd.fresh' (R_lt (kdA L.out)) k_ hk⟩));(case aO=>exact(kdA HO_0.out));(case aS=>exact(below_size (hbA HB.out)));(case aL=>have:=a6.out;omega);intro bh b9 ho hb hg hat;rw[<-au.out]at ho;have n0_:=aK (Kd.R_after (ok:=(fun k_=>(P0_ k_∨w.heap.size<=k_))) (by(with_reducible repeat(first|apply R_alloc|apply R_drewN|apply R_drew));exact R_mono L.out (fun _ hk=>⟨hk.1.1,hk.2⟩)) hg hat);have n1_:=aK (hb);have n2_:=aK (Kept.of_grown (S:=(fun k_=>P0_ k_)) hg zt (fun k_ e_=>(HO_0.out.1 k_ e_).1));have n3_:=aK (ho);clear L;clear HB;clear HK;clear HO_0;have L:=n0_;have HB:=n1_;have HK:=n2_;have ap:=n3_;clear n0_ n1_ n2_ n3_;clear ho hb hg hat))
   go_loopg [5] k1 (fun kq v5 w'=> ∃(J:List Int) (G:Int),v5= .int .i64 G/\Aside0 (recoupref01_Spoil.l1 kq J a1 G=some ())/\Aside0 (kq<=k1)/\Aside0 (Kd.R (Kd.int .u8) 5 w' w0.heap.size (fun k_=>(P0_ k_∨w.heap.size<=k_)) bh J)/\Aside0 (Kept w w' (fun k_=>P0_ k_))/\Aside0 (Below w0.heap.size w0 w'))
   case atStart=>exact⟨(ao),(0),rsE,H',⟨Nat.le_refl _⟩,⟨by(with_reducible repeat(first|apply R_alloc|apply R_drewN|apply R_drew));exact R_mono ap.out (fun _ hk=>hk.1)⟩,⟨by repeat(first|(with_reducible first|exact HK.out|apply Kept.alloc|apply Kept.drewN|apply Kept.drew)|exact HK.out)⟩,⟨hbA HB.out⟩⟩
   case round=>
    clear H'
    (try clear c2);(try clear p2 p2);(try clear c3);(try clear c3b0);(try clear c4);(try clear c4b0);(try clear p5 p5);(try clear q5 q5);(try clear b7);(try clear b6);(try clear p6);(try clear c9);(try clear aw)
    obtain⟨J,G,rfl,HA,a5,HO_0,HK,HB⟩:=hrel
    cases gk with
    |zero=>exact absurd HA.out (by simp[recoupref01_Spoil.l1])
    |succ k2=>
     have H:=HA.out;clear HA;simp only[recoupref01_Spoil.l1]at H;by_cases ac:G<(J.length:Int)
     case neg=>
      rw[if_neg ac]at H
      have c15b0:decide (G<(J.length:Int))=false:=decide_eq_false ac;clear ac;obtain⟨bu,bz,bd⟩:=R_slice HO_0.out;subst bd;go_wp2
      first|go_end0|((try simp only[Exit.inBlock,Exit.then]);refine bodyPost_ret (results_none rfl _ _ _) rfl ?_)
      exact⟨rfE,hbA HB.out,by repeat(first|(with_reducible first|exact HK.out|apply Kept.alloc|apply Kept.drewN|apply Kept.drew)|exact HK.out)⟩
     rw[if_pos ac]at H
     have c15b0:decide (G<(J.length:Int))=true:=decide_eq_true ac;clear ac;by_cases ak:0<=G
     case neg=>rw[if_neg ak]at H;exact absurd H zd
     rw[if_pos ak]at H
     have c16b0:decide (0<=G)=true:=decide_eq_true ak;clear ak;obtain⟨ai,Y⟩: ∃y_:List Int,y_=(J.set (G:Int).toNat a1):=⟨_,rfl⟩
     replace H:(recoupref01_Spoil.l1 k2 ai a1 (wrap64 (G+1)))=some ():=zH Y H
     have av:=aK Y;clear Y;have H':=aK H;clear H;obtain⟨bt,a9,bc⟩:=R_slice HO_0.out;subst bc;have ax:0<=(G:Int):=of_decide_eq_true asE;have ay:(G:Int)<((J.length:Int):Int):=of_decide_eq_true asE;obtain⟨ab,bx,am,an,bg,bw,al⟩:=R_form HO_0.out za
     (first|cases am|(injection am with ea_ en_ ec_;(first|subst ea_|(injection ea_ with ea_;subst ea_));subst ec_;clear en_))
     have a3:=aK an;have bv:=aK al;clear an bg al;have bi:=aK (show(P0_ ab∨w.heap.size<=ab)from(HO_0.out.1 _ rfl));obtain⟨bk,bj⟩:=R_celln 0 HO_0.out (G:Int) ax ay;replace ax:=eq_true ax;replace ay:=eq_true ay;have ae:=Kd.R_putg HO_0.out (G:Int) a1
     go_wp2_with (first|((with_reducible refine gate_store (t:=5) (p:=34) rfl ?_);refine store_event (t:=5) (p:=34) (v:=?vo_w20) (w1:=(wr.setCell ⟨ab,(G:Int).toNat,none⟩ (.int .u8 a1))) ?hg ?ho ?hn ?hr ?_;(case ho=>rfl);(case hg=>rfl);(case hn=>rfl);(case hr=>first|(go_simp;done)|(go_simp;rfl));intro az hw;have hg:wr.grownBy az (some ab):=(by rw[hw];exact ae.2);have hp_:Kd.R (Kd.int .u8) 5 az w0.heap.size (fun k_=>(P0_ k_∨w.heap.size<=k_)) (.slice (some ⟨ab,0,none⟩) J.length a9) ai:=(by rw[hw,av.out];exact ae.1);clear ae;replace HB:=aK ((by rw[hw];exact below_set (HB.out) a3.out:Below w0.heap.size w0 az));replace HK:=aK (Kept.of_grown (S:=(fun k_=>P0_ k_)) hg zt (fun k_ e_=>(HO_0.out.1 k_ e_)));replace HO_0:=aK (hp_);clear hg hw hp_))
     go_roundg k2
     case measure=>have:=aj.out;have:=a5.out;omega
     case rel=>exact⟨(ai),(wrap64 (G+1)),rsE,H',⟨by have:=aj.out;have:=a5.out;omega⟩,⟨kdA HO_0.out⟩,⟨by repeat(first|(with_reducible first|exact HK.out|apply Kept.alloc|apply Kept.drewN|apply Kept.drew)|exact HK.out)⟩,⟨hbA HB.out⟩⟩
def recoupref03_Like.f(D:Int)(G:Int)(L:List Int)(I:Int)(J:Int)(O:List Int):Option (Bool):=if D=I then(if G=J then((recoupref01_Same.f L O).bind fun U=>(some U))else(some false))else(some false)
theorem recoupref03_Like.calls(J:Int)(L:Int)(aa:Option Addr)(ac:Nat)(X:List Int)(O:Int)(U:Int)(ab:Option Addr)(ae:Nat)(Y:List Int)(r:Bool)(w:World)(an:Kd.C (Kd.int .u8) w aa X.length X)(al:X.length<=ac)(ao:Kd.C (Kd.int .u8) w ab Y.length Y)(am:Y.length<=ae)(h:recoupref03_Like.f J L X O U Y=some r):
 Calls Tryd.prog 28 #[.agg #[.int .i64 J,.int .i64 L,.slice aa X.length ac],.agg #[.int .i64 O,.int .i64 U,.slice ab Y.length ae]] w fun e w'=>e= .returned (.bool r)/\Below w.heap.size w w':=by
 have b3:=Tryd.underlying24;have au:=aK an;have aq:=aK al;clear an al;have av:=aK ao;have ar:=aK am;clear ao am;have HB:=aK (Below.refl w.heap.size w);have H:(if J=O then(if L=U then((recoupref01_Same.f X Y).bind fun ap=>(some ap))else(some false))else(some false))=some r:=h;clear h;by_cases c3:J=O
 ·rw[if_pos c3]at H
  have c3b0:(J==O)=true:=beq_iff_eq.mpr c3;have c3b1:(J !=O)=false:=bne_eq_false_iff_eq.mpr c3;clear c3;by_cases c4:L=U
  ·rw[if_pos c4]at H
   have c4b0:(L==U)=true:=beq_iff_eq.mpr c4;have c4b1:(L !=U)=false:=bne_eq_false_iff_eq.mpr c4;clear c4;obtain⟨ap,A5,H⟩:=bindO H
   (try dsimp only at H)
   obtain rfl:=Option.some.inj H
   go_enter Tryd.func28,Tryd.ntmps28
   go_wp2_with (first|((with_reducible refine gD 2 rfl ?_);refine bE 2 #[.int .i64 J,.int .i64 L,.slice aa X.length ac] 24 ?_;intro aj hg w6 hbox hb;have D:=aK (hbox);have ah:=hbS HB hg;have af:=hbS HB hg;replace HB:=hbB HB hb;clear hb hbox hg)|((with_reducible refine gD 3 rfl ?_);refine bE 3 #[.int .i64 O,.int .i64 U,.slice ab Y.length ae] 24 ?_;intro ak hg w7 hbox hb;have Z:=aK (hbox);have ai:=hbS HB hg;have ag:=hbS HB hg;replace HB:=hbB HB hb;have G:=neL D hg;have I:=neG D hg;replace D:=bkB D hb;clear hb hbox hg;have b1:=G.out;have b2:=I.out;obtain⟨bq,br,bs,bt,bu,bv⟩:=cell3 D;obtain⟨aw,ax,ay,bb,bc,bd⟩:=cell3 Z)|(go_at_call 13;(with_reducible refine(recoupref01_Same.calls _ _ X _ _ Y ap _ ?side1 ?side2 ?side3 ?side4 A5.out).mono ?_);(case side1=>exact kcB au HB);(case side2=>exact aq.out);(case side3=>exact kcB av HB);(case side4=>exact ar.out);rintro e w' ⟨rfl,⟨nd,rfl⟩⟩))
   go_ret
   exact⟨rfE,hbA HB.out⟩
  ·rw[if_neg c4]at H
   have c4b0:(L==U)=false:=beq_eq_false_iff_ne.mpr c4;have c4b1:(L !=U)=true:=bne_iff_ne.mpr c4;obtain rfl:=Option.some.inj H
   go_enter Tryd.func28,Tryd.ntmps28
   go_wp2_with (first|((with_reducible refine gD 2 rfl ?_);refine bE 2 #[.int .i64 J,.int .i64 L,.slice aa X.length ac] 24 ?_;intro aj hg b4 hbox hb;have D:=aK (hbox);have ah:=hbS HB hg;have af:=hbS HB hg;replace HB:=hbB HB hb;clear hb hbox hg)|((with_reducible refine gD 3 rfl ?_);refine bE 3 #[.int .i64 O,.int .i64 U,.slice ab Y.length ae] 24 ?_;intro ak hg b5 hbox hb;have Z:=aK (hbox);have ai:=hbS HB hg;have ag:=hbS HB hg;replace HB:=hbB HB hb;have G:=neL D hg;have I:=neG D hg;replace D:=bkB D hb;clear hb hbox hg;have bw:=G.out;have bz:=I.out;obtain⟨az,a0,a1,be,bf,bg⟩:=cell3 D;obtain⟨a2,a3,a4,bh,bi,bj⟩:=cell3 Z))
   go_ret
   exact⟨rfE,hbA HB.out⟩
 ·rw[if_neg c3]at H
  have c3b0:(J==O)=false:=beq_eq_false_iff_ne.mpr c3;have c3b1:(J !=O)=true:=bne_iff_ne.mpr c3;obtain rfl:=Option.some.inj H
  go_enter Tryd.func28,Tryd.ntmps28
  go_wp2_with (first|((with_reducible refine gD 2 rfl ?_);refine bE 2 #[.int .i64 J,.int .i64 L,.slice aa X.length ac] 24 ?_;intro aj hg b6 hbox hb;have D:=aK (hbox);have ah:=hbS HB hg;have af:=hbS HB hg;replace HB:=hbB HB hb;clear hb hbox hg)|((with_reducible refine gD 3 rfl ?_);refine bE 3 #[.int .i64 O,.int .i64 U,.slice ab Y.length ae] 24 ?_;intro ak hg b7 hbox hb;have Z:=aK (hbox);have ai:=hbS HB hg;have ag:=hbS HB hg;replace HB:=hbB HB hb;have G:=neL D hg;have I:=neG D hg;replace D:=bkB D hb;clear hb hbox hg;have bx:=G.out;have b0:=I.out;obtain⟨a5,a6,a7,bk,bl,bm⟩:=cell3 D;obtain⟨a8,a9,ba,bn,bo,bp⟩:=cell3 Z))
  go_ret
  exact⟨rfE,hbA HB.out⟩
mutual
def recouplaw19_LocalFresh.l0:Nat->Int->List Int->List Int->Int->Int->Int->List Int->Int->Int->List Int->Option (Bool)
 |0,_,_,_,_,_,_,_,_,_,_=>none
 |k+1,x1,X,Y,U,D,G,I,J,L,O=>if U<(X.length:Int)then(if 0<=U then(recouplaw19_LocalFresh.l0 k x1 (X.set (U:Int).toNat 0) Y (wrap64 (U+1)) D G I J L O)else(none))else(recouplaw19_LocalFresh.l1 k x1 Y 0 D G I J L O)
def recouplaw19_LocalFresh.l1:Nat->Int->List Int->Int->Int->Int->List Int->Int->Int->List Int->Option (Bool)
 |0,_,_,_,_,_,_,_,_,_=>none
 |k+1,x1,ac,Y,D,G,I,J,L,O=>if Y<(ac.length:Int)then(if 0<=Y then(recouplaw19_LocalFresh.l1 k x1 (ac.set (Y:Int).toNat 99) (wrap64 (Y+1)) D G I J L O)else(none))else((local_Least.f k J L O x1).bind fun U=>((recoupref19_Least.f k D G I x1).bind fun X=>((recouplaw19_anchored.f k).bind fun Z=>(if Z=true then((recoupref03_Like.f J L O D G I).bind fun aa=>(if aa=true then((recoupref01_Same.f U.2.1 X.2.1).bind fun ab=>(if ab=true then(some (U.2.2.2==X.2.2.2))else(some false)))else(some false)))else(some false)))))
end
def recouplaw19_LocalFresh.f(k:Nat)(G:Int)(I:Int)(J:List Int)(a1:Int):Option (Bool):=(recoupref03_Copy.f G I J).bind fun D=>((local_Least.f k D.1 D.2.1 D.2.2 a1).bind fun L=>((local_Choices.f k D.1 D.2.1 D.2.2 a1 4).bind fun O=>((local_Sizes.f k D.1 D.2.1 D.2.2).bind fun U=>((recoupref01_Spoil.f k L.2.1 9).bind fun _=>(recouplaw19_LocalFresh.l0 k a1 O.1 U.1 0 G I J D.1 D.2.1 D.2.2)))))
theorem recouplaw19_LocalFresh.calls(k:Nat)(aa:Int)(ab:Int)(an:Option Addr)(aq:Nat)(Y:List Int)(a1:Int)(r:Bool)(w:World)(ca:Kd.C (Kd.int .u8) w an Y.length Y)(b9:Y.length<=aq)(h:recouplaw19_LocalFresh.f k aa ab Y a1=some r)(hT:TabAt 0 Lib.deBruijn64tab w):
 Calls Tryd.prog 7 #[.agg #[.int .i64 aa,.int .i64 ab,.slice an Y.length aq],.int .i64 a1] w fun e w'=>e= .returned (.bool r)/\Below w.heap.size w w':=by
 have HT:=aK hT;clear hT;have i8:=Tryd.underlying24;have ap:=aK ca;have ao:=aK b9;clear ca b9;have HB:=aK (Below.refl w.heap.size w);have H:((recoupref03_Copy.f aa ab Y).bind fun ag=>((local_Least.f k ag.1 ag.2.1 ag.2.2 a1).bind fun da=>((local_Choices.f k ag.1 ag.2.1 ag.2.2 a1 4).bind fun db=>((local_Sizes.f k ag.1 ag.2.1 ag.2.2).bind fun dc=>((recoupref01_Spoil.f k da.2.1 9).bind fun _=>(recouplaw19_LocalFresh.l0 k a1 db.1 dc.1 0 aa ab Y ag.1 ag.2.1 ag.2.2))))))=some r:=h;clear h;obtain⟨⟨U,X,J⟩,A3,H⟩:=bindO H
 (try dsimp only at H)
 obtain⟨⟨gh,bk,gi,gj⟩,A4,H⟩:=bindO H
 (try dsimp only at H)
 obtain⟨⟨cz,gl⟩,A5,H⟩:=bindO H
 (try dsimp only at H)
 obtain⟨⟨bl,gm⟩,A6,H⟩:=bindO H
 (try dsimp only at H)
 obtain⟨_,A7,H⟩:=bindO H
 (try dsimp only at H)
 have H':=aK H;clear H
 go_enter Tryd.func7,Tryd.ntmps7
 go_wp2_with (first|((with_reducible refine gD 2 rfl ?_);refine bE 2 #[.int .i64 aa,.int .i64 ab,.slice an Y.length aq] 24 ?_;intro au hg w8 hbox hb;have D:=aK (hbox);have gv:=aK ((by rw[hg];exact(below_size zh):w.heap.size<=au));have c5:=aK ((by rw[hg];exact(below_size zh):w.heap.size<=au));replace HB:=aK (below_step zh hb);clear hb hbox hg;obtain⟨bp,bq,br,bs,bt,bu⟩:=cell3 D)|((with_reducible refine gC 24 rfl ?_);refine cG (some 25) Tryd.func24 #[.agg #[.int .i64 aa,.int .i64 ab,.slice an Y.length aq]] ?_;(with_reducible refine(recoupref03_Copy.calls aa ab _ _ Y U X J _ ?side1 ?side2 A3.out).mono ?_);(case side1=>exact kcB ap HB);(case side2=>exact ao.out);rintro e ji ⟨ja,rfl,L,hb⟩;refine⟨_,rfl,?_⟩;have Z:=aK (R_lower L (below_size (hbA HB.out)));replace D:=bkB D hb;replace HB:=hbB HB hb;(try clear hb);(try clear L))|((with_reducible refine gD 5 rfl ?_);refine bE 5 #[.int .i64 0,.int .i64 0,.slice none 0 0] 24 ?_;intro bn hg jj hbox hb;replace Z:=kdB Z hb;have G:=aK (hbox);have gw:=hbS HB hg;have c6:=hbS HB hg;replace HB:=hbB HB hb;have ac:=neL D hg;have ak:=neG D hg;replace D:=bkB D hb;clear hb hbox hg;have gz:=ak.out;have g4:=ac.out;obtain⟨a2,a3,a4,bb,bc,bd⟩:=cell3 G;obtain⟨ai,ah,dk⟩:=R_slice Z.out;subst dk)|((with_reducible refine gC 11 rfl ?_);refine cG (some 29) Tryd.func11 #[.agg #[.int .i64 U,.int .i64 X,.slice ai J.length ah],.int .i64 a1] ?_;(with_reducible refine(local_Least.calls k U X _ _ J a1 gh bk gi gj _ ?side1 ?side2 A4.out (tab_below HT.out zl)).mono ?_);(case side1=>refine(R_reads' (e:=5) (base:=w.heap.size) (ok:=fun k_=>True) (n:=J.length) (c:=ah) ?_).2.2;exact(by(with_reducible repeat(first|apply R_alloc|apply R_drewN|apply R_drew));exact(zF Z.out G.out  (.int .i64 U)  (.int .i64 X)  (.slice ai J.length ah))));(case side2=>exact(R_reads' Z.out).2.1);rintro e jk ⟨jb,rfl,L,hb⟩;refine⟨_,rfl,?_⟩;have aj:=aK (R_lower (R_new' L (R_lt (by(with_reducible repeat(first|apply R_alloc|apply R_drewN|apply R_drew));exact(zF Z.out G.out  (.int .i64 U)  (.int .i64 X)  (.slice ai J.length ah))))) (below_size (hbA HB.out)));replace Z:=aK (R_elder' (by(with_reducible repeat(first|apply R_alloc|apply R_drewN|apply R_drew));exact(zF Z.out G.out  (.int .i64 U)  (.int .i64 X)  (.slice ai J.length ah))) (R_base L) hb);replace D:=aK (blk_below (g:=au) (o:= .cells #[.int .i64 aa,.int .i64 ab,.slice an Y.length aq] 24 (0,0)) (by refine bkR ?_;refine blk_far ?_ ac.out _;refine bkR ?_;refine blk_far ?_ ac.out _;refine bkR ?_;refine blk_far ?_ ac.out _;refine bkR ?_;exact D.out) hb);replace G:=aK (blk_below (g:=bn) (o:= .cells #[.int .i64 U,.int .i64 X,.slice ai J.length ah] 24 (0,0)) (by refine bkR ?_;refine blk_put (cs:= #[.int .i64 U,.int .i64 X,.slice none 0 0]) ?_ 2 _ rfl;refine bkR ?_;refine blk_put (cs:= #[.int .i64 U,.int .i64 0,.slice none 0 0]) ?_ 1 _ rfl;refine bkR ?_;refine blk_put (cs:= #[.int .i64 0,.int .i64 0,.slice none 0 0]) ?_ 0 _ rfl;refine bkR ?_;exact G.out) hb);replace HB:=hbB HB hb;(try clear hb);(try clear L);obtain⟨a5,a6,a7,be,bf,bg⟩:=cell3 G)|((with_reducible refine gC 25 rfl ?_);refine cG (some 37) Tryd.func25 #[.agg #[.int .i64 U,.int .i64 X,.slice ai J.length ah],.int .i64 a1,.int .i64 4] ?_;(with_reducible refine(local_Choices.calls k U X _ _ J a1 4 cz gl _ ?side1 ?side2 A5.out (tab_below HT.out zl)).mono ?_);(case side1=>exact kcA (R_reads' Z.out).2.2);(case side2=>exact(R_reads' Z.out).2.1);rintro e jl ⟨gr,rfl,L,hb⟩;refine⟨_,rfl,?_⟩;replace Z:=kdB Z hb;replace aj:=kdB aj hb;have ar:=aK (R_lower L (below_size (hbA HB.out)));replace D:=bkB D hb;replace G:=bkB G hb;replace HB:=hbB HB hb;(try clear hb);(try clear L);obtain⟨a8,a9,ba,bh,bi,bj⟩:=cell3 G)|((with_reducible refine gC 26 rfl ?_);refine cG (some 42) Tryd.func26 #[.agg #[.int .i64 U,.int .i64 X,.slice ai J.length ah]] ?_;(with_reducible refine(local_Sizes.calls k U X _ _ J bl gm _ ?side1 ?side2 A6.out (tab_below HT.out zl)).mono ?_);(case side1=>exact kcA (R_reads' Z.out).2.2);(case side2=>exact(R_reads' Z.out).2.1);rintro e jm ⟨c3,rfl,L,hb⟩;refine⟨_,rfl,?_⟩;replace Z:=kdB Z hb;replace aj:=kdB aj hb;replace ar:=kdB ar hb;have az:=aK (R_lower L (below_size (hbA HB.out)));replace D:=bkB D hb;replace G:=bkB G hb;replace HB:=hbB HB hb;(try clear hb);(try clear L);obtain⟨b3,b7,dl⟩:=R_slice aj.out;subst dl)|((with_reducible refine gC 27 rfl ?_);refine cG (some 46) Tryd.func27 #[.slice b3 bk.length b7,.int .u8 9] ?_;(with_reducible refine(recoupref01_Spoil.calls k (fun k_=>some k_=(.slice b3 bk.length b7:Value).ownBlock) (.slice b3 bk.length b7) bk 9 w _ ?side1 ?side2 A7.out).mono ?_);(case side1=>repeat(first|(with_reducible first|exact HB.out|apply below_alloc|apply pw_below_drewN|apply below_drew1|refine below_set ?_ c5.out|refine below_set ?_ c6.out)|exact HB.out));(case side2=>exact Kd.R_tight rfl aj.out);rintro e jn ⟨rfl,hb,hkp⟩;refine⟨_,rfl,?_⟩;have n0_:=aK (blk_kept (bkA D.out) hkp (fun hs_=>(fun e_=>(R_ne aj.out D.out zb) e_) hs_));have n1_:=aK (R_mono (ok':=fun k_=>True) (Kd.R_keptB (Z.out) hkp (fun k_ hk_ hs_=>(hk_.2) hs_)) (fun k_ hk_=>trivial));have n2_:=aK (blk_kept (bkA G.out) hkp (fun hs_=>(fun e_=>(R_ne aj.out G.out zb) e_) hs_));have n3_:=aK (R_mono (ok':=fun k_=>True) (Kd.R_keptB ((Kd.R_apart' ar.out (Kd.R_typed aj.out) zb)) hkp (fun k_ hk_ hs_=>(hk_.2) hs_)) (fun k_ hk_=>trivial));have n4_:=aK (R_mono (ok':=fun k_=>True) (Kd.R_keptB ((Kd.R_apart' az.out (Kd.R_typed aj.out) zb)) hkp (fun k_ hk_ hs_=>(hk_.2) hs_)) (fun k_ hk_=>trivial));have n5_:=aK (hb);clear D;clear Z;clear G;clear ar;clear az;clear HB;clear aj;have D:=n0_;have Z:=n1_;have G:=n2_;have ar:=n3_;have az:=n4_;have HB:=n5_;clear n0_ n1_ n2_ n3_ n4_ n5_;(try clear hb);(try clear hkp)))
 go_loopg [14] k (fun kq g9 w'=> ∃(al:List Int) (ae:Int),g9= .int .i64 ae/\Aside0 (recouplaw19_LocalFresh.l0 kq a1 al bl ae aa ab Y U X J=some r)/\Aside0 (kq<=k)/\Aside0 (Kd.R (Kd.int .u64) 29 w' w.heap.size (fun _=>True) gr al)/\Aside0 (Kd.R (Kd.int .i64) 3 w' w.heap.size (fun _=>True) c3 bl)/\Aside0 (Kd.R (Kd.int .u8) 5 w' w.heap.size (fun _=>True) (.slice ai J.length ah) J)/\Aside0 (w'.heap[au]? =some (.cells #[.int .i64 aa,.int .i64 ab,(.slice an Y.length aq)] 24 (0,0)))/\Aside0 (w'.heap[bn]? =some (.cells #[.int .i64 U,.int .i64 X,(.slice ai J.length ah)] 24 (0,0)))/\Aside0 (Below w.heap.size w w'))
 case atStart=>exact⟨(cz),(0),rsE,H',⟨Nat.le_refl _⟩,⟨kdA ar.out⟩,⟨kdA az.out⟩,⟨kdA Z.out⟩,⟨bkA D.out⟩,⟨bkA G.out⟩,⟨hbA HB.out⟩⟩
 case round=>
  clear H'
  (try clear c1);(try clear c2);(try clear p2);(try clear c7);(try clear gx);(try clear gy);(try clear a2 a3 a4 bb bc bd);(try clear a5 a6 a7 be bf bg);(try clear a8 a9 ba bh bi bj);(try clear bp bq br bs bt bu)
  obtain⟨al,ae,rfl,HA,cl,HO_10,HO_12,HO_702002,D,G,HB⟩:=hrel
  cases gk with
  |zero=>exact absurd HA.out (by simp[recouplaw19_LocalFresh.l0])
  |succ k1=>
   have H:=HA.out;clear HA;simp only[recouplaw19_LocalFresh.l0]at H;by_cases bm:ae<(al.length:Int)
   ·rw[if_pos bm]at H
    have c22b0:decide (ae<(al.length:Int))=true:=decide_eq_true bm;clear bm;by_cases b6:0<=ae
    case neg=>rw[if_neg b6]at H;exact absurd H zd
    rw[if_pos b6]at H
    have c23b0:decide (0<=ae)=true:=decide_eq_true b6;clear b6;obtain⟨cg,av⟩: ∃y_:List Int,y_=(al.set (ae:Int).toNat 0):=⟨_,rfl⟩
    replace H:(recouplaw19_LocalFresh.l0 k1 a1 cg bl (wrap64 (ae+1)) aa ab Y U X J)=some r:=zH av H
    have c8:=aK av;clear av;have H':=aK H;clear H;obtain⟨ib,b8,dm⟩:=R_slice HO_10.out;subst dm;have cb:0<=(ae:Int):=of_decide_eq_true asE;have cd:(ae:Int)<((al.length:Int):Int):=of_decide_eq_true asE;obtain⟨a0,iv,cv,cx,dz,it,cr⟩:=R_form HO_10.out za
    (first|cases cv|(injection cv with ea_ en_ ec_;(first|subst ea_|(injection ea_ with ea_;subst ea_));subst ec_;clear en_))
    have dh:=aK cx;have iq:=aK cr;clear cx dz cr;obtain⟨cq,gs⟩:=R_celln 0 HO_10.out (ae:Int) cb cd;replace cb:=eq_true cb;replace cd:=eq_true cd;have b4:=Kd.R_putg HO_10.out (ae:Int) 0
    go_wp2_with (first|((with_reducible refine gate_store (t:=29) (p:=55) rfl ?_);refine store_event (t:=29) (p:=55) (v:=?vo_w27) (w1:=(wr.setCell ⟨a0,(ae:Int).toNat,none⟩ (.int .u64 0))) ?hg ?ho ?hn ?hr ?_;(case ho=>rfl);(case hg=>rfl);(case hn=>rfl);(case hr=>first|(go_simp;done)|(go_simp;rfl));intro de hw;have hg:wr.grownBy de (some a0):=(by rw[hw];exact b4.2);have hp_:Kd.R (Kd.int .u64) 29 de w.heap.size (fun _=>True) (.slice (some ⟨a0,0,none⟩) al.length b8) cg:=(by rw[hw,c8.out];exact b4.1);clear b4;replace HO_12:=aK (Kd.R_over' (v:=(.slice (some ⟨a0,0,none⟩) al.length b8)) (kdA HO_12.out) (Kd.R_typed HO_10.out) zb hg);replace HO_702002:=aK (Kd.R_over' (v:=(.slice (some ⟨a0,0,none⟩) al.length b8)) (kdA HO_702002.out) (Kd.R_typed HO_10.out) zb hg);replace D:=bkG D hg (R_ne HO_10.out D.out zb);replace G:=bkG G hg (R_ne HO_10.out G.out zb);replace HO_10:=aK (hp_);replace HB:=aK ((by rw[hw];exact below_set (HB.out) dh.out:Below w.heap.size w de));clear hg hw hp_))
    go_roundg k1
    case measure=>have:=cl.out;omega
    case rel=>exact⟨(cg),(wrap64 (ae+1)),rsE,H',⟨by have:=cl.out;omega⟩,⟨kdA HO_10.out⟩,⟨kdA HO_12.out⟩,⟨kdA HO_702002.out⟩,⟨bkA D.out⟩,⟨bkA G.out⟩,⟨hbA HB.out⟩⟩
   rw[if_neg bm]at H
   have c22b0:decide (ae<(al.length:Int))=false:=decide_eq_false bm;clear bm;have H':=aK H;clear H;obtain⟨ic,iw,dn⟩:=R_slice HO_10.out;subst dn;go_wp2
   go_loopg [15] k1 (fun kq ia w'=> ∃(am:List Int) (af:Int),ia= .int .i64 af/\Aside0 (recouplaw19_LocalFresh.l1 kq a1 am af aa ab Y U X J=some r)/\Aside0 (kq<=k1)/\Aside0 (Kd.R (Kd.int .i64) 3 w' w.heap.size (fun _=>True) c3 am)/\Aside0 (Kd.R (Kd.int .u8) 5 w' w.heap.size (fun _=>True) (.slice ai J.length ah) J)/\Aside0 (w'.heap[au]? =some (.cells #[.int .i64 aa,.int .i64 ab,(.slice an Y.length aq)] 24 (0,0)))/\Aside0 (w'.heap[bn]? =some (.cells #[.int .i64 U,.int .i64 X,(.slice ai J.length ah)] 24 (0,0)))/\Aside0 (Below w.heap.size w w'))
   case atStart=>exact⟨(bl),(0),rsE,H',⟨Nat.le_refl _⟩,⟨kdA HO_12.out⟩,⟨kdA HO_702002.out⟩,⟨bkA D.out⟩,⟨bkA G.out⟩,⟨hbA HB.out⟩⟩
   case round=>
    clear H'
    (try clear c1);(try clear c2);(try clear p2 p2);(try clear q2);(try clear jh);(try clear jg);(try clear p6);(try clear c7);(try clear gx);(try clear gy);(try clear bm);(try clear c22b0);(try clear b6);(try clear c23b0);(try clear jc);(try clear cb cb);(try clear cd cd);(try clear i9);(try clear i7);(try clear jd);(try clear je);(try clear jf);(try clear a2 a3 a4 bb bc bd);(try clear a5 a6 a7 be bf bg);(try clear a8 a9 ba bh bi bj);(try clear bp bq br bs bt bu);(try clear cq)
    obtain⟨am,af,rfl,HA,dj,HO_12,HO_702002,D,G,HB⟩:=hrel
    cases gk with
    |zero=>exact absurd HA.out (by simp[recouplaw19_LocalFresh.l1])
    |succ k2=>
     have H:=HA.out;clear HA;simp only[recouplaw19_LocalFresh.l1]at H;by_cases b2:af<(am.length:Int)
     ·rw[if_pos b2]at H
      have c29b0:decide (af<(am.length:Int))=true:=decide_eq_true b2;clear b2;by_cases cm:0<=af
      case neg=>rw[if_neg cm]at H;exact absurd H zd
      rw[if_pos cm]at H
      have c30b0:decide (0<=af)=true:=decide_eq_true cm;clear cm;obtain⟨ch,aw⟩: ∃y_:List Int,y_=(am.set (af:Int).toNat 99):=⟨_,rfl⟩
      replace H:(recouplaw19_LocalFresh.l1 k2 a1 ch (wrap64 (af+1)) aa ab Y U X J)=some r:=zH aw H
      have c9:=aK aw;clear aw;have H':=aK H;clear H;obtain⟨ie,cu,dp⟩:=R_slice HO_12.out;subst dp;have p31:0<=(af:Int):=of_decide_eq_true asE;have dd:(af:Int)<((am.length:Int):Int):=of_decide_eq_true asE;obtain⟨bo,ix,cw,cy,d0,iu,ct⟩:=R_form HO_12.out za
      (first|cases cw|(injection cw with ea_ en_ ec_;(first|subst ea_|(injection ea_ with ea_;subst ea_));subst ec_;clear en_))
      have di:=aK cy;have ir:=aK ct;clear cy d0 ct;obtain⟨gu,gt⟩:=R_celln 0 HO_12.out (af:Int) p31 dd;replace p31:=eq_true p31;replace dd:=eq_true dd;have b5:=Kd.R_putg HO_12.out (af:Int) 99
      go_wp2_with (first|((with_reducible refine gate_store (t:=3) (p:=64) rfl ?_);refine store_event (t:=3) (p:=64) (v:=?vo_w34) (w1:=(wr.setCell ⟨bo,(af:Int).toNat,none⟩ (.int .i64 99))) ?hg ?ho ?hn ?hr ?_;(case ho=>rfl);(case hg=>rfl);(case hn=>rfl);(case hr=>first|(go_simp;done)|(go_simp;rfl));intro df hw;have hg:wr.grownBy df (some bo):=(by rw[hw];exact b5.2);have hp_:Kd.R (Kd.int .i64) 3 df w.heap.size (fun _=>True) (.slice (some ⟨bo,0,none⟩) am.length cu) ch:=(by rw[hw,c9.out];exact b5.1);clear b5;replace HO_702002:=aK (Kd.R_over' (v:=(.slice (some ⟨bo,0,none⟩) am.length cu)) (kdA HO_702002.out) (Kd.R_typed HO_12.out) zb hg);replace D:=bkG D hg (R_ne HO_12.out D.out zb);replace G:=bkG G hg (R_ne HO_12.out G.out zb);replace HO_12:=aK (hp_);replace HB:=aK ((by rw[hw];exact below_set (HB.out) di.out:Below w.heap.size w df));clear hg hw hp_))
      go_roundg k2
      case measure=>have:=cl.out;have:=dj.out;omega
      case rel=>exact⟨(ch),(wrap64 (af+1)),rsE,H',⟨by have:=cl.out;have:=dj.out;omega⟩,⟨kdA HO_12.out⟩,⟨kdA HO_702002.out⟩,⟨bkA D.out⟩,⟨bkA G.out⟩,⟨hbA HB.out⟩⟩
     rw[if_neg b2]at H
     have c29b0:decide (af<(am.length:Int))=false:=decide_eq_false b2;clear b2;obtain⟨⟨bv,ax,bw,bx⟩,ci,H⟩:=bindO H
     (try dsimp only at H)
     obtain⟨⟨bz,ay,b0,b1⟩,cj,H⟩:=bindO H
     (try dsimp only at H)
     obtain⟨gn,ck,H⟩:=bindO H
     (try dsimp only at H)
     by_cases cn:gn=true
     case neg=>
      replace cn:=Bool.eq_false_iff.mpr cn;subst cn;rw[if_neg nofT]at H
      obtain rfl:=Option.some.inj H;obtain⟨ip,i6,dy⟩:=R_slice HO_12.out;subst dy;have g3:=ak.out;have g8:=ac.out;obtain⟨e2,e3,e4,ga,gb,gc⟩:=cell3 G
      go_wp2_with (first|((with_reducible refine gC 11 rfl ?_);refine cG (some 68) Tryd.func11 #[.agg #[.int .i64 U,.int .i64 X,.slice ai J.length ah],.int .i64 a1] ?_;(with_reducible refine(local_Least.calls k2 U X _ _ J a1 bv ax bw bx _ ?side1 ?side2 ci.out (tab_below HT.out zl)).mono ?_);(case side1=>exact kcA (R_reads' HO_702002.out).2.2);(case side2=>exact(R_reads' HO_702002.out).2.1);rintro e jz ⟨ce,rfl,L,hb⟩;refine⟨_,rfl,?_⟩;replace HO_12:=kdB HO_12 hb;have I:=aK (R_lower (R_new' L (R_lt (kdA HO_702002.out))) (below_size (hbA HB.out)));replace HO_702002:=aK (R_elder' (kdA HO_702002.out) (R_base L) hb);replace D:=bkB D hb;replace G:=bkB G hb;replace HB:=hbB HB hb;(try clear hb);(try clear L);obtain⟨e5,e6,e7,ge,gf,gg⟩:=cell3 D)|((with_reducible refine gC 12 rfl ?_);refine cG (some 76) Tryd.func12 #[.agg #[.int .i64 aa,.int .i64 ab,.slice an Y.length aq],.int .i64 a1] ?_;(with_reducible refine(recoupref19_Least.calls k2 aa ab _ _ Y a1 bz ay b0 b1 _ ?side1 ?side2 cj.out).mono ?_);(case side1=>exact kcB ap HB);(case side2=>exact ao.out);rintro e j0 ⟨cf,rfl,L,hb⟩;refine⟨_,rfl,?_⟩;replace HO_12:=kdB HO_12 hb;have O:=aK (R_lower (R_new' (R_new' L (R_lt (kdA HO_702002.out))) (R_lt (kdA I.out))) (below_size (hbA HB.out)));replace HO_702002:=aK (R_elder' (kdA HO_702002.out) (R_base L) hb);replace I:=aK (R_elder' (kdA I.out) (R_base L) hb);replace D:=bkB D hb;replace G:=bkB G hb;replace HB:=hbB HB hb;(try clear hb);(try clear L))|((with_reducible refine gC 15 rfl ?_);refine cG (some 81) Tryd.func15 #[] ?_;(with_reducible refine(recouplaw19_anchored.calls k2 false _ ck.out (tab_below HT.out zl)).mono ?_);rintro e j1 ⟨rfl,hb⟩;refine⟨_,rfl,?_⟩;replace HO_12:=kdB HO_12 hb;replace HO_702002:=kdB HO_702002 hb;replace I:=kdB I hb;replace O:=kdB O hb;replace D:=bkB D hb;replace G:=bkB G hb;replace HB:=hbB HB hb;(try clear hb)))
      go_ret
      exact⟨rfE,hbA HB.out⟩
     subst cn;rw[if_pos rfl]at H
     obtain⟨gp,c4,H⟩:=bindO H
     (try dsimp only at H)
     by_cases co:gp=true
     case neg=>
      replace co:=Bool.eq_false_iff.mpr co;subst co;rw[if_neg nofT]at H
      obtain rfl:=Option.some.inj H;obtain⟨io,i5,dx⟩:=R_slice HO_12.out;subst dx;have g2:=ak.out;have g7:=ac.out;obtain⟨ep,er,es,fy,fz,f0⟩:=cell3 G
      go_wp2_with (first|((with_reducible refine gC 11 rfl ?_);refine cG (some 68) Tryd.func11 #[.agg #[.int .i64 U,.int .i64 X,.slice ai J.length ah],.int .i64 a1] ?_;(with_reducible refine(local_Least.calls k2 U X _ _ J a1 bv ax bw bx _ ?side1 ?side2 ci.out (tab_below HT.out zl)).mono ?_);(case side1=>exact kcA (R_reads' HO_702002.out).2.2);(case side2=>exact(R_reads' HO_702002.out).2.1);rintro e jv ⟨ce,rfl,L,hb⟩;refine⟨_,rfl,?_⟩;replace HO_12:=kdB HO_12 hb;have I:=aK (R_lower (R_new' L (R_lt (kdA HO_702002.out))) (below_size (hbA HB.out)));replace HO_702002:=aK (R_elder' (kdA HO_702002.out) (R_base L) hb);replace D:=bkB D hb;replace G:=bkB G hb;replace HB:=hbB HB hb;(try clear hb);(try clear L);obtain⟨et,eu,ev,f1,f2,f3⟩:=cell3 D)|((with_reducible refine gC 12 rfl ?_);refine cG (some 76) Tryd.func12 #[.agg #[.int .i64 aa,.int .i64 ab,.slice an Y.length aq],.int .i64 a1] ?_;(with_reducible refine(recoupref19_Least.calls k2 aa ab _ _ Y a1 bz ay b0 b1 _ ?side1 ?side2 cj.out).mono ?_);(case side1=>exact kcB ap HB);(case side2=>exact ao.out);rintro e jw ⟨cf,rfl,L,hb⟩;refine⟨_,rfl,?_⟩;replace HO_12:=kdB HO_12 hb;have O:=aK (R_lower (R_new' (R_new' L (R_lt (kdA HO_702002.out))) (R_lt (kdA I.out))) (below_size (hbA HB.out)));replace HO_702002:=aK (R_elder' (kdA HO_702002.out) (R_base L) hb);replace I:=aK (R_elder' (kdA I.out) (R_base L) hb);replace D:=bkB D hb;replace G:=bkB G hb;replace HB:=hbB HB hb;(try clear hb);(try clear L))|((with_reducible refine gC 15 rfl ?_);refine cG (some 81) Tryd.func15 #[] ?_;(with_reducible refine(recouplaw19_anchored.calls k2 true _ ck.out (tab_below HT.out zl)).mono ?_);rintro e jx ⟨rfl,hb⟩;refine⟨_,rfl,?_⟩;replace HO_12:=kdB HO_12 hb;replace HO_702002:=kdB HO_702002 hb;replace I:=kdB I hb;replace O:=kdB O hb;replace D:=bkB D hb;replace G:=bkB G hb;replace HB:=hbB HB hb;(try clear hb);obtain⟨ew,ex,ey,f4,f5,f6⟩:=cell3 G;obtain⟨ez,e0,e1,f7,f8,f9⟩:=cell3 D)|(go_at_call 28;(with_reducible refine(recoupref03_Like.calls U X _ _ J aa ab _ _ Y false _ ?side1 ?side2 ?side3 ?side4 c4.out).mono ?_);(case side1=>exact kcA (R_reads' HO_702002.out).2.2);(case side2=>exact(R_reads' HO_702002.out).2.1);(case side3=>exact kcB ap HB);(case side4=>exact ao.out);rintro e jy ⟨rfl,hb⟩;replace HO_12:=kdB HO_12 hb;replace HO_702002:=kdB HO_702002 hb;replace I:=kdB I hb;replace O:=kdB O hb;replace D:=bkB D hb;replace G:=bkB G hb;replace HB:=hbB HB hb;(try clear hb)))
      go_ret
      exact⟨rfE,hbA HB.out⟩
     subst co;rw[if_pos rfl]at H
     obtain⟨gq,dg,H⟩:=bindO H
     (try dsimp only at H)
     by_cases cp:gq=true
     ·subst cp;rw[if_pos rfl]at H
      obtain rfl:=Option.some.inj H;obtain⟨ig,iy,dq⟩:=R_slice HO_12.out;subst dq;have g0:=ak.out;have g5:=ac.out;obtain⟨d1,d2,d3,e8,e9,fa⟩:=cell3 G
      go_wp2_with (first|((with_reducible refine gC 11 rfl ?_);refine cG (some 68) Tryd.func11 #[.agg #[.int .i64 U,.int .i64 X,.slice ai J.length ah],.int .i64 a1] ?_;(with_reducible refine(local_Least.calls k2 U X _ _ J a1 bv ax bw bx _ ?side1 ?side2 ci.out (tab_below HT.out zl)).mono ?_);(case side1=>exact kcA (R_reads' HO_702002.out).2.2);(case side2=>exact(R_reads' HO_702002.out).2.1);rintro e jo ⟨ce,rfl,L,hb⟩;refine⟨_,rfl,?_⟩;replace HO_12:=kdB HO_12 hb;have I:=aK (R_lower (R_new' L (R_lt (kdA HO_702002.out))) (below_size (hbA HB.out)));replace HO_702002:=aK (R_elder' (kdA HO_702002.out) (R_base L) hb);replace D:=bkB D hb;replace G:=bkB G hb;replace HB:=hbB HB hb;(try clear hb);(try clear L);obtain⟨d4,d5,d6,fb,fc,fd⟩:=cell3 D)|((with_reducible refine gC 12 rfl ?_);refine cG (some 76) Tryd.func12 #[.agg #[.int .i64 aa,.int .i64 ab,.slice an Y.length aq],.int .i64 a1] ?_;(with_reducible refine(recoupref19_Least.calls k2 aa ab _ _ Y a1 bz ay b0 b1 _ ?side1 ?side2 cj.out).mono ?_);(case side1=>exact kcB ap HB);(case side2=>exact ao.out);rintro e jp ⟨cf,rfl,L,hb⟩;refine⟨_,rfl,?_⟩;replace HO_12:=kdB HO_12 hb;have O:=aK (R_lower (R_new' (R_new' L (R_lt (kdA HO_702002.out))) (R_lt (kdA I.out))) (below_size (hbA HB.out)));replace HO_702002:=aK (R_elder' (kdA HO_702002.out) (R_base L) hb);replace I:=aK (R_elder' (kdA I.out) (R_base L) hb);replace D:=bkB D hb;replace G:=bkB G hb;replace HB:=hbB HB hb;(try clear hb);(try clear L))|((with_reducible refine gC 15 rfl ?_);refine cG (some 81) Tryd.func15 #[] ?_;(with_reducible refine(recouplaw19_anchored.calls k2 true _ ck.out (tab_below HT.out zl)).mono ?_);rintro e jq ⟨rfl,hb⟩;refine⟨_,rfl,?_⟩;replace HO_12:=kdB HO_12 hb;replace HO_702002:=kdB HO_702002 hb;replace I:=kdB I hb;replace O:=kdB O hb;replace D:=bkB D hb;replace G:=bkB G hb;replace HB:=hbB HB hb;(try clear hb);obtain⟨d7,d8,d9,fe,ff,fg⟩:=cell3 G;obtain⟨ea,eb,ec,fh,fi,fj⟩:=cell3 D)|(go_at_call 28;(with_reducible refine(recoupref03_Like.calls U X _ _ J aa ab _ _ Y true _ ?side1 ?side2 ?side3 ?side4 c4.out).mono ?_);(case side1=>exact kcA (R_reads' HO_702002.out).2.2);(case side2=>exact(R_reads' HO_702002.out).2.1);(case side3=>exact kcB ap HB);(case side4=>exact ao.out);rintro e jr ⟨rfl,hb⟩;replace HO_12:=kdB HO_12 hb;replace HO_702002:=kdB HO_702002 hb;replace I:=kdB I hb;replace O:=kdB O hb;replace D:=bkB D hb;replace G:=bkB G hb;replace HB:=hbB HB hb;(try clear hb);obtain⟨ii,iz,dr⟩:=R_slice I.out;subst dr;obtain⟨ij,i1,dt⟩:=R_slice O.out;subst dt)|(go_at_call 13;(with_reducible refine(recoupref01_Same.calls _ _ ax _ _ ay true _ ?side1 ?side2 ?side3 ?side4 dg.out).mono ?_);(case side1=>exact kcA (R_reads' I.out).2.2);(case side2=>exact(R_reads' I.out).2.1);(case side3=>exact kcA (R_reads' O.out).2.2);(case side4=>exact(R_reads' O.out).2.1);rintro e w' ⟨rfl,⟨nd,rfl⟩⟩))
      go_ret
      exact⟨rfE,hbA HB.out⟩
     replace cp:=Bool.eq_false_iff.mpr cp;subst cp;rw[if_neg nofT]at H
     obtain rfl:=Option.some.inj H;obtain⟨ik,i2,du⟩:=R_slice HO_12.out;subst du;have g1:=ak.out;have g6:=ac.out;obtain⟨ed,ee,ef,fk,fl,fm⟩:=cell3 G
     go_wp2_with (first|((with_reducible refine gC 11 rfl ?_);refine cG (some 68) Tryd.func11 #[.agg #[.int .i64 U,.int .i64 X,.slice ai J.length ah],.int .i64 a1] ?_;(with_reducible refine(local_Least.calls k2 U X _ _ J a1 bv ax bw bx _ ?side1 ?side2 ci.out (tab_below HT.out zl)).mono ?_);(case side1=>exact kcA (R_reads' HO_702002.out).2.2);(case side2=>exact(R_reads' HO_702002.out).2.1);rintro e js ⟨ce,rfl,L,hb⟩;refine⟨_,rfl,?_⟩;replace HO_12:=kdB HO_12 hb;have I:=aK (R_lower (R_new' L (R_lt (kdA HO_702002.out))) (below_size (hbA HB.out)));replace HO_702002:=aK (R_elder' (kdA HO_702002.out) (R_base L) hb);replace D:=bkB D hb;replace G:=bkB G hb;replace HB:=hbB HB hb;(try clear hb);(try clear L);obtain⟨eg,eh,ei,fo,fp,fq⟩:=cell3 D)|((with_reducible refine gC 12 rfl ?_);refine cG (some 76) Tryd.func12 #[.agg #[.int .i64 aa,.int .i64 ab,.slice an Y.length aq],.int .i64 a1] ?_;(with_reducible refine(recoupref19_Least.calls k2 aa ab _ _ Y a1 bz ay b0 b1 _ ?side1 ?side2 cj.out).mono ?_);(case side1=>exact kcB ap HB);(case side2=>exact ao.out);rintro e jt ⟨cf,rfl,L,hb⟩;refine⟨_,rfl,?_⟩;replace HO_12:=kdB HO_12 hb;have O:=aK (R_lower (R_new' (R_new' L (R_lt (kdA HO_702002.out))) (R_lt (kdA I.out))) (below_size (hbA HB.out)));replace HO_702002:=aK (R_elder' (kdA HO_702002.out) (R_base L) hb);replace I:=aK (R_elder' (kdA I.out) (R_base L) hb);replace D:=bkB D hb;replace G:=bkB G hb;replace HB:=hbB HB hb;(try clear hb);(try clear L))|((with_reducible refine gC 15 rfl ?_);refine cG (some 81) Tryd.func15 #[] ?_;(with_reducible refine(recouplaw19_anchored.calls k2 true _ ck.out (tab_below HT.out zl)).mono ?_);rintro e ju ⟨rfl,hb⟩;refine⟨_,rfl,?_⟩;replace HO_12:=kdB HO_12 hb;replace HO_702002:=kdB HO_702002 hb;replace I:=kdB I hb;replace O:=kdB O hb;replace D:=bkB D hb;replace G:=bkB G hb;replace HB:=hbB HB hb;(try clear hb);obtain⟨ej,ek,el,fs,ft,fu⟩:=cell3 G;obtain⟨em,en,eo,fv,fw,fx⟩:=cell3 D)|(go_at_call 28;(with_reducible refine(recoupref03_Like.calls U X _ _ J aa ab _ _ Y true _ ?side1 ?side2 ?side3 ?side4 c4.out).mono ?_);(case side1=>exact kcA (R_reads' HO_702002.out).2.2);(case side2=>exact(R_reads' HO_702002.out).2.1);(case side3=>exact kcB ap HB);(case side4=>exact ao.out);rintro e w64 ⟨rfl,hb⟩;replace HO_12:=kdB HO_12 hb;replace HO_702002:=kdB HO_702002 hb;replace I:=kdB I hb;replace O:=kdB O hb;replace D:=bkB D hb;replace G:=bkB G hb;replace HB:=hbB HB hb;(try clear hb);obtain⟨il,i3,dv⟩:=R_slice I.out;subst dv;obtain⟨im,i4,dw⟩:=R_slice O.out;subst dw)|(go_at_call 13;(with_reducible refine(recoupref01_Same.calls _ _ ax _ _ ay false _ ?side1 ?side2 ?side3 ?side4 dg.out).mono ?_);(case side1=>exact kcA (R_reads' I.out).2.2);(case side2=>exact(R_reads' I.out).2.1);(case side3=>exact kcA (R_reads' O.out).2.2);(case side4=>exact(R_reads' O.out).2.1);rintro e w' ⟨rfl,⟨nd,rfl⟩⟩))
     go_ret
     exact⟨rfE,hbA HB.out⟩
end Go.Proofs.YtjgcocfnilhggaaDoor.Q
