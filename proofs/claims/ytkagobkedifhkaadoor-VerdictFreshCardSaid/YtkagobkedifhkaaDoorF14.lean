/- Texts of the proof of VerdictFresh: what each Go function answers, and what the answers mean; no condition beyond each theorem's own. -/
import Derived.Test.YtkagobkedifhkaaDoorF13
namespace Go.Proofs.YtkagobkedifhkaaDoor.Q
open Go.RowKit Go.Proofs.YtkagobkedifhkaaDoorW.PrintWords Go.Proofs.YtkagobkedifhkaaDoorW.PrintLast Go.Proofs.YtkagobkedifhkaaDoorW.PrintMore
attribute [local go_sem] max2_int min2_int max_two min_two max_three min_three max_four min_four
set_option linter.unusedVariables false
set_option linter.unusedSimpArgs false
def recoupref07_Covers.f(k:Nat)(I:Int)(G:Int)(J:List Int)(a1:Int):Option (Bool×Int):=(recoupref07_Rank.f k I G J a1).bind fun D=>(if D.2=0 then(some ((D.1==G),D.2))else(some (false,D.2)))
set_option maxHeartbeats 8000000 in
set_option maxRecDepth 100000 in
theorem recoupref07_Covers.calls(k:Nat)(J:Int)(I:Int)(O:Option Addr)(U:Nat)(D:List Int)(a1:Int)(r1:Bool)(r2:Int)(w:World)(ab:Kd.C (Kd.int .u8) w O D.length D)(aa:D.length≤U)(h:recoupref07_Covers.f k J I D a1=some (r1,r2)):
 Calls Tryd.prog 33 #[.agg #[.int .i64 J,.int .i64 I,.slice O D.length U],.int .u64 a1] w fun e w'=>e= .returned (.tuple #[.bool r1,.int .i64 r2])∧Below w.heap.size w w':=by
 have a2:=Tryd.underlying24;have Z:=aK ab;have Y:=aK aa;clear ab aa;have HB:=aK (Below.refl w.heap.size w);have H:((recoupref07_Rank.f k J I D a1).bind fun X=>(if X.2=0 then(some ((X.1==I),X.2))else(some (false,X.2))))=some (r1,r2):=h;clear h;obtain⟨⟨ac,L⟩,A3,H⟩:=bindO H
 (try dsimp only at H)
 by_cases c4:L=0
 ·rw[if_pos c4]at H
  have c4b0:(L==0)=true:=beq_iff_eq.mpr c4;have c4b1:(L !=0)=false:=bne_eq_false_iff_eq.mpr c4;clear c4;simp only[Option.some.injEq,Prod.mk.injEq]at H;obtain⟨rfl,rfl⟩:=H
  go_enter Tryd.func33,Tryd.ntmps33
  go_wp2_with (first|((with_reducible refine gD 2 rfl ?_);refine bE 2 #[.int .i64 J,.int .i64 I,.slice O D.length U] 24 ?_;intro ag hg w5 hbox hb;have G:=aK (hbox);have af:=hbS HB hg;have ae:=hbS HB hg;replace HB:=hbB HB hb;clear hb hbox hg;obtain⟨an,ao,ap,av,aw,ax⟩:=cell3 G)|((with_reducible refine gC 56 rfl ?_);refine cG (some 11) Tryd.func56 #[.agg #[.int .i64 J,.int .i64 I,.slice O D.length U],.int .u64 a1] ?_;(with_reducible refine(recoupref07_Rank.calls k J I _ _ D a1 ac L _ ?side1 ?side2 A3.out).mono ?_);(case side1=>exact kcB Z HB);(case side2=>exact Y.out);rintro e w7 ⟨rfl,hb⟩;refine⟨_,rfl,?_⟩;replace G:=bkB G hb;replace HB:=hbB HB hb;(try clear hb);obtain⟨aq,ar,au,ay,az,a0⟩:=cell3 G))
  go_ret2
  exact⟨rfE,hbA HB.out⟩
 ·rw[if_neg c4]at H
  have c4b0:(L==0)=false:=beq_eq_false_iff_ne.mpr c4;have c4b1:(L !=0)=true:=bne_iff_ne.mpr c4;simp only[Option.some.injEq,Prod.mk.injEq]at H;obtain⟨rfl,rfl⟩:=H
  go_enter Tryd.func33,Tryd.ntmps33
  go_wp2_with (first|((with_reducible refine gD 2 rfl ?_);refine bE 2 #[.int .i64 J,.int .i64 I,.slice O D.length U] 24 ?_;intro ag hg w9 hbox hb;have G:=aK (hbox);have af:=hbS HB hg;have ae:=hbS HB hg;replace HB:=hbB HB hb;clear hb hbox hg;obtain⟨ah,ai,aj,ak,al,am⟩:=cell3 G)|((with_reducible refine gC 56 rfl ?_);refine cG (some 11) Tryd.func56 #[.agg #[.int .i64 J,.int .i64 I,.slice O D.length U],.int .u64 a1] ?_;(with_reducible refine(recoupref07_Rank.calls k J I _ _ D a1 ac L _ ?side1 ?side2 A3.out).mono ?_);(case side1=>exact kcB Z HB);(case side2=>exact Y.out);rintro e a3 ⟨rfl,hb⟩;refine⟨_,rfl,?_⟩;replace G:=bkB G hb;replace HB:=hbB HB hb;(try clear hb)))
  go_ret2
  exact⟨rfE,hbA HB.out⟩
def recoupref18_Recovers.f(k:Nat)(I:Int)(J:Int)(L:List Int)(a1:Int):Option (Bool×Int):=(recoupref18_left.f k I J L a1).bind fun D=>(if D.2=0 then((recoupref07_Covers.f k I J L D.1).bind fun G=>(some (G.1,G.2)))else(some (false,D.2)))
set_option maxHeartbeats 8000000 in
set_option maxRecDepth 100000 in
theorem recoupref18_Recovers.calls(k:Nat)(I:Int)(J:Int)(L:Option Addr)(O:Nat)(D:List Int)(a1:Int)(r1:Bool)(r2:Int)(w:World)(ae:Kd.C (Kd.int .u8) w L D.length D)(ac:D.length≤O)(h:recoupref18_Recovers.f k I J D a1=some (r1,r2)):
 Calls Tryd.prog 10 #[.agg #[.int .i64 I,.int .i64 J,.slice L D.length O],.int .u64 a1] w fun e w'=>e= .returned (.tuple #[.bool r1,.int .i64 r2])∧Below w.heap.size w w':=by
 have a5:=Tryd.underlying24;have Y:=aK ae;have X:=aK ac;clear ae ac;have HB:=aK (Below.refl w.heap.size w);have H:((recoupref18_left.f k I J D a1).bind fun Z=>(if Z.2=0 then((recoupref07_Covers.f k I J D Z.1).bind fun ab=>(some (ab.1,ab.2)))else(some (false,Z.2))))=some (r1,r2):=h;clear h;obtain⟨⟨aa,U⟩,A3,H⟩:=bindO H
 (try dsimp only at H)
 by_cases c4:U=0
 ·rw[if_pos c4]at H
  have c4b0:(U==0)=true:=beq_iff_eq.mpr c4;have c4b1:(U !=0)=false:=bne_eq_false_iff_eq.mpr c4;clear c4;obtain⟨⟨ao,ap⟩,A5,H⟩:=bindO H
  (try dsimp only at H)
  simp only[Option.some.injEq,Prod.mk.injEq]at H;obtain⟨rfl,rfl⟩:=H
  go_enter Tryd.func10,Tryd.ntmps10
  go_wp2_with (first|((with_reducible refine gD 2 rfl ?_);refine bE 2 #[.int .i64 I,.int .i64 J,.slice L D.length O] 24 ?_;intro ah hg w6 hbox hb;have G:=aK (hbox);have ag:=hbS HB hg;have af:=hbS HB hg;replace HB:=hbB HB hb;clear hb hbox hg;obtain⟨aq,ar,au,ay,az,a0⟩:=cell3 G)|((with_reducible refine gC 32 rfl ?_);refine cG (some 11) Tryd.func32 #[.agg #[.int .i64 I,.int .i64 J,.slice L D.length O],.int .u64 a1] ?_;(with_reducible refine(recoupref18_left.calls k I J _ _ D a1 aa U _ ?side1 ?side2 A3.out).mono ?_);(case side1=>exact kcB Y HB);(case side2=>exact X.out);rintro e w8 ⟨rfl,hb⟩;refine⟨_,rfl,?_⟩;replace G:=bkB G hb;replace HB:=hbB HB hb;(try clear hb);obtain⟨av,aw,ax,a2,a3,a4⟩:=cell3 G)|((with_reducible refine gC 33 rfl ?_);refine cG (some 19) Tryd.func33 #[.agg #[.int .i64 I,.int .i64 J,.slice L D.length O],.int .u64 aa] ?_;(with_reducible refine(recoupref07_Covers.calls k I J _ _ D aa ao ap _ ?side1 ?side2 A5.out).mono ?_);(case side1=>exact kcB Y HB);(case side2=>exact X.out);rintro e a6 ⟨rfl,hb⟩;refine⟨_,rfl,?_⟩;replace G:=bkB G hb;replace HB:=hbB HB hb;(try clear hb)))
  go_ret2
  exact⟨rfE,hbA HB.out⟩
 ·rw[if_neg c4]at H
  have c4b0:(U==0)=false:=beq_eq_false_iff_ne.mpr c4;have c4b1:(U !=0)=true:=bne_iff_ne.mpr c4;simp only[Option.some.injEq,Prod.mk.injEq]at H;obtain⟨rfl,rfl⟩:=H
  go_enter Tryd.func10,Tryd.ntmps10
  go_wp2_with (first|((with_reducible refine gD 2 rfl ?_);refine bE 2 #[.int .i64 I,.int .i64 J,.slice L D.length O] 24 ?_;intro ah hg a7 hbox hb;have G:=aK (hbox);have ag:=hbS HB hg;have af:=hbS HB hg;replace HB:=hbB HB hb;clear hb hbox hg;obtain⟨ai,aj,ak,al,am,an⟩:=cell3 G)|((with_reducible refine gC 32 rfl ?_);refine cG (some 11) Tryd.func32 #[.agg #[.int .i64 I,.int .i64 J,.slice L D.length O],.int .u64 a1] ?_;(with_reducible refine(recoupref18_left.calls k I J _ _ D a1 aa U _ ?side1 ?side2 A3.out).mono ?_);(case side1=>exact kcB Y HB);(case side2=>exact X.out);rintro e a8 ⟨rfl,hb⟩;refine⟨_,rfl,?_⟩;replace G:=bkB G hb;replace HB:=hbB HB hb;(try clear hb)))
  go_ret2
  exact⟨rfE,hbA HB.out⟩
def recoupref07_one.f(a0:Int):Option (Int):=if 0≤(IntKind.u64.wrap (a0))then(some (shl .u64 1 (IntKind.u64.wrap (a0))))else(none)
set_option maxHeartbeats 8000000 in
set_option maxRecDepth 100000 in
theorem recoupref07_one.calls(a0:Int)(r:Int)(w:World)(h:recoupref07_one.f a0=some r):
 Calls Tryd.prog 59 #[.int .i64 a0] w fun e w'=>e= .returned (.int .u64 r)∧Drawn0 w w':=by
 have H:(if 0≤(IntKind.u64.wrap (a0))then(some (shl .u64 1 (IntKind.u64.wrap (a0))))else(none))=some r:=h;clear h;obtain⟨D,I⟩: ∃j_:Int,(IntKind.u64.wrap (a0))=j_:=⟨_,rfl⟩
 replace H:(if 0≤(D)then(some (shl .u64 1 (D)))else(none))=some r:=by first|(rw[I]at H;exact H)|(simp only[I]at H⊢;exact H)
 by_cases c3:0≤(D)
 ·rw[if_pos c3]at H
  have c3b0:=eq_true c3;have c3b1:decide (0≤(D))=true:=decide_eq_true c3;clear c3;obtain⟨J,G⟩: ∃j_:Int,(shl .u64 1 (D))=j_:=⟨_,rfl⟩
  replace H:(some J)=some r:=by first|(rw[G]at H;exact H)|(simp only[G]at H⊢;exact H)
  have hji4_:(IntKind.u64.wrap (1*2^min (D).toNat 64))=J:=G;have hji4z:(D)≤64→(IntKind.u64.wrap (1*2^(D).toNat))=J:=shl_small G;have hji4u:(IntKind.u64.wrap (2^min (D).toNat 64))=J:=by have h_:=hji4_;rw[Int.one_mul]at h_;exact h_
  have hji4v:(D)≤64→(IntKind.u64.wrap (2^(D).toNat))=J:=fun hle_=>by have h_:=hji4z hle_;rw[Int.one_mul]at h_;exact h_
  obtain rfl:=Option.some.inj H
  go_enter Tryd.func59,Tryd.ntmps59
  go_wp2
  go_ret
  exact⟨by first|rfl|(simp;done)|(simp only[←I,←G]<;>(first|rfl|simp))|(simp[*];done),by repeat(first|exact Drawn0.refl _|apply Drawn0.step)⟩
 ·rw[if_neg c3]at H
  exact absurd H zac
mutual
def recoupref07_Basis.l0:Nat→Int→Int→Int→Int→Int→Int→List Int→Option (Int×Int)
 |0,_,_,_,_,_,_,_=>none
 |k+1,x1,x6,x7,x8,D,G,I=>if x8<D then(recoupref07_Basis.j1 k x1 x6 x7 x8 (x6==0) D G I)else(recoupref07_Basis.j1 k x1 x6 x7 x8 false D G I)
def recoupref07_Basis.j1:Nat→Int→Int→Int→Int→Bool→Int→Int→List Int→Option (Int×Int)
 |0,_,_,_,_,_,_,_,_=>none
 |k+1,x1,x6,x7,x8,Y,D,G,I=>if Y=true then((recoupref06_Has.f x1 x8).bind fun J=>(if J=true then((recoupref07_one.f x8).bind fun L=>((recoupref07_rank.f k D G I (Go.bits .or .u64 x7 L)).bind fun O=>((recoupref07_rank.f k D G I x7).bind fun U=>(if O>U then((recoupref07_one.f x8).bind fun X=>(recoupref07_Basis.l0 k x1 x6 (Go.bits .or .u64 x7 X) (wrap64 (x8+1)) D G I))else(recoupref07_Basis.l0 k x1 x6 x7 (wrap64 (x8+1)) D G I)))))else(recoupref07_Basis.l0 k x1 x6 x7 (wrap64 (x8+1)) D G I)))else(some (x7,x6))
end
def recoupref07_Basis.f(k:Nat)(D:Int)(G:Int)(I:List Int)(a1:Int):Option (Int×Int):=(recoupref07_bad.f k D G I a1).bind fun J=>(recoupref07_Basis.l0 k a1 J 0 0 D G I)
def recoupref07_Basis.T6:Bool×List (List Nat×List Nat):=(true,[([],[]),([],[]),([0,1],[0,1]),([2,2],[2]),([3],[3]),([3],[3]),([3],[3]),([6,3,3],[3,6]),([5,7,3],[3,5,7]),([4,8,7,3],[3,4,8]),([3],[3]),([3],[3]),([10,11,9,3],[3,10,11]),([9,12,3],[3,9,12]),([3,13],[3,13])])
def recoupref07_Basis.B6:List Nat:= [0,0,3,7,15,15,15,79,239,511,15,15,4095,8191,16383]
theorem recoupref07_Basis.tab6:rtab .any (opsOf Tryd.f35 6)=recoupref07_Basis.T6:=by kernel_rfl
theorem recoupref07_Basis.bits6:waitsOk recoupref07_Basis.T6.2 recoupref07_Basis.B6=true:=by kernel_rfl
set_option maxHeartbeats 8000000 in
set_option maxRecDepth 100000 in
theorem recoupref07_Basis.calls(k:Nat)(G:Int)(L:Int)(U:Option Addr)(X:Nat)(I:List Int)(a1:Int)(r1:Int)(r2:Int)(w:World)(a0:Kd.C (Kd.int .u8) w U I.length I)(ar:I.length≤X)(h:recoupref07_Basis.f k G L I a1=some (r1,r2)):
 Calls Tryd.prog 35 #[.agg #[.int .i64 G,.int .i64 L,.slice U I.length X],.int .u64 a1] w fun e w'=>e= .returned (.tuple #[.int .u64 r1,.int .i64 r2])∧Below w.heap.size w w':=by
 have bm:=Tryd.underlying24;have aa:=aK a0;have Z:=aK ar;clear a0 ar;have HB:=aK (Below.refl w.heap.size w);have H:((recoupref07_bad.f k G L I a1).bind fun ab=>(recoupref07_Basis.l0 k a1 ab 0 0 G L I))=some (r1,r2):=h;clear h;obtain⟨ab,A3,H⟩:=bindO H
 (try dsimp only at H)
 have H':=aK H;clear H
 go_enter Tryd.func35,Tryd.ntmps35
 go_wp2_with (first|((with_reducible refine gD 2 rfl ?_);refine bE 2 #[.int .i64 G,.int .i64 L,.slice U I.length X] 24 ?_;intro Y hg w4 hbox hb;have D:=aK (hbox);have bk:=hbS HB hg;have bj:=hbS HB hg;replace HB:=hbB HB hb;clear hb hbox hg;obtain⟨aj,ak,al,am,an,ao⟩:=cell3 D)|((with_reducible refine gC 57 rfl ?_);refine cG (some 11) Tryd.func57 #[.agg #[.int .i64 G,.int .i64 L,.slice U I.length X],.int .u64 a1] ?_;(with_reducible refine(recoupref07_bad.calls k G L _ _ I a1 ab _ ?side1 ?side2 A3.out).mono ?_);(case side1=>exact kcB aa HB);(case side2=>exact Z.out);rintro e w6 ⟨rfl,hb⟩;refine⟨_,rfl,?_⟩;replace D:=bkB D hb;replace HB:=hbB HB hb;(try clear hb)))
 go_loopg [7,8] k (fun kq v7 v8 w'=> ∃(O:Int) (J:Int),v7= .int .u64 O∧v8= .int .i64 J∧Aside0 (recoupref07_Basis.l0 kq a1 ab O J G L I=some (r1,r2))∧Aside0 (kq≤k)∧Aside0 (w'.heap[Y]? =some (.cells #[.int .i64 G,.int .i64 L,(.slice U I.length X)] 24 (0,0)))∧Aside0 (Below w.heap.size w w'))
 case atStart=>exact⟨(0),(0),rsE,rsE,H',⟨Nat.le_refl _⟩,⟨bkA D.out⟩,⟨hbA HB.out⟩⟩
 case round=>
  clear H'
  (try clear p2);(try clear c3);(try clear c5);(try clear aj ak al am an ao)
  obtain⟨O,J,rfl,rfl,HA,af,D,HB⟩:=hrel
  cases gk with
  |zero=>exact absurd HA.out (by simp[recoupref07_Basis.l0])
  |succ k1=>
   have H:=HA.out;clear HA;simp only[recoupref07_Basis.l0]at H;have bc:=aK H;clear H
   go_upto_region 4 with(fail)
   go_cut [19] (fun bl wc=> ∃(kq:Nat) (ae:Bool),bl= .bool ae∧Aside0 (recoupref07_Basis.j1 kq a1 ab O J ae G L I=some (r1,r2))∧Aside0 (kq≤k1)∧Aside0 (wc.heap[Y]? =some (.cells #[.int .i64 G,.int .i64 L,(.slice U I.length X)] 24 (0,0)))∧Aside0 (Below w.heap.size w wc))
   case first=>
    have H:=bc.out;clear bc;by_cases c8:J<G
    ·rw[if_pos c8]at H
     have c8b0:decide (J<G)=true:=decide_eq_true c8;clear c8
     (first|rw[c8b0] |(simp only[i64_w,i32_w];rw[c8b0])|skip)
     have H':=aK H;clear H;obtain⟨a4,a5,a6,a7,a8,a9⟩:=cell3 D;go_wp2
     go_meet
     case rel=>exact⟨_,((ab==0)),rsE,H',⟨by have:=af.out;first|omega|exact Nat.le_refl _⟩,⟨bkA D.out⟩,⟨hbA HB.out⟩⟩
    ·rw[if_neg c8]at H
     have c8b0:decide (J<G)=false:=decide_eq_false c8;clear c8
     (first|rw[c8b0] |(simp only[i64_w,i32_w];rw[c8b0])|skip)
     have H':=aK H;clear H;obtain⟨au,av,aw,ax,ay,az⟩:=cell3 D;go_wp2
     go_meet
     case rel=>exact⟨_,(false),rsE,H',⟨by have:=af.out;first|omega|exact Nat.le_refl _⟩,⟨bkA D.out⟩,⟨hbA HB.out⟩⟩
   case rest=>
    clear bc
    (try clear p2 p2);(try clear c3);(try clear c5);(try clear c8);(try clear c8b0);(try clear au av aw ax ay az);(try clear aj ak al am an ao);(try clear a4 a5 a6 a7 a8 a9)
    obtain⟨kq,ae,rfl,HA,ap,D,HB⟩:=hcut
    cases kq with
    |zero=>exact absurd HA.out (by simp[recoupref07_Basis.j1])
    |succ ai=>
     have H:=HA.out;clear HA;simp only[recoupref07_Basis.j1]at H;by_cases a2:ae=true
     ·subst a2;rw[if_pos rfl]at H
      obtain⟨bh,bb,H⟩:=bindO H
      (try dsimp only at H)
      by_cases a3:bh=true
      ·subst a3;rw[if_pos rfl]at H
       obtain⟨ac,be,H⟩:=bindO H
       (try dsimp only at H)
       obtain⟨ag,bf,H⟩:=bindO H
       (try dsimp only at H)
       obtain⟨ah,bg,H⟩:=bindO H
       (try dsimp only at H)
       by_cases aq:ag>ah
       ·rw[if_pos aq]at H
        have c17b0:decide (ah<ag)=true:=decide_eq_true aq;clear aq;obtain⟨ba,bi,H⟩:=bindO H
        (try dsimp only at H)
        have H':=aK H;clear H
        try go_wp2
        replace D:=aK (blk_drew D.out);replace HB:=aK (below_drew1 HB.out);refine start_ (n:=15) (S:=fun w'=>w'.cell? ⟨Y,0,none⟩=some (.int .i64 G)∧w'.cell? ⟨Y,1,none⟩=some (.int .i64 L)∧w'.cell? ⟨Y,2,none⟩=some (.slice U I.length X)) (ds:= []) (.replicate 15 false) zab rfl rfl ⟨(blk_cell D.out 0).trans rfl,(blk_cell D.out 1).trans rfl,(blk_cell D.out 2).trans rfl⟩ (fun hHeld=>?_);refine with_tabW recoupref07_Basis.tab6 recoupref07_Basis.bits6 (fun HT_ HW_=>?_);generalize wc.drew=bn at D HB hHeld⊢;refine pu 0 (some 22) (mB 15 1) HT_ ?_;refine pu 1 (some 23) (mB 15 3) HT_ ?_;refine zoh 2 (some 24) (mB 15 7) HT_ fun K hK=>?_;refine goes_ Tryd.func26 zab rfl #[.int .u64 a1,.int .i64 J] zad rfl rfl (by(try simp only[List.map_toArray,List.map_cons,List.map_nil]);first|done|rfl|(simp only[List.length_drop,List.length_take];rfl)) ?_;with_reducible refine(recoupref06_Has.calls a1 J true _ bb.out).mono ?_
        rintro e w' ⟨rfl,⟨nd,rfl⟩⟩;refine⟨_,rfl,?_⟩;refine hK.out _ _ ⟨(blk_cell D.out 0).trans rfl,(blk_cell D.out 1).trans rfl,(blk_cell D.out 2).trans rfl⟩ (fun hHeld=>?_);clear hK K;refine znm (some 24) ?_;refine pu 3 (some 25) (mB 15 15) HT_ ?_;refine pu 5 (some 27) (mB 15 47) HT_ ?_;refine pu 6 (some 28) (mB 15 111) HT_ ?_;refine pu 11 (some 33) (mB 15 2159) HT_ ?_;refine tk3 4 (some 26) (mB 15 2175) HT_ HW_ hHeld ?_;refine tk3 10 (some 32) (mB 15 3199) HT_ HW_ hHeld ?_;refine zoh 7 (some 29) (mB 15 3327) HT_ fun K hK=>?_;refine goes_ Tryd.func59 zab rfl #[.int .i64 J] zad rfl rfl (by(try simp only[List.map_toArray,List.map_cons,List.map_nil]);first|done|rfl|(simp only[List.length_drop,List.length_take];rfl)) ?_;with_reducible refine(recoupref07_one.calls J ac _ be.out).mono ?_
        rintro e w' ⟨rfl,⟨nd,rfl⟩⟩;refine⟨_,rfl,?_⟩;refine hK.out _ _ ⟨(blk_cell D.out 0).trans rfl,(blk_cell D.out 1).trans rfl,(blk_cell D.out 2).trans rfl⟩ (fun hHeld=>?_);clear hK K;refine znm (some 29) ?_;refine pu 8 (some 30) (mB 15 3583) HT_ ?_;refine zoh 9 (some 31) (mB 15 4095) HT_ fun K hK=>?_;refine goes_ Tryd.func58 zab rfl #[.agg #[.int .i64 G,.int .i64 L,.slice U I.length X],.int .u64 (Go.bits .or .u64 O ac)] zad rfl rfl (by(try simp only[List.map_toArray,List.map_cons,List.map_nil]);first|done|rfl|(simp only[List.length_drop,List.length_take];rfl)) ?_;with_reducible refine(recoupref07_rank.calls ai G L _ _ I (Go.bits .or .u64 O ac) ag _ ?side1 ?side2 bf.out).mono ?_
        (case side1=>repeat(first|exact(Kd.C_below aa.out (hbA HB.out))|(with_reducible refine Kd.C_alloc ?_ _)|(with_reducible refine Kd.C_drewN ?_ _)|(with_reducible refine Kd.C_drew ?_)))
        (case side2=>exact Z.out)
        rintro e bo ⟨rfl,hb⟩;refine⟨_,rfl,?_⟩;replace D:=bkB D hb;replace HB:=hbB HB hb
        (try clear hb)
        (try clear bd)
        (try clear hk)
        (try clear hi)
        refine hK.out _ _ ⟨(blk_cell D.out 0).trans rfl,(blk_cell D.out 1).trans rfl,(blk_cell D.out 2).trans rfl⟩ (fun hHeld=>?_);clear hK K;refine znm (some 31) ?_;refine zoh 12 (some 34) (mB 15 8191) HT_ fun K hK=>?_;refine goes_ Tryd.func58 zab rfl #[.agg #[.int .i64 G,.int .i64 L,.slice U I.length X],.int .u64 O] zad rfl rfl (by(try simp only[List.map_toArray,List.map_cons,List.map_nil]);first|done|rfl|(simp only[List.length_drop,List.length_take];rfl)) ?_;with_reducible refine(recoupref07_rank.calls ai G L _ _ I O ah _ ?side1 ?side2 bg.out).mono ?_
        (case side1=>exact kcB aa HB)
        (case side2=>exact Z.out)
        rintro e bp ⟨rfl,hb⟩;refine⟨_,rfl,?_⟩;replace D:=bkB D hb;replace HB:=hbB HB hb
        (try clear hb)
        (try clear bd)
        (try clear hk)
        (try clear hi)
        refine hK.out _ _ ⟨(blk_cell D.out 0).trans rfl,(blk_cell D.out 1).trans rfl,(blk_cell D.out 2).trans rfl⟩ (fun hHeld=>?_);clear hK K;refine znm (some 34) ?_;refine pu 13 (some 35) (mB 15 16383) HT_ ?_;refine pu 14 (some 36) (mB 15 32767) HT_ ?_;refine done_ (done_of HT_.out zab) ?_
        try go_wp2_with (first|((with_reducible refine gC 59 rfl ?_);refine cG (some 39) Tryd.func59 #[.int .i64 J] ?_;(with_reducible refine(recoupref07_one.calls J ba _ bi.out).mono ?_);rintro e w' ⟨rfl,⟨nd,rfl⟩⟩;refine⟨_,rfl,?_⟩))
        go_roundg ai
        case measure=>have:=af.out;have:=ap.out;omega
        case rel=>exact⟨(Go.bits .or .u64 O ba),(wrap64 (J+1)),rsE,rsE,H',⟨by have:=af.out;have:=ap.out;omega⟩,⟨bkA D.out⟩,⟨hbA HB.out⟩⟩
       ·rw[if_neg aq]at H
        have c17b0:decide (ah<ag)=false:=decide_eq_false aq;clear aq;have H':=aK H;clear H
        try go_wp2
        replace D:=aK (blk_drew D.out);replace HB:=aK (below_drew1 HB.out);refine start_ (n:=15) (S:=fun w'=>w'.cell? ⟨Y,0,none⟩=some (.int .i64 G)∧w'.cell? ⟨Y,1,none⟩=some (.int .i64 L)∧w'.cell? ⟨Y,2,none⟩=some (.slice U I.length X)) (ds:= []) (.replicate 15 false) zab rfl rfl ⟨(blk_cell D.out 0).trans rfl,(blk_cell D.out 1).trans rfl,(blk_cell D.out 2).trans rfl⟩ (fun hHeld=>?_);refine with_tabW recoupref07_Basis.tab6 recoupref07_Basis.bits6 (fun HT_ HW_=>?_);generalize wc.drew=bq at D HB hHeld⊢;refine pu 0 (some 22) (mB 15 1) HT_ ?_;refine pu 1 (some 23) (mB 15 3) HT_ ?_;refine zoh 2 (some 24) (mB 15 7) HT_ fun K hK=>?_;refine goes_ Tryd.func26 zab rfl #[.int .u64 a1,.int .i64 J] zad rfl rfl (by(try simp only[List.map_toArray,List.map_cons,List.map_nil]);first|done|rfl|(simp only[List.length_drop,List.length_take];rfl)) ?_;with_reducible refine(recoupref06_Has.calls a1 J true _ bb.out).mono ?_
        rintro e w' ⟨rfl,⟨nd,rfl⟩⟩;refine⟨_,rfl,?_⟩;refine hK.out _ _ ⟨(blk_cell D.out 0).trans rfl,(blk_cell D.out 1).trans rfl,(blk_cell D.out 2).trans rfl⟩ (fun hHeld=>?_);clear hK K;refine znm (some 24) ?_;refine pu 3 (some 25) (mB 15 15) HT_ ?_;refine pu 5 (some 27) (mB 15 47) HT_ ?_;refine pu 6 (some 28) (mB 15 111) HT_ ?_;refine pu 11 (some 33) (mB 15 2159) HT_ ?_;refine tk3 4 (some 26) (mB 15 2175) HT_ HW_ hHeld ?_;refine tk3 10 (some 32) (mB 15 3199) HT_ HW_ hHeld ?_;refine zoh 7 (some 29) (mB 15 3327) HT_ fun K hK=>?_;refine goes_ Tryd.func59 zab rfl #[.int .i64 J] zad rfl rfl (by(try simp only[List.map_toArray,List.map_cons,List.map_nil]);first|done|rfl|(simp only[List.length_drop,List.length_take];rfl)) ?_;with_reducible refine(recoupref07_one.calls J ac _ be.out).mono ?_
        rintro e w' ⟨rfl,⟨nd,rfl⟩⟩;refine⟨_,rfl,?_⟩;refine hK.out _ _ ⟨(blk_cell D.out 0).trans rfl,(blk_cell D.out 1).trans rfl,(blk_cell D.out 2).trans rfl⟩ (fun hHeld=>?_);clear hK K;refine znm (some 29) ?_;refine pu 8 (some 30) (mB 15 3583) HT_ ?_;refine zoh 9 (some 31) (mB 15 4095) HT_ fun K hK=>?_;refine goes_ Tryd.func58 zab rfl #[.agg #[.int .i64 G,.int .i64 L,.slice U I.length X],.int .u64 (Go.bits .or .u64 O ac)] zad rfl rfl (by(try simp only[List.map_toArray,List.map_cons,List.map_nil]);first|done|rfl|(simp only[List.length_drop,List.length_take];rfl)) ?_;with_reducible refine(recoupref07_rank.calls ai G L _ _ I (Go.bits .or .u64 O ac) ag _ ?side1 ?side2 bf.out).mono ?_
        (case side1=>repeat(first|exact(Kd.C_below aa.out (hbA HB.out))|(with_reducible refine Kd.C_alloc ?_ _)|(with_reducible refine Kd.C_drewN ?_ _)|(with_reducible refine Kd.C_drew ?_)))
        (case side2=>exact Z.out)
        rintro e br ⟨rfl,hb⟩;refine⟨_,rfl,?_⟩;replace D:=bkB D hb;replace HB:=hbB HB hb
        (try clear hb)
        (try clear bd)
        (try clear hk)
        (try clear hi)
        refine hK.out _ _ ⟨(blk_cell D.out 0).trans rfl,(blk_cell D.out 1).trans rfl,(blk_cell D.out 2).trans rfl⟩ (fun hHeld=>?_);clear hK K;refine znm (some 31) ?_;refine zoh 12 (some 34) (mB 15 8191) HT_ fun K hK=>?_;refine goes_ Tryd.func58 zab rfl #[.agg #[.int .i64 G,.int .i64 L,.slice U I.length X],.int .u64 O] zad rfl rfl (by(try simp only[List.map_toArray,List.map_cons,List.map_nil]);first|done|rfl|(simp only[List.length_drop,List.length_take];rfl)) ?_;with_reducible refine(recoupref07_rank.calls ai G L _ _ I O ah _ ?side1 ?side2 bg.out).mono ?_
        (case side1=>exact kcB aa HB)
        (case side2=>exact Z.out)
        rintro e bs ⟨rfl,hb⟩;refine⟨_,rfl,?_⟩;replace D:=bkB D hb;replace HB:=hbB HB hb
        (try clear hb)
        (try clear bd)
        (try clear hk)
        (try clear hi)
        refine hK.out _ _ ⟨(blk_cell D.out 0).trans rfl,(blk_cell D.out 1).trans rfl,(blk_cell D.out 2).trans rfl⟩ (fun hHeld=>?_);clear hK K;refine znm (some 34) ?_;refine pu 13 (some 35) (mB 15 16383) HT_ ?_;refine pu 14 (some 36) (mB 15 32767) HT_ ?_;refine done_ (done_of HT_.out zab) ?_
        try go_wp2
        go_roundg ai
        case measure=>have:=af.out;have:=ap.out;omega
        case rel=>exact⟨(O),(wrap64 (J+1)),rsE,rsE,H',⟨by have:=af.out;have:=ap.out;omega⟩,⟨bkA D.out⟩,⟨hbA HB.out⟩⟩
      ·replace a3:=Bool.eq_false_iff.mpr a3;subst a3;rw[if_neg nofT]at H
       have H':=aK H;clear H
       try go_wp2
       replace D:=aK (blk_drew D.out);replace HB:=aK (below_drew1 HB.out);refine start_ (n:=15) (S:=fun w'=>True) (ds:= []) (.replicate 15 false) zab rfl rfl trivial (fun hHeld=>?_);refine with_tabW recoupref07_Basis.tab6 recoupref07_Basis.bits6 (fun HT_ HW_=>?_);generalize wc.drew=bt at D HB hHeld⊢;refine pu 0 (some 22) (mB 15 1) HT_ ?_;refine pu 1 (some 23) (mB 15 3) HT_ ?_;refine zoh 2 (some 24) (mB 15 7) HT_ fun K hK=>?_;refine goes_ Tryd.func26 zab rfl #[.int .u64 a1,.int .i64 J] zad rfl rfl (by(try simp only[List.map_toArray,List.map_cons,List.map_nil]);first|done|rfl|(simp only[List.length_drop,List.length_take];rfl)) ?_;with_reducible refine(recoupref06_Has.calls a1 J false _ bb.out).mono ?_
       rintro e w' ⟨rfl,⟨nd,rfl⟩⟩;refine⟨_,rfl,?_⟩;refine hK.out _ _ trivial (fun hHeld=>?_);clear hK K;refine znm (some 24) ?_;refine pu 3 (some 25) (mB 15 15) HT_ ?_;refine zpo 4 (some 26) (mB 15 31) HT_ ?_;refine zpo 5 (some 27) (mB 15 63) HT_ ?_;refine zpo 6 (some 28) (mB 15 127) HT_ ?_;refine zpo 7 (some 29) (mB 15 255) HT_ ?_;refine zpo 8 (some 30) (mB 15 511) HT_ ?_;refine zpo 9 (some 31) (mB 15 1023) HT_ ?_;refine zpo 10 (some 32) (mB 15 2047) HT_ ?_;refine zpo 11 (some 33) (mB 15 4095) HT_ ?_;refine zpo 12 (some 34) (mB 15 8191) HT_ ?_;refine zpo 13 (some 35) (mB 15 16383) HT_ ?_;refine pu 14 (some 36) (mB 15 32767) HT_ ?_;refine done_ (done_of HT_.out zab) ?_
       try go_wp2
       go_roundg ai
       case measure=>have:=af.out;have:=ap.out;omega
       case rel=>exact⟨(O),(wrap64 (J+1)),rsE,rsE,H',⟨by have:=af.out;have:=ap.out;omega⟩,⟨bkA D.out⟩,⟨hbA HB.out⟩⟩
     ·replace a2:=Bool.eq_false_iff.mpr a2;subst a2;rw[if_neg nofT]at H
      simp only[Option.some.injEq,Prod.mk.injEq]at H;obtain⟨rfl,rfl⟩:=H;go_wp2
      go_ret2
      exact⟨rfE,hbA HB.out⟩
end Go.Proofs.YtkagobkedifhkaaDoor.Q
namespace Go.Proofs.YtkagobkedifhkaaDoor.Q
open Go.RowKit Go.Proofs.YtkagobkedifhkaaDoorW.PrintWords Go.Proofs.YtkagobkedifhkaaDoorW.PrintLast Go.Proofs.YtkagobkedifhkaaDoorW.PrintMore
attribute [local go_sem] max2_int min2_int max_two min_two max_three min_three max_four min_four
set_option linter.unusedVariables false
set_option linter.unusedSimpArgs false
def recoupref18_Sources.f(k:Nat)(D:Int)(G:Int)(J:List Int)(a1:Int):Option (Int×Bool×Int):=(recoupref18_Recovers.f k D G J a1).bind fun I=>(if I.1=true then((recoupref18_left.f k D G J a1).bind fun L=>((recoupref07_Basis.f k D G J L.1).bind fun O=>(some (O.1,true,0))))else(some (0,false,I.2)))
set_option maxHeartbeats 8000000 in
set_option maxRecDepth 100000 in
theorem recoupref18_Sources.calls(k:Nat)(I:Int)(J:Int)(L:Option Addr)(O:Nat)(D:List Int)(a1:Int)(r1:Int)(r2:Bool)(r3:Int)(w:World)(aa:Kd.C (Kd.int .u8) w L D.length D)(Z:D.length≤O)(h:recoupref18_Sources.f k I J D a1=some (r1,r2,r3)):
 Calls Tryd.prog 12 #[.agg #[.int .i64 I,.int .i64 J,.slice L D.length O],.int .u64 a1] w fun e w'=>e= .returned (.tuple #[.int .u64 r1,.bool r2,.int .i64 r3])∧Below w.heap.size w w':=by
 have be:=Tryd.underlying24;have X:=aK aa;have U:=aK Z;clear aa Z;have HB:=aK (Below.refl w.heap.size w);have H:((recoupref18_Recovers.f k I J D a1).bind fun Y=>(if Y.1=true then((recoupref18_left.f k I J D a1).bind fun ag=>((recoupref07_Basis.f k I J D ag.1).bind fun ah=>(some (ah.1,true,0))))else(some (0,false,Y.2))))=some (r1,r2,r3):=h;clear h;obtain⟨⟨a4,ac⟩,A3,H⟩:=bindO H
 (try dsimp only at H)
 by_cases c4:a4=true
 ·subst c4;rw[if_pos rfl]at H
  obtain⟨⟨ab,a5⟩,A5,H⟩:=bindO H
  (try dsimp only at H)
  obtain⟨⟨a6,a7⟩,A6,H⟩:=bindO H
  (try dsimp only at H)
  simp only[Option.some.injEq,Prod.mk.injEq]at H;obtain⟨rfl,rfl,rfl⟩:=H
  go_enter Tryd.func12,Tryd.ntmps12
  go_wp2_with (first|((with_reducible refine gD 2 rfl ?_);refine bE 2 #[.int .i64 I,.int .i64 J,.slice L D.length O] 24 ?_;intro ai hg w7 hbox hb;have G:=aK (hbox);have af:=hbS HB hg;have ae:=hbS HB hg;replace HB:=hbB HB hb;clear hb hbox hg;obtain⟨a8,a9,ba,bb,bc,bd⟩:=cell3 G)|((with_reducible refine gC 10 rfl ?_);refine cG (some 16) Tryd.func10 #[.agg #[.int .i64 I,.int .i64 J,.slice L D.length O],.int .u64 a1] ?_;(with_reducible refine(recoupref18_Recovers.calls k I J _ _ D a1 true ac _ ?side1 ?side2 A3.out).mono ?_);(case side1=>exact kcB X HB);(case side2=>exact U.out);rintro e w9 ⟨rfl,hb⟩;refine⟨_,rfl,?_⟩;replace G:=bkB G hb;replace HB:=hbB HB hb;(try clear hb);obtain⟨aj,ak,al,au,av,aw⟩:=cell3 G)|((with_reducible refine gC 32 rfl ?_);refine cG (some 25) Tryd.func32 #[.agg #[.int .i64 I,.int .i64 J,.slice L D.length O],.int .u64 a1] ?_;(with_reducible refine(recoupref18_left.calls k I J _ _ D a1 ab a5 _ ?side1 ?side2 A5.out).mono ?_);(case side1=>exact kcB X HB);(case side2=>exact U.out);rintro e bf ⟨rfl,hb⟩;refine⟨_,rfl,?_⟩;replace G:=bkB G hb;replace HB:=hbB HB hb;(try clear hb);obtain⟨am,an,ao,ax,ay,az⟩:=cell3 G)|((with_reducible refine gC 35 rfl ?_);refine cG (some 31) Tryd.func35 #[.agg #[.int .i64 I,.int .i64 J,.slice L D.length O],.int .u64 ab] ?_;(with_reducible refine(recoupref07_Basis.calls k I J _ _ D ab a6 a7 _ ?side1 ?side2 A6.out).mono ?_);(case side1=>exact kcB X HB);(case side2=>exact U.out);rintro e bg ⟨rfl,hb⟩;refine⟨_,rfl,?_⟩;replace G:=bkB G hb;replace HB:=hbB HB hb;(try clear hb)))
  go_ret3
  exact⟨rfE,hbA HB.out⟩
 ·replace c4:=Bool.eq_false_iff.mpr c4;subst c4;rw[if_neg nofT]at H
  simp only[Option.some.injEq,Prod.mk.injEq]at H;obtain⟨rfl,rfl,rfl⟩:=H
  go_enter Tryd.func12,Tryd.ntmps12
  go_wp2_with (first|((with_reducible refine gD 2 rfl ?_);refine bE 2 #[.int .i64 I,.int .i64 J,.slice L D.length O] 24 ?_;intro ai hg bh hbox hb;have G:=aK (hbox);have af:=hbS HB hg;have ae:=hbS HB hg;replace HB:=hbB HB hb;clear hb hbox hg;obtain⟨ap,aq,ar,a0,a2,a3⟩:=cell3 G)|((with_reducible refine gC 10 rfl ?_);refine cG (some 16) Tryd.func10 #[.agg #[.int .i64 I,.int .i64 J,.slice L D.length O],.int .u64 a1] ?_;(with_reducible refine(recoupref18_Recovers.calls k I J _ _ D a1 false ac _ ?side1 ?side2 A3.out).mono ?_);(case side1=>exact kcB X HB);(case side2=>exact U.out);rintro e bi ⟨rfl,hb⟩;refine⟨_,rfl,?_⟩;replace G:=bkB G hb;replace HB:=hbB HB hb;(try clear hb)))
  go_ret3
  exact⟨rfE,hbA HB.out⟩
def recoupref03_Zero.f(a0:Int)(a1:Int):Option (Int×Int×List Int):=if 0≤(wrap64 (a0*a1))then(if(wrap64 (a0*a1):Int).toNat≤281474976710656 then(some (a0,a1,(List.replicate (wrap64 (a0*a1):Int).toNat 0)))else(none))else(none)
set_option maxHeartbeats 8000000 in
set_option maxRecDepth 100000 in
theorem recoupref03_Zero.calls(a0:Int)(a1:Int)(r1:Int)(r2:Int)(r3:List Int)(w:World)(h:recoupref03_Zero.f a0 a1=some (r1,r2,r3)):
 Calls Tryd.prog 43 #[.int .i64 a0,.int .i64 a1] w fun e w'=> ∃v2_:Value,e= .returned (.agg #[.int .i64 r1,.int .i64 r2,v2_])∧Kd.R (Kd.int .u8) 5 w' w.heap.size (fun _=>True) v2_ r3∧Below w.heap.size w w':=by
 have al:=Tryd.underlying24;have HB:=aK (Below.refl w.heap.size w);have H:(if 0≤(wrap64 (a0*a1))then(if(wrap64 (a0*a1):Int).toNat≤281474976710656 then(some (a0,a1,(List.replicate (wrap64 (a0*a1):Int).toNat 0)))else(none))else(none))=some (r1,r2,r3):=h;clear h;obtain⟨I,L⟩: ∃j_:Int,(wrap64 (a0*a1))=j_:=⟨_,rfl⟩
 replace H:(if 0≤(I)then(if(I:Int).toNat≤281474976710656 then(some (a0,a1,(List.replicate (I:Int).toNat 0)))else(none))else(none))=some (r1,r2,r3):=by first|(rw[L]at H;exact H)|(simp only[L]at H⊢;exact H)
 have hji3w:(IntKind.i64.wrap (a0*a1))=I:=(i64_w _).trans L;by_cases c4:0≤(I)
 ·rw[if_pos c4]at H
  have c4b0:=eq_true c4;have c4b1:decide (0≤(I))=true:=decide_eq_true c4;clear c4;by_cases c5:(I:Int).toNat≤281474976710656
  ·rw[if_pos c5]at H
   have c5b0:=eq_true c5;have c5b1:decide ((I:Int).toNat≤281474976710656)=true:=decide_eq_true c5;clear c5;obtain⟨Y,G⟩: ∃y_:List Int,y_=(List.replicate (I:Int).toNat 0):=⟨_,rfl⟩
   replace H:(some (a0,a1,Y))=some (r1,r2,r3):=by first|(rw[G];with_reducible exact H)|(have H2_:=(Option.bind_some _ _).symm.trans H;rw[G];with_reducible exact H2_)|(have H2_:=(Option.bind_some _ _).symm.trans H;with_reducible exact H2_)|with_reducible exact H|(rw[G];exact H)|exact H
   have U:=aK G;clear G;simp only[Option.some.injEq,Prod.mk.injEq]at H;obtain⟨rfl,rfl,rfl⟩:=H
   go_enter Tryd.func43,Tryd.ntmps43
   go_wp2_with (first|((with_reducible refine gD 4 rfl ?_);refine bE 4 #[.int .i64 0,.int .i64 0,.slice none 0 0] 24 ?_;intro J hg w6 hbox hb;have D:=aK (hbox);have aj:=hbS HB hg;have ai:=hbS HB hg;replace HB:=hbB HB hb;clear hb hbox hg)|((with_reducible refine gate_dst (N:=10) rfl ?_);refine Kd.R_make (Kd.int .u8) _ 5 rfl (N:=10) rfl 22 _ _ rfl I rfl rfl Tryd.underlying22 (.int .u8 0) 1 info5 rfl zaa zz 0 (ok:=fun _=>True) (okp:=fun _=>True) rfl (fun _ hk=>hk) trivial (of_decide_eq_true asE) (Nat.le_trans (Nat.mul_le_mul_right _ (of_decide_eq_true asE:I.toNat≤281474976710656)) zz) (Below.refl _ _) (Nat.le_refl _) ?_;intro am w7 X hb hg_ hnew_;clear hg_ hnew_;(first|rw[←U.out]at X|(simp only[Int.reduceToNat]at X;rw[←U.out]at X));have O:=aK (Kd.R_lower X (below_size (hbA HB.out)));replace D:=bkB D hb;replace HB:=hbB HB hb;clear hb X;obtain⟨Z,aa,ak⟩:=Kd.R_slice O.out;subst ak;obtain⟨ab,ac,ae,af,ag,ah⟩:=cell3 D))
   refine bodyPost_ret (results_cell_row rfl _ _ J 24 #[.int .i64 a0,.int .i64 a1,.slice Z Y.length aa] (0,0) _ rfl zb4 Tryd.underlying24 rfl zab) rfl ?_;exact⟨_,by first|rfl|(simp[errW_none,errW_some]<;>rfl)|(simp only[←L];first|rfl|(simp[errW_none,errW_some]<;>rfl))|(simp[*,errW_none,errW_some]<;>rfl),by(with_reducible repeat(first|apply Kd.R_alloc|apply Kd.R_drewN|apply Kd.R_drew));exact Kd.R_mono (Kd.R_far (p:=⟨J,2,none⟩) (Kd.R_far (p:=⟨J,1,none⟩) (Kd.R_far (p:=⟨J,0,none⟩) (Kd.R_types O.out D.out zaa) (fun _ hk=>hk.2) (.int .i64 a0)) (fun _ hk=>hk.2) (.int .i64 a1)) (fun _ hk=>hk.2) (.slice Z Y.length aa)) (fun _ hk=>trivial),hbA HB.out⟩
  ·rw[if_neg c5]at H
   exact absurd H zac
 ·rw[if_neg c4]at H
  exact absurd H zac
def recoupref04_First.l0:Nat→List Int→Int→Int→Int→Int→List Int→Option (List Int×Int)
 |0,_,_,_,_,_,_=>none
 |k+1,x4,x5,x6,I,D,G=>if x6<I then(if 0≤(wrap64 ((wrap64 (x6+1))*D))then(if(wrap64 ((wrap64 (x6+1))*D))≤(G.length:Int)then((recoupref04_Rank.f k (wrap64 (x6+1)) D (G.take ((wrap64 ((wrap64 (x6+1))*D)):Int).toNat)).bind fun J=>(if J.1>x5 then(if x4.length<17592186044416 then(recoupref04_First.l0 k (x4++ [x6]) J.1 (wrap64 (x6+1)) I D G)else(none))else(recoupref04_First.l0 k x4 x5 (wrap64 (x6+1)) I D G)))else(none))else(none))else(some (x4,0))
def recoupref04_First.f(k:Nat)(D:Int)(G:Int)(I:List Int):Option (List Int×Int):=(recoupref03_Right.f D G I).bind fun J=>(if J=true then(recoupref04_First.l0 k ([]:List Int) 0 0 D G I)else(some (([]:List Int),3)))
def recoupref04_First.T8:Bool×List (List Nat×List Nat):=(true,[([],[]),([0],[0]),([],[]),([2],[2]),([],[]),([4],[4]),([],[]),([6],[6]),([],[]),([8],[8]),([7,9],[7,9]),([5,10],[5,10]),([1,3,11],[1,3,11]),([12],[12]),([13],[13]),([14],[14]),([14],[14]),([15,13,0,1,2,3,4,5,6,7,8,9,10,11,12,13,14,15],[15]),([16,17,0,1,2,3,4,5,6,7,8,9,10,11,12,13,14,15,16,17],[16])])
def recoupref04_First.B8:List Nat:= [0,1,0,4,0,16,0,64,0,256,960,2032,4095,8191,16383,32767,32767,65535,262143]
theorem recoupref04_First.tab8:rtab .any (opsOf Tryd.f65 8)=recoupref04_First.T8:=by kernel_rfl
theorem recoupref04_First.bits8:waitsOk recoupref04_First.T8.2 recoupref04_First.B8=true:=by kernel_rfl
set_option maxHeartbeats 8000000 in
set_option maxRecDepth 100000 in
theorem recoupref04_First.calls(k:Nat)(L:Int)(I:Int)(O:Option Addr)(U:Nat)(G:List Int)(r1:List Int)(r2:Int)(w:World)(ap:Kd.C (Kd.int .u8) w O G.length G)(am:G.length≤U)(h:recoupref04_First.f k L I G=some (r1,r2)):
 Calls Tryd.prog 65 #[.agg #[.int .i64 L,.int .i64 I,.slice O G.length U]] w fun e w'=> ∃v0_:Value,e= .returned (.tuple #[v0_,.int .i64 r2])∧Kd.R (Kd.int .i64) 3 w' w.heap.size (fun _=>True) v0_ r1∧Below w.heap.size w w':=by
 have b7:=Tryd.underlying24;have ag:=aK ap;have af:=aK am;clear ap am;have HB:=aK (Below.refl w.heap.size w);have H:((recoupref03_Right.f L I G).bind fun au=>(if au=true then(recoupref04_First.l0 k ([]:List Int) 0 0 L I G)else(some (([]:List Int),3))))=some (r1,r2):=h;clear h;obtain⟨au,A2,H⟩:=bindO H
 (try dsimp only at H)
 by_cases c3:au=true
 ·subst c3;rw[if_pos rfl]at H
  have H':=aK H;clear H
  go_enter Tryd.func65,Tryd.ntmps65
  go_wp2_with (first|((with_reducible refine gD 1 rfl ?_);refine bE 1 #[.int .i64 L,.int .i64 I,.slice O G.length U] 24 ?_;intro Y hg w4 hbox hb;have D:=aK (hbox);have ba:=hbS HB hg;have a9:=hbS HB hg;replace HB:=hbB HB hb;clear hb hbox hg;obtain⟨ax,ay,az,a0,a1,a2⟩:=cell3 D)|((with_reducible refine gC 37 rfl ?_);refine cG (some 10) Tryd.func37 #[.agg #[.int .i64 L,.int .i64 I,.slice O G.length U]] ?_;(with_reducible refine(recoupref03_Right.calls L I _ _ G true _ ?side1 ?side2 A2.out).mono ?_);(case side1=>exact kcB ag HB);(case side2=>exact af.out);rintro e w6 ⟨rfl,hb⟩;refine⟨_,rfl,?_⟩;replace D:=bkB D hb;replace HB:=hbB HB hb;(try clear hb)))
  go_loopg [4,5,6] k (fun kq v4 v5 v6 w'=> ∃(Z:List Int) (aa:Int) (J:Int),v5= .int .i64 aa∧v6= .int .i64 J∧Aside0 (recoupref04_First.l0 kq Z aa J L I G=some (r1,r2))∧Aside0 (kq≤k)∧Aside0 (Kd.R (Kd.int .i64) 3 w' w.heap.size (fun _=>True) v4 Z)∧Aside0 (w'.heap[Y]? =some (.cells #[.int .i64 L,.int .i64 I,(.slice O G.length U)] 24 (0,0)))∧Aside0 (Below w.heap.size w w'))
  case atStart=>exact⟨(([]:List Int)),(0),(0),rsE,rsE,H',⟨Nat.le_refl _⟩,⟨nilE⟩,⟨bkA D.out⟩,⟨hbA HB.out⟩⟩
  case round=>
   clear H'
   (try clear p2);(try clear c3);(try clear c6);(try clear ax ay az a0 a1 a2)
   obtain⟨Z,aa,J,rfl,rfl,HA,av,HO_4,D,HB⟩:=hrel
   cases gk with
   |zero=>exact absurd HA.out (by simp[recoupref04_First.l0])
   |succ k1=>
    have H:=HA.out;clear HA;simp only[recoupref04_First.l0]at H;by_cases c7:J<L
    ·rw[if_pos c7]at H
     have c7b0:decide (J<L)=true:=decide_eq_true c7;clear c7;obtain⟨X,ah⟩: ∃j_:Int,(wrap64 ((wrap64 (J+1))*I))=j_:=⟨_,rfl⟩
     replace H:(if 0≤(X)then(if(X)≤(G.length:Int)then((recoupref04_Rank.f k1 (wrap64 (J+1)) I (G.take ((X):Int).toNat)).bind fun ak=>(if ak.1>aa then(if Z.length<17592186044416 then(recoupref04_First.l0 k1 (Z++ [J]) ak.1 (wrap64 (J+1)) L I G)else(none))else(recoupref04_First.l0 k1 Z aa (wrap64 (J+1)) L I G)))else(none))else(none))=some (r1,r2):=by first|(rw[ah]at H;exact H)|(simp only[ah]at H⊢;exact H)
     have hji8w:(IntKind.i64.wrap ((wrap64 (J+1))*I))=X:=(i64_w _).trans ah;by_cases c9:0≤(X)
     ·rw[if_pos c9]at H
      have c9b0:=eq_true c9;have c9b1:decide (0≤(X))=true:=decide_eq_true c9;clear c9;by_cases al:(X)≤(G.length:Int)
      ·rw[if_pos al]at H
       have c10b0:=eq_true al;have c10b1:decide ((X)≤(G.length:Int))=true:=decide_eq_true al;clear al;obtain⟨⟨ae,a7⟩,be,H⟩:=bindO H
       (try dsimp only at H)
       by_cases aj:ae>aa
       ·rw[if_pos aj]at H
        have c12b0:decide (aa<ae)=true:=decide_eq_true aj;clear aj;by_cases aw:Z.length<17592186044416
        ·rw[if_pos aw]at H
         have bc:=aK aw;clear aw;obtain⟨a8,ac⟩: ∃y_:List Int,y_=(Z++ [J]):=⟨_,rfl⟩
         replace H:(recoupref04_First.l0 k1 a8 ae (wrap64 (J+1)) L I G)=some (r1,r2):=by first|(rw[ac];with_reducible exact H)|(have H2_:=(Option.bind_some _ _).symm.trans H;rw[ac];with_reducible exact H2_)|(have H2_:=(Option.bind_some _ _).symm.trans H;with_reducible exact H2_)|with_reducible exact H|(rw[ac];exact H)|exact H
         have bd:=aK ac;clear ac;have H':=aK H;clear H;obtain⟨bf,bg,bh,br,bs,bt⟩:=cell3 D
         try go_wp2
         replace HO_4:=aK (Kd.R_drew HO_4.out);replace D:=aK (blk_drew D.out);replace HB:=aK (below_drew1 HB.out);obtain⟨b8,an,_,aq,_⟩:=info_parts info5;obtain⟨b4,a3,a5⟩:=print_take_of (P:=Tryd.prog) (Value.int .u8) 0 22 5 .i64 Tryd.underlying22 an aq O U G (X) (of_decide_eq_true asE) (of_decide_eq_true asE) af.out;have ab:=aK (Kd.C_of_reads (h1:=fun _=>rfl) (a3 _ (Kd.reads_of_C ag.out)));have ai:=aK a5;clear a3 a5 an aq;refine start_ (n:=19) (S:=fun w'=>w'.cell? ⟨Y,0,none⟩=some (.int .i64 L)∧w'.cell? ⟨Y,1,none⟩=some (.int .i64 I)∧w'.cell? ⟨Y,2,none⟩=some (.slice O G.length U)) (ds:= []) (.replicate 19 false) zab rfl rfl ⟨(blk_cell D.out 0).trans rfl,(blk_cell D.out 1).trans rfl,(blk_cell D.out 2).trans rfl⟩ (fun hHeld=>?_);refine with_tabW recoupref04_First.tab8 recoupref04_First.bits8 (fun HT_ HW_=>?_);generalize wr.drew=cb at HO_4 D HB ab hHeld⊢;refine pu 0 (some 19) (mB 19 1) HT_ ?_;refine pu 1 (some 20) (mB 19 3) HT_ ?_;refine pu 2 (some 21) (mB 19 7) HT_ ?_;refine pu 4 (some 23) (mB 19 23) HT_ ?_;refine pu 6 (some 25) (mB 19 87) HT_ ?_;refine pu 7 (some 26) (mB 19 215) HT_ ?_;refine pu 8 (some 27) (mB 19 471) HT_ ?_;refine tk3 3 (some 22) (mB 19 479) HT_ HW_ hHeld ?_;refine tk3 5 (some 24) (mB 19 511) HT_ HW_ hHeld ?_;refine tk3 9 (some 28) (mB 19 1023) HT_ HW_ hHeld ?_;refine pu 10 (some 29) (mB 19 2047) HT_ ?_;refine pu 11 (some 30) (mB 19 4095) HT_ ?_;refine pu 12 (some 31) (mB 19 8191) HT_ ?_;refine zoh 13 (some 32) (mB 19 16383) HT_ fun K hK=>?_;refine goes_ Tryd.func81 zab rfl #[.agg #[.int .i64 (wrap64 (J+1)),.int .i64 I,.slice O (G.take ((X):Int).toNat).length U]] zad rfl rfl (by(try simp only[List.map_toArray,List.map_cons,List.map_nil]);first|done|(rw[show(G.take ((X):Int).toNat).length=(X).toNat from zch]<;>rfl)|(simp only[ah];rfl)|rfl|(simp only[List.length_drop,List.length_take];rfl)) ?_;with_reducible refine(recoupref04_Rank.calls k1 (wrap64 (J+1)) I _ _ (G.take ((X):Int).toNat) ae a7 _ ?side1 ?side2 be.out).mono ?_
         (case side1=>exact kcB ab HB)
         (case side2=>exact ai.out)
         rintro e cd ⟨rfl,hb⟩;refine⟨_,rfl,?_⟩;replace HO_4:=kdB HO_4 hb;replace D:=bkB D hb;replace HB:=hbB HB hb
         (try clear hb)
         (try clear b6)
         (try clear hk)
         (try clear hi)
         refine hK.out _ _ ⟨(blk_cell D.out 0).trans rfl,(blk_cell D.out 1).trans rfl,(blk_cell D.out 2).trans rfl⟩ (fun hHeld=>?_);clear hK K;refine znm (some 32) ?_;refine pu 14 (some 18) (mB 19 32767) HT_ ?_;refine pu 15 (some 33) (mB 19 65535) HT_ ?_;refine pu 16 (some 34) (mB 19 131071) HT_ ?_;refine pu 17 (some 7) (mB 19 262143) HT_ ?_;refine pu 18 (some 8) (mB 19 524287) HT_ ?_;refine done_ (done_of HT_.out zab) ?_
         try go_wp2_with (first|((with_reducible refine gate_builtin (b:= .append) (xs:= #[.tmp 38,.tmp 40]) rfl ?_);at_builtin;refine Kd.R_append (Kd.int .i64) (w0:=w) w.heap.size rfl (.tmp 38) (.tmp 40) 42 3 (.int .i64 0) 8 rfl Tryd.underlying42 info3 rfl zaa zz u4 Z J [.int .i64 J] (fun _=>True) (fun _=>False) rfl rfl ?aP (fun _ hk=>hk.elim) ?aF ?aO ?aB ?aS ?aL ?_;(case aP=>exact rfl);(case aB=>exact(hbA HB.out));(case aF=>exact(fun _ _=>trivial));(case aO=>exact(kdA HO_4.out));(case aS=>exact(below_size (hbA HB.out)));(case aL=>have:=bc.out;omega);intro ca ce ho hb hg hat;rw[←bd.out]at ho;have n0_:=aK (blk_grown (g:=Y) (o:= .cells #[.int .i64 L,.int .i64 I,.slice O G.length U] 24 (0,0)) (bkA D.out) hg (Kd.R_ne HO_4.out D.out zaa));have n1_:=aK (hb);have n2_:=aK (ho);clear D;clear HB;clear HO_4;have D:=n0_;have HB:=n1_;have bb:=n2_;clear n0_ n1_ n2_;clear ho hb hg hat))
         go_roundg k1
         case measure=>have:=av.out;omega
         case rel=>exact⟨(a8),(ae),(wrap64 (J+1)),rsE,rsE,H',⟨by have:=av.out;omega⟩,⟨kdA bb.out⟩,⟨bkA D.out⟩,⟨hbA HB.out⟩⟩
        ·rw[if_neg aw]at H
         exact absurd H zac
       ·rw[if_neg aj]at H
        have c12b0:decide (aa<ae)=false:=decide_eq_false aj;clear aj;have H':=aK H;clear H;obtain⟨bi,bj,bk,bu,bv,bw⟩:=cell3 D
        try go_wp2
        replace HO_4:=aK (Kd.R_drew HO_4.out);replace D:=aK (blk_drew D.out);replace HB:=aK (below_drew1 HB.out);obtain⟨b9,ao,_,ar,_⟩:=info_parts info5;obtain⟨b5,a4,a6⟩:=print_take_of (P:=Tryd.prog) (Value.int .u8) 0 22 5 .i64 Tryd.underlying22 ao ar O U G (X) (of_decide_eq_true asE) (of_decide_eq_true asE) af.out;have ab:=aK (Kd.C_of_reads (h1:=fun _=>rfl) (a4 _ (Kd.reads_of_C ag.out)));have ai:=aK a6;clear a4 a6 ao ar;refine start_ (n:=19) (S:=fun w'=>w'.cell? ⟨Y,0,none⟩=some (.int .i64 L)∧w'.cell? ⟨Y,1,none⟩=some (.int .i64 I)∧w'.cell? ⟨Y,2,none⟩=some (.slice O G.length U)) (ds:= []) (.replicate 19 false) zab rfl rfl ⟨(blk_cell D.out 0).trans rfl,(blk_cell D.out 1).trans rfl,(blk_cell D.out 2).trans rfl⟩ (fun hHeld=>?_);refine with_tabW recoupref04_First.tab8 recoupref04_First.bits8 (fun HT_ HW_=>?_);generalize wr.drew=cf at HO_4 D HB ab hHeld⊢;refine pu 0 (some 19) (mB 19 1) HT_ ?_;refine pu 1 (some 20) (mB 19 3) HT_ ?_;refine pu 2 (some 21) (mB 19 7) HT_ ?_;refine pu 4 (some 23) (mB 19 23) HT_ ?_;refine pu 6 (some 25) (mB 19 87) HT_ ?_;refine pu 7 (some 26) (mB 19 215) HT_ ?_;refine pu 8 (some 27) (mB 19 471) HT_ ?_;refine tk3 3 (some 22) (mB 19 479) HT_ HW_ hHeld ?_;refine tk3 5 (some 24) (mB 19 511) HT_ HW_ hHeld ?_;refine tk3 9 (some 28) (mB 19 1023) HT_ HW_ hHeld ?_;refine pu 10 (some 29) (mB 19 2047) HT_ ?_;refine pu 11 (some 30) (mB 19 4095) HT_ ?_;refine pu 12 (some 31) (mB 19 8191) HT_ ?_;refine zoh 13 (some 32) (mB 19 16383) HT_ fun K hK=>?_;refine goes_ Tryd.func81 zab rfl #[.agg #[.int .i64 (wrap64 (J+1)),.int .i64 I,.slice O (G.take ((X):Int).toNat).length U]] zad rfl rfl (by(try simp only[List.map_toArray,List.map_cons,List.map_nil]);first|done|(rw[show(G.take ((X):Int).toNat).length=(X).toNat from zch]<;>rfl)|(simp only[ah];rfl)|rfl|(simp only[List.length_drop,List.length_take];rfl)) ?_;with_reducible refine(recoupref04_Rank.calls k1 (wrap64 (J+1)) I _ _ (G.take ((X):Int).toNat) ae a7 _ ?side1 ?side2 be.out).mono ?_
        (case side1=>exact kcB ab HB)
        (case side2=>exact ai.out)
        rintro e cg ⟨rfl,hb⟩;refine⟨_,rfl,?_⟩;replace HO_4:=kdB HO_4 hb;replace D:=bkB D hb;replace HB:=hbB HB hb
        (try clear hb)
        (try clear b6)
        (try clear hk)
        (try clear hi)
        refine hK.out _ _ ⟨(blk_cell D.out 0).trans rfl,(blk_cell D.out 1).trans rfl,(blk_cell D.out 2).trans rfl⟩ (fun hHeld=>?_);clear hK K;refine znm (some 32) ?_;refine pu 14 (some 18) (mB 19 32767) HT_ ?_;refine pu 15 (some 33) (mB 19 65535) HT_ ?_;refine pu 16 (some 34) (mB 19 131071) HT_ ?_;refine pu 17 (some 7) (mB 19 262143) HT_ ?_;refine pu 18 (some 8) (mB 19 524287) HT_ ?_;refine done_ (done_of HT_.out zab) ?_
        try go_wp2
        go_roundg k1
        case measure=>have:=av.out;omega
        case rel=>exact⟨(Z),(aa),(wrap64 (J+1)),rsE,rsE,H',⟨by have:=av.out;omega⟩,⟨kdA HO_4.out⟩,⟨bkA D.out⟩,⟨hbA HB.out⟩⟩
      ·rw[if_neg al]at H
       exact absurd H zac
     ·rw[if_neg c9]at H
      exact absurd H zac
    ·rw[if_neg c7]at H
     have c7b0:decide (J<L)=false:=decide_eq_false c7;clear c7;simp only[Option.some.injEq,Prod.mk.injEq]at H;obtain⟨rfl,rfl⟩:=H;obtain⟨bl,bm,bn,bx,bz,b0⟩:=cell3 D;go_wp2
     go_ret2
     exact⟨_,rfE,by(with_reducible repeat(first|apply Kd.R_alloc|apply Kd.R_drewN|apply Kd.R_drew));exact HO_4.out,hbA HB.out⟩
 ·replace c3:=Bool.eq_false_iff.mpr c3;subst c3;rw[if_neg nofT]at H
  simp only[Option.some.injEq,Prod.mk.injEq]at H;obtain⟨rfl,rfl⟩:=H
  go_enter Tryd.func65,Tryd.ntmps65
  go_wp2_with (first|((with_reducible refine gD 1 rfl ?_);refine bE 1 #[.int .i64 L,.int .i64 I,.slice O G.length U] 24 ?_;intro Y hg ch hbox hb;have D:=aK (hbox);have ba:=hbS HB hg;have a9:=hbS HB hg;replace HB:=hbB HB hb;clear hb hbox hg;obtain⟨bo,bp,bq,b1,b2,b3⟩:=cell3 D)|((with_reducible refine gC 37 rfl ?_);refine cG (some 10) Tryd.func37 #[.agg #[.int .i64 L,.int .i64 I,.slice O G.length U]] ?_;(with_reducible refine(recoupref03_Right.calls L I _ _ G false _ ?side1 ?side2 A2.out).mono ?_);(case side1=>exact kcB ag HB);(case side2=>exact af.out);rintro e ci ⟨rfl,hb⟩;refine⟨_,rfl,?_⟩;replace D:=bkB D hb;replace HB:=hbB HB hb;(try clear hb)))
  go_ret2
  exact⟨_,rfE,nilE,hbA HB.out⟩
mutual
def recoupref03_Transpose.l0:Nat→Int→Int→Int→List Int→Int→Int→List Int→Option (Int×Int×List Int×Int)
 |0,_,_,_,_,_,_,_=>none
 |k+1,x5,L,D,O,G,I,J=>if x5<D then(recoupref03_Transpose.l1 k x5 0 L D O G I J)else(some (G,I,J,0))
def recoupref03_Transpose.l1:Nat→Int→Int→Int→Int→List Int→Int→Int→List Int→Option (Int×Int×List Int×Int)
 |0,_,_,_,_,_,_,_,_=>none
 |k+1,x5,x6,D,G,I,L,O,J=>if x6<D then((recoupref03_At.f D G I x6 x5).bind fun U=>(if J.length<140737488355328 then(recoupref03_Transpose.l1 k x5 (wrap64 (x6+1)) D G I L O (J++ [U]))else(none)))else(recoupref03_Transpose.l0 k (wrap64 (x5+1)) D G I L O J)
end
def recoupref03_Transpose.f(k:Nat)(D:Int)(G:Int)(I:List Int):Option (Int×Int×List Int×Int):=(recoupref03_Right.f D G I).bind fun J=>(if J=true then(recoupref03_Transpose.l0 k 0 D G I G D ([]:List Int))else(some (0,0,([]:List Int),3)))
def recoupref03_Transpose.T10:Bool×List (List Nat×List Nat):=(true,[([],[]),([0],[0]),([],[]),([],[]),([],[]),([2,3,4],[2,3,4]),([5],[5]),([1,6,5],[1,6]),([0,1,2,3,4,5,6,7],[]),([8,7,7,0,1,2,3,4,5,6,7],[7,8])])
def recoupref03_Transpose.B10:List Nat:= [0,1,0,0,0,28,60,127,255,511]
theorem recoupref03_Transpose.tab10:rtab .any (opsOf Tryd.f66 10)=recoupref03_Transpose.T10:=by kernel_rfl
theorem recoupref03_Transpose.bits10:waitsOk recoupref03_Transpose.T10.2 recoupref03_Transpose.B10=true:=by kernel_rfl
set_option maxHeartbeats 8000000 in
set_option maxRecDepth 100000 in
theorem recoupref03_Transpose.calls(k:Nat)(L:Int)(J:Int)(ag:Option Addr)(ah:Nat)(X:List Int)(r1:Int)(r2:Int)(r3:List Int)(r4:Int)(w:World)(bm:Kd.C (Kd.int .u8) w ag X.length X)(bf:X.length≤ah)(h:recoupref03_Transpose.f k L J X=some (r1,r2,r3,r4)):
 Calls Tryd.prog 66 #[.agg #[.int .i64 L,.int .i64 J,.slice ag X.length ah]] w fun e w'=> ∃v2_:Value,e= .returned (.tuple #[.agg #[.int .i64 r1,.int .i64 r2,v2_],.int .i64 r4])∧Kd.R (Kd.int .u8) 5 w' w.heap.size (fun _=>True) v2_ r3∧Below w.heap.size w w':=by
 have ek:=Tryd.underlying24;have ax:=aK bm;have aw:=aK bf;clear bm bf;have HB:=aK (Below.refl w.heap.size w);have H:((recoupref03_Right.f L J X).bind fun bn=>(if bn=true then(recoupref03_Transpose.l0 k 0 L J X J L ([]:List Int))else(some (0,0,([]:List Int),3))))=some (r1,r2,r3,r4):=h;clear h;obtain⟨bn,A2,H⟩:=bindO H
 (try dsimp only at H)
 by_cases c3:bn=true
 ·subst c3;rw[if_pos rfl]at H
  have H':=aK H;clear H
  go_enter Tryd.func66,Tryd.ntmps66
  go_wp2_with (first|((with_reducible refine gD 1 rfl ?_);refine bE 1 #[.int .i64 L,.int .i64 J,.slice ag X.length ah] 24 ?_;intro am hg w4 hbox hb;have D:=aK (hbox);have bz:=hbS HB hg;have bw:=hbS HB hg;replace HB:=hbB HB hb;clear hb hbox hg)|((with_reducible refine gD 2 rfl ?_);refine bE 2 #[.int .i64 0,.int .i64 0,.slice none 0 0] 24 ?_;intro af hg w5 hbox hb;have I:=aK (hbox);have b0:=hbS HB hg;have bx:=hbS HB hg;replace HB:=hbB HB hb;have Y:=neL D hg;have Z:=neG D hg;replace D:=bkB D hb;clear hb hbox hg;have eh:=Y.out;have ei:=Z.out;obtain⟨az,a0,a1,a5,a6,a7⟩:=cell3 D)|((with_reducible refine gC 37 rfl ?_);refine cG (some 8) Tryd.func37 #[.agg #[.int .i64 L,.int .i64 J,.slice ag X.length ah]] ?_;(with_reducible refine(recoupref03_Right.calls L J _ _ X true _ ?side1 ?side2 A2.out).mono ?_);(case side1=>exact kcB ax HB);(case side2=>exact aw.out);rintro e w8 ⟨rfl,hb⟩;refine⟨_,rfl,?_⟩;replace D:=bkB D hb;replace I:=bkB I hb;replace HB:=hbB HB hb;(try clear hb);obtain⟨a2,a3,a4,a8,a9,ba⟩:=cell3 D)|((with_reducible refine gD 4 rfl ?_);refine bE 4 #[.int .i64 0,.int .i64 0,.slice none 0 0] 24 ?_;intro ai hg ep hbox hb;have G:=aK (hbox);have dm:=hbS HB hg;have dl:=hbS HB hg;replace HB:=hbB HB hb;have U:=neL D hg;have ac:=neG D hg;replace D:=bkB D hb;have aa:=neL I hg;have al:=neG I hg;replace I:=bkB I hb;clear hb hbox hg;have dr:=ac.out;have d4:=U.out;have dt:=al.out;have d5:=aa.out;obtain⟨ao,ap,aq,ar,au,av⟩:=cell3 G))
  go_loopg [5] k (fun kq v5 w'=> ∃(aj:Int) (ae:List Int) (O:Value),v5= .int .i64 aj∧Aside0 (recoupref03_Transpose.l0 kq aj L J X J L ae=some (r1,r2,r3,r4))∧Aside0 (kq≤k)∧Aside0 (Kd.R (Kd.int .u8) 5 w' w.heap.size (fun _=>True) O ae)∧Aside0 (w'.heap[am]? =some (.cells #[.int .i64 L,.int .i64 J,(.slice ag X.length ah)] 24 (0,0)))∧Aside0 (w'.heap[af]? =some (.cells #[.int .i64 0,.int .i64 0,(.slice none 0 0)] 24 (0,0)))∧Aside0 (w'.heap[ai]? =some (.cells #[.int .i64 J,.int .i64 L,O] 24 (0,0)))∧Aside0 (Below w.heap.size w w'))
  case atStart=>exact⟨(0),(([]:List Int)),(.slice none 0 0),rsE,H',⟨Nat.le_refl _⟩,⟨nilE⟩,⟨by refine bkR ?_;refine blk_far ?_ U.out _;refine bkR ?_;refine blk_far ?_ U.out _;refine bkR ?_;refine blk_far ?_ U.out _;refine bkR ?_;exact D.out⟩,⟨by refine bkR ?_;refine blk_far ?_ aa.out _;refine bkR ?_;refine blk_far ?_ aa.out _;refine bkR ?_;refine blk_far ?_ aa.out _;refine bkR ?_;exact I.out⟩,⟨by refine bkR ?_;refine blk_put (cs:= #[.int .i64 J,.int .i64 L,.slice none 0 0]) ?_ 2 _ rfl;refine bkR ?_;refine blk_put (cs:= #[.int .i64 J,.int .i64 0,.slice none 0 0]) ?_ 1 _ rfl;refine bkR ?_;refine blk_put (cs:= #[.int .i64 0,.int .i64 0,.slice none 0 0]) ?_ 0 _ rfl;refine bkR ?_;exact G.out⟩,⟨hbA HB.out⟩⟩
  case round=>
   clear H'
   (try clear c1);(try clear p2);(try clear c3);(try clear c6);(try clear dn);(try clear dp);(try clear ao ap aq ar au av);(try clear az a0 a1 a5 a6 a7);(try clear a2 a3 a4 a8 a9 ba)
   obtain⟨aj,ae,O,rfl,HA,bo,HO_407002,D,I,G,HB⟩:=hrel
   cases gk with
   |zero=>exact absurd HA.out (by simp[recoupref03_Transpose.l0])
   |succ k1=>
    have H:=HA.out;clear HA;simp only[recoupref03_Transpose.l0]at H;by_cases ay:aj<J
    ·rw[if_pos ay]at H
     have c14b0:decide (aj<J)=true:=decide_eq_true ay;clear ay;have H':=aK H;clear H;have du:=Y.out;have d6:=Z.out;have dv:=U.out;have d7:=ac.out;obtain⟨bg,bh,bi,bj,bk,bl⟩:=cell3 D;go_wp2
     go_loopg [6] k1 (fun kq v6 w'=> ∃(ak:Int) (ab:List Int) (O:Value),v6= .int .i64 ak∧Aside0 (recoupref03_Transpose.l1 kq aj ak L J X J L ab=some (r1,r2,r3,r4))∧Aside0 (kq≤k1)∧Aside0 (Kd.R (Kd.int .u8) 5 w' w.heap.size (fun _=>True) O ab)∧Aside0 (w'.heap[am]? =some (.cells #[.int .i64 L,.int .i64 J,(.slice ag X.length ah)] 24 (0,0)))∧Aside0 (w'.heap[af]? =some (.cells #[.int .i64 0,.int .i64 0,(.slice none 0 0)] 24 (0,0)))∧Aside0 (w'.heap[ai]? =some (.cells #[.int .i64 J,.int .i64 L,O] 24 (0,0)))∧Aside0 (Below w.heap.size w w'))
     case atStart=>exact⟨(0),(ae),(O),rsE,H',⟨Nat.le_refl _⟩,⟨kdA HO_407002.out⟩,⟨bkA D.out⟩,⟨bkA I.out⟩,⟨bkA G.out⟩,⟨hbA HB.out⟩⟩
     case round=>
      clear H'
      (try clear c1);(try clear p2 p2);(try clear c3);(try clear c6);(try clear dn);(try clear dp);(try clear ay);(try clear c14b0);(try clear em);(try clear en);(try clear ao ap aq ar au av);(try clear bg bh bi bj bk bl);(try clear az a0 a1 a5 a6 a7);(try clear a2 a3 a4 a8 a9 ba)
      obtain⟨ak,ab,O,rfl,HA,bp,HO_407002,D,I,G,HB⟩:=hrel
      cases gk with
      |zero=>exact absurd HA.out (by simp[recoupref03_Transpose.l1])
      |succ k2=>
       have H:=HA.out;clear HA;simp only[recoupref03_Transpose.l1]at H;by_cases bd:ak<L
       ·rw[if_pos bd]at H
        have c18b0:decide (ak<L)=true:=decide_eq_true bd;clear bd;obtain⟨bb,dk,H⟩:=bindO H
        (try dsimp only at H)
        by_cases bq:ab.length<140737488355328
        ·rw[if_pos bq]at H
         have b1:=aK bq;clear bq;obtain⟨bc,an⟩: ∃y_:List Int,y_=(ab++ [bb]):=⟨_,rfl⟩
         replace H:(recoupref03_Transpose.l1 k2 aj (wrap64 (ak+1)) L J X J L bc)=some (r1,r2,r3,r4):=by first|(rw[an];with_reducible exact H)|(have H2_:=(Option.bind_some _ _).symm.trans H;rw[an];with_reducible exact H2_)|(have H2_:=(Option.bind_some _ _).symm.trans H;with_reducible exact H2_)|with_reducible exact H|(rw[an];exact H)|exact H
         have b2:=aK an;clear an;have H':=aK H;clear H;have dw:=Y.out;have d8:=Z.out;have dx:=U.out;have d9:=ac.out;obtain⟨b4,b5,b6,cq,cr,ct⟩:=cell3 D
         try go_wp2
         replace HO_407002:=aK (Kd.R_drew HO_407002.out);replace D:=aK (blk_drew D.out);replace I:=aK (blk_drew I.out);replace G:=aK (blk_drew G.out);replace HB:=aK (below_drew1 HB.out);refine start_ (n:=10) (S:=fun w'=>w'.cell? ⟨ai,0,none⟩=some (.int .i64 J)∧w'.cell? ⟨ai,1,none⟩=some (.int .i64 L)∧w'.cell? ⟨ai,2,none⟩=some (O)∧w'.cell? ⟨am,0,none⟩=some (.int .i64 L)∧w'.cell? ⟨am,1,none⟩=some (.int .i64 J)∧w'.cell? ⟨am,2,none⟩=some (.slice ag X.length ah)) (ds:= [9]) (.replicate 10 false) zab rfl rfl ⟨(blk_cell G.out 0).trans rfl,(blk_cell G.out 1).trans rfl,(blk_cell G.out 2).trans rfl,(blk_cell D.out 0).trans rfl,(blk_cell D.out 1).trans rfl,(blk_cell D.out 2).trans rfl⟩ (fun hHeld=>?_);refine with_tabW recoupref03_Transpose.tab10 recoupref03_Transpose.bits10 (fun HT_ HW_=>?_);generalize wr.drew=er at HO_407002 D I G HB hHeld⊢;refine pu 0 (some 28) (mB 10 1) HT_ ?_;refine pu 3 (some 31) (mB 10 9) HT_ ?_;refine pu 4 (some 32) (mB 10 25) HT_ ?_;refine tk6 1 (some 29) (mB 10 27) HT_ HW_ hHeld ?_;refine tk6 2 (some 30) (mB 10 31) HT_ HW_ hHeld ?_;refine zoh 5 (some 33) (mB 10 63) HT_ fun K hK=>?_;refine goes_ Tryd.func40 zab rfl #[.agg #[.int .i64 L,.int .i64 J,.slice ag X.length ah],.int .i64 ak,.int .i64 aj] zad rfl rfl (by(try simp only[List.map_toArray,List.map_cons,List.map_nil]);first|done|rfl|(simp only[List.length_drop,List.length_take];rfl)) ?_;with_reducible refine(recoupref03_At.calls L J _ _ X ak aj bb _ ?side1 ?side2 dk.out).mono ?_
         (case side1=>exact kcB ax HB)
         (case side2=>exact aw.out)
         rintro e es ⟨rfl,hb⟩;refine⟨_,rfl,?_⟩;replace HO_407002:=kdB HO_407002 hb;replace D:=bkB D hb;replace I:=bkB I hb;replace G:=bkB G hb;replace HB:=hbB HB hb
         (try clear hb)
         (try clear eo)
         (try clear hk)
         (try clear hi)
         refine hK.out _ _ ⟨(blk_cell G.out 0).trans rfl,(blk_cell G.out 1).trans rfl,(blk_cell G.out 2).trans rfl,(blk_cell D.out 0).trans rfl,(blk_cell D.out 1).trans rfl,(blk_cell D.out 2).trans rfl⟩ (fun hHeld=>?_);clear hK K;refine znm (some 33) ?_;refine zoh 6 (some 34) (mB 10 127) HT_ fun K hK=>?_;refine value_ (w1:=?_) (v:=?_) zad rfl ?_ ?_;rotate_left 2
         ·go_simp;constructor
          ·rfl
          ·rfl
         refine hK.out _ _ ⟨(blk_cell (blk_alloc G.out _) 0).trans rfl,(blk_cell (blk_alloc G.out _) 1).trans rfl,(blk_cell (blk_alloc G.out _) 2).trans rfl,(blk_cell (blk_alloc D.out _) 0).trans rfl,(blk_cell (blk_alloc D.out _) 1).trans rfl,(blk_cell (blk_alloc D.out _) 2).trans rfl⟩ (fun hHeld=>?_);clear hK K;refine znm (some 34) ?_;refine zoh 7 (some 35) (mB 10 255) HT_ fun K hK=>?_;refine Kd.R_append_step (Kd.int .u8) (w0:=w) w.heap.size zad (.tmp 29) (.tmp 34) 22 5 (.int .u8 0) 1 rfl Tryd.underlying22 info5 rfl zaa zz O ab bb [.int .u8 bb] (fun _=>True) (fun _=>False) rfl rfl ?aP (fun _ hk=>hk.elim) ?aF ?aO ?aB ?aS ?aL ?_
         (case aP=>exact rfl)
         (case aB=>exact(hbA HB.out))
         (case aF=>exact(fun _ _=>trivial))
         (case aO=>exact(kdA HO_407002.out))
         (case aS=>exact(below_size (hbA HB.out)))
         (case aL=>have:=b1.out;omega)
         intro el eg ho hb hg hat;rw[←b2.out]at ho
         have n0_:=aK (blk_grown (g:=am) (o:= .cells #[.int .i64 L,.int .i64 J,.slice ag X.length ah] 24 (0,0)) (bkA D.out) hg (Kd.R_ne HO_407002.out D.out zaa));have n1_:=aK (blk_grown (g:=af) (o:= .cells #[.int .i64 0,.int .i64 0,.slice none 0 0] 24 (0,0)) (bkA I.out) hg (Kd.R_ne HO_407002.out I.out zaa));have n2_:=aK (blk_grown (g:=ai) (o:= .cells #[.int .i64 J,.int .i64 L,O] 24 (0,0)) (bkA G.out) hg (Kd.R_ne HO_407002.out G.out zaa));have n3_:=aK (hb);have n4_:=aK (ho);clear D;clear I;clear G;clear HB;clear HO_407002;have D:=n0_;have I:=n1_;have G:=n2_;have HB:=n3_;have be:=n4_;clear n0_ n1_ n2_ n3_ n4_;clear ho hb hg hat;obtain⟨br,bt,bv⟩:=Kd.R_slice be.out
         (first|subst bv|(injection bv with f1_ f2_ f3_;have f4_:=f1_.symm;have f5_:=f3_.symm;clear f1_ f2_ f3_;subst f4_;subst f5_))
         refine hK.out _ _ ⟨(blk_cell G.out 0).trans rfl,(blk_cell G.out 1).trans rfl,(blk_cell G.out 2).trans rfl,(blk_cell D.out 0).trans rfl,(blk_cell D.out 1).trans rfl,(blk_cell D.out 2).trans rfl⟩ (fun hHeld=>?_);clear hK K;refine znm (some 35) ?_;refine pu 8 (some 36) (mB 10 511) HT_ ?_;refine zlh 9 (none) (mB 10 1023) HT_ fun K hK=>?_;have ej:eg.cell? ⟨ai,2,none⟩=some (O):=(blk_cell G.out 2).trans rfl;have dq:=blk_frozen G.out 2;have di:=U.out;have dj:=aa.out;have dg:=ac.out;have dh:=al.out;refine zsk ?_;refine hK.out _ _ ?_;clear hK K;refine done_ (done_of HT_.out zab) ?_
         try go_wp2
         go_roundg k2
         case measure=>have:=bo.out;have:=bp.out;omega
         case rel=>exact⟨(wrap64 (ak+1)),(bc),(.slice br bc.length bt),rsE,H',⟨by have:=bo.out;have:=bp.out;omega⟩,⟨by(with_reducible repeat(first|apply Kd.R_alloc|apply Kd.R_drewN|apply Kd.R_drew));exact Kd.R_mono (Kd.R_far (p:=⟨ai,2,none⟩) (Kd.R_types be.out G.out zaa) (fun _ hk=>hk.2) (.slice br bc.length bt)) (fun _ hk=>trivial)⟩,⟨by refine bkR ?_;refine blk_far ?_ U.out _;refine bkR ?_;exact D.out⟩,⟨by refine bkR ?_;refine blk_far ?_ aa.out _;refine bkR ?_;exact I.out⟩,⟨by refine bkR ?_;refine blk_put (cs:= #[.int .i64 J,.int .i64 L,O]) ?_ 2 _ rfl;refine bkR ?_;exact G.out⟩,⟨hbA HB.out⟩⟩
        ·rw[if_neg bq]at H
         exact absurd H zac
       ·rw[if_neg bd]at H
        have c18b0:decide (ak<L)=false:=decide_eq_false bd;clear bd;have H':=aK H;clear H;have dy:=Y.out;have ea:=Z.out;have dz:=U.out;have eb:=ac.out;obtain⟨b7,b8,b9,cu,cv,cw⟩:=cell3 D;go_wp2
        go_roundg k2
        case measure=>have:=bo.out;have:=bp.out;omega
        case rel=>exact⟨(wrap64 (aj+1)),(ab),(O),rsE,H',⟨by have:=bo.out;have:=bp.out;omega⟩,⟨kdA HO_407002.out⟩,⟨bkA D.out⟩,⟨bkA I.out⟩,⟨bkA G.out⟩,⟨hbA HB.out⟩⟩
    ·rw[if_neg ay]at H
     have c14b0:decide (aj<J)=false:=decide_eq_false ay;clear ay;simp only[Option.some.injEq,Prod.mk.injEq]at H;obtain⟨rfl,rfl,rfl,rfl⟩:=H;have d0:=Y.out;have ec:=Z.out;have d1:=U.out;have ed:=ac.out;obtain⟨ca,cb,cd,cx,cy,cz⟩:=cell3 D;have d2:=al.out;have ee:=aa.out;obtain⟨ce,cf,cg,c2,c4,c5⟩:=cell3 G;obtain⟨ch,ci,cj,c7,c8,c9⟩:=cell3 I;obtain⟨bs,bu,b3⟩:=Kd.R_slice HO_407002.out;subst b3;go_wp2;refine bodyPost_ret (results_ct rfl _ _ af 24 #[.int .i64 J,.int .i64 L,.slice bs ae.length bu] (0,0) _ rfl (by refine bkR ?_;refine blk_put (cs:= #[.int .i64 J,.int .i64 L,.slice none 0 0]) ?_ 2 _ rfl;refine bkR ?_;refine blk_put (cs:= #[.int .i64 J,.int .i64 0,.slice none 0 0]) ?_ 1 _ rfl;refine bkR ?_;refine blk_put (cs:= #[.int .i64 0,.int .i64 0,.slice none 0 0]) ?_ 0 _ rfl;refine bkR ?_;exact I.out) Tryd.underlying24 rfl zab) rfl ?_;exact⟨_,rfE,by(with_reducible repeat(first|apply Kd.R_alloc|apply Kd.R_drewN|apply Kd.R_drew));exact Kd.R_mono (Kd.R_far (p:=⟨af,2,none⟩) (Kd.R_far (p:=⟨af,1,none⟩) (Kd.R_far (p:=⟨af,0,none⟩) (Kd.R_types HO_407002.out I.out zaa) (fun _ hk=>hk.2) (.int .i64 J)) (fun _ hk=>hk.2) (.int .i64 L)) (fun _ hk=>hk.2) (.slice bs ae.length bu)) (fun _ hk=>trivial),hbA HB.out⟩
 ·replace c3:=Bool.eq_false_iff.mpr c3;subst c3;rw[if_neg nofT]at H
  simp only[Option.some.injEq,Prod.mk.injEq]at H;obtain⟨rfl,rfl,rfl,rfl⟩:=H
  go_enter Tryd.func66,Tryd.ntmps66
  go_wp2_with (first|((with_reducible refine gD 1 rfl ?_);refine bE 1 #[.int .i64 L,.int .i64 J,.slice ag X.length ah] 24 ?_;intro am hg et hbox hb;have D:=aK (hbox);have bz:=hbS HB hg;have bw:=hbS HB hg;replace HB:=hbB HB hb;clear hb hbox hg)|((with_reducible refine gD 2 rfl ?_);refine bE 2 #[.int .i64 0,.int .i64 0,.slice none 0 0] 24 ?_;intro af hg eu hbox hb;have I:=aK (hbox);have b0:=hbS HB hg;have bx:=hbS HB hg;replace HB:=hbB HB hb;have Y:=neL D hg;have Z:=neG D hg;replace D:=bkB D hb;clear hb hbox hg;have d3:=Y.out;have ef:=Z.out;obtain⟨ck,cl,cm,da,db,dc⟩:=cell3 D)|((with_reducible refine gC 37 rfl ?_);refine cG (some 8) Tryd.func37 #[.agg #[.int .i64 L,.int .i64 J,.slice ag X.length ah]] ?_;(with_reducible refine(recoupref03_Right.calls L J _ _ X false _ ?side1 ?side2 A2.out).mono ?_);(case side1=>exact kcB ax HB);(case side2=>exact aw.out);rintro e ev ⟨rfl,hb⟩;refine⟨_,rfl,?_⟩;replace D:=bkB D hb;replace I:=bkB I hb;replace HB:=hbB HB hb;(try clear hb);obtain⟨cn,co,cp,dd,de,df⟩:=cell3 I))
  refine bodyPost_ret (results_ct rfl _ _ af 24 #[.int .i64 0,.int .i64 0,.slice none 0 0] (0,0) _ rfl zb7 Tryd.underlying24 rfl zab) rfl ?_;exact⟨_,rfE,nilE,hbA HB.out⟩
end Go.Proofs.YtkagobkedifhkaaDoor.Q
namespace Go.Proofs.YtkagobkedifhkaaDoor.Q
open Go.RowKit Go.Proofs.YtkagobkedifhkaaDoorW.PrintWords Go.Proofs.YtkagobkedifhkaaDoorW.PrintLast Go.Proofs.YtkagobkedifhkaaDoorW.PrintMore
attribute [local go_sem] max2_int min2_int max_two min_two max_three min_three max_four min_four
set_option linter.unusedVariables false
set_option linter.unusedSimpArgs false
theorem kd_block{w:World}{e base:Nat}{ok:Nat→Prop}{g n cap:Nat}{xs:List Int}{k:IntKind}(h:Kd.R (Kd.int k) e w base ok (.slice (some ⟨g,0,none⟩) n cap) xs): ∃cells,w.heap[g]? =some (.cells cells e (0,0)):=by
 obtain⟨inner,ho⟩:=Kd.R_own h;rcases ho.2 with⟨h',_⟩|⟨g',cap',cur,h',_,hh,_⟩
 ·cases h'
 ·have:g=g':=by injection h' with h';injection h' with h';injection h' with h'
  subst this;exact⟨_,hh⟩
mutual
def recoupref04_wide.l0:Nat→List Int→Int→Int→Int→List Int→Option (Int×Int×List Int×List Int)
 |0,_,_,_,_,_=>none
 |k+1,x4,x5,G,D,I=>if x5<D then(recoupref04_wide.l1 k x4 x5 (x4.length:Int) (x4.length:Int) G D I)else(some (G,D,I,x4))
def recoupref04_wide.l1:Nat→List Int→Int→Int→Int→Int→Int→List Int→Option (Int×Int×List Int×List Int)
 |0,_,_,_,_,_,_,_=>none
 |k+1,x4,x5,x6,x7,D,G,I=>if x7<D then((recoupref03_At.f D G I x7 x5).bind fun J=>(if J=0 then(recoupref04_wide.l1 k x4 x5 x6 (wrap64 (x7+1)) D G I)else((recoupref01_Inv.f k J).bind fun L=>(recoupref04_wide.l2 k x4 x5 x6 x7 L.1 0 D G I))))else(recoupref04_wide.l0 k x4 (wrap64 (x5+1)) D G I)
def recoupref04_wide.l2:Nat→List Int→Int→Int→Int→Int→Int→Int→Int→List Int→Option (Int×Int×List Int×List Int)
 |0,_,_,_,_,_,_,_,_,_=>none
 |k+1,x4,x5,x6,x7,x9,J,I,D,G=>if J<D then((recoupref03_At.f I D G x6 J).bind fun L=>((recoupref03_At.f I D G x7 J).bind fun O=>(if 0≤(wrap64 ((wrap64 (x7*D))+J))then(if(wrap64 ((wrap64 (x7*D))+J))<(G.length:Int)then((recoupref01_Mul.f k x9 O).bind fun U=>(if 0≤(wrap64 ((wrap64 (x6*D))+J))then(if(wrap64 ((wrap64 (x6*D))+J))<(G.length:Int)then(recoupref04_wide.l2 k x4 x5 x6 x7 x9 (wrap64 (J+1)) I D ((G.set ((wrap64 ((wrap64 (x7*D))+J)):Int).toNat L).set ((wrap64 ((wrap64 (x6*D))+J)):Int).toNat U))else(none))else(none)))else(none))else(none))))else(recoupref04_wide.l3 k x4 x5 x6 0 I D G)
def recoupref04_wide.l3:Nat→List Int→Int→Int→Int→Int→Int→List Int→Option (Int×Int×List Int×List Int)
 |0,_,_,_,_,_,_,_=>none
 |k+1,x4,x5,x6,J,D,G,I=>if J<D then((recoupref03_At.f D G I J x5).bind fun L=>(recoupref04_wide.l4 k x4 x5 x6 J L 0 D G I))else(if x4.length<17592186044416 then(recoupref04_wide.l0 k (x4++ [x5]) (wrap64 (x5+1)) D G I)else(none))
def recoupref04_wide.l4:Nat→List Int→Int→Int→Int→Int→Int→Int→Int→List Int→Option (Int×Int×List Int×List Int)
 |0,_,_,_,_,_,_,_,_,_=>none
 |k+1,x4,x5,x6,J,O,L,G,D,I=>if L<D then(recoupref04_wide.j5 k x4 x5 x6 J O L (J !=x6) G D I)else(recoupref04_wide.j5 k x4 x5 x6 J O L false G D I)
def recoupref04_wide.j5:Nat→List Int→Int→Int→Int→Int→Int→Bool→Int→Int→List Int→Option (Int×Int×List Int×List Int)
 |0,_,_,_,_,_,_,_,_,_,_=>none
 |k+1,x4,x5,x6,J,X,L,Y,I,D,G=>if Y=true then(if 0≤(wrap64 ((wrap64 (J*D))+L))then(if(wrap64 ((wrap64 (J*D))+L))<(G.length:Int)then((recoupref03_At.f I D G x6 L).bind fun O=>((recoupref01_Mul.f k X O).bind fun U=>(recoupref04_wide.l4 k x4 x5 x6 J X (wrap64 (L+1)) I D (G.set ((wrap64 ((wrap64 (J*D))+L)):Int).toNat (Go.bits .xor .u8 (rd G (wrap64 ((wrap64 (J*D))+L))) U)))))else(none))else(none))else(recoupref04_wide.l3 k x4 x5 x6 (wrap64 (J+1)) I D G)
end
def recoupref04_wide.f(k:Nat)(D:Int)(G:Int)(I:List Int):Option (Int×Int×List Int×List Int):=recoupref04_wide.l0 k ([]:List Int) 0 D G I
def recoupref04_wide.T15:Bool×List (List Nat×List Nat):=(true,[([],[]),([],[]),([],[]),([0,1,2],[0,1,2]),([],[]),([],[]),([],[]),([4,5,6,3],[4,5,6]),([3,7,0,1,2,3],[3]),([7,8,0,1,2,3,4,5,6,7,8],[7])])
def recoupref04_wide.B15:List Nat:= [0,0,0,7,0,0,0,127,255,511]
theorem recoupref04_wide.tab15:rtab .any (opsOf Tryd.f85 15)=recoupref04_wide.T15:=by kernel_rfl
theorem recoupref04_wide.bits15:waitsOk recoupref04_wide.T15.2 recoupref04_wide.B15=true:=by kernel_rfl
def recoupref04_wide.T17:Bool×List (List Nat×List Nat):=(true,[([],[]),([0],[0]),([],[]),([],[]),([3],[3]),([2,4],[2,4]),([],[]),([5,6],[5,6]),([],[]),([],[]),([8,9],[8,9]),([1,7,0,1,2,3,4,5,6,7,8,9,10],[1,7]),([11,10,10,0,1,2,3,4,5,6,7,8,9,10],[10,11])])
def recoupref04_wide.B17:List Nat:= [0,1,0,0,8,28,0,124,0,0,768,2047,4095]
theorem recoupref04_wide.tab17:rtab .any (opsOf Tryd.f85 17)=recoupref04_wide.T17:=by kernel_rfl
theorem recoupref04_wide.bits17:waitsOk recoupref04_wide.T17.2 recoupref04_wide.B17=true:=by kernel_rfl
def recoupref04_wide.T25:Bool×List (List Nat×List Nat):=(true,[([],[]),([0],[0]),([],[]),([],[]),([3],[3]),([2,4],[2,4]),([],[]),([5,6],[5,6]),([1,7],[1,7]),([8],[8]),([],[]),([],[]),([],[]),([],[]),([11,12,13],[11,12,13]),([10,14,14],[10,14]),([9,15],[9,15]),([1,7,0,1,2,3,4,5,6,7,8,9,10,11,12,13,14,15,16],[1,7]),([17,16,15,0,1,2,3,4,5,6,7,8,9,10,11,12,13,14,15,16],[16,17])])
def recoupref04_wide.B25:List Nat:= [0,1,0,0,8,28,0,124,255,511,0,0,0,0,14336,31744,65535,131071,262143]
theorem recoupref04_wide.tab25:rtab .any (opsOf Tryd.f85 25)=recoupref04_wide.T25:=by kernel_rfl
theorem recoupref04_wide.bits25:waitsOk recoupref04_wide.T25.2 recoupref04_wide.B25=true:=by kernel_rfl
set_option maxHeartbeats 8000000 in
set_option maxRecDepth 100000 in
theorem recoupref04_wide.calls(k:Nat)(U:Int)(J:Int)(P0_2_:Nat→Prop)(u9000_:Value)(cd:List Int)(r1:Int)(r2:Int)(r3:List Int)(r4:List Int)(w0 w:World)(hB:Below w0.heap.size w0 w)(e9:Kd.R (Kd.int .u8) 5 w w0.heap.size P0_2_ u9000_ cd)(h:recoupref04_wide.f k U J cd=some (r1,r2,r3,r4)):
 Calls Tryd.prog 85 #[.agg #[.int .i64 U,.int .i64 J,u9000_]] w fun e w'=> ∃v2_ v3_:Value,e= .returned (.tuple #[.agg #[.int .i64 r1,.int .i64 r2,v2_],v3_])∧Kd.R (Kd.int .u8) 5 w' w0.heap.size (fun k_=>(P0_2_ k_∨w.heap.size≤k_)) v2_ r3∧Kd.R (Kd.int .i64) 3 w' w0.heap.size (fun k_=>(P0_2_ k_∨w.heap.size≤k_)) v3_ r4∧Below w0.heap.size w0 w'∧Kept w w' (fun k_=>P0_2_ k_):=by
 have i9:=Tryd.underlying24;have bh:=aK (show Kd.R (Kd.int .u8) 5 w w0.heap.size (fun k_=>(P0_2_ k_∨w.heap.size≤k_)) u9000_ cd from Kd.R_mono e9 (fun k_ hk=>(.inl hk)));have HK:=aK (Kept.refl w (fun k_=>P0_2_ k_));have jc:=aK hB.size;have HB:=aK hB;clear hB;have H:(recoupref04_wide.l0 k ([]:List Int) 0 U J cd)=some (r1,r2,r3,r4):=h;clear h;have H':=aK H;clear H;obtain⟨fd,fk,g3⟩:=Kd.R_slice bh.out;subst g3
 go_enter Tryd.func85,Tryd.ntmps85
 go_wp2_with (first|((with_reducible refine gD 1 rfl ?_);refine bE 1 #[.int .i64 U,.int .i64 J,.slice fd cd.length fk] 24 ?_;intro ah hg w3 hbox hb;replace bh:=kdB bh hb;have D:=aK (hbox);have X:=aK ((by rw[hg];exact(by first|exact HK.out.1|exact(show Kept w _ (fun k_=>P0_2_ k_)from by repeat(first|(with_reducible first|exact HK.out|apply Kept.alloc|apply Kept.drewN|apply Kept.drew)|exact HK.out)).1):w.heap.size≤ah));replace HK:=aK (Kept.below (S:=(fun k_=>P0_2_ k_)) zbh hb);have g0:=aK ((by rw[hg];exact(below_size (hbA HB.out)):w0.heap.size≤ah));replace HB:=hbB HB hb;clear hb hbox hg)|((with_reducible refine gD 2 rfl ?_);refine bE 2 #[.int .i64 0,.int .i64 0,.slice none 0 0] 24 ?_;intro ak hg w4 hbox hb;replace bh:=kdB bh hb;have G:=aK (hbox);have aa:=aK ((by rw[hg];exact(by first|exact HK.out.1|exact(show Kept w _ (fun k_=>P0_2_ k_)from by repeat(first|(with_reducible first|exact HK.out|apply Kept.alloc|apply Kept.drewN|apply Kept.drew|refine Kept.setCell ?_ (.inr X.out) _)|exact HK.out)).1):w.heap.size≤ak));replace HK:=aK (Kept.below (S:=(fun k_=>P0_2_ k_)) (by repeat(first|(with_reducible first|exact HK.out|apply Kept.alloc|apply Kept.drewN|apply Kept.drew|refine Kept.setCell ?_ (.inr X.out) _)|exact HK.out)) hb);have g1:=aK ((by rw[hg];exact(below_size (hbA HB.out)):w0.heap.size≤ak));replace HB:=hbB HB hb;have ab:=neL D hg;have ac:=neG D hg;replace D:=bkB D hb;clear hb hbox hg))
 go_loopg [4,5] k (fun kq v4 v5 w'=> ∃(ae:List Int) (af:Int) (an:List Int) (O:Value),v5= .int .i64 af∧Aside0 (recoupref04_wide.l0 kq ae af U J an=some (r1,r2,r3,r4))∧Aside0 (kq≤k)∧Aside0 (Kd.R (Kd.int .i64) 3 w' w0.heap.size (fun k_=>(P0_2_ k_∨w.heap.size≤k_)) v4 ae)∧Aside0 (Kd.R (Kd.int .u8) 5 w' w0.heap.size (fun k_=>(P0_2_ k_∨w.heap.size≤k_)) O an)∧Aside0 (w'.heap[ah]? =some (.cells #[.int .i64 U,.int .i64 J,O] 24 (0,0)))∧Aside0 (w'.heap[ak]? =some (.cells #[.int .i64 0,.int .i64 0,(.slice none 0 0)] 24 (0,0)))∧Aside0 (Kept w w' (fun k_=>P0_2_ k_))∧Aside0 (Below w0.heap.size w0 w'))
 case atStart=>exact⟨(([]:List Int)),(0),(cd),(.slice fd cd.length fk),rsE,H',⟨Nat.le_refl _⟩,⟨nilE⟩,⟨kdA bh.out⟩,⟨bkA D.out⟩,⟨bkA G.out⟩,⟨by repeat(first|(with_reducible first|exact HK.out|apply Kept.alloc|apply Kept.drewN|apply Kept.drew|refine Kept.setCell ?_ (.inr X.out) _|refine Kept.setCell ?_ (.inr aa.out) _)|exact HK.out)⟩,⟨hbA HB.out⟩⟩
 case round=>
  clear H'
  (try clear p2)
  obtain⟨ae,af,an,O,rfl,HA,au,HO_4,HO_412002,D,G,HK,HB⟩:=hrel
  cases gk with
  |zero=>exact absurd HA.out (by simp[recoupref04_wide.l0])
  |succ k1=>
   have H:=HA.out;clear HA;simp only[recoupref04_wide.l0]at H;by_cases c5:af<J
   ·rw[if_pos c5]at H
    have c5b0:decide (af<J)=true:=decide_eq_true c5;clear c5;have H':=aK H;clear H;have i7:=ab.out;have i8:=ac.out;obtain⟨a3,a4,a5,bc,bd,be⟩:=cell3 D;obtain⟨jb,jf,g4⟩:=Kd.R_slice HO_4.out;subst g4;go_wp2
    go_loopg [4,7] k1 (fun kq v4 v7 w'=> ∃(aj:List Int) (ao:Int) (Z:List Int) (O:Value),v7= .int .i64 ao∧Aside0 (recoupref04_wide.l1 kq aj af (ae.length:Int) ao U J Z=some (r1,r2,r3,r4))∧Aside0 (kq≤k1)∧Aside0 (Kd.R (Kd.int .i64) 3 w' w0.heap.size (fun k_=>(P0_2_ k_∨w.heap.size≤k_)) v4 aj)∧Aside0 (Kd.R (Kd.int .u8) 5 w' w0.heap.size (fun k_=>(P0_2_ k_∨w.heap.size≤k_)) O Z)∧Aside0 (w'.heap[ah]? =some (.cells #[.int .i64 U,.int .i64 J,O] 24 (0,0)))∧Aside0 (w'.heap[ak]? =some (.cells #[.int .i64 0,.int .i64 0,(.slice none 0 0)] 24 (0,0)))∧Aside0 (Kept w w' (fun k_=>P0_2_ k_))∧Aside0 (Below w0.heap.size w0 w'))
    case atStart=>exact⟨(ae),((ae.length:Int)),(an),(O),rsE,H',⟨Nat.le_refl _⟩,⟨kdA HO_4.out⟩,⟨kdA HO_412002.out⟩,⟨bkA D.out⟩,⟨bkA G.out⟩,⟨by repeat(first|(with_reducible first|exact HK.out|apply Kept.alloc|apply Kept.drewN|apply Kept.drew|refine Kept.setCell ?_ (.inr X.out) _|refine Kept.setCell ?_ (.inr aa.out) _)|exact HK.out)⟩,⟨hbA HB.out⟩⟩
    case round=>
     clear H'
     (try clear p2 p2);(try clear c5);(try clear c5b0);(try clear c6);(try clear c8);(try clear a3 a4 a5 bc bd be)
     obtain⟨aj,ao,Z,O,rfl,HA,av,HO_4,HO_412002,D,G,HK,HB⟩:=hrel
     cases gk with
     |zero=>exact absurd HA.out (by simp[recoupref04_wide.l1])
     |succ k2=>
      have H:=HA.out;clear HA;simp only[recoupref04_wide.l1]at H;by_cases c9:ao<U
      ·rw[if_pos c9]at H
       have c9b0:decide (ao<U)=true:=decide_eq_true c9;clear c9;obtain⟨bf,fb,H⟩:=bindO H
       (try dsimp only at H)
       by_cases bl:bf=0
       ·rw[if_pos bl]at H
        have c11b0:(bf==0)=true:=beq_iff_eq.mpr bl;have c11b1:(bf !=0)=false:=bne_eq_false_iff_eq.mpr bl;clear bl;have H':=aK H;clear H;have g5:=ab.out;have ii:=ac.out;obtain⟨ax,ay,az,a6,a7,a8⟩:=cell3 D;obtain⟨ed,ei,fm⟩:=Kd.R_slice HO_412002.out;subst fm
        go_wp2_with (first|((with_reducible refine gC 40 rfl ?_);refine cG (some 35) Tryd.func40 #[.agg #[.int .i64 U,.int .i64 J,.slice ed Z.length ei],.int .i64 ao,.int .i64 af] ?_;(with_reducible refine(recoupref03_At.calls U J _ _ Z ao af bf _ ?side1 ?side2 fb.out).mono ?_);(case side1=>exact kcA (Kd.R_reads' HO_412002.out).2.2);(case side2=>exact(Kd.R_reads' HO_412002.out).2.1);rintro e jg ⟨rfl,hb⟩;refine⟨_,rfl,?_⟩;replace HO_4:=kdB HO_4 hb;replace HO_412002:=kdB HO_412002 hb;replace D:=bkB D hb;replace G:=bkB G hb;replace HK:=aK (Kept.below (S:=(fun k_=>P0_2_ k_)) zan hb);replace HB:=hbB HB hb;(try clear hb)))
        go_roundg k2
        case measure=>have:=au.out;have:=av.out;omega
        case rel=>exact⟨(aj),(wrap64 (ao+1)),(Z),(.slice ed Z.length ei),rsE,H',⟨by have:=au.out;have:=av.out;omega⟩,⟨kdA HO_4.out⟩,⟨kdA HO_412002.out⟩,⟨bkA D.out⟩,⟨bkA G.out⟩,⟨by repeat(first|(with_reducible first|exact HK.out|apply Kept.alloc|apply Kept.drewN|apply Kept.drew|refine Kept.setCell ?_ (.inr X.out) _|refine Kept.setCell ?_ (.inr aa.out) _)|exact HK.out)⟩,⟨hbA HB.out⟩⟩
       ·rw[if_neg bl]at H
        have c11b0:(bf==0)=false:=beq_eq_false_iff_ne.mpr bl;have c11b1:(bf !=0)=true:=bne_iff_ne.mpr bl;obtain⟨⟨ar,gq⟩,gw,H⟩:=bindO H
        (try dsimp only at H)
        have H':=aK H;clear H;have g6:=ab.out;have ij:=ac.out;obtain⟨a0,a1,a2,a9,ba,bb⟩:=cell3 D;obtain⟨ee,ej,fo⟩:=Kd.R_slice HO_412002.out;subst fo
        go_wp2_with (first|((with_reducible refine gC 40 rfl ?_);refine cG (some 35) Tryd.func40 #[.agg #[.int .i64 U,.int .i64 J,.slice ee Z.length ej],.int .i64 ao,.int .i64 af] ?_;(with_reducible refine(recoupref03_At.calls U J _ _ Z ao af bf _ ?side1 ?side2 fb.out).mono ?_);(case side1=>exact kcA (Kd.R_reads' HO_412002.out).2.2);(case side2=>exact(Kd.R_reads' HO_412002.out).2.1);rintro e jh ⟨rfl,hb⟩;refine⟨_,rfl,?_⟩;replace HO_4:=kdB HO_4 hb;replace HO_412002:=kdB HO_412002 hb;replace D:=bkB D hb;replace G:=bkB G hb;replace HK:=aK (Kept.below (S:=(fun k_=>P0_2_ k_)) zan hb);replace HB:=hbB HB hb;(try clear hb))|((with_reducible refine gC 60 rfl ?_);refine cG (some 40) Tryd.func60 #[.int .u8 bf] ?_;(with_reducible refine(recoupref01_Inv.calls k2 bf ar gq _ gw.out).mono ?_);rintro e w' ⟨rfl,⟨nd,rfl⟩⟩;refine⟨_,rfl,?_⟩))
        go_loopg [11] k2 (fun kq iu w'=> ∃(Y:Int) (I:List Int) (O:Value),iu= .int .i64 Y∧Aside0 (recoupref04_wide.l2 kq aj af (ae.length:Int) ao ar Y U J I=some (r1,r2,r3,r4))∧Aside0 (kq≤k2)∧Aside0 (Kd.R (Kd.int .i64) 3 w' w0.heap.size (fun k_=>(P0_2_ k_∨w.heap.size≤k_)) u4 aj)∧Aside0 (Kd.R (Kd.int .u8) 5 w' w0.heap.size (fun k_=>(P0_2_ k_∨w.heap.size≤k_)) O I)∧Aside0 (w'.heap[ah]? =some (.cells #[.int .i64 U,.int .i64 J,O] 24 (0,0)))∧Aside0 (w'.heap[ak]? =some (.cells #[.int .i64 0,.int .i64 0,(.slice none 0 0)] 24 (0,0)))∧Aside0 (Kept w w' (fun k_=>P0_2_ k_))∧Aside0 (Below w0.heap.size w0 w'))
        case atStart=>exact⟨(0),(Z),(.slice ee Z.length ej),rsE,H',⟨Nat.le_refl _⟩,⟨kdA HO_4.out⟩,⟨kdA HO_412002.out⟩,⟨bkA D.out⟩,⟨bkA G.out⟩,⟨by repeat(first|(with_reducible first|exact HK.out|apply Kept.alloc|apply Kept.drewN|apply Kept.drew|refine Kept.setCell ?_ (.inr X.out) _|refine Kept.setCell ?_ (.inr aa.out) _)|exact HK.out)⟩,⟨hbA HB.out⟩⟩
        case round=>
         clear H'
         (try clear c1);(try clear p2 p2);(try clear c4);(try clear c5);(try clear c5b0);(try clear c6);(try clear p6);(try clear c8);(try clear c9);(try clear c9b0);(try clear bl);(try clear c11b0);(try clear c11b1);(try clear e7);(try clear e8);(try clear ax ay az a6 a7 a8);(try clear a0 a1 a2 a9 ba bb);(try clear a3 a4 a5 bc bd be)
         obtain⟨Y,I,O,rfl,HA,ce,HO_4,HO_412002,D,G,HK,HB⟩:=hrel
         cases gk with
         |zero=>exact absurd HA.out (by simp[recoupref04_wide.l2])
         |succ k3=>
          have H:=HA.out;clear HA;simp only[recoupref04_wide.l2]at H;by_cases ch:Y<J
          ·rw[if_pos ch]at H
           have c21b0:decide (Y<J)=true:=decide_eq_true ch;clear ch;obtain⟨cv,ez,H⟩:=bindO H
           (try dsimp only at H)
           obtain⟨cw,e0,H⟩:=bindO H
           (try dsimp only at H)
           obtain⟨ap,b6⟩: ∃j_:Int,(wrap64 ((wrap64 (ao*J))+Y))=j_:=⟨_,rfl⟩
           replace H:(if 0≤(ap)then(if(ap)<(I.length:Int)then((recoupref01_Mul.f k3 ar cw).bind fun bg=>(if 0≤(wrap64 ((wrap64 ((ae.length:Int)*J))+Y))then(if(wrap64 ((wrap64 ((ae.length:Int)*J))+Y))<(I.length:Int)then(recoupref04_wide.l2 k3 aj af (ae.length:Int) ao ar (wrap64 (Y+1)) U J ((I.set ((ap):Int).toNat cv).set ((wrap64 ((wrap64 ((ae.length:Int)*J))+Y)):Int).toNat bg))else(none))else(none)))else(none))else(none))=some (r1,r2,r3,r4):=by first|(rw[b6]at H;exact H)|(simp only[b6]at H⊢;exact H)
           (try rw[b6]at ez)
           (try rw[b6]at e0)
           have hji24w:(IntKind.i64.wrap ((wrap64 (ao*J))+Y))=ap:=(i64_w _).trans b6;by_cases cz:0≤(ap)
           ·rw[if_pos cz]at H
            have c25b0:decide (0≤(ap))=true:=decide_eq_true cz;clear cz;by_cases c7:(ap)<(I.length:Int)
            ·rw[if_pos c7]at H
             have c26b0:decide ((ap)<(I.length:Int))=true:=decide_eq_true c7;clear c7;obtain⟨dg,b8⟩: ∃y_:List Int,y_=(I.set ((ap):Int).toNat cv):=⟨_,rfl⟩
             replace H:((recoupref01_Mul.f k3 ar cw).bind fun bg=>(if 0≤(wrap64 ((wrap64 ((ae.length:Int)*J))+Y))then(if(wrap64 ((wrap64 ((ae.length:Int)*J))+Y))<(I.length:Int)then(recoupref04_wide.l2 k3 aj af (ae.length:Int) ao ar (wrap64 (Y+1)) U J (dg.set ((wrap64 ((wrap64 ((ae.length:Int)*J))+Y)):Int).toNat bg))else(none))else(none)))=some (r1,r2,r3,r4):=by first|(rw[b8];with_reducible exact H)|(have H2_:=(Option.bind_some _ _).symm.trans H;rw[b8];with_reducible exact H2_)|(have H2_:=(Option.bind_some _ _).symm.trans H;with_reducible exact H2_)|with_reducible exact H|(rw[b8];exact H)|exact H
             have e3:=aK b8;clear b8;obtain⟨bg,fc,H⟩:=bindO H
             (try dsimp only at H)
             obtain⟨aq,bi⟩: ∃j_:Int,(wrap64 ((wrap64 ((ae.length:Int)*J))+Y))=j_:=⟨_,rfl⟩
             replace H:(if 0≤(aq)then(if(aq)<(I.length:Int)then(recoupref04_wide.l2 k3 aj af (ae.length:Int) ao ar (wrap64 (Y+1)) U J (dg.set ((aq):Int).toNat bg))else(none))else(none))=some (r1,r2,r3,r4):=by first|(rw[bi]at H;exact H)|(simp only[bi]at H⊢;exact H)
             (try rw[bi]at ez)
             (try rw[bi]at e0)
             (try rw[bi]at fc)
             have hji29w:(IntKind.i64.wrap ((wrap64 ((ae.length:Int)*J))+Y))=aq:=(i64_w _).trans bi;by_cases da:0≤(aq)
             ·rw[if_pos da]at H
              have c30b0:decide (0≤(aq))=true:=decide_eq_true da;clear da;by_cases db:(aq)<(I.length:Int)
              ·rw[if_pos db]at H
               have c31b0:decide ((aq)<(I.length:Int))=true:=decide_eq_true db;clear db;obtain⟨ew,b9⟩: ∃y_:List Int,y_=(dg.set ((aq):Int).toNat bg):=⟨_,rfl⟩
               replace H:(recoupref04_wide.l2 k3 aj af (ae.length:Int) ao ar (wrap64 (Y+1)) U J ew)=some (r1,r2,r3,r4):=by first|(rw[b9];with_reducible exact H)|(have H2_:=(Option.bind_some _ _).symm.trans H;rw[b9];with_reducible exact H2_)|(have H2_:=(Option.bind_some _ _).symm.trans H;with_reducible exact H2_)|with_reducible exact H|(rw[b9];exact H)|exact H
               have e4:=aK b9;clear b9;have H':=aK H;clear H;have g7:=ab.out;have ik:=ac.out;obtain⟨bn,bo,bp,bw,bx,bz⟩:=cell3 D
               try go_wp2
               replace HO_4:=aK (Kd.R_drew HO_4.out);replace HO_412002:=aK (Kd.R_drew HO_412002.out);replace D:=aK (blk_drew D.out);replace G:=aK (blk_drew G.out);replace HK:=aK (Kept.drew HK.out);replace HB:=aK (below_drew1 HB.out);obtain⟨di,bm,em⟩:=Kd.R_slice HO_412002.out
               (first|subst em|(injection em with f1_ f2_ f3_;have f4_:=f1_.symm;have f5_:=f3_.symm;clear f1_ f2_ f3_;subst f4_;subst f5_))
               refine start_ (n:=10) (S:=fun w'=>w'.cell? ⟨ah,0,none⟩=some (.int .i64 U)∧w'.cell? ⟨ah,1,none⟩=some (.int .i64 J)∧w'.cell? ⟨ah,2,none⟩=some (.slice di I.length bm)) (ds:= []) (.replicate 10 false) zab rfl rfl ⟨(blk_cell D.out 0).trans rfl,(blk_cell D.out 1).trans rfl,(blk_cell D.out 2).trans rfl⟩ (fun hHeld=>?_);refine with_tabW recoupref04_wide.tab15 recoupref04_wide.bits15 (fun HT_ HW_=>?_);generalize wr.drew=ji at HO_4 HO_412002 D G HK HB hHeld⊢;refine pu 1 (some 50) (mB 10 2) HT_ ?_;refine pu 2 (some 51) (mB 10 6) HT_ ?_;refine pu 5 (some 54) (mB 10 38) HT_ ?_;refine pu 6 (some 55) (mB 10 102) HT_ ?_;refine tk3 0 (some 49) (mB 10 103) HT_ HW_ hHeld ?_;refine tk3 4 (some 53) (mB 10 119) HT_ HW_ hHeld ?_;refine zoh 3 (some 52) (mB 10 127) HT_ fun K hK=>?_;refine goes_ Tryd.func40 zab rfl #[.agg #[.int .i64 U,.int .i64 J,.slice di I.length bm],.int .i64 (ae.length:Int),.int .i64 Y] zad rfl rfl (by(try simp only[List.map_toArray,List.map_cons,List.map_nil]);first|done|rfl|(simp only[List.length_drop,List.length_take];rfl)) ?_;with_reducible refine(recoupref03_At.calls U J _ _ I (ae.length:Int) Y cv _ ?side1 ?side2 ez.out).mono ?_
               (case side1=>exact kcA (Kd.R_reads' HO_412002.out).2.2)
               (case side2=>exact(Kd.R_reads' HO_412002.out).2.1)
               rintro e jj ⟨rfl,hb⟩;refine⟨_,rfl,?_⟩;replace HO_4:=kdB HO_4 hb;replace HO_412002:=kdB HO_412002 hb;replace D:=bkB D hb;replace G:=bkB G hb;replace HK:=aK (Kept.below (S:=(fun k_=>P0_2_ k_)) zan hb);replace HB:=hbB HB hb
               (try clear hb)
               (try clear fu)
               (try clear hk)
               (try clear hi)
               refine hK.out _ _ ⟨(blk_cell D.out 0).trans rfl,(blk_cell D.out 1).trans rfl,(blk_cell D.out 2).trans rfl⟩ (fun hHeld=>?_);clear hK K;refine znm (some 52) ?_;refine zoh 7 (some 56) (mB 10 255) HT_ fun K hK=>?_;refine goes_ Tryd.func40 zab rfl #[.agg #[.int .i64 U,.int .i64 J,.slice di I.length bm],.int .i64 ao,.int .i64 Y] zad rfl rfl (by(try simp only[List.map_toArray,List.map_cons,List.map_nil]);first|done|rfl|(simp only[List.length_drop,List.length_take];rfl)) ?_;with_reducible refine(recoupref03_At.calls U J _ _ I ao Y cw _ ?side1 ?side2 e0.out).mono ?_
               (case side1=>exact kcA (Kd.R_reads' HO_412002.out).2.2)
               (case side2=>exact(Kd.R_reads' HO_412002.out).2.1)
               rintro e gr ⟨rfl,hb⟩;refine⟨_,rfl,?_⟩;replace HO_4:=kdB HO_4 hb;replace HO_412002:=kdB HO_412002 hb;replace D:=bkB D hb;replace G:=bkB G hb;replace HK:=aK (Kept.below (S:=(fun k_=>P0_2_ k_)) zan hb);replace HB:=hbB HB hb
               (try clear hb)
               (try clear fu)
               (try clear hk)
               (try clear hi)
               refine hK.out _ _ ⟨(blk_cell D.out 0).trans rfl,(blk_cell D.out 1).trans rfl,(blk_cell D.out 2).trans rfl⟩ (fun hHeld=>?_);clear hK K;refine znm (some 56) ?_;refine pu 8 (some 12) (mB 10 511) HT_ ?_;refine pu 9 (some 13) (mB 10 1023) HT_ ?_;refine done_ (done_of HT_.out zab) ?_;obtain⟨bq,br,bs,b0,b1,b2⟩:=cell3 D;have p27:0≤((ap):Int):=of_decide_eq_true asE;have ck:((ap):Int)<((I.length:Int):Int):=of_decide_eq_true asE;obtain⟨aw,i5,el,ep,fs,i3,eg⟩:=Kd.R_form HO_412002.out zz
               (first|cases el|(injection el with ea_ en_ ec_;(first|subst ea_|(injection ea_ with ea_;subst ea_));subst ec_;clear en_))
               have fe:=aK ep;have i1:=aK eg;clear ep fs eg;have d6:=aK (show(P0_2_ aw∨w.heap.size≤aw)from(HO_412002.out.1 _ rfl));obtain⟨ci,gs⟩:=Kd.R_celln 0 HO_412002.out ((ap):Int) p27 ck;replace p27:=eq_true p27;replace ck:=eq_true ck;obtain⟨hy40_,hz40_⟩:=Kd.R_celln 0 HO_412002.out ((ap):Int) (of_decide_eq_true asE) (of_decide_eq_true asE);have dl:=Kd.R_putg HO_412002.out ((ap):Int) cv
               try go_wp2_with (first|((with_reducible refine gate_store (t:=5) (p:=66) rfl ?_);refine store_event (t:=5) (p:=66) (v:=?vo_w41) (w1:=(gr.setCell ⟨aw,((ap):Int).toNat,none⟩ (.int .u8 cv))) ?hg ?ho ?hn ?hr ?_;(case ho=>rfl);(case hg=>rfl);(case hn=>rfl);(case hr=>first|(go_simp;done)|(go_simp;rfl));intro ec hw;have hg:gr.grownBy ec (some aw):=(by rw[hw];exact dl.2);have hp_:Kd.R (Kd.int .u8) 5 ec w0.heap.size (fun k_=>(P0_2_ k_∨w.heap.size≤k_)) (.slice (some ⟨aw,0,none⟩) I.length bm) dg:=(by rw[hw,e3.out];exact dl.1);clear dl;replace HO_4:=aK (Kd.R_over' (v:=(.slice (some ⟨aw,0,none⟩) I.length bm)) (kdA HO_4.out) (Kd.R_typed HO_412002.out) zaa hg);replace D:=bkG D hg (Kd.R_ne HO_412002.out D.out zaa);replace G:=bkG G hg (Kd.R_ne HO_412002.out G.out zaa);replace HB:=aK ((by rw[hw];exact below_set (HB.out) fe.out:Below w0.heap.size w0 ec));replace HK:=aK (Kept.of_grown (S:=(fun k_=>P0_2_ k_)) hg zan (fun k_ e_=>(HO_412002.out.1 k_ e_)));replace HO_412002:=aK (hp_);clear hg hw hp_))
               replace HO_4:=aK (Kd.R_drew HO_4.out);replace HO_412002:=aK (Kd.R_drew HO_412002.out);replace D:=aK (blk_drew D.out);replace G:=aK (blk_drew G.out);replace HK:=aK (Kept.drew HK.out);replace HB:=aK (below_drew1 HB.out);refine start_ (n:=13) (S:=fun w'=>w'.cell? ⟨ah,0,none⟩=some (.int .i64 U)∧w'.cell? ⟨ah,1,none⟩=some (.int .i64 J)∧w'.cell? ⟨ah,2,none⟩=some (.slice (some ⟨aw,0,none⟩) I.length bm)) (ds:= [12]) (.replicate 13 false) zab rfl rfl ⟨(blk_cell D.out 0).trans rfl,(blk_cell D.out 1).trans rfl,(blk_cell D.out 2).trans rfl⟩ (fun hHeld=>?_);refine with_tabW recoupref04_wide.tab17 recoupref04_wide.bits17 (fun HT_ HW_=>?_);generalize ec.drew=jk at HO_4 HO_412002 D G HK HB hHeld⊢;refine pu 0 (some 67) (mB 13 1) HT_ ?_;refine pu 2 (some 69) (mB 13 5) HT_ ?_;refine pu 3 (some 70) (mB 13 13) HT_ ?_;refine pu 6 (some 73) (mB 13 77) HT_ ?_;refine pu 8 (some 75) (mB 13 333) HT_ ?_;refine pu 9 (some 76) (mB 13 845) HT_ ?_;refine tk3 1 (some 68) (mB 13 847) HT_ HW_ hHeld ?_;refine tk3 4 (some 71) (mB 13 863) HT_ HW_ hHeld ?_;refine pu 5 (some 72) (mB 13 895) HT_ ?_;refine pu 7 (some 74) (mB 13 1023) HT_ ?_;refine zoh 10 (some 77) (mB 13 2047) HT_ fun K hK=>?_;refine goes_ Tryd.func62 zab rfl #[.int .u8 ar,.int .u8 cw] zad rfl rfl (by(try simp only[List.map_toArray,List.map_cons,List.map_nil]);first|done|rfl|(simp only[List.length_drop,List.length_take];rfl)) ?_;with_reducible refine(recoupref01_Mul.calls k3 ar cw bg _ fc.out).mono ?_
               rintro e w' ⟨rfl,⟨nd,rfl⟩⟩;refine⟨_,rfl,?_⟩;have p32:0≤((aq):Int):=of_decide_eq_true asE;have cl:((aq):Int)<((I.length:Int):Int):=of_decide_eq_true asE;obtain⟨cj,gt⟩:=Kd.R_celln 0 HO_412002.out ((aq):Int) p32 cl;replace p32:=eq_true p32;replace cl:=eq_true cl;have dm:=Kd.R_putn HO_412002.out ((aq):Int) bg;rw[←e4.out]at dm
               have ff:=aK dm;clear dm;refine hK.out _ _ ⟨(blk_cell D.out 0).trans rfl,(blk_cell D.out 1).trans rfl,(blk_cell D.out 2).trans rfl⟩ (fun hHeld=>?_);clear hK K;refine znm (some 77) ?_;refine pu 11 (some 78) (mB 13 4095) HT_ ?_;refine zlh 12 (none) (mB 13 8191) HT_ fun K hK=>?_;refine zsk ?_;refine hK.out _ _ ?_;clear hK K;refine done_ (done_of HT_.out zab) ?_
               try go_wp2
               go_roundg k3
               case measure=>have:=au.out;have:=av.out;have:=ce.out;omega
               case rel=>exact⟨(wrap64 (Y+1)),(ew),(.slice (some ⟨aw,0,none⟩) I.length bm),rsE,H',⟨by have:=au.out;have:=av.out;have:=ce.out;omega⟩,⟨by(with_reducible repeat(first|apply Kd.R_alloc|apply Kd.R_drewN|apply Kd.R_drew));exact Kd.R_mono (Kd.R_far (p:=⟨aw,((aq):Int).toNat,none⟩) (Kd.R_types HO_4.out (kd_block HO_412002.out).choose_spec zaa) (fun _ hk=>hk.2) (.int .u8 bg)) (fun _ hk=>hk.1)⟩,⟨kdA ff.out⟩,⟨by refine bkR ?_;refine blk_far ?_ zcj _;refine bkR ?_;exact D.out⟩,⟨by refine bkR ?_;refine blk_far ?_ zci _;refine bkR ?_;exact G.out⟩,⟨by repeat(first|(with_reducible first|exact HK.out|apply Kept.alloc|apply Kept.drewN|apply Kept.drew|refine Kept.setCell ?_ d6.out _|refine Kept.setCell ?_ (.inr X.out) _|refine Kept.setCell ?_ (.inr aa.out) _)|exact HK.out)⟩,⟨hbA HB.out⟩⟩
              ·rw[if_neg db]at H
               exact absurd H zac
             ·rw[if_neg da]at H
              exact absurd H zac
            ·rw[if_neg c7]at H
             exact absurd H zac
           ·rw[if_neg cz]at H
            exact absurd H zac
          ·rw[if_neg ch]at H
           have c21b0:decide (Y<J)=false:=decide_eq_false ch;clear ch;have H':=aK H;clear H;have g8:=ab.out;have il:=ac.out;obtain⟨bt,bu,bv,b3,b4,b5⟩:=cell3 D;go_wp2
           go_loopg [14] k3 (fun kq iv w'=> ∃(al:Int) (ag:List Int) (O:Value),iv= .int .i64 al∧Aside0 (recoupref04_wide.l3 kq aj af (ae.length:Int) al U J ag=some (r1,r2,r3,r4))∧Aside0 (kq≤k3)∧Aside0 (Kd.R (Kd.int .i64) 3 w' w0.heap.size (fun k_=>(P0_2_ k_∨w.heap.size≤k_)) u4 aj)∧Aside0 (Kd.R (Kd.int .u8) 5 w' w0.heap.size (fun k_=>(P0_2_ k_∨w.heap.size≤k_)) O ag)∧Aside0 (w'.heap[ah]? =some (.cells #[.int .i64 U,.int .i64 J,O] 24 (0,0)))∧Aside0 (w'.heap[ak]? =some (.cells #[.int .i64 0,.int .i64 0,(.slice none 0 0)] 24 (0,0)))∧Aside0 (Kept w w' (fun k_=>P0_2_ k_))∧Aside0 (Below w0.heap.size w0 w'))
           case atStart=>exact⟨(0),(I),(O),rsE,H',⟨Nat.le_refl _⟩,⟨kdA HO_4.out⟩,⟨kdA HO_412002.out⟩,⟨bkA D.out⟩,⟨bkA G.out⟩,⟨by repeat(first|(with_reducible first|exact HK.out|apply Kept.alloc|apply Kept.drewN|apply Kept.drew|refine Kept.setCell ?_ (.inr X.out) _|refine Kept.setCell ?_ (.inr aa.out) _)|exact HK.out)⟩,⟨hbA HB.out⟩⟩
           case round=>
            clear H'
            (try clear c1);(try clear c2);(try clear p2 p2);(try clear q2);(try clear gn);(try clear f7);(try clear c3);(try clear p3);(try clear q3);(try clear gp);(try clear f8);(try clear c4);(try clear c5);(try clear c5b0);(try clear c6);(try clear p6 p6);(try clear c8);(try clear c9);(try clear c9b0);(try clear bl);(try clear c11b0);(try clear c11b1);(try clear e7);(try clear e8);(try clear ch);(try clear c21b0);(try clear cz);(try clear c25b0);(try clear c7);(try clear c26b0);(try clear p27 p27);(try clear ck ck);(try clear eu);(try clear es);(try clear da);(try clear c30b0);(try clear db);(try clear c31b0);(try clear p32 p32);(try clear cl cl);(try clear ev);(try clear et);(try clear fh);(try clear fi);(try clear fj);(try clear ax ay az a6 a7 a8);(try clear a0 a1 a2 a9 ba bb);(try clear bn bo bp bw bx bz);(try clear bq br bs b0 b1 b2);(try clear bt bu bv b3 b4 b5);(try clear a3 a4 a5 bc bd be);(try clear ci);(try clear cj)
            obtain⟨al,ag,O,rfl,HA,cm,HO_4,HO_412002,D,G,HK,HB⟩:=hrel
            cases gk with
            |zero=>exact absurd HA.out (by simp[recoupref04_wide.l3])
            |succ k4=>
             have H:=HA.out;clear HA;simp only[recoupref04_wide.l3]at H;by_cases cn:al<U
             ·rw[if_pos cn]at H
              have c46b0:decide (al<U)=true:=decide_eq_true cn;clear cn;obtain⟨bj,gx,H⟩:=bindO H
              (try dsimp only at H)
              have H':=aK H;clear H;have g9:=ab.out;have im:=ac.out;obtain⟨co,cp,cq,cr,ct,cu⟩:=cell3 D;obtain⟨ef,ek,fp⟩:=Kd.R_slice HO_412002.out;subst fp
              go_wp2_with (first|((with_reducible refine gC 40 rfl ?_);refine cG (some 88) Tryd.func40 #[.agg #[.int .i64 U,.int .i64 J,.slice ef ag.length ek],.int .i64 al,.int .i64 af] ?_;(with_reducible refine(recoupref03_At.calls U J _ _ ag al af bj _ ?side1 ?side2 gx.out).mono ?_);(case side1=>exact kcA (Kd.R_reads' HO_412002.out).2.2);(case side2=>exact(Kd.R_reads' HO_412002.out).2.1);rintro e jl ⟨rfl,hb⟩;refine⟨_,rfl,?_⟩;replace HO_4:=kdB HO_4 hb;replace HO_412002:=kdB HO_412002 hb;replace D:=bkB D hb;replace G:=bkB G hb;replace HK:=aK (Kept.below (S:=(fun k_=>P0_2_ k_)) zan hb);replace HB:=hbB HB hb;(try clear hb)))
              go_loopg [16] k4 (fun kq iw w'=> ∃(am:Int) (L:List Int) (O:Value),iw= .int .i64 am∧Aside0 (recoupref04_wide.l4 kq aj af (ae.length:Int) al bj am U J L=some (r1,r2,r3,r4))∧Aside0 (kq≤k4)∧Aside0 (Kd.R (Kd.int .i64) 3 w' w0.heap.size (fun k_=>(P0_2_ k_∨w.heap.size≤k_)) u4 aj)∧Aside0 (Kd.R (Kd.int .u8) 5 w' w0.heap.size (fun k_=>(P0_2_ k_∨w.heap.size≤k_)) O L)∧Aside0 (w'.heap[ah]? =some (.cells #[.int .i64 U,.int .i64 J,O] 24 (0,0)))∧Aside0 (w'.heap[ak]? =some (.cells #[.int .i64 0,.int .i64 0,(.slice none 0 0)] 24 (0,0)))∧Aside0 (Kept w w' (fun k_=>P0_2_ k_))∧Aside0 (Below w0.heap.size w0 w'))
              case atStart=>exact⟨(0),(ag),(.slice ef ag.length ek),rsE,H',⟨Nat.le_refl _⟩,⟨kdA HO_4.out⟩,⟨kdA HO_412002.out⟩,⟨bkA D.out⟩,⟨bkA G.out⟩,⟨by repeat(first|(with_reducible first|exact HK.out|apply Kept.alloc|apply Kept.drewN|apply Kept.drew|refine Kept.setCell ?_ (.inr X.out) _|refine Kept.setCell ?_ (.inr aa.out) _)|exact HK.out)⟩,⟨hbA HB.out⟩⟩
              case round=>
               clear H'
               (try clear c1);(try clear c2);(try clear p2 p2);(try clear q2 q2);(try clear gn);(try clear f7);(try clear c3);(try clear p3 p3);(try clear q3 q3);(try clear gp);(try clear f8);(try clear c4);(try clear c5);(try clear c5b0);(try clear c6);(try clear p6 p6);(try clear c8);(try clear c9);(try clear c9b0);(try clear bl);(try clear c11b0);(try clear c11b1);(try clear e7);(try clear e8);(try clear ch);(try clear c21b0);(try clear cz);(try clear c25b0);(try clear c7);(try clear c26b0);(try clear p27 p27);(try clear ck ck);(try clear eu);(try clear es);(try clear da);(try clear c30b0);(try clear db);(try clear c31b0);(try clear p32 p32);(try clear cl cl);(try clear ev);(try clear et);(try clear fh);(try clear fi);(try clear fj);(try clear cn);(try clear c46b0);(try clear g2);(try clear ax ay az a6 a7 a8);(try clear a0 a1 a2 a9 ba bb);(try clear bn bo bp bw bx bz);(try clear bq br bs b0 b1 b2);(try clear bt bu bv b3 b4 b5);(try clear co cp cq cr ct cu);(try clear a3 a4 a5 bc bd be);(try clear ci);(try clear cj)
               obtain⟨am,L,O,rfl,HA,dh,HO_4,HO_412002,D,G,HK,HB⟩:=hrel
               cases gk with
               |zero=>exact absurd HA.out (by simp[recoupref04_wide.l4])
               |succ k5=>
                have H:=HA.out;clear HA;simp only[recoupref04_wide.l4]at H;have dk:=aK H;clear H
                go_upto_region 23 with(fail)
                go_cut [97] (fun ix wc=> ∃(kq:Nat) (bk:Bool),ix= .bool bk∧Aside0 (recoupref04_wide.j5 kq aj af (ae.length:Int) al bj am bk U J L=some (r1,r2,r3,r4))∧Aside0 (kq≤k5)∧Aside0 (Kd.R (Kd.int .i64) 3 wc w0.heap.size (fun k_=>(P0_2_ k_∨w.heap.size≤k_)) u4 aj)∧Aside0 (Kd.R (Kd.int .u8) 5 wc w0.heap.size (fun k_=>(P0_2_ k_∨w.heap.size≤k_)) O L)∧Aside0 (wc.heap[ah]? =some (.cells #[.int .i64 U,.int .i64 J,O] 24 (0,0)))∧Aside0 (wc.heap[ak]? =some (.cells #[.int .i64 0,.int .i64 0,(.slice none 0 0)] 24 (0,0)))∧Aside0 (Kept w wc (fun k_=>P0_2_ k_))∧Aside0 (Below w0.heap.size w0 wc))
                case first=>
                 have H:=dk.out;clear dk;by_cases dc:am<J
                 ·rw[if_pos dc]at H
                  have c53b0:decide (am<J)=true:=decide_eq_true dc;clear dc
                  (first|rw[c53b0] |(simp only[i64_w,i32_w];rw[c53b0])|skip)
                  have H':=aK H;clear H;have ia:=ab.out;have io:=ac.out;obtain⟨dr,dt,du,dy,dz,d0⟩:=cell3 D;go_wp2
                  go_meet
                  case rel=>exact⟨_,((al !=(ae.length:Int))),rsE,H',⟨by have:=au.out;have:=av.out;have:=ce.out;have:=cm.out;have:=dh.out;first|omega|exact Nat.le_refl _⟩,⟨kdA HO_4.out⟩,⟨kdA HO_412002.out⟩,⟨bkA D.out⟩,⟨bkA G.out⟩,⟨by repeat(first|(with_reducible first|exact HK.out|apply Kept.alloc|apply Kept.drewN|apply Kept.drew|refine Kept.setCell ?_ (.inr X.out) _|refine Kept.setCell ?_ (.inr aa.out) _)|exact HK.out)⟩,⟨hbA HB.out⟩⟩
                 ·rw[if_neg dc]at H
                  have c53b0:decide (am<J)=false:=decide_eq_false dc;clear dc
                  (first|rw[c53b0] |(simp only[i64_w,i32_w];rw[c53b0])|skip)
                  have H':=aK H;clear H;have ib:=ab.out;have ip:=ac.out;obtain⟨dv,dw,dx,d1,d2,d3⟩:=cell3 D;go_wp2
                  go_meet
                  case rel=>exact⟨_,(false),rsE,H',⟨by have:=au.out;have:=av.out;have:=ce.out;have:=cm.out;have:=dh.out;first|omega|exact Nat.le_refl _⟩,⟨kdA HO_4.out⟩,⟨kdA HO_412002.out⟩,⟨bkA D.out⟩,⟨bkA G.out⟩,⟨by repeat(first|(with_reducible first|exact HK.out|apply Kept.alloc|apply Kept.drewN|apply Kept.drew|refine Kept.setCell ?_ (.inr X.out) _|refine Kept.setCell ?_ (.inr aa.out) _)|exact HK.out)⟩,⟨hbA HB.out⟩⟩
                case rest=>
                 clear dk
                 (try clear c1);(try clear c2);(try clear p2 p2);(try clear q2 q2);(try clear gn);(try clear f7);(try clear c3);(try clear p3 p3);(try clear q3 q3);(try clear gp);(try clear f8);(try clear c4);(try clear c5);(try clear c5b0);(try clear c6);(try clear p6 p6);(try clear c8);(try clear c9);(try clear c9b0);(try clear bl);(try clear c11b0);(try clear c11b1);(try clear e7);(try clear e8);(try clear ch);(try clear c21b0);(try clear cz);(try clear c25b0);(try clear c7);(try clear c26b0);(try clear p27 p27);(try clear ck ck);(try clear eu);(try clear es);(try clear da);(try clear c30b0);(try clear db);(try clear c31b0);(try clear p32 p32);(try clear cl cl);(try clear ev);(try clear et);(try clear fh);(try clear fi);(try clear fj);(try clear cn);(try clear c46b0);(try clear g2);(try clear dc);(try clear c53b0);(try clear jd);(try clear je);(try clear ax ay az a6 a7 a8);(try clear a0 a1 a2 a9 ba bb);(try clear bn bo bp bw bx bz);(try clear bq br bs b0 b1 b2);(try clear bt bu bv b3 b4 b5);(try clear co cp cq cr ct cu);(try clear dr dt du dy dz d0);(try clear dv dw dx d1 d2 d3);(try clear a3 a4 a5 bc bd be);(try clear ci);(try clear cj)
                 obtain⟨kq,bk,rfl,HA,de,HO_4,HO_412002,D,G,HK,HB⟩:=hcut
                 cases kq with
                 |zero=>exact absurd HA.out (by simp[recoupref04_wide.j5])
                 |succ cf=>
                  have H:=HA.out;clear HA;simp only[recoupref04_wide.j5]at H;by_cases d8:bk=true
                  ·subst d8;rw[if_pos rfl]at H
                   obtain⟨ai,dd⟩: ∃j_:Int,(wrap64 ((wrap64 (al*J))+am))=j_:=⟨_,rfl⟩
                   replace H:(if 0≤(ai)then(if(ai)<(L.length:Int)then((recoupref03_At.f U J L (ae.length:Int) am).bind fun cx=>((recoupref01_Mul.f cf bj cx).bind fun cg=>(recoupref04_wide.l4 cf aj af (ae.length:Int) al bj (wrap64 (am+1)) U J (L.set ((ai):Int).toNat (Go.bits .xor .u8 (rd L (ai)) cg)))))else(none))else(none))=some (r1,r2,r3,r4):=by first|(rw[dd]at H;exact H)|(simp only[dd]at H⊢;exact H)
                   have hji59w:(IntKind.i64.wrap ((wrap64 (al*J))+am))=ai:=(i64_w _).trans dd;by_cases d9:0≤(ai)
                   ·rw[if_pos d9]at H
                    have c60b0:decide (0≤(ai))=true:=decide_eq_true d9;clear d9;by_cases ea:(ai)<(L.length:Int)
                    ·rw[if_pos ea]at H
                     have c61b0:decide ((ai)<(L.length:Int))=true:=decide_eq_true ea;clear ea;obtain⟨cx,gy,H⟩:=bindO H
                     (try dsimp only at H)
                     obtain⟨cg,gz,H⟩:=bindO H
                     (try dsimp only at H)
                     obtain⟨ey,cb⟩: ∃y_:List Int,y_=(L.set ((ai):Int).toNat (Go.bits .xor .u8 (rd L (ai)) cg)):=⟨_,rfl⟩
                     replace H:(recoupref04_wide.l4 cf aj af (ae.length:Int) al bj (wrap64 (am+1)) U J ey)=some (r1,r2,r3,r4):=by first|(rw[cb];with_reducible exact H)|(have H2_:=(Option.bind_some _ _).symm.trans H;rw[cb];with_reducible exact H2_)|(have H2_:=(Option.bind_some _ _).symm.trans H;with_reducible exact H2_)|with_reducible exact H|(rw[cb];exact H)|exact H
                     have e6:=aK cb;clear cb;have H':=aK H;clear H
                     try go_wp2
                     replace HO_4:=aK (Kd.R_drew HO_4.out);replace HO_412002:=aK (Kd.R_drew HO_412002.out);replace D:=aK (blk_drew D.out);replace G:=aK (blk_drew G.out);replace HK:=aK (Kept.drew HK.out);replace HB:=aK (below_drew1 HB.out);obtain⟨iy,dp,eo⟩:=Kd.R_slice HO_412002.out
                     (first|subst eo|(injection eo with f1_ f2_ f3_;have f4_:=f1_.symm;have f5_:=f3_.symm;clear f1_ f2_ f3_;subst f4_;subst f5_))
                     have d4:0≤((ai):Int):=of_decide_eq_true asE;have d5:(ai)<(L.length:Int):=of_decide_eq_true asE;obtain⟨cy,fl,b7⟩:=Kd.at_int (Kd.R_reads' HO_412002.out).2.2 (ai) d4 d5
                     cases fl
                     replace d4:=eq_true d4;replace d5:=eq_true d5;refine start_ (n:=19) (S:=fun w'=>w'.cell? ⟨ah,0,none⟩=some (.int .i64 U)∧w'.cell? ⟨ah,1,none⟩=some (.int .i64 J)∧w'.cell? ⟨ah,2,none⟩=some (.slice (some cy) L.length dp)∧w'.cell? (cy.add ((ai)).toNat)=some (.int .u8 (rd L (ai)))) (ds:= [18]) (.replicate 19 false) zab rfl rfl ⟨(blk_cell D.out 0).trans rfl,(blk_cell D.out 1).trans rfl,(blk_cell D.out 2).trans rfl,b7⟩ (fun hHeld=>?_);refine with_tabW recoupref04_wide.tab25 recoupref04_wide.bits25 (fun HT_ HW_=>?_);generalize wc.drew=jm at HO_4 HO_412002 D G HK HB b7 hHeld⊢;refine pu 0 (some 100) (mB 19 1) HT_ ?_;refine pu 2 (some 102) (mB 19 5) HT_ ?_;refine pu 3 (some 103) (mB 19 13) HT_ ?_;refine pu 6 (some 106) (mB 19 77) HT_ ?_;refine pu 10 (some 110) (mB 19 1101) HT_ ?_;refine pu 12 (some 112) (mB 19 5197) HT_ ?_;refine pu 13 (some 113) (mB 19 13389) HT_ ?_;refine tk4 1 (some 101) (mB 19 13391) HT_ HW_ hHeld ?_;refine tk4 4 (some 104) (mB 19 13407) HT_ HW_ hHeld ?_;refine pu 5 (some 105) (mB 19 13439) HT_ ?_;refine pu 7 (some 107) (mB 19 13567) HT_ ?_;refine pu 8 (some 108) (mB 19 13823) HT_ ?_;refine tk4 9 (some 109) (mB 19 14335) HT_ HW_ hHeld ?_;refine tk4 11 (some 111) (mB 19 16383) HT_ HW_ hHeld ?_;refine zoh 14 (some 114) (mB 19 32767) HT_ fun K hK=>?_;refine goes_ Tryd.func40 zab rfl #[.agg #[.int .i64 U,.int .i64 J,.slice (some cy) L.length dp],.int .i64 (ae.length:Int),.int .i64 am] zad rfl rfl (by(try simp only[List.map_toArray,List.map_cons,List.map_nil]);first|done|rfl|(simp only[List.length_drop,List.length_take];rfl)) ?_;with_reducible refine(recoupref03_At.calls U J _ _ L (ae.length:Int) am cx _ ?side1 ?side2 gy.out).mono ?_
                     (case side1=>exact kcA (Kd.R_reads' HO_412002.out).2.2)
                     (case side2=>exact(Kd.R_reads' HO_412002.out).2.1)
                     rintro e jn ⟨rfl,hb⟩;have HS3_:=(hb.cell (World.block_lt_of_cell? _ _ (hHeld.2.2.2))).trans (hHeld.2.2.2);refine⟨_,rfl,?_⟩;replace HO_4:=kdB HO_4 hb;replace HO_412002:=kdB HO_412002 hb;replace D:=bkB D hb;replace G:=bkB G hb;replace HK:=aK (Kept.below (S:=(fun k_=>P0_2_ k_)) zan hb);replace HB:=hbB HB hb
                     (try clear hb)
                     (try clear fu)
                     (try clear hk)
                     (try clear hi)
                     refine hK.out _ _ ⟨(blk_cell D.out 0).trans rfl,(blk_cell D.out 1).trans rfl,(blk_cell D.out 2).trans rfl,HS3_⟩ (fun hHeld=>?_);clear hK K;refine znm (some 114) ?_;refine zoh 15 (some 115) (mB 19 65535) HT_ fun K hK=>?_;refine goes_ Tryd.func62 zab rfl #[.int .u8 bj,.int .u8 cx] zad rfl rfl (by(try simp only[List.map_toArray,List.map_cons,List.map_nil]);first|done|rfl|(simp only[List.length_drop,List.length_take];rfl)) ?_;with_reducible refine(recoupref01_Mul.calls cf bj cx cg _ gz.out).mono ?_
                     rintro e w' ⟨rfl,⟨nd,rfl⟩⟩;refine⟨_,rfl,?_⟩;have p64:0≤((ai):Int):=of_decide_eq_true asE;have fa:((ai):Int)<((L.length:Int):Int):=of_decide_eq_true asE;obtain⟨df,i6,en,er,ft,i4,eh⟩:=Kd.R_form HO_412002.out zz
                     (first|cases en|(injection en with ea_ en_ ec_;(first|subst ea_|(injection ea_ with ea_;subst ea_));subst ec_;clear en_))
                     have iz:=aK er;have i2:=aK eh;clear er ft eh;have d7:=aK (show(P0_2_ df∨w.heap.size≤df)from(HO_412002.out.1 _ rfl))
                     (first|simp only[add_plain]at b7|skip)
                     obtain⟨gv,gu⟩:=Kd.R_celln 0 HO_412002.out ((ai):Int) p64 fa;replace p64:=eq_true p64;replace fa:=eq_true fa;have dn:=Kd.R_putn HO_412002.out ((ai):Int) (Go.bits .xor .u8 (rd L (ai)) cg);rw[←e6.out]at dn
                     have fg:=aK dn;clear dn;refine hK.out _ _ ⟨(blk_cell D.out 0).trans rfl,(blk_cell D.out 1).trans rfl,(blk_cell D.out 2).trans rfl,hHeld.2.2.2⟩ (fun hHeld=>?_);clear hK K;refine znm (some 115) ?_;refine pu 16 (some 116) (mB 19 131071) HT_ ?_;refine pu 17 (some 117) (mB 19 262143) HT_ ?_;refine zlh 18 (none) (mB 19 524287) HT_ fun K hK=>?_;refine zsk ?_;refine hK.out _ _ ?_;clear hK K;refine done_ (done_of HT_.out zab) ?_
                     try go_wp2
                     go_roundg cf
                     case measure=>have:=au.out;have:=av.out;have:=ce.out;have:=cm.out;have:=dh.out;have:=de.out;omega
                     case rel=>exact⟨(wrap64 (am+1)),(ey),(.slice (some ⟨df,0,none⟩) L.length dp),rsE,H',⟨by have:=au.out;have:=av.out;have:=ce.out;have:=cm.out;have:=dh.out;have:=de.out;omega⟩,⟨by(with_reducible repeat(first|apply Kd.R_alloc|apply Kd.R_drewN|apply Kd.R_drew));exact Kd.R_mono (Kd.R_far (p:=⟨df,((ai):Int).toNat,none⟩) (Kd.R_types HO_4.out (kd_block HO_412002.out).choose_spec zaa) (fun _ hk=>hk.2) (.int .u8 (Go.bits .xor .u8 (rd L (ai)) cg))) (fun _ hk=>hk.1)⟩,⟨kdA fg.out⟩,⟨by refine bkR ?_;refine blk_far ?_ zcj _;refine bkR ?_;exact D.out⟩,⟨by refine bkR ?_;refine blk_far ?_ zci _;refine bkR ?_;exact G.out⟩,⟨by repeat(first|(with_reducible first|exact HK.out|apply Kept.alloc|apply Kept.drewN|apply Kept.drew|refine Kept.setCell ?_ d7.out _|refine Kept.setCell ?_ (.inr X.out) _|refine Kept.setCell ?_ (.inr aa.out) _)|exact HK.out)⟩,⟨hbA HB.out⟩⟩
                    ·rw[if_neg ea]at H
                     exact absurd H zac
                   ·rw[if_neg d9]at H
                    exact absurd H zac
                  ·replace d8:=Bool.eq_false_iff.mpr d8;subst d8;rw[if_neg nofT]at H
                   have H':=aK H;clear H;go_wp2
                   go_roundg cf
                   case measure=>have:=au.out;have:=av.out;have:=ce.out;have:=cm.out;have:=dh.out;have:=de.out;omega
                   case rel=>exact⟨(wrap64 (al+1)),(L),(O),rsE,H',⟨by have:=au.out;have:=av.out;have:=ce.out;have:=cm.out;have:=dh.out;have:=de.out;omega⟩,⟨kdA HO_4.out⟩,⟨kdA HO_412002.out⟩,⟨bkA D.out⟩,⟨bkA G.out⟩,⟨by repeat(first|(with_reducible first|exact HK.out|apply Kept.alloc|apply Kept.drewN|apply Kept.drew|refine Kept.setCell ?_ (.inr X.out) _|refine Kept.setCell ?_ (.inr aa.out) _)|exact HK.out)⟩,⟨hbA HB.out⟩⟩
             ·rw[if_neg cn]at H
              have c46b0:decide (al<U)=false:=decide_eq_false cn;clear cn;by_cases eb:aj.length<17592186044416
              ·rw[if_pos eb]at H
               have e2:=aK eb;clear eb;obtain⟨ex,ca⟩: ∃y_:List Int,y_=(aj++ [af]):=⟨_,rfl⟩
               replace H:(recoupref04_wide.l0 k4 ex (wrap64 (af+1)) U J ag)=some (r1,r2,r3,r4):=by first|(rw[ca];with_reducible exact H)|(have H2_:=(Option.bind_some _ _).symm.trans H;rw[ca];with_reducible exact H2_)|(have H2_:=(Option.bind_some _ _).symm.trans H;with_reducible exact H2_)|with_reducible exact H|(rw[ca];exact H)|exact H
               have e5:=aK ca;clear ca;have H':=aK H;clear H;have ic:=ab.out;have iq:=ac.out;obtain⟨fv,fw,fx,f9,ga,gb⟩:=cell3 D
               go_wp2_with (first|((with_reducible refine gate_builtin (b:= .append) (xs:= #[.tmp 118,.tmp 120]) rfl ?_);at_builtin;refine Kd.R_append (Kd.int .i64) (w0:=w0) w0.heap.size rfl (.tmp 118) (.tmp 120) 42 3 (.int .i64 0) 8 rfl Tryd.underlying42 info3 rfl zaa zz u4 aj af [.int .i64 af] (fun k_=>(P0_2_ k_∨w.heap.size≤k_)) (fun _=>False) rfl rfl ?aP (fun _ hk=>hk.elim) ?aF ?aO ?aB ?aS ?aL ?_;(case aP=>exact rfl);(case aB=>exact(hbA HB.out));(case aF=>exact(fun k_ hk=>(.inr (Nat.le_trans (by first|exact HK.out.1|exact(show Kept w _ (fun k_=>P0_2_ k_)from by repeat(first|(with_reducible first|exact HK.out|apply Kept.alloc|apply Kept.drewN|apply Kept.drew|refine Kept.setCell ?_ (.inr X.out) _|refine Kept.setCell ?_ (.inr aa.out) _)|exact HK.out)).1) hk))));(case aO=>exact(kdA HO_4.out));(case aS=>exact(below_size (hbA HB.out)));(case aL=>have:=e2.out;omega);intro ja jo ho hb hg hat;rw[←e5.out]at ho;have n0_:=aK (Kd.R_over' (kdA HO_412002.out) (Kd.R_typed (kdA HO_4.out)) zaa hg);have n1_:=aK (blk_grown (g:=ah) (o:= .cells #[.int .i64 U,.int .i64 J,O] 24 (0,0)) (bkA D.out) hg (Kd.R_ne HO_4.out D.out zaa));have n2_:=aK (blk_grown (g:=ak) (o:= .cells #[.int .i64 0,.int .i64 0,.slice none 0 0] 24 (0,0)) (bkA G.out) hg (Kd.R_ne HO_4.out G.out zaa));have n3_:=aK (hb);have n4_:=aK (Kept.of_grown (S:=(fun k_=>P0_2_ k_)) hg zan (fun k_ e_=>(HO_4.out.1 k_ e_)));have n5_:=aK (ho);clear HO_412002;clear D;clear G;clear HB;clear HK;clear HO_4;have HO_412002:=n0_;have D:=n1_;have G:=n2_;have HB:=n3_;have HK:=n4_;have e1:=n5_;clear n0_ n1_ n2_ n3_ n4_ n5_;clear ho hb hg hat))
               go_roundg k4
               case measure=>have:=au.out;have:=av.out;have:=ce.out;have:=cm.out;omega
               case rel=>exact⟨(ex),(wrap64 (af+1)),(ag),(O),rsE,H',⟨by have:=au.out;have:=av.out;have:=ce.out;have:=cm.out;omega⟩,⟨kdA e1.out⟩,⟨kdA HO_412002.out⟩,⟨bkA D.out⟩,⟨bkA G.out⟩,⟨by repeat(first|(with_reducible first|exact HK.out|apply Kept.alloc|apply Kept.drewN|apply Kept.drew|refine Kept.setCell ?_ (.inr X.out) _|refine Kept.setCell ?_ (.inr aa.out) _)|exact HK.out)⟩,⟨hbA HB.out⟩⟩
              ·rw[if_neg eb]at H
               exact absurd H zac
      ·rw[if_neg c9]at H
       have c9b0:decide (ao<U)=false:=decide_eq_false c9;clear c9;have H':=aK H;clear H;have ie:=ab.out;have ir:=ac.out;obtain⟨fy,fz,f0,gc,ge,gf⟩:=cell3 D;go_wp2
       go_roundg k2
       case measure=>have:=au.out;have:=av.out;omega
       case rel=>exact⟨(aj),(wrap64 (af+1)),(Z),(O),rsE,H',⟨by have:=au.out;have:=av.out;omega⟩,⟨kdA HO_4.out⟩,⟨kdA HO_412002.out⟩,⟨bkA D.out⟩,⟨bkA G.out⟩,⟨by repeat(first|(with_reducible first|exact HK.out|apply Kept.alloc|apply Kept.drewN|apply Kept.drew|refine Kept.setCell ?_ (.inr X.out) _|refine Kept.setCell ?_ (.inr aa.out) _)|exact HK.out)⟩,⟨hbA HB.out⟩⟩
   ·rw[if_neg c5]at H
    have c5b0:decide (af<J)=false:=decide_eq_false c5;clear c5;simp only[Option.some.injEq,Prod.mk.injEq]at H;obtain⟨rfl,rfl,rfl,rfl⟩:=H;have ig:=ab.out;have it:=ac.out;obtain⟨f1,f2,f3,gg,gh,gi⟩:=cell3 D;obtain⟨f4,f5,f6,gj,gl,gm⟩:=cell3 G;obtain⟨dj,dq,fq⟩:=Kd.R_slice HO_412002.out;subst fq;go_wp2;refine bodyPost_ret (results_ct rfl _ _ ak 24 #[.int .i64 U,.int .i64 J,.slice dj an.length dq] (0,0) _ rfl (by refine bkR ?_;refine blk_put (cs:= #[.int .i64 U,.int .i64 J,.slice none 0 0]) ?_ 2 _ rfl;refine bkR ?_;refine blk_put (cs:= #[.int .i64 U,.int .i64 0,.slice none 0 0]) ?_ 1 _ rfl;refine bkR ?_;refine blk_put (cs:= #[.int .i64 0,.int .i64 0,.slice none 0 0]) ?_ 0 _ rfl;refine bkR ?_;exact G.out) Tryd.underlying24 rfl zab) rfl ?_;exact⟨_,_,rfE,by(with_reducible repeat(first|apply Kd.R_alloc|apply Kd.R_drewN|apply Kd.R_drew));exact Kd.R_mono (Kd.R_far (p:=⟨ak,2,none⟩) (Kd.R_far (p:=⟨ak,1,none⟩) (Kd.R_far (p:=⟨ak,0,none⟩) (Kd.R_types HO_412002.out G.out zaa) (fun _ hk=>hk.2) (.int .i64 U)) (fun _ hk=>hk.2) (.int .i64 J)) (fun _ hk=>hk.2) (.slice dj an.length dq)) (fun _ hk=>hk.1),by(with_reducible repeat(first|apply Kd.R_alloc|apply Kd.R_drewN|apply Kd.R_drew));exact Kd.R_mono (Kd.R_far (p:=⟨ak,2,none⟩) (Kd.R_far (p:=⟨ak,1,none⟩) (Kd.R_far (p:=⟨ak,0,none⟩) (Kd.R_types HO_4.out G.out zaa) (fun _ hk=>hk.2) (.int .i64 U)) (fun _ hk=>hk.2) (.int .i64 J)) (fun _ hk=>hk.2) (.slice dj an.length dq)) (fun _ hk=>hk.1),hbA HB.out,by repeat(first|(with_reducible first|exact HK.out|apply Kept.alloc|apply Kept.drewN|apply Kept.drew|refine Kept.setCell ?_ (.inr X.out) _|refine Kept.setCell ?_ (.inr aa.out) _)|exact HK.out)⟩
end Go.Proofs.YtkagobkedifhkaaDoor.Q
namespace Go.Proofs.YtkagobkedifhkaaDoor.Q
open Go.RowKit Go.Proofs.YtkagobkedifhkaaDoorW.PrintWords Go.Proofs.YtkagobkedifhkaaDoorW.PrintLast Go.Proofs.YtkagobkedifhkaaDoorW.PrintMore
attribute [local go_sem] max2_int min2_int max_two min_two max_three min_three max_four min_four
set_option linter.unusedVariables false
set_option linter.unusedSimpArgs false
mutual
def recoupref04_Solve.j0:Nat→List Int→Bool→Int→Int→List Int→Option (List Int×Bool×Int)
 |0,_,_,_,_,_=>none
 |k+1,x1,J,D,G,I=>if J=true then(some (([]:List Int),false,3))else(recoupref04_Solve.l0 k x1 0 D G I D (wrap64 (G+1)) ([]:List Int))
def recoupref04_Solve.l0:Nat→List Int→Int→Int→Int→List Int→Int→Int→List Int→Option (List Int×Bool×Int)
 |0,_,_,_,_,_,_,_,_=>none
 |k+1,x1,x8,G,D,I,O,U,J=>if x8<G then((recoupref03_Row.f k G D I x8).bind fun X=>(if J.length+X.1.length<140737488355328 then((some (J++X.1:List Int)).bind fun Y=>(if 0≤x8 then(if x8<(x1.length:Int)then((some (([rd x1 x8]:List Int):List Int)).bind fun Z=>(if Y.length+Z.length<140737488355328 then(recoupref04_Solve.l0 k x1 (wrap64 (x8+1)) G D I O U (Y++Z))else(none)))else(none))else(none)))else(none)))else((recoupref04_wide.f k O U J).bind fun L=>(if 0≤D then(if(D:Int).toNat≤281474976710656 then(recoupref04_Solve.l1 k L.2.2.2 (List.replicate (D:Int).toNat 0) 0 G D I L.1 L.2.1 L.2.2.1)else(none))else(none)))
def recoupref04_Solve.l1:Nat→List Int→List Int→Int→Int→Int→List Int→Int→Int→List Int→Option (List Int×Bool×Int)
 |0,_,_,_,_,_,_,_,_,_=>none
 |k+1,O,Y,G,U,D,X,I,J,L=>if G<(O.length:Int)then(if 0≤G then(if(rd O G)=D then(some (([]:List Int),false,0))else((recoupref03_At.f I J L G D).bind fun Z=>(if 0≤(rd O G)then(if(rd O G)<(Y.length:Int)then(recoupref04_Solve.l1 k O (Y.set ((rd O G):Int).toNat Z) (wrap64 (G+1)) U D X I J L)else(none))else(none))))else(none))else(some (Y,true,0))
end
def recoupref04_Solve.f(k:Nat)(D:Int)(G:Int)(I:List Int)(l1:List Int):Option (List Int×Bool×Int):=(recoupref03_Right.f D G I).bind fun J=>(if J=true then(recoupref04_Solve.j0 k l1 ((l1.length:Int)!=D) D G I)else(recoupref04_Solve.j0 k l1 true D G I))
def recoupref04_Solve.T8:Bool×List (List Nat×List Nat):=(true,[([],[]),([0],[0]),([],[]),([1,2],[1,2]),([],[]),([],[]),([4,5],[4,5]),([6],[6]),([7],[7]),([3,8,3],[3,8]),([0,1,2,3,4,5,6,7,8,9],[]),([10,9,9,0,1,2,3,4,5,6,7,8,9],[9,10])])
def recoupref04_Solve.B8:List Nat:= [0,1,0,7,0,0,48,112,240,511,1023,2047]
theorem recoupref04_Solve.tab8:rtab .any (opsOf Tryd.f67 8)=recoupref04_Solve.T8:=by kernel_rfl
theorem recoupref04_Solve.bits8:waitsOk recoupref04_Solve.T8.2 recoupref04_Solve.B8=true:=by kernel_rfl
def recoupref04_Solve.T16:Bool×List (List Nat×List Nat):=(true,[([],[]),([],[]),([],[]),([1,2],[1,2]),([3],[3]),([],[]),([],[]),([],[]),([7],[7]),([5,6,8],[5,6,8]),([0,4,0,1,2,3,4,5,6,7,8,9],[0,4]),([10,9,9,0,1,2,3,4,5,6,7,8,9],[9,10])])
def recoupref04_Solve.B16:List Nat:= [0,0,0,6,14,0,0,0,128,480,1023,2047]
theorem recoupref04_Solve.tab16:rtab .any (opsOf Tryd.f67 16)=recoupref04_Solve.T16:=by kernel_rfl
theorem recoupref04_Solve.bits16:waitsOk recoupref04_Solve.T16.2 recoupref04_Solve.B16=true:=by kernel_rfl
set_option maxHeartbeats 8000000 in
set_option maxRecDepth 100000 in
theorem recoupref04_Solve.calls(k:Nat)(O:Int)(J:Int)(ah:Option Addr)(ai:Nat)(Z:List Int)(A1:Option Addr)(c1:Nat)(l1:List Int)(r1:List Int)(r2:Bool)(r3:Int)(w:World)(ej:Kd.C (Kd.int .u8) w ah Z.length Z)(dm:Z.length≤ai)(fx:Kd.C (Kd.int .u8) w A1 l1.length l1)(ft:l1.length≤c1)(h:recoupref04_Solve.f k O J Z l1=some (r1,r2,r3)):
 Calls Tryd.prog 67 #[.agg #[.int .i64 O,.int .i64 J,.slice ah Z.length ai],.slice A1 l1.length c1] w fun e w'=> ∃v0_:Value,e= .returned (.tuple #[v0_,.bool r2,.int .i64 r3])∧Kd.R (Kd.int .u8) 5 w' w.heap.size (fun _=>True) v0_ r1∧Below w.heap.size w w':=by
 have g6:=Tryd.underlying24;have cp:=aK ej;have co:=aK dm;clear ej dm;have ga:=aK fx;have ib:=aK ft;clear fx ft;have HB:=aK (Below.refl w.heap.size w);have H:((recoupref03_Right.f O J Z).bind fun em=>(if em=true then(recoupref04_Solve.j0 k l1 ((l1.length:Int)!=O) O J Z)else(recoupref04_Solve.j0 k l1 true O J Z)))=some (r1,r2,r3):=h;clear h;have e7:=aK H;clear H
 go_enter Tryd.func67,Tryd.ntmps67
 go_upto_region 1 with(first|((with_reducible refine gD 2 rfl ?_);(try(refine gate_guard zad ?_;dsimp only));refine bE 2 #[.int .i64 O,.int .i64 J,.slice ah Z.length ai] 24 ?_;intro ae hg w4 hbox hb;have D:=aK (hbox);have f7:=hbS HB hg;have e5:=hbS HB hg;replace HB:=hbB HB hb;clear hb hbox hg))
 (try simp only[Act.put,zL])
 go_cut [24] (fun gr wc=> ∃(kq:Nat) (b6:Bool),gr= .bool b6∧Aside0 (recoupref04_Solve.j0 kq l1 b6 O J Z=some (r1,r2,r3))∧Aside0 (kq≤k)∧Aside0 (wc.heap[ae]? =some (.cells #[.int .i64 O,.int .i64 J,(.slice ah Z.length ai)] 24 (0,0)))∧Aside0 (Below w.heap.size w wc))
 case first=>
  have H:=e7.out;clear e7;obtain⟨em,A5,H⟩:=bindO H
  (try dsimp only at H)
  by_cases c6:em=true
  ·subst c6;rw[if_pos rfl]at H
   have H':=aK H;clear H;obtain⟨bt,bu,bv,b0,b1,b2⟩:=cell3 D
   go_wp2_with (first|((with_reducible refine gC 37 rfl ?_);refine cG (some 16) Tryd.func37 #[.agg #[.int .i64 O,.int .i64 J,.slice ah Z.length ai]] ?_;(with_reducible refine(recoupref03_Right.calls O J _ _ Z true _ ?side1 ?side2 A5.out).mono ?_);(case side1=>exact kcB cp HB);(case side2=>exact co.out);rintro e w8 ⟨rfl,hb⟩;refine⟨_,rfl,?_⟩;replace D:=bkB D hb;replace HB:=hbB HB hb;(try clear hb);obtain⟨bw,bx,bz,b3,b4,b5⟩:=cell3 D))
   go_meet
   case rel=>exact⟨_,(((l1.length:Int)!=O)),rsE,H',⟨leE⟩,⟨bkA D.out⟩,⟨hbA HB.out⟩⟩
  ·replace c6:=Bool.eq_false_iff.mpr c6;subst c6;rw[if_neg nofT]at H
   have H':=aK H;clear H;obtain⟨ba,bb,bc,bd,be,bf⟩:=cell3 D
   go_wp2_with (first|((with_reducible refine gC 37 rfl ?_);refine cG (some 16) Tryd.func37 #[.agg #[.int .i64 O,.int .i64 J,.slice ah Z.length ai]] ?_;(with_reducible refine(recoupref03_Right.calls O J _ _ Z false _ ?side1 ?side2 A5.out).mono ?_);(case side1=>exact kcB cp HB);(case side2=>exact co.out);rintro e io ⟨rfl,hb⟩;refine⟨_,rfl,?_⟩;replace D:=bkB D hb;replace HB:=hbB HB hb;(try clear hb)))
   go_meet
   case rel=>exact⟨_,(true),rsE,H',⟨leE⟩,⟨bkA D.out⟩,⟨hbA HB.out⟩⟩
 case rest=>
  clear e7
  (try clear c1);(try clear p2);(try clear c3);(try clear c6);(try clear ba bb bc bd be bf);(try clear bt bu bv b0 b1 b2);(try clear bw bx bz b3 b4 b5)
  obtain⟨kq,b6,rfl,HA,en,D,HB⟩:=hcut
  cases kq with
  |zero=>exact absurd HA.out (by simp[recoupref04_Solve.j0])
  |succ fy=>
   have H:=HA.out;clear HA;simp only[recoupref04_Solve.j0]at H;by_cases cz:b6=true
   ·subst cz;rw[if_pos rfl]at H
    simp only[Option.some.injEq,Prod.mk.injEq]at H;obtain⟨rfl,rfl,rfl⟩:=H;go_wp2
    go_ret3
    exact⟨_,rfE,nilE,hbA HB.out⟩
   ·replace cz:=Bool.eq_false_iff.mpr cz;subst cz;rw[if_neg nofT]at H
    have H':=aK H;clear H;obtain⟨b9,ca,cb,cg,ch,ci⟩:=cell3 D
    go_wp2_with (first|((with_reducible refine gD 7 rfl ?_);(try(refine gate_guard zad ?_;dsimp only));refine bE 7 #[.int .i64 0,.int .i64 0,.slice none 0 0] 24 ?_;intro ab hg ip hbox hb;have G:=aK (hbox);have f8:=hbS HB hg;have e6:=hbS HB hg;replace HB:=hbB HB hb;have af:=neL D hg;have aq:=neG D hg;replace D:=bkB D hb;clear hb hbox hg;have ge:=aq.out;have gj:=af.out;obtain⟨cd,ce,cf,cj,ck,cl⟩:=cell3 G))
    go_loopg [8] fy (fun kq v8 w'=> ∃(X:Int) (I:List Int) (bp:Value),v8= .int .i64 X∧Aside0 (recoupref04_Solve.l0 kq l1 X O J Z O (wrap64 (J+1)) I=some (r1,r2,r3))∧Aside0 (kq≤fy)∧Aside0 (Kd.R (Kd.int .u8) 5 w' w.heap.size (fun _=>True) bp I)∧Aside0 (w'.heap[ae]? =some (.cells #[.int .i64 O,.int .i64 J,(.slice ah Z.length ai)] 24 (0,0)))∧Aside0 (w'.heap[ab]? =some (.cells #[.int .i64 O,.int .i64 (wrap64 (J+1)),bp] 24 (0,0)))∧Aside0 (Below w.heap.size w w'))
    case atStart=>exact⟨(0),(([]:List Int)),(.slice none 0 0),rsE,H',⟨Nat.le_refl _⟩,⟨nilE⟩,⟨by refine bkR ?_;refine blk_far ?_ af.out _;refine bkR ?_;refine blk_far ?_ af.out _;refine bkR ?_;refine blk_far ?_ af.out _;refine bkR ?_;exact D.out⟩,⟨by refine bkR ?_;refine blk_put (cs:= #[.int .i64 O,.int .i64 (wrap64 (J+1)),.slice none 0 0]) ?_ 2 _ rfl;refine bkR ?_;refine blk_put (cs:= #[.int .i64 O,.int .i64 0,.slice none 0 0]) ?_ 1 _ rfl;refine bkR ?_;refine blk_put (cs:= #[.int .i64 0,.int .i64 0,.slice none 0 0]) ?_ 0 _ rfl;refine bkR ?_;exact G.out⟩,⟨hbA HB.out⟩⟩
    case round=>
     clear H'
     (try clear c1);(try clear p2 p2);(try clear c3);(try clear c6);(try clear p6);(try clear cz);(try clear gb);(try clear ba bb bc bd be bf);(try clear b9 ca cb cg ch ci);(try clear cd ce cf cj ck cl);(try clear bt bu bv b0 b1 b2);(try clear bw bx bz b3 b4 b5)
     obtain⟨X,I,bp,rfl,HA,eo,HO_432002,D,G,HB⟩:=hrel
     cases gk with
     |zero=>exact absurd HA.out (by simp[recoupref04_Solve.l0])
     |succ k2=>
      have H:=HA.out;clear HA;simp only[recoupref04_Solve.l0]at H;by_cases cu:X<O
      ·rw[if_pos cu]at H
       have c17b0:decide (X<O)=true:=decide_eq_true cu;clear cu;obtain⟨⟨aj,fz⟩,f3,H⟩:=bindO H
       (try dsimp only at H)
       by_cases dg:I.length+aj.length<140737488355328
       ·rw[if_pos dg]at H
        have dd:=aK dg;clear dg;obtain⟨a5,bi⟩: ∃y_:List Int,y_=(I++aj):=⟨_,rfl⟩
        replace H:(if 0≤X then(if X<(l1.length:Int)then((some (([rd l1 X]:List Int):List Int)).bind fun aw=>(if a5.length+aw.length<140737488355328 then(recoupref04_Solve.l0 k2 l1 (wrap64 (X+1)) O J Z O (wrap64 (J+1)) (a5++aw))else(none)))else(none))else(none))=some (r1,r2,r3):=by first|(rw[bi];with_reducible exact H)|(have H2_:=(Option.bind_some _ _).symm.trans H;rw[bi];with_reducible exact H2_)|(have H2_:=(Option.bind_some _ _).symm.trans H;with_reducible exact H2_)|with_reducible exact H|(rw[bi];exact H)|exact H
        have de:=aK bi;clear bi;by_cases dh:0≤X
        ·rw[if_pos dh]at H
         have c20b0:decide (0≤X)=true:=decide_eq_true dh;clear dh;by_cases di:X<(l1.length:Int)
         ·rw[if_pos di]at H
          have c21b0:decide (X<(l1.length:Int))=true:=decide_eq_true di;clear di;obtain⟨aw,bj⟩: ∃y_:List Int,y_=(([rd l1 X]:List Int)):=⟨_,rfl⟩
          replace H:(if a5.length+aw.length<140737488355328 then(recoupref04_Solve.l0 k2 l1 (wrap64 (X+1)) O J Z O (wrap64 (J+1)) (a5++aw))else(none))=some (r1,r2,r3):=by first|(rw[bj];with_reducible exact H)|(have H2_:=(Option.bind_some _ _).symm.trans H;rw[bj];with_reducible exact H2_)|(have H2_:=(Option.bind_some _ _).symm.trans H;with_reducible exact H2_)|with_reducible exact H|(rw[bj];exact H)|exact H
          have bs:=aK bj;clear bj;by_cases dj:a5.length+aw.length<140737488355328
          ·rw[if_pos dj]at H
           have e9:=aK dj;clear dj;obtain⟨cy,bk⟩: ∃y_:List Int,y_=(a5++aw):=⟨_,rfl⟩
           replace H:(recoupref04_Solve.l0 k2 l1 (wrap64 (X+1)) O J Z O (wrap64 (J+1)) cy)=some (r1,r2,r3):=by first|(rw[bk];with_reducible exact H)|(have H2_:=(Option.bind_some _ _).symm.trans H;rw[bk];with_reducible exact H2_)|(have H2_:=(Option.bind_some _ _).symm.trans H;with_reducible exact H2_)|with_reducible exact H|(rw[bk];exact H)|exact H
           have fa:=aK bk;clear bk;have H':=aK H;clear H;have gf:=af.out;have gl:=aq.out;obtain⟨dn,dp,dq,d4,d5,d6⟩:=cell3 D
           try go_wp2_with (first|((with_reducible refine gC 38 rfl ?_);refine cG (some 40) Tryd.func38 #[.agg #[.int .i64 O,.int .i64 J,.slice ah Z.length ai],.int .i64 X] ?_;(with_reducible refine(recoupref03_Row.calls k2 O J _ _ Z X aj fz _ ?side1 ?side2 f3.out).mono ?_);(case side1=>exact kcB cp HB);(case side2=>exact co.out);rintro e gs ⟨g8,rfl,da,hb⟩;refine⟨_,rfl,?_⟩;have U:=aK (Kd.R_lower (Kd.R_new' da (Kd.R_lt (kdA HO_432002.out))) (below_size (hbA HB.out)));replace HO_432002:=aK (Kd.R_elder' (kdA HO_432002.out) (Kd.R_base da) hb);replace D:=bkB D hb;replace G:=bkB G hb;replace HB:=hbB HB hb;(try clear hb);(try clear da);obtain⟨au,av,fj⟩:=Kd.R_slice HO_432002.out;subst fj;obtain⟨ax,ay,fk⟩:=Kd.R_slice U.out;subst fk))
           replace HO_432002:=aK (Kd.R_drew HO_432002.out);replace U:=aK (Kd.R_drew U.out);replace D:=aK (blk_drew D.out);replace G:=aK (blk_drew G.out);replace HB:=aK (below_drew1 HB.out);have cw:0≤(X:Int):=of_decide_eq_true asE;have cx:X<(l1.length:Int):=of_decide_eq_true asE;obtain⟨ct,fh,an⟩:=Kd.at_int ga.out X cw cx;have ac:=an
           cases fh
           replace an:=(HB.out.cell (World.block_lt_of_cell? w _ an)).trans an;replace cw:=eq_true cw;replace cx:=eq_true cx;refine start_ (n:=12) (S:=fun w'=>w'.cell? ⟨ab,0,none⟩=some (.int .i64 O)∧w'.cell? ⟨ab,1,none⟩=some (.int .i64 (wrap64 (J+1)))∧w'.cell? ⟨ab,2,none⟩=some (.slice au I.length av)∧w'.cell? (ct.add (X).toNat)=some (.int .u8 (rd l1 X))) (ds:= [11]) (.replicate 12 false) zab rfl rfl ⟨(blk_cell G.out 0).trans rfl,(blk_cell G.out 1).trans rfl,(blk_cell G.out 2).trans rfl,((HB.out.cell (World.block_lt_of_cell? w _ ac)).trans ac)⟩ (fun hHeld=>?_);refine with_tabW recoupref04_Solve.tab8 recoupref04_Solve.bits8 (fun HT_ HW_=>?_);generalize gs.drew=iq at HO_432002 U D G HB an hHeld⊢;refine pu 0 (some 43) (mB 12 1) HT_ ?_;refine pu 2 (some 45) (mB 12 5) HT_ ?_;refine pu 4 (some 47) (mB 12 21) HT_ ?_;refine pu 5 (some 48) (mB 12 53) HT_ ?_;refine pu 6 (some 49) (mB 12 117) HT_ ?_;refine tk4 1 (some 44) (mB 12 119) HT_ HW_ hHeld ?_;refine tk4 7 (some 50) (mB 12 247) HT_ HW_ hHeld ?_;refine join_ (σ:=Value×Value) 3 (mB 12 511) (fun s_=> [(46,s_.1),(51,s_.2)]) (fun s_ w'=>(w'.cell? ⟨ab,0,none⟩=some (.int .i64 O)∧w'.cell? ⟨ab,1,none⟩=some (.int .i64 (wrap64 (J+1)))∧w'.cell? ⟨ab,2,none⟩=some (.slice au I.length av)∧w'.cell? (ct.add (X).toNat)=some (.int .u8 (rd l1 X)))∧(Kd.R (Kd.int .u8) 5 w' w.heap.size (fun k_=>some k_≠(s_.1:Value).ownBlock∧some k_≠(s_.2:Value).ownBlock) (.slice ax aj.length ay) aj)∧(Kd.R (Kd.int .u8) 5 w' w.heap.size (fun k_=>some k_≠(.slice ax aj.length ay:Value).ownBlock∧some k_≠(s_.2:Value).ownBlock) s_.1 a5)∧(Kd.R (Kd.int .u8) 5 w' w.heap.size (fun k_=>some k_≠(.slice ax aj.length ay:Value).ownBlock∧some k_≠(s_.1:Value).ownBlock) s_.2 aw)∧(w'.heap[ae]? =some (.cells #[.int .i64 O,.int .i64 J,.slice ah Z.length ai] 24 (0,0)))∧(w'.heap[ab]? =some (.cells #[.int .i64 O,.int .i64 (wrap64 (J+1)),.slice au I.length av] 24 (0,0)))∧(Below w.heap.size w w')) ?_ ?_;rotate_left
           ·intro hCont;refine two_ (i:=3) (j:=8) (Ni:=some 46) (Nj:=some 51) (mB 12 255) (mB 12 503) rfl rfl rfl rfl (two_of HT_.out zab) zaa zaa (fun K hK=>?_) (fun K hK=>?_)
            ·skip
             refine Kd.R_append_rows_step (Kd.int .u8) (w0:=w) w.heap.size zad (.tmp 44) (.tmp 45) 22 5 (.int .u8 0) 1 rfl Tryd.underlying22 info5 rfl zaa zz (.slice au I.length av) I aj _ _ _ (fun k_=>some k_≠(.slice ax aj.length ay:Value).ownBlock) (fun _=>False) rfl rfl ?aO ?aR (fun _ _ h=>h) (fun _ h=>h.elim) ?aF ?aB ?aS ?aL ?_
             (case aR=>exact kcA (Kd.R_reads' U.out).2.2)
             (case aB=>exact(hbA HB.out))
             (case aF=>exact(fun k_ hk=>Kd.fresh' (Kd.R_lt (kdA U.out)) k_ hk))
             (case aO=>exact(by(with_reducible repeat(first|apply Kd.R_alloc|apply Kd.R_drewN|apply Kd.R_drew));exact Kd.R_mono HO_432002.out (fun _ hk=>hk.2)))
             (case aS=>exact(below_size (hbA HB.out)))
             (case aL=>have:=dd.out;omega)
             intro a6 gt ho hb hg hat;rw[←de.out]at ho
             have n0_:=aK (blk_grown (g:=ae) (o:= .cells #[.int .i64 O,.int .i64 J,.slice ah Z.length ai] 24 (0,0)) (bkA D.out) hg (Kd.R_ne HO_432002.out D.out zaa));have n1_:=aK (blk_grown (g:=ab) (o:= .cells #[.int .i64 O,.int .i64 (wrap64 (J+1)),.slice au I.length av] 24 (0,0)) (bkA G.out) hg (Kd.R_ne HO_432002.out G.out zaa));have n2_:=aK (Kd.R_after (ok:=(fun _=>True)) (kdA U.out) hg hat);have n3_:=aK (hb);have n4_:=aK (ho);clear D;clear G;clear U;clear HB;clear HO_432002;have D:=n0_;have G:=n1_;have U:=n2_;have HB:=n3_;have ak:=n4_;clear n0_ n1_ n2_ n3_ n4_;clear ho hb hg hat;refine hK.out _ _ ⟨(blk_cell G.out 0).trans rfl,(blk_cell G.out 1).trans rfl,(blk_cell G.out 2).trans rfl,((HB.out.cell (World.block_lt_of_cell? w _ ac)).trans ac)⟩ (fun hHeld=>?_);clear hK K;refine znm (some 46) ?_;refine zoh 8 (some 51) (mB 12 511) HT_ fun K hK=>?_;refine Kd.R_lit_step (Kd.int .u8) _ 5 ?hg (N:=51) ?hd (xs:=([rd l1 X]:List Int)) (inner:= [.int .u8 (rd l1 X)]) (ok:=fun _=>True) (okp:=fun _=>True) ?hr ?hp (fun _ hk=>hk) trivial (Below.refl _ _) (Nat.le_refl _) zac ?_;(case hd=>rfl);(case hg=>rfl);(case hr=>first|(go_simp;done)|(go_simp;rfl));(case hp=>exact(Reps.one (show Kd.M (Kd.int .u8) _ _ _ (rd l1 X) [.int .u8 (rd l1 X)]from rfl) (Reps.none _ _)))
             intro a4 ir bh hb hg_ hnew_;clear hg_ hnew_
             (first|rw[←bs.out]at bh|(simp only[Int.reduceToNat]at bh;rw[←bs.out]at bh))
             have ag:=aK (Kd.R_lower (Kd.R_new' (Kd.R_new' bh (Kd.R_lt (kdA U.out))) (Kd.R_lt (kdA ak.out))) (below_size (hbA HB.out)));replace U:=aK (Kd.R_elder' (kdA U.out) (Kd.R_base bh) hb);replace ak:=aK (Kd.R_elder' (kdA ak.out) (Kd.R_base bh) hb);replace D:=bkB D hb;replace G:=bkB G hb;replace HB:=hbB HB hb;clear hb bh;refine hK.out _ _ ⟨(blk_cell G.out 0).trans rfl,(blk_cell G.out 1).trans rfl,(blk_cell G.out 2).trans rfl,((HB.out.cell (World.block_lt_of_cell? w _ ac)).trans ac)⟩ (fun hHeld=>?_);clear hK K;refine znm (some 51) ?_;exact norm_ zap (hCont (a6,a4) _ ⟨hHeld,(by(with_reducible repeat(first|apply Kd.R_alloc|apply Kd.R_drewN|apply Kd.R_drew));exact Kd.R_mono U.out (fun _ hk=>⟨hk.1.2,hk.2⟩)),(kdA ak.out),(by(with_reducible repeat(first|apply Kd.R_alloc|apply Kd.R_drewN|apply Kd.R_drew));exact Kd.R_mono ag.out (fun _ hk=>⟨hk.1.2,hk.2⟩)),(bkA D.out),(bkA G.out),(hbA HB.out)⟩)
            ·skip
             refine Kd.R_lit_step (Kd.int .u8) _ 5 ?hg (N:=51) ?hd (xs:=([rd l1 X]:List Int)) (inner:= [.int .u8 (rd l1 X)]) (ok:=fun _=>True) (okp:=fun _=>True) ?hr ?hp (fun _ hk=>hk) trivial (Below.refl _ _) (Nat.le_refl _) zac ?_;(case hd=>rfl);(case hg=>rfl);(case hr=>first|(go_simp;done)|(go_simp;rfl));(case hp=>exact(Reps.one (show Kd.M (Kd.int .u8) _ _ _ (rd l1 X) [.int .u8 (rd l1 X)]from rfl) (Reps.none _ _)))
             intro a4 gt bg hb hg_ hnew_;clear hg_ hnew_
             (first|rw[←bs.out]at bg|(simp only[Int.reduceToNat]at bg;rw[←bs.out]at bg))
             have ag:=aK (Kd.R_lower (Kd.R_new' (Kd.R_new' bg (Kd.R_lt (kdA HO_432002.out))) (Kd.R_lt (kdA U.out))) (below_size (hbA HB.out)));replace HO_432002:=aK (Kd.R_elder' (kdA HO_432002.out) (Kd.R_base bg) hb);replace U:=aK (Kd.R_elder' (kdA U.out) (Kd.R_base bg) hb);replace D:=bkB D hb;replace G:=bkB G hb;replace HB:=hbB HB hb;clear hb bg;refine hK.out _ _ ⟨(blk_cell G.out 0).trans rfl,(blk_cell G.out 1).trans rfl,(blk_cell G.out 2).trans rfl,((HB.out.cell (World.block_lt_of_cell? w _ ac)).trans ac)⟩ (fun hHeld=>?_);clear hK K;refine znm (some 51) ?_;refine zoh 3 (some 46) (mB 12 511) HT_ fun K hK=>?_;refine Kd.R_append_rows_step (Kd.int .u8) (w0:=w) w.heap.size zad (.tmp 44) (.tmp 45) 22 5 (.int .u8 0) 1 rfl Tryd.underlying22 info5 rfl zaa zz (.slice au I.length av) I aj _ _ _ (fun k_=>some k_≠(.slice ax aj.length ay:Value).ownBlock∧some k_≠(a4:Value).ownBlock) (fun _=>False) rfl rfl ?aO ?aR (fun _ _ h=>h) (fun _ h=>h.elim) ?aF ?aB ?aS ?aL ?_
             (case aR=>exact kcA (Kd.R_reads' U.out).2.2)
             (case aB=>exact(hbA HB.out))
             (case aF=>exact(fun k_ hk=>⟨Kd.fresh' (Kd.R_lt (kdA U.out)) k_ hk,Kd.fresh' (Kd.R_lt (kdA ag.out)) k_ hk⟩))
             (case aO=>exact(by(with_reducible repeat(first|apply Kd.R_alloc|apply Kd.R_drewN|apply Kd.R_drew));exact Kd.R_mono HO_432002.out (fun _ hk=>⟨hk.1.2,hk.2⟩)))
             (case aS=>exact(below_size (hbA HB.out)))
             (case aL=>have:=dd.out;omega)
             intro a6 it ho hb hg hat;rw[←de.out]at ho
             have n0_:=aK (blk_grown (g:=ae) (o:= .cells #[.int .i64 O,.int .i64 J,.slice ah Z.length ai] 24 (0,0)) (bkA D.out) hg (Kd.R_ne HO_432002.out D.out zaa));have n1_:=aK (blk_grown (g:=ab) (o:= .cells #[.int .i64 O,.int .i64 (wrap64 (J+1)),.slice au I.length av] 24 (0,0)) (bkA G.out) hg (Kd.R_ne HO_432002.out G.out zaa));have n2_:=aK (Kd.R_after (ok:=(fun k_=>some k_≠(a4:Value).ownBlock)) (by(with_reducible repeat(first|apply Kd.R_alloc|apply Kd.R_drewN|apply Kd.R_drew));exact Kd.R_mono U.out (fun _ hk=>⟨hk.2,hk.1.2⟩)) hg hat);have n3_:=aK (Kd.R_after (ok:=(fun k_=>some k_≠(.slice ax aj.length ay:Value).ownBlock)) (by(with_reducible repeat(first|apply Kd.R_alloc|apply Kd.R_drewN|apply Kd.R_drew));exact Kd.R_mono ag.out (fun _ hk=>⟨hk.2,hk.1.2⟩)) hg hat);have n4_:=aK (hb);have n5_:=aK (ho);clear D;clear G;clear U;clear ag;clear HB;clear HO_432002;have D:=n0_;have G:=n1_;have U:=n2_;have ag:=n3_;have HB:=n4_;have ak:=n5_;clear n0_ n1_ n2_ n3_ n4_ n5_;clear ho hb hg hat;refine hK.out _ _ ⟨(blk_cell G.out 0).trans rfl,(blk_cell G.out 1).trans rfl,(blk_cell G.out 2).trans rfl,((HB.out.cell (World.block_lt_of_cell? w _ ac)).trans ac)⟩ (fun hHeld=>?_);clear hK K;refine znm (some 46) ?_;exact norm_ zap (hCont (a6,a4) _ ⟨hHeld,(by(with_reducible repeat(first|apply Kd.R_alloc|apply Kd.R_drewN|apply Kd.R_drew));exact Kd.R_mono U.out (fun _ hk=>⟨hk.2,hk.1⟩)),(kdA ak.out),(kdA ag.out),(bkA D.out),(bkA G.out),(hbA HB.out)⟩)
           rintro⟨a6,a4⟩ bq ⟨hS_,h0_,h1_,h2_,h3_,h4_,h5_⟩;have n0_:Aside0 (Kd.R (Kd.int .u8) 5 bq w.heap.size (fun k_=>some k_≠(a6:Value).ownBlock∧some k_≠(a4:Value).ownBlock) (.slice ax aj.length ay) aj):=⟨h0_⟩
           have n1_:Aside0 (Kd.R (Kd.int .u8) 5 bq w.heap.size (fun k_=>some k_≠(.slice ax aj.length ay:Value).ownBlock∧some k_≠(a4:Value).ownBlock) a6 a5):=⟨h1_⟩
           have n2_:Aside0 (Kd.R (Kd.int .u8) 5 bq w.heap.size (fun k_=>some k_≠(.slice ax aj.length ay:Value).ownBlock∧some k_≠(a6:Value).ownBlock) a4 aw):=⟨h2_⟩
           have n3_:Aside0 (bq.heap[ae]? =some (.cells #[.int .i64 O,.int .i64 J,.slice ah Z.length ai] 24 (0,0))):=⟨h3_⟩
           have n4_:Aside0 (bq.heap[ab]? =some (.cells #[.int .i64 O,.int .i64 (wrap64 (J+1)),.slice au I.length av] 24 (0,0))):=⟨h4_⟩
           have n5_:Aside0 (Below w.heap.size w bq):=⟨h5_⟩
           clear HO_432002;clear U;clear D;clear G;clear HB;clear h0_ h1_ h2_ h3_ h4_ h5_;have U:=n0_;have ak:=n1_;have ag:=n2_;have D:=n3_;have G:=n4_;have HB:=n5_;clear n0_ n1_ n2_ n3_ n4_ n5_;have hHeld:bq.cell? ⟨ab,0,none⟩=some (.int .i64 O)∧bq.cell? ⟨ab,1,none⟩=some (.int .i64 (wrap64 (J+1)))∧bq.cell? ⟨ab,2,none⟩=some (.slice au I.length av)∧bq.cell? (ct.add (X).toNat)=some (.int .u8 (rd l1 X)):=hS_;obtain⟨et,ew,ey⟩:=Kd.R_slice ag.out
           (first|subst ey|(injection ey with f1_ f2_ f3_;have f4_:=f1_.symm;have f5_:=f3_.symm;clear f1_ f2_ f3_;subst f4_;subst f5_))
           refine znq ?_;refine zoh 9 (some 52) (mB 12 1023) HT_ fun K hK=>?_;refine Kd.R_append_rows_step (Kd.int .u8) (w0:=w) w.heap.size zad (.tmp 46) (.tmp 51) 22 5 (.int .u8 0) 1 rfl Tryd.underlying22 info5 rfl zaa zz a6 a5 aw _ _ _ (fun k_=>some k_≠(.slice ax aj.length ay:Value).ownBlock∧some k_≠(.slice et aw.length ew:Value).ownBlock) (fun _=>False) rfl rfl ?aO ?aR (fun _ _ h=>h) (fun _ h=>h.elim) ?aF ?aB ?aS ?aL ?_
           (case aR=>exact kcA (Kd.R_reads' ag.out).2.2)
           (case aB=>exact(hbA HB.out))
           (case aF=>exact(fun k_ hk=>⟨Kd.fresh' (Kd.R_lt (kdA U.out)) k_ hk,Kd.fresh' (Kd.R_lt (kdA ag.out)) k_ hk⟩))
           (case aO=>exact(kdA ak.out))
           (case aS=>exact(below_size (hbA HB.out)))
           (case aL=>have:=e9.out;omega)
           intro g9 gu ho hb hg hat;rw[←fa.out]at ho
           have n0_:=aK (blk_grown (g:=ae) (o:= .cells #[.int .i64 O,.int .i64 J,.slice ah Z.length ai] 24 (0,0)) (bkA D.out) hg (Kd.R_ne ak.out D.out zaa));have n1_:=aK (blk_grown (g:=ab) (o:= .cells #[.int .i64 O,.int .i64 (wrap64 (J+1)),.slice au I.length av] 24 (0,0)) (bkA G.out) hg (Kd.R_ne ak.out G.out zaa));have n2_:=aK (Kd.R_after (ok:=(fun k_=>some k_≠(.slice et aw.length ew:Value).ownBlock)) (by(with_reducible repeat(first|apply Kd.R_alloc|apply Kd.R_drewN|apply Kd.R_drew));exact Kd.R_mono U.out (fun _ hk=>⟨hk.2,hk.1⟩)) hg hat);have n3_:=aK (Kd.R_after (ok:=(fun k_=>some k_≠(.slice ax aj.length ay:Value).ownBlock)) (kdA ag.out) hg hat);have n4_:=aK (hb);have n5_:=aK (ho);clear D;clear G;clear U;clear ag;clear HB;clear ak;have D:=n0_;have G:=n1_;have U:=n2_;have ag:=n3_;have HB:=n4_;have db:=n5_;clear n0_ n1_ n2_ n3_ n4_ n5_;clear ho hb hg hat;obtain⟨eu,ex,ez⟩:=Kd.R_slice db.out
           (first|subst ez|(injection ez with f1_ f2_ f3_;have f4_:=f1_.symm;have f5_:=f3_.symm;clear f1_ f2_ f3_;subst f4_;subst f5_))
           refine hK.out _ _ ⟨(blk_cell G.out 0).trans rfl,(blk_cell G.out 1).trans rfl,(blk_cell G.out 2).trans rfl,((HB.out.cell (World.block_lt_of_cell? w _ ac)).trans ac)⟩ (fun hHeld=>?_);clear hK K;refine znm (some 52) ?_;refine pu 10 (some 53) (mB 12 2047) HT_ ?_;refine zlh 11 (none) (mB 12 4095) HT_ fun K hK=>?_;have g5:gu.cell? ⟨ab,2,none⟩=some (.slice au I.length av):=(blk_cell G.out 2).trans rfl;have gc:=blk_frozen G.out 2;have fv:=af.out;have fu:=aq.out;refine zsk ?_;refine hK.out _ _ ?_;clear hK K;refine done_ (done_of HT_.out zab) ?_
           try go_wp2
           go_roundg k2
           case measure=>have:=en.out;have:=eo.out;omega
           case rel=>exact⟨(wrap64 (X+1)),(cy),(.slice eu cy.length ex),rsE,H',⟨by have:=en.out;have:=eo.out;omega⟩,⟨by(with_reducible repeat(first|apply Kd.R_alloc|apply Kd.R_drewN|apply Kd.R_drew));exact Kd.R_mono (Kd.R_far (p:=⟨ab,2,none⟩) (Kd.R_types db.out G.out zaa) (fun _ hk=>hk.2) (.slice eu cy.length ex)) (fun _ hk=>trivial)⟩,⟨by refine bkR ?_;refine blk_far ?_ af.out _;refine bkR ?_;exact D.out⟩,⟨by refine bkR ?_;refine blk_put (cs:= #[.int .i64 O,.int .i64 (wrap64 (J+1)),.slice au I.length av]) ?_ 2 _ rfl;refine bkR ?_;exact G.out⟩,⟨hbA HB.out⟩⟩
          ·rw[if_neg dj]at H
           exact absurd H zac
         ·rw[if_neg di]at H
          exact absurd H zac
        ·rw[if_neg dh]at H
         exact absurd H zac
       ·rw[if_neg dg]at H
        exact absurd H zac
      ·rw[if_neg cu]at H
       have c17b0:decide (X<O)=false:=decide_eq_false cu;clear cu;obtain⟨⟨am,ao,al,aa⟩,f4,H⟩:=bindO H
       (try dsimp only at H)
       by_cases c5:0≤J
       ·rw[if_pos c5]at H
        have c38b0:=eq_true c5;have c38b1:decide (0≤J)=true:=decide_eq_true c5;clear c5;by_cases c7:(J:Int).toNat≤281474976710656
        ·rw[if_pos c7]at H
         have c39b0:=eq_true c7;have c39b1:decide ((J:Int).toNat≤281474976710656)=true:=decide_eq_true c7;clear c7;obtain⟨e3,bl⟩: ∃y_:List Int,y_=(List.replicate (J:Int).toNat 0):=⟨_,rfl⟩
         replace H:(recoupref04_Solve.l1 k2 aa e3 0 O J Z am ao al)=some (r1,r2,r3):=by first|(rw[bl];with_reducible exact H)|(have H2_:=(Option.bind_some _ _).symm.trans H;rw[bl];with_reducible exact H2_)|(have H2_:=(Option.bind_some _ _).symm.trans H;with_reducible exact H2_)|with_reducible exact H|(rw[bl];exact H)|exact H
         have df:=aK bl;clear bl;have H':=aK H;clear H;have gg:=af.out;have gm:=aq.out;obtain⟨dr,dt,du,d7,d8,d9⟩:=cell3 D;obtain⟨dv,dw,dx,ea,eb,ec⟩:=cell3 G;obtain⟨b7,b8,fl⟩:=Kd.R_slice HO_432002.out;subst fl
         go_wp2_with (first|((with_reducible refine gC 85 rfl ?_);refine cG (some 56) Tryd.func85 #[.agg #[.int .i64 O,.int .i64 (wrap64 (J+1)),.slice b7 I.length b8]] ?_;(with_reducible refine(recoupref04_wide.calls k2 O (wrap64 (J+1)) (fun k_=>some k_=(.slice b7 I.length b8:Value).ownBlock) (.slice b7 I.length b8) I am ao al aa w _ ?side1 ?side2 f4.out).mono ?_);(case side1=>repeat(first|(with_reducible first|exact HB.out|apply below_alloc|apply pw_below_drewN|apply below_drew1|refine below_set ?_ e5.out|refine below_set ?_ e6.out)|exact HB.out));(case side2=>exact Kd.R_tight rfl HO_432002.out);rintro e iu ⟨ia,f0,rfl,da,fw,hb,hkp⟩;refine⟨_,rfl,?_⟩;have n0_:=aK (blk_kept (bkA D.out) hkp (fun hs_=>(fun e_=>(Kd.R_ne HO_432002.out D.out zaa) e_) hs_));have n1_:=aK (blk_kept (bkA G.out) hkp (fun hs_=>(fun e_=>(Kd.R_ne HO_432002.out G.out zaa) e_) hs_));have n2_:=aK (Kd.R_mono (ok':=fun k_=>True) da (fun k_ hk_=>trivial));have n3_:=aK (Kd.R_mono (ok':=fun k_=>True) fw (fun k_ hk_=>trivial));have n4_:=aK (hb);clear D;clear G;clear HB;clear HO_432002;have D:=n0_;have G:=n1_;have a0:=n2_;have a7:=n3_;have HB:=n4_;clear n0_ n1_ n2_ n3_ n4_;(try clear hb);(try clear hkp);(try clear da);(try clear fw))|((with_reducible refine gD 11 rfl ?_);(try(refine gate_guard zad ?_;dsimp only));refine bE 11 #[.int .i64 0,.int .i64 0,.slice none 0 0] 24 ?_;intro a9 hg iv hbox hb;replace a0:=kdB a0 hb;replace a7:=kdB a7 hb;have Y:=aK (hbox);have f9:=hbS HB hg;have f6:=hbS HB hg;replace HB:=hbB HB hb;have ap:=neL D hg;have cq:=neG D hg;replace D:=bkB D hb;have ar:=neL G hg;have cr:=neG G hg;replace G:=bkB G hb;clear hb hbox hg;have gh:=cq.out;have gn:=ap.out;have gi:=cr.out;have gp:=ar.out;obtain⟨dy,dz,d0,ed,ee,ef⟩:=cell3 Y;obtain⟨a2,a3,fm⟩:=Kd.R_slice a0.out;subst fm;obtain⟨d1,d2,d3,eg,eh,ei⟩:=cell3 D)|((with_reducible refine gate_dst (N:=61) rfl ?_);(try(refine gate_guard zad ?_;dsimp only));refine Kd.R_make (Kd.int .u8) _ 5 rfl (N:=61) rfl 22 _ _ rfl J rfl rfl Tryd.underlying22 (.int .u8 0) 1 info5 rfl zaa zz 0 (ok:=fun _=>True) (okp:=fun _=>True) rfl (fun _ hk=>hk) trivial (of_decide_eq_true asE) (Nat.le_trans (Nat.mul_le_mul_right _ (of_decide_eq_true asE:J.toNat≤281474976710656)) zz) (Below.refl _ _) (Nat.le_refl _) ?_;intro e2 iw br hb hg_ hnew_;clear hg_ hnew_;(first|rw[←df.out]at br|(simp only[Int.reduceToNat]at br;rw[←df.out]at br));replace a7:=aK (Kd.R_below (by(with_reducible repeat(first|apply Kd.R_alloc|apply Kd.R_drewN|apply Kd.R_drew));exact(zF a7.out Y.out  (.int .i64 am)  (.int .i64 ao)  (.slice a2 al.length a3))) hb);have e8:=aK (Kd.R_lower (Kd.R_new' br (Kd.R_lt (by(with_reducible repeat(first|apply Kd.R_alloc|apply Kd.R_drewN|apply Kd.R_drew));exact(zF a0.out Y.out  (.int .i64 am)  (.int .i64 ao)  (.slice a2 al.length a3))))) (below_size (hbA HB.out)));replace a0:=aK (Kd.R_elder' (by(with_reducible repeat(first|apply Kd.R_alloc|apply Kd.R_drewN|apply Kd.R_drew));exact(zF a0.out Y.out  (.int .i64 am)  (.int .i64 ao)  (.slice a2 al.length a3))) (Kd.R_base br) hb);replace D:=aK (blk_below (g:=ae) (o:= .cells #[.int .i64 O,.int .i64 J,.slice ah Z.length ai] 24 (0,0)) (by refine bkR ?_;refine blk_far ?_ ap.out _;refine bkR ?_;refine blk_far ?_ ap.out _;refine bkR ?_;refine blk_far ?_ ap.out _;refine bkR ?_;exact D.out) hb);replace G:=aK (blk_below (g:=ab) (o:= .cells #[.int .i64 O,.int .i64 (wrap64 (J+1)),.slice b7 I.length b8] 24 (0,0)) zas hb);replace Y:=aK (blk_below (g:=a9) (o:= .cells #[.int .i64 am,.int .i64 ao,.slice a2 al.length a3] 24 (0,0)) (by refine bkR ?_;refine blk_put (cs:= #[.int .i64 am,.int .i64 ao,.slice none 0 0]) ?_ 2 _ rfl;refine bkR ?_;refine blk_put (cs:= #[.int .i64 am,.int .i64 0,.slice none 0 0]) ?_ 1 _ rfl;refine bkR ?_;refine blk_put (cs:= #[.int .i64 0,.int .i64 0,.slice none 0 0]) ?_ 0 _ rfl;refine bkR ?_;exact Y.out) hb);replace HB:=hbB HB hb;clear hb br))
         go_loopg [14] k2 (fun kq gq w'=> ∃(a1:List Int) (L:Int),gq= .int .i64 L∧Aside0 (recoupref04_Solve.l1 kq aa a1 L O J Z am ao al=some (r1,r2,r3))∧Aside0 (kq≤k2)∧Aside0 (Kd.R (Kd.int .i64) 3 w' w.heap.size (fun _=>True) f0 aa)∧Aside0 (Kd.R (Kd.int .u8) 5 w' w.heap.size (fun k_=>some k_≠((.slice a2 al.length a3):Value).ownBlock) e2 a1)∧Aside0 (Kd.R (Kd.int .u8) 5 w' w.heap.size (fun k_=>some k_≠(e2:Value).ownBlock) (.slice a2 al.length a3) al)∧Aside0 (w'.heap[ae]? =some (.cells #[.int .i64 O,.int .i64 J,(.slice ah Z.length ai)] 24 (0,0)))∧Aside0 (w'.heap[ab]? =some (.cells #[.int .i64 O,.int .i64 (wrap64 (J+1)),(.slice b7 I.length b8)] 24 (0,0)))∧Aside0 (w'.heap[a9]? =some (.cells #[.int .i64 am,.int .i64 ao,(.slice a2 al.length a3)] 24 (0,0)))∧Aside0 (Below w.heap.size w w'))
         case atStart=>exact⟨(e3),(0),rsE,H',⟨Nat.le_refl _⟩,⟨kdA a7.out⟩,⟨by(with_reducible repeat(first|apply Kd.R_alloc|apply Kd.R_drewN|apply Kd.R_drew));exact Kd.R_mono e8.out (fun _ hk=>hk.2)⟩,⟨by(with_reducible repeat(first|apply Kd.R_alloc|apply Kd.R_drewN|apply Kd.R_drew));exact Kd.R_mono a0.out (fun _ hk=>hk.2)⟩,⟨bkA D.out⟩,⟨bkA G.out⟩,⟨bkA Y.out⟩,⟨hbA HB.out⟩⟩
         case round=>
          clear H'
          (try clear c1);(try clear c2);(try clear p2 p2);(try clear c3);(try clear c4);(try clear p4);(try clear q4);(try clear il);(try clear c6);(try clear p6 p6);(try clear c8);(try clear cz);(try clear gb);(try clear cu);(try clear c17b0);(try clear dg);(try clear dh);(try clear c20b0);(try clear di);(try clear c21b0);(try clear dj);(try clear ic);(try clear ie);(try clear c5);(try clear c38b0);(try clear c38b1);(try clear c7);(try clear c39b0);(try clear c39b1);(try clear ig);(try clear p43);(try clear im);(try clear g7);(try clear ii);(try clear ij);(try clear ba bb bc bd be bf);(try clear b9 ca cb cg ch ci);(try clear cd ce cf cj ck cl);(try clear dn dp dq d4 d5 d6);(try clear dr dt du d7 d8 d9);(try clear dv dw dx ea eb ec);(try clear dy dz d0 ed ee ef);(try clear d1 d2 d3 eg eh ei);(try clear bt bu bv b0 b1 b2);(try clear bw bx bz b3 b4 b5);(try clear an);(try clear cw);(try clear cx)
          obtain⟨a1,L,rfl,HA,ff,HO_12,HO_13,HO_455002,D,G,Y,HB⟩:=hrel
          cases gk with
          |zero=>exact absurd HA.out (by simp[recoupref04_Solve.l1])
          |succ k3=>
           have H:=HA.out;clear HA;simp only[recoupref04_Solve.l1]at H;by_cases c9:L<(aa.length:Int)
           ·rw[if_pos c9]at H
            have c53b0:decide (L<(aa.length:Int))=true:=decide_eq_true c9;clear c9;by_cases ep:0≤L
            ·rw[if_pos ep]at H
             have c54b0:decide (0≤L)=true:=decide_eq_true ep;clear ep;by_cases cv:(rd aa L)=J
             ·rw[if_pos cv]at H
              have c55b0:((rd aa L)==J)=true:=beq_iff_eq.mpr cv;have c55b1:((rd aa L)!=J)=false:=bne_eq_false_iff_eq.mpr cv;clear cv;simp only[Option.some.injEq,Prod.mk.injEq]at H;obtain⟨rfl,rfl,rfl⟩:=H;obtain⟨gw,g1,fo⟩:=Kd.R_slice HO_12.out;subst fo
              try go_wp2
              replace HO_12:=aK (Kd.R_drew HO_12.out);replace HO_13:=aK (Kd.R_drew HO_13.out);replace HO_455002:=aK (Kd.R_drew HO_455002.out);replace D:=aK (blk_drew D.out);replace G:=aK (blk_drew G.out);replace Y:=aK (blk_drew Y.out);replace HB:=aK (below_drew1 HB.out);have bn:0≤(L:Int):=of_decide_eq_true asE;have bo:L<(aa.length:Int):=of_decide_eq_true asE;obtain⟨a8,dk,az⟩:=Kd.at_int (Kd.R_reads' HO_12.out).2.2 L bn bo
              cases dk
              replace bn:=eq_true bn;replace bo:=eq_true bo;refine start_ (n:=7) (S:=fun w'=>w'.cell? ⟨ae,0,none⟩=some (.int .i64 O)∧w'.cell? ⟨ae,1,none⟩=some (.int .i64 J)∧w'.cell? ⟨ae,2,none⟩=some (.slice ah Z.length ai)∧w'.cell? (a8.add (L).toNat)=some (.int .i64 (rd aa L))) (ds:= []) (.replicate 7 false) zab rfl rfl ⟨(blk_cell D.out 0).trans rfl,(blk_cell D.out 1).trans rfl,(blk_cell D.out 2).trans rfl,az⟩ (fun hHeld=>?_);generalize wr.drew=ix at HO_12 HO_13 HO_455002 D G Y HB az hHeld⊢;refine zpu 0 (some 68) (mB 7 1) ?_;refine zpu 1 (some 69) (mB 7 3) ?_;refine zpu 2 (some 70) (mB 7 7) ?_;refine zpu 4 (some 72) (mB 7 23) ?_;refine ztk4 3 (some 71) (mB 7 31) hHeld ?_;refine ztk4 5 (some 73) (mB 7 63) hHeld ?_;refine zpu 6 (some 74) (mB 7 127) ?_;refine done_ zab ?_
              try go_wp2
              go_ret3
              exact⟨_,rfE,nilE,hbA HB.out⟩
             ·rw[if_neg cv]at H
              have c55b0:((rd aa L)==J)=false:=beq_eq_false_iff_ne.mpr cv;have c55b1:((rd aa L)!=J)=true:=bne_iff_ne.mpr cv;obtain⟨cn,f5,H⟩:=bindO H
              (try dsimp only at H)
              by_cases er:0≤(rd aa L)
              ·rw[if_pos er]at H
               have c59b0:decide (0≤(rd aa L))=true:=decide_eq_true er;clear er;by_cases es:(rd aa L)<(a1.length:Int)
               ·rw[if_pos es]at H
                have c60b0:decide ((rd aa L)<(a1.length:Int))=true:=decide_eq_true es;clear es;obtain⟨e4,bm⟩: ∃y_:List Int,y_=(a1.set ((rd aa L):Int).toNat cn):=⟨_,rfl⟩
                replace H:(recoupref04_Solve.l1 k3 aa e4 (wrap64 (L+1)) O J Z am ao al)=some (r1,r2,r3):=by first|(rw[bm];with_reducible exact H)|(have H2_:=(Option.bind_some _ _).symm.trans H;rw[bm];with_reducible exact H2_)|(have H2_:=(Option.bind_some _ _).symm.trans H;with_reducible exact H2_)|with_reducible exact H|(rw[bm];exact H)|exact H
                have fb:=aK bm;clear bm;have H':=aK H;clear H;obtain⟨gx,g3,fp⟩:=Kd.R_slice HO_12.out;subst fp
                try go_wp2
                replace HO_12:=aK (Kd.R_drew HO_12.out);replace HO_13:=aK (Kd.R_drew HO_13.out);replace HO_455002:=aK (Kd.R_drew HO_455002.out);replace D:=aK (blk_drew D.out);replace G:=aK (blk_drew G.out);replace Y:=aK (blk_drew Y.out);replace HB:=aK (below_drew1 HB.out);have bn:0≤(L:Int):=of_decide_eq_true asE;have bo:L<(aa.length:Int):=of_decide_eq_true asE;obtain⟨a8,dk,az⟩:=Kd.at_int (Kd.R_reads' HO_12.out).2.2 L bn bo
                cases dk
                replace bn:=eq_true bn;replace bo:=eq_true bo;refine start_ (n:=7) (S:=fun w'=>w'.cell? ⟨ae,0,none⟩=some (.int .i64 O)∧w'.cell? ⟨ae,1,none⟩=some (.int .i64 J)∧w'.cell? ⟨ae,2,none⟩=some (.slice ah Z.length ai)∧w'.cell? (a8.add (L).toNat)=some (.int .i64 (rd aa L))) (ds:= []) (.replicate 7 false) zab rfl rfl ⟨(blk_cell D.out 0).trans rfl,(blk_cell D.out 1).trans rfl,(blk_cell D.out 2).trans rfl,az⟩ (fun hHeld=>?_);generalize wr.drew=gv at HO_12 HO_13 HO_455002 D G Y HB az hHeld⊢;refine zpu 0 (some 68) (mB 7 1) ?_;refine zpu 1 (some 69) (mB 7 3) ?_;refine zpu 2 (some 70) (mB 7 7) ?_;refine zpu 4 (some 72) (mB 7 23) ?_;refine ztk4 3 (some 71) (mB 7 31) hHeld ?_;refine ztk4 5 (some 73) (mB 7 63) hHeld ?_;refine zpu 6 (some 74) (mB 7 127) ?_;refine done_ zab ?_
                try go_wp2
                replace HO_12:=aK (Kd.R_drew HO_12.out);replace HO_13:=aK (Kd.R_drew HO_13.out);replace HO_455002:=aK (Kd.R_drew HO_455002.out);replace D:=aK (blk_drew D.out);replace G:=aK (blk_drew G.out);replace Y:=aK (blk_drew Y.out);replace HB:=aK (below_drew1 HB.out);have ek:0≤(L:Int):=of_decide_eq_true asE;have el:L<(aa.length:Int):=of_decide_eq_true asE;obtain⟨fc,fi,cm⟩:=Kd.at_int (Kd.R_reads' HO_12.out).2.2 L ek el;obtain rfl:a8=fc:=(by injection fi)
                replace ek:=eq_true ek;replace el:=eq_true el;refine start_ (n:=12) (S:=fun w'=>w'.cell? ⟨a9,0,none⟩=some (.int .i64 am)∧w'.cell? ⟨a9,1,none⟩=some (.int .i64 ao)∧w'.cell? ⟨a9,2,none⟩=some (.slice a2 al.length a3)∧w'.cell? ⟨ae,0,none⟩=some (.int .i64 O)∧w'.cell? ⟨ae,1,none⟩=some (.int .i64 J)∧w'.cell? ⟨ae,2,none⟩=some (.slice ah Z.length ai)∧w'.cell? (a8.add (L).toNat)=some (.int .i64 (rd aa L))) (ds:= [11]) (.replicate 12 false) zab rfl rfl ⟨(blk_cell Y.out 0).trans rfl,(blk_cell Y.out 1).trans rfl,(blk_cell Y.out 2).trans rfl,(blk_cell D.out 0).trans rfl,(blk_cell D.out 1).trans rfl,(blk_cell D.out 2).trans rfl,cm⟩ (fun hHeld=>?_);refine with_tabW recoupref04_Solve.tab16 recoupref04_Solve.bits16 (fun HT_ HW_=>?_);generalize gv.drew=w64 at HO_12 HO_13 HO_455002 D G Y HB cm hHeld⊢;refine pu 0 (some 75) (mB 12 1) HT_ ?_;refine pu 1 (some 76) (mB 12 3) HT_ ?_;refine pu 2 (some 77) (mB 12 7) HT_ ?_;refine pu 3 (some 78) (mB 12 15) HT_ ?_;refine pu 6 (some 81) (mB 12 79) HT_ ?_;refine pu 7 (some 82) (mB 12 207) HT_ ?_;refine tk7 4 (some 79) (mB 12 223) HT_ HW_ hHeld ?_;refine tk7 5 (some 80) (mB 12 255) HT_ HW_ hHeld ?_;refine tk7 8 (some 83) (mB 12 511) HT_ HW_ hHeld ?_;refine zoh 9 (some 84) (mB 12 1023) HT_ fun K hK=>?_;refine goes_ Tryd.func40 zab rfl #[.agg #[.int .i64 am,.int .i64 ao,.slice a2 al.length a3],.int .i64 L,.int .i64 J] zad rfl rfl (by(try simp only[List.map_toArray,List.map_cons,List.map_nil]);first|done|rfl|(simp only[List.length_drop,List.length_take];rfl)) ?_;with_reducible refine(recoupref03_At.calls am ao _ _ al L J cn _ ?side1 ?side2 f5.out).mono ?_
                (case side1=>exact kcA (Kd.R_reads' HO_455002.out).2.2)
                (case side2=>exact(Kd.R_reads' HO_455002.out).2.1)
                rintro e iy ⟨rfl,hb⟩;have HS6_:=(hb.cell (World.block_lt_of_cell? _ _ (hHeld.2.2.2.2.2.2))).trans (hHeld.2.2.2.2.2.2);refine⟨_,rfl,?_⟩;replace HO_12:=kdB HO_12 hb;replace HO_13:=kdB HO_13 hb;replace HO_455002:=kdB HO_455002 hb;replace D:=bkB D hb;replace G:=bkB G hb;replace Y:=bkB Y hb;replace HB:=hbB HB hb
                (try clear hb)
                (try clear ik)
                (try clear hk)
                (try clear hi)
                have p61:0≤((rd aa L):Int):=of_decide_eq_true asE;have fd:((rd aa L):Int)<((a1.length:Int):Int):=of_decide_eq_true asE;obtain⟨dl,g2,e0,e1,fs,g0,ev⟩:=Kd.R_form HO_13.out zz
                (first|cases e0|(injection e0 with ea_ en_ ec_;(first|subst ea_|(injection ea_ with ea_;subst ea_));subst ec_;clear en_))
                have gz:=aK e1;have fe:=aK ev;clear e1 fs ev;obtain⟨f2,f1⟩:=Kd.R_celln 0 HO_13.out ((rd aa L):Int) p61 fd;replace p61:=eq_true p61;replace fd:=eq_true fd;have dc:=Kd.R_putn HO_13.out ((rd aa L):Int) cn;rw[←fb.out]at dc
                have fg:=aK dc;clear dc;refine hK.out _ _ ⟨(blk_cell Y.out 0).trans rfl,(blk_cell Y.out 1).trans rfl,(blk_cell Y.out 2).trans rfl,(blk_cell D.out 0).trans rfl,(blk_cell D.out 1).trans rfl,(blk_cell D.out 2).trans rfl,HS6_⟩ (fun hHeld=>?_);clear hK K;refine znm (some 84) ?_;refine pu 10 (some 85) (mB 12 2047) HT_ ?_;refine zlh 11 (none) (mB 12 4095) HT_ fun K hK=>?_;refine zsk ?_;refine hK.out _ _ ?_;clear hK K;refine done_ (done_of HT_.out zab) ?_
                try go_wp2
                go_roundg k3
                case measure=>have:=en.out;have:=eo.out;have:=ff.out;omega
                case rel=>exact⟨(e4),(wrap64 (L+1)),rsE,H',⟨by have:=en.out;have:=eo.out;have:=ff.out;omega⟩,⟨by(with_reducible repeat(first|apply Kd.R_alloc|apply Kd.R_drewN|apply Kd.R_drew));exact Kd.R_mono (Kd.R_far (p:=⟨dl,((rd aa L):Int).toNat,none⟩) (Kd.R_types HO_12.out fe.out zaa) (fun _ hk=>hk.2) (.int .u8 cn)) (fun _ hk=>trivial)⟩,⟨kdA fg.out⟩,⟨by(with_reducible repeat(first|apply Kd.R_alloc|apply Kd.R_drewN|apply Kd.R_drew));exact Kd.R_mono (Kd.R_far (p:=⟨dl,((rd aa L):Int).toNat,none⟩) (Kd.R_mono HO_455002.out (fun k_ hk=>(⟨hk,fun e_=>hk zaf⟩:_∧k_≠dl))) (fun _ hk=>hk.2) (.int .u8 cn)) (fun _ hk=>hk.1)⟩,⟨by refine bkR ?_;refine blk_far ?_ (by have h_:=Kd.R_ne HO_13.out D.out zaa;intro e_;exact h_ zaf) _;refine bkR ?_;exact D.out⟩,⟨by refine bkR ?_;refine blk_far ?_ (by have h_:=Kd.R_ne HO_13.out G.out zaa;intro e_;exact h_ zaf) _;refine bkR ?_;exact G.out⟩,⟨by refine bkR ?_;refine blk_far ?_ (by have h_:=Kd.R_ne HO_13.out Y.out zaa;intro e_;exact h_ zaf) _;refine bkR ?_;exact Y.out⟩,⟨hbA HB.out⟩⟩
               ·rw[if_neg es]at H
                exact absurd H zac
              ·rw[if_neg er]at H
               exact absurd H zac
            ·rw[if_neg ep]at H
             exact absurd H zac
           ·rw[if_neg c9]at H
            have c53b0:decide (L<(aa.length:Int))=false:=decide_eq_false c9;clear c9;simp only[Option.some.injEq,Prod.mk.injEq]at H;obtain⟨rfl,rfl,rfl⟩:=H;obtain⟨gy,g4,fq⟩:=Kd.R_slice HO_12.out;subst fq;go_wp2
            go_ret3
            exact⟨_,rfE,by(with_reducible repeat(first|apply Kd.R_alloc|apply Kd.R_drewN|apply Kd.R_drew));exact Kd.R_mono HO_13.out (fun _ hk=>trivial),hbA HB.out⟩
        ·rw[if_neg c7]at H
         exact absurd H zac
       ·rw[if_neg c5]at H
        exact absurd H zac
end Go.Proofs.YtkagobkedifhkaaDoor.Q
namespace Go.Proofs.YtkagobkedifhkaaDoor.Q
open Go.RowKit Go.Proofs.YtkagobkedifhkaaDoorW.PrintWords Go.Proofs.YtkagobkedifhkaaDoorW.PrintLast Go.Proofs.YtkagobkedifhkaaDoorW.PrintMore
attribute [local go_sem] max2_int min2_int max_two min_two max_three min_three max_four min_four
set_option linter.unusedVariables false
set_option linter.unusedSimpArgs false
mutual
def recoupref04_Combine.j0:Nat→List Int→Bool→Int→Int→List Int→Option (List Int×Bool×Int)
 |0,_,_,_,_,_=>none
 |k+1,x1,X,D,G,I=>if X=true then(some (([]:List Int),false,3))else((recoupref04_First.f k D G I).bind fun O=>((recoupref03_Pick.f k D G I O.1).bind fun J=>((recoupref03_Transpose.f k J.1 J.2.1 J.2.2.1).bind fun L=>((recoupref04_Solve.f k L.1 L.2.1 L.2.2.1 x1).bind fun U=>(if U.2.1=true then(if 0≤D then(if(D:Int).toNat≤281474976710656 then(recoupref04_Combine.l0 k O.1 U.1 (List.replicate (D:Int).toNat 0) 0)else(none))else(none))else(some (([]:List Int),false,0)))))))
def recoupref04_Combine.l0:Nat→List Int→List Int→List Int→Int→Option (List Int×Bool×Int)
 |0,_,_,_,_=>none
 |k+1,x7,G,I,D=>if D<(x7.length:Int)then(if 0≤D then(if D<(G.length:Int)then(if 0≤(rd x7 D)then(if(rd x7 D)<(I.length:Int)then(recoupref04_Combine.l0 k x7 G (I.set ((rd x7 D):Int).toNat (rd G D)) (wrap64 (D+1)))else(none))else(none))else(none))else(none))else(some (I,true,0))
end
def recoupref04_Combine.f(k:Nat)(G:Int)(D:Int)(I:List Int)(l1:List Int):Option (List Int×Bool×Int):=(recoupref03_Right.f G D I).bind fun J=>(if J=true then(recoupref04_Combine.j0 k l1 ((l1.length:Int)!=D) G D I)else(recoupref04_Combine.j0 k l1 true G D I))
def recoupref04_Combine.T13:Bool×List (List Nat×List Nat):=(true,[([],[]),([],[]),([],[]),([1,2],[1,2]),([3],[3]),([],[]),([],[]),([5,6],[5,6]),([7],[7]),([0,4,0,1,2,3,4,5,6,7,8],[0,4]),([9,8,0,1,2,3,4,5,6,7,8],[8,9])])
def recoupref04_Combine.B13:List Nat:= [0,0,0,6,14,0,0,96,224,511,1023]
theorem recoupref04_Combine.tab13:rtab .any (opsOf Tryd.f44 13)=recoupref04_Combine.T13:=by kernel_rfl
theorem recoupref04_Combine.bits13:waitsOk recoupref04_Combine.T13.2 recoupref04_Combine.B13=true:=by kernel_rfl
set_option maxHeartbeats 8000000 in
set_option maxRecDepth 100000 in
theorem recoupref04_Combine.calls(k:Nat)(U:Int)(ac:Int)(an:Option Addr)(ao:Nat)(Z:List Int)(A1:Option Addr)(c1:Nat)(l1:List Int)(r1:List Int)(r2:Bool)(r3:Int)(w:World)(dc:Kd.C (Kd.int .u8) w an Z.length Z)(b9:Z.length≤ao)(fo:Kd.C (Kd.int .u8) w A1 l1.length l1)(ey:l1.length≤c1)(h:recoupref04_Combine.f k U ac Z l1=some (r1,r2,r3)):
 Calls Tryd.prog 44 #[.agg #[.int .i64 U,.int .i64 ac,.slice an Z.length ao],.slice A1 l1.length c1] w fun e w'=> ∃v0_:Value,e= .returned (.tuple #[v0_,.bool r2,.int .i64 r3])∧Kd.R (Kd.int .u8) 5 w' w.heap.size (fun _=>True) v0_ r1∧Below w.heap.size w w':=by
 have gg:=Tryd.underlying24;have a2:=aK dc;have a1:=aK b9;clear dc b9;have em:=aK fo;have ej:=aK ey;clear fo ey;have HB:=aK (Below.refl w.heap.size w);have H:((recoupref03_Right.f U ac Z).bind fun dh=>(if dh=true then(recoupref04_Combine.j0 k l1 ((l1.length:Int)!=ac) U ac Z)else(recoupref04_Combine.j0 k l1 true U ac Z)))=some (r1,r2,r3):=h;clear h;have d8:=aK H;clear H
 go_enter Tryd.func44,Tryd.ntmps44
 go_upto_region 1 with(first|((with_reducible refine gD 2 rfl ?_);(try(refine gate_guard zad ?_;dsimp only));refine bE 2 #[.int .i64 U,.int .i64 ac,.slice an Z.length ao] 24 ?_;intro a3 hg w4 hbox hb;have D:=aK (hbox);have fv:=hbS HB hg;have fu:=hbS HB hg;replace HB:=hbB HB hb;clear hb hbox hg))
 (try simp only[Act.put,zL])
 go_cut [27] (fun f9 wc=> ∃(kq:Nat) (be:Bool),f9= .bool be∧Aside0 (recoupref04_Combine.j0 kq l1 be U ac Z=some (r1,r2,r3))∧Aside0 (kq≤k)∧Aside0 (wc.heap[a3]? =some (.cells #[.int .i64 U,.int .i64 ac,(.slice an Z.length ao)] 24 (0,0)))∧Aside0 (Below w.heap.size w wc))
 case first=>
  have H:=d8.out;clear d8;obtain⟨dh,A5,H⟩:=bindO H
  (try dsimp only at H)
  by_cases c6:dh=true
  ·subst c6;rw[if_pos rfl]at H
   have H':=aK H;clear H;obtain⟨bo,bp,bq,bu,bv,bw⟩:=cell3 D
   go_wp2_with (first|((with_reducible refine gC 37 rfl ?_);refine cG (some 19) Tryd.func37 #[.agg #[.int .i64 U,.int .i64 ac,.slice an Z.length ao]] ?_;(with_reducible refine(recoupref03_Right.calls U ac _ _ Z true _ ?side1 ?side2 A5.out).mono ?_);(case side1=>exact kcB a2 HB);(case side2=>exact a1.out);rintro e w8 ⟨rfl,hb⟩;refine⟨_,rfl,?_⟩;replace D:=bkB D hb;replace HB:=hbB HB hb;(try clear hb);obtain⟨br,bs,bt,bx,bz,b0⟩:=cell3 D))
   go_meet
   case rel=>exact⟨_,(((l1.length:Int)!=ac)),rsE,H',⟨leE⟩,⟨bkA D.out⟩,⟨hbA HB.out⟩⟩
  ·replace c6:=Bool.eq_false_iff.mpr c6;subst c6;rw[if_neg nofT]at H
   have H':=aK H;clear H;obtain⟨bf,bg,bh,bi,bj,bk⟩:=cell3 D
   go_wp2_with (first|((with_reducible refine gC 37 rfl ?_);refine cG (some 19) Tryd.func37 #[.agg #[.int .i64 U,.int .i64 ac,.slice an Z.length ao]] ?_;(with_reducible refine(recoupref03_Right.calls U ac _ _ Z false _ ?side1 ?side2 A5.out).mono ?_);(case side1=>exact kcB a2 HB);(case side2=>exact a1.out);rintro e gn ⟨rfl,hb⟩;refine⟨_,rfl,?_⟩;replace D:=bkB D hb;replace HB:=hbB HB hb;(try clear hb)))
   go_meet
   case rel=>exact⟨_,(true),rsE,H',⟨leE⟩,⟨bkA D.out⟩,⟨hbA HB.out⟩⟩
 case rest=>
  clear d8
  (try clear c1);(try clear p2);(try clear c3);(try clear c4);(try clear c6);(try clear bf bg bh bi bj bk);(try clear bo bp bq bu bv bw);(try clear br bs bt bx bz b0)
  obtain⟨kq,be,rfl,HA,ek,D,HB⟩:=hcut
  cases kq with
  |zero=>exact absurd HA.out (by simp[recoupref04_Combine.j0])
  |succ bc=>
   have H:=HA.out;clear HA;simp only[recoupref04_Combine.j0]at H;by_cases b7:be=true
   ·subst b7;rw[if_pos rfl]at H
    simp only[Option.some.injEq,Prod.mk.injEq]at H;obtain⟨rfl,rfl,rfl⟩:=H;go_wp2
    go_ret3
    exact⟨_,rfE,nilE,hbA HB.out⟩
   ·replace b7:=Bool.eq_false_iff.mpr b7;subst b7;rw[if_neg nofT]at H
    obtain⟨⟨X,dy⟩,ee,H⟩:=bindO H
    (try dsimp only at H)
    obtain⟨⟨ai,ak,aa,dz⟩,ef,H⟩:=bindO H
    (try dsimp only at H)
    obtain⟨⟨ah,aj,ab,d0⟩,eg,H⟩:=bindO H
    (try dsimp only at H)
    obtain⟨⟨am,fp,d1⟩,eh,H⟩:=bindO H
    (try dsimp only at H)
    by_cases b8:fp=true
    ·subst b8;rw[if_pos rfl]at H
     by_cases b2:0≤U
     ·rw[if_pos b2]at H
      have c18b0:=eq_true b2;have c18b1:decide (0≤U)=true:=decide_eq_true b2;clear b2;by_cases b3:(U:Int).toNat≤281474976710656
      ·rw[if_pos b3]at H
       have c19b0:=eq_true b3;have c19b1:decide ((U:Int).toNat≤281474976710656)=true:=decide_eq_true b3;clear b3;obtain⟨d2,ba⟩: ∃y_:List Int,y_=(List.replicate (U:Int).toNat 0):=⟨_,rfl⟩
       replace H:(recoupref04_Combine.l0 bc X am d2 0)=some (r1,r2,r3):=by first|(rw[ba];with_reducible exact H)|(have H2_:=(Option.bind_some _ _).symm.trans H;rw[ba];with_reducible exact H2_)|(have H2_:=(Option.bind_some _ _).symm.trans H;with_reducible exact H2_)|with_reducible exact H|(rw[ba];exact H)|exact H
       have b6:=aK ba;clear ba;have H':=aK H;clear H;obtain⟨ca,cb,cd,cq,cr,ct⟩:=cell3 D
       go_wp2_with (first|((with_reducible refine gC 65 rfl ?_);refine cG (some 30) Tryd.func65 #[.agg #[.int .i64 U,.int .i64 ac,.slice an Z.length ao]] ?_;(with_reducible refine(recoupref04_First.calls bc U ac _ _ Z X dy _ ?side1 ?side2 ee.out).mono ?_);(case side1=>exact kcB a2 HB);(case side2=>exact a1.out);rintro e gp ⟨fq,rfl,al,hb⟩;refine⟨_,rfl,?_⟩;have L:=aK (Kd.R_lower al (below_size (hbA HB.out)));replace D:=bkB D hb;replace HB:=hbB HB hb;(try clear hb);(try clear al);obtain⟨ce,cf,cg,cu,cv,cw⟩:=cell3 D;obtain⟨dp,du,er⟩:=Kd.R_slice L.out;subst er)|((with_reducible refine gC 16 rfl ?_);refine cG (some 36) Tryd.func16 #[.agg #[.int .i64 U,.int .i64 ac,.slice an Z.length ao],.slice dp X.length du] ?_;(with_reducible refine(recoupref03_Pick.calls bc U ac _ _ Z _ _ X ai ak aa dz _ ?side1 ?side2 ?side3 ?side4 ef.out).mono ?_);(case side1=>exact kcB a2 HB);(case side2=>exact a1.out);(case side3=>exact kcA (Kd.R_reads' L.out).2.2);(case side4=>exact(Kd.R_reads' L.out).2.1);rintro e gq ⟨fs,rfl,al,hb⟩;refine⟨_,rfl,?_⟩;replace L:=kdB L hb;have J:=aK (Kd.R_lower al (below_size (hbA HB.out)));replace D:=bkB D hb;replace HB:=hbB HB hb;(try clear hb);(try clear al))|((with_reducible refine gD 9 rfl ?_);(try(refine gate_guard zad ?_;dsimp only));refine bE 9 #[.int .i64 0,.int .i64 0,.slice none 0 0] 24 ?_;intro a4 hg gr hbox hb;replace L:=kdB L hb;replace J:=kdB J hb;have I:=aK (hbox);have d6:=hbS HB hg;have d4:=hbS HB hg;replace HB:=hbB HB hb;have ae:=neL D hg;have av:=neG D hg;replace D:=bkB D hb;clear hb hbox hg;have fw:=av.out;have f2:=ae.out;obtain⟨ch,ci,cj,cx,cy,cz⟩:=cell3 I;obtain⟨ar,ap,es⟩:=Kd.R_slice J.out;subst es)|((with_reducible refine gC 66 rfl ?_);refine cG (some 41) Tryd.func66 #[.agg #[.int .i64 ai,.int .i64 ak,.slice ar aa.length ap]] ?_;(with_reducible refine(recoupref03_Transpose.calls bc ai ak _ _ aa ah aj ab d0 _ ?side1 ?side2 eg.out).mono ?_);(case side1=>refine(Kd.R_reads' (e:=5) (base:=w.heap.size) (ok:=fun k_=>True) (n:=aa.length) (c:=ap) ?_).2.2;exact(by(with_reducible repeat(first|apply Kd.R_alloc|apply Kd.R_drewN|apply Kd.R_drew));exact(zF J.out I.out  (.int .i64 ai)  (.int .i64 ak)  (.slice ar aa.length ap))));(case side2=>exact(Kd.R_reads' J.out).2.1);rintro e gs ⟨ft,rfl,al,hb⟩;refine⟨_,rfl,?_⟩;replace L:=aK (Kd.R_below (by(with_reducible repeat(first|apply Kd.R_alloc|apply Kd.R_drewN|apply Kd.R_drew));exact(zF L.out I.out  (.int .i64 ai)  (.int .i64 ak)  (.slice ar aa.length ap))) hb);have Y:=aK (Kd.R_lower (Kd.R_new' al (Kd.R_lt (by(with_reducible repeat(first|apply Kd.R_alloc|apply Kd.R_drewN|apply Kd.R_drew));exact(zF J.out I.out  (.int .i64 ai)  (.int .i64 ak)  (.slice ar aa.length ap))))) (below_size (hbA HB.out)));replace J:=aK (Kd.R_elder' (by(with_reducible repeat(first|apply Kd.R_alloc|apply Kd.R_drewN|apply Kd.R_drew));exact(zF J.out I.out  (.int .i64 ai)  (.int .i64 ak)  (.slice ar aa.length ap))) (Kd.R_base al) hb);replace D:=aK (blk_below (g:=a3) (o:= .cells #[.int .i64 U,.int .i64 ac,.slice an Z.length ao] 24 (0,0)) zcf hb);replace I:=aK (blk_below (g:=a4) (o:= .cells #[.int .i64 ai,.int .i64 ak,.slice ar aa.length ap] 24 (0,0)) zb2 hb);replace HB:=hbB HB hb;(try clear hb);(try clear al))|((with_reducible refine gD 11 rfl ?_);(try(refine gate_guard zad ?_;dsimp only));refine bE 11 #[.int .i64 0,.int .i64 0,.slice none 0 0] 24 ?_;intro bd hg gt hbox hb;replace L:=kdB L hb;replace J:=kdB J hb;replace Y:=kdB Y hb;have O:=aK (hbox);have d7:=hbS HB hg;have d5:=hbS HB hg;replace HB:=hbB HB hb;have af:=neL D hg;have aw:=neG D hg;replace D:=bkB D hb;have ag:=neL I hg;have ax:=neG I hg;replace I:=bkB I hb;clear hb hbox hg;have fx:=aw.out;have f3:=af.out;have fy:=ax.out;have f4:=ag.out;obtain⟨ck,cl,cm,c5,c7,c8⟩:=cell3 O;obtain⟨au,aq,et⟩:=Kd.R_slice Y.out;subst et)|((with_reducible refine gC 67 rfl ?_);refine cG (some 47) Tryd.func67 #[.agg #[.int .i64 ah,.int .i64 aj,.slice au ab.length aq],.slice A1 l1.length c1] ?_;(with_reducible refine(recoupref04_Solve.calls bc ah aj _ _ ab _ _ l1 am true d1 _ ?side1 ?side2 ?side3 ?side4 eh.out).mono ?_);(case side1=>refine(Kd.R_reads' (e:=5) (base:=w.heap.size) (ok:=fun k_=>(True∧some k_≠(.slice ar aa.length ap:Value).ownBlock)) (n:=ab.length) (c:=aq) ?_).2.2;exact(by(with_reducible repeat(first|apply Kd.R_alloc|apply Kd.R_drewN|apply Kd.R_drew));exact(zF Y.out O.out  (.int .i64 ah)  (.int .i64 aj)  (.slice au ab.length aq))));(case side2=>exact(Kd.R_reads' Y.out).2.1);(case side3=>exact Kd.C_below em.out (hbA HB.out));(case side4=>exact ej.out);rintro e gu ⟨bn,rfl,al,hb⟩;refine⟨_,rfl,?_⟩;replace L:=aK (Kd.R_below (by(with_reducible repeat(first|apply Kd.R_alloc|apply Kd.R_drewN|apply Kd.R_drew));exact(zF L.out O.out  (.int .i64 ah)  (.int .i64 aj)  (.slice au ab.length aq))) hb);have a8:=aK (Kd.R_lower (Kd.R_new' (Kd.R_new' al (Kd.R_lt (by(with_reducible repeat(first|apply Kd.R_alloc|apply Kd.R_drewN|apply Kd.R_drew));exact(zF J.out O.out  (.int .i64 ah)  (.int .i64 aj)  (.slice au ab.length aq))))) (Kd.R_lt (by(with_reducible repeat(first|apply Kd.R_alloc|apply Kd.R_drewN|apply Kd.R_drew));exact(zF Y.out O.out  (.int .i64 ah)  (.int .i64 aj)  (.slice au ab.length aq))))) (below_size (hbA HB.out)));replace J:=aK (Kd.R_elder' (by(with_reducible repeat(first|apply Kd.R_alloc|apply Kd.R_drewN|apply Kd.R_drew));exact(zF J.out O.out  (.int .i64 ah)  (.int .i64 aj)  (.slice au ab.length aq))) (Kd.R_base al) hb);replace Y:=aK (Kd.R_elder' (by(with_reducible repeat(first|apply Kd.R_alloc|apply Kd.R_drewN|apply Kd.R_drew));exact(zF Y.out O.out  (.int .i64 ah)  (.int .i64 aj)  (.slice au ab.length aq))) (Kd.R_base al) hb);replace D:=aK (blk_below (g:=a3) (o:= .cells #[.int .i64 U,.int .i64 ac,.slice an Z.length ao] 24 (0,0)) zcd hb);replace I:=aK (blk_below (g:=a4) (o:= .cells #[.int .i64 ai,.int .i64 ak,.slice ar aa.length ap] 24 (0,0)) zcc hb);replace O:=aK (blk_below (g:=bd) (o:= .cells #[.int .i64 ah,.int .i64 aj,.slice au ab.length aq] 24 (0,0)) zb3 hb);replace HB:=hbB HB hb;(try clear hb);(try clear al);obtain⟨cn,co,cp,c9,da,db⟩:=cell3 D)|((with_reducible refine gate_dst (N:=55) rfl ?_);(try(refine gate_guard zad ?_;dsimp only));refine Kd.R_make (Kd.int .u8) _ 5 rfl (N:=55) rfl 22 _ _ rfl U rfl rfl Tryd.underlying22 (.int .u8 0) 1 info5 rfl zaa zz 0 (ok:=fun _=>True) (okp:=fun _=>True) rfl (fun _ hk=>hk) trivial (of_decide_eq_true asE) (Nat.le_trans (Nat.mul_le_mul_right _ (of_decide_eq_true asE:U.toNat≤281474976710656)) zz) (Below.refl _ _) (Nat.le_refl _) ?_;intro b1 gv a7 hb hg_ hnew_;clear hg_ hnew_;(first|rw[←b6.out]at a7|(simp only[Int.reduceToNat]at a7;rw[←b6.out]at a7));replace L:=kdB L hb;have d9:=aK (Kd.R_lower (Kd.R_new' (Kd.R_new' (Kd.R_new' a7 (Kd.R_lt (kdA J.out))) (Kd.R_lt (kdA Y.out))) (Kd.R_lt (kdA a8.out))) (below_size (hbA HB.out)));replace J:=aK (Kd.R_elder' (kdA J.out) (Kd.R_base a7) hb);replace Y:=aK (Kd.R_elder' (kdA Y.out) (Kd.R_base a7) hb);replace a8:=aK (Kd.R_elder' (kdA a8.out) (Kd.R_base a7) hb);replace D:=bkB D hb;replace I:=bkB I hb;replace O:=bkB O hb;replace HB:=hbB HB hb;clear hb a7))
       go_loopg [17] bc (fun kq f8 w'=> ∃(ay:List Int) (G:Int),f8= .int .i64 G∧Aside0 (recoupref04_Combine.l0 kq X am ay G=some (r1,r2,r3))∧Aside0 (kq≤bc)∧Aside0 (Kd.R (Kd.int .i64) 3 w' w.heap.size (fun _=>True) (.slice dp X.length du) X)∧Aside0 (Kd.R (Kd.int .u8) 5 w' w.heap.size (fun k_=>some k_≠(b1:Value).ownBlock∧some k_≠((.slice ar aa.length ap):Value).ownBlock∧some k_≠((.slice au ab.length aq):Value).ownBlock) bn am)∧Aside0 (Kd.R (Kd.int .u8) 5 w' w.heap.size (fun k_=>some k_≠(bn:Value).ownBlock∧some k_≠((.slice ar aa.length ap):Value).ownBlock∧some k_≠((.slice au ab.length aq):Value).ownBlock) b1 ay)∧Aside0 (Kd.R (Kd.int .u8) 5 w' w.heap.size (fun k_=>some k_≠(bn:Value).ownBlock∧some k_≠(b1:Value).ownBlock∧some k_≠((.slice au ab.length aq):Value).ownBlock) (.slice ar aa.length ap) aa)∧Aside0 (Kd.R (Kd.int .u8) 5 w' w.heap.size (fun k_=>some k_≠(bn:Value).ownBlock∧some k_≠(b1:Value).ownBlock∧some k_≠((.slice ar aa.length ap):Value).ownBlock) (.slice au ab.length aq) ab)∧Aside0 (w'.heap[a3]? =some (.cells #[.int .i64 U,.int .i64 ac,(.slice an Z.length ao)] 24 (0,0)))∧Aside0 (w'.heap[a4]? =some (.cells #[.int .i64 ai,.int .i64 ak,(.slice ar aa.length ap)] 24 (0,0)))∧Aside0 (w'.heap[bd]? =some (.cells #[.int .i64 ah,.int .i64 aj,(.slice au ab.length aq)] 24 (0,0)))∧Aside0 (Below w.heap.size w w'))
       case atStart=>exact⟨(d2),(0),rsE,H',⟨Nat.le_refl _⟩,⟨kdA L.out⟩,⟨by(with_reducible repeat(first|apply Kd.R_alloc|apply Kd.R_drewN|apply Kd.R_drew));exact Kd.R_mono a8.out (fun _ hk=>⟨hk.2,⟨hk.1.1.2,hk.1.2⟩⟩)⟩,⟨by(with_reducible repeat(first|apply Kd.R_alloc|apply Kd.R_drewN|apply Kd.R_drew));exact Kd.R_mono d9.out (fun _ hk=>⟨hk.2,⟨hk.1.1.2,hk.1.2⟩⟩)⟩,⟨by(with_reducible repeat(first|apply Kd.R_alloc|apply Kd.R_drewN|apply Kd.R_drew));exact Kd.R_mono J.out (fun _ hk=>⟨hk.1.2,⟨hk.2,hk.1.1.2⟩⟩)⟩,⟨by(with_reducible repeat(first|apply Kd.R_alloc|apply Kd.R_drewN|apply Kd.R_drew));exact Kd.R_mono Y.out (fun _ hk=>⟨hk.1.2,⟨hk.2,hk.1.1.2⟩⟩)⟩,⟨bkA D.out⟩,⟨bkA I.out⟩,⟨bkA O.out⟩,⟨hbA HB.out⟩⟩
       case round=>
        clear H'
        (try clear c1);(try clear c2);(try clear p2 p2);(try clear c3);(try clear c4);(try clear c6);(try clear b7);(try clear gh);(try clear b8);(try clear b2);(try clear c18b0);(try clear c18b1);(try clear b3);(try clear c19b0);(try clear c19b1);(try clear gi);(try clear gj);(try clear gl);(try clear gm);(try clear bf bg bh bi bj bk);(try clear ca cb cd cq cr ct);(try clear ce cf cg cu cv cw);(try clear ch ci cj cx cy cz);(try clear ck cl cm c5 c7 c8);(try clear cn co cp c9 da db);(try clear bo bp bq bu bv bw);(try clear br bs bt bx bz b0)
        obtain⟨ay,G,rfl,HA,el,HO_7,HO_13,HO_16,HO_475002,HO_482002,D,I,O,HB⟩:=hrel
        cases gk with
        |zero=>exact absurd HA.out (by simp[recoupref04_Combine.l0])
        |succ k2=>
         have H:=HA.out;clear HA;simp only[recoupref04_Combine.l0]at H;by_cases b4:G<(X.length:Int)
         ·rw[if_pos b4]at H
          have c39b0:decide (G<(X.length:Int))=true:=decide_eq_true b4;clear b4;by_cases di:0≤G
          ·rw[if_pos di]at H
           have c40b0:decide (0≤G)=true:=decide_eq_true di;clear di;by_cases dj:G<(am.length:Int)
           ·rw[if_pos dj]at H
            have c41b0:decide (G<(am.length:Int))=true:=decide_eq_true dj;clear dj;by_cases dk:0≤(rd X G)
            ·rw[if_pos dk]at H
             have c42b0:decide (0≤(rd X G))=true:=decide_eq_true dk;clear dk;by_cases dl:(rd X G)<(ay.length:Int)
             ·rw[if_pos dl]at H
              have c43b0:decide ((rd X G)<(ay.length:Int))=true:=decide_eq_true dl;clear dl;obtain⟨d3,bb⟩: ∃y_:List Int,y_=(ay.set ((rd X G):Int).toNat (rd am G)):=⟨_,rfl⟩
              replace H:(recoupref04_Combine.l0 k2 X am d3 (wrap64 (G+1)))=some (r1,r2,r3):=by first|(rw[bb];with_reducible exact H)|(have H2_:=(Option.bind_some _ _).symm.trans H;rw[bb];with_reducible exact H2_)|(have H2_:=(Option.bind_some _ _).symm.trans H;with_reducible exact H2_)|with_reducible exact H|(rw[bb];exact H)|exact H
              have ea:=aK bb;clear bb;have H':=aK H;clear H
              try go_wp2
              replace HO_7:=aK (Kd.R_drew HO_7.out);replace HO_13:=aK (Kd.R_drew HO_13.out);replace HO_16:=aK (Kd.R_drew HO_16.out);replace HO_475002:=aK (Kd.R_drew HO_475002.out);replace HO_482002:=aK (Kd.R_drew HO_482002.out);replace D:=aK (blk_drew D.out);replace I:=aK (blk_drew I.out);replace O:=aK (blk_drew O.out);replace HB:=aK (below_drew1 HB.out);have dd:0≤(G:Int):=of_decide_eq_true asE;have df:G<(X.length:Int):=of_decide_eq_true asE;obtain⟨eb,eo,bl⟩:=Kd.at_int (Kd.R_reads' HO_7.out).2.2 G dd df
              cases eo
              replace dd:=eq_true dd;replace df:=eq_true df;obtain⟨ga,gf,dw⟩:=Kd.R_slice HO_13.out
              (first|subst dw|(injection dw with f1_ f2_ f3_;have f4_:=f1_.symm;have f5_:=f3_.symm;clear f1_ f2_ f3_;subst f4_;subst f5_))
              have de:0≤(G:Int):=of_decide_eq_true asE;have dg:G<(am.length:Int):=of_decide_eq_true asE;obtain⟨ec,ep,bm⟩:=Kd.at_int (Kd.R_reads' HO_13.out).2.2 G de dg
              cases ep
              replace de:=eq_true de;replace dg:=eq_true dg;have p44:0≤((rd X G):Int):=of_decide_eq_true asE;have ed:((rd X G):Int)<((ay.length:Int):Int):=of_decide_eq_true asE;obtain⟨a9,ge,dv,dx,ex,gc,dr⟩:=Kd.R_form HO_16.out zz
              (first|cases dv|(injection dv with ea_ en_ ec_;(first|subst ea_|(injection ea_ with ea_;subst ea_));subst ec_;clear en_))
              have gb:=aK dx;have dq:=aK dr;clear dx ex dr;obtain⟨dn,dm⟩:=Kd.R_celln 0 HO_16.out ((rd X G):Int) p44 ed;replace p44:=eq_true p44;replace ed:=eq_true ed;have b5:=Kd.R_putn HO_16.out ((rd X G):Int) (rd am G);rw[←ea.out]at b5
              have dt:=aK b5;clear b5;refine start_ (n:=11) (S:=fun w'=>w'.cell? (eb.add (G).toNat)=some (.int .i64 (rd X G))∧w'.cell? (ec.add (G).toNat)=some (.int .u8 (rd am G))) (ds:= [10]) (.replicate 11 false) zab rfl rfl ⟨bl,bm⟩ (fun hHeld=>?_);refine with_tabW recoupref04_Combine.tab13 recoupref04_Combine.bits13 (fun HT_ HW_=>?_);generalize wr.drew=gw at HO_7 HO_13 HO_16 HO_475002 HO_482002 D I O HB dq dt dm dn bl bm hHeld⊢;refine pu 0 (some 62) (mB 11 1) HT_ ?_;refine pu 1 (some 63) (mB 11 3) HT_ ?_;refine pu 2 (some 64) (mB 11 7) HT_ ?_;refine pu 3 (some 65) (mB 11 15) HT_ ?_;refine pu 5 (some 67) (mB 11 47) HT_ ?_;refine pu 6 (some 68) (mB 11 111) HT_ ?_;refine pu 7 (some 69) (mB 11 239) HT_ ?_;refine tk2 4 (some 66) (mB 11 255) HT_ HW_ hHeld ?_;refine tk2 8 (some 70) (mB 11 511) HT_ HW_ hHeld ?_;refine pu 9 (some 71) (mB 11 1023) HT_ ?_;refine zlh 10 (none) (mB 11 2047) HT_ fun K hK=>?_;refine zsk ?_;refine hK.out _ _ ?_;clear hK K;refine done_ (done_of HT_.out zab) ?_
              try go_wp2
              go_roundg k2
              case measure=>have:=ek.out;have:=el.out;omega
              case rel=>exact⟨(d3),(wrap64 (G+1)),rsE,H',⟨by have:=ek.out;have:=el.out;omega⟩,⟨by(with_reducible repeat(first|apply Kd.R_alloc|apply Kd.R_drewN|apply Kd.R_drew));exact Kd.R_mono (Kd.R_far (p:=⟨a9,((rd X G):Int).toNat,none⟩) (Kd.R_types HO_7.out dq.out zaa) (fun _ hk=>hk.2) (.int .u8 (rd am G))) (fun _ hk=>trivial)⟩,⟨by(with_reducible repeat(first|apply Kd.R_alloc|apply Kd.R_drewN|apply Kd.R_drew));exact Kd.R_mono (Kd.R_far (p:=⟨a9,((rd X G):Int).toNat,none⟩) (Kd.R_mono HO_13.out (fun k_ hk=>(⟨hk,fun e_=>hk.1 zaf⟩:_∧k_≠a9))) (fun _ hk=>hk.2) (.int .u8 (rd am G))) (fun _ hk=>⟨hk.1.1,⟨hk.1.2.1,hk.1.2.2⟩⟩)⟩,⟨kdA dt.out⟩,⟨by(with_reducible repeat(first|apply Kd.R_alloc|apply Kd.R_drewN|apply Kd.R_drew));exact Kd.R_mono (Kd.R_far (p:=⟨a9,((rd X G):Int).toNat,none⟩) (Kd.R_mono HO_475002.out (fun k_ hk=>(⟨hk,fun e_=>hk.2.1 zaf⟩:_∧k_≠a9))) (fun _ hk=>hk.2) (.int .u8 (rd am G))) (fun _ hk=>⟨hk.1.1,⟨hk.1.2.1,hk.1.2.2⟩⟩)⟩,⟨by(with_reducible repeat(first|apply Kd.R_alloc|apply Kd.R_drewN|apply Kd.R_drew));exact Kd.R_mono (Kd.R_far (p:=⟨a9,((rd X G):Int).toNat,none⟩) (Kd.R_mono HO_482002.out (fun k_ hk=>(⟨hk,fun e_=>hk.2.1 zaf⟩:_∧k_≠a9))) (fun _ hk=>hk.2) (.int .u8 (rd am G))) (fun _ hk=>⟨hk.1.1,⟨hk.1.2.1,hk.1.2.2⟩⟩)⟩,⟨by refine bkR ?_;refine blk_far ?_ (by have h_:=Kd.R_ne HO_16.out D.out zaa;intro e_;exact h_ zaf) _;refine bkR ?_;exact D.out⟩,⟨by refine bkR ?_;refine blk_far ?_ (by have h_:=Kd.R_ne HO_16.out I.out zaa;intro e_;exact h_ zaf) _;refine bkR ?_;exact I.out⟩,⟨by refine bkR ?_;refine blk_far ?_ (by have h_:=Kd.R_ne HO_16.out O.out zaa;intro e_;exact h_ zaf) _;refine bkR ?_;exact O.out⟩,⟨hbA HB.out⟩⟩
             ·rw[if_neg dl]at H
              exact absurd H zac
            ·rw[if_neg dk]at H
             exact absurd H zac
           ·rw[if_neg dj]at H
            exact absurd H zac
          ·rw[if_neg di]at H
           exact absurd H zac
         ·rw[if_neg b4]at H
          have c39b0:decide (G<(X.length:Int))=false:=decide_eq_false b4;clear b4;simp only[Option.some.injEq,Prod.mk.injEq]at H;obtain⟨rfl,rfl,rfl⟩:=H;go_wp2
          go_ret3
          exact⟨_,rfE,by(with_reducible repeat(first|apply Kd.R_alloc|apply Kd.R_drewN|apply Kd.R_drew));exact Kd.R_mono HO_16.out (fun _ hk=>trivial),hbA HB.out⟩
      ·rw[if_neg b3]at H
       exact absurd H zac
     ·rw[if_neg b2]at H
      exact absurd H zac
    ·replace b8:=Bool.eq_false_iff.mpr b8;subst b8;rw[if_neg nofT]at H
     simp only[Option.some.injEq,Prod.mk.injEq]at H;obtain⟨rfl,rfl,rfl⟩:=H;obtain⟨ez,e0,e1,fb,fc,fd⟩:=cell3 D
     go_wp2_with (first|((with_reducible refine gC 65 rfl ?_);refine cG (some 30) Tryd.func65 #[.agg #[.int .i64 U,.int .i64 ac,.slice an Z.length ao]] ?_;(with_reducible refine(recoupref04_First.calls bc U ac _ _ Z X dy _ ?side1 ?side2 ee.out).mono ?_);(case side1=>exact kcB a2 HB);(case side2=>exact a1.out);rintro e gx ⟨fq,rfl,al,hb⟩;refine⟨_,rfl,?_⟩;have L:=aK (Kd.R_lower al (below_size (hbA HB.out)));replace D:=bkB D hb;replace HB:=hbB HB hb;(try clear hb);(try clear al);obtain⟨e2,e3,e4,fe,ff,fg⟩:=cell3 D;obtain⟨ei,en,eu⟩:=Kd.R_slice L.out;subst eu)|((with_reducible refine gC 16 rfl ?_);refine cG (some 36) Tryd.func16 #[.agg #[.int .i64 U,.int .i64 ac,.slice an Z.length ao],.slice ei X.length en] ?_;(with_reducible refine(recoupref03_Pick.calls bc U ac _ _ Z _ _ X ai ak aa dz _ ?side1 ?side2 ?side3 ?side4 ef.out).mono ?_);(case side1=>exact kcB a2 HB);(case side2=>exact a1.out);(case side3=>exact kcA (Kd.R_reads' L.out).2.2);(case side4=>exact(Kd.R_reads' L.out).2.1);rintro e gy ⟨fs,rfl,al,hb⟩;refine⟨_,rfl,?_⟩;replace L:=kdB L hb;have J:=aK (Kd.R_lower al (below_size (hbA HB.out)));replace D:=bkB D hb;replace HB:=hbB HB hb;(try clear hb);(try clear al))|((with_reducible refine gD 9 rfl ?_);(try(refine gate_guard zad ?_;dsimp only));refine bE 9 #[.int .i64 0,.int .i64 0,.slice none 0 0] 24 ?_;intro a4 hg gz hbox hb;replace L:=kdB L hb;replace J:=kdB J hb;have I:=aK (hbox);have d6:=hbS HB hg;have d4:=hbS HB hg;replace HB:=hbB HB hb;have ae:=neL D hg;have av:=neG D hg;replace D:=bkB D hb;clear hb hbox hg;have fz:=av.out;have f5:=ae.out;obtain⟨e5,e6,e7,fh,fi,fj⟩:=cell3 I;obtain⟨a5,az,ev⟩:=Kd.R_slice J.out;subst ev)|((with_reducible refine gC 66 rfl ?_);refine cG (some 41) Tryd.func66 #[.agg #[.int .i64 ai,.int .i64 ak,.slice a5 aa.length az]] ?_;(with_reducible refine(recoupref03_Transpose.calls bc ai ak _ _ aa ah aj ab d0 _ ?side1 ?side2 eg.out).mono ?_);(case side1=>refine(Kd.R_reads' (e:=5) (base:=w.heap.size) (ok:=fun k_=>True) (n:=aa.length) (c:=az) ?_).2.2;exact(by(with_reducible repeat(first|apply Kd.R_alloc|apply Kd.R_drewN|apply Kd.R_drew));exact(zF J.out I.out  (.int .i64 ai)  (.int .i64 ak)  (.slice a5 aa.length az))));(case side2=>exact(Kd.R_reads' J.out).2.1);rintro e g0 ⟨ft,rfl,al,hb⟩;refine⟨_,rfl,?_⟩;replace L:=aK (Kd.R_below (by(with_reducible repeat(first|apply Kd.R_alloc|apply Kd.R_drewN|apply Kd.R_drew));exact(zF L.out I.out  (.int .i64 ai)  (.int .i64 ak)  (.slice a5 aa.length az))) hb);have Y:=aK (Kd.R_lower (Kd.R_new' al (Kd.R_lt (by(with_reducible repeat(first|apply Kd.R_alloc|apply Kd.R_drewN|apply Kd.R_drew));exact(zF J.out I.out  (.int .i64 ai)  (.int .i64 ak)  (.slice a5 aa.length az))))) (below_size (hbA HB.out)));replace J:=aK (Kd.R_elder' (by(with_reducible repeat(first|apply Kd.R_alloc|apply Kd.R_drewN|apply Kd.R_drew));exact(zF J.out I.out  (.int .i64 ai)  (.int .i64 ak)  (.slice a5 aa.length az))) (Kd.R_base al) hb);replace D:=aK (blk_below (g:=a3) (o:= .cells #[.int .i64 U,.int .i64 ac,.slice an Z.length ao] 24 (0,0)) zcf hb);replace I:=aK (blk_below (g:=a4) (o:= .cells #[.int .i64 ai,.int .i64 ak,.slice a5 aa.length az] 24 (0,0)) zb2 hb);replace HB:=hbB HB hb;(try clear hb);(try clear al))|((with_reducible refine gD 11 rfl ?_);(try(refine gate_guard zad ?_;dsimp only));refine bE 11 #[.int .i64 0,.int .i64 0,.slice none 0 0] 24 ?_;intro bd hg g1 hbox hb;replace L:=kdB L hb;replace J:=kdB J hb;replace Y:=kdB Y hb;have O:=aK (hbox);have d7:=hbS HB hg;have d5:=hbS HB hg;replace HB:=hbB HB hb;have af:=neL D hg;have aw:=neG D hg;replace D:=bkB D hb;have ag:=neL I hg;have ax:=neG I hg;replace I:=bkB I hb;clear hb hbox hg;have f0:=aw.out;have f6:=af.out;have f1:=ax.out;have f7:=ag.out;obtain⟨e8,e9,fa,fk,fl,fm⟩:=cell3 O;obtain⟨a6,a0,ew⟩:=Kd.R_slice Y.out;subst ew)|((with_reducible refine gC 67 rfl ?_);refine cG (some 47) Tryd.func67 #[.agg #[.int .i64 ah,.int .i64 aj,.slice a6 ab.length a0],.slice A1 l1.length c1] ?_;(with_reducible refine(recoupref04_Solve.calls bc ah aj _ _ ab _ _ l1 am false d1 _ ?side1 ?side2 ?side3 ?side4 eh.out).mono ?_);(case side1=>refine(Kd.R_reads' (e:=5) (base:=w.heap.size) (ok:=fun k_=>(True∧some k_≠(.slice a5 aa.length az:Value).ownBlock)) (n:=ab.length) (c:=a0) ?_).2.2;exact(by(with_reducible repeat(first|apply Kd.R_alloc|apply Kd.R_drewN|apply Kd.R_drew));exact(zF Y.out O.out  (.int .i64 ah)  (.int .i64 aj)  (.slice a6 ab.length a0))));(case side2=>exact(Kd.R_reads' Y.out).2.1);(case side3=>exact Kd.C_below em.out (hbA HB.out));(case side4=>exact ej.out);rintro e g2 ⟨bn,rfl,al,hb⟩;refine⟨_,rfl,?_⟩;replace L:=aK (Kd.R_below (by(with_reducible repeat(first|apply Kd.R_alloc|apply Kd.R_drewN|apply Kd.R_drew));exact(zF L.out O.out  (.int .i64 ah)  (.int .i64 aj)  (.slice a6 ab.length a0))) hb);have a8:=aK (Kd.R_lower (Kd.R_new' (Kd.R_new' al (Kd.R_lt (by(with_reducible repeat(first|apply Kd.R_alloc|apply Kd.R_drewN|apply Kd.R_drew));exact(zF J.out O.out  (.int .i64 ah)  (.int .i64 aj)  (.slice a6 ab.length a0))))) (Kd.R_lt (by(with_reducible repeat(first|apply Kd.R_alloc|apply Kd.R_drewN|apply Kd.R_drew));exact(zF Y.out O.out  (.int .i64 ah)  (.int .i64 aj)  (.slice a6 ab.length a0))))) (below_size (hbA HB.out)));replace J:=aK (Kd.R_elder' (by(with_reducible repeat(first|apply Kd.R_alloc|apply Kd.R_drewN|apply Kd.R_drew));exact(zF J.out O.out  (.int .i64 ah)  (.int .i64 aj)  (.slice a6 ab.length a0))) (Kd.R_base al) hb);replace Y:=aK (Kd.R_elder' (by(with_reducible repeat(first|apply Kd.R_alloc|apply Kd.R_drewN|apply Kd.R_drew));exact(zF Y.out O.out  (.int .i64 ah)  (.int .i64 aj)  (.slice a6 ab.length a0))) (Kd.R_base al) hb);replace D:=aK (blk_below (g:=a3) (o:= .cells #[.int .i64 U,.int .i64 ac,.slice an Z.length ao] 24 (0,0)) zcd hb);replace I:=aK (blk_below (g:=a4) (o:= .cells #[.int .i64 ai,.int .i64 ak,.slice a5 aa.length az] 24 (0,0)) zcc hb);replace O:=aK (blk_below (g:=bd) (o:= .cells #[.int .i64 ah,.int .i64 aj,.slice a6 ab.length a0] 24 (0,0)) zb3 hb);replace HB:=hbB HB hb;(try clear hb);(try clear al)))
     go_ret3
     exact⟨_,rfE,nilE,hbA HB.out⟩
end Go.Proofs.YtkagobkedifhkaaDoor.Q
namespace Go.Proofs.YtkagobkedifhkaaDoor.Q
open Go.RowKit Go.Proofs.YtkagobkedifhkaaDoorW.PrintWords Go.Proofs.YtkagobkedifhkaaDoorW.PrintLast Go.Proofs.YtkagobkedifhkaaDoorW.PrintMore
attribute [local go_sem] max2_int min2_int max_two min_two max_three min_three max_four min_four
set_option linter.unusedVariables false
set_option linter.unusedSimpArgs false
mutual
def recoupref18_Decode.l0:Nat→List Int→Int→Int→Int→List Int→Int→Int→List Int→Int→Int→List Int→Option (Int×Int×List Int×Bool×Int)
 |0,_,_,_,_,_,_,_,_,_,_,_=>none
 |k+1,ac,X,Y,D,Z,G,I,J,L,O,U=>if X<D then(if 0≤D then(if(D:Int).toNat≤281474976710656 then((some (List.replicate (D:Int).toNat 0:List Int)).bind fun aa=>(if 0≤X then(if X<(aa.length:Int)then((recoupref04_Combine.f k G I J (aa.set (X:Int).toNat 1)).bind fun ab=>(recoupref18_Decode.l1 k ac X ab.1 0 Y D Z G I J L O U))else(none))else(none)))else(none))else(none))else(some (L,O,U,true,0))
def recoupref18_Decode.l1:Nat→List Int→Int→List Int→Int→Int→Int→List Int→Int→Int→List Int→Int→Int→List Int→Option (Int×Int×List Int×Bool×Int)
 |0,_,_,_,_,_,_,_,_,_,_,_,_,_=>none
 |k+1,aa,ab,ac,I,D,J,L,O,U,X,Y,Z,G=>if I<(aa.length:Int)then(if 0≤I then(if I<(ac.length:Int)then(if 0≤(wrap64 ((wrap64 (ab*D))+(rd aa I)))then(if(wrap64 ((wrap64 (ab*D))+(rd aa I)))<(G.length:Int)then(recoupref18_Decode.l1 k aa ab ac (wrap64 (I+1)) D J L O U X Y Z (G.set ((wrap64 ((wrap64 (ab*D))+(rd aa I))):Int).toNat (rd ac I)))else(none))else(none))else(none))else(none))else(recoupref18_Decode.l0 k aa (wrap64 (ab+1)) D J L O U X Y Z G)
end
def recoupref18_Decode.f(k:Nat)(J:Int)(L:Int)(O:List Int)(a1:Int):Option (Int×Int×List Int×Bool×Int):=(recoupref18_Sources.f k J L O a1).bind fun D=>(if D.2.1=true then((recoupref06_List.f k D.1).bind fun U=>((recoupref03_Pick.f k J L O U).bind fun G=>((recoupref03_Zero.f L J).bind fun I=>(recoupref18_Decode.l0 k U 0 J L O G.1 G.2.1 G.2.2.1 I.1 I.2.1 I.2.2))))else(some (0,0,([]:List Int),false,D.2.2)))
def recoupref18_Decode.T16:Bool×List (List Nat×List Nat):=(true,[([],[]),([0],[0]),([],[]),([],[]),([3],[3]),([2,4],[2,4]),([],[]),([],[]),([6,7],[6,7]),([8],[8]),([5,9],[5,9]),([],[]),([],[]),([11,12],[11,12]),([13],[13]),([1,10,0,1,2,3,4,5,6,7,8,9,10,11,12,13,14],[1,10]),([15,14,0,1,2,3,4,5,6,7,8,9,10,11,12,13,14],[14,15])])
def recoupref18_Decode.B16:List Nat:= [0,1,0,0,8,28,0,0,192,448,1020,0,0,6144,14336,32767,65535]
theorem recoupref18_Decode.tab16:rtab .any (opsOf Tryd.f21 16)=recoupref18_Decode.T16:=by kernel_rfl
theorem recoupref18_Decode.bits16:waitsOk recoupref18_Decode.T16.2 recoupref18_Decode.B16=true:=by kernel_rfl
set_option maxHeartbeats 8000000 in
set_option maxRecDepth 100000 in
theorem recoupref18_Decode.calls(k:Nat)(ab:Int)(O:Int)(a3:Option Addr)(a4:Nat)(ae:List Int)(a1:Int)(r1:Int)(r2:Int)(r3:List Int)(r4:Bool)(r5:Int)(w:World)(du:Kd.C (Kd.int .u8) w a3 ae.length ae)(df:ae.length≤a4)(h:recoupref18_Decode.f k ab O ae a1=some (r1,r2,r3,r4,r5)):
 Calls Tryd.prog 21 #[.agg #[.int .i64 ab,.int .i64 O,.slice a3 ae.length a4],.int .u64 a1] w fun e w'=> ∃v2_:Value,e= .returned (.tuple #[.agg #[.int .i64 r1,.int .i64 r2,v2_],.bool r4,.int .i64 r5])∧Kd.R (Kd.int .u8) 5 w' w.heap.size (fun _=>True) v2_ r3∧Below w.heap.size w w':=by
 have jc:=Tryd.underlying24;have co:=aK du;have cn:=aK df;clear du df;have HB:=aK (Below.refl w.heap.size w);have H:((recoupref18_Sources.f k ab O ae a1).bind fun cp=>(if cp.2.1=true then((recoupref06_List.f k cp.1).bind fun af=>((recoupref03_Pick.f k ab O ae af).bind fun cq=>((recoupref03_Zero.f O ab).bind fun cr=>(recoupref18_Decode.l0 k af 0 ab O ae cq.1 cq.2.1 cq.2.2.1 cr.1 cr.2.1 cr.2.2))))else(some (0,0,([]:List Int),false,cp.2.2))))=some (r1,r2,r3,r4,r5):=h;clear h;obtain⟨⟨cz,f9,eo⟩,A3,H⟩:=bindO H
 (try dsimp only at H)
 by_cases c4:f9=true
 ·subst c4;rw[if_pos rfl]at H
  obtain⟨af,A5,H⟩:=bindO H
  (try dsimp only at H)
  obtain⟨⟨ak,am,bj,ga⟩,A6,H⟩:=bindO H
  (try dsimp only at H)
  obtain⟨⟨al,ar,bk⟩,A7,H⟩:=bindO H
  (try dsimp only at H)
  have H':=aK H;clear H
  go_enter Tryd.func21,Tryd.ntmps21
  go_wp2_with (first|((with_reducible refine gD 2 rfl ?_);refine bE 2 #[.int .i64 ab,.int .i64 O,.slice a3 ae.length a4] 24 ?_;intro a9 hg w8 hbox hb;have D:=aK (hbox);have eu:=hbS HB hg;have es:=hbS HB hg;replace HB:=hbB HB hb;clear hb hbox hg)|((with_reducible refine gD 4 rfl ?_);refine bE 4 #[.int .i64 0,.int .i64 0,.slice none 0 0] 24 ?_;intro a2 hg w9 hbox hb;have G:=aK (hbox);have ev:=hbS HB hg;have et:=hbS HB hg;replace HB:=hbB HB hb;have aw:=neL D hg;have ax:=neG D hg;replace D:=bkB D hb;clear hb hbox hg;have gx:=aw.out;have ii:=ax.out;obtain⟨bp,bq,br,b5,b6,b7⟩:=cell3 D)|((with_reducible refine gC 12 rfl ?_);refine cG (some 23) Tryd.func12 #[.agg #[.int .i64 ab,.int .i64 O,.slice a3 ae.length a4],.int .u64 a1] ?_;(with_reducible refine(recoupref18_Sources.calls k ab O _ _ ae a1 cz true eo _ ?side1 ?side2 A3.out).mono ?_);(case side1=>exact kcB co HB);(case side2=>exact cn.out);rintro e jr ⟨rfl,hb⟩;refine⟨_,rfl,?_⟩;replace D:=bkB D hb;replace G:=bkB G hb;replace HB:=hbB HB hb;(try clear hb))|((with_reducible refine gC 17 rfl ?_);refine cG (some 32) Tryd.func17 #[.int .u64 cz] ?_;(with_reducible refine(recoupref06_List.calls k cz af _ A5.out).mono ?_);rintro e js ⟨je,rfl,ba,hb⟩;refine⟨_,rfl,?_⟩;have au:=aK (Kd.R_lower ba (below_size (hbA HB.out)));replace D:=bkB D hb;replace G:=bkB G hb;replace HB:=hbB HB hb;(try clear hb);(try clear ba);obtain⟨bs,bt,bu,b8,b9,ca⟩:=cell3 D;obtain⟨c8,de,e6⟩:=Kd.R_slice au.out;subst e6)|((with_reducible refine gC 16 rfl ?_);refine cG (some 36) Tryd.func16 #[.agg #[.int .i64 ab,.int .i64 O,.slice a3 ae.length a4],.slice c8 af.length de] ?_;(with_reducible refine(recoupref03_Pick.calls k ab O _ _ ae _ _ af ak am bj ga _ ?side1 ?side2 ?side3 ?side4 A6.out).mono ?_);(case side1=>exact kcB co HB);(case side2=>exact cn.out);(case side3=>exact kcA (Kd.R_reads' au.out).2.2);(case side4=>exact(Kd.R_reads' au.out).2.1);rintro e jt ⟨jf,rfl,ba,hb⟩;refine⟨_,rfl,?_⟩;replace au:=kdB au hb;have a0:=aK (Kd.R_lower ba (below_size (hbA HB.out)));replace D:=bkB D hb;replace G:=bkB G hb;replace HB:=hbB HB hb;(try clear hb);(try clear ba))|((with_reducible refine gD 11 rfl ?_);refine bE 11 #[.int .i64 0,.int .i64 0,.slice none 0 0] 24 ?_;intro cv hg ju hbox hb;replace au:=kdB au hb;replace a0:=kdB a0 hb;have J:=aK (hbox);have gj:=hbS HB hg;have gh:=hbS HB hg;replace HB:=hbB HB hb;have an:=neL D hg;have a5:=neG D hg;replace D:=bkB D hb;have ap:=neL G hg;have a6:=neG G hg;replace G:=bkB G hb;clear hb hbox hg;have gy:=a5.out;have ij:=an.out;have gz:=a6.out;have ik:=ap.out;obtain⟨bv,bw,bx,cb,cd,ce⟩:=cell3 J;obtain⟨bn,bo,e7⟩:=Kd.R_slice a0.out;subst e7;obtain⟨bz,b0,b1,cf,cg,ch⟩:=cell3 D)|((with_reducible refine gC 43 rfl ?_);refine cG (some 43) Tryd.func43 #[.int .i64 O,.int .i64 ab] ?_;(with_reducible refine(recoupref03_Zero.calls O ab al ar bk _ A7.out).mono ?_);rintro e jv ⟨jg,rfl,ba,hb⟩;refine⟨_,rfl,?_⟩;replace au:=aK (Kd.R_below (by(with_reducible repeat(first|apply Kd.R_alloc|apply Kd.R_drewN|apply Kd.R_drew));exact(zF au.out J.out  (.int .i64 ak)  (.int .i64 am)  (.slice bn bj.length bo))) hb);have bm:=aK (Kd.R_lower (Kd.R_new' ba (Kd.R_lt (by(with_reducible repeat(first|apply Kd.R_alloc|apply Kd.R_drewN|apply Kd.R_drew));exact(zF a0.out J.out  (.int .i64 ak)  (.int .i64 am)  (.slice bn bj.length bo))))) (below_size (hbA HB.out)));replace a0:=aK (Kd.R_elder' (by(with_reducible repeat(first|apply Kd.R_alloc|apply Kd.R_drewN|apply Kd.R_drew));exact(zF a0.out J.out  (.int .i64 ak)  (.int .i64 am)  (.slice bn bj.length bo))) (Kd.R_base ba) hb);replace D:=aK (blk_below (g:=a9) (o:= .cells #[.int .i64 ab,.int .i64 O,.slice a3 ae.length a4] 24 (0,0)) zau hb);replace G:=aK (blk_below (g:=a2) (o:= .cells #[.int .i64 0,.int .i64 0,.slice none 0 0] 24 (0,0)) zat hb);replace J:=aK (blk_below (g:=cv) (o:= .cells #[.int .i64 ak,.int .i64 am,.slice bn bj.length bo] 24 (0,0)) (by refine bkR ?_;refine blk_put (cs:= #[.int .i64 ak,.int .i64 am,.slice none 0 0]) ?_ 2 _ rfl;refine bkR ?_;refine blk_put (cs:= #[.int .i64 ak,.int .i64 0,.slice none 0 0]) ?_ 1 _ rfl;refine bkR ?_;refine blk_put (cs:= #[.int .i64 0,.int .i64 0,.slice none 0 0]) ?_ 0 _ rfl;refine bkR ?_;exact J.out) hb);replace HB:=hbB HB hb;(try clear hb);(try clear ba))|((with_reducible refine gD 13 rfl ?_);refine bE 13 #[.int .i64 0,.int .i64 0,.slice none 0 0] 24 ?_;intro aj hg jw hbox hb;replace au:=kdB au hb;replace a0:=kdB a0 hb;replace bm:=kdB bm hb;have U:=aK (hbox);have gl:=hbS HB hg;have gi:=hbS HB hg;replace HB:=hbB HB hb;have ao:=neL D hg;have a7:=neG D hg;replace D:=bkB D hb;have ay:=neL G hg;have bc:=neG G hg;replace G:=bkB G hb;have aq:=neL J hg;have a8:=neG J hg;replace J:=bkB J hb;clear hb hbox hg;have g0:=a7.out;have il:=ao.out;have g1:=bc.out;have im:=ay.out;have g2:=a8.out;have io:=aq.out;obtain⟨b2,b3,b4,ci,cj,ck⟩:=cell3 U;obtain⟨cx,cy,e8⟩:=Kd.R_slice bm.out;subst e8))
  go_loopg [14] k (fun kq i3 w'=> ∃(L:Int) (aa:List Int) (ag:List Int) (Y:Value) (Z:Value),i3= .int .i64 L∧Aside0 (recoupref18_Decode.l0 kq af L ab O ae ak am aa al ar ag=some (r1,r2,r3,r4,r5))∧Aside0 (kq≤k)∧Aside0 (Kd.R (Kd.int .i64) 3 w' w.heap.size (fun _=>True) (.slice c8 af.length de) af)∧Aside0 (Kd.R (Kd.int .u8) 5 w' w.heap.size (fun k_=>some k_≠(Z:Value).ownBlock) Y aa)∧Aside0 (Kd.R (Kd.int .u8) 5 w' w.heap.size (fun k_=>some k_≠(Y:Value).ownBlock) Z ag)∧Aside0 (w'.heap[a9]? =some (.cells #[.int .i64 ab,.int .i64 O,(.slice a3 ae.length a4)] 24 (0,0)))∧Aside0 (w'.heap[a2]? =some (.cells #[.int .i64 0,.int .i64 0,(.slice none 0 0)] 24 (0,0)))∧Aside0 (w'.heap[cv]? =some (.cells #[.int .i64 ak,.int .i64 am,Y] 24 (0,0)))∧Aside0 (w'.heap[aj]? =some (.cells #[.int .i64 al,.int .i64 ar,Z] 24 (0,0)))∧Aside0 (Below w.heap.size w w'))
  case atStart=>exact⟨(0),(bj),(bk),(.slice bn bj.length bo),(.slice cx bk.length cy),rsE,H',⟨Nat.le_refl _⟩,⟨by(with_reducible repeat(first|apply Kd.R_alloc|apply Kd.R_drewN|apply Kd.R_drew));exact Kd.R_mono (Kd.R_far (p:=⟨aj,2,none⟩) (Kd.R_far (p:=⟨aj,1,none⟩) (Kd.R_far (p:=⟨aj,0,none⟩) (Kd.R_types au.out U.out zaa) (fun _ hk=>hk.2) (.int .i64 al)) (fun _ hk=>hk.2) (.int .i64 ar)) (fun _ hk=>hk.2) (.slice cx bk.length cy)) (fun _ hk=>trivial)⟩,⟨by(with_reducible repeat(first|apply Kd.R_alloc|apply Kd.R_drewN|apply Kd.R_drew));exact Kd.R_mono (Kd.R_far (p:=⟨aj,2,none⟩) (Kd.R_far (p:=⟨aj,1,none⟩) (Kd.R_far (p:=⟨aj,0,none⟩) (Kd.R_types a0.out U.out zaa) (fun _ hk=>hk.2) (.int .i64 al)) (fun _ hk=>hk.2) (.int .i64 ar)) (fun _ hk=>hk.2) (.slice cx bk.length cy)) (fun _ hk=>hk.1.2)⟩,⟨by(with_reducible repeat(first|apply Kd.R_alloc|apply Kd.R_drewN|apply Kd.R_drew));exact Kd.R_mono (Kd.R_far (p:=⟨aj,2,none⟩) (Kd.R_far (p:=⟨aj,1,none⟩) (Kd.R_far (p:=⟨aj,0,none⟩) (Kd.R_types bm.out U.out zaa) (fun _ hk=>hk.2) (.int .i64 al)) (fun _ hk=>hk.2) (.int .i64 ar)) (fun _ hk=>hk.2) (.slice cx bk.length cy)) (fun _ hk=>hk.1.2)⟩,⟨by refine bkR ?_;refine blk_far ?_ ao.out _;refine bkR ?_;refine blk_far ?_ ao.out _;refine bkR ?_;refine blk_far ?_ ao.out _;refine bkR ?_;exact D.out⟩,⟨by refine bkR ?_;refine blk_far ?_ ay.out _;refine bkR ?_;refine blk_far ?_ ay.out _;refine bkR ?_;refine blk_far ?_ ay.out _;refine bkR ?_;exact G.out⟩,⟨by refine bkR ?_;refine blk_far ?_ aq.out _;refine bkR ?_;refine blk_far ?_ aq.out _;refine bkR ?_;refine blk_far ?_ aq.out _;refine bkR ?_;exact J.out⟩,⟨by refine bkR ?_;refine blk_put (cs:= #[.int .i64 al,.int .i64 ar,.slice none 0 0]) ?_ 2 _ rfl;refine bkR ?_;refine blk_put (cs:= #[.int .i64 al,.int .i64 0,.slice none 0 0]) ?_ 1 _ rfl;refine bkR ?_;refine blk_put (cs:= #[.int .i64 0,.int .i64 0,.slice none 0 0]) ?_ 0 _ rfl;refine bkR ?_;exact U.out⟩,⟨hbA HB.out⟩⟩
  case round=>
   clear H'
   (try clear c1);(try clear c2);(try clear p2);(try clear c4);(try clear gm);(try clear gn);(try clear gp);(try clear gq);(try clear gr);(try clear gs);(try clear gt);(try clear gu);(try clear gv);(try clear gw);(try clear bp bq br b5 b6 b7);(try clear bs bt bu b8 b9 ca);(try clear bv bw bx cb cd ce);(try clear bz b0 b1 cf cg ch);(try clear b2 b3 b4 ci cj ck)
   obtain⟨L,aa,ag,Y,Z,rfl,HA,d1,HO_10,HO_508002,HO_514002,D,G,J,U,HB⟩:=hrel
   cases gk with
   |zero=>exact absurd HA.out (by simp[recoupref18_Decode.l0])
   |succ k1=>
    have H:=HA.out;clear HA;simp only[recoupref18_Decode.l0]at H;by_cases cu:L<O
    ·rw[if_pos cu]at H
     have c30b0:decide (L<O)=true:=decide_eq_true cu;clear cu;by_cases c5:0≤O
     ·rw[if_pos c5]at H
      have c31b0:=eq_true c5;have c31b1:decide (0≤O)=true:=decide_eq_true c5;clear c5;by_cases c6:(O:Int).toNat≤281474976710656
      ·rw[if_pos c6]at H
       have c32b0:=eq_true c6;have c32b1:decide ((O:Int).toNat≤281474976710656)=true:=decide_eq_true c6;clear c6;obtain⟨az,bg⟩: ∃y_:List Int,y_=(List.replicate (O:Int).toNat 0):=⟨_,rfl⟩
       replace H:(if 0≤L then(if L<(az.length:Int)then((recoupref04_Combine.f k1 ak am aa (az.set (L:Int).toNat 1)).bind fun ct=>(recoupref18_Decode.l1 k1 af L ct.1 0 ab O ae ak am aa al ar ag))else(none))else(none))=some (r1,r2,r3,r4,r5):=by first|(rw[bg];with_reducible exact H)|(have H2_:=(Option.bind_some _ _).symm.trans H;rw[bg];with_reducible exact H2_)|(have H2_:=(Option.bind_some _ _).symm.trans H;with_reducible exact H2_)|with_reducible exact H|(rw[bg];exact H)|exact H
       have db:=aK bg;clear bg;by_cases dc:0≤L
       ·rw[if_pos dc]at H
        have c33b0:decide (0≤L)=true:=decide_eq_true dc;clear dc;by_cases dd:L<(az.length:Int)
        ·rw[if_pos dd]at H
         have c34b0:decide (L<(az.length:Int))=true:=decide_eq_true dd;clear dd;obtain⟨bl,bh⟩: ∃y_:List Int,y_=(az.set (L:Int).toNat 1):=⟨_,rfl⟩
         replace H:((recoupref04_Combine.f k1 ak am aa bl).bind fun ct=>(recoupref18_Decode.l1 k1 af L ct.1 0 ab O ae ak am aa al ar ag))=some (r1,r2,r3,r4,r5):=by first|(rw[bh];with_reducible exact H)|(have H2_:=(Option.bind_some _ _).symm.trans H;rw[bh];with_reducible exact H2_)|(have H2_:=(Option.bind_some _ _).symm.trans H;with_reducible exact H2_)|with_reducible exact H|(rw[bh];exact H)|exact H
         have ex:=aK bh;clear bh;obtain⟨⟨ep,gb,gc⟩,gg,H⟩:=bindO H
         (try dsimp only at H)
         have H':=aK H;clear H;have g3:=aw.out;have ip:=ax.out;have g4:=an.out;have iq:=a5.out;have g5:=ao.out;have ir:=a7.out;obtain⟨dg,dh,di,dm,dn,dp⟩:=cell3 D
         go_wp2_with (first|((with_reducible refine gate_dst (N:=52) rfl ?_);refine Kd.R_make (Kd.int .u8) _ 5 rfl (N:=52) rfl 22 _ _ rfl O rfl rfl Tryd.underlying22 (.int .u8 0) 1 info5 rfl zaa zz 0 (ok:=fun _=>True) (okp:=fun _=>True) rfl (fun _ hk=>hk) trivial (of_decide_eq_true asE) (Nat.le_trans (Nat.mul_le_mul_right _ (of_decide_eq_true asE:O.toNat≤281474976710656)) zz) (Below.refl _ _) (Nat.le_refl _) ?_;intro jh ge bf hb hg_ hnew_;clear hg_ hnew_;(first|rw[←db.out]at bf|(simp only[Int.reduceToNat]at bf;rw[←db.out]at bf));replace HO_10:=kdB HO_10 hb;have ac:=aK (Kd.R_lower (Kd.R_new' (Kd.R_new' bf (Kd.R_lt (kdA HO_508002.out))) (Kd.R_lt (kdA HO_514002.out))) (below_size (hbA HB.out)));replace HO_508002:=aK (Kd.R_elder' (kdA HO_508002.out) (Kd.R_base bf) hb);replace HO_514002:=aK (Kd.R_elder' (kdA HO_514002.out) (Kd.R_base bf) hb);replace D:=bkB D hb;replace G:=bkB G hb;replace J:=bkB J hb;replace U:=bkB U hb;replace HB:=hbB HB hb;clear hb bf;have p35:0≤(L:Int):=of_decide_eq_true asE;have dx:(L:Int)<((az.length:Int):Int):=of_decide_eq_true asE;obtain⟨bb,bd,ej,em,fb,i8,ed⟩:=Kd.R_form ac.out zz;(first|cases ej|(injection ej with ea_ en_ ec_;(first|subst ea_|(injection ea_ with ea_;subst ea_));subst ec_;clear en_));have e3:=aK em;have i7:=aK ed;clear em fb ed;obtain⟨d8,gf⟩:=Kd.R_celln 0 ac.out (L:Int) p35 dx;replace p35:=eq_true p35;replace dx:=eq_true dx;have n_:=aK (Kd.R_mono (ok':=(fun k_=>some k_≠(Y:Value).ownBlock∧some k_≠(Z:Value).ownBlock)) ac.out (fun k_ hk=>⟨hk.1.2,hk.2⟩));clear ac;have ac:=n_;clear n_;obtain⟨hy43_,hz43_⟩:=Kd.R_celln 0 ac.out (L:Int) (of_decide_eq_true asE) (of_decide_eq_true asE);have c9:=Kd.R_putg ac.out (L:Int) 1)|((with_reducible refine gate_store (t:=5) (p:=55) rfl ?_);refine store_event (t:=5) (p:=55) (v:=?vo_w44) (w1:=(ge.setCell ⟨bb,(L:Int).toNat,none⟩ (.int .u8 1))) ?hg ?ho ?hn ?hr ?_;(case ho=>rfl);(case hg=>rfl);(case hn=>rfl);(case hr=>first|(go_simp;done)|(go_simp;rfl));intro e2 hw;have hg:ge.grownBy e2 (some bb):=(by rw[hw];exact c9.2);have hp_:Kd.R (Kd.int .u8) 5 e2 w.heap.size (fun k_=>some k_≠(Y:Value).ownBlock∧some k_≠(Z:Value).ownBlock) (.slice (some ⟨bb,0,none⟩) az.length bd) bl:=(by rw[hw,ex.out];exact c9.1);clear c9;replace HO_10:=aK (Kd.R_over' (v:=(.slice (some ⟨bb,0,none⟩) az.length bd)) (kdA HO_10.out) (Kd.R_typed ac.out) zaa hg);replace HO_508002:=aK (Kd.R_after (v:=(.slice (some ⟨bb,0,none⟩) az.length bd)) (v1:=(.slice (some ⟨bb,0,none⟩) az.length bd)) (ok:=(fun k_=>some k_≠(Z:Value).ownBlock)) (kdA HO_508002.out) hg (.inl rfl));replace HO_514002:=aK (Kd.R_after (v:=(.slice (some ⟨bb,0,none⟩) az.length bd)) (v1:=(.slice (some ⟨bb,0,none⟩) az.length bd)) (ok:=(fun k_=>some k_≠(Y:Value).ownBlock)) (kdA HO_514002.out) hg (.inl rfl));replace D:=bkG D hg (Kd.R_ne ac.out D.out zaa);replace G:=bkG G hg (Kd.R_ne ac.out G.out zaa);replace J:=bkG J hg (Kd.R_ne ac.out J.out zaa);replace U:=bkG U hg (Kd.R_ne ac.out U.out zaa);replace ac:=aK (hp_);replace HB:=aK ((by rw[hw];exact below_set (HB.out) e3.out:Below w.heap.size w e2));clear hg hw hp_;have g6:=a6.out;have it:=ap.out;have g7:=aq.out;have iu:=a8.out;obtain⟨dj,dk,dl,dq,dr,dt⟩:=cell3 J;obtain⟨ea,eg,e9⟩:=Kd.R_slice HO_508002.out;subst e9)|((with_reducible refine gC 44 rfl ?_);refine goesL_ (some 59) rfl rfl Tryd.func44 zab rfl #[.agg #[.int .i64 ak,.int .i64 am,.slice ea aa.length eg],.slice (some ⟨bb,0,none⟩) bl.length bd] rfl (by(try simp only[List.map_toArray,List.map_cons,List.map_nil]);first|done|(rw[show bl.length=az.length from(Kd.R_reads' ac.out).1.symm]<;>rfl)|rfl|(simp only[List.length_drop,List.length_take];rfl)) ?_;(with_reducible refine(recoupref04_Combine.calls k1 ak am _ _ aa _ _ bl ep gb gc _ ?side1 ?side2 ?side3 ?side4 gg.out).mono ?_);(case side1=>exact kcA (Kd.R_reads' HO_508002.out).2.2);(case side2=>exact(Kd.R_reads' HO_508002.out).2.1);(case side3=>exact kcA (Kd.R_reads' ac.out).2.2);(case side4=>rw[show bl.length=az.length from(Kd.R_reads' ac.out).1.symm];exact(Kd.R_reads' ac.out).2.1);rintro e jx ⟨d0,rfl,ba,hb⟩;refine⟨_,rfl,?_⟩;replace HO_10:=kdB HO_10 hb;have ew:=aK (Kd.R_lower (Kd.R_new' (Kd.R_new' (Kd.R_new' ba (Kd.R_lt (kdA HO_508002.out))) (Kd.R_lt (kdA HO_514002.out))) (Kd.R_lt (kdA ac.out))) (below_size (hbA HB.out)));replace HO_508002:=aK (Kd.R_elder' (kdA HO_508002.out) (Kd.R_base ba) hb);replace HO_514002:=aK (Kd.R_elder' (kdA HO_514002.out) (Kd.R_base ba) hb);replace ac:=aK (Kd.R_elder' (kdA ac.out) (Kd.R_base ba) hb);replace D:=bkB D hb;replace G:=bkB G hb;replace J:=bkB J hb;replace U:=bkB U hb;replace HB:=hbB HB hb;(try clear hb);(try clear ba)))
         go_loopg [19] k1 (fun kq i4 w'=> ∃(ah:List Int) (I:Int) (ai:List Int) (X:List Int) (Y:Value) (Z:Value),i4= .int .i64 I∧Aside0 (recoupref18_Decode.l1 kq af L ah I ab O ae ak am ai al ar X=some (r1,r2,r3,r4,r5))∧Aside0 (kq≤k1)∧Aside0 (Kd.R (Kd.int .i64) 3 w' w.heap.size (fun _=>True) (.slice c8 af.length de) af)∧Aside0 (Kd.R (Kd.int .u8) 5 w' w.heap.size (fun k_=>some k_≠(Y:Value).ownBlock∧some k_≠(Z:Value).ownBlock) d0 ah)∧Aside0 (Kd.R (Kd.int .u8) 5 w' w.heap.size (fun k_=>some k_≠(d0:Value).ownBlock∧some k_≠(Z:Value).ownBlock) Y ai)∧Aside0 (Kd.R (Kd.int .u8) 5 w' w.heap.size (fun k_=>some k_≠(d0:Value).ownBlock∧some k_≠(Y:Value).ownBlock) Z X)∧Aside0 (w'.heap[a9]? =some (.cells #[.int .i64 ab,.int .i64 O,(.slice a3 ae.length a4)] 24 (0,0)))∧Aside0 (w'.heap[a2]? =some (.cells #[.int .i64 0,.int .i64 0,(.slice none 0 0)] 24 (0,0)))∧Aside0 (w'.heap[cv]? =some (.cells #[.int .i64 ak,.int .i64 am,Y] 24 (0,0)))∧Aside0 (w'.heap[aj]? =some (.cells #[.int .i64 al,.int .i64 ar,Z] 24 (0,0)))∧Aside0 (Below w.heap.size w w'))
         case atStart=>exact⟨(ep),(0),(aa),(ag),(.slice ea aa.length eg),(Z),rsE,H',⟨Nat.le_refl _⟩,⟨kdA HO_10.out⟩,⟨by(with_reducible repeat(first|apply Kd.R_alloc|apply Kd.R_drewN|apply Kd.R_drew));exact Kd.R_mono ew.out (fun _ hk=>⟨hk.1.1.2,hk.1.2⟩)⟩,⟨by(with_reducible repeat(first|apply Kd.R_alloc|apply Kd.R_drewN|apply Kd.R_drew));exact Kd.R_mono HO_508002.out (fun _ hk=>⟨hk.2,hk.1.1⟩)⟩,⟨by(with_reducible repeat(first|apply Kd.R_alloc|apply Kd.R_drewN|apply Kd.R_drew));exact Kd.R_mono HO_514002.out (fun _ hk=>⟨hk.2,hk.1.1⟩)⟩,⟨bkA D.out⟩,⟨bkA G.out⟩,⟨bkA J.out⟩,⟨bkA U.out⟩,⟨hbA HB.out⟩⟩
         case round=>
          clear H'
          (try clear c1);(try clear c2);(try clear p2 p2);(try clear c3);(try clear p3);(try clear q3);(try clear jq);(try clear jp);(try clear c4);(try clear gm);(try clear gn);(try clear gp);(try clear gq);(try clear gr);(try clear gs);(try clear gt);(try clear gu);(try clear gv);(try clear gw);(try clear cu);(try clear c30b0);(try clear c5);(try clear c31b0);(try clear c31b1);(try clear c6);(try clear c32b0);(try clear c32b1);(try clear dc);(try clear c33b0);(try clear dd);(try clear c34b0);(try clear p35 p35);(try clear dx dx);(try clear jd);(try clear jb);(try clear ji);(try clear jj);(try clear jk);(try clear jl);(try clear jm);(try clear jn);(try clear jo);(try clear bp bq br b5 b6 b7);(try clear bs bt bu b8 b9 ca);(try clear bv bw bx cb cd ce);(try clear bz b0 b1 cf cg ch);(try clear b2 b3 b4 ci cj ck);(try clear dg dh di dm dn dp);(try clear dj dk dl dq dr dt);(try clear d8)
          obtain⟨ah,I,ai,X,Y,Z,rfl,HA,d2,HO_10,HO_16,HO_508002,HO_514002,D,G,J,U,HB⟩:=hrel
          cases gk with
          |zero=>exact absurd HA.out (by simp[recoupref18_Decode.l1])
          |succ k2=>
           have H:=HA.out;clear HA;simp only[recoupref18_Decode.l1]at H;by_cases c7:I<(af.length:Int)
           ·rw[if_pos c7]at H
            have c50b0:decide (I<(af.length:Int))=true:=decide_eq_true c7;clear c7;by_cases d3:0≤I
            ·rw[if_pos d3]at H
             have c51b0:decide (0≤I)=true:=decide_eq_true d3;clear d3;by_cases d4:I<(ah.length:Int)
             ·rw[if_pos d4]at H
              have c52b0:decide (I<(ah.length:Int))=true:=decide_eq_true d4;clear d4;obtain⟨av,cw⟩: ∃j_:Int,(wrap64 ((wrap64 (L*ab))+(rd af I)))=j_:=⟨_,rfl⟩
              replace H:(if 0≤(av)then(if(av)<(X.length:Int)then(recoupref18_Decode.l1 k2 af L ah (wrap64 (I+1)) ab O ae ak am ai al ar (X.set ((av):Int).toNat (rd ah I)))else(none))else(none))=some (r1,r2,r3,r4,r5):=by first|(rw[cw]at H;exact H)|(simp only[cw]at H⊢;exact H)
              have hji53w:(IntKind.i64.wrap ((wrap64 (L*ab))+(rd af I)))=av:=(i64_w _).trans cw;by_cases d5:0≤(av)
              ·rw[if_pos d5]at H
               have c54b0:decide (0≤(av))=true:=decide_eq_true d5;clear d5;by_cases d6:(av)<(X.length:Int)
               ·rw[if_pos d6]at H
                have c55b0:decide ((av)<(X.length:Int))=true:=decide_eq_true d6;clear d6;obtain⟨er,bi⟩: ∃y_:List Int,y_=(X.set ((av):Int).toNat (rd ah I)):=⟨_,rfl⟩
                replace H:(recoupref18_Decode.l1 k2 af L ah (wrap64 (I+1)) ab O ae ak am ai al ar er)=some (r1,r2,r3,r4,r5):=by first|(rw[bi];with_reducible exact H)|(have H2_:=(Option.bind_some _ _).symm.trans H;rw[bi];with_reducible exact H2_)|(have H2_:=(Option.bind_some _ _).symm.trans H;with_reducible exact H2_)|with_reducible exact H|(rw[bi];exact H)|exact H
                have ey:=aK bi;clear bi;have H':=aK H;clear H
                try go_wp2
                replace HO_10:=aK (Kd.R_drew HO_10.out);replace HO_16:=aK (Kd.R_drew HO_16.out);replace HO_508002:=aK (Kd.R_drew HO_508002.out);replace HO_514002:=aK (Kd.R_drew HO_514002.out);replace D:=aK (blk_drew D.out);replace G:=aK (blk_drew G.out);replace J:=aK (blk_drew J.out);replace U:=aK (blk_drew U.out);replace HB:=aK (below_drew1 HB.out);have dv:0≤(I:Int):=of_decide_eq_true asE;have dy:I<(af.length:Int):=of_decide_eq_true asE;obtain⟨ez,e4,cl⟩:=Kd.at_int (Kd.R_reads' HO_10.out).2.2 I dv dy
                cases e4
                replace dv:=eq_true dv;replace dy:=eq_true dy;obtain⟨i5,ja,el⟩:=Kd.R_slice HO_16.out
                (first|subst el|(injection el with f1_ f2_ f3_;have f4_:=f1_.symm;have f5_:=f3_.symm;clear f1_ f2_ f3_;subst f4_;subst f5_))
                have dw:0≤(I:Int):=of_decide_eq_true asE;have dz:I<(ah.length:Int):=of_decide_eq_true asE;obtain⟨e0,e5,cm⟩:=Kd.at_int (Kd.R_reads' HO_16.out).2.2 I dw dz
                cases e5
                replace dw:=eq_true dw;replace dz:=eq_true dz;have p56:0≤((av):Int):=of_decide_eq_true asE;have e1:((av):Int)<((X.length:Int):Int):=of_decide_eq_true asE;obtain⟨be,eh,ek,en,fc,i9,ee⟩:=Kd.R_form HO_514002.out zz
                (first|cases ek|(injection ek with ea_ en_ ec_;(first|subst ea_|(injection ea_ with ea_;subst ea_));subst ec_;clear en_))
                have i6:=aK en;have ec:=aK ee;clear en fc ee;obtain⟨d9,d7⟩:=Kd.R_celln 0 HO_514002.out ((av):Int) p56 e1;replace p56:=eq_true p56;replace e1:=eq_true e1;have da:=Kd.R_putn HO_514002.out ((av):Int) (rd ah I);rw[←ey.out]at da
                have ef:=aK da;clear da;refine start_ (n:=17) (S:=fun w'=>w'.cell? ⟨aj,0,none⟩=some (.int .i64 al)∧w'.cell? ⟨aj,1,none⟩=some (.int .i64 ar)∧w'.cell? ⟨aj,2,none⟩=some (.slice (some ⟨be,0,none⟩) X.length eh)∧w'.cell? ⟨a9,0,none⟩=some (.int .i64 ab)∧w'.cell? ⟨a9,1,none⟩=some (.int .i64 O)∧w'.cell? ⟨a9,2,none⟩=some (.slice a3 ae.length a4)∧w'.cell? (ez.add (I).toNat)=some (.int .i64 (rd af I))∧w'.cell? (e0.add (I).toNat)=some (.int .u8 (rd ah I))) (ds:= [16]) (.replicate 17 false) zab rfl rfl ⟨(blk_cell U.out 0).trans rfl,(blk_cell U.out 1).trans rfl,(blk_cell U.out 2).trans rfl,(blk_cell D.out 0).trans rfl,(blk_cell D.out 1).trans rfl,(blk_cell D.out 2).trans rfl,cl,cm⟩ (fun hHeld=>?_);refine with_tabW recoupref18_Decode.tab16 recoupref18_Decode.bits16 (fun HT_ HW_=>?_);generalize wr.drew=jy at HO_10 HO_16 HO_508002 HO_514002 D G J U HB ec ef d7 cl cm d9 hHeld⊢;refine pu 0 (some 69) (mB 17 1) HT_ ?_;refine pu 2 (some 71) (mB 17 5) HT_ ?_;refine pu 3 (some 72) (mB 17 13) HT_ ?_;refine pu 6 (some 75) (mB 17 77) HT_ ?_;refine pu 7 (some 76) (mB 17 205) HT_ ?_;refine pu 8 (some 77) (mB 17 461) HT_ ?_;refine pu 11 (some 80) (mB 17 2509) HT_ ?_;refine pu 12 (some 81) (mB 17 6605) HT_ ?_;refine pu 13 (some 82) (mB 17 14797) HT_ ?_;refine tk8 1 (some 70) (mB 17 14799) HT_ HW_ hHeld ?_;refine tk8 4 (some 73) (mB 17 14815) HT_ HW_ hHeld ?_;refine pu 5 (some 74) (mB 17 14847) HT_ ?_;refine tk8 9 (some 78) (mB 17 15359) HT_ HW_ hHeld ?_;refine pu 10 (some 79) (mB 17 16383) HT_ ?_;refine tk8 14 (some 83) (mB 17 32767) HT_ HW_ hHeld ?_;refine pu 15 (some 84) (mB 17 65535) HT_ ?_;refine zlh 16 (none) (mB 17 131071) HT_ fun K hK=>?_;refine zsk ?_;refine hK.out _ _ ?_;clear hK K;refine done_ (done_of HT_.out zab) ?_
                try go_wp2
                go_roundg k2
                case measure=>have:=d1.out;have:=d2.out;omega
                case rel=>exact⟨(ah),(wrap64 (I+1)),(ai),(er),(Y),(.slice (some ⟨be,0,none⟩) X.length eh),rsE,H',⟨by have:=d1.out;have:=d2.out;omega⟩,⟨by(with_reducible repeat(first|apply Kd.R_alloc|apply Kd.R_drewN|apply Kd.R_drew));exact Kd.R_mono (Kd.R_far (p:=⟨be,((av):Int).toNat,none⟩) (Kd.R_types HO_10.out ec.out zaa) (fun _ hk=>hk.2) (.int .u8 (rd ah I))) (fun _ hk=>trivial)⟩,⟨by(with_reducible repeat(first|apply Kd.R_alloc|apply Kd.R_drewN|apply Kd.R_drew));exact Kd.R_mono (Kd.R_far (p:=⟨be,((av):Int).toNat,none⟩) (Kd.R_mono HO_16.out (fun k_ hk=>(⟨hk,fun e_=>hk.2 zaf⟩:_∧k_≠be))) (fun _ hk=>hk.2) (.int .u8 (rd ah I))) (fun _ hk=>⟨hk.1.1,hk.1.2⟩)⟩,⟨by(with_reducible repeat(first|apply Kd.R_alloc|apply Kd.R_drewN|apply Kd.R_drew));exact Kd.R_mono (Kd.R_far (p:=⟨be,((av):Int).toNat,none⟩) (Kd.R_mono HO_508002.out (fun k_ hk=>(⟨hk,fun e_=>hk.2 zaf⟩:_∧k_≠be))) (fun _ hk=>hk.2) (.int .u8 (rd ah I))) (fun _ hk=>⟨hk.1.1,hk.1.2⟩)⟩,⟨kdA ef.out⟩,⟨by refine bkR ?_;refine blk_far ?_ (by have h_:=Kd.R_ne HO_514002.out D.out zaa;intro e_;exact h_ zaf) _;refine bkR ?_;exact D.out⟩,⟨by refine bkR ?_;refine blk_far ?_ (by have h_:=Kd.R_ne HO_514002.out G.out zaa;intro e_;exact h_ zaf) _;refine bkR ?_;exact G.out⟩,⟨by refine bkR ?_;refine blk_far ?_ (by have h_:=Kd.R_ne HO_514002.out J.out zaa;intro e_;exact h_ zaf) _;refine bkR ?_;exact J.out⟩,⟨by refine bkR ?_;refine blk_far ?_ (by have h_:=Kd.R_ne HO_514002.out U.out zaa;intro e_;exact h_ zaf) _;refine bkR ?_;exact U.out⟩,⟨hbA HB.out⟩⟩
               ·rw[if_neg d6]at H
                exact absurd H zac
              ·rw[if_neg d5]at H
               exact absurd H zac
             ·rw[if_neg d4]at H
              exact absurd H zac
            ·rw[if_neg d3]at H
             exact absurd H zac
           ·rw[if_neg c7]at H
            have c50b0:decide (I<(af.length:Int))=false:=decide_eq_false c7;clear c7;have H':=aK H;clear H;go_wp2
            go_roundg k2
            case measure=>have:=d1.out;have:=d2.out;omega
            case rel=>exact⟨(wrap64 (L+1)),(ai),(X),(Y),(Z),rsE,H',⟨by have:=d1.out;have:=d2.out;omega⟩,⟨kdA HO_10.out⟩,⟨by(with_reducible repeat(first|apply Kd.R_alloc|apply Kd.R_drewN|apply Kd.R_drew));exact Kd.R_mono HO_508002.out (fun _ hk=>hk.2)⟩,⟨by(with_reducible repeat(first|apply Kd.R_alloc|apply Kd.R_drewN|apply Kd.R_drew));exact Kd.R_mono HO_514002.out (fun _ hk=>hk.2)⟩,⟨bkA D.out⟩,⟨bkA G.out⟩,⟨bkA J.out⟩,⟨bkA U.out⟩,⟨hbA HB.out⟩⟩
        ·rw[if_neg dd]at H
         exact absurd H zac
       ·rw[if_neg dc]at H
        exact absurd H zac
      ·rw[if_neg c6]at H
       exact absurd H zac
     ·rw[if_neg c5]at H
      exact absurd H zac
    ·rw[if_neg cu]at H
     have c30b0:decide (L<O)=false:=decide_eq_false cu;clear cu;simp only[Option.some.injEq,Prod.mk.injEq]at H;obtain⟨rfl,rfl,rfl,rfl,rfl⟩:=H;have g8:=aw.out;have iv:=ax.out;have g9:=an.out;have iw:=a5.out;have ia:=ao.out;have ix:=a7.out;obtain⟨fd,fe,ff,fu,fv,fw⟩:=cell3 D;have ib:=bc.out;have iy:=ay.out;have ic:=a8.out;have iz:=aq.out;obtain⟨fg,fh,fi,fx,fy,fz⟩:=cell3 U;have ie:=ap.out;have i1:=a6.out;obtain⟨fj,fk,fl,f0,f1,f2⟩:=cell3 G;obtain⟨eb,ei,fa⟩:=Kd.R_slice HO_514002.out;subst fa;go_wp2;refine bodyPost_ret (results_ctt rfl _ _ a2 24 #[.int .i64 al,.int .i64 ar,.slice eb ag.length ei] (0,0) _ rfl (by refine bkR ?_;refine blk_put (cs:= #[.int .i64 al,.int .i64 ar,.slice none 0 0]) ?_ 2 _ rfl;refine bkR ?_;refine blk_put (cs:= #[.int .i64 al,.int .i64 0,.slice none 0 0]) ?_ 1 _ rfl;refine bkR ?_;refine blk_put (cs:= #[.int .i64 0,.int .i64 0,.slice none 0 0]) ?_ 0 _ rfl;refine bkR ?_;exact G.out) Tryd.underlying24 rfl zab) rfl ?_;exact⟨_,rfE,by(with_reducible repeat(first|apply Kd.R_alloc|apply Kd.R_drewN|apply Kd.R_drew));exact Kd.R_mono (Kd.R_far (p:=⟨a2,2,none⟩) (Kd.R_far (p:=⟨a2,1,none⟩) (Kd.R_far (p:=⟨a2,0,none⟩) (Kd.R_types HO_514002.out G.out zaa) (fun _ hk=>hk.2) (.int .i64 al)) (fun _ hk=>hk.2) (.int .i64 ar)) (fun _ hk=>hk.2) (.slice eb ag.length ei)) (fun _ hk=>trivial),hbA HB.out⟩
 ·replace c4:=Bool.eq_false_iff.mpr c4;subst c4;rw[if_neg nofT]at H
  simp only[Option.some.injEq,Prod.mk.injEq]at H;obtain⟨rfl,rfl,rfl,rfl,rfl⟩:=H
  go_enter Tryd.func21,Tryd.ntmps21
  go_wp2_with (first|((with_reducible refine gD 2 rfl ?_);refine bE 2 #[.int .i64 ab,.int .i64 O,.slice a3 ae.length a4] 24 ?_;intro a9 hg jz hbox hb;have D:=aK (hbox);have eu:=hbS HB hg;have es:=hbS HB hg;replace HB:=hbB HB hb;clear hb hbox hg)|((with_reducible refine gD 4 rfl ?_);refine bE 4 #[.int .i64 0,.int .i64 0,.slice none 0 0] 24 ?_;intro a2 hg j0 hbox hb;have G:=aK (hbox);have ev:=hbS HB hg;have et:=hbS HB hg;replace HB:=hbB HB hb;have aw:=neL D hg;have ax:=neG D hg;replace D:=bkB D hb;clear hb hbox hg;have ig:=aw.out;have i2:=ax.out;obtain⟨fm,fo,fp,f3,f4,f5⟩:=cell3 D)|((with_reducible refine gC 12 rfl ?_);refine cG (some 23) Tryd.func12 #[.agg #[.int .i64 ab,.int .i64 O,.slice a3 ae.length a4],.int .u64 a1] ?_;(with_reducible refine(recoupref18_Sources.calls k ab O _ _ ae a1 cz false eo _ ?side1 ?side2 A3.out).mono ?_);(case side1=>exact kcB co HB);(case side2=>exact cn.out);rintro e j1 ⟨rfl,hb⟩;refine⟨_,rfl,?_⟩;replace D:=bkB D hb;replace G:=bkB G hb;replace HB:=hbB HB hb;(try clear hb);obtain⟨fq,fs,ft,f6,f7,f8⟩:=cell3 G))
  refine bodyPost_ret (results_ctt rfl _ _ a2 24 #[.int .i64 0,.int .i64 0,.slice none 0 0] (0,0) _ rfl zb8 Tryd.underlying24 rfl zab) rfl ?_;exact⟨_,rfE,nilE,hbA HB.out⟩
end Go.Proofs.YtkagobkedifhkaaDoor.Q
namespace Go.Proofs.YtkagobkedifhkaaDoor.Q
open Go.RowKit Go.Proofs.YtkagobkedifhkaaDoorW.PrintWords Go.Proofs.YtkagobkedifhkaaDoorW.PrintLast Go.Proofs.YtkagobkedifhkaaDoorW.PrintMore
attribute [local go_sem] max2_int min2_int max_two min_two max_three min_three max_four min_four
set_option linter.unusedVariables false
set_option linter.unusedSimpArgs false
def dotF(X Y:Nat→Int):Nat→Int
 |0=>0
 |i+1=>Go.bits .xor .u8 (dotF X Y i) (mulT (X i) (Y i))
set_option maxHeartbeats 2000000 in
set_option maxRecDepth 100000 in
theorem field_Dot.row(n:Nat)(A1 A2:Option Addr)(c1 c2:Nat)(X Y:Nat→Int)(w:World)(hn:n≤64)(hX: ∀q,q<n→0≤X q∧X q<256)(hY: ∀q,q<n→0≤Y q∧Y q<256)
 (h1: ∀q,q<n→ ∃ad,A1=some ad∧w.cell? (ad.add q)=some (.int .u8 (X q))) (h2: ∀q,q<n→ ∃ad,A2=some ad∧w.cell? (ad.add q)=some (.int .u8 (Y q))):
 Calls Tryd.prog 73 #[.slice A1 n c1,.slice A2 n c2] w fun e w'=>e= .returned (.tuple #[.int .u8 (dotF X Y n),.int .i64 0])∧Below w.heap.size w w':=by
 have HX:=aK hX;have HY:=aK hY;have H1:=aK h1;have H2:=aK h2;clear hX hY h1 h2;have hz:=field_build.zero;have ceq:((n:Int)!=(n:Int))=false:=by simp
 go_enter Tryd.func73,Tryd.ntmps73
 go_wp2_with (first|(go_at_call 86;refine(field_build.calls _).mono ?_;rintro e w1 ⟨rfl,G⟩;have D:=aK G;clear G)|(with_reducible refine wpList_store_row rfl 116 (.tmp 6) (.tmp 15) rfl w1.heap.size field_build.T rfl rfl 116 _ (blk_new _ _) field_build.infoT field_build.sizeZ field_build.oneT ?_;rw[World.setRow_alloc_new];simp only[Act.put,List.setIfInBounds_toArray,List.set_cons_succ,List.set_cons_zero]))
 have Z:=D.out.size;have hTb:(w1.alloc (.cells field_build.T 116)).heap[w1.heap.size]? =some (.cells field_build.T 116 (0,0)):=blk_new w1 _;have hBb:Below w.heap.size w (w1.alloc (.cells field_build.T 116)):=below_alloc D.out _;generalize w1.alloc (.cells field_build.T 116)=W1 at*
 go_loopw [7,18] (fun s v wr=> ∃i:Nat,i≤n∧v= .int .i64 i∧s= .int .u8 (dotF X Y i)∧Aside0 (wr.heap[w1.heap.size]? =some (.cells field_build.T 116 (0,0)))∧Aside0 (Below w.heap.size w wr)) (fun _ v _=>n-(intOf v).toNat)
 case atStart=>exact⟨0,by omega,rfl,rfl,⟨hTb⟩,⟨hBb⟩⟩
 case round=>
  obtain⟨i,hi,rfl,rfl,HTB,HB⟩:=hrel;clear hTb hBb;by_cases hlt:i<n
  ·obtain⟨a1,e1,x1⟩:=H1.out i hlt;obtain⟨a2,e2,x2⟩:=H2.out i hlt;subst e1 e2;have aa:=pw_cell_below HB.out x1;have ab:=pw_cell_below HB.out x2;obtain⟨I,J⟩:=HX.out i hlt;obtain⟨O,U⟩:=HY.out i hlt;have hd:dotF X Y (i+1)=Go.bits .xor .u8 (dotF X Y i) (mulT (X i) (Y i)):=rfl;have HD:=aK hd;clear hd x1 x2;generalize X i=x at*;generalize Y i=y at*;have p0:(0:Int)≤(i:Int):=by omega
   have p1:(i:Int)<(n:Int):=by omega
   go_wp2_with (go_at_call 87;refine(tables_mul.calls w1.heap.size x y _ HTB.out I J O U).mono ?_;rintro e w' ⟨rfl,⟨nd,rfl⟩⟩)
   go_roundw
   case rel=>exact⟨i+1,by omega,by go_num,by rw[HD.out],⟨blk_drewN HTB.out _⟩,⟨pw_below_drewN HB.out _⟩⟩
   case measure=>simp[intOf];omega
  ·obtain rfl:i=n:=by omega
   go_wp2
   go_ret2
   exact⟨rfl,HB.out⟩
def rowF(l:List Int)(m i:Nat):Nat→Int:=fun k=>l.getD (i*m+k) 0
def midM(n m p:Nat)(l1 l2:List Int)(i j:Nat):List Int:=(List.range (n*p)).map fun q=>if q / p<i∨(q / p=i∧q % p<j)then dotF (rowF l1 m (q / p)) (rowF (transL m p l2) m (q % p)) m else 0
def mulF(n m p:Nat)(l1 l2:List Int):List Int:=(List.range (n*p)).map fun q=>dotF (rowF l1 m (q / p)) (rowF (transL m p l2) m (q % p)) m
theorem midM_length(n m p:Nat)(l1 l2:List Int)(i j:Nat):(midM n m p l1 l2 i j).length=n*p:=by simp[midM]
theorem midM_zero(n m p:Nat)(l1 l2:List Int):midM n m p l1 l2 0 0=List.replicate (n*p) 0:=by
 apply List.ext_getElem (by simp[midM]);intro q h1 h2;simp[midM]
theorem midM_step{n m p:Nat}{l1 l2:List Int}{i j:Nat}(hi:i<n)(hj:j<p):(midM n m p l1 l2 i j).set (i*p+j) (dotF (rowF l1 m i) (rowF (transL m p l2) m j) m)=midM n m p l1 l2 i (j+1):=by
 have hm:(i*p+j) % p=j:=by rw[Nat.add_comm,Nat.add_mul_mod_self_right,Nat.mod_eq_of_lt hj]
 have hd:(i*p+j) / p=i:=by rw[Nat.add_comm,Nat.add_mul_div_right _ _ zz,Nat.div_eq_of_lt hj,Nat.zero_add]
 apply List.ext_getElem (by simp[midM]);intro q h1 h2;simp only[midM,List.getElem_set,List.getElem_map,List.getElem_range];by_cases e:i*p+j=q
 ·subst e;rw[if_pos rfl,hm,hd,if_pos (.inr ⟨rfl,by omega⟩)]
 ·rw[if_neg e];have hq:=Nat.div_add_mod q p;by_cases c:q / p<i∨(q / p=i∧q % p<j)
  ·rw[if_pos c,if_pos (c.imp id (fun⟨a,b⟩=>⟨a,by omega⟩))]
  ·rw[if_neg c,if_neg];rintro(h|⟨h,h'⟩)
   ·exact c (.inl h)
   ·rcases Nat.lt_or_eq_of_le (Nat.le_of_lt_succ h')with h3|h3
    ·exact c (.inr ⟨h,h3⟩)
    ·apply e;rw[h,h3]at hq
     rw[Nat.mul_comm];exact hq
theorem midM_row{n m p:Nat}{l1 l2:List Int}{i:Nat} :midM n m p l1 l2 i p=midM n m p l1 l2 (i+1) 0:=by
 apply List.ext_getElem (by simp[midM]);intro q h1 h2;rw[midM_length]at h1
 have hp:0<p:=by
  rcases Nat.eq_zero_or_pos p with h|h
  ·subst h;simp at h1
  ·exact h
 have hq:=Nat.mod_lt q hp;simp only[midM,List.getElem_map,List.getElem_range];have:(q / p<i∨(q / p=i∧q % p<p))↔(q / p<i+1∨(q / p=i+1∧q % p<0)):=by
  generalize q % p=a at*;generalize q / p=b at*;omega
 by_cases c:q / p<i∨(q / p=i∧q % p<p)
 ·rw[if_pos c,if_pos (this.1 c)]
 ·rw[if_neg c,if_neg (fun h=>c (this.2 h))]
theorem midM_all{n m p:Nat}{l1 l2:List Int} :midM n m p l1 l2 n 0=mulF n m p l1 l2:=by
 apply List.ext_getElem (by simp[midM,mulF]);intro q h1 h2;rw[midM_length]at h1
 have hp:0<p:=by
  rcases Nat.eq_zero_or_pos p with h|h
  ·subst h;simp at h1
  ·exact h
 simp only[midM,mulF,List.getElem_map,List.getElem_range];rw[if_pos (.inl ((Nat.div_lt_iff_lt_mul hp).2 h1))]
structure MulA (w:World) (n m m2 p:Int) (c1 c2:Nat) (A1 A2:Option Addr) (l1 l2:List Int) (wr:World):Prop where
 ha:wr.heap[w.heap.size]? =some (.cells #[.int .i64 n,.int .i64 m,.slice A1 l1.length c1] 24 (0,0))
 hb:wr.heap[w.heap.size+1]? =some (.cells #[.int .i64 m2,.int .i64 p,.slice A2 l2.length c2] 24 (0,0))
 hr:wr.heap[w.heap.size+2]? =some (.cells #[.int .i64 0,.int .i64 0,.slice none 0 0] 24 (0,0))
 below:Below w.heap.size w wr
theorem MulA.next{w:World}{n m m2 p:Int}{c1 c2:Nat}{A1 A2:Option Addr}{l1 l2:List Int}{wr w1:World}(h:MulA w n m m2 p c1 c2 A1 A2 l1 l2 wr)(hb:Below wr.heap.size wr w1):MulA w n m m2 p c1 c2 A1 A2 l1 l2 w1:=
 ⟨(hb.block _ (lt_of_get h.ha)).trans h.ha,(hb.block _ (lt_of_get h.hb)).trans h.hb,(hb.block _ (lt_of_get h.hr)).trans h.hr,below_step h.below hb⟩
theorem MulA.start(w:World)(n m m2 p:Int)(c1 c2:Nat)(A1 A2:Option Addr)(l1 l2:List Int):MulA w n m m2 p c1 c2 A1 A2 l1 l2 (((w.alloc (.cells #[.int .i64 n,.int .i64 m,.slice A1 l1.length c1] 24)).alloc (.cells #[.int .i64 m2,.int .i64 p,.slice A2 l2.length c2] 24)).alloc (.cells #[.int .i64 0,.int .i64 0,.slice none 0 0] 24)):=by
 have ha:=heap_alloc2_old w (.cells #[.int .i64 n,.int .i64 m,.slice A1 l1.length c1] 24) (.cells #[.int .i64 m2,.int .i64 p,.slice A2 l2.length c2] 24);have hb:=heap_alloc2_old (w.alloc (.cells #[.int .i64 n,.int .i64 m,.slice A1 l1.length c1] 24)) (.cells #[.int .i64 m2,.int .i64 p,.slice A2 l2.length c2] 24) (.cells #[.int .i64 0,.int .i64 0,.slice none 0 0] 24);have hr:=blk_new ((w.alloc (.cells #[.int .i64 n,.int .i64 m,.slice A1 l1.length c1] 24)).alloc (.cells #[.int .i64 m2,.int .i64 p,.slice A2 l2.length c2] 24)) (.cells #[.int .i64 0,.int .i64 0,.slice none 0 0] 24);rw[World.size_alloc]at hb
 rw[World.size_alloc,World.size_alloc]at hr
 exact⟨((below_alloc (Below.refl _ _) _).block _ (lt_of_get ha)).trans ha,hb,hr,below_alloc (below_alloc (below_alloc (Below.refl w.heap.size w) _) _) _⟩
structure MulB (w:World) (n m p c1 c2:Nat) (A1 A2:Option Addr) (l1 l2:List Int) (d4 d6 d7 d8:Bool) (v4 v6:Value) (g7 g8:Nat) (wr:World):Prop where
 mm:MulA w n m m p c1 c2 A1 A2 l1 l2 wr
 h4:d4=true→Kd.R (Kd.int .u8) 5 wr w.heap.size (fun _=>True) v4 (List.replicate (n*p) 0)
 h6:d6=true→Kd.R (Kd.int .u8) 5 wr w.heap.size (fun _=>True) v6 (transL m p l2)
 h7:d7=true→wr.heap[g7]? =some (.cells #[.int .i64 0,.int .i64 0,.slice none 0 0] 24 (0,0))∧w.heap.size+3≤g7
 h8:d8=true→wr.heap[g8]? =some (.cells #[.int .i64 0,.int .i64 0,.slice none 0 0] 24 (0,0))∧w.heap.size+3≤g8
 n46:d4=true→d6=true→ ∀k,v4.ownBlock=some k→v6.ownBlock≠some k
 n78:d7=true→d8=true→g7≠g8
section
variable {w:World} {n m p c1 c2:Nat} {A1 A2:Option Addr} {l1 l2:List Int} {d4 d6 d7 d8:Bool} {v4 v6:Value} {g7 g8:Nat} {wr w1:World}
theorem MulA.size{n m m2 p:Int}(h:MulA w n m m2 p c1 c2 A1 A2 l1 l2 wr):w.heap.size+3≤wr.heap.size:=lt_of_get h.hr
theorem MulB.start(h:MulA w n m m p c1 c2 A1 A2 l1 l2 wr)(v4 v6:Value)(g7 g8:Nat):MulB w n m p c1 c2 A1 A2 l1 l2 false false false false v4 v6 g7 g8 wr:=
 ⟨h,(fun e=>by cases e),(fun e=>by cases e),(fun e=>by cases e),(fun e=>by cases e),(fun e=>by cases e),fun e=>by cases e⟩
theorem MulB.next(h:MulB w n m p c1 c2 A1 A2 l1 l2 d4 d6 d7 d8 v4 v6 g7 g8 wr)(hb:Below wr.heap.size wr w1):MulB w n m p c1 c2 A1 A2 l1 l2 d4 d6 d7 d8 v4 v6 g7 g8 w1:=
 ⟨h.mm.next hb,fun e=>Kd.R_below (h.h4 e) hb,fun e=>Kd.R_below (h.h6 e) hb,fun e=>⟨(hb.block _ (lt_of_get (h.h7 e).1)).trans (h.h7 e).1,(h.h7 e).2⟩,fun e=>⟨(hb.block _ (lt_of_get (h.h8 e).1)).trans (h.h8 e).1,(h.h8 e).2⟩,h.n46,h.n78⟩
theorem MulB.blank(h:MulB w n m p c1 c2 A1 A2 l1 l2 d4 false d7 d8 v4 v6 g7 g8 wr){v:Value}(hb:Below wr.heap.size wr w1)(ho:Kd.R (Kd.int .u8) 5 w1 wr.heap.size (fun _=>True) v (List.replicate (n*p) 0)):MulB w n m p c1 c2 A1 A2 l1 l2 true false d7 d8 v v6 g7 g8 w1:=by
 have h1:=h.next hb;exact⟨h1.mm,fun _=>Kd.R_lower ho (below_size h.mm.below),h1.h6,h1.h7,h1.h8,(fun _ e=>by cases e),h1.n78⟩
theorem MulB.turned(h:MulB w n m p c1 c2 A1 A2 l1 l2 true d6 d7 d8 v4 v6 g7 g8 wr){v:Value}(hb:Below wr.heap.size wr w1)(ho:Kd.R (Kd.int .u8) 5 w1 wr.heap.size (fun _=>True) v (transL m p l2)):MulB w n m p c1 c2 A1 A2 l1 l2 true true d7 d8 v4 v g7 g8 w1:=by
 have h1:=h.next hb;refine⟨h1.mm,h1.h4,fun _=>Kd.R_lower ho (below_size h.mm.below),h1.h7,h1.h8,fun _ _ k hk e=>?_,h1.n78⟩;have a1:=Kd.R_lt (h.h4 rfl) k hk;have a2:=Kd.R_base ho k e;omega
theorem MulB.box7(h:MulB w n m p c1 c2 A1 A2 l1 l2 d4 d6 false d8 v4 v6 g7 g8 wr):MulB w n m p c1 c2 A1 A2 l1 l2 d4 d6 true d8 v4 v6 wr.heap.size g8 (wr.alloc (.cells #[.int .i64 0,.int .i64 0,.slice none 0 0] 24)):=by
 have h1:=h.next (below_alloc (Below.refl wr.heap.size wr) (.cells #[.int .i64 0,.int .i64 0,.slice none 0 0] 24));exact⟨h1.mm,h1.h4,h1.h6,fun _=>⟨blk_new _ _,h.mm.size⟩,h1.h8,h1.n46,fun _ e q=>by have:=lt_of_get (h.h8 e).1;omega⟩
theorem MulB.box8(h:MulB w n m p c1 c2 A1 A2 l1 l2 d4 d6 d7 false v4 v6 g7 g8 wr):MulB w n m p c1 c2 A1 A2 l1 l2 d4 d6 d7 true v4 v6 g7 wr.heap.size (wr.alloc (.cells #[.int .i64 0,.int .i64 0,.slice none 0 0] 24)):=by
 have h1:=h.next (below_alloc (Below.refl wr.heap.size wr) (.cells #[.int .i64 0,.int .i64 0,.slice none 0 0] 24));exact⟨h1.mm,h1.h4,h1.h6,h1.h7,fun _=>⟨blk_new _ _,h.mm.size⟩,h1.n46,fun e _ q=>by have:=lt_of_get (h.h7 e).1;omega⟩
end
def byB(l:List Int):Bool:=l.all fun x=>decide (0≤x)&&decide (x<256)
theorem byB_getD{l:List Int}(h:byB l=true)(i:Nat):0≤l.getD i 0∧l.getD i 0<256:=by
 rw[List.getD_eq_getElem?_getD];rcases Nat.lt_or_ge i l.length with hi|hi
 ·rw[List.getElem?_eq_getElem hi,Option.getD_some];have:=List.all_eq_true.1 h _ (List.getElem_mem hi);simpa using this
 ·rw[List.getElem?_eq_none hi];decide
theorem transL_byte{a b:Nat}{l:List Int}(h:byB l=true)(i:Nat):0≤(transL a b l).getD i 0∧(transL a b l).getD i 0<256:=by
 rw[List.getD_eq_getElem?_getD,show transL a b l=(List.range (b*a)).map (fun q=>l.getD (q % a*b+q / a) 0)from rfl,List.getElem?_map]
 cases (List.range (b*a))[i]? with
 |none=>exact(by decide:(0:Int)≤0∧(0:Int)<256)
 |some q=>exact byB_getD h _
theorem transL_len(a b:Nat)(l:List Int):(transL a b l).length=b*a:=by
 rw[show transL a b l=(List.range (b*a)).map (fun q=>l.getD (q % a*b+q / a) 0)from rfl,List.length_map,List.length_range]
theorem addr_add_add(ad:Addr)(f j:Nat):(ad.add f).add j=ad.add (f+j):=by
 unfold Addr.add;by_cases a:f=0<;>by_cases b:j=0<;>simp[a,b]
 all_goals omega
theorem row_reads{w:World}{A:Option Addr}{l:List Int}{m i:Nat}(hC:Kd.C (Kd.int .u8) w A l.length l)(hl:(i+1)*m≤l.length)(q:Nat)(hq:q<m): ∃ad,(if(i+1)*m=i*m then A else A.map (·.add (i*m)))=some ad∧w.cell? (ad.add q)=some (.int .u8 (rowF l m i q)):=by
 have h1:(i+1)*m=i*m+m:=by rw[Nat.add_mul,Nat.one_mul]
 obtain⟨ad,eA,hx⟩:=Kd.at_int hC ((i*m+q:Nat):Int) zz zz;refine⟨ad.add (i*m),by rw[if_neg zz,eA];rfl,?_⟩;rw[addr_add_add];rw[Int.toNat_natCast]at hx
 rw[hx];unfold rd rowF;rw[Int.toNat_natCast]
theorem reads_below{w w1:World}{A:Option Addr}{F:Nat→Int}{m:Nat}(hb:Below w.heap.size w w1)(h: ∀q,q<m→ ∃ad,A=some ad∧w.cell? (ad.add q)=some (.int .u8 (F q)))(q:Nat)(hq:q<m): ∃ad,A=some ad∧w1.cell? (ad.add q)=some (.int .u8 (F q)):=by
 obtain⟨ad,e,hx⟩:=h q hq;exact⟨ad,e,pw_cell_below hb hx⟩
theorem R_but{w:World}{base t xb:Nat}{ok:Nat→Prop}{v:Value}{xs:List Int}(h:Kd.R (Kd.int .u8) t w base ok v xs)(hne: ∀k,v.ownBlock=some k→k≠xb):Kd.R (Kd.int .u8) t w base (fun k=>k≠xb) v xs:=by
 obtain⟨_,inner,ho,hr⟩:=h;exact⟨hne,inner,ho,hr.imp_ (fun _ _ hp=>hp)⟩
structure MulC (w:World) (n m p c1 c2 g7 g8:Nat) (A1 A2:Option Addr) (l1 l2:List Int) (v4 v6:Value) (L:List Int) (wr:World):Prop where
 mm:MulA w n m m p c1 c2 A1 A2 l1 l2 wr
 h7:wr.heap[g7]? =some (.cells #[.int .i64 n,.int .i64 p,v4] 24 (0,0))
 h8:wr.heap[g8]? =some (.cells #[.int .i64 p,.int .i64 m,v6] 24 (0,0))
 d4:Kd.R (Kd.int .u8) 5 wr w.heap.size (fun _=>True) v4 L
 d6:Kd.R (Kd.int .u8) 5 wr w.heap.size (fun _=>True) v6 (transL m p l2)
 n46: ∀k,v4.ownBlock=some k→v6.ownBlock≠some k
section
variable {w:World} {n m p c1 c2 g7 g8:Nat} {A1 A2:Option Addr} {l1 l2:List Int} {v4 v6:Value} {L:List Int} {wr w1:World}
theorem MulC.next(h:MulC w n m p c1 c2 g7 g8 A1 A2 l1 l2 v4 v6 L wr)(hb:Below wr.heap.size wr w1):MulC w n m p c1 c2 g7 g8 A1 A2 l1 l2 v4 v6 L w1:=
 ⟨h.mm.next hb,(hb.block _ (lt_of_get h.h7)).trans h.h7,(hb.block _ (lt_of_get h.h8)).trans h.h8,Kd.R_below h.d4 hb,Kd.R_below h.d6 hb,h.n46⟩
theorem cells_other{wr:World}{k xb:Nat}{ca cells:Array Value}(h1:wr.heap[k]? =some (.cells ca 24 (0,0)))(hc:wr.heap[xb]? =some (.cells cells 5 (0,0))):k≠xb:=fun e=>by
 subst e;rw[h1]at hc
 injection hc with hc;injection hc with _ hc;exact absurd hc zaa
theorem MulC.put{xb nx cx:Nat}(h:MulC w n m p c1 c2 g7 g8 A1 A2 l1 l2 (.slice (some ⟨xb,0,none⟩) nx cx) v6 L wr)(q:Nat)(x:Int):MulC w n m p c1 c2 g7 g8 A1 A2 l1 l2 (.slice (some ⟨xb,0,none⟩) nx cx) v6 (L.set q x) (wr.setCell ⟨xb,q,none⟩ (.int .u8 x)):=by
 obtain⟨_,cells,hc⟩:=own_addr (b:=xb) h.d4 rfl;have hx:w.heap.size≤xb:=((Kd.R_bound h.d4).1 xb rfl).2.1;have hne: ∀(a:Nat) (ca:Array Value),wr.heap[a]? =some (.cells ca 24 (0,0))→a≠xb:=fun a ca h1=>cells_other h1 hc;have hp:=Kd.R_putn h.d4 (q:Int) x;rw[Int.toNat_natCast]at hp
 have go: ∀ {a:Nat} {ca:Array Value},wr.heap[a]? =some (.cells ca 24 (0,0))→(wr.setCell ⟨xb,q,none⟩ (.int .u8 x)).heap[a]? =some (.cells ca 24 (0,0)):=fun h1=>(Below.heap_setCell _ _ _ _ (hne _ _ h1)).trans h1;refine⟨⟨go h.mm.ha,go h.mm.hb,go h.mm.hr,h.mm.below.setCell hx _⟩,go h.h7,go h.h8,hp,?_,h.n46⟩;have h6:Kd.R (Kd.int .u8) 5 wr w.heap.size (fun k=>k≠xb) v6 (transL m p l2):=R_but h.d6 (fun k hk e=>h.n46 xb rfl (e▸hk));exact Kd.R_mono (Kd.R_far h6 (p:=⟨xb,q,none⟩) (fun k hk=>hk) _) (fun _ _=>trivial)
theorem MulB.stored(h:MulB w n m p c1 c2 A1 A2 l1 l2 true true true true v4 v6 g7 g8 wr): ∀W,W=((wr.setCell ⟨g7,0,none⟩ (.int .i64 n)).setCell ⟨g7,1,none⟩ (.int .i64 p)).setCell ⟨g7,2,none⟩ v4→
 W.heap[g8]? =some (.cells #[.int .i64 0,.int .i64 0,.slice none 0 0] 24 (0,0))∧(∀W',W'=((W.setCell ⟨g8,0,none⟩ (.int .i64 p)).setCell ⟨g8,1,none⟩ (.int .i64 m)).setCell ⟨g8,2,none⟩ v6→MulC w n m p c1 c2 g7 g8 A1 A2 l1 l2 v4 v6 (List.replicate (n*p) 0) W'):=by
 intro W hW;have G:g7≠g8:=h.n78 rfl rfl;obtain⟨h7,l7⟩:=h.h7 rfl;obtain⟨h8,l8⟩:=h.h8 rfl;have D: ∀(w0:World) (g k:Nat) (a b c:Value),k≠g→(((w0.setCell ⟨g,0,none⟩ a).setCell ⟨g,1,none⟩ b).setCell ⟨g,2,none⟩ c).heap[k]? =w0.heap[k]? :=fun w0 g k a b c hk=>
  (Below.heap_setCell _ _ _ _ hk).trans ((Below.heap_setCell _ _ _ _ hk).trans (Below.heap_setCell _ _ _ _ hk))
 have R3: ∀(w0:World) (g:Nat) (a b c:Value) (v:Value) (xs:List Int) (ca:Array Value),w0.heap[g]? =some (.cells ca 24 (0,0))→Kd.R (Kd.int .u8) 5 w0 w.heap.size (fun _=>True) v xs→Kd.R (Kd.int .u8) 5 (((w0.setCell ⟨g,0,none⟩ a).setCell ⟨g,1,none⟩ b).setCell ⟨g,2,none⟩ c) w.heap.size (fun _=>True) v xs:=fun w0 g a b c v xs ca hg hR=>by
  have h1:=Kd.R_types hR hg (fun q hq=>by obtain rfl:q=5:=(List.mem_cons.1 hq).elim id (fun hx=>by cases hx);decide);exact Kd.R_mono (Kd.R_far (Kd.R_far (Kd.R_far h1 (p:=⟨g,0,none⟩) (fun k hk=>hk.2) _) (p:=⟨g,1,none⟩) (fun k hk=>hk.2) _) (p:=⟨g,2,none⟩) (fun k hk=>hk.2) _) (fun _ _=>trivial)
 have b3: ∀(w0:World) (g:Nat) (a b c:Value),w.heap.size≤g→Below w.heap.size w w0→Below w.heap.size w (((w0.setCell ⟨g,0,none⟩ a).setCell ⟨g,1,none⟩ b).setCell ⟨g,2,none⟩ c):=fun w0 g a b c hg hB=>((hB.setCell hg _).setCell hg _).setCell hg _;have e8:W.heap[g8]? =some (.cells #[.int .i64 0,.int .i64 0,.slice none 0 0] 24 (0,0)):=by rw[hW,D _ _ _ _ _ _ (Ne.symm G)];exact h8
 refine⟨e8,fun W' hW'=>?_⟩;have q7:W.heap[g7]? =some (.cells #[.int .i64 n,.int .i64 p,v4] 24 (0,0)):=by
  rw[hW];exact blk_put (cs:= #[.int .i64 n,.int .i64 p,.slice none 0 0]) (blk_put (cs:= #[.int .i64 n,.int .i64 0,.slice none 0 0]) (blk_put (cs:= #[.int .i64 0,.int .i64 0,.slice none 0 0]) h7 0 _ rfl) 1 _ rfl) 2 _ rfl
 have old: ∀(k:Nat) (ca:Array Value),k<w.heap.size+3→wr.heap[k]? =some (.cells ca 24 (0,0))→W'.heap[k]? =some (.cells ca 24 (0,0)):=fun k ca hk hh=>by
  rw[hW',D _ _ _ _ _ _ zz,hW,D _ _ _ _ _ _ zz];exact hh
 refine⟨⟨old _ _ zz h.mm.ha,old _ _ zz h.mm.hb,old _ _ zz h.mm.hr,?_⟩,?_,?_,?_,?_,h.n46 rfl rfl⟩
 ·rw[hW',hW];exact b3 _ _ _ _ _ zz (b3 _ _ _ _ _ zz h.mm.below)
 ·rw[hW',D _ _ _ _ _ _ G];exact q7
 ·rw[hW'];exact blk_put (cs:= #[.int .i64 p,.int .i64 m,.slice none 0 0]) (blk_put (cs:= #[.int .i64 p,.int .i64 0,.slice none 0 0]) (blk_put (cs:= #[.int .i64 0,.int .i64 0,.slice none 0 0]) e8 0 _ rfl) 1 _ rfl) 2 _ rfl
 ·rw[hW'];refine R3 _ _ _ _ _ _ _ _ e8 ?_;rw[hW];exact R3 _ _ _ _ _ _ _ _ h7 (h.h4 rfl)
 ·rw[hW'];refine R3 _ _ _ _ _ _ _ _ e8 ?_;rw[hW];exact R3 _ _ _ _ _ _ _ _ h7 (h.h6 rfl)
end
def matrix_Mul.f(a b:Int)(l:List Int)(c d:Int)(l':List Int):Option (Int×Int×List Int×Int):=(matrix_Right.f a b l).bind fun ta=>if ta=true then(matrix_Right.f c d l').bind fun tb=>if tb=true then if b=c then(if byB l=true∧byB l'=true then some (a,d,mulF a.toNat b.toNat d.toNat l l',0)else none)else some (0,0,[],3)else some (0,0,[],3)else some (0,0,[],3)
set_option maxHeartbeats 8000000 in
set_option maxRecDepth 100000 in
theorem matrix_Mul.calls(ak:Int)(ae:Int)(U:Option Addr)(X:Nat)(O:List Int)(af:Int)(al:Int)(I:Option Addr)(J:Nat)(G:List Int)(r1:Int)(r2:Int)(r3:List Int)(r4:Int)(w:World)(a3:Kd.C (Kd.int .u8) w U O.length O)(a1:O.length≤X)(a4:Kd.C (Kd.int .u8) w I G.length G)(a2:G.length≤J)(h:matrix_Mul.f ak ae O af al G=some (r1,r2,r3,r4)):
 Calls Tryd.prog 48 #[.agg #[.int .i64 ak,.int .i64 ae,.slice U O.length X],.agg #[.int .i64 af,.int .i64 al,.slice I G.length J]] w fun e w'=> ∃v2_:Value,e= .returned (.tuple #[.agg #[.int .i64 r1,.int .i64 r2,v2_],.int .i64 r4])∧Kd.R (Kd.int .u8) 5 w' w.heap.size (fun _=>True) v2_ r3∧Below w.heap.size w w':=by
 have cg:=Tryd.underlying24;have bo:=aK a3;have bn:=aK a1;have au:=aK a4;have ar:=aK a2;clear a3 a1 a4 a2;unfold matrix_Mul.f at h;obtain⟨ta,hta,h2⟩:=Option.bind_eq_some_iff.mp h;clear h;have h:=h2;clear h2;have HA:=aK hta;clear hta
 go_enter Tryd.func48,Tryd.ntmps48
 go_upto_region 1 with(fail)
 have HM:=aK (MulA.start w ak ae af al X J U I O G);generalize((w.alloc (.cells #[.int .i64 ak,.int .i64 ae,.slice U O.length X] 24)).alloc (.cells #[.int .i64 af,.int .i64 al,.slice I G.length J] 24)).alloc (.cells #[.int .i64 0,.int .i64 0,.slice none 0 0] 24)=w2 at*;have z0:w2.cell? ⟨w.heap.size,0,none⟩=some (.int .i64 ak):=(blk_cell HM.out.ha 0).trans rfl;have z1:w2.cell? ⟨w.heap.size,1,none⟩=some (.int .i64 ae):=(blk_cell HM.out.ha 1).trans rfl;have z2:w2.cell? ⟨w.heap.size,2,none⟩=some (.slice U O.length X):=(blk_cell HM.out.ha 2).trans rfl
 go_wp2_with fail
 refine(matrix_Right.calls ak ae U X O ta _ (Kd.C_below bo.out HM.out.below) bn.out HA.out).mono ?_;rintro e w3 ⟨rfl,bs⟩;have ac:=aK (HM.out.next bs);clear z0 z1 z2 bs HM
 cases ta with
 |false=>
  simp only[Bool.false_eq_true,if_false]at h;simp only[Option.some.injEq,Prod.mk.injEq]at h;obtain⟨rfl,rfl,rfl,rfl⟩:=h;have y0:w3.cell? ⟨w.heap.size+2,0,none⟩=some (.int .i64 0):=(blk_cell ac.out.hr 0).trans rfl;have y1:w3.cell? ⟨w.heap.size+2,1,none⟩=some (.int .i64 0):=(blk_cell ac.out.hr 1).trans rfl;have y2:w3.cell? ⟨w.heap.size+2,2,none⟩=some (.slice none 0 0):=(blk_cell ac.out.hr 2).trans rfl;have f0:=blk_frozen ac.out.hr 0;have f1:=blk_frozen ac.out.hr 1;have f2:=blk_frozen ac.out.hr 2
  go_wp2_with fail
  refine bodyPost_ret (results_ct rfl _ _ (w.heap.size+2) 24 #[.int .i64 0,.int .i64 0,.slice none 0 0] (0,0) _ rfl (blk_put (cs:= #[.int .i64 0,.int .i64 0,.slice none 0 0]) (blk_put (cs:= #[.int .i64 0,.int .i64 0,.slice none 0 0]) (blk_put (cs:= #[.int .i64 0,.int .i64 0,.slice none 0 0]) ac.out.hr 0 _ rfl) 1 _ rfl) 2 _ rfl) Tryd.underlying24 rfl zab) rfl ?_;refine⟨_,rfl,Kd.R_nil _ _ _ _ _,?_⟩;exact((ac.out.below.setCell zam _).setCell zam _).setCell zam _
 |true=>
  rw[if_pos rfl]at h
  obtain⟨tb,htb,h2⟩:=Option.bind_eq_some_iff.mp h;clear h;have h:=h2;clear h2;have HB:=aK htb;clear htb;have x0:w3.cell? ⟨w.heap.size+1,0,none⟩=some (.int .i64 af):=(blk_cell ac.out.hb 0).trans rfl;have x1:w3.cell? ⟨w.heap.size+1,1,none⟩=some (.int .i64 al):=(blk_cell ac.out.hb 1).trans rfl;have x2:w3.cell? ⟨w.heap.size+1,2,none⟩=some (.slice I G.length J):=(blk_cell ac.out.hb 2).trans rfl
  go_wp2_with fail
  refine(matrix_Right.calls af al I J G tb _ (Kd.C_below au.out ac.out.below) ar.out HB.out).mono ?_;rintro e w4 ⟨rfl,bt⟩;have Y:=aK (ac.out.next bt);clear x0 x1 x2 bt ac
  cases tb with
  |false=>
   simp only[Bool.false_eq_true,if_false]at h;simp only[Option.some.injEq,Prod.mk.injEq]at h;obtain⟨rfl,rfl,rfl,rfl⟩:=h;have y0:w4.cell? ⟨w.heap.size+2,0,none⟩=some (.int .i64 0):=(blk_cell Y.out.hr 0).trans rfl;have y1:w4.cell? ⟨w.heap.size+2,1,none⟩=some (.int .i64 0):=(blk_cell Y.out.hr 1).trans rfl;have y2:w4.cell? ⟨w.heap.size+2,2,none⟩=some (.slice none 0 0):=(blk_cell Y.out.hr 2).trans rfl;have f0:=blk_frozen Y.out.hr 0;have f1:=blk_frozen Y.out.hr 1;have f2:=blk_frozen Y.out.hr 2
   go_wp2_with fail
   refine bodyPost_ret (results_ct rfl _ _ (w.heap.size+2) 24 #[.int .i64 0,.int .i64 0,.slice none 0 0] (0,0) _ rfl (blk_put (cs:= #[.int .i64 0,.int .i64 0,.slice none 0 0]) (blk_put (cs:= #[.int .i64 0,.int .i64 0,.slice none 0 0]) (blk_put (cs:= #[.int .i64 0,.int .i64 0,.slice none 0 0]) Y.out.hr 0 _ rfl) 1 _ rfl) 2 _ rfl) Tryd.underlying24 rfl zab) rfl ?_;refine⟨_,rfl,Kd.R_nil _ _ _ _ _,?_⟩;exact((Y.out.below.setCell zam _).setCell zam _).setCell zam _
  |true=>
   rw[if_pos rfl]at h
   have x0:w4.cell? ⟨w.heap.size+1,0,none⟩=some (.int .i64 af):=(blk_cell Y.out.hb 0).trans rfl;have x1:w4.cell? ⟨w.heap.size+1,1,none⟩=some (.int .i64 al):=(blk_cell Y.out.hb 1).trans rfl;have x2:w4.cell? ⟨w.heap.size+1,2,none⟩=some (.slice I G.length J):=(blk_cell Y.out.hb 2).trans rfl;have z0:w4.cell? ⟨w.heap.size,0,none⟩=some (.int .i64 ak):=(blk_cell Y.out.ha 0).trans rfl;have z1:w4.cell? ⟨w.heap.size,1,none⟩=some (.int .i64 ae):=(blk_cell Y.out.ha 1).trans rfl;have z2:w4.cell? ⟨w.heap.size,2,none⟩=some (.slice U O.length X):=(blk_cell Y.out.ha 2).trans rfl;by_cases hbc:ae=af
   ·rw[if_pos hbc]at h
    subst hbc;by_cases hby:byB O=true∧byB G=true
    ·rw[if_pos hby]at h
     obtain⟨e0,e1,e2,e3,hl⟩:=right_true HA.out;obtain⟨b0,b1,b2,b3,hl'⟩:=right_true HB.out;obtain⟨n,rfl⟩:=Int.eq_ofNat_of_zero_le e0;obtain⟨m,rfl⟩:=Int.eq_ofNat_of_zero_le e2;obtain⟨p,rfl⟩:=Int.eq_ofNat_of_zero_le b2;rw[Int.toNat_natCast,Int.toNat_natCast,Int.toNat_natCast]at h
     rw[Int.toNat_natCast,Int.toNat_natCast]at hl hl'
     simp only[Option.some.injEq,Prod.mk.injEq]at h;obtain⟨rfl,rfl,rfl,rfl⟩:=h;have bv:n≤64:=by omega
     have ag:m≤64:=by omega
     have an:p≤64:=by omega
     have hnp:n*p≤4096:=Nat.mul_le_mul bv an;have hpm:p*m≤4096:=Nat.mul_le_mul an ag;have b4:=aK hl;have a5:=aK hl';have HBY:=aK hby
     have HBL:=aK (blank_some (a:=n) (b:=p) zz);clear hl hl' hby e0 e1 e2 e3 b0 b1 b2 b3 HA HB;have hne:((m:Int)!=(m:Int))=false:=by simp
     go_upto_region 3 with(fail)
     clear x0 x1 x2 z0 z1 z2;obtain⟨v4,_⟩: ∃v:Value,v= .int .i64 0:=⟨_,rfl⟩
     obtain⟨v6,_⟩: ∃v:Value,v= .int .i64 0:=⟨_,rfl⟩
     obtain⟨g7,_⟩: ∃g:Nat,g=0:=⟨_,rfl⟩
     obtain⟨g8,_⟩: ∃g:Nat,g=0:=⟨_,rfl⟩
     refine start_ (n:=11) (S:=fun w'=>w'.cell? ⟨w.heap.size,0,none⟩=some (.int .i64 n)∧w'.cell? ⟨w.heap.size+1,0,none⟩=some (.int .i64 m)∧w'.cell? ⟨w.heap.size+1,1,none⟩=some (.int .i64 p)∧w'.cell? ⟨w.heap.size+1,2,none⟩=some (.slice I G.length J)) (ds:= [9,10]) (mB 11 0) zab rfl rfl ⟨(blk_cell Y.out.ha 0).trans rfl,(blk_cell Y.out.hb 0).trans rfl,(blk_cell Y.out.hb 1).trans rfl,(blk_cell Y.out.hb 2).trans rfl⟩ (fun hHeld=>?_);have HN:=aK (MulB.start (Y.out.next (below_drew (Below.refl _ _))) v4 v6 g7 g8);clear Y;generalize w4.drew=W at*;refine zpu 0 (some 26) (mB 11 1) ?_;refine zpu 2 (some 28) (mB 11 5) ?_;refine ztk4 1 (some 27) (mB 11 7) hHeld ?_;refine ztk4 3 (some 29) (mB 11 15) hHeld ?_;refine ztk4 5 (some 31) (mB 11 47) hHeld ?_;refine join_ (σ:=Value×Value×Nat×Nat) 2 (mB 11 511) (fun s=> [(30,.agg #[.int .i64 n,.int .i64 p,s.1]),(32,.agg #[.int .i64 p,.int .i64 m,s.2.1]),(6,.pointer (some ⟨s.2.2.1,0,none⟩)),(7,.pointer (some ⟨s.2.2.2,0,none⟩))]) (fun s w'=>Aside0 (MulB w n m p X J U I O G true true true true s.1 s.2.1 s.2.2.1 s.2.2.2 w')) ?_ ?_;rotate_left
     ·intro ab;refine join_ (σ:=Value×Value×Nat×Nat) 3 (mB 11 255) (fun s=> [(30,.agg #[.int .i64 n,.int .i64 p,s.1]),(32,.agg #[.int .i64 p,.int .i64 m,s.2.1]),(6,.pointer (some ⟨s.2.2.1,0,none⟩))]) (fun s w'=>Aside0 (MulB w n m p X J U I O G true true true false s.1 s.2.1 s.2.2.1 s.2.2.2 w')) ?_ ?_;rotate_left
      ·intro ap;refine join_ (σ:=Value×Value×Nat×Nat) 3 (mB 11 383) (fun s=> [(30,.agg #[.int .i64 n,.int .i64 p,s.1]),(32,.agg #[.int .i64 p,.int .i64 m,s.2.1]),(7,.pointer (some ⟨s.2.2.2,0,none⟩))]) (fun s w'=>Aside0 (MulB w n m p X J U I O G true true false true s.1 s.2.1 s.2.2.1 s.2.2.2 w')) ?_ ?_;rotate_left
       ·intro aq;refine join_ (σ:=Value×Value×Nat×Nat) 3 (mB 11 447) (fun s=> [(30,.agg #[.int .i64 n,.int .i64 p,s.1]),(6,.pointer (some ⟨s.2.2.1,0,none⟩)),(7,.pointer (some ⟨s.2.2.2,0,none⟩))]) (fun s w'=>Aside0 (MulB w n m p X J U I O G true false true true s.1 s.2.1 s.2.2.1 s.2.2.2 w')) ?_ ?_;rotate_left
        ·intro am;refine join_ (σ:=Value×Value×Nat×Nat) 4 (mB 11 127) (fun s=> [(30,.agg #[.int .i64 n,.int .i64 p,s.1]),(32,.agg #[.int .i64 p,.int .i64 m,s.2.1])]) (fun s w'=>Aside0 (MulB w n m p X J U I O G true true false false s.1 s.2.1 s.2.2.1 s.2.2.2 w')) ?_ ?_;rotate_left
         ·intro bb;refine join_ (σ:=Value×Value×Nat×Nat) 4 (mB 11 191) (fun s=> [(30,.agg #[.int .i64 n,.int .i64 p,s.1]),(6,.pointer (some ⟨s.2.2.1,0,none⟩))]) (fun s w'=>Aside0 (MulB w n m p X J U I O G true false true false s.1 s.2.1 s.2.2.1 s.2.2.2 w')) ?_ ?_;rotate_left
          ·intro ax;refine join_ (σ:=Value×Value×Nat×Nat) 4 (mB 11 319) (fun s=> [(30,.agg #[.int .i64 n,.int .i64 p,s.1]),(7,.pointer (some ⟨s.2.2.2,0,none⟩))]) (fun s w'=>Aside0 (MulB w n m p X J U I O G true false false true s.1 s.2.1 s.2.2.1 s.2.2.2 w')) ?_ ?_;rotate_left
           ·intro ay;refine join_ (σ:=Value×Value×Nat×Nat) 4 (mB 11 431) (fun s=> [(6,.pointer (some ⟨s.2.2.1,0,none⟩)),(7,.pointer (some ⟨s.2.2.2,0,none⟩))]) (fun s w'=>Aside0 (MulB w n m p X J U I O G false false true true s.1 s.2.1 s.2.2.1 s.2.2.2 w')) ?_ ?_;rotate_left
            ·intro az;refine join_ (σ:=Value×Value×Nat×Nat) 5 (mB 11 63) (fun s=> [(30,.agg #[.int .i64 n,.int .i64 p,s.1])]) (fun s w'=>Aside0 (MulB w n m p X J U I O G true false false false s.1 s.2.1 s.2.2.1 s.2.2.2 w')) ?_ ?_;rotate_left
             ·intro b7;refine join_ (σ:=Value×Value×Nat×Nat) 5 (mB 11 175) (fun s=> [(6,.pointer (some ⟨s.2.2.1,0,none⟩))]) (fun s w'=>Aside0 (MulB w n m p X J U I O G false false true false s.1 s.2.1 s.2.2.1 s.2.2.2 w')) ?_ ?_;rotate_left
              ·intro b8;refine join_ (σ:=Value×Value×Nat×Nat) 5 (mB 11 303) (fun s=> [(7,.pointer (some ⟨s.2.2.2,0,none⟩))]) (fun s w'=>Aside0 (MulB w n m p X J U I O G false false false true s.1 s.2.1 s.2.2.1 s.2.2.2 w')) ?_ ?_;rotate_left
               ·intro b9;refine three_ (i:=4) (j:=7) (k:=8) (Ni:=some 30) (Nj:=some 6) (Nk:=some 7) (mB 11 63) (mB 11 175) (mB 11 303) rfl rfl rfl rfl rfl rfl zab zaa zaa zaa (fun K hK=>?_) (fun K hK=>?_) (fun K hK=>?_)
                ·skip
                 refine goes_ Tryd.func69 zab rfl #[.int .i64 n,.int .i64 p] zad rfl rfl zag ?_;refine(matrix_blank.calls n p _ _ _ _ HBL.out).mono ?_;rintro e' W1 ⟨vt,rfl,ho,hb⟩;refine⟨_,rfl,?_⟩;have D:=HN.out.blank hb ho;refine hK.out _ _ ⟨(blk_cell D.mm.ha 0).trans rfl,(blk_cell D.mm.hb 0).trans rfl,(blk_cell D.mm.hb 1).trans rfl,(blk_cell D.mm.hb 2).trans rfl⟩ (fun hHeld=>?_);clear hK K;refine znm (some 30) ?_;exact norm_ zah (b7 (vt,v6,g7,g8) _ ⟨D⟩)
                ·skip
                 refine value_ (w1:=?_) (v:=?_) zad rfl ?_ ?_;rotate_left 2
                 ·go_simp;constructor
                  ·rfl
                  ·rfl
                 have D:=HN.out.box7;refine hK.out _ _ ⟨(blk_cell D.mm.ha 0).trans rfl,(blk_cell D.mm.hb 0).trans rfl,(blk_cell D.mm.hb 1).trans rfl,(blk_cell D.mm.hb 2).trans rfl⟩ (fun hHeld=>?_);clear hK K;refine znm (some 6) ?_;exact norm_ zah (b8 (v4,v6,W.heap.size,g8) _ ⟨D⟩)
                ·skip
                 refine value_ (w1:=?_) (v:=?_) zad rfl ?_ ?_;rotate_left 2
                 ·go_simp;constructor
                  ·rfl
                  ·rfl
                 have D:=HN.out.box8;refine hK.out _ _ ⟨(blk_cell D.mm.ha 0).trans rfl,(blk_cell D.mm.hb 0).trans rfl,(blk_cell D.mm.hb 1).trans rfl,(blk_cell D.mm.hb 2).trans rfl⟩ (fun hHeld=>?_);clear hK K;refine znm (some 7) ?_;exact norm_ zah (b9 (v4,v6,g7,W.heap.size) _ ⟨D⟩)
               ·skip
                rintro⟨v4,v6,g7,g8⟩ W HN;have hHeld:W.cell? ⟨w.heap.size,0,none⟩=some (.int .i64 n)∧W.cell? ⟨w.heap.size+1,0,none⟩=some (.int .i64 m)∧W.cell? ⟨w.heap.size+1,1,none⟩=some (.int .i64 p)∧W.cell? ⟨w.heap.size+1,2,none⟩=some (.slice I G.length J):=⟨(blk_cell HN.out.mm.ha 0).trans rfl,(blk_cell HN.out.mm.hb 0).trans rfl,(blk_cell HN.out.mm.hb 1).trans rfl,(blk_cell HN.out.mm.hb 2).trans rfl⟩
                refine znq ?_;refine two_ (i:=4) (j:=7) (Ni:=some 30) (Nj:=some 6) (mB 11 319) (mB 11 431) rfl rfl rfl rfl zab zaa zaa (fun K hK=>?_) (fun K hK=>?_)
                ·skip
                 refine goes_ Tryd.func69 zab rfl #[.int .i64 n,.int .i64 p] zad rfl rfl zag ?_;refine(matrix_blank.calls n p _ _ _ _ HBL.out).mono ?_;rintro e' W1 ⟨vt,rfl,ho,hb⟩;refine⟨_,rfl,?_⟩;have D:=HN.out.blank hb ho;refine hK.out _ _ ⟨(blk_cell D.mm.ha 0).trans rfl,(blk_cell D.mm.hb 0).trans rfl,(blk_cell D.mm.hb 1).trans rfl,(blk_cell D.mm.hb 2).trans rfl⟩ (fun hHeld=>?_);clear hK K;refine znm (some 30) ?_;exact norm_ zah (ay (vt,v6,g7,g8) _ ⟨D⟩)
                ·skip
                 refine value_ (w1:=?_) (v:=?_) zad rfl ?_ ?_;rotate_left 2
                 ·go_simp;constructor
                  ·rfl
                  ·rfl
                 have D:=HN.out.box7;refine hK.out _ _ ⟨(blk_cell D.mm.ha 0).trans rfl,(blk_cell D.mm.hb 0).trans rfl,(blk_cell D.mm.hb 1).trans rfl,(blk_cell D.mm.hb 2).trans rfl⟩ (fun hHeld=>?_);clear hK K;refine znm (some 6) ?_;exact norm_ zah (az (v4,v6,W.heap.size,g8) _ ⟨D⟩)
              ·skip
               rintro⟨v4,v6,g7,g8⟩ W HN;have hHeld:W.cell? ⟨w.heap.size,0,none⟩=some (.int .i64 n)∧W.cell? ⟨w.heap.size+1,0,none⟩=some (.int .i64 m)∧W.cell? ⟨w.heap.size+1,1,none⟩=some (.int .i64 p)∧W.cell? ⟨w.heap.size+1,2,none⟩=some (.slice I G.length J):=⟨(blk_cell HN.out.mm.ha 0).trans rfl,(blk_cell HN.out.mm.hb 0).trans rfl,(blk_cell HN.out.mm.hb 1).trans rfl,(blk_cell HN.out.mm.hb 2).trans rfl⟩
               refine znq ?_;refine two_ (i:=4) (j:=8) (Ni:=some 30) (Nj:=some 7) (mB 11 191) (mB 11 431) rfl rfl rfl rfl zab zaa zaa (fun K hK=>?_) (fun K hK=>?_)
               ·skip
                refine goes_ Tryd.func69 zab rfl #[.int .i64 n,.int .i64 p] zad rfl rfl zag ?_;refine(matrix_blank.calls n p _ _ _ _ HBL.out).mono ?_;rintro e' W1 ⟨vt,rfl,ho,hb⟩;refine⟨_,rfl,?_⟩;have D:=HN.out.blank hb ho;refine hK.out _ _ ⟨(blk_cell D.mm.ha 0).trans rfl,(blk_cell D.mm.hb 0).trans rfl,(blk_cell D.mm.hb 1).trans rfl,(blk_cell D.mm.hb 2).trans rfl⟩ (fun hHeld=>?_);clear hK K;refine znm (some 30) ?_;exact norm_ zah (ax (vt,v6,g7,g8) _ ⟨D⟩)
               ·skip
                refine value_ (w1:=?_) (v:=?_) zad rfl ?_ ?_;rotate_left 2
                ·go_simp;constructor
                 ·rfl
                 ·rfl
                have D:=HN.out.box8;refine hK.out _ _ ⟨(blk_cell D.mm.ha 0).trans rfl,(blk_cell D.mm.hb 0).trans rfl,(blk_cell D.mm.hb 1).trans rfl,(blk_cell D.mm.hb 2).trans rfl⟩ (fun hHeld=>?_);clear hK K;refine znm (some 7) ?_;exact norm_ zah (az (v4,v6,g7,W.heap.size) _ ⟨D⟩)
             ·skip
              rintro⟨v4,v6,g7,g8⟩ W HN;have hHeld:W.cell? ⟨w.heap.size,0,none⟩=some (.int .i64 n)∧W.cell? ⟨w.heap.size+1,0,none⟩=some (.int .i64 m)∧W.cell? ⟨w.heap.size+1,1,none⟩=some (.int .i64 p)∧W.cell? ⟨w.heap.size+1,2,none⟩=some (.slice I G.length J):=⟨(blk_cell HN.out.mm.ha 0).trans rfl,(blk_cell HN.out.mm.hb 0).trans rfl,(blk_cell HN.out.mm.hb 1).trans rfl,(blk_cell HN.out.mm.hb 2).trans rfl⟩
              refine znq ?_;refine three_ (i:=6) (j:=7) (k:=8) (Ni:=some 32) (Nj:=some 6) (Nk:=some 7) (mB 11 127) (mB 11 191) (mB 11 319) rfl rfl rfl rfl rfl rfl zab zaa zaa zaa (fun K hK=>?_) (fun K hK=>?_) (fun K hK=>?_)
              ·skip
               refine goes_ Tryd.func72 zab rfl #[.agg #[.int .i64 m,.int .i64 p,.slice I G.length J]] zad rfl rfl zag ?_;refine(matrix_turned.calls m p I J G _ (Kd.C_below au.out HN.out.mm.below) ar.out a5.out ⟨ag,an⟩).mono ?_;rintro e' W1 ⟨vt,rfl,hq⟩;refine⟨_,rfl,?_⟩;have D:=HN.out.turned hq.out.2 hq.out.1;refine hK.out _ _ ⟨(blk_cell D.mm.ha 0).trans rfl,(blk_cell D.mm.hb 0).trans rfl,(blk_cell D.mm.hb 1).trans rfl,(blk_cell D.mm.hb 2).trans rfl⟩ (fun hHeld=>?_);clear hK K;refine znm (some 32) ?_;exact norm_ zah (bb (v4,vt,g7,g8) _ ⟨D⟩)
              ·skip
               refine value_ (w1:=?_) (v:=?_) zad rfl ?_ ?_;rotate_left 2
               ·go_simp;constructor
                ·rfl
                ·rfl
               have D:=HN.out.box7;refine hK.out _ _ ⟨(blk_cell D.mm.ha 0).trans rfl,(blk_cell D.mm.hb 0).trans rfl,(blk_cell D.mm.hb 1).trans rfl,(blk_cell D.mm.hb 2).trans rfl⟩ (fun hHeld=>?_);clear hK K;refine znm (some 6) ?_;exact norm_ zah (ax (v4,v6,W.heap.size,g8) _ ⟨D⟩)
              ·skip
               refine value_ (w1:=?_) (v:=?_) zad rfl ?_ ?_;rotate_left 2
               ·go_simp;constructor
                ·rfl
                ·rfl
               have D:=HN.out.box8;refine hK.out _ _ ⟨(blk_cell D.mm.ha 0).trans rfl,(blk_cell D.mm.hb 0).trans rfl,(blk_cell D.mm.hb 1).trans rfl,(blk_cell D.mm.hb 2).trans rfl⟩ (fun hHeld=>?_);clear hK K;refine znm (some 7) ?_;exact norm_ zah (ay (v4,v6,g7,W.heap.size) _ ⟨D⟩)
            ·skip
             rintro⟨v4,v6,g7,g8⟩ W HN;have hHeld:W.cell? ⟨w.heap.size,0,none⟩=some (.int .i64 n)∧W.cell? ⟨w.heap.size+1,0,none⟩=some (.int .i64 m)∧W.cell? ⟨w.heap.size+1,1,none⟩=some (.int .i64 p)∧W.cell? ⟨w.heap.size+1,2,none⟩=some (.slice I G.length J):=⟨(blk_cell HN.out.mm.ha 0).trans rfl,(blk_cell HN.out.mm.hb 0).trans rfl,(blk_cell HN.out.mm.hb 1).trans rfl,(blk_cell HN.out.mm.hb 2).trans rfl⟩
             refine znq ?_;refine zon 4 (some 30) (mB 11 447) fun K hK=>?_;refine goes_ Tryd.func69 zab rfl #[.int .i64 n,.int .i64 p] zad rfl rfl zag ?_;refine(matrix_blank.calls n p _ _ _ _ HBL.out).mono ?_;rintro e' W1 ⟨vt,rfl,ho,hb⟩;refine⟨_,rfl,?_⟩;have D:=HN.out.blank hb ho;refine hK.out _ _ ⟨(blk_cell D.mm.ha 0).trans rfl,(blk_cell D.mm.hb 0).trans rfl,(blk_cell D.mm.hb 1).trans rfl,(blk_cell D.mm.hb 2).trans rfl⟩ (fun hHeld=>?_);clear hK K;refine znm (some 30) ?_;exact norm_ zah (am (vt,v6,g7,g8) _ ⟨D⟩)
           ·skip
            rintro⟨v4,v6,g7,g8⟩ W HN;have hHeld:W.cell? ⟨w.heap.size,0,none⟩=some (.int .i64 n)∧W.cell? ⟨w.heap.size+1,0,none⟩=some (.int .i64 m)∧W.cell? ⟨w.heap.size+1,1,none⟩=some (.int .i64 p)∧W.cell? ⟨w.heap.size+1,2,none⟩=some (.slice I G.length J):=⟨(blk_cell HN.out.mm.ha 0).trans rfl,(blk_cell HN.out.mm.hb 0).trans rfl,(blk_cell HN.out.mm.hb 1).trans rfl,(blk_cell HN.out.mm.hb 2).trans rfl⟩
            refine znq ?_;refine two_ (i:=6) (j:=7) (Ni:=some 32) (Nj:=some 6) (mB 11 383) (mB 11 447) rfl rfl rfl rfl zab zaa zaa (fun K hK=>?_) (fun K hK=>?_)
            ·skip
             refine goes_ Tryd.func72 zab rfl #[.agg #[.int .i64 m,.int .i64 p,.slice I G.length J]] zad rfl rfl zag ?_;refine(matrix_turned.calls m p I J G _ (Kd.C_below au.out HN.out.mm.below) ar.out a5.out ⟨ag,an⟩).mono ?_;rintro e' W1 ⟨vt,rfl,hq⟩;refine⟨_,rfl,?_⟩;have D:=HN.out.turned hq.out.2 hq.out.1;refine hK.out _ _ ⟨(blk_cell D.mm.ha 0).trans rfl,(blk_cell D.mm.hb 0).trans rfl,(blk_cell D.mm.hb 1).trans rfl,(blk_cell D.mm.hb 2).trans rfl⟩ (fun hHeld=>?_);clear hK K;refine znm (some 32) ?_;exact norm_ zah (aq (v4,vt,g7,g8) _ ⟨D⟩)
            ·skip
             refine value_ (w1:=?_) (v:=?_) zad rfl ?_ ?_;rotate_left 2
             ·go_simp;constructor
              ·rfl
              ·rfl
             have D:=HN.out.box7;refine hK.out _ _ ⟨(blk_cell D.mm.ha 0).trans rfl,(blk_cell D.mm.hb 0).trans rfl,(blk_cell D.mm.hb 1).trans rfl,(blk_cell D.mm.hb 2).trans rfl⟩ (fun hHeld=>?_);clear hK K;refine znm (some 6) ?_;exact norm_ zah (am (v4,v6,W.heap.size,g8) _ ⟨D⟩)
          ·skip
           rintro⟨v4,v6,g7,g8⟩ W HN;have hHeld:W.cell? ⟨w.heap.size,0,none⟩=some (.int .i64 n)∧W.cell? ⟨w.heap.size+1,0,none⟩=some (.int .i64 m)∧W.cell? ⟨w.heap.size+1,1,none⟩=some (.int .i64 p)∧W.cell? ⟨w.heap.size+1,2,none⟩=some (.slice I G.length J):=⟨(blk_cell HN.out.mm.ha 0).trans rfl,(blk_cell HN.out.mm.hb 0).trans rfl,(blk_cell HN.out.mm.hb 1).trans rfl,(blk_cell HN.out.mm.hb 2).trans rfl⟩
           refine znq ?_;refine two_ (i:=6) (j:=8) (Ni:=some 32) (Nj:=some 7) (mB 11 255) (mB 11 447) rfl rfl rfl rfl zab zaa zaa (fun K hK=>?_) (fun K hK=>?_)
           ·skip
            refine goes_ Tryd.func72 zab rfl #[.agg #[.int .i64 m,.int .i64 p,.slice I G.length J]] zad rfl rfl zag ?_;refine(matrix_turned.calls m p I J G _ (Kd.C_below au.out HN.out.mm.below) ar.out a5.out ⟨ag,an⟩).mono ?_;rintro e' W1 ⟨vt,rfl,hq⟩;refine⟨_,rfl,?_⟩;have D:=HN.out.turned hq.out.2 hq.out.1;refine hK.out _ _ ⟨(blk_cell D.mm.ha 0).trans rfl,(blk_cell D.mm.hb 0).trans rfl,(blk_cell D.mm.hb 1).trans rfl,(blk_cell D.mm.hb 2).trans rfl⟩ (fun hHeld=>?_);clear hK K;refine znm (some 32) ?_;exact norm_ zah (ap (v4,vt,g7,g8) _ ⟨D⟩)
           ·skip
            refine value_ (w1:=?_) (v:=?_) zad rfl ?_ ?_;rotate_left 2
            ·go_simp;constructor
             ·rfl
             ·rfl
            have D:=HN.out.box8;refine hK.out _ _ ⟨(blk_cell D.mm.ha 0).trans rfl,(blk_cell D.mm.hb 0).trans rfl,(blk_cell D.mm.hb 1).trans rfl,(blk_cell D.mm.hb 2).trans rfl⟩ (fun hHeld=>?_);clear hK K;refine znm (some 7) ?_;exact norm_ zah (am (v4,v6,g7,W.heap.size) _ ⟨D⟩)
         ·skip
          rintro⟨v4,v6,g7,g8⟩ W HN;have hHeld:W.cell? ⟨w.heap.size,0,none⟩=some (.int .i64 n)∧W.cell? ⟨w.heap.size+1,0,none⟩=some (.int .i64 m)∧W.cell? ⟨w.heap.size+1,1,none⟩=some (.int .i64 p)∧W.cell? ⟨w.heap.size+1,2,none⟩=some (.slice I G.length J):=⟨(blk_cell HN.out.mm.ha 0).trans rfl,(blk_cell HN.out.mm.hb 0).trans rfl,(blk_cell HN.out.mm.hb 1).trans rfl,(blk_cell HN.out.mm.hb 2).trans rfl⟩
          refine znq ?_;refine two_ (i:=7) (j:=8) (Ni:=some 6) (Nj:=some 7) (mB 11 255) (mB 11 383) rfl rfl rfl rfl zab zaa zaa (fun K hK=>?_) (fun K hK=>?_)
          ·skip
           refine value_ (w1:=?_) (v:=?_) zad rfl ?_ ?_;rotate_left 2
           ·go_simp;constructor
            ·rfl
            ·rfl
           have D:=HN.out.box7;refine hK.out _ _ ⟨(blk_cell D.mm.ha 0).trans rfl,(blk_cell D.mm.hb 0).trans rfl,(blk_cell D.mm.hb 1).trans rfl,(blk_cell D.mm.hb 2).trans rfl⟩ (fun hHeld=>?_);clear hK K;refine znm (some 6) ?_;exact norm_ zah (ap (v4,v6,W.heap.size,g8) _ ⟨D⟩)
          ·skip
           refine value_ (w1:=?_) (v:=?_) zad rfl ?_ ?_;rotate_left 2
           ·go_simp;constructor
            ·rfl
            ·rfl
           have D:=HN.out.box8;refine hK.out _ _ ⟨(blk_cell D.mm.ha 0).trans rfl,(blk_cell D.mm.hb 0).trans rfl,(blk_cell D.mm.hb 1).trans rfl,(blk_cell D.mm.hb 2).trans rfl⟩ (fun hHeld=>?_);clear hK K;refine znm (some 7) ?_;exact norm_ zah (aq (v4,v6,g7,W.heap.size) _ ⟨D⟩)
        ·skip
         rintro⟨v4,v6,g7,g8⟩ W HN;have hHeld:W.cell? ⟨w.heap.size,0,none⟩=some (.int .i64 n)∧W.cell? ⟨w.heap.size+1,0,none⟩=some (.int .i64 m)∧W.cell? ⟨w.heap.size+1,1,none⟩=some (.int .i64 p)∧W.cell? ⟨w.heap.size+1,2,none⟩=some (.slice I G.length J):=⟨(blk_cell HN.out.mm.ha 0).trans rfl,(blk_cell HN.out.mm.hb 0).trans rfl,(blk_cell HN.out.mm.hb 1).trans rfl,(blk_cell HN.out.mm.hb 2).trans rfl⟩
         refine znq ?_;refine zon 6 (some 32) (mB 11 511) fun K hK=>?_;refine goes_ Tryd.func72 zab rfl #[.agg #[.int .i64 m,.int .i64 p,.slice I G.length J]] zad rfl rfl zag ?_;refine(matrix_turned.calls m p I J G _ (Kd.C_below au.out HN.out.mm.below) ar.out a5.out ⟨ag,an⟩).mono ?_;rintro e' W1 ⟨vt,rfl,hq⟩;refine⟨_,rfl,?_⟩;have D:=HN.out.turned hq.out.2 hq.out.1;refine hK.out _ _ ⟨(blk_cell D.mm.ha 0).trans rfl,(blk_cell D.mm.hb 0).trans rfl,(blk_cell D.mm.hb 1).trans rfl,(blk_cell D.mm.hb 2).trans rfl⟩ (fun hHeld=>?_);clear hK K;refine znm (some 32) ?_;exact norm_ zah (ab (v4,vt,g7,g8) _ ⟨D⟩)
       ·skip
        rintro⟨v4,v6,g7,g8⟩ W HN;have hHeld:W.cell? ⟨w.heap.size,0,none⟩=some (.int .i64 n)∧W.cell? ⟨w.heap.size+1,0,none⟩=some (.int .i64 m)∧W.cell? ⟨w.heap.size+1,1,none⟩=some (.int .i64 p)∧W.cell? ⟨w.heap.size+1,2,none⟩=some (.slice I G.length J):=⟨(blk_cell HN.out.mm.ha 0).trans rfl,(blk_cell HN.out.mm.hb 0).trans rfl,(blk_cell HN.out.mm.hb 1).trans rfl,(blk_cell HN.out.mm.hb 2).trans rfl⟩
        refine znq ?_;refine zon 7 (some 6) (mB 11 511) fun K hK=>?_;refine value_ (w1:=?_) (v:=?_) zad rfl ?_ ?_;rotate_left 2
        ·go_simp;constructor
         ·rfl
         ·rfl
        have D:=HN.out.box7;refine hK.out _ _ ⟨(blk_cell D.mm.ha 0).trans rfl,(blk_cell D.mm.hb 0).trans rfl,(blk_cell D.mm.hb 1).trans rfl,(blk_cell D.mm.hb 2).trans rfl⟩ (fun hHeld=>?_);clear hK K;refine znm (some 6) ?_;exact norm_ zah (ab (v4,v6,W.heap.size,g8) _ ⟨D⟩)
      ·skip
       rintro⟨v4,v6,g7,g8⟩ W HN;have hHeld:W.cell? ⟨w.heap.size,0,none⟩=some (.int .i64 n)∧W.cell? ⟨w.heap.size+1,0,none⟩=some (.int .i64 m)∧W.cell? ⟨w.heap.size+1,1,none⟩=some (.int .i64 p)∧W.cell? ⟨w.heap.size+1,2,none⟩=some (.slice I G.length J):=⟨(blk_cell HN.out.mm.ha 0).trans rfl,(blk_cell HN.out.mm.hb 0).trans rfl,(blk_cell HN.out.mm.hb 1).trans rfl,(blk_cell HN.out.mm.hb 2).trans rfl⟩
       refine znq ?_;refine zon 8 (some 7) (mB 11 511) fun K hK=>?_;refine value_ (w1:=?_) (v:=?_) zad rfl ?_ ?_;rotate_left 2
       ·go_simp;constructor
        ·rfl
        ·rfl
       have D:=HN.out.box8;refine hK.out _ _ ⟨(blk_cell D.mm.ha 0).trans rfl,(blk_cell D.mm.hb 0).trans rfl,(blk_cell D.mm.hb 1).trans rfl,(blk_cell D.mm.hb 2).trans rfl⟩ (fun hHeld=>?_);clear hK K;refine znm (some 7) ?_;exact norm_ zah (ab (v4,v6,g7,W.heap.size) _ ⟨D⟩)
     rintro⟨v4,v6,g7,g8⟩ W HN;have hHeld:W.cell? ⟨w.heap.size,0,none⟩=some (.int .i64 n)∧W.cell? ⟨w.heap.size+1,0,none⟩=some (.int .i64 m)∧W.cell? ⟨w.heap.size+1,1,none⟩=some (.int .i64 p)∧W.cell? ⟨w.heap.size+1,2,none⟩=some (.slice I G.length J):=⟨(blk_cell HN.out.mm.ha 0).trans rfl,(blk_cell HN.out.mm.hb 0).trans rfl,(blk_cell HN.out.mm.hb 1).trans rfl,(blk_cell HN.out.mm.hb 2).trans rfl⟩
     refine znq ?_;refine zln 9 (none) (mB 11 1023) fun K hK=>?_;obtain⟨A4,c4,e4⟩:=Kd.R_slice (HN.out.h4 rfl);rw[List.length_replicate]at e4
     obtain⟨N4,bc⟩: ∃N,N=n*p:=⟨_,rfl⟩
     rw[←bc]at e4
     obtain⟨A6,c6,e6⟩:=Kd.R_slice (HN.out.h6 rfl);obtain⟨N6,bd⟩: ∃N,N=(transL m p G).length:=⟨_,rfl⟩
     rw[←bd]at e6
     subst e4 e6;have b5:=aK bc;have b6:=aK bd;clear bc bd;have p0:=(blk_cell (HN.out.h7 rfl).1 0).trans rfl;have p1:=(blk_cell (HN.out.h7 rfl).1 1).trans rfl;have p2:=(blk_cell (HN.out.h7 rfl).1 2).trans rfl;have f0:=blk_frozen (HN.out.h7 rfl).1 0;have f1:=blk_frozen (HN.out.h7 rfl).1 1;have f2:=blk_frozen (HN.out.h7 rfl).1 2;refine zsk ?_;obtain⟨W9,be⟩: ∃W9,W9=((W.setCell ⟨g7,0,none⟩ (.int .i64 n)).setCell ⟨g7,1,none⟩ (.int .i64 p)).setCell ⟨g7,2,none⟩ (.slice A4 N4 c4):=⟨_,rfl⟩
     rw[←be];obtain⟨h8,HS⟩:=HN.out.stored W9 be;clear be p0 p1 p2 f0 f1 f2;refine hK.out _ _ ?_;clear hK K;refine zln 10 (none) (mB 11 2047) fun K hK=>?_;have p0:=(blk_cell h8 0).trans rfl;have p1:=(blk_cell h8 1).trans rfl;have p2:=(blk_cell h8 2).trans rfl;have f0:=blk_frozen h8 0;have f1:=blk_frozen h8 1;have f2:=blk_frozen h8 2;refine zsk ?_;obtain⟨aw,a0⟩: ∃aw,aw=((W9.setCell ⟨g8,0,none⟩ (.int .i64 p)).setCell ⟨g8,1,none⟩ (.int .i64 m)).setCell ⟨g8,2,none⟩ (.slice A6 N6 c6):=⟨_,rfl⟩
     rw[←a0];have bp:=aK (HS aw a0);clear a0 p0 p1 p2 f0 f1 f2;refine hK.out _ _ ?_;clear hK K;refine done_ zab ?_;clear hHeld h8 HS;have HST:Aside0 (MulC w n m p X J g7 g8 U I O G (.slice A4 N4 c4) (.slice A6 N6 c6) (midM n m p O G 0 0) aw):=by
      rw[midM_zero];exact bp
     clear bp HN;have x0:aw.cell? ⟨g7,0,none⟩=some (.int .i64 n):=(blk_cell HST.out.h7 0).trans rfl
     go_wp2_with fail
     clear x0
     go_loopg [35] n (fun kq ce wr=> ∃(i:Nat),ce= .int .i64 i∧i≤n∧Aside0 (kq+i=n)∧Aside0 (MulC w n m p X J g7 g8 U I O G (.slice A4 N4 c4) (.slice A6 N6 c6) (midM n m p O G i 0) wr))
     case atStart=>exact⟨0,rfl,Nat.zero_le _,⟨by omega⟩,HST⟩
     case round=>
      obtain⟨i,rfl,hi,HK,HO⟩:=hrel;clear HST;by_cases hlt:i<n
      ·have tst:decide ((i:Int)<(n:Int))=true:=by simpa using hlt
       have x1:wr.cell? ⟨g7,1,none⟩=some (.int .i64 p):=(blk_cell HO.out.h7 1).trans rfl
       go_wp2_with fail
       clear x1
       go_loopg [40] p (fun kq cf w5=> ∃(j:Nat),cf= .int .i64 j∧j≤p∧Aside0 (kq+j=p)∧Aside0 (MulC w n m p X J g7 g8 U I O G (.slice A4 N4 c4) (.slice A6 N6 c6) (midM n m p O G i j) w5))
       case atStart=>exact⟨0,rfl,Nat.zero_le _,⟨by omega⟩,HO⟩
       case round=>
        obtain⟨j,rfl,hj,bz,Z⟩:=hrel;clear HO;by_cases hjl:j<p
        ·have ch:decide ((j:Int)<(p:Int))=true:=by simpa using hjl
         go_wp2_with fail
         obtain⟨xb,hxb⟩:=R_head Z.out.d4 (by rw[midM_length];exact Nat.mul_pos zz zz);subst hxb;have bj:(i+1)*m≤O.length:=by
          rw[b4.out];exact Nat.mul_le_mul_right _ hlt
         have bk:(j+1)*m≤(transL m p G).length:=by
          rw[transL_len];exact Nat.mul_le_mul_right _ hjl
         have bw:(i+1)*p≤n*p:=Nat.mul_le_mul_right _ hlt;have ca:(i+1)*p=i*p+p:=by rw[Nat.add_mul,Nat.one_mul]
         obtain⟨bg,bh⟩:=R_elt Z.out.d4 (i:=i*p+j) (by rw[midM_length];omega);have HXA:=aK (row_reads (Kd.C_below bo.out Z.out.mm.below) bj);have bl:=Kd.R_reads' Z.out.d6;have HXT:=aK (row_reads bl.2.2 bk);have bx:=Kd.R_reads' Z.out.d4;have HSTP:=aK (midM_step (n:=n) (m:=m) (p:=p) (l1:=O) (l2:=G) hlt hjl);have av:=fun W=>matrix_row.calls (n:Int) p i N4 c4 (i*p) ((i+1)*p) (some ⟨xb,0,none⟩) W rfl rfl (Nat.le_trans (by rw[b5.out];exact bw) bx.2.1) zz an;have a9:=fun W=>matrix_row.calls (n:Int) m i O.length X (i*m) ((i+1)*m) U W rfl rfl (Nat.le_trans bj bn.out) zz ag;have ba:=fun W=>matrix_row.calls (p:Int) m j N6 c6 (j*m) ((j+1)*m) A6 W rfl rfl (Nat.le_trans (by rw[b6.out];exact bk) bl.2.1) zz ag;rw[if_neg zz]at av
         simp only[Option.map_some]at av;have bf:((⟨xb,0,none⟩:Addr).add (i*p)).add j=⟨xb,i*p+j,none⟩:=by
          unfold Addr.add;by_cases a:i*p=0<;>by_cases b:j=0<;>simp[a,b]
         obtain⟨RA,hRA⟩: ∃R,R=(if(i+1)*m=i*m then U else U.map (·.add (i*m))):=⟨_,rfl⟩
         obtain⟨RT,hRT⟩: ∃R,R=(if(j+1)*m=j*m then A6 else A6.map (·.add (j*m))):=⟨_,rfl⟩
         rw[←hRA]at HXA a9
         rw[←hRT]at HXT ba
         obtain⟨x,hx⟩: ∃x,x=dotF (rowF O m i) (rowF (transL m p G) m j) m:=⟨_,rfl⟩
         have HDOT:Aside0 (∀W,Below wr.heap.size wr W→Calls Tryd.prog 73 #[.slice RA m m,.slice RT m m] W fun e W'=>e= .returned (.tuple #[.int .u8 x,.int .i64 0])∧Below W.heap.size W W'):=by
          rw[hx];exact⟨fun W hb=>field_Dot.row m RA RT m m _ _ W ag (fun q _=>byB_getD HBY.out.1 _) (fun q _=>transL_byte HBY.out.2 _) (reads_below hb HXA.out) (reads_below hb HXT.out)⟩
         rw[←hx]at HSTP
         obtain⟨e,he⟩: ∃e:Nat,e=i*p:=⟨_,rfl⟩
         rw[←he]at bg bh HSTP av bf
         have a6:=aK av;have a7:=aK a9;have a8:=aK ba;clear av a9 ba bx bl HXA HXT hRA hRT hx bj bk bw ca he;have p0:(0:Int)≤(i:Int):=by omega
         have p1:(i:Int)<(n:Int):=by omega
         have p2:(0:Int)≤(j:Int):=by omega
         have p3:(j:Int)<(p:Int):=by omega
         refine start_ (n:=16) (S:=fun w'=>w'.cell? ⟨g7,0,none⟩=some (.int .i64 n)∧w'.cell? ⟨g7,1,none⟩=some (.int .i64 p)∧w'.cell? ⟨g7,2,none⟩=some (.slice (some ⟨xb,0,none⟩) N4 c4)∧w'.cell? ⟨w.heap.size,0,none⟩=some (.int .i64 n)∧w'.cell? ⟨w.heap.size,1,none⟩=some (.int .i64 m)∧w'.cell? ⟨w.heap.size,2,none⟩=some (.slice U O.length X)∧w'.cell? ⟨g8,0,none⟩=some (.int .i64 p)∧w'.cell? ⟨g8,1,none⟩=some (.int .i64 m)∧w'.cell? ⟨g8,2,none⟩=some (.slice A6 N6 c6)) (ds:= [15]) (mB 16 0) zab rfl rfl ⟨(blk_cell Z.out.h7 0).trans rfl,(blk_cell Z.out.h7 1).trans rfl,(blk_cell Z.out.h7 2).trans rfl,(blk_cell Z.out.mm.ha 0).trans rfl,(blk_cell Z.out.mm.ha 1).trans rfl,(blk_cell Z.out.mm.ha 2).trans rfl,(blk_cell Z.out.h8 0).trans rfl,(blk_cell Z.out.h8 1).trans rfl,(blk_cell Z.out.h8 2).trans rfl⟩ (fun hHeld=>?_);have bq:=aK (Z.out.next (below_drew (Below.refl _ _)));have bm:Aside0 (Below wr.heap.size wr wr.drew):=⟨below_drew (Below.refl _ _)⟩
         have bi:wr.drew.cell? ⟨xb,e+j,none⟩=_:=bg;have bu:wr.drew.frozen? ⟨xb,e+j,none⟩=false:=bh;clear Z bg bh;generalize wr.drew=w6 at*;refine zpu 1 (some 45) (mB 16 2) ?_;refine zpu 3 (some 47) (mB 16 10) ?_;refine zpu 5 (some 49) (mB 16 42) ?_;refine zpu 8 (some 52) (mB 16 298) ?_;refine ztk9 0 (some 44) (mB 16 299) hHeld ?_;refine ztk9 4 (some 48) (mB 16 315) hHeld ?_;refine ztk9 7 (some 51) (mB 16 443) hHeld ?_;refine zon 2 (some 46) (mB 16 447) fun K hK=>?_;refine goes_ Tryd.func70 zab rfl #[.agg #[.int .i64 n,.int .i64 p,.slice (some ⟨xb,0,none⟩) N4 c4],.int .i64 i] zad rfl rfl zag ?_;refine(a6.out _).mono ?_;rintro e' w7 ⟨rfl,ah⟩;refine⟨_,rfl,?_⟩;refine hK.out _ _ ⟨pw_cell_below ah hHeld.1,pw_cell_below ah hHeld.2.1,pw_cell_below ah hHeld.2.2.1,pw_cell_below ah hHeld.2.2.2.1,pw_cell_below ah hHeld.2.2.2.2.1,pw_cell_below ah hHeld.2.2.2.2.2.1,pw_cell_below ah hHeld.2.2.2.2.2.2.1,pw_cell_below ah hHeld.2.2.2.2.2.2.2.1,pw_cell_below ah hHeld.2.2.2.2.2.2.2.2⟩ (fun hHeld=>?_);clear hK K;refine znm (some 46) ?_;refine zon 6 (some 50) (mB 16 511) fun K hK=>?_;refine goes_ Tryd.func70 zab rfl #[.agg #[.int .i64 n,.int .i64 m,.slice U O.length X],.int .i64 i] zad rfl rfl zag ?_;refine(a7.out _).mono ?_;rintro e' w8 ⟨rfl,ai⟩;refine⟨_,rfl,?_⟩;refine hK.out _ _ ⟨pw_cell_below ai hHeld.1,pw_cell_below ai hHeld.2.1,pw_cell_below ai hHeld.2.2.1,pw_cell_below ai hHeld.2.2.2.1,pw_cell_below ai hHeld.2.2.2.2.1,pw_cell_below ai hHeld.2.2.2.2.2.1,pw_cell_below ai hHeld.2.2.2.2.2.2.1,pw_cell_below ai hHeld.2.2.2.2.2.2.2.1,pw_cell_below ai hHeld.2.2.2.2.2.2.2.2⟩ (fun hHeld=>?_);clear hK K;refine znm (some 50) ?_;refine zon 9 (some 53) (mB 16 1023) fun K hK=>?_;refine goes_ Tryd.func70 zab rfl #[.agg #[.int .i64 p,.int .i64 m,.slice A6 N6 c6],.int .i64 j] zad rfl rfl zag ?_;refine(a8.out _).mono ?_;rintro e' w9 ⟨rfl,aj⟩;refine⟨_,rfl,?_⟩;refine hK.out _ _ ⟨pw_cell_below aj hHeld.1,pw_cell_below aj hHeld.2.1,pw_cell_below aj hHeld.2.2.1,pw_cell_below aj hHeld.2.2.2.1,pw_cell_below aj hHeld.2.2.2.2.1,pw_cell_below aj hHeld.2.2.2.2.2.1,pw_cell_below aj hHeld.2.2.2.2.2.2.1,pw_cell_below aj hHeld.2.2.2.2.2.2.2.1,pw_cell_below aj hHeld.2.2.2.2.2.2.2.2⟩ (fun hHeld=>?_);clear hK K;refine znm (some 53) ?_;refine zon 10 (some 54) (mB 16 2047) fun K hK=>?_;refine goes_ Tryd.func73 zab rfl #[.slice RA m m,.slice RT m m] zad rfl rfl zag ?_;refine(HDOT.out _ (below_step (below_step (below_step bm.out ah) ai) aj)).mono ?_;rintro e' ci ⟨rfl,aa⟩;refine⟨_,rfl,?_⟩;have ao:=below_step (below_step (below_step ah ai) aj) aa;have cb:=pw_cell_below ao bi;have cd:=(below_frozen ao (p:=⟨xb,e+j,none⟩) (World.block_lt_of_cell? _ _ bi)).trans bu;refine hK.out _ _ ⟨pw_cell_below aa hHeld.1,pw_cell_below aa hHeld.2.1,pw_cell_below aa hHeld.2.2.1,pw_cell_below aa hHeld.2.2.2.1,pw_cell_below aa hHeld.2.2.2.2.1,pw_cell_below aa hHeld.2.2.2.2.2.1,pw_cell_below aa hHeld.2.2.2.2.2.2.1,pw_cell_below aa hHeld.2.2.2.2.2.2.2.1,pw_cell_below aa hHeld.2.2.2.2.2.2.2.2⟩ (fun hHeld=>?_);clear hK K;refine znm (some 54) ?_;refine zpu 11 (some 43) (mB 16 4095) ?_;refine zpu 12 (some 55) (mB 16 8191) ?_;refine zpu 13 (some 56) (mB 16 16383) ?_;refine zpu 14 (some 57) (mB 16 32767) ?_;refine zln 15 (none) (mB 16 65535) fun K hK=>?_;refine zsk ?_;refine hK.out _ _ ?_;clear hK K;refine done_ zab ?_;clear hHeld;have br:=aK ((bq.out.next ao).put (e+j) x);rw[HSTP.out]at br
         clear bq ao ah ai aj aa bi bu cb cd bm HDOT a6 a7 a8
         go_wp2_with fail
         go_roundg (p-(j+1))
         case measure=>have:=bz.out;omega
         case rel=>exact⟨j+1,by go_num,by omega,⟨by omega⟩,br⟩
        ·obtain rfl:j=p:=by omega
         go_wp2_with fail
         go_roundg (n-(i+1))
         case measure=>have:=HK.out;omega
         case rel=>exact⟨i+1,by go_num,by omega,⟨by omega⟩,⟨by rw[←midM_row];exact Z.out⟩⟩
      ·obtain rfl:i=n:=by omega
       have s0:wr.cell? ⟨g7,0,none⟩=some (.int .i64 i):=(blk_cell HO.out.h7 0).trans rfl;have s1:wr.cell? ⟨g7,1,none⟩=some (.int .i64 p):=(blk_cell HO.out.h7 1).trans rfl;have s2:wr.cell? ⟨g7,2,none⟩=some (.slice A4 N4 c4):=(blk_cell HO.out.h7 2).trans rfl;have y0:wr.cell? ⟨w.heap.size+2,0,none⟩=some (.int .i64 0):=(blk_cell HO.out.mm.hr 0).trans rfl;have y1:wr.cell? ⟨w.heap.size+2,1,none⟩=some (.int .i64 0):=(blk_cell HO.out.mm.hr 1).trans rfl;have y2:wr.cell? ⟨w.heap.size+2,2,none⟩=some (.slice none 0 0):=(blk_cell HO.out.mm.hr 2).trans rfl;have f0:=blk_frozen HO.out.mm.hr 0;have f1:=blk_frozen HO.out.mm.hr 1;have f2:=blk_frozen HO.out.mm.hr 2
       go_wp2_with fail
       refine bodyPost_ret (results_ct rfl _ _ (w.heap.size+2) 24 #[.int .i64 i,.int .i64 p,.slice A4 N4 c4] (0,0) _ rfl (blk_put (cs:= #[.int .i64 i,.int .i64 p,.slice none 0 0]) (blk_put (cs:= #[.int .i64 i,.int .i64 0,.slice none 0 0]) (blk_put (cs:= #[.int .i64 0,.int .i64 0,.slice none 0 0]) HO.out.mm.hr 0 _ rfl) 1 _ rfl) 2 _ rfl) Tryd.underlying24 rfl zab) rfl ?_;refine⟨_,rfl,?_,?_⟩
       ·rw[←midM_all];have h1:=Kd.R_types HO.out.d4 HO.out.mm.hr (fun q hq=>by obtain rfl:q=5:=(List.mem_cons.1 hq).elim id (fun hx=>by cases hx);decide);exact Kd.R_mono (Kd.R_far (Kd.R_far (Kd.R_far h1 (p:=⟨w.heap.size+2,0,none⟩) (fun k hk=>hk.2) _) (p:=⟨w.heap.size+2,1,none⟩) (fun k hk=>hk.2) _) (p:=⟨w.heap.size+2,2,none⟩) (fun k hk=>hk.2) _) (fun _ _=>trivial)
       ·exact((HO.out.mm.below.setCell zam _).setCell zam _).setCell zam _
    ·rw[if_neg hby]at h
     exact absurd h zac
   ·rw[if_neg hbc]at h
    have hne:(ae !=af)=true:=by simpa using hbc
    simp only[Option.some.injEq,Prod.mk.injEq]at h;obtain⟨rfl,rfl,rfl,rfl⟩:=h;have y0:w4.cell? ⟨w.heap.size+2,0,none⟩=some (.int .i64 0):=(blk_cell Y.out.hr 0).trans rfl;have y1:w4.cell? ⟨w.heap.size+2,1,none⟩=some (.int .i64 0):=(blk_cell Y.out.hr 1).trans rfl;have y2:w4.cell? ⟨w.heap.size+2,2,none⟩=some (.slice none 0 0):=(blk_cell Y.out.hr 2).trans rfl;have f0:=blk_frozen Y.out.hr 0;have f1:=blk_frozen Y.out.hr 1;have f2:=blk_frozen Y.out.hr 2
    go_wp2_with fail
    refine bodyPost_ret (results_ct rfl _ _ (w.heap.size+2) 24 #[.int .i64 0,.int .i64 0,.slice none 0 0] (0,0) _ rfl (blk_put (cs:= #[.int .i64 0,.int .i64 0,.slice none 0 0]) (blk_put (cs:= #[.int .i64 0,.int .i64 0,.slice none 0 0]) (blk_put (cs:= #[.int .i64 0,.int .i64 0,.slice none 0 0]) Y.out.hr 0 _ rfl) 1 _ rfl) 2 _ rfl) Tryd.underlying24 rfl zab) rfl ?_;refine⟨_,rfl,Kd.R_nil _ _ _ _ _,?_⟩;exact((Y.out.below.setCell zam _).setCell zam _).setCell zam _
end Go.Proofs.YtkagobkedifhkaaDoor.Q
