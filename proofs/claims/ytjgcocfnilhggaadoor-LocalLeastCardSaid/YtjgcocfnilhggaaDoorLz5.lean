/- Texts of the proof of LocalLeast: what each Go function answers, and what the answers mean; no condition beyond each theorem's own. -/
import Derived.Test.YtjgcocfnilhggaaDoorLz4
namespace Go.Proofs.YtjgcocfnilhggaaDoor.Q
open Go.RowKit Go.Proofs.YtjgcocfnilhggaaDoorW.PrintWords Go.Proofs.YtjgcocfnilhggaaDoorW.PrintLast Go.Proofs.YtjgcocfnilhggaaDoorW.PrintMore
attribute [local go_sem] max2_int min2_int max_two min_two max_three min_three max_four min_four
set_option linter.unusedVariables false
set_option linter.unusedSimpArgs false
mutual
def recoupref04_Solve.j0:Nat→List Int→Bool→Int→Int→List Int→Option (List Int×Bool×Int)
 |0,_,_,_,_,_=>none
 |k+1,x1,J,D,G,I=>if J=true then(some (([]:List Int),false,3))else(recoupref04_Solve.l0 k x1 0 D G I D (wrap64 (G+1)) ([]:List Int))
def recoupref04_Solve.l0:Nat→List Int→Int→Int→Int→List Int→Int→Int→List Int→Option (List Int×Bool×Int)
 |0,_,_,_,_,_,_,_,_=>none
 |k+1,x1,x8,G,D,I,O,U,J=>if x8<G then((recoupref03_Row.f k G D I x8).bind fun X=>(if J.length+X.1.length<140737488355328 then((some (J++X.1:List Int)).bind fun Y=>(if 0≤x8 then(if x8<(x1.length:Int)then((some (([rd x1 x8]:List Int):List Int)).bind fun Z=>(if Y.length+Z.length<140737488355328 then(recoupref04_Solve.l0 k x1 (wrap64 (x8+1)) G D I O U (Y++Z))else(none)))else(none))else(none)))else(none)))else((recoupref04_wide.f k O U J).bind fun L=>(if 0≤D then(if(D:Int).toNat≤281474976710656 then(recoupref04_Solve.l1 k L.2.2.2 (List.replicate (D:Int).toNat 0) 0 G D I L.1 L.2.1 L.2.2.1)else(none))else(none)))
def recoupref04_Solve.l1:Nat→List Int→List Int→Int→Int→Int→List Int→Int→Int→List Int→Option (List Int×Bool×Int)
 |0,_,_,_,_,_,_,_,_,_=>none
 |k+1,O,Y,G,U,D,X,I,J,L=>if G<(O.length:Int)then(if 0≤G then(if(rd O G)=D then(some (([]:List Int),false,0))else((recoupref03_At.f I J L G D).bind fun Z=>(if 0≤(rd O G)then(if(rd O G)<(Y.length:Int)then(recoupref04_Solve.l1 k O (Y.set ((rd O G):Int).toNat Z) (wrap64 (G+1)) U D X I J L)else(none))else(none))))else(none))else(some (Y,true,0))
end
def recoupref04_Solve.f(k:Nat)(D:Int)(G:Int)(I:List Int)(l1:List Int):Option (List Int×Bool×Int):=(recoupref03_Right.f D G I).bind fun J=>(if J=true then(recoupref04_Solve.j0 k l1 ((l1.length:Int)!=D) D G I)else(recoupref04_Solve.j0 k l1 true D G I))
def recoupref04_Solve.T8:Bool×List (List Nat×List Nat):=(true,[([],[]),([0],[0]),([],[]),([1,2],[1,2]),([],[]),([],[]),([4,5],[4,5]),([6],[6]),([7],[7]),([3,8,3],[3,8]),([0,1,2,3,4,5,6,7,8,9],[]),([10,9,9,0,1,2,3,4,5,6,7,8,9],[9,10])])
def recoupref04_Solve.B8:List Nat:= [0,1,0,7,0,0,48,112,240,511,1023,2047]
theorem recoupref04_Solve.tab8:rtab .any (opsOf Tryd.f74 8)=recoupref04_Solve.T8:=by kernel_rfl
theorem recoupref04_Solve.bits8:waitsOk recoupref04_Solve.T8.2 recoupref04_Solve.B8=true:=by kernel_rfl
def recoupref04_Solve.T16:Bool×List (List Nat×List Nat):=(true,[([],[]),([],[]),([],[]),([1,2],[1,2]),([3],[3]),([],[]),([],[]),([],[]),([7],[7]),([5,6,8],[5,6,8]),([0,4,0,1,2,3,4,5,6,7,8,9],[0,4]),([10,9,9,0,1,2,3,4,5,6,7,8,9],[9,10])])
def recoupref04_Solve.B16:List Nat:= [0,0,0,6,14,0,0,0,128,480,1023,2047]
theorem recoupref04_Solve.tab16:rtab .any (opsOf Tryd.f74 16)=recoupref04_Solve.T16:=by kernel_rfl
theorem recoupref04_Solve.bits16:waitsOk recoupref04_Solve.T16.2 recoupref04_Solve.B16=true:=by kernel_rfl
set_option maxHeartbeats 8000000 in
set_option maxRecDepth 100000 in
theorem recoupref04_Solve.calls(k:Nat)(O:Int)(J:Int)(ah:Option Addr)(ai:Nat)(Z:List Int)(A1:Option Addr)(c1:Nat)(l1:List Int)(r1:List Int)(r2:Bool)(r3:Int)(w:World)(ej:Kd.C (Kd.int .u8) w ah Z.length Z)(dm:Z.length≤ai)(fx:Kd.C (Kd.int .u8) w A1 l1.length l1)(ft:l1.length≤c1)(h:recoupref04_Solve.f k O J Z l1=some (r1,r2,r3)):
 Calls Tryd.prog 74 #[.agg #[.int .i64 O,.int .i64 J,.slice ah Z.length ai],.slice A1 l1.length c1] w fun e w'=> ∃v0_:Value,e= .returned (.tuple #[v0_,.bool r2,.int .i64 r3])∧Kd.R (Kd.int .u8) 5 w' w.heap.size (fun _=>True) v0_ r1∧Below w.heap.size w w':=by
 have g6:=Tryd.underlying24;have co:=aK ej;have cn:=aK dm;clear ej dm;have ga:=aK fx;have ib:=aK ft;clear fx ft;have HB:=aK (Below.refl w.heap.size w);have H:((recoupref03_Right.f O J Z).bind fun em=>(if em=true then(recoupref04_Solve.j0 k l1 ((l1.length:Int)!=O) O J Z)else(recoupref04_Solve.j0 k l1 true O J Z)))=some (r1,r2,r3):=h;clear h;have e7:=aK H;clear H
 go_enter Tryd.func74,Tryd.ntmps74
 go_upto_region 1 with(first|((with_reducible refine gD 2 rfl ?_);(try(refine gate_guard ze ?_;dsimp only));refine bE 2 #[.int .i64 O,.int .i64 J,.slice ah Z.length ai] 24 ?_;intro ae hg w4 hbox hb;have D:=aK (hbox);have f7:=hbS HB hg;have e5:=hbS HB hg;replace HB:=hbB HB hb;clear hb hbox hg))
 (try simp only[Act.put,zL])
 go_cut [24] (fun gr wc=> ∃(kq:Nat) (b5:Bool),gr= .bool b5∧Aside0 (recoupref04_Solve.j0 kq l1 b5 O J Z=some (r1,r2,r3))∧Aside0 (kq≤k)∧Aside0 (wc.heap[ae]? =some (.cells #[.int .i64 O,.int .i64 J,(.slice ah Z.length ai)] 24 (0,0)))∧Aside0 (Below w.heap.size w wc))
 case first=>
  have H:=e7.out;clear e7;obtain⟨em,A5,H⟩:=bindO H
  (try dsimp only at H)
  by_cases c6:em=true
  ·subst c6;rw[if_pos rfl]at H
   have H':=aK H;clear H;obtain⟨bs,bt,bu,bz,b0,b1⟩:=cell3 D
   go_wp2_with (first|((with_reducible refine gC 45 rfl ?_);refine cG (some 16) Tryd.func45 #[.agg #[.int .i64 O,.int .i64 J,.slice ah Z.length ai]] ?_;(with_reducible refine(recoupref03_Right.calls O J _ _ Z true _ ?side1 ?side2 A5.out).mono ?_);(case side1=>exact kcB co HB);(case side2=>exact cn.out);rintro e w8 ⟨rfl,hb⟩;refine⟨_,rfl,?_⟩;replace D:=bkB D hb;replace HB:=hbB HB hb;(try clear hb);obtain⟨bv,bw,bx,b2,b3,b4⟩:=cell3 D))
   go_meet
   case rel=>exact⟨_,(((l1.length:Int)!=O)),rsE,H',⟨leE⟩,⟨bkA D.out⟩,⟨hbA HB.out⟩⟩
  ·replace c6:=Bool.eq_false_iff.mpr c6;subst c6;rw[if_neg nofT]at H
   have H':=aK H;clear H;obtain⟨ba,bb,bc,bd,be,bf⟩:=cell3 D
   go_wp2_with (first|((with_reducible refine gC 45 rfl ?_);refine cG (some 16) Tryd.func45 #[.agg #[.int .i64 O,.int .i64 J,.slice ah Z.length ai]] ?_;(with_reducible refine(recoupref03_Right.calls O J _ _ Z false _ ?side1 ?side2 A5.out).mono ?_);(case side1=>exact kcB co HB);(case side2=>exact cn.out);rintro e io ⟨rfl,hb⟩;refine⟨_,rfl,?_⟩;replace D:=bkB D hb;replace HB:=hbB HB hb;(try clear hb)))
   go_meet
   case rel=>exact⟨_,(true),rsE,H',⟨leE⟩,⟨bkA D.out⟩,⟨hbA HB.out⟩⟩
 case rest=>
  clear e7
  (try clear c1);(try clear p2);(try clear c4);(try clear c6);(try clear c7);(try clear ba bb bc bd be bf);(try clear bs bt bu bz b0 b1);(try clear bv bw bx b2 b3 b4)
  obtain⟨kq,b5,rfl,HA,en,D,HB⟩:=hcut
  cases kq with
  |zero=>exact absurd HA.out (by simp[recoupref04_Solve.j0])
  |succ fy=>
   have H:=HA.out;clear HA;simp only[recoupref04_Solve.j0]at H;by_cases cy:b5=true
   ·subst cy;rw[if_pos rfl]at H
    simp only[Option.some.injEq,Prod.mk.injEq]at H;obtain⟨rfl,rfl,rfl⟩:=H;go_wp2
    go_ret3
    exact⟨_,rfE,nilE,hbA HB.out⟩
   ·replace cy:=Bool.eq_false_iff.mpr cy;subst cy;rw[if_neg nofT]at H
    have H':=aK H;clear H;obtain⟨b8,b9,ca,cf,cg,ch⟩:=cell3 D
    go_wp2_with (first|((with_reducible refine gD 7 rfl ?_);(try(refine gate_guard ze ?_;dsimp only));refine bE 7 #[.int .i64 0,.int .i64 0,.slice none 0 0] 24 ?_;intro ab hg ip hbox hb;have G:=aK (hbox);have f8:=hbS HB hg;have e6:=hbS HB hg;replace HB:=hbB HB hb;have af:=neL D hg;have aq:=neG D hg;replace D:=bkB D hb;clear hb hbox hg;have ge:=aq.out;have gj:=af.out;obtain⟨cb,cd,ce,ci,cj,ck⟩:=cell3 G))
    go_loopg [8] fy (fun kq v8 w'=> ∃(X:Int) (I:List Int) (u443002:Value),v8= .int .i64 X∧Aside0 (recoupref04_Solve.l0 kq l1 X O J Z O (wrap64 (J+1)) I=some (r1,r2,r3))∧Aside0 (kq≤fy)∧Aside0 (Kd.R (Kd.int .u8) 5 w' w.heap.size (fun _=>True) u443002 I)∧Aside0 (w'.heap[ae]? =some (.cells #[.int .i64 O,.int .i64 J,(.slice ah Z.length ai)] 24 (0,0)))∧Aside0 (w'.heap[ab]? =some (.cells #[.int .i64 O,.int .i64 (wrap64 (J+1)),u443002] 24 (0,0)))∧Aside0 (Below w.heap.size w w'))
    case atStart=>exact⟨(0),(([]:List Int)),(.slice none 0 0),rsE,H',⟨Nat.le_refl _⟩,⟨nilE⟩,⟨by refine bkR ?_;refine blk_far ?_ af.out _;refine bkR ?_;refine blk_far ?_ af.out _;refine bkR ?_;refine blk_far ?_ af.out _;refine bkR ?_;exact D.out⟩,⟨by refine bkR ?_;refine blk_put (cs:= #[.int .i64 O,.int .i64 (wrap64 (J+1)),.slice none 0 0]) ?_ 2 _ rfl;refine bkR ?_;refine blk_put (cs:= #[.int .i64 O,.int .i64 0,.slice none 0 0]) ?_ 1 _ rfl;refine bkR ?_;refine blk_put (cs:= #[.int .i64 0,.int .i64 0,.slice none 0 0]) ?_ 0 _ rfl;refine bkR ?_;exact G.out⟩,⟨hbA HB.out⟩⟩
    case round=>
     clear H'
     (try clear c1);(try clear p2 p2);(try clear c4);(try clear c6);(try clear p6);(try clear c7);(try clear cy);(try clear gb);(try clear ba bb bc bd be bf);(try clear b8 b9 ca cf cg ch);(try clear cb cd ce ci cj ck);(try clear bs bt bu bz b0 b1);(try clear bv bw bx b2 b3 b4)
     obtain⟨X,I,u443002,rfl,HA,eo,HO_443002,D,G,HB⟩:=hrel
     cases gk with
     |zero=>exact absurd HA.out (by simp[recoupref04_Solve.l0])
     |succ k2=>
      have H:=HA.out;clear HA;simp only[recoupref04_Solve.l0]at H;by_cases ct:X<O
      ·rw[if_pos ct]at H
       have c17b0:decide (X<O)=true:=decide_eq_true ct;clear ct;obtain⟨⟨aj,fz⟩,f3,H⟩:=bindO H
       (try dsimp only at H)
       by_cases dg:I.length+aj.length<140737488355328
       ·rw[if_pos dg]at H
        have dd:=aK dg;clear dg;obtain⟨a5,bi⟩: ∃y_:List Int,y_=(I++aj):=⟨_,rfl⟩
        replace H:(if 0≤X then(if X<(l1.length:Int)then((some (([rd l1 X]:List Int):List Int)).bind fun aw=>(if a5.length+aw.length<140737488355328 then(recoupref04_Solve.l0 k2 l1 (wrap64 (X+1)) O J Z O (wrap64 (J+1)) (a5++aw))else(none)))else(none))else(none))=some (r1,r2,r3):=by first|(rw[bi];with_reducible exact H)|(have H2_:=(Option.bind_some _ _).symm.trans H;rw[bi];with_reducible exact H2_)|(have H2_:=(Option.bind_some _ _).symm.trans H;with_reducible exact H2_)|with_reducible exact H|(rw[bi];exact H)|exact H
        have de:=aK bi;clear bi;by_cases dh:0≤X
        ·rw[if_pos dh]at H
         have c20b0:decide (0≤X)=true:=decide_eq_true dh;clear dh;by_cases di:X<(l1.length:Int)
         ·rw[if_pos di]at H
          have c21b0:decide (X<(l1.length:Int))=true:=decide_eq_true di;clear di;obtain⟨aw,bj⟩: ∃y_:List Int,y_=(([rd l1 X]:List Int)):=⟨_,rfl⟩
          replace H:(if a5.length+aw.length<140737488355328 then(recoupref04_Solve.l0 k2 l1 (wrap64 (X+1)) O J Z O (wrap64 (J+1)) (a5++aw))else(none))=some (r1,r2,r3):=by first|(rw[bj];with_reducible exact H)|(have H2_:=(Option.bind_some _ _).symm.trans H;rw[bj];with_reducible exact H2_)|(have H2_:=(Option.bind_some _ _).symm.trans H;with_reducible exact H2_)|with_reducible exact H|(rw[bj];exact H)|exact H
          have br:=aK bj;clear bj;by_cases dj:a5.length+aw.length<140737488355328
          ·rw[if_pos dj]at H
           have e9:=aK dj;clear dj;obtain⟨cx,bk⟩: ∃y_:List Int,y_=(a5++aw):=⟨_,rfl⟩
           replace H:(recoupref04_Solve.l0 k2 l1 (wrap64 (X+1)) O J Z O (wrap64 (J+1)) cx)=some (r1,r2,r3):=by first|(rw[bk];with_reducible exact H)|(have H2_:=(Option.bind_some _ _).symm.trans H;rw[bk];with_reducible exact H2_)|(have H2_:=(Option.bind_some _ _).symm.trans H;with_reducible exact H2_)|with_reducible exact H|(rw[bk];exact H)|exact H
           have fa:=aK bk;clear bk;have H':=aK H;clear H;have gf:=af.out;have gl:=aq.out;obtain⟨dn,dp,dq,d4,d5,d6⟩:=cell3 D
           try go_wp2_with (first|((with_reducible refine gC 21 rfl ?_);refine cG (some 40) Tryd.func21 #[.agg #[.int .i64 O,.int .i64 J,.slice ah Z.length ai],.int .i64 X] ?_;(with_reducible refine(recoupref03_Row.calls k2 O J _ _ Z X aj fz _ ?side1 ?side2 f3.out).mono ?_);(case side1=>exact kcB co HB);(case side2=>exact cn.out);rintro e gs ⟨g8,rfl,da,hb⟩;refine⟨_,rfl,?_⟩;have U:=aK (Kd.R_lower (Kd.R_new' da (Kd.R_lt (kdA HO_443002.out))) (below_size (hbA HB.out)));replace HO_443002:=aK (Kd.R_elder' (kdA HO_443002.out) (Kd.R_base da) hb);replace D:=bkB D hb;replace G:=bkB G hb;replace HB:=hbB HB hb;(try clear hb);(try clear da);obtain⟨au,av,fj⟩:=Kd.R_slice HO_443002.out;subst fj;obtain⟨ax,ay,fk⟩:=Kd.R_slice U.out;subst fk))
           replace HO_443002:=aK (Kd.R_drew HO_443002.out);replace U:=aK (Kd.R_drew U.out);replace D:=aK (blk_drew D.out);replace G:=aK (blk_drew G.out);replace HB:=aK (below_drew1 HB.out);have cv:0≤(X:Int):=of_decide_eq_true asE;have cw:X<(l1.length:Int):=of_decide_eq_true asE;obtain⟨cr,fh,an⟩:=Kd.at_int ga.out X cv cw;have ac:=an
           cases fh
           replace an:=(HB.out.cell (World.block_lt_of_cell? w _ an)).trans an;replace cv:=eq_true cv;replace cw:=eq_true cw;refine start_ (n:=12) (S:=fun w'=>w'.cell? ⟨ab,0,none⟩=some (.int .i64 O)∧w'.cell? ⟨ab,1,none⟩=some (.int .i64 (wrap64 (J+1)))∧w'.cell? ⟨ab,2,none⟩=some (.slice au I.length av)∧w'.cell? (cr.add (X).toNat)=some (.int .u8 (rd l1 X))) (ds:= [11]) (.replicate 12 false) zb rfl rfl ⟨(blk_cell G.out 0).trans rfl,(blk_cell G.out 1).trans rfl,(blk_cell G.out 2).trans rfl,((HB.out.cell (World.block_lt_of_cell? w _ ac)).trans ac)⟩ (fun hHeld=>?_);refine with_tabW recoupref04_Solve.tab8 recoupref04_Solve.bits8 (fun HT_ HW_=>?_);generalize gs.drew=iq at HO_443002 U D G HB an hHeld⊢;refine pu 0 (some 43) (mB 12 1) HT_ ?_;refine pu 2 (some 45) (mB 12 5) HT_ ?_;refine pu 4 (some 47) (mB 12 21) HT_ ?_;refine pu 5 (some 48) (mB 12 53) HT_ ?_;refine pu 6 (some 49) (mB 12 117) HT_ ?_;refine tk4 1 (some 44) (mB 12 119) HT_ HW_ hHeld ?_;refine tk4 7 (some 50) (mB 12 247) HT_ HW_ hHeld ?_;refine join_ (σ:=Value×Value) 3 (mB 12 511) (fun s_=> [(46,s_.1),(51,s_.2)]) (fun s_ w'=>(w'.cell? ⟨ab,0,none⟩=some (.int .i64 O)∧w'.cell? ⟨ab,1,none⟩=some (.int .i64 (wrap64 (J+1)))∧w'.cell? ⟨ab,2,none⟩=some (.slice au I.length av)∧w'.cell? (cr.add (X).toNat)=some (.int .u8 (rd l1 X)))∧(Kd.R (Kd.int .u8) 5 w' w.heap.size (fun k_=>some k_≠(s_.1:Value).ownBlock∧some k_≠(s_.2:Value).ownBlock) (.slice ax aj.length ay) aj)∧(Kd.R (Kd.int .u8) 5 w' w.heap.size (fun k_=>some k_≠(.slice ax aj.length ay:Value).ownBlock∧some k_≠(s_.2:Value).ownBlock) s_.1 a5)∧(Kd.R (Kd.int .u8) 5 w' w.heap.size (fun k_=>some k_≠(.slice ax aj.length ay:Value).ownBlock∧some k_≠(s_.1:Value).ownBlock) s_.2 aw)∧(w'.heap[ae]? =some (.cells #[.int .i64 O,.int .i64 J,.slice ah Z.length ai] 24 (0,0)))∧(w'.heap[ab]? =some (.cells #[.int .i64 O,.int .i64 (wrap64 (J+1)),.slice au I.length av] 24 (0,0)))∧(Below w.heap.size w w')) ?_ ?_;rotate_left
           ·intro hCont;refine two_ (i:=3) (j:=8) (Ni:=some 46) (Nj:=some 51) (mB 12 255) (mB 12 503) rfl rfl rfl rfl (two_of HT_.out zb) zc zc (fun K hK=>?_) (fun K hK=>?_)
            ·skip
             refine Kd.R_append_rows_step (Kd.int .u8) (w0:=w) w.heap.size ze (.tmp 44) (.tmp 45) 22 5 (.int .u8 0) 1 rfl Tryd.underlying22 info5 rfl zc za (.slice au I.length av) I aj _ _ _ (fun k_=>some k_≠(.slice ax aj.length ay:Value).ownBlock) (fun _=>False) rfl rfl ?aO ?aR (fun _ _ h=>h) (fun _ h=>h.elim) ?aF ?aB ?aS ?aL ?_
             (case aR=>exact kcA (Kd.R_reads' U.out).2.2)
             (case aB=>exact(hbA HB.out))
             (case aF=>exact(fun k_ hk=>Kd.fresh' (Kd.R_lt (kdA U.out)) k_ hk))
             (case aO=>exact(by(with_reducible repeat(first|apply Kd.R_alloc|apply Kd.R_drewN|apply Kd.R_drew));exact Kd.R_mono HO_443002.out (fun _ hk=>hk.2)))
             (case aS=>exact(below_size (hbA HB.out)))
             (case aL=>have:=dd.out;omega)
             intro a6 gt ho hb hg hat;rw[←de.out]at ho
             have n0_:=aK (blk_grown (g:=ae) (o:= .cells #[.int .i64 O,.int .i64 J,.slice ah Z.length ai] 24 (0,0)) (bkA D.out) hg (Kd.R_ne HO_443002.out D.out zc));have n1_:=aK (blk_grown (g:=ab) (o:= .cells #[.int .i64 O,.int .i64 (wrap64 (J+1)),.slice au I.length av] 24 (0,0)) (bkA G.out) hg (Kd.R_ne HO_443002.out G.out zc));have n2_:=aK (Kd.R_after (ok:=(fun _=>True)) (kdA U.out) hg hat);have n3_:=aK (hb);have n4_:=aK (ho);clear D;clear G;clear U;clear HB;clear HO_443002;have D:=n0_;have G:=n1_;have U:=n2_;have HB:=n3_;have ak:=n4_;clear n0_ n1_ n2_ n3_ n4_;clear ho hb hg hat;refine hK.out _ _ ⟨(blk_cell G.out 0).trans rfl,(blk_cell G.out 1).trans rfl,(blk_cell G.out 2).trans rfl,((HB.out.cell (World.block_lt_of_cell? w _ ac)).trans ac)⟩ (fun hHeld=>?_);clear hK K;refine znm (some 46) ?_;refine zoh 8 (some 51) (mB 12 511) HT_ fun K hK=>?_;refine Kd.R_lit_step (Kd.int .u8) _ 5 ?hg (N:=51) ?hd (xs:=([rd l1 X]:List Int)) (inner:= [.int .u8 (rd l1 X)]) (ok:=fun _=>True) (okp:=fun _=>True) ?hr ?hp (fun _ hk=>hk) trivial (Below.refl _ _) (Nat.le_refl _) zd ?_;(case hd=>rfl);(case hg=>rfl);(case hr=>first|(go_simp;done)|(go_simp;rfl));(case hp=>exact(Reps.one (show Kd.M (Kd.int .u8) _ _ _ (rd l1 X) [.int .u8 (rd l1 X)]from rfl) (Reps.none _ _)))
             intro a4 ir bh hb hg_ hnew_;clear hg_ hnew_
             (first|rw[←br.out]at bh|(simp only[Int.reduceToNat]at bh;rw[←br.out]at bh))
             have ag:=aK (Kd.R_lower (Kd.R_new' (Kd.R_new' bh (Kd.R_lt (kdA U.out))) (Kd.R_lt (kdA ak.out))) (below_size (hbA HB.out)));replace U:=aK (Kd.R_elder' (kdA U.out) (Kd.R_base bh) hb);replace ak:=aK (Kd.R_elder' (kdA ak.out) (Kd.R_base bh) hb);replace D:=bkB D hb;replace G:=bkB G hb;replace HB:=hbB HB hb;clear hb bh;refine hK.out _ _ ⟨(blk_cell G.out 0).trans rfl,(blk_cell G.out 1).trans rfl,(blk_cell G.out 2).trans rfl,((HB.out.cell (World.block_lt_of_cell? w _ ac)).trans ac)⟩ (fun hHeld=>?_);clear hK K;refine znm (some 51) ?_;exact norm_ zi (hCont (a6,a4) _ ⟨hHeld,(by(with_reducible repeat(first|apply Kd.R_alloc|apply Kd.R_drewN|apply Kd.R_drew));exact Kd.R_mono U.out (fun _ hk=>⟨hk.1.2,hk.2⟩)),(kdA ak.out),(by(with_reducible repeat(first|apply Kd.R_alloc|apply Kd.R_drewN|apply Kd.R_drew));exact Kd.R_mono ag.out (fun _ hk=>⟨hk.1.2,hk.2⟩)),(bkA D.out),(bkA G.out),(hbA HB.out)⟩)
            ·skip
             refine Kd.R_lit_step (Kd.int .u8) _ 5 ?hg (N:=51) ?hd (xs:=([rd l1 X]:List Int)) (inner:= [.int .u8 (rd l1 X)]) (ok:=fun _=>True) (okp:=fun _=>True) ?hr ?hp (fun _ hk=>hk) trivial (Below.refl _ _) (Nat.le_refl _) zd ?_;(case hd=>rfl);(case hg=>rfl);(case hr=>first|(go_simp;done)|(go_simp;rfl));(case hp=>exact(Reps.one (show Kd.M (Kd.int .u8) _ _ _ (rd l1 X) [.int .u8 (rd l1 X)]from rfl) (Reps.none _ _)))
             intro a4 gt bg hb hg_ hnew_;clear hg_ hnew_
             (first|rw[←br.out]at bg|(simp only[Int.reduceToNat]at bg;rw[←br.out]at bg))
             have ag:=aK (Kd.R_lower (Kd.R_new' (Kd.R_new' bg (Kd.R_lt (kdA HO_443002.out))) (Kd.R_lt (kdA U.out))) (below_size (hbA HB.out)));replace HO_443002:=aK (Kd.R_elder' (kdA HO_443002.out) (Kd.R_base bg) hb);replace U:=aK (Kd.R_elder' (kdA U.out) (Kd.R_base bg) hb);replace D:=bkB D hb;replace G:=bkB G hb;replace HB:=hbB HB hb;clear hb bg;refine hK.out _ _ ⟨(blk_cell G.out 0).trans rfl,(blk_cell G.out 1).trans rfl,(blk_cell G.out 2).trans rfl,((HB.out.cell (World.block_lt_of_cell? w _ ac)).trans ac)⟩ (fun hHeld=>?_);clear hK K;refine znm (some 51) ?_;refine zoh 3 (some 46) (mB 12 511) HT_ fun K hK=>?_;refine Kd.R_append_rows_step (Kd.int .u8) (w0:=w) w.heap.size ze (.tmp 44) (.tmp 45) 22 5 (.int .u8 0) 1 rfl Tryd.underlying22 info5 rfl zc za (.slice au I.length av) I aj _ _ _ (fun k_=>some k_≠(.slice ax aj.length ay:Value).ownBlock∧some k_≠(a4:Value).ownBlock) (fun _=>False) rfl rfl ?aO ?aR (fun _ _ h=>h) (fun _ h=>h.elim) ?aF ?aB ?aS ?aL ?_
             (case aR=>exact kcA (Kd.R_reads' U.out).2.2)
             (case aB=>exact(hbA HB.out))
             (case aF=>exact(fun k_ hk=>⟨Kd.fresh' (Kd.R_lt (kdA U.out)) k_ hk,Kd.fresh' (Kd.R_lt (kdA ag.out)) k_ hk⟩))
             (case aO=>exact(by(with_reducible repeat(first|apply Kd.R_alloc|apply Kd.R_drewN|apply Kd.R_drew));exact Kd.R_mono HO_443002.out (fun _ hk=>⟨hk.1.2,hk.2⟩)))
             (case aS=>exact(below_size (hbA HB.out)))
             (case aL=>have:=dd.out;omega)
             intro a6 it ho hb hg hat;rw[←de.out]at ho
             have n0_:=aK (blk_grown (g:=ae) (o:= .cells #[.int .i64 O,.int .i64 J,.slice ah Z.length ai] 24 (0,0)) (bkA D.out) hg (Kd.R_ne HO_443002.out D.out zc));have n1_:=aK (blk_grown (g:=ab) (o:= .cells #[.int .i64 O,.int .i64 (wrap64 (J+1)),.slice au I.length av] 24 (0,0)) (bkA G.out) hg (Kd.R_ne HO_443002.out G.out zc));have n2_:=aK (Kd.R_after (ok:=(fun k_=>some k_≠(a4:Value).ownBlock)) (by(with_reducible repeat(first|apply Kd.R_alloc|apply Kd.R_drewN|apply Kd.R_drew));exact Kd.R_mono U.out (fun _ hk=>⟨hk.2,hk.1.2⟩)) hg hat);have n3_:=aK (Kd.R_after (ok:=(fun k_=>some k_≠(.slice ax aj.length ay:Value).ownBlock)) (by(with_reducible repeat(first|apply Kd.R_alloc|apply Kd.R_drewN|apply Kd.R_drew));exact Kd.R_mono ag.out (fun _ hk=>⟨hk.2,hk.1.2⟩)) hg hat);have n4_:=aK (hb);have n5_:=aK (ho);clear D;clear G;clear U;clear ag;clear HB;clear HO_443002;have D:=n0_;have G:=n1_;have U:=n2_;have ag:=n3_;have HB:=n4_;have ak:=n5_;clear n0_ n1_ n2_ n3_ n4_ n5_;clear ho hb hg hat;refine hK.out _ _ ⟨(blk_cell G.out 0).trans rfl,(blk_cell G.out 1).trans rfl,(blk_cell G.out 2).trans rfl,((HB.out.cell (World.block_lt_of_cell? w _ ac)).trans ac)⟩ (fun hHeld=>?_);clear hK K;refine znm (some 46) ?_;exact norm_ zi (hCont (a6,a4) _ ⟨hHeld,(by(with_reducible repeat(first|apply Kd.R_alloc|apply Kd.R_drewN|apply Kd.R_drew));exact Kd.R_mono U.out (fun _ hk=>⟨hk.2,hk.1⟩)),(kdA ak.out),(kdA ag.out),(bkA D.out),(bkA G.out),(hbA HB.out)⟩)
           rintro⟨a6,a4⟩ bp ⟨hS_,h0_,h1_,h2_,h3_,h4_,h5_⟩;have n0_:Aside0 (Kd.R (Kd.int .u8) 5 bp w.heap.size (fun k_=>some k_≠(a6:Value).ownBlock∧some k_≠(a4:Value).ownBlock) (.slice ax aj.length ay) aj):=⟨h0_⟩
           have n1_:Aside0 (Kd.R (Kd.int .u8) 5 bp w.heap.size (fun k_=>some k_≠(.slice ax aj.length ay:Value).ownBlock∧some k_≠(a4:Value).ownBlock) a6 a5):=⟨h1_⟩
           have n2_:Aside0 (Kd.R (Kd.int .u8) 5 bp w.heap.size (fun k_=>some k_≠(.slice ax aj.length ay:Value).ownBlock∧some k_≠(a6:Value).ownBlock) a4 aw):=⟨h2_⟩
           have n3_:Aside0 (bp.heap[ae]? =some (.cells #[.int .i64 O,.int .i64 J,.slice ah Z.length ai] 24 (0,0))):=⟨h3_⟩
           have n4_:Aside0 (bp.heap[ab]? =some (.cells #[.int .i64 O,.int .i64 (wrap64 (J+1)),.slice au I.length av] 24 (0,0))):=⟨h4_⟩
           have n5_:Aside0 (Below w.heap.size w bp):=⟨h5_⟩
           clear HO_443002;clear U;clear D;clear G;clear HB;clear h0_ h1_ h2_ h3_ h4_ h5_;have U:=n0_;have ak:=n1_;have ag:=n2_;have D:=n3_;have G:=n4_;have HB:=n5_;clear n0_ n1_ n2_ n3_ n4_ n5_;have hHeld:bp.cell? ⟨ab,0,none⟩=some (.int .i64 O)∧bp.cell? ⟨ab,1,none⟩=some (.int .i64 (wrap64 (J+1)))∧bp.cell? ⟨ab,2,none⟩=some (.slice au I.length av)∧bp.cell? (cr.add (X).toNat)=some (.int .u8 (rd l1 X)):=hS_;obtain⟨et,ew,ey⟩:=Kd.R_slice ag.out
           (first|subst ey|(injection ey with f1_ f2_ f3_;have f4_:=f1_.symm;have f5_:=f3_.symm;clear f1_ f2_ f3_;subst f4_;subst f5_))
           refine znq ?_;refine zoh 9 (some 52) (mB 12 1023) HT_ fun K hK=>?_;refine Kd.R_append_rows_step (Kd.int .u8) (w0:=w) w.heap.size ze (.tmp 46) (.tmp 51) 22 5 (.int .u8 0) 1 rfl Tryd.underlying22 info5 rfl zc za a6 a5 aw _ _ _ (fun k_=>some k_≠(.slice ax aj.length ay:Value).ownBlock∧some k_≠(.slice et aw.length ew:Value).ownBlock) (fun _=>False) rfl rfl ?aO ?aR (fun _ _ h=>h) (fun _ h=>h.elim) ?aF ?aB ?aS ?aL ?_
           (case aR=>exact kcA (Kd.R_reads' ag.out).2.2)
           (case aB=>exact(hbA HB.out))
           (case aF=>exact(fun k_ hk=>⟨Kd.fresh' (Kd.R_lt (kdA U.out)) k_ hk,Kd.fresh' (Kd.R_lt (kdA ag.out)) k_ hk⟩))
           (case aO=>exact(kdA ak.out))
           (case aS=>exact(below_size (hbA HB.out)))
           (case aL=>have:=e9.out;omega)
           intro g9 gu ho hb hg hat;rw[←fa.out]at ho
           have n0_:=aK (blk_grown (g:=ae) (o:= .cells #[.int .i64 O,.int .i64 J,.slice ah Z.length ai] 24 (0,0)) (bkA D.out) hg (Kd.R_ne ak.out D.out zc));have n1_:=aK (blk_grown (g:=ab) (o:= .cells #[.int .i64 O,.int .i64 (wrap64 (J+1)),.slice au I.length av] 24 (0,0)) (bkA G.out) hg (Kd.R_ne ak.out G.out zc));have n2_:=aK (Kd.R_after (ok:=(fun k_=>some k_≠(.slice et aw.length ew:Value).ownBlock)) (by(with_reducible repeat(first|apply Kd.R_alloc|apply Kd.R_drewN|apply Kd.R_drew));exact Kd.R_mono U.out (fun _ hk=>⟨hk.2,hk.1⟩)) hg hat);have n3_:=aK (Kd.R_after (ok:=(fun k_=>some k_≠(.slice ax aj.length ay:Value).ownBlock)) (kdA ag.out) hg hat);have n4_:=aK (hb);have n5_:=aK (ho);clear D;clear G;clear U;clear ag;clear HB;clear ak;have D:=n0_;have G:=n1_;have U:=n2_;have ag:=n3_;have HB:=n4_;have db:=n5_;clear n0_ n1_ n2_ n3_ n4_ n5_;clear ho hb hg hat;obtain⟨eu,ex,ez⟩:=Kd.R_slice db.out
           (first|subst ez|(injection ez with f1_ f2_ f3_;have f4_:=f1_.symm;have f5_:=f3_.symm;clear f1_ f2_ f3_;subst f4_;subst f5_))
           refine hK.out _ _ ⟨(blk_cell G.out 0).trans rfl,(blk_cell G.out 1).trans rfl,(blk_cell G.out 2).trans rfl,((HB.out.cell (World.block_lt_of_cell? w _ ac)).trans ac)⟩ (fun hHeld=>?_);clear hK K;refine znm (some 52) ?_;refine pu 10 (some 53) (mB 12 2047) HT_ ?_;refine zlh 11 (none) (mB 12 4095) HT_ fun K hK=>?_;have g5:gu.cell? ⟨ab,2,none⟩=some (.slice au I.length av):=(blk_cell G.out 2).trans rfl;have gc:=blk_frozen G.out 2;have fv:=af.out;have fu:=aq.out;refine zsk ?_;refine hK.out _ _ ?_;clear hK K;refine done_ (done_of HT_.out zb) ?_
           try go_wp2
           go_roundg k2
           case measure=>have:=en.out;have:=eo.out;omega
           case rel=>exact⟨(wrap64 (X+1)),(cx),(.slice eu cx.length ex),rsE,H',⟨by have:=en.out;have:=eo.out;omega⟩,⟨by(with_reducible repeat(first|apply Kd.R_alloc|apply Kd.R_drewN|apply Kd.R_drew));exact Kd.R_mono (Kd.R_far (p:=⟨ab,2,none⟩) (Kd.R_types db.out G.out zc) (fun _ hk=>hk.2) (.slice eu cx.length ex)) (fun _ hk=>trivial)⟩,⟨by refine bkR ?_;refine blk_far ?_ af.out _;refine bkR ?_;exact D.out⟩,⟨by refine bkR ?_;refine blk_put (cs:= #[.int .i64 O,.int .i64 (wrap64 (J+1)),.slice au I.length av]) ?_ 2 _ rfl;refine bkR ?_;exact G.out⟩,⟨hbA HB.out⟩⟩
          ·rw[if_neg dj]at H
           exact absurd H zd
         ·rw[if_neg di]at H
          exact absurd H zd
        ·rw[if_neg dh]at H
         exact absurd H zd
       ·rw[if_neg dg]at H
        exact absurd H zd
      ·rw[if_neg ct]at H
       have c17b0:decide (X<O)=false:=decide_eq_false ct;clear ct;obtain⟨⟨am,ao,al,aa⟩,f4,H⟩:=bindO H
       (try dsimp only at H)
       by_cases cz:0≤J
       ·rw[if_pos cz]at H
        have c38b0:=eq_true cz;have c38b1:decide (0≤J)=true:=decide_eq_true cz;clear cz;by_cases c5:(J:Int).toNat≤281474976710656
        ·rw[if_pos c5]at H
         have c39b0:=eq_true c5;have c39b1:decide ((J:Int).toNat≤281474976710656)=true:=decide_eq_true c5;clear c5;obtain⟨e3,bl⟩: ∃y_:List Int,y_=(List.replicate (J:Int).toNat 0):=⟨_,rfl⟩
         replace H:(recoupref04_Solve.l1 k2 aa e3 0 O J Z am ao al)=some (r1,r2,r3):=by first|(rw[bl];with_reducible exact H)|(have H2_:=(Option.bind_some _ _).symm.trans H;rw[bl];with_reducible exact H2_)|(have H2_:=(Option.bind_some _ _).symm.trans H;with_reducible exact H2_)|with_reducible exact H|(rw[bl];exact H)|exact H
         have df:=aK bl;clear bl;have H':=aK H;clear H;have gg:=af.out;have gm:=aq.out;obtain⟨dr,dt,du,d7,d8,d9⟩:=cell3 D;obtain⟨dv,dw,dx,ea,eb,ec⟩:=cell3 G;obtain⟨b6,b7,fl⟩:=Kd.R_slice HO_443002.out;subst fl
         go_wp2_with (first|((with_reducible refine gC 95 rfl ?_);refine cG (some 56) Tryd.func95 #[.agg #[.int .i64 O,.int .i64 (wrap64 (J+1)),.slice b6 I.length b7]] ?_;(with_reducible refine(recoupref04_wide.calls k2 O (wrap64 (J+1)) (fun k_=>some k_=(.slice b6 I.length b7:Value).ownBlock) (.slice b6 I.length b7) I am ao al aa w _ ?side1 ?side2 f4.out).mono ?_);(case side1=>repeat(first|(with_reducible first|exact HB.out|apply below_alloc|apply pw_below_drewN|apply below_drew1|refine below_set ?_ e5.out|refine below_set ?_ e6.out)|exact HB.out));(case side2=>exact Kd.R_tight rfl HO_443002.out);rintro e iu ⟨ia,f0,rfl,da,fw,hb,hkp⟩;refine⟨_,rfl,?_⟩;have n0_:=aK (blk_kept (bkA D.out) hkp (fun hs_=>(fun e_=>(Kd.R_ne HO_443002.out D.out zc) e_) hs_));have n1_:=aK (blk_kept (bkA G.out) hkp (fun hs_=>(fun e_=>(Kd.R_ne HO_443002.out G.out zc) e_) hs_));have n2_:=aK (Kd.R_mono (ok':=fun k_=>True) da (fun k_ hk_=>trivial));have n3_:=aK (Kd.R_mono (ok':=fun k_=>True) fw (fun k_ hk_=>trivial));have n4_:=aK (hb);clear D;clear G;clear HB;clear HO_443002;have D:=n0_;have G:=n1_;have a0:=n2_;have a7:=n3_;have HB:=n4_;clear n0_ n1_ n2_ n3_ n4_;(try clear hb);(try clear hkp);(try clear da);(try clear fw))|((with_reducible refine gD 11 rfl ?_);(try(refine gate_guard ze ?_;dsimp only));refine bE 11 #[.int .i64 0,.int .i64 0,.slice none 0 0] 24 ?_;intro a9 hg iv hbox hb;replace a0:=kdB a0 hb;replace a7:=kdB a7 hb;have Y:=aK (hbox);have f9:=hbS HB hg;have f6:=hbS HB hg;replace HB:=hbB HB hb;have ap:=neL D hg;have cp:=neG D hg;replace D:=bkB D hb;have ar:=neL G hg;have cq:=neG G hg;replace G:=bkB G hb;clear hb hbox hg;have gh:=cp.out;have gn:=ap.out;have gi:=cq.out;have gp:=ar.out;obtain⟨dy,dz,d0,ed,ee,ef⟩:=cell3 Y;obtain⟨a2,a3,fm⟩:=Kd.R_slice a0.out;subst fm;obtain⟨d1,d2,d3,eg,eh,ei⟩:=cell3 D)|((with_reducible refine gate_dst (N:=61) rfl ?_);(try(refine gate_guard ze ?_;dsimp only));refine Kd.R_make (Kd.int .u8) _ 5 rfl (N:=61) rfl 22 _ _ rfl J rfl rfl Tryd.underlying22 (.int .u8 0) 1 info5 rfl zc za 0 (ok:=fun _=>True) (okp:=fun _=>True) rfl (fun _ hk=>hk) trivial (of_decide_eq_true asE) (Nat.le_trans (Nat.mul_le_mul_right _ (of_decide_eq_true asE:J.toNat≤281474976710656)) za) (Below.refl _ _) (Nat.le_refl _) ?_;intro e2 iw bq hb hg_ hnew_;clear hg_ hnew_;(first|rw[←df.out]at bq|(simp only[Int.reduceToNat]at bq;rw[←df.out]at bq));replace a7:=aK (Kd.R_below (by(with_reducible repeat(first|apply Kd.R_alloc|apply Kd.R_drewN|apply Kd.R_drew));exact(zF a7.out Y.out  (.int .i64 am)  (.int .i64 ao)  (.slice a2 al.length a3))) hb);have e8:=aK (Kd.R_lower (Kd.R_new' bq (Kd.R_lt (by(with_reducible repeat(first|apply Kd.R_alloc|apply Kd.R_drewN|apply Kd.R_drew));exact(zF a0.out Y.out  (.int .i64 am)  (.int .i64 ao)  (.slice a2 al.length a3))))) (below_size (hbA HB.out)));replace a0:=aK (Kd.R_elder' (by(with_reducible repeat(first|apply Kd.R_alloc|apply Kd.R_drewN|apply Kd.R_drew));exact(zF a0.out Y.out  (.int .i64 am)  (.int .i64 ao)  (.slice a2 al.length a3))) (Kd.R_base bq) hb);replace D:=aK (blk_below (g:=ae) (o:= .cells #[.int .i64 O,.int .i64 J,.slice ah Z.length ai] 24 (0,0)) (by refine bkR ?_;refine blk_far ?_ ap.out _;refine bkR ?_;refine blk_far ?_ ap.out _;refine bkR ?_;refine blk_far ?_ ap.out _;refine bkR ?_;exact D.out) hb);replace G:=aK (blk_below (g:=ab) (o:= .cells #[.int .i64 O,.int .i64 (wrap64 (J+1)),.slice b6 I.length b7] 24 (0,0)) (by refine bkR ?_;refine blk_far ?_ ar.out _;refine bkR ?_;refine blk_far ?_ ar.out _;refine bkR ?_;refine blk_far ?_ ar.out _;refine bkR ?_;exact G.out) hb);replace Y:=aK (blk_below (g:=a9) (o:= .cells #[.int .i64 am,.int .i64 ao,.slice a2 al.length a3] 24 (0,0)) (by refine bkR ?_;refine blk_put (cs:= #[.int .i64 am,.int .i64 ao,.slice none 0 0]) ?_ 2 _ rfl;refine bkR ?_;refine blk_put (cs:= #[.int .i64 am,.int .i64 0,.slice none 0 0]) ?_ 1 _ rfl;refine bkR ?_;refine blk_put (cs:= #[.int .i64 0,.int .i64 0,.slice none 0 0]) ?_ 0 _ rfl;refine bkR ?_;exact Y.out) hb);replace HB:=hbB HB hb;clear hb bq))
         go_loopg [14] k2 (fun kq gq w'=> ∃(a1:List Int) (L:Int),gq= .int .i64 L∧Aside0 (recoupref04_Solve.l1 kq aa a1 L O J Z am ao al=some (r1,r2,r3))∧Aside0 (kq≤k2)∧Aside0 (Kd.R (Kd.int .i64) 3 w' w.heap.size (fun _=>True) f0 aa)∧Aside0 (Kd.R (Kd.int .u8) 5 w' w.heap.size (fun k_=>some k_≠((.slice a2 al.length a3):Value).ownBlock) e2 a1)∧Aside0 (Kd.R (Kd.int .u8) 5 w' w.heap.size (fun k_=>some k_≠(e2:Value).ownBlock) (.slice a2 al.length a3) al)∧Aside0 (w'.heap[ae]? =some (.cells #[.int .i64 O,.int .i64 J,(.slice ah Z.length ai)] 24 (0,0)))∧Aside0 (w'.heap[ab]? =some (.cells #[.int .i64 O,.int .i64 (wrap64 (J+1)),(.slice b6 I.length b7)] 24 (0,0)))∧Aside0 (w'.heap[a9]? =some (.cells #[.int .i64 am,.int .i64 ao,(.slice a2 al.length a3)] 24 (0,0)))∧Aside0 (Below w.heap.size w w'))
         case atStart=>exact⟨(e3),(0),rsE,H',⟨Nat.le_refl _⟩,⟨kdA a7.out⟩,⟨by(with_reducible repeat(first|apply Kd.R_alloc|apply Kd.R_drewN|apply Kd.R_drew));exact Kd.R_mono e8.out (fun _ hk=>hk.2)⟩,⟨by(with_reducible repeat(first|apply Kd.R_alloc|apply Kd.R_drewN|apply Kd.R_drew));exact Kd.R_mono a0.out (fun _ hk=>hk.2)⟩,⟨bkA D.out⟩,⟨bkA G.out⟩,⟨bkA Y.out⟩,⟨hbA HB.out⟩⟩
         case round=>
          clear H'
          (try clear c1);(try clear c2);(try clear p2 p2);(try clear c3);(try clear c4);(try clear p4);(try clear q4);(try clear il);(try clear c6);(try clear p6 p6);(try clear c7);(try clear c9);(try clear cy);(try clear gb);(try clear ct);(try clear c17b0);(try clear dg);(try clear dh);(try clear c20b0);(try clear di);(try clear c21b0);(try clear dj);(try clear ic);(try clear cz);(try clear c38b0);(try clear c38b1);(try clear c5);(try clear c39b0);(try clear c39b1);(try clear ie);(try clear ig);(try clear p45);(try clear im);(try clear g7);(try clear ii);(try clear ij);(try clear ba bb bc bd be bf);(try clear b8 b9 ca cf cg ch);(try clear cb cd ce ci cj ck);(try clear dn dp dq d4 d5 d6);(try clear dr dt du d7 d8 d9);(try clear dv dw dx ea eb ec);(try clear dy dz d0 ed ee ef);(try clear d1 d2 d3 eg eh ei);(try clear bs bt bu bz b0 b1);(try clear bv bw bx b2 b3 b4);(try clear an);(try clear cv);(try clear cw)
          obtain⟨a1,L,rfl,HA,ff,HO_12,HO_13,HO_466002,D,G,Y,HB⟩:=hrel
          cases gk with
          |zero=>exact absurd HA.out (by simp[recoupref04_Solve.l1])
          |succ k3=>
           have H:=HA.out;clear HA;simp only[recoupref04_Solve.l1]at H;by_cases c8:L<(aa.length:Int)
           ·rw[if_pos c8]at H
            have c53b0:decide (L<(aa.length:Int))=true:=decide_eq_true c8;clear c8;by_cases ep:0≤L
            ·rw[if_pos ep]at H
             have c54b0:decide (0≤L)=true:=decide_eq_true ep;clear ep;by_cases cu:(rd aa L)=J
             ·rw[if_pos cu]at H
              have c55b0:((rd aa L)==J)=true:=beq_iff_eq.mpr cu;have c55b1:((rd aa L)!=J)=false:=bne_eq_false_iff_eq.mpr cu;clear cu;simp only[Option.some.injEq,Prod.mk.injEq]at H;obtain⟨rfl,rfl,rfl⟩:=H;obtain⟨gw,g1,fo⟩:=Kd.R_slice HO_12.out;subst fo
              try go_wp2
              replace HO_12:=aK (Kd.R_drew HO_12.out);replace HO_13:=aK (Kd.R_drew HO_13.out);replace HO_466002:=aK (Kd.R_drew HO_466002.out);replace D:=aK (blk_drew D.out);replace G:=aK (blk_drew G.out);replace Y:=aK (blk_drew Y.out);replace HB:=aK (below_drew1 HB.out);have bn:0≤(L:Int):=of_decide_eq_true asE;have bo:L<(aa.length:Int):=of_decide_eq_true asE;obtain⟨a8,dk,az⟩:=Kd.at_int (Kd.R_reads' HO_12.out).2.2 L bn bo
              cases dk
              replace bn:=eq_true bn;replace bo:=eq_true bo;refine start_ (n:=7) (S:=fun w'=>w'.cell? ⟨ae,0,none⟩=some (.int .i64 O)∧w'.cell? ⟨ae,1,none⟩=some (.int .i64 J)∧w'.cell? ⟨ae,2,none⟩=some (.slice ah Z.length ai)∧w'.cell? (a8.add (L).toNat)=some (.int .i64 (rd aa L))) (ds:= []) (.replicate 7 false) zb rfl rfl ⟨(blk_cell D.out 0).trans rfl,(blk_cell D.out 1).trans rfl,(blk_cell D.out 2).trans rfl,az⟩ (fun hHeld=>?_);generalize wr.drew=ix at HO_12 HO_13 HO_466002 D G Y HB az hHeld⊢;refine zpu 0 (some 68) (mB 7 1) ?_;refine zpu 1 (some 69) (mB 7 3) ?_;refine zpu 2 (some 70) (mB 7 7) ?_;refine zpu 4 (some 72) (mB 7 23) ?_;refine ztk4 3 (some 71) (mB 7 31) hHeld ?_;refine ztk4 5 (some 73) (mB 7 63) hHeld ?_;refine zpu 6 (some 74) (mB 7 127) ?_;refine done_ zb ?_
              try go_wp2
              go_ret3
              exact⟨_,rfE,nilE,hbA HB.out⟩
             ·rw[if_neg cu]at H
              have c55b0:((rd aa L)==J)=false:=beq_eq_false_iff_ne.mpr cu;have c55b1:((rd aa L)!=J)=true:=bne_iff_ne.mpr cu;obtain⟨cm,f5,H⟩:=bindO H
              (try dsimp only at H)
              by_cases er:0≤(rd aa L)
              ·rw[if_pos er]at H
               have c59b0:decide (0≤(rd aa L))=true:=decide_eq_true er;clear er;by_cases es:(rd aa L)<(a1.length:Int)
               ·rw[if_pos es]at H
                have c60b0:decide ((rd aa L)<(a1.length:Int))=true:=decide_eq_true es;clear es;obtain⟨e4,bm⟩: ∃y_:List Int,y_=(a1.set ((rd aa L):Int).toNat cm):=⟨_,rfl⟩
                replace H:(recoupref04_Solve.l1 k3 aa e4 (wrap64 (L+1)) O J Z am ao al)=some (r1,r2,r3):=by first|(rw[bm];with_reducible exact H)|(have H2_:=(Option.bind_some _ _).symm.trans H;rw[bm];with_reducible exact H2_)|(have H2_:=(Option.bind_some _ _).symm.trans H;with_reducible exact H2_)|with_reducible exact H|(rw[bm];exact H)|exact H
                have fb:=aK bm;clear bm;have H':=aK H;clear H;obtain⟨gx,g3,fp⟩:=Kd.R_slice HO_12.out;subst fp
                try go_wp2
                replace HO_12:=aK (Kd.R_drew HO_12.out);replace HO_13:=aK (Kd.R_drew HO_13.out);replace HO_466002:=aK (Kd.R_drew HO_466002.out);replace D:=aK (blk_drew D.out);replace G:=aK (blk_drew G.out);replace Y:=aK (blk_drew Y.out);replace HB:=aK (below_drew1 HB.out);have bn:0≤(L:Int):=of_decide_eq_true asE;have bo:L<(aa.length:Int):=of_decide_eq_true asE;obtain⟨a8,dk,az⟩:=Kd.at_int (Kd.R_reads' HO_12.out).2.2 L bn bo
                cases dk
                replace bn:=eq_true bn;replace bo:=eq_true bo;refine start_ (n:=7) (S:=fun w'=>w'.cell? ⟨ae,0,none⟩=some (.int .i64 O)∧w'.cell? ⟨ae,1,none⟩=some (.int .i64 J)∧w'.cell? ⟨ae,2,none⟩=some (.slice ah Z.length ai)∧w'.cell? (a8.add (L).toNat)=some (.int .i64 (rd aa L))) (ds:= []) (.replicate 7 false) zb rfl rfl ⟨(blk_cell D.out 0).trans rfl,(blk_cell D.out 1).trans rfl,(blk_cell D.out 2).trans rfl,az⟩ (fun hHeld=>?_);generalize wr.drew=gv at HO_12 HO_13 HO_466002 D G Y HB az hHeld⊢;refine zpu 0 (some 68) (mB 7 1) ?_;refine zpu 1 (some 69) (mB 7 3) ?_;refine zpu 2 (some 70) (mB 7 7) ?_;refine zpu 4 (some 72) (mB 7 23) ?_;refine ztk4 3 (some 71) (mB 7 31) hHeld ?_;refine ztk4 5 (some 73) (mB 7 63) hHeld ?_;refine zpu 6 (some 74) (mB 7 127) ?_;refine done_ zb ?_
                try go_wp2
                replace HO_12:=aK (Kd.R_drew HO_12.out);replace HO_13:=aK (Kd.R_drew HO_13.out);replace HO_466002:=aK (Kd.R_drew HO_466002.out);replace D:=aK (blk_drew D.out);replace G:=aK (blk_drew G.out);replace Y:=aK (blk_drew Y.out);replace HB:=aK (below_drew1 HB.out);have ek:0≤(L:Int):=of_decide_eq_true asE;have el:L<(aa.length:Int):=of_decide_eq_true asE;obtain⟨fc,fi,cl⟩:=Kd.at_int (Kd.R_reads' HO_12.out).2.2 L ek el;obtain rfl:a8=fc:=(by injection fi)
                replace ek:=eq_true ek;replace el:=eq_true el;refine start_ (n:=12) (S:=fun w'=>w'.cell? ⟨a9,0,none⟩=some (.int .i64 am)∧w'.cell? ⟨a9,1,none⟩=some (.int .i64 ao)∧w'.cell? ⟨a9,2,none⟩=some (.slice a2 al.length a3)∧w'.cell? ⟨ae,0,none⟩=some (.int .i64 O)∧w'.cell? ⟨ae,1,none⟩=some (.int .i64 J)∧w'.cell? ⟨ae,2,none⟩=some (.slice ah Z.length ai)∧w'.cell? (a8.add (L).toNat)=some (.int .i64 (rd aa L))) (ds:= [11]) (.replicate 12 false) zb rfl rfl ⟨(blk_cell Y.out 0).trans rfl,(blk_cell Y.out 1).trans rfl,(blk_cell Y.out 2).trans rfl,(blk_cell D.out 0).trans rfl,(blk_cell D.out 1).trans rfl,(blk_cell D.out 2).trans rfl,cl⟩ (fun hHeld=>?_);refine with_tabW recoupref04_Solve.tab16 recoupref04_Solve.bits16 (fun HT_ HW_=>?_);generalize gv.drew=w64 at HO_12 HO_13 HO_466002 D G Y HB cl hHeld⊢;refine pu 0 (some 75) (mB 12 1) HT_ ?_;refine pu 1 (some 76) (mB 12 3) HT_ ?_;refine pu 2 (some 77) (mB 12 7) HT_ ?_;refine pu 3 (some 78) (mB 12 15) HT_ ?_;refine pu 6 (some 81) (mB 12 79) HT_ ?_;refine pu 7 (some 82) (mB 12 207) HT_ ?_;refine tk7 4 (some 79) (mB 12 223) HT_ HW_ hHeld ?_;refine tk7 5 (some 80) (mB 12 255) HT_ HW_ hHeld ?_;refine tk7 8 (some 83) (mB 12 511) HT_ HW_ hHeld ?_;refine zoh 9 (some 84) (mB 12 1023) HT_ fun K hK=>?_;refine goes_ Tryd.func49 zb rfl #[.agg #[.int .i64 am,.int .i64 ao,.slice a2 al.length a3],.int .i64 L,.int .i64 J] ze rfl rfl (by(try simp only[List.map_toArray,List.map_cons,List.map_nil]);first|done|rfl|(simp only[List.length_drop,List.length_take];rfl)) ?_;with_reducible refine(recoupref03_At.calls am ao _ _ al L J cm _ ?side1 ?side2 f5.out).mono ?_
                (case side1=>exact kcA (Kd.R_reads' HO_466002.out).2.2)
                (case side2=>exact(Kd.R_reads' HO_466002.out).2.1)
                rintro e iy ⟨rfl,hb⟩;have HS6_:=(hb.cell (World.block_lt_of_cell? _ _ (hHeld.2.2.2.2.2.2))).trans (hHeld.2.2.2.2.2.2);refine⟨_,rfl,?_⟩;replace HO_12:=kdB HO_12 hb;replace HO_13:=kdB HO_13 hb;replace HO_466002:=kdB HO_466002 hb;replace D:=bkB D hb;replace G:=bkB G hb;replace Y:=bkB Y hb;replace HB:=hbB HB hb
                (try clear hb)
                (try clear ik)
                (try clear hk)
                (try clear hi)
                have p61:0≤((rd aa L):Int):=of_decide_eq_true asE;have fd:((rd aa L):Int)<((a1.length:Int):Int):=of_decide_eq_true asE;obtain⟨dl,g2,e0,e1,fs,g0,ev⟩:=Kd.R_form HO_13.out za
                (first|cases e0|(injection e0 with ea_ en_ ec_;(first|subst ea_|(injection ea_ with ea_;subst ea_));subst ec_;clear en_))
                have gz:=aK e1;have fe:=aK ev;clear e1 fs ev;obtain⟨f2,f1⟩:=Kd.R_celln 0 HO_13.out ((rd aa L):Int) p61 fd;replace p61:=eq_true p61;replace fd:=eq_true fd;have dc:=Kd.R_putn HO_13.out ((rd aa L):Int) cm;rw[←fb.out]at dc
                have fg:=aK dc;clear dc;refine hK.out _ _ ⟨(blk_cell Y.out 0).trans rfl,(blk_cell Y.out 1).trans rfl,(blk_cell Y.out 2).trans rfl,(blk_cell D.out 0).trans rfl,(blk_cell D.out 1).trans rfl,(blk_cell D.out 2).trans rfl,HS6_⟩ (fun hHeld=>?_);clear hK K;refine znm (some 84) ?_;refine pu 10 (some 85) (mB 12 2047) HT_ ?_;refine zlh 11 (none) (mB 12 4095) HT_ fun K hK=>?_;refine zsk ?_;refine hK.out _ _ ?_;clear hK K;refine done_ (done_of HT_.out zb) ?_
                try go_wp2
                go_roundg k3
                case measure=>have:=en.out;have:=eo.out;have:=ff.out;omega
                case rel=>exact⟨(e4),(wrap64 (L+1)),rsE,H',⟨by have:=en.out;have:=eo.out;have:=ff.out;omega⟩,⟨by(with_reducible repeat(first|apply Kd.R_alloc|apply Kd.R_drewN|apply Kd.R_drew));exact Kd.R_mono (Kd.R_far (p:=⟨dl,((rd aa L):Int).toNat,none⟩) (Kd.R_types HO_12.out fe.out zc) (fun _ hk=>hk.2) (.int .u8 cm)) (fun _ hk=>trivial)⟩,⟨kdA fg.out⟩,⟨by(with_reducible repeat(first|apply Kd.R_alloc|apply Kd.R_drewN|apply Kd.R_drew));exact Kd.R_mono (Kd.R_far (p:=⟨dl,((rd aa L):Int).toNat,none⟩) (Kd.R_mono HO_466002.out (fun k_ hk=>(⟨hk,fun e_=>hk zh⟩:_∧k_≠dl))) (fun _ hk=>hk.2) (.int .u8 cm)) (fun _ hk=>hk.1)⟩,⟨by refine bkR ?_;refine blk_far ?_ (by have h_:=Kd.R_ne HO_13.out D.out zc;intro e_;exact h_ zh) _;refine bkR ?_;exact D.out⟩,⟨by refine bkR ?_;refine blk_far ?_ (by have h_:=Kd.R_ne HO_13.out G.out zc;intro e_;exact h_ zh) _;refine bkR ?_;exact G.out⟩,⟨by refine bkR ?_;refine blk_far ?_ (by have h_:=Kd.R_ne HO_13.out Y.out zc;intro e_;exact h_ zh) _;refine bkR ?_;exact Y.out⟩,⟨hbA HB.out⟩⟩
               ·rw[if_neg es]at H
                exact absurd H zd
              ·rw[if_neg er]at H
               exact absurd H zd
            ·rw[if_neg ep]at H
             exact absurd H zd
           ·rw[if_neg c8]at H
            have c53b0:decide (L<(aa.length:Int))=false:=decide_eq_false c8;clear c8;simp only[Option.some.injEq,Prod.mk.injEq]at H;obtain⟨rfl,rfl,rfl⟩:=H;obtain⟨gy,g4,fq⟩:=Kd.R_slice HO_12.out;subst fq;go_wp2
            go_ret3
            exact⟨_,rfE,by(with_reducible repeat(first|apply Kd.R_alloc|apply Kd.R_drewN|apply Kd.R_drew));exact Kd.R_mono HO_13.out (fun _ hk=>trivial),hbA HB.out⟩
        ·rw[if_neg c5]at H
         exact absurd H zd
       ·rw[if_neg cz]at H
        exact absurd H zd
end Go.Proofs.YtjgcocfnilhggaaDoor.Q
namespace Go.Proofs.YtjgcocfnilhggaaDoor.Q
open Go.RowKit Go.Proofs.YtjgcocfnilhggaaDoorW.PrintWords Go.Proofs.YtjgcocfnilhggaaDoorW.PrintLast Go.Proofs.YtjgcocfnilhggaaDoorW.PrintMore
attribute [local go_sem] max2_int min2_int max_two min_two max_three min_three max_four min_four
set_option linter.unusedVariables false
set_option linter.unusedSimpArgs false
mutual
def recoupref04_Combine.j0:Nat→List Int→Bool→Int→Int→List Int→Option (List Int×Bool×Int)
 |0,_,_,_,_,_=>none
 |k+1,x1,X,D,G,I=>if X=true then(some (([]:List Int),false,3))else((recoupref04_First.f k D G I).bind fun O=>((recoupref03_Pick.f k D G I O.1).bind fun J=>((recoupref03_Transpose.f k J.1 J.2.1 J.2.2.1).bind fun L=>((recoupref04_Solve.f k L.1 L.2.1 L.2.2.1 x1).bind fun U=>(if U.2.1=true then(if 0≤D then(if(D:Int).toNat≤281474976710656 then(recoupref04_Combine.l0 k O.1 U.1 (List.replicate (D:Int).toNat 0) 0)else(none))else(none))else(some (([]:List Int),false,0)))))))
def recoupref04_Combine.l0:Nat→List Int→List Int→List Int→Int→Option (List Int×Bool×Int)
 |0,_,_,_,_=>none
 |k+1,x7,G,I,D=>if D<(x7.length:Int)then(if 0≤D then(if D<(G.length:Int)then(if 0≤(rd x7 D)then(if(rd x7 D)<(I.length:Int)then(recoupref04_Combine.l0 k x7 G (I.set ((rd x7 D):Int).toNat (rd G D)) (wrap64 (D+1)))else(none))else(none))else(none))else(none))else(some (I,true,0))
end
def recoupref04_Combine.f(k:Nat)(G:Int)(D:Int)(I:List Int)(l1:List Int):Option (List Int×Bool×Int):=(recoupref03_Right.f G D I).bind fun J=>(if J=true then(recoupref04_Combine.j0 k l1 ((l1.length:Int)!=D) G D I)else(recoupref04_Combine.j0 k l1 true G D I))
def recoupref04_Combine.T13:Bool×List (List Nat×List Nat):=(true,[([],[]),([],[]),([],[]),([1,2],[1,2]),([3],[3]),([],[]),([],[]),([5,6],[5,6]),([7],[7]),([0,4,0,1,2,3,4,5,6,7,8],[0,4]),([9,8,0,1,2,3,4,5,6,7,8],[8,9])])
def recoupref04_Combine.B13:List Nat:= [0,0,0,6,14,0,0,96,224,511,1023]
theorem recoupref04_Combine.tab13:rtab .any (opsOf Tryd.f44 13)=recoupref04_Combine.T13:=by kernel_rfl
theorem recoupref04_Combine.bits13:waitsOk recoupref04_Combine.T13.2 recoupref04_Combine.B13=true:=by kernel_rfl
set_option maxHeartbeats 8000000 in
set_option maxRecDepth 100000 in
theorem recoupref04_Combine.calls(k:Nat)(U:Int)(ac:Int)(an:Option Addr)(ao:Nat)(Z:List Int)(A1:Option Addr)(c1:Nat)(l1:List Int)(r1:List Int)(r2:Bool)(r3:Int)(w:World)(dd:Kd.C (Kd.int .u8) w an Z.length Z)(b9:Z.length≤ao)(fp:Kd.C (Kd.int .u8) w A1 l1.length l1)(ez:l1.length≤c1)(h:recoupref04_Combine.f k U ac Z l1=some (r1,r2,r3)):
 Calls Tryd.prog 44 #[.agg #[.int .i64 U,.int .i64 ac,.slice an Z.length ao],.slice A1 l1.length c1] w fun e w'=> ∃v0_:Value,e= .returned (.tuple #[v0_,.bool r2,.int .i64 r3])∧Kd.R (Kd.int .u8) 5 w' w.heap.size (fun _=>True) v0_ r1∧Below w.heap.size w w':=by
 have gh:=Tryd.underlying24;have a2:=aK dd;have a1:=aK b9;clear dd b9;have en:=aK fp;have ek:=aK ez;clear fp ez;have HB:=aK (Below.refl w.heap.size w);have H:((recoupref03_Right.f U ac Z).bind fun di=>(if di=true then(recoupref04_Combine.j0 k l1 ((l1.length:Int)!=ac) U ac Z)else(recoupref04_Combine.j0 k l1 true U ac Z)))=some (r1,r2,r3):=h;clear h;have d9:=aK H;clear H
 go_enter Tryd.func44,Tryd.ntmps44
 go_upto_region 1 with(first|((with_reducible refine gD 2 rfl ?_);(try(refine gate_guard ze ?_;dsimp only));refine bE 2 #[.int .i64 U,.int .i64 ac,.slice an Z.length ao] 24 ?_;intro a3 hg w4 hbox hb;have D:=aK (hbox);have fw:=hbS HB hg;have fv:=hbS HB hg;replace HB:=hbB HB hb;clear hb hbox hg))
 (try simp only[Act.put,zL])
 go_cut [27] (fun ga wc=> ∃(kq:Nat) (be:Bool),ga= .bool be∧Aside0 (recoupref04_Combine.j0 kq l1 be U ac Z=some (r1,r2,r3))∧Aside0 (kq≤k)∧Aside0 (wc.heap[a3]? =some (.cells #[.int .i64 U,.int .i64 ac,(.slice an Z.length ao)] 24 (0,0)))∧Aside0 (Below w.heap.size w wc))
 case first=>
  have H:=d9.out;clear d9;obtain⟨di,A5,H⟩:=bindO H
  (try dsimp only at H)
  by_cases c6:di=true
  ·subst c6;rw[if_pos rfl]at H
   have H':=aK H;clear H;obtain⟨bo,bp,bq,bu,bv,bw⟩:=cell3 D
   go_wp2_with (first|((with_reducible refine gC 45 rfl ?_);refine cG (some 19) Tryd.func45 #[.agg #[.int .i64 U,.int .i64 ac,.slice an Z.length ao]] ?_;(with_reducible refine(recoupref03_Right.calls U ac _ _ Z true _ ?side1 ?side2 A5.out).mono ?_);(case side1=>exact kcB a2 HB);(case side2=>exact a1.out);rintro e w8 ⟨rfl,hb⟩;refine⟨_,rfl,?_⟩;replace D:=bkB D hb;replace HB:=hbB HB hb;(try clear hb);obtain⟨br,bs,bt,bx,bz,b0⟩:=cell3 D))
   go_meet
   case rel=>exact⟨_,(((l1.length:Int)!=ac)),rsE,H',⟨leE⟩,⟨bkA D.out⟩,⟨hbA HB.out⟩⟩
  ·replace c6:=Bool.eq_false_iff.mpr c6;subst c6;rw[if_neg nofT]at H
   have H':=aK H;clear H;obtain⟨bf,bg,bh,bi,bj,bk⟩:=cell3 D
   go_wp2_with (first|((with_reducible refine gC 45 rfl ?_);refine cG (some 19) Tryd.func45 #[.agg #[.int .i64 U,.int .i64 ac,.slice an Z.length ao]] ?_;(with_reducible refine(recoupref03_Right.calls U ac _ _ Z false _ ?side1 ?side2 A5.out).mono ?_);(case side1=>exact kcB a2 HB);(case side2=>exact a1.out);rintro e gm ⟨rfl,hb⟩;refine⟨_,rfl,?_⟩;replace D:=bkB D hb;replace HB:=hbB HB hb;(try clear hb)))
   go_meet
   case rel=>exact⟨_,(true),rsE,H',⟨leE⟩,⟨bkA D.out⟩,⟨hbA HB.out⟩⟩
 case rest=>
  clear d9
  (try clear c1);(try clear p2);(try clear c4);(try clear c6);(try clear bf bg bh bi bj bk);(try clear bo bp bq bu bv bw);(try clear br bs bt bx bz b0)
  obtain⟨kq,be,rfl,HA,el,D,HB⟩:=hcut
  cases kq with
  |zero=>exact absurd HA.out (by simp[recoupref04_Combine.j0])
  |succ bc=>
   have H:=HA.out;clear HA;simp only[recoupref04_Combine.j0]at H;by_cases b7:be=true
   ·subst b7;rw[if_pos rfl]at H
    simp only[Option.some.injEq,Prod.mk.injEq]at H;obtain⟨rfl,rfl,rfl⟩:=H;go_wp2
    go_ret3
    exact⟨_,rfE,nilE,hbA HB.out⟩
   ·replace b7:=Bool.eq_false_iff.mpr b7;subst b7;rw[if_neg nofT]at H
    obtain⟨⟨X,dz⟩,ef,H⟩:=bindO H
    (try dsimp only at H)
    obtain⟨⟨ai,ak,aa,d0⟩,eg,H⟩:=bindO H
    (try dsimp only at H)
    obtain⟨⟨ah,aj,ab,d1⟩,eh,H⟩:=bindO H
    (try dsimp only at H)
    obtain⟨⟨am,fq,d2⟩,ei,H⟩:=bindO H
    (try dsimp only at H)
    by_cases b8:fq=true
    ·subst b8;rw[if_pos rfl]at H
     by_cases b2:0≤U
     ·rw[if_pos b2]at H
      have c18b0:=eq_true b2;have c18b1:decide (0≤U)=true:=decide_eq_true b2;clear b2;by_cases b3:(U:Int).toNat≤281474976710656
      ·rw[if_pos b3]at H
       have c19b0:=eq_true b3;have c19b1:decide ((U:Int).toNat≤281474976710656)=true:=decide_eq_true b3;clear b3;obtain⟨d3,ba⟩: ∃y_:List Int,y_=(List.replicate (U:Int).toNat 0):=⟨_,rfl⟩
       replace H:(recoupref04_Combine.l0 bc X am d3 0)=some (r1,r2,r3):=by first|(rw[ba];with_reducible exact H)|(have H2_:=(Option.bind_some _ _).symm.trans H;rw[ba];with_reducible exact H2_)|(have H2_:=(Option.bind_some _ _).symm.trans H;with_reducible exact H2_)|with_reducible exact H|(rw[ba];exact H)|exact H
       have b6:=aK ba;clear ba;have H':=aK H;clear H;obtain⟨ca,cb,cd,cq,cr,ct⟩:=cell3 D
       go_wp2_with (first|((with_reducible refine gC 73 rfl ?_);refine cG (some 30) Tryd.func73 #[.agg #[.int .i64 U,.int .i64 ac,.slice an Z.length ao]] ?_;(with_reducible refine(recoupref04_First.calls bc U ac _ _ Z X dz _ ?side1 ?side2 ef.out).mono ?_);(case side1=>exact kcB a2 HB);(case side2=>exact a1.out);rintro e gn ⟨fs,rfl,al,hb⟩;refine⟨_,rfl,?_⟩;have L:=aK (Kd.R_lower al (below_size (hbA HB.out)));replace D:=bkB D hb;replace HB:=hbB HB hb;(try clear hb);(try clear al);obtain⟨ce,cf,cg,cu,cv,cw⟩:=cell3 D;obtain⟨dq,dv,es⟩:=Kd.R_slice L.out;subst es)|((with_reducible refine gC 43 rfl ?_);refine cG (some 36) Tryd.func43 #[.agg #[.int .i64 U,.int .i64 ac,.slice an Z.length ao],.slice dq X.length dv] ?_;(with_reducible refine(recoupref03_Pick.calls bc U ac _ _ Z _ _ X ai ak aa d0 _ ?side1 ?side2 ?side3 ?side4 eg.out).mono ?_);(case side1=>exact kcB a2 HB);(case side2=>exact a1.out);(case side3=>exact kcA (Kd.R_reads' L.out).2.2);(case side4=>exact(Kd.R_reads' L.out).2.1);rintro e gp ⟨ft,rfl,al,hb⟩;refine⟨_,rfl,?_⟩;replace L:=kdB L hb;have J:=aK (Kd.R_lower al (below_size (hbA HB.out)));replace D:=bkB D hb;replace HB:=hbB HB hb;(try clear hb);(try clear al))|((with_reducible refine gD 9 rfl ?_);(try(refine gate_guard ze ?_;dsimp only));refine bE 9 #[.int .i64 0,.int .i64 0,.slice none 0 0] 24 ?_;intro a4 hg gq hbox hb;replace L:=kdB L hb;replace J:=kdB J hb;have I:=aK (hbox);have d7:=hbS HB hg;have d5:=hbS HB hg;replace HB:=hbB HB hb;have ae:=neL D hg;have av:=neG D hg;replace D:=bkB D hb;clear hb hbox hg;have fx:=av.out;have f3:=ae.out;obtain⟨ch,ci,cj,cx,cy,cz⟩:=cell3 I;obtain⟨ar,ap,et⟩:=Kd.R_slice J.out;subst et)|((with_reducible refine gC 19 rfl ?_);refine cG (some 41) Tryd.func19 #[.agg #[.int .i64 ai,.int .i64 ak,.slice ar aa.length ap]] ?_;(with_reducible refine(recoupref03_Transpose.calls bc ai ak _ _ aa ah aj ab d1 _ ?side1 ?side2 eh.out).mono ?_);(case side1=>refine(Kd.R_reads' (e:=5) (base:=w.heap.size) (ok:=fun k_=>True) (n:=aa.length) (c:=ap) ?_).2.2;exact(by(with_reducible repeat(first|apply Kd.R_alloc|apply Kd.R_drewN|apply Kd.R_drew));exact(zF J.out I.out  (.int .i64 ai)  (.int .i64 ak)  (.slice ar aa.length ap))));(case side2=>exact(Kd.R_reads' J.out).2.1);rintro e gr ⟨fu,rfl,al,hb⟩;refine⟨_,rfl,?_⟩;replace L:=aK (Kd.R_below (by(with_reducible repeat(first|apply Kd.R_alloc|apply Kd.R_drewN|apply Kd.R_drew));exact(zF L.out I.out  (.int .i64 ai)  (.int .i64 ak)  (.slice ar aa.length ap))) hb);have Y:=aK (Kd.R_lower (Kd.R_new' al (Kd.R_lt (by(with_reducible repeat(first|apply Kd.R_alloc|apply Kd.R_drewN|apply Kd.R_drew));exact(zF J.out I.out  (.int .i64 ai)  (.int .i64 ak)  (.slice ar aa.length ap))))) (below_size (hbA HB.out)));replace J:=aK (Kd.R_elder' (by(with_reducible repeat(first|apply Kd.R_alloc|apply Kd.R_drewN|apply Kd.R_drew));exact(zF J.out I.out  (.int .i64 ai)  (.int .i64 ak)  (.slice ar aa.length ap))) (Kd.R_base al) hb);replace D:=aK (blk_below (g:=a3) (o:= .cells #[.int .i64 U,.int .i64 ac,.slice an Z.length ao] 24 (0,0)) zao hb);replace I:=aK (blk_below (g:=a4) (o:= .cells #[.int .i64 ai,.int .i64 ak,.slice ar aa.length ap] 24 (0,0)) zah hb);replace HB:=hbB HB hb;(try clear hb);(try clear al))|((with_reducible refine gD 11 rfl ?_);(try(refine gate_guard ze ?_;dsimp only));refine bE 11 #[.int .i64 0,.int .i64 0,.slice none 0 0] 24 ?_;intro bd hg gs hbox hb;replace L:=kdB L hb;replace J:=kdB J hb;replace Y:=kdB Y hb;have O:=aK (hbox);have d8:=hbS HB hg;have d6:=hbS HB hg;replace HB:=hbB HB hb;have af:=neL D hg;have aw:=neG D hg;replace D:=bkB D hb;have ag:=neL I hg;have ax:=neG I hg;replace I:=bkB I hb;clear hb hbox hg;have fy:=aw.out;have f4:=af.out;have fz:=ax.out;have f5:=ag.out;obtain⟨ck,cl,cm,c5,c8,c9⟩:=cell3 O;obtain⟨au,aq,eu⟩:=Kd.R_slice Y.out;subst eu)|((with_reducible refine gC 74 rfl ?_);refine cG (some 47) Tryd.func74 #[.agg #[.int .i64 ah,.int .i64 aj,.slice au ab.length aq],.slice A1 l1.length c1] ?_;(with_reducible refine(recoupref04_Solve.calls bc ah aj _ _ ab _ _ l1 am true d2 _ ?side1 ?side2 ?side3 ?side4 ei.out).mono ?_);(case side1=>refine(Kd.R_reads' (e:=5) (base:=w.heap.size) (ok:=fun k_=>(True∧some k_≠(.slice ar aa.length ap:Value).ownBlock)) (n:=ab.length) (c:=aq) ?_).2.2;exact(by(with_reducible repeat(first|apply Kd.R_alloc|apply Kd.R_drewN|apply Kd.R_drew));exact(zF Y.out O.out  (.int .i64 ah)  (.int .i64 aj)  (.slice au ab.length aq))));(case side2=>exact(Kd.R_reads' Y.out).2.1);(case side3=>exact Kd.C_below en.out (hbA HB.out));(case side4=>exact ek.out);rintro e gt ⟨bn,rfl,al,hb⟩;refine⟨_,rfl,?_⟩;replace L:=aK (Kd.R_below (by(with_reducible repeat(first|apply Kd.R_alloc|apply Kd.R_drewN|apply Kd.R_drew));exact(zF L.out O.out  (.int .i64 ah)  (.int .i64 aj)  (.slice au ab.length aq))) hb);have a8:=aK (Kd.R_lower (Kd.R_new' (Kd.R_new' al (Kd.R_lt (by(with_reducible repeat(first|apply Kd.R_alloc|apply Kd.R_drewN|apply Kd.R_drew));exact(zF J.out O.out  (.int .i64 ah)  (.int .i64 aj)  (.slice au ab.length aq))))) (Kd.R_lt (by(with_reducible repeat(first|apply Kd.R_alloc|apply Kd.R_drewN|apply Kd.R_drew));exact(zF Y.out O.out  (.int .i64 ah)  (.int .i64 aj)  (.slice au ab.length aq))))) (below_size (hbA HB.out)));replace J:=aK (Kd.R_elder' (by(with_reducible repeat(first|apply Kd.R_alloc|apply Kd.R_drewN|apply Kd.R_drew));exact(zF J.out O.out  (.int .i64 ah)  (.int .i64 aj)  (.slice au ab.length aq))) (Kd.R_base al) hb);replace Y:=aK (Kd.R_elder' (by(with_reducible repeat(first|apply Kd.R_alloc|apply Kd.R_drewN|apply Kd.R_drew));exact(zF Y.out O.out  (.int .i64 ah)  (.int .i64 aj)  (.slice au ab.length aq))) (Kd.R_base al) hb);replace D:=aK (blk_below (g:=a3) (o:= .cells #[.int .i64 U,.int .i64 ac,.slice an Z.length ao] 24 (0,0)) zan hb);replace I:=aK (blk_below (g:=a4) (o:= .cells #[.int .i64 ai,.int .i64 ak,.slice ar aa.length ap] 24 (0,0)) zam hb);replace O:=aK (blk_below (g:=bd) (o:= .cells #[.int .i64 ah,.int .i64 aj,.slice au ab.length aq] 24 (0,0)) zai hb);replace HB:=hbB HB hb;(try clear hb);(try clear al);obtain⟨cn,co,cp,da,db,dc⟩:=cell3 D)|((with_reducible refine gate_dst (N:=55) rfl ?_);(try(refine gate_guard ze ?_;dsimp only));refine Kd.R_make (Kd.int .u8) _ 5 rfl (N:=55) rfl 22 _ _ rfl U rfl rfl Tryd.underlying22 (.int .u8 0) 1 info5 rfl zc za 0 (ok:=fun _=>True) (okp:=fun _=>True) rfl (fun _ hk=>hk) trivial (of_decide_eq_true asE) (Nat.le_trans (Nat.mul_le_mul_right _ (of_decide_eq_true asE:U.toNat≤281474976710656)) za) (Below.refl _ _) (Nat.le_refl _) ?_;intro b1 gu a7 hb hg_ hnew_;clear hg_ hnew_;(first|rw[←b6.out]at a7|(simp only[Int.reduceToNat]at a7;rw[←b6.out]at a7));replace L:=kdB L hb;have ea:=aK (Kd.R_lower (Kd.R_new' (Kd.R_new' (Kd.R_new' a7 (Kd.R_lt (kdA J.out))) (Kd.R_lt (kdA Y.out))) (Kd.R_lt (kdA a8.out))) (below_size (hbA HB.out)));replace J:=aK (Kd.R_elder' (kdA J.out) (Kd.R_base a7) hb);replace Y:=aK (Kd.R_elder' (kdA Y.out) (Kd.R_base a7) hb);replace a8:=aK (Kd.R_elder' (kdA a8.out) (Kd.R_base a7) hb);replace D:=bkB D hb;replace I:=bkB I hb;replace O:=bkB O hb;replace HB:=hbB HB hb;clear hb a7))
       go_loopg [17] bc (fun kq f9 w'=> ∃(ay:List Int) (G:Int),f9= .int .i64 G∧Aside0 (recoupref04_Combine.l0 kq X am ay G=some (r1,r2,r3))∧Aside0 (kq≤bc)∧Aside0 (Kd.R (Kd.int .i64) 3 w' w.heap.size (fun _=>True) (.slice dq X.length dv) X)∧Aside0 (Kd.R (Kd.int .u8) 5 w' w.heap.size (fun k_=>some k_≠(b1:Value).ownBlock∧some k_≠((.slice ar aa.length ap):Value).ownBlock∧some k_≠((.slice au ab.length aq):Value).ownBlock) bn am)∧Aside0 (Kd.R (Kd.int .u8) 5 w' w.heap.size (fun k_=>some k_≠(bn:Value).ownBlock∧some k_≠((.slice ar aa.length ap):Value).ownBlock∧some k_≠((.slice au ab.length aq):Value).ownBlock) b1 ay)∧Aside0 (Kd.R (Kd.int .u8) 5 w' w.heap.size (fun k_=>some k_≠(bn:Value).ownBlock∧some k_≠(b1:Value).ownBlock∧some k_≠((.slice au ab.length aq):Value).ownBlock) (.slice ar aa.length ap) aa)∧Aside0 (Kd.R (Kd.int .u8) 5 w' w.heap.size (fun k_=>some k_≠(bn:Value).ownBlock∧some k_≠(b1:Value).ownBlock∧some k_≠((.slice ar aa.length ap):Value).ownBlock) (.slice au ab.length aq) ab)∧Aside0 (w'.heap[a3]? =some (.cells #[.int .i64 U,.int .i64 ac,(.slice an Z.length ao)] 24 (0,0)))∧Aside0 (w'.heap[a4]? =some (.cells #[.int .i64 ai,.int .i64 ak,(.slice ar aa.length ap)] 24 (0,0)))∧Aside0 (w'.heap[bd]? =some (.cells #[.int .i64 ah,.int .i64 aj,(.slice au ab.length aq)] 24 (0,0)))∧Aside0 (Below w.heap.size w w'))
       case atStart=>exact⟨(d3),(0),rsE,H',⟨Nat.le_refl _⟩,⟨kdA L.out⟩,⟨by(with_reducible repeat(first|apply Kd.R_alloc|apply Kd.R_drewN|apply Kd.R_drew));exact Kd.R_mono a8.out (fun _ hk=>⟨hk.2,⟨hk.1.1.2,hk.1.2⟩⟩)⟩,⟨by(with_reducible repeat(first|apply Kd.R_alloc|apply Kd.R_drewN|apply Kd.R_drew));exact Kd.R_mono ea.out (fun _ hk=>⟨hk.2,⟨hk.1.1.2,hk.1.2⟩⟩)⟩,⟨by(with_reducible repeat(first|apply Kd.R_alloc|apply Kd.R_drewN|apply Kd.R_drew));exact Kd.R_mono J.out (fun _ hk=>⟨hk.1.2,⟨hk.2,hk.1.1.2⟩⟩)⟩,⟨by(with_reducible repeat(first|apply Kd.R_alloc|apply Kd.R_drewN|apply Kd.R_drew));exact Kd.R_mono Y.out (fun _ hk=>⟨hk.1.2,⟨hk.2,hk.1.1.2⟩⟩)⟩,⟨bkA D.out⟩,⟨bkA I.out⟩,⟨bkA O.out⟩,⟨hbA HB.out⟩⟩
       case round=>
        clear H'
        (try clear c1);(try clear c2);(try clear p2 p2);(try clear c3);(try clear c4);(try clear c6);(try clear c7);(try clear b7);(try clear b8);(try clear b2);(try clear c18b0);(try clear c18b1);(try clear b3);(try clear c19b0);(try clear c19b1);(try clear gi);(try clear gj);(try clear gl);(try clear bf bg bh bi bj bk);(try clear ca cb cd cq cr ct);(try clear ce cf cg cu cv cw);(try clear ch ci cj cx cy cz);(try clear ck cl cm c5 c8 c9);(try clear cn co cp da db dc);(try clear bo bp bq bu bv bw);(try clear br bs bt bx bz b0)
        obtain⟨ay,G,rfl,HA,em,HO_7,HO_13,HO_16,HO_486002,HO_493002,D,I,O,HB⟩:=hrel
        cases gk with
        |zero=>exact absurd HA.out (by simp[recoupref04_Combine.l0])
        |succ k2=>
         have H:=HA.out;clear HA;simp only[recoupref04_Combine.l0]at H;by_cases b4:G<(X.length:Int)
         ·rw[if_pos b4]at H
          have c39b0:decide (G<(X.length:Int))=true:=decide_eq_true b4;clear b4;by_cases dj:0≤G
          ·rw[if_pos dj]at H
           have c40b0:decide (0≤G)=true:=decide_eq_true dj;clear dj;by_cases dk:G<(am.length:Int)
           ·rw[if_pos dk]at H
            have c41b0:decide (G<(am.length:Int))=true:=decide_eq_true dk;clear dk;by_cases dl:0≤(rd X G)
            ·rw[if_pos dl]at H
             have c42b0:decide (0≤(rd X G))=true:=decide_eq_true dl;clear dl;by_cases dm:(rd X G)<(ay.length:Int)
             ·rw[if_pos dm]at H
              have c43b0:decide ((rd X G)<(ay.length:Int))=true:=decide_eq_true dm;clear dm;obtain⟨d4,bb⟩: ∃y_:List Int,y_=(ay.set ((rd X G):Int).toNat (rd am G)):=⟨_,rfl⟩
              replace H:(recoupref04_Combine.l0 k2 X am d4 (wrap64 (G+1)))=some (r1,r2,r3):=by first|(rw[bb];with_reducible exact H)|(have H2_:=(Option.bind_some _ _).symm.trans H;rw[bb];with_reducible exact H2_)|(have H2_:=(Option.bind_some _ _).symm.trans H;with_reducible exact H2_)|with_reducible exact H|(rw[bb];exact H)|exact H
              have eb:=aK bb;clear bb;have H':=aK H;clear H
              try go_wp2
              replace HO_7:=aK (Kd.R_drew HO_7.out);replace HO_13:=aK (Kd.R_drew HO_13.out);replace HO_16:=aK (Kd.R_drew HO_16.out);replace HO_486002:=aK (Kd.R_drew HO_486002.out);replace HO_493002:=aK (Kd.R_drew HO_493002.out);replace D:=aK (blk_drew D.out);replace I:=aK (blk_drew I.out);replace O:=aK (blk_drew O.out);replace HB:=aK (below_drew1 HB.out);have de:0≤(G:Int):=of_decide_eq_true asE;have dg:G<(X.length:Int):=of_decide_eq_true asE;obtain⟨ec,ep,bl⟩:=Kd.at_int (Kd.R_reads' HO_7.out).2.2 G de dg
              cases ep
              replace de:=eq_true de;replace dg:=eq_true dg;obtain⟨gb,gg,dx⟩:=Kd.R_slice HO_13.out
              (first|subst dx|(injection dx with f1_ f2_ f3_;have f4_:=f1_.symm;have f5_:=f3_.symm;clear f1_ f2_ f3_;subst f4_;subst f5_))
              have df:0≤(G:Int):=of_decide_eq_true asE;have dh:G<(am.length:Int):=of_decide_eq_true asE;obtain⟨ed,er,bm⟩:=Kd.at_int (Kd.R_reads' HO_13.out).2.2 G df dh
              cases er
              replace df:=eq_true df;replace dh:=eq_true dh;have p44:0≤((rd X G):Int):=of_decide_eq_true asE;have ee:((rd X G):Int)<((ay.length:Int):Int):=of_decide_eq_true asE;obtain⟨a9,gf,dw,dy,ey,ge,dt⟩:=Kd.R_form HO_16.out za
              (first|cases dw|(injection dw with ea_ en_ ec_;(first|subst ea_|(injection ea_ with ea_;subst ea_));subst ec_;clear en_))
              have gc:=aK dy;have dr:=aK dt;clear dy ey dt;obtain⟨dp,dn⟩:=Kd.R_celln 0 HO_16.out ((rd X G):Int) p44 ee;replace p44:=eq_true p44;replace ee:=eq_true ee;have b5:=Kd.R_putn HO_16.out ((rd X G):Int) (rd am G);rw[←eb.out]at b5
              have du:=aK b5;clear b5;refine start_ (n:=11) (S:=fun w'=>w'.cell? (ec.add (G).toNat)=some (.int .i64 (rd X G))∧w'.cell? (ed.add (G).toNat)=some (.int .u8 (rd am G))) (ds:= [10]) (.replicate 11 false) zb rfl rfl ⟨bl,bm⟩ (fun hHeld=>?_);refine with_tabW recoupref04_Combine.tab13 recoupref04_Combine.bits13 (fun HT_ HW_=>?_);generalize wr.drew=gv at HO_7 HO_13 HO_16 HO_486002 HO_493002 D I O HB dr du dn dp bl bm hHeld⊢;refine pu 0 (some 62) (mB 11 1) HT_ ?_;refine pu 1 (some 63) (mB 11 3) HT_ ?_;refine pu 2 (some 64) (mB 11 7) HT_ ?_;refine pu 3 (some 65) (mB 11 15) HT_ ?_;refine pu 5 (some 67) (mB 11 47) HT_ ?_;refine pu 6 (some 68) (mB 11 111) HT_ ?_;refine pu 7 (some 69) (mB 11 239) HT_ ?_;refine tk2 4 (some 66) (mB 11 255) HT_ HW_ hHeld ?_;refine tk2 8 (some 70) (mB 11 511) HT_ HW_ hHeld ?_;refine pu 9 (some 71) (mB 11 1023) HT_ ?_;refine zlh 10 (none) (mB 11 2047) HT_ fun K hK=>?_;refine zsk ?_;refine hK.out _ _ ?_;clear hK K;refine done_ (done_of HT_.out zb) ?_
              try go_wp2
              go_roundg k2
              case measure=>have:=el.out;have:=em.out;omega
              case rel=>exact⟨(d4),(wrap64 (G+1)),rsE,H',⟨by have:=el.out;have:=em.out;omega⟩,⟨by(with_reducible repeat(first|apply Kd.R_alloc|apply Kd.R_drewN|apply Kd.R_drew));exact Kd.R_mono (Kd.R_far (p:=⟨a9,((rd X G):Int).toNat,none⟩) (Kd.R_types HO_7.out dr.out zc) (fun _ hk=>hk.2) (.int .u8 (rd am G))) (fun _ hk=>trivial)⟩,⟨by(with_reducible repeat(first|apply Kd.R_alloc|apply Kd.R_drewN|apply Kd.R_drew));exact Kd.R_mono (Kd.R_far (p:=⟨a9,((rd X G):Int).toNat,none⟩) (Kd.R_mono HO_13.out (fun k_ hk=>(⟨hk,fun e_=>hk.1 zh⟩:_∧k_≠a9))) (fun _ hk=>hk.2) (.int .u8 (rd am G))) (fun _ hk=>⟨hk.1.1,⟨hk.1.2.1,hk.1.2.2⟩⟩)⟩,⟨kdA du.out⟩,⟨by(with_reducible repeat(first|apply Kd.R_alloc|apply Kd.R_drewN|apply Kd.R_drew));exact Kd.R_mono (Kd.R_far (p:=⟨a9,((rd X G):Int).toNat,none⟩) (Kd.R_mono HO_486002.out (fun k_ hk=>(⟨hk,fun e_=>hk.2.1 zh⟩:_∧k_≠a9))) (fun _ hk=>hk.2) (.int .u8 (rd am G))) (fun _ hk=>⟨hk.1.1,⟨hk.1.2.1,hk.1.2.2⟩⟩)⟩,⟨by(with_reducible repeat(first|apply Kd.R_alloc|apply Kd.R_drewN|apply Kd.R_drew));exact Kd.R_mono (Kd.R_far (p:=⟨a9,((rd X G):Int).toNat,none⟩) (Kd.R_mono HO_493002.out (fun k_ hk=>(⟨hk,fun e_=>hk.2.1 zh⟩:_∧k_≠a9))) (fun _ hk=>hk.2) (.int .u8 (rd am G))) (fun _ hk=>⟨hk.1.1,⟨hk.1.2.1,hk.1.2.2⟩⟩)⟩,⟨by refine bkR ?_;refine blk_far ?_ (by have h_:=Kd.R_ne HO_16.out D.out zc;intro e_;exact h_ zh) _;refine bkR ?_;exact D.out⟩,⟨by refine bkR ?_;refine blk_far ?_ (by have h_:=Kd.R_ne HO_16.out I.out zc;intro e_;exact h_ zh) _;refine bkR ?_;exact I.out⟩,⟨by refine bkR ?_;refine blk_far ?_ (by have h_:=Kd.R_ne HO_16.out O.out zc;intro e_;exact h_ zh) _;refine bkR ?_;exact O.out⟩,⟨hbA HB.out⟩⟩
             ·rw[if_neg dm]at H
              exact absurd H zd
            ·rw[if_neg dl]at H
             exact absurd H zd
           ·rw[if_neg dk]at H
            exact absurd H zd
          ·rw[if_neg dj]at H
           exact absurd H zd
         ·rw[if_neg b4]at H
          have c39b0:decide (G<(X.length:Int))=false:=decide_eq_false b4;clear b4;simp only[Option.some.injEq,Prod.mk.injEq]at H;obtain⟨rfl,rfl,rfl⟩:=H;go_wp2
          go_ret3
          exact⟨_,rfE,by(with_reducible repeat(first|apply Kd.R_alloc|apply Kd.R_drewN|apply Kd.R_drew));exact Kd.R_mono HO_16.out (fun _ hk=>trivial),hbA HB.out⟩
      ·rw[if_neg b3]at H
       exact absurd H zd
     ·rw[if_neg b2]at H
      exact absurd H zd
    ·replace b8:=Bool.eq_false_iff.mpr b8;subst b8;rw[if_neg nofT]at H
     simp only[Option.some.injEq,Prod.mk.injEq]at H;obtain⟨rfl,rfl,rfl⟩:=H;obtain⟨e0,e1,e2,fc,fd,fe⟩:=cell3 D
     go_wp2_with (first|((with_reducible refine gC 73 rfl ?_);refine cG (some 30) Tryd.func73 #[.agg #[.int .i64 U,.int .i64 ac,.slice an Z.length ao]] ?_;(with_reducible refine(recoupref04_First.calls bc U ac _ _ Z X dz _ ?side1 ?side2 ef.out).mono ?_);(case side1=>exact kcB a2 HB);(case side2=>exact a1.out);rintro e gw ⟨fs,rfl,al,hb⟩;refine⟨_,rfl,?_⟩;have L:=aK (Kd.R_lower al (below_size (hbA HB.out)));replace D:=bkB D hb;replace HB:=hbB HB hb;(try clear hb);(try clear al);obtain⟨e3,e4,e5,ff,fg,fh⟩:=cell3 D;obtain⟨ej,eo,ev⟩:=Kd.R_slice L.out;subst ev)|((with_reducible refine gC 43 rfl ?_);refine cG (some 36) Tryd.func43 #[.agg #[.int .i64 U,.int .i64 ac,.slice an Z.length ao],.slice ej X.length eo] ?_;(with_reducible refine(recoupref03_Pick.calls bc U ac _ _ Z _ _ X ai ak aa d0 _ ?side1 ?side2 ?side3 ?side4 eg.out).mono ?_);(case side1=>exact kcB a2 HB);(case side2=>exact a1.out);(case side3=>exact kcA (Kd.R_reads' L.out).2.2);(case side4=>exact(Kd.R_reads' L.out).2.1);rintro e gx ⟨ft,rfl,al,hb⟩;refine⟨_,rfl,?_⟩;replace L:=kdB L hb;have J:=aK (Kd.R_lower al (below_size (hbA HB.out)));replace D:=bkB D hb;replace HB:=hbB HB hb;(try clear hb);(try clear al))|((with_reducible refine gD 9 rfl ?_);(try(refine gate_guard ze ?_;dsimp only));refine bE 9 #[.int .i64 0,.int .i64 0,.slice none 0 0] 24 ?_;intro a4 hg gy hbox hb;replace L:=kdB L hb;replace J:=kdB J hb;have I:=aK (hbox);have d7:=hbS HB hg;have d5:=hbS HB hg;replace HB:=hbB HB hb;have ae:=neL D hg;have av:=neG D hg;replace D:=bkB D hb;clear hb hbox hg;have f0:=av.out;have f6:=ae.out;obtain⟨e6,e7,e8,fi,fj,fk⟩:=cell3 I;obtain⟨a5,az,ew⟩:=Kd.R_slice J.out;subst ew)|((with_reducible refine gC 19 rfl ?_);refine cG (some 41) Tryd.func19 #[.agg #[.int .i64 ai,.int .i64 ak,.slice a5 aa.length az]] ?_;(with_reducible refine(recoupref03_Transpose.calls bc ai ak _ _ aa ah aj ab d1 _ ?side1 ?side2 eh.out).mono ?_);(case side1=>refine(Kd.R_reads' (e:=5) (base:=w.heap.size) (ok:=fun k_=>True) (n:=aa.length) (c:=az) ?_).2.2;exact(by(with_reducible repeat(first|apply Kd.R_alloc|apply Kd.R_drewN|apply Kd.R_drew));exact(zF J.out I.out  (.int .i64 ai)  (.int .i64 ak)  (.slice a5 aa.length az))));(case side2=>exact(Kd.R_reads' J.out).2.1);rintro e gz ⟨fu,rfl,al,hb⟩;refine⟨_,rfl,?_⟩;replace L:=aK (Kd.R_below (by(with_reducible repeat(first|apply Kd.R_alloc|apply Kd.R_drewN|apply Kd.R_drew));exact(zF L.out I.out  (.int .i64 ai)  (.int .i64 ak)  (.slice a5 aa.length az))) hb);have Y:=aK (Kd.R_lower (Kd.R_new' al (Kd.R_lt (by(with_reducible repeat(first|apply Kd.R_alloc|apply Kd.R_drewN|apply Kd.R_drew));exact(zF J.out I.out  (.int .i64 ai)  (.int .i64 ak)  (.slice a5 aa.length az))))) (below_size (hbA HB.out)));replace J:=aK (Kd.R_elder' (by(with_reducible repeat(first|apply Kd.R_alloc|apply Kd.R_drewN|apply Kd.R_drew));exact(zF J.out I.out  (.int .i64 ai)  (.int .i64 ak)  (.slice a5 aa.length az))) (Kd.R_base al) hb);replace D:=aK (blk_below (g:=a3) (o:= .cells #[.int .i64 U,.int .i64 ac,.slice an Z.length ao] 24 (0,0)) zao hb);replace I:=aK (blk_below (g:=a4) (o:= .cells #[.int .i64 ai,.int .i64 ak,.slice a5 aa.length az] 24 (0,0)) zah hb);replace HB:=hbB HB hb;(try clear hb);(try clear al))|((with_reducible refine gD 11 rfl ?_);(try(refine gate_guard ze ?_;dsimp only));refine bE 11 #[.int .i64 0,.int .i64 0,.slice none 0 0] 24 ?_;intro bd hg g0 hbox hb;replace L:=kdB L hb;replace J:=kdB J hb;replace Y:=kdB Y hb;have O:=aK (hbox);have d8:=hbS HB hg;have d6:=hbS HB hg;replace HB:=hbB HB hb;have af:=neL D hg;have aw:=neG D hg;replace D:=bkB D hb;have ag:=neL I hg;have ax:=neG I hg;replace I:=bkB I hb;clear hb hbox hg;have f1:=aw.out;have f7:=af.out;have f2:=ax.out;have f8:=ag.out;obtain⟨e9,fa,fb,fl,fm,fo⟩:=cell3 O;obtain⟨a6,a0,ex⟩:=Kd.R_slice Y.out;subst ex)|((with_reducible refine gC 74 rfl ?_);refine cG (some 47) Tryd.func74 #[.agg #[.int .i64 ah,.int .i64 aj,.slice a6 ab.length a0],.slice A1 l1.length c1] ?_;(with_reducible refine(recoupref04_Solve.calls bc ah aj _ _ ab _ _ l1 am false d2 _ ?side1 ?side2 ?side3 ?side4 ei.out).mono ?_);(case side1=>refine(Kd.R_reads' (e:=5) (base:=w.heap.size) (ok:=fun k_=>(True∧some k_≠(.slice a5 aa.length az:Value).ownBlock)) (n:=ab.length) (c:=a0) ?_).2.2;exact(by(with_reducible repeat(first|apply Kd.R_alloc|apply Kd.R_drewN|apply Kd.R_drew));exact(zF Y.out O.out  (.int .i64 ah)  (.int .i64 aj)  (.slice a6 ab.length a0))));(case side2=>exact(Kd.R_reads' Y.out).2.1);(case side3=>exact Kd.C_below en.out (hbA HB.out));(case side4=>exact ek.out);rintro e g1 ⟨bn,rfl,al,hb⟩;refine⟨_,rfl,?_⟩;replace L:=aK (Kd.R_below (by(with_reducible repeat(first|apply Kd.R_alloc|apply Kd.R_drewN|apply Kd.R_drew));exact(zF L.out O.out  (.int .i64 ah)  (.int .i64 aj)  (.slice a6 ab.length a0))) hb);have a8:=aK (Kd.R_lower (Kd.R_new' (Kd.R_new' al (Kd.R_lt (by(with_reducible repeat(first|apply Kd.R_alloc|apply Kd.R_drewN|apply Kd.R_drew));exact(zF J.out O.out  (.int .i64 ah)  (.int .i64 aj)  (.slice a6 ab.length a0))))) (Kd.R_lt (by(with_reducible repeat(first|apply Kd.R_alloc|apply Kd.R_drewN|apply Kd.R_drew));exact(zF Y.out O.out  (.int .i64 ah)  (.int .i64 aj)  (.slice a6 ab.length a0))))) (below_size (hbA HB.out)));replace J:=aK (Kd.R_elder' (by(with_reducible repeat(first|apply Kd.R_alloc|apply Kd.R_drewN|apply Kd.R_drew));exact(zF J.out O.out  (.int .i64 ah)  (.int .i64 aj)  (.slice a6 ab.length a0))) (Kd.R_base al) hb);replace Y:=aK (Kd.R_elder' (by(with_reducible repeat(first|apply Kd.R_alloc|apply Kd.R_drewN|apply Kd.R_drew));exact(zF Y.out O.out  (.int .i64 ah)  (.int .i64 aj)  (.slice a6 ab.length a0))) (Kd.R_base al) hb);replace D:=aK (blk_below (g:=a3) (o:= .cells #[.int .i64 U,.int .i64 ac,.slice an Z.length ao] 24 (0,0)) zan hb);replace I:=aK (blk_below (g:=a4) (o:= .cells #[.int .i64 ai,.int .i64 ak,.slice a5 aa.length az] 24 (0,0)) zam hb);replace O:=aK (blk_below (g:=bd) (o:= .cells #[.int .i64 ah,.int .i64 aj,.slice a6 ab.length a0] 24 (0,0)) zai hb);replace HB:=hbB HB hb;(try clear hb);(try clear al)))
     go_ret3
     exact⟨_,rfE,nilE,hbA HB.out⟩
end Go.Proofs.YtjgcocfnilhggaaDoor.Q
namespace Go.Proofs.YtjgcocfnilhggaaDoor.Q
open Go.RowKit Go.Proofs.YtjgcocfnilhggaaDoorW.PrintWords Go.Proofs.YtjgcocfnilhggaaDoorW.PrintLast Go.Proofs.YtjgcocfnilhggaaDoorW.PrintMore
attribute [local go_sem] max2_int min2_int max_two min_two max_three min_three max_four min_four
set_option linter.unusedVariables false
set_option linter.unusedSimpArgs false
def recoupref19_Least.l0:Nat→Int→List Int→List Int→List Int→Int→Option (Int×List Int×Bool×Int)
 |0,_,_,_,_,_=>none
 |k+1,x9,G,I,J,D=>if D<(G.length:Int)then(if 0≤D then(if D<(I.length:Int)then(if 0≤(rd G D)then(if(rd G D)<(J.length:Int)then(recoupref19_Least.l0 k x9 G I (J.set ((rd G D):Int).toNat (rd I D)) (wrap64 (D+1)))else(none))else(none))else(none))else(none))else(some (x9,J,true,0))
def recoupref19_Least.f(k:Nat)(D:Int)(G:Int)(I:List Int)(a1:Int):Option (Int×List Int×Bool×Int):=(recoupref19_bad.f D G I a1).bind fun O=>(if O=0 then((recoupref19_others.f k D G I a1).bind fun Z=>((recoupref19_repairs.f k D G I a1 Z).bind fun aa=>(if aa=true then((recoupref19_first.f k D G I a1).bind fun J=>(if J.2=true then((recoupref06_List.f k J.1).bind fun U=>((recoupref03_Pick.f k D G I U).bind fun L=>((recoupref03_Row.f k D G I a1).bind fun X=>((recoupref04_Combine.f k L.1 L.2.1 L.2.2.1 X.1).bind fun Y=>(if 0≤D then(if(D:Int).toNat≤281474976710656 then(recoupref19_Least.l0 k J.1 U Y.1 (List.replicate (D:Int).toNat 0) 0)else(none))else(none))))))else(some (0,([]:List Int),false,4))))else(some (0,([]:List Int),false,0)))))else(some (0,([]:List Int),false,O)))
def recoupref19_Least.T17:Bool×List (List Nat×List Nat):=(true,[([],[]),([],[]),([],[]),([1,2],[1,2]),([3],[3]),([],[]),([],[]),([5,6],[5,6]),([7],[7]),([0,4,0,1,2,3,4,5,6,7,8],[0,4]),([9,8,0,1,2,3,4,5,6,7,8],[8,9])])
def recoupref19_Least.B17:List Nat:= [0,0,0,6,14,0,0,96,224,511,1023]
theorem recoupref19_Least.tab17:rtab .any (opsOf Tryd.f12 17)=recoupref19_Least.T17:=by kernel_rfl
theorem recoupref19_Least.bits17:waitsOk recoupref19_Least.T17.2 recoupref19_Least.B17=true:=by kernel_rfl
set_option maxHeartbeats 8000000 in
set_option maxRecDepth 100000 in
theorem recoupref19_Least.calls(k:Nat)(G:Int)(L:Int)(U:Option Addr)(X:Nat)(J:List Int)(a1:Int)(r1:Int)(r2:List Int)(r3:Bool)(r4:Int)(w:World)(cn:Kd.C (Kd.int .u8) w U J.length J)(be:J.length≤X)(h:recoupref19_Least.f k G L J a1=some (r1,r2,r3,r4)):
 Calls Tryd.prog 12 #[.agg #[.int .i64 G,.int .i64 L,.slice U J.length X],.int .i64 a1] w fun e w'=> ∃v1_:Value,e= .returned (.tuple #[.int .u64 r1,v1_,.bool r3,.int .i64 r4])∧Kd.R (Kd.int .u8) 5 w' w.heap.size (fun _=>True) v1_ r2∧Below w.heap.size w w':=by
 have fd:=Tryd.underlying24;have ac:=aK cn;have aa:=aK be;clear cn be;have HB:=aK (Below.refl w.heap.size w);have H:((recoupref19_bad.f G L J a1).bind fun ai=>(if ai=0 then((recoupref19_others.f k G L J a1).bind fun ak=>((recoupref19_repairs.f k G L J a1 ak).bind fun ct=>(if ct=true then((recoupref19_first.f k G L J a1).bind fun a5=>(if a5.2=true then((recoupref06_List.f k a5.1).bind fun O=>((recoupref03_Pick.f k G L J O).bind fun a6=>((recoupref03_Row.f k G L J a1).bind fun dp=>((recoupref04_Combine.f k a6.1 a6.2.1 a6.2.2.1 dp.1).bind fun dq=>(if 0≤G then(if(G:Int).toNat≤281474976710656 then(recoupref19_Least.l0 k a5.1 O dq.1 (List.replicate (G:Int).toNat 0) 0)else(none))else(none))))))else(some (0,([]:List Int),false,4))))else(some (0,([]:List Int),false,0)))))else(some (0,([]:List Int),false,ai))))=some (r1,r2,r3,r4):=h;clear h;obtain⟨ai,A3,H⟩:=bindO H
 (try dsimp only at H)
 by_cases c4:ai=0
 ·rw[if_pos c4]at H
  have c4b0:(ai==0)=true:=beq_iff_eq.mpr c4;have c4b1:(ai !=0)=false:=bne_eq_false_iff_eq.mpr c4;clear c4;obtain⟨ak,A5,H⟩:=bindO H
  (try dsimp only at H)
  obtain⟨ct,A6,H⟩:=bindO H
  (try dsimp only at H)
  by_cases c7:ct=true
  ·subst c7;rw[if_pos rfl]at H
   obtain⟨⟨aw,er⟩,A8,H⟩:=bindO H
   (try dsimp only at H)
   by_cases c9:er=true
   ·subst c9;rw[if_pos rfl]at H
    obtain⟨O,ew,H⟩:=bindO H
    (try dsimp only at H)
    obtain⟨⟨al,aq,aj,es⟩,ex,H⟩:=bindO H
    (try dsimp only at H)
    obtain⟨⟨cu,et⟩,ey,H⟩:=bindO H
    (try dsimp only at H)
    obtain⟨⟨af,eu,ev⟩,ez,H⟩:=bindO H
    (try dsimp only at H)
    by_cases a7:0≤G
    ·rw[if_pos a7]at H
     have c14b0:=eq_true a7;have c14b1:decide (0≤G)=true:=decide_eq_true a7;clear a7;by_cases a8:(G:Int).toNat≤281474976710656
     ·rw[if_pos a8]at H
      have c15b0:=eq_true a8;have c15b1:decide ((G:Int).toNat≤281474976710656)=true:=decide_eq_true a8;clear a8;obtain⟨di,au⟩: ∃y_:List Int,y_=(List.replicate (G:Int).toNat 0):=⟨_,rfl⟩
      replace H:(recoupref19_Least.l0 k aw O af di 0)=some (r1,r2,r3,r4):=by first|(rw[au];with_reducible exact H)|(have H2_:=(Option.bind_some _ _).symm.trans H;rw[au];with_reducible exact H2_)|(have H2_:=(Option.bind_some _ _).symm.trans H;with_reducible exact H2_)|with_reducible exact H|(rw[au];exact H)|exact H
      have bb:=aK au;clear au;have H':=aK H;clear H
      go_enter Tryd.func12,Tryd.ntmps12
      try go_wp2_with (first|((with_reducible refine gD 2 rfl ?_);refine bE 2 #[.int .i64 G,.int .i64 L,.slice U J.length X] 24 ?_;intro ae hg fm hbox hb;have D:=aK (hbox);have a3:=hbS HB hg;have a2:=hbS HB hg;replace HB:=hbB HB hb;clear hb hbox hg;obtain⟨bf,bg,bh,b1,b2,b3⟩:=cell3 D)|((with_reducible refine gC 39 rfl ?_);refine cG (some 23) Tryd.func39 #[.agg #[.int .i64 G,.int .i64 L,.slice U J.length X],.int .i64 a1] ?_;(with_reducible refine(recoupref19_bad.calls G L _ _ J a1 ai _ ?side1 ?side2 A3.out).mono ?_);(case side1=>exact kcB ac HB);(case side2=>exact aa.out);rintro e e5 ⟨rfl,hb⟩;refine⟨_,rfl,?_⟩;replace D:=bkB D hb;replace HB:=hbB HB hb;(try clear hb)))
      replace D:=aK (blk_drew D.out);replace HB:=aK (below_drew1 HB.out);refine start_ (n:=7) (S:=fun w'=>w'.cell? ⟨ae,0,none⟩=some (.int .i64 G)∧w'.cell? ⟨ae,1,none⟩=some (.int .i64 L)∧w'.cell? ⟨ae,2,none⟩=some (.slice U J.length X)) (ds:= []) (.replicate 7 false) zb rfl rfl ⟨(blk_cell D.out 0).trans rfl,(blk_cell D.out 1).trans rfl,(blk_cell D.out 2).trans rfl⟩ (fun hHeld=>?_);generalize e5.drew=fo at D HB hHeld⊢;refine zpu 1 (some 28) (mB 7 2) ?_;refine zpu 3 (some 30) (mB 7 10) ?_;refine ztk3 0 (some 27) (mB 7 11) hHeld ?_;refine ztk3 2 (some 29) (mB 7 15) hHeld ?_;refine zon 4 (some 31) (mB 7 31) fun K hK=>?_;refine goes_ Tryd.func41 zb rfl #[.agg #[.int .i64 G,.int .i64 L,.slice U J.length X],.int .i64 a1] ze rfl rfl (by(try simp only[List.map_toArray,List.map_cons,List.map_nil]);first|done|rfl|(simp only[List.length_drop,List.length_take];rfl)) ?_;with_reducible refine(recoupref19_others.calls k G L _ _ J a1 ak _ ?side1 ?side2 A5.out).mono ?_
      (case side1=>exact kcB ac HB)
      (case side2=>exact aa.out)
      rintro e fp ⟨rfl,hb⟩;refine⟨_,rfl,?_⟩;replace D:=bkB D hb;replace HB:=hbB HB hb
      (try clear hb)
      (try clear bd)
      (try clear hk)
      (try clear hi)
      refine hK.out _ _ ⟨(blk_cell D.out 0).trans rfl,(blk_cell D.out 1).trans rfl,(blk_cell D.out 2).trans rfl⟩ (fun hHeld=>?_);clear hK K;refine znm (some 31) ?_;refine zon 5 (some 32) (mB 7 63) fun K hK=>?_;refine goes_ Tryd.func40 zb rfl #[.agg #[.int .i64 G,.int .i64 L,.slice U J.length X],.int .i64 a1,.int .u64 ak] ze rfl rfl (by(try simp only[List.map_toArray,List.map_cons,List.map_nil]);first|done|rfl|(simp only[List.length_drop,List.length_take];rfl)) ?_;with_reducible refine(recoupref19_repairs.calls k G L _ _ J a1 ak true _ ?side1 ?side2 A6.out).mono ?_
      (case side1=>exact kcB ac HB)
      (case side2=>exact aa.out)
      rintro e fq ⟨rfl,hb⟩;refine⟨_,rfl,?_⟩;replace D:=bkB D hb;replace HB:=hbB HB hb
      (try clear hb)
      (try clear bd)
      (try clear hk)
      (try clear hi)
      refine hK.out _ _ ⟨(blk_cell D.out 0).trans rfl,(blk_cell D.out 1).trans rfl,(blk_cell D.out 2).trans rfl⟩ (fun hHeld=>?_);clear hK K;refine znm (some 32) ?_;refine zpu 6 (some 33) (mB 7 127) ?_;refine done_ zb ?_;obtain⟨bi,bj,bk,b4,b5,b6⟩:=cell3 D
      try go_wp2_with (first|((with_reducible refine gC 42 rfl ?_);refine cG (some 37) Tryd.func42 #[.agg #[.int .i64 G,.int .i64 L,.slice U J.length X],.int .i64 a1] ?_;(with_reducible refine(recoupref19_first.calls k G L _ _ J a1 aw true _ ?side1 ?side2 A8.out).mono ?_);(case side1=>exact kcB ac HB);(case side2=>exact aa.out);rintro e fs ⟨rfl,hb⟩;refine⟨_,rfl,?_⟩;replace D:=bkB D hb;replace HB:=hbB HB hb;(try clear hb))|((with_reducible refine gC 23 rfl ?_);refine cG (some 43) Tryd.func23 #[.int .u64 aw] ?_;(with_reducible refine(recoupref06_List.calls k aw O _ ew.out).mono ?_);rintro e ft ⟨fe,rfl,ap,hb⟩;refine⟨_,rfl,?_⟩;have ab:=aK (Kd.R_lower ap (below_size (hbA HB.out)));replace D:=bkB D hb;replace HB:=hbB HB hb;(try clear hb);(try clear ap);obtain⟨bl,bm,bn,b7,b8,b9⟩:=cell3 D;obtain⟨da,de,dy⟩:=Kd.R_slice ab.out;subst dy)|((with_reducible refine gC 43 rfl ?_);refine cG (some 47) Tryd.func43 #[.agg #[.int .i64 G,.int .i64 L,.slice U J.length X],.slice da O.length de] ?_;(with_reducible refine(recoupref03_Pick.calls k G L _ _ J _ _ O al aq aj es _ ?side1 ?side2 ?side3 ?side4 ex.out).mono ?_);(case side1=>exact kcB ac HB);(case side2=>exact aa.out);(case side3=>exact kcA (Kd.R_reads' ab.out).2.2);(case side4=>exact(Kd.R_reads' ab.out).2.1);rintro e fu ⟨ff,rfl,ap,hb⟩;refine⟨_,rfl,?_⟩;replace ab:=kdB ab hb;have Z:=aK (Kd.R_lower ap (below_size (hbA HB.out)));replace D:=bkB D hb;replace HB:=hbB HB hb;(try clear hb);(try clear ap))|((with_reducible refine gD 12 rfl ?_);refine bE 12 #[.int .i64 0,.int .i64 0,.slice none 0 0] 24 ?_;intro bc hg fv hbox hb;replace ab:=kdB ab hb;replace Z:=kdB Z hb;have Y:=aK (hbox);have e1:=hbS HB hg;have e0:=hbS HB hg;replace HB:=hbB HB hb;have ah:=neL D hg;have a4:=neG D hg;replace D:=bkB D hb;clear hb hbox hg;have e2:=a4.out;have e3:=ah.out;obtain⟨bo,bp,bq,ca,cb,cd⟩:=cell3 Y;obtain⟨an,ao,dz⟩:=Kd.R_slice Z.out;subst dz;obtain⟨br,bs,bt,ce,cf,cg⟩:=cell3 D)|((with_reducible refine gC 21 rfl ?_);refine cG (some 53) Tryd.func21 #[.agg #[.int .i64 G,.int .i64 L,.slice U J.length X],.int .i64 a1] ?_;(with_reducible refine(recoupref03_Row.calls k G L _ _ J a1 cu et _ ?side1 ?side2 ey.out).mono ?_);(case side1=>exact Kd.C_below ac.out (hbA HB.out));(case side2=>exact aa.out);rintro e fw ⟨fg,rfl,ap,hb⟩;refine⟨_,rfl,?_⟩;replace ab:=aK (Kd.R_below (by(with_reducible repeat(first|apply Kd.R_alloc|apply Kd.R_drewN|apply Kd.R_drew));exact(zF ab.out Y.out  (.int .i64 al)  (.int .i64 aq)  (.slice an aj.length ao))) hb);have ag:=aK (Kd.R_lower (Kd.R_new' ap (Kd.R_lt (by(with_reducible repeat(first|apply Kd.R_alloc|apply Kd.R_drewN|apply Kd.R_drew));exact(zF Z.out Y.out  (.int .i64 al)  (.int .i64 aq)  (.slice an aj.length ao))))) (below_size (hbA HB.out)));replace Z:=aK (Kd.R_elder' (by(with_reducible repeat(first|apply Kd.R_alloc|apply Kd.R_drewN|apply Kd.R_drew));exact(zF Z.out Y.out  (.int .i64 al)  (.int .i64 aq)  (.slice an aj.length ao))) (Kd.R_base ap) hb);replace D:=aK (blk_below (g:=ae) (o:= .cells #[.int .i64 G,.int .i64 L,.slice U J.length X] 24 (0,0)) (by refine bkR ?_;refine blk_far ?_ ah.out _;refine bkR ?_;refine blk_far ?_ ah.out _;refine bkR ?_;refine blk_far ?_ ah.out _;refine bkR ?_;exact D.out) hb);replace Y:=aK (blk_below (g:=bc) (o:= .cells #[.int .i64 al,.int .i64 aq,.slice an aj.length ao] 24 (0,0)) (by refine bkR ?_;refine blk_put (cs:= #[.int .i64 al,.int .i64 aq,.slice none 0 0]) ?_ 2 _ rfl;refine bkR ?_;refine blk_put (cs:= #[.int .i64 al,.int .i64 0,.slice none 0 0]) ?_ 1 _ rfl;refine bkR ?_;refine blk_put (cs:= #[.int .i64 0,.int .i64 0,.slice none 0 0]) ?_ 0 _ rfl;refine bkR ?_;exact Y.out) hb);replace HB:=hbB HB hb;(try clear hb);(try clear ap);obtain⟨bu,bv,bw,ch,ci,cj⟩:=cell3 Y;obtain⟨dt,dv,d0⟩:=Kd.R_slice ag.out;subst d0)|((with_reducible refine gC 44 rfl ?_);refine cG (some 59) Tryd.func44 #[.agg #[.int .i64 al,.int .i64 aq,.slice an aj.length ao],.slice dt cu.length dv] ?_;(with_reducible refine(recoupref04_Combine.calls k al aq _ _ aj _ _ cu af eu ev _ ?side1 ?side2 ?side3 ?side4 ez.out).mono ?_);(case side1=>exact kcA (Kd.R_reads' Z.out).2.2);(case side2=>exact(Kd.R_reads' Z.out).2.1);(case side3=>exact kcA (Kd.R_reads' ag.out).2.2);(case side4=>exact(Kd.R_reads' ag.out).2.1);rintro e fx ⟨cv,rfl,ap,hb⟩;refine⟨_,rfl,?_⟩;replace ab:=kdB ab hb;have ax:=aK (Kd.R_lower (Kd.R_new' (Kd.R_new' ap (Kd.R_lt (kdA Z.out))) (Kd.R_lt (kdA ag.out))) (below_size (hbA HB.out)));replace Z:=aK (Kd.R_elder' (kdA Z.out) (Kd.R_base ap) hb);replace ag:=aK (Kd.R_elder' (kdA ag.out) (Kd.R_base ap) hb);replace D:=bkB D hb;replace Y:=bkB Y hb;replace HB:=hbB HB hb;(try clear hb);(try clear ap);obtain⟨bx,bz,b0,ck,cl,cm⟩:=cell3 D)|((with_reducible refine gate_dst (N:=65) rfl ?_);refine Kd.R_make (Kd.int .u8) _ 5 rfl (N:=65) rfl 22 _ _ rfl G rfl rfl Tryd.underlying22 (.int .u8 0) 1 info5 rfl zc za 0 (ok:=fun _=>True) (okp:=fun _=>True) rfl (fun _ hk=>hk) trivial (of_decide_eq_true asE) (Nat.le_trans (Nat.mul_le_mul_right _ (of_decide_eq_true asE:G.toNat≤281474976710656)) za) (Below.refl _ _) (Nat.le_refl _) ?_;intro cw fy ar hb hg_ hnew_;clear hg_ hnew_;(first|rw[←bb.out]at ar|(simp only[Int.reduceToNat]at ar;rw[←bb.out]at ar));replace ab:=kdB ab hb;have dk:=aK (Kd.R_lower (Kd.R_new' (Kd.R_new' (Kd.R_new' ar (Kd.R_lt (kdA Z.out))) (Kd.R_lt (kdA ag.out))) (Kd.R_lt (kdA ax.out))) (below_size (hbA HB.out)));replace Z:=aK (Kd.R_elder' (kdA Z.out) (Kd.R_base ar) hb);replace ag:=aK (Kd.R_elder' (kdA ag.out) (Kd.R_base ar) hb);replace ax:=aK (Kd.R_elder' (kdA ax.out) (Kd.R_base ar) hb);replace D:=bkB D hb;replace Y:=bkB Y hb;replace HB:=hbB HB hb;clear hb ar))
      go_loopg [20] k (fun kq e4 w'=> ∃(am:List Int) (I:Int),e4= .int .i64 I∧Aside0 (recoupref19_Least.l0 kq aw O af am I=some (r1,r2,r3,r4))∧Aside0 (kq≤k)∧Aside0 (Kd.R (Kd.int .i64) 3 w' w.heap.size (fun _=>True) (.slice da O.length de) O)∧Aside0 (Kd.R (Kd.int .u8) 5 w' w.heap.size (fun k_=>some k_≠(cw:Value).ownBlock∧some k_≠((.slice an aj.length ao):Value).ownBlock) cv af)∧Aside0 (Kd.R (Kd.int .u8) 5 w' w.heap.size (fun k_=>some k_≠(cv:Value).ownBlock∧some k_≠((.slice an aj.length ao):Value).ownBlock) cw am)∧Aside0 (Kd.R (Kd.int .u8) 5 w' w.heap.size (fun k_=>some k_≠(cv:Value).ownBlock∧some k_≠(cw:Value).ownBlock) (.slice an aj.length ao) aj)∧Aside0 (w'.heap[ae]? =some (.cells #[.int .i64 G,.int .i64 L,(.slice U J.length X)] 24 (0,0)))∧Aside0 (w'.heap[bc]? =some (.cells #[.int .i64 al,.int .i64 aq,(.slice an aj.length ao)] 24 (0,0)))∧Aside0 (Below w.heap.size w w'))
      case atStart=>exact⟨(di),(0),rsE,H',⟨Nat.le_refl _⟩,⟨kdA ab.out⟩,⟨by(with_reducible repeat(first|apply Kd.R_alloc|apply Kd.R_drewN|apply Kd.R_drew));exact Kd.R_mono ax.out (fun _ hk=>⟨hk.2,hk.1.1.2⟩)⟩,⟨by(with_reducible repeat(first|apply Kd.R_alloc|apply Kd.R_drewN|apply Kd.R_drew));exact Kd.R_mono dk.out (fun _ hk=>⟨hk.2,hk.1.1.2⟩)⟩,⟨by(with_reducible repeat(first|apply Kd.R_alloc|apply Kd.R_drewN|apply Kd.R_drew));exact Kd.R_mono Z.out (fun _ hk=>⟨hk.1.2,hk.2⟩)⟩,⟨bkA D.out⟩,⟨bkA Y.out⟩,⟨hbA HB.out⟩⟩
      case round=>
       clear H'
       (try clear c1);(try clear c2);(try clear p2);(try clear c3);(try clear c4);(try clear c4b0);(try clear c4b1);(try clear c7);(try clear c9);(try clear fh);(try clear a7);(try clear c14b0);(try clear c14b1);(try clear a8);(try clear c15b0);(try clear c15b1);(try clear fi);(try clear fj);(try clear fk);(try clear fl);(try clear bf bg bh b1 b2 b3);(try clear bi bj bk b4 b5 b6);(try clear bl bm bn b7 b8 b9);(try clear bo bp bq ca cb cd);(try clear br bs bt ce cf cg);(try clear bu bv bw ch ci cj);(try clear bx bz b0 ck cl cm)
       obtain⟨am,I,rfl,HA,du,HO_11,HO_16,HO_19,HO_520002,D,Y,HB⟩:=hrel
       cases gk with
       |zero=>exact absurd HA.out (by simp[recoupref19_Least.l0])
       |succ k1=>
        have H:=HA.out;clear HA;simp only[recoupref19_Least.l0]at H;by_cases a9:I<(O.length:Int)
        ·rw[if_pos a9]at H
         have c40b0:decide (I<(O.length:Int))=true:=decide_eq_true a9;clear a9;by_cases cx:0≤I
         ·rw[if_pos cx]at H
          have c41b0:decide (0≤I)=true:=decide_eq_true cx;clear cx;by_cases cy:I<(af.length:Int)
          ·rw[if_pos cy]at H
           have c42b0:decide (I<(af.length:Int))=true:=decide_eq_true cy;clear cy;by_cases cz:0≤(rd O I)
           ·rw[if_pos cz]at H
            have c43b0:decide (0≤(rd O I))=true:=decide_eq_true cz;clear cz;by_cases c5:(rd O I)<(am.length:Int)
            ·rw[if_pos c5]at H
             have c44b0:decide ((rd O I)<(am.length:Int))=true:=decide_eq_true c5;clear c5;obtain⟨dj,av⟩: ∃y_:List Int,y_=(am.set ((rd O I):Int).toNat (rd af I)):=⟨_,rfl⟩
             replace H:(recoupref19_Least.l0 k1 aw O af dj (wrap64 (I+1)))=some (r1,r2,r3,r4):=by first|(rw[av];with_reducible exact H)|(have H2_:=(Option.bind_some _ _).symm.trans H;rw[av];with_reducible exact H2_)|(have H2_:=(Option.bind_some _ _).symm.trans H;with_reducible exact H2_)|with_reducible exact H|(rw[av];exact H)|exact H
             have dl:=aK av;clear av;have H':=aK H;clear H
             try go_wp2
             replace HO_11:=aK (Kd.R_drew HO_11.out);replace HO_16:=aK (Kd.R_drew HO_16.out);replace HO_19:=aK (Kd.R_drew HO_19.out);replace HO_520002:=aK (Kd.R_drew HO_520002.out);replace D:=aK (blk_drew D.out);replace Y:=aK (blk_drew Y.out);replace HB:=aK (below_drew1 HB.out);have co:0≤(I:Int):=of_decide_eq_true asE;have cq:I<(O.length:Int):=of_decide_eq_true asE;obtain⟨dm,dw,az⟩:=Kd.at_int (Kd.R_reads' HO_11.out).2.2 I co cq
             cases dw
             replace co:=eq_true co;replace cq:=eq_true cq;obtain⟨e8,fc,dg⟩:=Kd.R_slice HO_16.out
             (first|subst dg|(injection dg with f1_ f2_ f3_;have f4_:=f1_.symm;have f5_:=f3_.symm;clear f1_ f2_ f3_;subst f4_;subst f5_))
             have cp:0≤(I:Int):=of_decide_eq_true asE;have cr:I<(af.length:Int):=of_decide_eq_true asE;obtain⟨dn,dx,a0⟩:=Kd.at_int (Kd.R_reads' HO_16.out).2.2 I cp cr
             cases dx
             replace cp:=eq_true cp;replace cr:=eq_true cr;have p45:0≤((rd O I):Int):=of_decide_eq_true asE;have dr:((rd O I):Int)<((am.length:Int):Int):=of_decide_eq_true asE;obtain⟨ay,fb,df,dh,d1,fa,dc⟩:=Kd.R_form HO_19.out za
             (first|cases df|(injection df with ea_ en_ ec_;(first|subst ea_|(injection ea_ with ea_;subst ea_));subst ec_;clear en_))
             have e9:=aK dh;have db:=aK dc;clear dh d1 dc;obtain⟨c8,c6⟩:=Kd.R_celln 0 HO_19.out ((rd O I):Int) p45 dr;replace p45:=eq_true p45;replace dr:=eq_true dr;have ba:=Kd.R_putn HO_19.out ((rd O I):Int) (rd af I);rw[←dl.out]at ba
             have dd:=aK ba;clear ba;refine start_ (n:=11) (S:=fun w'=>w'.cell? (dm.add (I).toNat)=some (.int .i64 (rd O I))∧w'.cell? (dn.add (I).toNat)=some (.int .u8 (rd af I))) (ds:= [10]) (.replicate 11 false) zb rfl rfl ⟨az,a0⟩ (fun hHeld=>?_);refine with_tabW recoupref19_Least.tab17 recoupref19_Least.bits17 (fun HT_ HW_=>?_);generalize wr.drew=fz at HO_11 HO_16 HO_19 HO_520002 D Y HB db dd c6 c8 az a0 hHeld⊢;refine pu 0 (some 72) (mB 11 1) HT_ ?_;refine pu 1 (some 73) (mB 11 3) HT_ ?_;refine pu 2 (some 74) (mB 11 7) HT_ ?_;refine pu 3 (some 75) (mB 11 15) HT_ ?_;refine pu 5 (some 77) (mB 11 47) HT_ ?_;refine pu 6 (some 78) (mB 11 111) HT_ ?_;refine pu 7 (some 79) (mB 11 239) HT_ ?_;refine tk2 4 (some 76) (mB 11 255) HT_ HW_ hHeld ?_;refine tk2 8 (some 80) (mB 11 511) HT_ HW_ hHeld ?_;refine pu 9 (some 81) (mB 11 1023) HT_ ?_;refine zlh 10 (none) (mB 11 2047) HT_ fun K hK=>?_;refine zsk ?_;refine hK.out _ _ ?_;clear hK K;refine done_ (done_of HT_.out zb) ?_
             try go_wp2
             go_roundg k1
             case measure=>have:=du.out;omega
             case rel=>exact⟨(dj),(wrap64 (I+1)),rsE,H',⟨by have:=du.out;omega⟩,⟨by(with_reducible repeat(first|apply Kd.R_alloc|apply Kd.R_drewN|apply Kd.R_drew));exact Kd.R_mono (Kd.R_far (p:=⟨ay,((rd O I):Int).toNat,none⟩) (Kd.R_types HO_11.out db.out zc) (fun _ hk=>hk.2) (.int .u8 (rd af I))) (fun _ hk=>trivial)⟩,⟨by(with_reducible repeat(first|apply Kd.R_alloc|apply Kd.R_drewN|apply Kd.R_drew));exact Kd.R_mono (Kd.R_far (p:=⟨ay,((rd O I):Int).toNat,none⟩) (Kd.R_mono HO_16.out (fun k_ hk=>(⟨hk,fun e_=>hk.1 zh⟩:_∧k_≠ay))) (fun _ hk=>hk.2) (.int .u8 (rd af I))) (fun _ hk=>⟨hk.1.1,hk.1.2⟩)⟩,⟨kdA dd.out⟩,⟨by(with_reducible repeat(first|apply Kd.R_alloc|apply Kd.R_drewN|apply Kd.R_drew));exact Kd.R_mono (Kd.R_far (p:=⟨ay,((rd O I):Int).toNat,none⟩) (Kd.R_mono HO_520002.out (fun k_ hk=>(⟨hk,fun e_=>hk.2 zh⟩:_∧k_≠ay))) (fun _ hk=>hk.2) (.int .u8 (rd af I))) (fun _ hk=>⟨hk.1.1,hk.1.2⟩)⟩,⟨by refine bkR ?_;refine blk_far ?_ (by have h_:=Kd.R_ne HO_19.out D.out zc;intro e_;exact h_ zh) _;refine bkR ?_;exact D.out⟩,⟨by refine bkR ?_;refine blk_far ?_ (by have h_:=Kd.R_ne HO_19.out Y.out zc;intro e_;exact h_ zh) _;refine bkR ?_;exact Y.out⟩,⟨hbA HB.out⟩⟩
            ·rw[if_neg c5]at H
             exact absurd H zd
           ·rw[if_neg cz]at H
            exact absurd H zd
          ·rw[if_neg cy]at H
           exact absurd H zd
         ·rw[if_neg cx]at H
          exact absurd H zd
        ·rw[if_neg a9]at H
         have c40b0:decide (I<(O.length:Int))=false:=decide_eq_false a9;clear a9;simp only[Option.some.injEq,Prod.mk.injEq]at H;obtain⟨rfl,rfl,rfl,rfl⟩:=H;go_wp2;refine bodyPost_ret (results_list (rs:= [.tmp 4,.tmp 5,.tmp 6,.tmp 7]) rfl zd (.tmp (.tmp (.tmp (.tmp .nil))))) rfl ?_;exact⟨_,rfE,by(with_reducible repeat(first|apply Kd.R_alloc|apply Kd.R_drewN|apply Kd.R_drew));exact Kd.R_mono HO_19.out (fun _ hk=>trivial),hbA HB.out⟩
     ·rw[if_neg a8]at H
      exact absurd H zd
    ·rw[if_neg a7]at H
     exact absurd H zd
   ·replace c9:=Bool.eq_false_iff.mpr c9;subst c9;rw[if_neg nofT]at H
    simp only[Option.some.injEq,Prod.mk.injEq]at H;obtain⟨rfl,rfl,rfl,rfl⟩:=H
    go_enter Tryd.func12,Tryd.ntmps12
    try go_wp2_with (first|((with_reducible refine gD 2 rfl ?_);refine bE 2 #[.int .i64 G,.int .i64 L,.slice U J.length X] 24 ?_;intro ae hg f0 hbox hb;have D:=aK (hbox);have a3:=hbS HB hg;have a2:=hbS HB hg;replace HB:=hbB HB hb;clear hb hbox hg;obtain⟨d2,d3,d4,ee,ef,eg⟩:=cell3 D)|((with_reducible refine gC 39 rfl ?_);refine cG (some 23) Tryd.func39 #[.agg #[.int .i64 G,.int .i64 L,.slice U J.length X],.int .i64 a1] ?_;(with_reducible refine(recoupref19_bad.calls G L _ _ J a1 ai _ ?side1 ?side2 A3.out).mono ?_);(case side1=>exact kcB ac HB);(case side2=>exact aa.out);rintro e e6 ⟨rfl,hb⟩;refine⟨_,rfl,?_⟩;replace D:=bkB D hb;replace HB:=hbB HB hb;(try clear hb)))
    replace D:=aK (blk_drew D.out);replace HB:=aK (below_drew1 HB.out);refine start_ (n:=7) (S:=fun w'=>w'.cell? ⟨ae,0,none⟩=some (.int .i64 G)∧w'.cell? ⟨ae,1,none⟩=some (.int .i64 L)∧w'.cell? ⟨ae,2,none⟩=some (.slice U J.length X)) (ds:= []) (.replicate 7 false) zb rfl rfl ⟨(blk_cell D.out 0).trans rfl,(blk_cell D.out 1).trans rfl,(blk_cell D.out 2).trans rfl⟩ (fun hHeld=>?_);generalize e6.drew=f1 at D HB hHeld⊢;refine zpu 1 (some 28) (mB 7 2) ?_;refine zpu 3 (some 30) (mB 7 10) ?_;refine ztk3 0 (some 27) (mB 7 11) hHeld ?_;refine ztk3 2 (some 29) (mB 7 15) hHeld ?_;refine zon 4 (some 31) (mB 7 31) fun K hK=>?_;refine goes_ Tryd.func41 zb rfl #[.agg #[.int .i64 G,.int .i64 L,.slice U J.length X],.int .i64 a1] ze rfl rfl (by(try simp only[List.map_toArray,List.map_cons,List.map_nil]);first|done|rfl|(simp only[List.length_drop,List.length_take];rfl)) ?_;with_reducible refine(recoupref19_others.calls k G L _ _ J a1 ak _ ?side1 ?side2 A5.out).mono ?_
    (case side1=>exact kcB ac HB)
    (case side2=>exact aa.out)
    rintro e f2 ⟨rfl,hb⟩;refine⟨_,rfl,?_⟩;replace D:=bkB D hb;replace HB:=hbB HB hb
    (try clear hb)
    (try clear bd)
    (try clear hk)
    (try clear hi)
    refine hK.out _ _ ⟨(blk_cell D.out 0).trans rfl,(blk_cell D.out 1).trans rfl,(blk_cell D.out 2).trans rfl⟩ (fun hHeld=>?_);clear hK K;refine znm (some 31) ?_;refine zon 5 (some 32) (mB 7 63) fun K hK=>?_;refine goes_ Tryd.func40 zb rfl #[.agg #[.int .i64 G,.int .i64 L,.slice U J.length X],.int .i64 a1,.int .u64 ak] ze rfl rfl (by(try simp only[List.map_toArray,List.map_cons,List.map_nil]);first|done|rfl|(simp only[List.length_drop,List.length_take];rfl)) ?_;with_reducible refine(recoupref19_repairs.calls k G L _ _ J a1 ak true _ ?side1 ?side2 A6.out).mono ?_
    (case side1=>exact kcB ac HB)
    (case side2=>exact aa.out)
    rintro e f3 ⟨rfl,hb⟩;refine⟨_,rfl,?_⟩;replace D:=bkB D hb;replace HB:=hbB HB hb
    (try clear hb)
    (try clear bd)
    (try clear hk)
    (try clear hi)
    refine hK.out _ _ ⟨(blk_cell D.out 0).trans rfl,(blk_cell D.out 1).trans rfl,(blk_cell D.out 2).trans rfl⟩ (fun hHeld=>?_);clear hK K;refine znm (some 32) ?_;refine zpu 6 (some 33) (mB 7 127) ?_;refine done_ zb ?_;obtain⟨d5,d6,d7,eh,ei,ej⟩:=cell3 D
    try go_wp2_with (first|((with_reducible refine gC 42 rfl ?_);refine cG (some 37) Tryd.func42 #[.agg #[.int .i64 G,.int .i64 L,.slice U J.length X],.int .i64 a1] ?_;(with_reducible refine(recoupref19_first.calls k G L _ _ J a1 aw false _ ?side1 ?side2 A8.out).mono ?_);(case side1=>exact kcB ac HB);(case side2=>exact aa.out);rintro e f4 ⟨rfl,hb⟩;refine⟨_,rfl,?_⟩;replace D:=bkB D hb;replace HB:=hbB HB hb;(try clear hb)))
    refine bodyPost_ret (results_list (rs:= [.tmp 4,.tmp 5,.tmp 6,.tmp 7]) rfl zd (.tmp (.tmp (.tmp (.tmp .nil))))) rfl ?_;exact⟨_,rfE,nilE,hbA HB.out⟩
  ·replace c7:=Bool.eq_false_iff.mpr c7;subst c7;rw[if_neg nofT]at H
   simp only[Option.some.injEq,Prod.mk.injEq]at H;obtain⟨rfl,rfl,rfl,rfl⟩:=H
   go_enter Tryd.func12,Tryd.ntmps12
   try go_wp2_with (first|((with_reducible refine gD 2 rfl ?_);refine bE 2 #[.int .i64 G,.int .i64 L,.slice U J.length X] 24 ?_;intro ae hg f5 hbox hb;have D:=aK (hbox);have a3:=hbS HB hg;have a2:=hbS HB hg;replace HB:=hbB HB hb;clear hb hbox hg;obtain⟨d8,d9,ea,ek,el,em⟩:=cell3 D)|((with_reducible refine gC 39 rfl ?_);refine cG (some 23) Tryd.func39 #[.agg #[.int .i64 G,.int .i64 L,.slice U J.length X],.int .i64 a1] ?_;(with_reducible refine(recoupref19_bad.calls G L _ _ J a1 ai _ ?side1 ?side2 A3.out).mono ?_);(case side1=>exact kcB ac HB);(case side2=>exact aa.out);rintro e e7 ⟨rfl,hb⟩;refine⟨_,rfl,?_⟩;replace D:=bkB D hb;replace HB:=hbB HB hb;(try clear hb)))
   replace D:=aK (blk_drew D.out);replace HB:=aK (below_drew1 HB.out);refine start_ (n:=7) (S:=fun w'=>w'.cell? ⟨ae,0,none⟩=some (.int .i64 G)∧w'.cell? ⟨ae,1,none⟩=some (.int .i64 L)∧w'.cell? ⟨ae,2,none⟩=some (.slice U J.length X)) (ds:= []) (.replicate 7 false) zb rfl rfl ⟨(blk_cell D.out 0).trans rfl,(blk_cell D.out 1).trans rfl,(blk_cell D.out 2).trans rfl⟩ (fun hHeld=>?_);generalize e7.drew=f6 at D HB hHeld⊢;refine zpu 1 (some 28) (mB 7 2) ?_;refine zpu 3 (some 30) (mB 7 10) ?_;refine ztk3 0 (some 27) (mB 7 11) hHeld ?_;refine ztk3 2 (some 29) (mB 7 15) hHeld ?_;refine zon 4 (some 31) (mB 7 31) fun K hK=>?_;refine goes_ Tryd.func41 zb rfl #[.agg #[.int .i64 G,.int .i64 L,.slice U J.length X],.int .i64 a1] ze rfl rfl (by(try simp only[List.map_toArray,List.map_cons,List.map_nil]);first|done|rfl|(simp only[List.length_drop,List.length_take];rfl)) ?_;with_reducible refine(recoupref19_others.calls k G L _ _ J a1 ak _ ?side1 ?side2 A5.out).mono ?_
   (case side1=>exact kcB ac HB)
   (case side2=>exact aa.out)
   rintro e f7 ⟨rfl,hb⟩;refine⟨_,rfl,?_⟩;replace D:=bkB D hb;replace HB:=hbB HB hb
   (try clear hb)
   (try clear bd)
   (try clear hk)
   (try clear hi)
   refine hK.out _ _ ⟨(blk_cell D.out 0).trans rfl,(blk_cell D.out 1).trans rfl,(blk_cell D.out 2).trans rfl⟩ (fun hHeld=>?_);clear hK K;refine znm (some 31) ?_;refine zon 5 (some 32) (mB 7 63) fun K hK=>?_;refine goes_ Tryd.func40 zb rfl #[.agg #[.int .i64 G,.int .i64 L,.slice U J.length X],.int .i64 a1,.int .u64 ak] ze rfl rfl (by(try simp only[List.map_toArray,List.map_cons,List.map_nil]);first|done|rfl|(simp only[List.length_drop,List.length_take];rfl)) ?_;with_reducible refine(recoupref19_repairs.calls k G L _ _ J a1 ak false _ ?side1 ?side2 A6.out).mono ?_
   (case side1=>exact kcB ac HB)
   (case side2=>exact aa.out)
   rintro e f8 ⟨rfl,hb⟩;refine⟨_,rfl,?_⟩;replace D:=bkB D hb;replace HB:=hbB HB hb
   (try clear hb)
   (try clear bd)
   (try clear hk)
   (try clear hi)
   refine hK.out _ _ ⟨(blk_cell D.out 0).trans rfl,(blk_cell D.out 1).trans rfl,(blk_cell D.out 2).trans rfl⟩ (fun hHeld=>?_);clear hK K;refine znm (some 32) ?_;refine zpu 6 (some 33) (mB 7 127) ?_;refine done_ zb ?_
   try go_wp2
   refine bodyPost_ret (results_list (rs:= [.tmp 4,.tmp 5,.tmp 6,.tmp 7]) rfl zd (.tmp (.tmp (.tmp (.tmp .nil))))) rfl ?_;exact⟨_,rfE,nilE,hbA HB.out⟩
 ·rw[if_neg c4]at H
  have c4b0:(ai==0)=false:=beq_eq_false_iff_ne.mpr c4;have c4b1:(ai !=0)=true:=bne_iff_ne.mpr c4;simp only[Option.some.injEq,Prod.mk.injEq]at H;obtain⟨rfl,rfl,rfl,rfl⟩:=H
  go_enter Tryd.func12,Tryd.ntmps12
  go_wp2_with (first|((with_reducible refine gD 2 rfl ?_);refine bE 2 #[.int .i64 G,.int .i64 L,.slice U J.length X] 24 ?_;intro ae hg f9 hbox hb;have D:=aK (hbox);have a3:=hbS HB hg;have a2:=hbS HB hg;replace HB:=hbB HB hb;clear hb hbox hg;obtain⟨eb,ec,ed,en,eo,ep⟩:=cell3 D)|((with_reducible refine gC 39 rfl ?_);refine cG (some 23) Tryd.func39 #[.agg #[.int .i64 G,.int .i64 L,.slice U J.length X],.int .i64 a1] ?_;(with_reducible refine(recoupref19_bad.calls G L _ _ J a1 ai _ ?side1 ?side2 A3.out).mono ?_);(case side1=>exact kcB ac HB);(case side2=>exact aa.out);rintro e ga ⟨rfl,hb⟩;refine⟨_,rfl,?_⟩;replace D:=bkB D hb;replace HB:=hbB HB hb;(try clear hb)))
  refine bodyPost_ret (results_list (rs:= [.tmp 4,.tmp 5,.tmp 6,.tmp 7]) rfl zd (.tmp (.tmp (.tmp (.tmp .nil))))) rfl ?_;exact⟨_,rfE,nilE,hbA HB.out⟩
def recoupref01_Same.f(l0:List Int)(l1:List Int):Option (Bool):=some ((strOfNums l0).toList==(strOfNums l1).toList)
set_option maxHeartbeats 8000000 in
set_option maxRecDepth 100000 in
theorem recoupref01_Same.calls(A0:Option Addr)(c0:Nat)(l0:List Int)(A1:Option Addr)(c1:Nat)(l1:List Int)(r:Bool)(w:World)(I:Kd.C (Kd.int .u8) w A0 l0.length l0)(D:l0.length≤c0)(J:Kd.C (Kd.int .u8) w A1 l1.length l1)(G:l1.length≤c1)(h:recoupref01_Same.f l0 l1=some r):
 Calls Tryd.prog 13 #[.slice A0 l0.length c0,.slice A1 l1.length c1] w fun e w'=>e= .returned (.bool r)∧Drawn0 w w':=by
 have L:=aK I;have Y:=aK D;clear I D;have O:=aK J;have Z:=aK G;clear J G;have H:(some ((strOfNums l0).toList==(strOfNums l1).toList))=some r:=h;clear h;obtain rfl:=Option.some.inj H;have U:=Kd.C_string (P:=Tryd.prog) (A:=A0) (c:=c0) Tryd.underlying22 Tryd.underlying5 Tryd.underlying9 L.out;have X:=Kd.C_string (P:=Tryd.prog) (A:=A1) (c:=c1) Tryd.underlying22 Tryd.underlying5 Tryd.underlying9 O.out
 go_enter Tryd.func13,Tryd.ntmps13
 go_wp2
 go_ret
 exact⟨by first|rfl|(simp;done)|(simp[*];done),by repeat(first|exact Drawn0.refl _|apply Drawn0.step)⟩
def recouplaw19_LocalLeast.f(k:Nat)(I:Int)(J:Int)(L:List Int)(a1:Int):Option (Bool):=(local_Least.f k I J L a1).bind fun D=>((recoupref19_Least.f k I J L a1).bind fun G=>(if D.1=G.1 then((recoupref01_Same.f D.2.1 G.2.1).bind fun O=>(if O=true then(if(D.2.2.1==G.2.2.1)=true then(some (D.2.2.2==G.2.2.2))else(some false))else(some false)))else(some false)))
set_option maxHeartbeats 8000000 in
set_option maxRecDepth 100000 in
theorem recouplaw19_LocalLeast.calls(k:Nat)(J:Int)(L:Int)(X:Option Addr)(Y:Nat)(I:List Int)(a1:Int)(r:Bool)(w:World)(aq:Kd.C (Kd.int .u8) w X I.length I)(ap:I.length≤Y)(h:recouplaw19_LocalLeast.f k J L I a1=some r)(hT:TabAt 0 Lib.deBruijn64tab w):
 Calls Tryd.prog 4 #[.agg #[.int .i64 J,.int .i64 L,.slice X I.length Y],.int .i64 a1] w fun e w'=>e= .returned (.bool r)∧Below w.heap.size w w':=by
 have HT:=aK hT;clear hT;have cu:=Tryd.underlying24;have ac:=aK aq;have ab:=aK ap;clear aq ap;have HB:=aK (Below.refl w.heap.size w);have H:((local_Least.f k J L I a1).bind fun ai=>((recoupref19_Least.f k J L I a1).bind fun aj=>(if ai.1=aj.1 then((recoupref01_Same.f ai.2.1 aj.2.1).bind fun ar=>(if ar=true then(if(ai.2.2.1==aj.2.2.1)=true then(some (ai.2.2.2==aj.2.2.2))else(some false))else(some false)))else(some false))))=some r:=h;clear h;obtain⟨⟨ae,ag,Z,an⟩,A3,H⟩:=bindO H
 (try dsimp only at H)
 obtain⟨⟨af,ah,aa,ao⟩,A4,H⟩:=bindO H
 (try dsimp only at H)
 by_cases c5:ae=af
 ·rw[if_pos c5]at H
  have c5b0:(ae==af)=true:=beq_iff_eq.mpr c5;have c5b1:(ae !=af)=false:=bne_eq_false_iff_eq.mpr c5;clear c5;obtain⟨ar,A6,H⟩:=bindO H
  (try dsimp only at H)
  by_cases c7:ar=true
  ·subst c7;rw[if_pos rfl]at H
   by_cases c8:(Z==aa)=true
   ·rw[if_pos c8]at H
    have c8b0:(Z==aa)=true:=c8
    (try(have c8b1:decide (Z=aa)=true:=by simpa using c8))
    (try(have c8b2:(Z==aa)=true:=by simpa using c8))
    clear c8;obtain rfl:=Option.some.inj H
    go_enter Tryd.func4,Tryd.ntmps4
    go_wp2_with (first|((with_reducible refine gD 2 rfl ?_);refine bE 2 #[.int .i64 J,.int .i64 L,.slice X I.length Y] 24 ?_;intro am hg w9 hbox hb;have D:=aK (hbox);have al:=hbS HB hg;have ak:=hbS HB hg;replace HB:=hbB HB hb;clear hb hbox hg;obtain⟨a3,a4,a5,br,bs,bt⟩:=cell3 D)|((with_reducible refine gC 11 rfl ?_);refine cG (some 16) Tryd.func11 #[.agg #[.int .i64 J,.int .i64 L,.slice X I.length Y],.int .i64 a1] ?_;(with_reducible refine(local_Least.calls k J L _ _ I a1 ae ag Z an _ ?side1 ?side2 A3.out (tab_below HT.out zf)).mono ?_);(case side1=>exact kcB ac HB);(case side2=>exact ab.out);rintro e cv ⟨au,rfl,O,hb⟩;refine⟨_,rfl,?_⟩;have G:=aK (Kd.R_lower O (below_size (hbA HB.out)));replace D:=bkB D hb;replace HB:=hbB HB hb;(try clear hb);(try clear O);obtain⟨a6,a7,a8,bu,bv,bw⟩:=cell3 D)|((with_reducible refine gC 12 rfl ?_);refine cG (some 24) Tryd.func12 #[.agg #[.int .i64 J,.int .i64 L,.slice X I.length Y],.int .i64 a1] ?_;(with_reducible refine(recoupref19_Least.calls k J L _ _ I a1 af ah aa ao _ ?side1 ?side2 A4.out).mono ?_);(case side1=>exact kcB ac HB);(case side2=>exact ab.out);rintro e cw ⟨av,rfl,O,hb⟩;refine⟨_,rfl,?_⟩;have U:=aK (Kd.R_lower (Kd.R_new' O (Kd.R_lt (kdA G.out))) (below_size (hbA HB.out)));replace G:=aK (Kd.R_elder' (kdA G.out) (Kd.R_base O) hb);replace D:=bkB D hb;replace HB:=hbB HB hb;(try clear hb);(try clear O);obtain⟨ch,cn,aw⟩:=Kd.R_slice G.out;subst aw;obtain⟨ci,co,ax⟩:=Kd.R_slice U.out;subst ax)|(go_at_call 13;(with_reducible refine(recoupref01_Same.calls _ _ ag _ _ ah true _ ?side1 ?side2 ?side3 ?side4 A6.out).mono ?_);(case side1=>exact kcA (Kd.R_reads' G.out).2.2);(case side2=>exact(Kd.R_reads' G.out).2.1);(case side3=>exact kcA (Kd.R_reads' U.out).2.2);(case side4=>exact(Kd.R_reads' U.out).2.1);rintro e w' ⟨rfl,⟨nd,rfl⟩⟩))
    go_ret
    exact⟨rfE,hbA HB.out⟩
   ·rw[if_neg c8]at H
    have c8b0:(Z==aa)=false:=by simpa using c8
    (try(have c8b1:decide (Z=aa)=false:=by simpa using c8))
    (try(have c8b2:(Z==aa)=false:=by simpa using c8))
    (try(have c8b3: ¬(Z=aa):=by simpa using c8))
    clear c8;obtain rfl:=Option.some.inj H
    go_enter Tryd.func4,Tryd.ntmps4
    go_wp2_with (first|((with_reducible refine gD 2 rfl ?_);refine bE 2 #[.int .i64 J,.int .i64 L,.slice X I.length Y] 24 ?_;intro am hg cx hbox hb;have D:=aK (hbox);have al:=hbS HB hg;have ak:=hbS HB hg;replace HB:=hbB HB hb;clear hb hbox hg;obtain⟨a9,ba,bb,bx,bz,b0⟩:=cell3 D)|((with_reducible refine gC 11 rfl ?_);refine cG (some 16) Tryd.func11 #[.agg #[.int .i64 J,.int .i64 L,.slice X I.length Y],.int .i64 a1] ?_;(with_reducible refine(local_Least.calls k J L _ _ I a1 ae ag Z an _ ?side1 ?side2 A3.out (tab_below HT.out zf)).mono ?_);(case side1=>exact kcB ac HB);(case side2=>exact ab.out);rintro e cy ⟨au,rfl,O,hb⟩;refine⟨_,rfl,?_⟩;have G:=aK (Kd.R_lower O (below_size (hbA HB.out)));replace D:=bkB D hb;replace HB:=hbB HB hb;(try clear hb);(try clear O);obtain⟨bc,bd,be,b1,b2,b3⟩:=cell3 D)|((with_reducible refine gC 12 rfl ?_);refine cG (some 24) Tryd.func12 #[.agg #[.int .i64 J,.int .i64 L,.slice X I.length Y],.int .i64 a1] ?_;(with_reducible refine(recoupref19_Least.calls k J L _ _ I a1 af ah aa ao _ ?side1 ?side2 A4.out).mono ?_);(case side1=>exact kcB ac HB);(case side2=>exact ab.out);rintro e cz ⟨av,rfl,O,hb⟩;refine⟨_,rfl,?_⟩;have U:=aK (Kd.R_lower (Kd.R_new' O (Kd.R_lt (kdA G.out))) (below_size (hbA HB.out)));replace G:=aK (Kd.R_elder' (kdA G.out) (Kd.R_base O) hb);replace D:=bkB D hb;replace HB:=hbB HB hb;(try clear hb);(try clear O);obtain⟨cj,cp,ay⟩:=Kd.R_slice G.out;subst ay;obtain⟨ck,cq,az⟩:=Kd.R_slice U.out;subst az)|(go_at_call 13;(with_reducible refine(recoupref01_Same.calls _ _ ag _ _ ah true _ ?side1 ?side2 ?side3 ?side4 A6.out).mono ?_);(case side1=>exact kcA (Kd.R_reads' G.out).2.2);(case side2=>exact(Kd.R_reads' G.out).2.1);(case side3=>exact kcA (Kd.R_reads' U.out).2.2);(case side4=>exact(Kd.R_reads' U.out).2.1);rintro e w' ⟨rfl,⟨nd,rfl⟩⟩))
    go_ret
    exact⟨rfE,hbA HB.out⟩
  ·replace c7:=Bool.eq_false_iff.mpr c7;subst c7;rw[if_neg nofT]at H
   obtain rfl:=Option.some.inj H
   go_enter Tryd.func4,Tryd.ntmps4
   go_wp2_with (first|((with_reducible refine gD 2 rfl ?_);refine bE 2 #[.int .i64 J,.int .i64 L,.slice X I.length Y] 24 ?_;intro am hg c2 hbox hb;have D:=aK (hbox);have al:=hbS HB hg;have ak:=hbS HB hg;replace HB:=hbB HB hb;clear hb hbox hg;obtain⟨bf,bg,bh,b4,b5,b6⟩:=cell3 D)|((with_reducible refine gC 11 rfl ?_);refine cG (some 16) Tryd.func11 #[.agg #[.int .i64 J,.int .i64 L,.slice X I.length Y],.int .i64 a1] ?_;(with_reducible refine(local_Least.calls k J L _ _ I a1 ae ag Z an _ ?side1 ?side2 A3.out (tab_below HT.out zf)).mono ?_);(case side1=>exact kcB ac HB);(case side2=>exact ab.out);rintro e c3 ⟨au,rfl,O,hb⟩;refine⟨_,rfl,?_⟩;have G:=aK (Kd.R_lower O (below_size (hbA HB.out)));replace D:=bkB D hb;replace HB:=hbB HB hb;(try clear hb);(try clear O);obtain⟨bi,bj,bk,b7,b8,b9⟩:=cell3 D)|((with_reducible refine gC 12 rfl ?_);refine cG (some 24) Tryd.func12 #[.agg #[.int .i64 J,.int .i64 L,.slice X I.length Y],.int .i64 a1] ?_;(with_reducible refine(recoupref19_Least.calls k J L _ _ I a1 af ah aa ao _ ?side1 ?side2 A4.out).mono ?_);(case side1=>exact kcB ac HB);(case side2=>exact ab.out);rintro e c4 ⟨av,rfl,O,hb⟩;refine⟨_,rfl,?_⟩;have U:=aK (Kd.R_lower (Kd.R_new' O (Kd.R_lt (kdA G.out))) (below_size (hbA HB.out)));replace G:=aK (Kd.R_elder' (kdA G.out) (Kd.R_base O) hb);replace D:=bkB D hb;replace HB:=hbB HB hb;(try clear hb);(try clear O);obtain⟨cl,cr,a0⟩:=Kd.R_slice G.out;subst a0;obtain⟨cm,ct,a2⟩:=Kd.R_slice U.out;subst a2)|(go_at_call 13;(with_reducible refine(recoupref01_Same.calls _ _ ag _ _ ah false _ ?side1 ?side2 ?side3 ?side4 A6.out).mono ?_);(case side1=>exact kcA (Kd.R_reads' G.out).2.2);(case side2=>exact(Kd.R_reads' G.out).2.1);(case side3=>exact kcA (Kd.R_reads' U.out).2.2);(case side4=>exact(Kd.R_reads' U.out).2.1);rintro e w' ⟨rfl,⟨nd,rfl⟩⟩))
   go_ret
   exact⟨rfE,hbA HB.out⟩
 ·rw[if_neg c5]at H
  have c5b0:(ae==af)=false:=beq_eq_false_iff_ne.mpr c5;have c5b1:(ae !=af)=true:=bne_iff_ne.mpr c5;obtain rfl:=Option.some.inj H
  go_enter Tryd.func4,Tryd.ntmps4
  go_wp2_with (first|((with_reducible refine gD 2 rfl ?_);refine bE 2 #[.int .i64 J,.int .i64 L,.slice X I.length Y] 24 ?_;intro am hg c6 hbox hb;have D:=aK (hbox);have al:=hbS HB hg;have ak:=hbS HB hg;replace HB:=hbB HB hb;clear hb hbox hg;obtain⟨bl,bm,bn,ca,cb,cd⟩:=cell3 D)|((with_reducible refine gC 11 rfl ?_);refine cG (some 16) Tryd.func11 #[.agg #[.int .i64 J,.int .i64 L,.slice X I.length Y],.int .i64 a1] ?_;(with_reducible refine(local_Least.calls k J L _ _ I a1 ae ag Z an _ ?side1 ?side2 A3.out (tab_below HT.out zf)).mono ?_);(case side1=>exact kcB ac HB);(case side2=>exact ab.out);rintro e c9 ⟨au,rfl,O,hb⟩;refine⟨_,rfl,?_⟩;have G:=aK (Kd.R_lower O (below_size (hbA HB.out)));replace D:=bkB D hb;replace HB:=hbB HB hb;(try clear hb);(try clear O);obtain⟨bo,bp,bq,ce,cf,cg⟩:=cell3 D)|((with_reducible refine gC 12 rfl ?_);refine cG (some 24) Tryd.func12 #[.agg #[.int .i64 J,.int .i64 L,.slice X I.length Y],.int .i64 a1] ?_;(with_reducible refine(recoupref19_Least.calls k J L _ _ I a1 af ah aa ao _ ?side1 ?side2 A4.out).mono ?_);(case side1=>exact kcB ac HB);(case side2=>exact ab.out);rintro e da ⟨av,rfl,O,hb⟩;refine⟨_,rfl,?_⟩;have U:=aK (Kd.R_lower (Kd.R_new' O (Kd.R_lt (kdA G.out))) (below_size (hbA HB.out)));replace G:=aK (Kd.R_elder' (kdA G.out) (Kd.R_base O) hb);replace D:=bkB D hb;replace HB:=hbB HB hb;(try clear hb);(try clear O)))
  go_ret
  exact⟨rfE,hbA HB.out⟩
end Go.Proofs.YtjgcocfnilhggaaDoor.Q
