/- Texts of the proof of ShareShares: what each Go function answers, and what the answers mean; no condition beyond each theorem's own. -/
import Derived.Test.YtnfemjnajfdepaaSs2
set_option maxHeartbeats 16000000
set_option maxRecDepth 100000
set_option linter.unusedVariables false
set_option linter.unusedSimpArgs false
namespace Go.Proofs.Ytnfemjnajfdepaa.Q
open RowKit YtnfemjnajfdepaaW.PrintWords YtnfemjnajfdepaaW.PrintLast YtnfemjnajfdepaaW.PrintMore
attribute [local go_sem] max2_int min2_int max_two min_two max_three min_three max_four min_four
mutual
def recoupref21_May.j0:Nat->Bool->List Int->List (List (S61))->List Int->Option (Bool)
 |0,_,_,_,_=>none
 |k+1,J,D,G,I=>if J=true then(some false)else(recoupref21_May.l0 k 0 D G I)
def recoupref21_May.l0:Nat->Int->List Int->List (List (S61))->List Int->Option (Bool)
 |0,_,_,_,_=>none
 |k+1,x3,D,G,I=>if x3<(D.length:Int)then(if 0<=x3 then(if(rd D x3)<0 then(some false)else(if(rd D x3)>=64 then(some false)else(if x3>0 then(if 0<=(wrap64 (x3-1))then(if(wrap64 (x3-1))<(D.length:Int)then(if(rd D x3)<=(rd D (wrap64 (x3-1)))then(some false)else(recoupref21_May.l0 k (wrap64 (x3+1)) D G I))else(none))else(none))else(recoupref21_May.l0 k (wrap64 (x3+1)) D G I))))else(none))else(recoupref21_May.l1 k 0 D G I)
def recoupref21_May.l1:Nat->Int->List Int->List (List (S61))->List Int->Option (Bool)
 |0,_,_,_,_=>none
 |k+1,x4,G,D,I=>if x4<(D.length:Int)then(recoupref21_May.l2 k x4 0 G D I)else(recoupref21_May.l3 k 0 G D I)
def recoupref21_May.l2:Nat->Int->Int->List Int->List (List (S61))->List Int->Option (Bool)
 |0,_,_,_,_,_=>none
 |k+1,x4,x5,G,D,I=>if 0<=x4 then(if x4<(D.length:Int)then(if x5<((rd_L5 D x4).length:Int)then(if 0<=x5 then(if((rd_T61 (rd_L5 D x4) x5).f1)=0 then(some false)else(if((rd_T61 (rd_L5 D x4) x5).f0)<0 then(some false)else(if((rd_T61 (rd_L5 D x4) x5).f0)>=(wrap64 ((G.length:Int)+x4))then(some false)else(if x5>0 then(if 0<=(wrap64 (x5-1))then(if(wrap64 (x5-1))<((rd_L5 D x4).length:Int)then(if((rd_T61 (rd_L5 D x4) x5).f0)<=((rd_T61 (rd_L5 D x4) (wrap64 (x5-1))).f0)then(some false)else(recoupref21_May.l2 k x4 (wrap64 (x5+1)) G D I))else(none))else(none))else(recoupref21_May.l2 k x4 (wrap64 (x5+1)) G D I)))))else(none))else(recoupref21_May.l1 k (wrap64 (x4+1)) G D I))else(none))else(none)
def recoupref21_May.l3:Nat->Int->List Int->List (List (S61))->List Int->Option (Bool)
 |0,_,_,_,_=>none
 |k+1,x7,G,I,D=>if x7<(D.length:Int)then(if 0<=x7 then(if(rd D x7)<0 then(some false)else(if(rd D x7)>=(wrap64 ((G.length:Int)+(I.length:Int)))then(some false)else(recoupref21_May.l3 k (wrap64 (x7+1)) G I D)))else(none))else(some true)
end
def recoupref21_May.f(k:Nat)(I:List Int)(D:List (List (S61)))(G:List Int):Option (Bool):=if(D.length:Int)>4096 then(recoupref21_May.j0 k true I D G)else(recoupref21_May.j0 k (decide ((G.length:Int)>64)) I D G)
theorem recoupref21_May.mono_l: ∀k,(∀y0 y1 y2 y3,LeO (recoupref21_May.j0 k y0 y1 y2 y3) (recoupref21_May.j0 (k+1) y0 y1 y2 y3))/\(∀y0 y1 y2 y3,LeO (recoupref21_May.l0 k y0 y1 y2 y3) (recoupref21_May.l0 (k+1) y0 y1 y2 y3))/\(∀y0 y1 y2 y3,LeO (recoupref21_May.l1 k y0 y1 y2 y3) (recoupref21_May.l1 (k+1) y0 y1 y2 y3))/\(∀y0 y1 y2 y3 y4,LeO (recoupref21_May.l2 k y0 y1 y2 y3 y4) (recoupref21_May.l2 (k+1) y0 y1 y2 y3 y4))/\(∀y0 y1 y2 y3,LeO (recoupref21_May.l3 k y0 y1 y2 y3) (recoupref21_May.l3 (k+1) y0 y1 y2 y3))
 |0=>⟨fun _ _ _ _ r h=>by simp[recoupref21_May.j0]at h,fun _ _ _ _ r h=>by simp[recoupref21_May.l0]at h,fun _ _ _ _ r h=>by simp[recoupref21_May.l1]at h,fun _ _ _ _ _ r h=>by simp[recoupref21_May.l2]at h,fun _ _ _ _ r h=>by simp[recoupref21_May.l3]at h⟩
 |k+1=>by
  obtain⟨D,G,I,J,L⟩:=recoupref21_May.mono_l k;refine⟨?_,?_,?_,?_,?_⟩;all_goals(intros;first|unfold recoupref21_May.j0|unfold recoupref21_May.l0|unfold recoupref21_May.l1|unfold recoupref21_May.l2|unfold recoupref21_May.l3)
  all_goals repeat' first|(with_reducible exact D _ _ _ _)|(with_reducible exact G _ _ _ _)|(with_reducible exact I _ _ _ _)|(with_reducible exact J _ _ _ _ _)|(with_reducible exact L _ _ _ _)|(with_reducible exact LeO.refl _)|(with_reducible exact LeO.none _)|(with_reducible refine LeO.ite ?_ ?_)|(with_reducible refine LeO.bind ?_ (fun _=>?_))|exact D _ _ _ _|exact G _ _ _ _|exact I _ _ _ _|exact J _ _ _ _ _|exact L _ _ _ _|exact LeO.none _|refine LeO.ite ?_ ?_|refine LeO.bind ?_ (fun _=>?_)
theorem recoupref21_May.mono: ∀a0 a1 a2 k,LeO (recoupref21_May.f k a0 a1 a2) (recoupref21_May.f (k+1) a0 a1 a2):=by
 intro a0 a1 a2 k;obtain⟨D,G,I,J,L⟩:=recoupref21_May.mono_l k;unfold recoupref21_May.f
 with_reducible repeat' first|exact D _ _ _ _|exact G _ _ _ _|exact I _ _ _ _|exact J _ _ _ _ _|exact L _ _ _ _|exact LeO.refl _|exact LeO.none _|refine LeO.ite ?_ ?_|refine LeO.bind ?_ (fun _=>?_)
theorem recoupref21_May.calls(k:Nat)(ao:Option Addr)(aq:Nat)(aa:List Int)(ck:Option Addr)(ar:Nat)(I:List (List (S61)))(ap:Option Addr)(au:Nat)(ah:List Int)(r:Bool)(w:World)(kk:Kd.C (Kd.int .i64) w ao aa.length aa)(ip:aa.length<=aq)(km:Kd.C (Kd.slice 61 k61) w ck I.length I)(iq:I.length<=ar)(kn:Kd.C (Kd.int .i64) w ap ah.length ah)(ir:ah.length<=au)(h:recoupref21_May.f k aa I ah=some r):
 Calls Try.prog 18 #[.agg #[.slice ao aa.length aq,.slice ck I.length ar,.slice ap ah.length au]] w fun e w'=>e= .returned (.bool r)/\Below w.heap.size w w':=by
 have lv:=Try.underlying25;have lw:=Try.underlying61;have bu:=aK kk;have lr:=aK ip;clear kk ip;have a9:=aK km;have ls:=aK iq;clear km iq;have dm:=aK kn;have lt:=aK ir;clear kn ir;have HB:=aK (Below.refl w.heap.size w);have H:(if(I.length:Int)>4096 then(recoupref21_May.j0 k true aa I ah)else(recoupref21_May.j0 k (decide ((ah.length:Int)>64)) aa I ah))=some r:=h;clear h;have kt:=aK H;clear H
 go_enter Try.func18,Try.ntmps18
 go_upto_region 1 with(first|((with_reducible refine gD 1 rfl ?_);(try(refine gate_guard zae ?_;dsimp only));refine bE 1 #[.slice ao aa.length aq,.slice ck I.length ar,.slice ap ah.length au] 25 ?_;intro U hg w3 hbox hb;have G:=aK (hbox);have ic:=hbS HB hg;have ib:=hbS HB hg;replace HB:=hbB HB hb;clear hb hbox hg))
 repeat(go_quiet (first|((with_reducible refine gate_dst (N:=1) rfl ?_);(try(refine gate_guard zae ?_;dsimp only));refine box_event ?hg (N:=1) ?hd (cs:= #[.slice ao aa.length aq,.slice ck I.length ar,.slice ap ah.length au]) (t:=25) ?hr ?_;(case hd=>rfl);(case hg=>rfl);(case hr=>first|(go_simp;done)|(go_simp;rfl));intro U hg w3 hbox hb;have n0_:=aK (below_step (hbA HB.out) hb);have n1_:=aK (hbox);have n2_:=aK ((by rw[hg];exact(below_size (hbA HB.out)):w.heap.size<=U));have n3_:=aK ((by rw[hg];exact(below_size (hbA HB.out)):w.heap.size<=U));clear HB;have HB:=n0_;have G:=n1_;have ic:=n2_;have ib:=n3_;clear n0_ n1_ n2_ n3_;clear hb hbox hg));go_upto_region 1 with(first|((with_reducible refine gate_dst (N:=1) rfl ?_);(try(refine gate_guard zae ?_;dsimp only));refine box_event ?hg (N:=1) ?hd (cs:= #[.slice ao aa.length aq,.slice ck I.length ar,.slice ap ah.length au]) (t:=25) ?hr ?_;(case hd=>rfl);(case hg=>rfl);(case hr=>first|(go_simp;done)|(go_simp;rfl));intro U hg w3 hbox hb;have n0_:=aK (below_step (hbA HB.out) hb);have n1_:=aK (hbox);have n2_:=aK ((by rw[hg];exact(below_size (hbA HB.out)):w.heap.size<=U));have n3_:=aK ((by rw[hg];exact(below_size (hbA HB.out)):w.heap.size<=U));clear HB;have HB:=n0_;have G:=n1_;have ic:=n2_;have ib:=n3_;clear n0_ n1_ n2_ n3_;clear hb hbox hg)))
 (try simp only[Act.put,zL])
 go_cut [17] (fun lu wc=> ∃(kq:Nat) (gj:Bool),lu= .bool gj/\Aside0 (recoupref21_May.j0 kq gj aa I ah=some r)/\Aside0 (kq<=k)/\Aside0 (wc.heap[U]? =some (.cells #[(.slice ao aa.length aq),(.slice ck I.length ar),(.slice ap ah.length au)] 25 (0,0)))/\Aside0 (Below w.heap.size w wc))
 case first=>
  have H:=kt.out;clear kt;by_cases c4:(I.length:Int)>4096
  case neg=>
   rw[if_neg c4]at H
   have c4b0:decide (4096<(I.length:Int))=false:=decide_eq_false c4;have c4b1:decide (4096<I.length)=false:=decide_eq_false zaa;clear c4
   (first|rw[c4b0] |(simp only[i64_w,i32_w];rw[c4b0])|skip)
   have H':=aK H;clear H;obtain⟨cz,da,db,df,dg,dh⟩:=cell3 G;go_wp2
   repeat(go_quiet (fail);try go_wp2)
   go_meet
   case rel=>exact⟨_,(decide ((ah.length:Int)>64)),rsE,H',⟨leE⟩,⟨bkA G.out⟩,⟨hbA HB.out⟩⟩
  rw[if_pos c4]at H
  have c4b0:decide (4096<(I.length:Int))=true:=decide_eq_true c4;have c4b1:decide (4096<I.length)=true:=decide_eq_true zaa;clear c4
  (first|rw[c4b0] |(simp only[i64_w,i32_w];rw[c4b0])|skip)
  have H':=aK H;clear H;obtain⟨cw,cx,cy,dc,dd,de⟩:=cell3 G;go_wp2
  repeat(go_quiet (fail);try go_wp2)
  go_meet
  case rel=>exact⟨_,(true),rsE,H',⟨leE⟩,⟨bkA G.out⟩,⟨hbA HB.out⟩⟩
 case rest=>
  clear kt
  (try clear c1);(try clear p2);(try clear c4);(try clear c4b0);(try clear c4b1);(try clear cw cx cy dc dd de);(try clear cz da db df dg dh)
  obtain⟨kq,gj,rfl,HA,di,G,HB⟩:=hcut
  cases kq with
  |zero=>exact absurd HA.out (by simp[recoupref21_May.j0])
  |succ lq=>
   have H:=HA.out;clear HA;simp only[recoupref21_May.j0]at H;by_cases c7:gj=true
   ·subst c7;rw[if_pos rfl]at H
    obtain rfl:=Option.some.inj H;go_wp2
    repeat(go_quiet (fail);try go_wp2)
    go_ret
    exact⟨rfE,hbA HB.out⟩
   replace c7:=Bool.eq_false_iff.mpr c7;subst c7;rw[if_neg nofT]at H
   have H':=aK H;clear H;go_wp2
   repeat(go_quiet (fail);try go_wp2)
   go_loopg [3] lq (fun kq v3 w'=> ∃(am:Int),v3= .int .i64 am/\Aside0 (recoupref21_May.l0 kq am aa I ah=some r)/\Aside0 (kq<=lq)/\Aside0 (w'.heap[U]? =some (.cells #[(.slice ao aa.length aq),(.slice ck I.length ar),(.slice ap ah.length au)] 25 (0,0)))/\Aside0 (Below w.heap.size w w'))
   case atStart=>exact⟨(0),rsE,H',⟨Nat.le_refl _⟩,⟨bkA G.out⟩,⟨hbA HB.out⟩⟩
   case round=>
    clear H'
    (try clear c1);(try clear p2 p2);(try clear c4);(try clear c4b0);(try clear c4b1);(try clear c7);(try clear cw cx cy dc dd de);(try clear cz da db df dg dh)
    obtain⟨am,rfl,HA,dj,G,HB⟩:=hrel
    cases gk with
    |zero=>exact absurd HA.out (by simp[recoupref21_May.l0])
    |succ k2=>
     have H:=HA.out;clear HA;simp only[recoupref21_May.l0]at H;by_cases c8:am<(aa.length:Int)
     ·rw[if_pos c8]at H
      have c8b0:decide (am<(aa.length:Int))=true:=decide_eq_true c8;clear c8;by_cases c9:0<=am
      case neg=>rw[if_neg c9]at H;exact absurd H zac
      rw[if_pos c9]at H
      have c9b0:decide (0<=am)=true:=decide_eq_true c9;clear c9;by_cases c10:(rd aa am)<0
      ·rw[if_pos c10]at H
       have c10b0:decide ((rd aa am)<0)=true:=decide_eq_true c10;clear c10;obtain rfl:=Option.some.inj H;obtain⟨dq,dr,dt,ey,ez,e0⟩:=cell3 G;have bn:0<=(am:Int):=of_decide_eq_true asE;have bo:am<(aa.length:Int):=of_decide_eq_true asE;obtain⟨bw,cv,ax⟩:=Kd.at_int bu.out am bn bo
       cases cv
       replace ax:=(HB.out.cell (World.block_lt_of_cell? w _ ax)).trans ax;replace bn:=eq_true bn;replace bo:=eq_true bo;go_wp2
       repeat(go_quiet (fail);try go_wp2)
       go_ret
       exact⟨rfE,hbA HB.out⟩
      rw[if_neg c10]at H
      have c10b0:decide ((rd aa am)<0)=false:=decide_eq_false c10;clear c10;by_cases ge:(rd aa am)>=64
      ·rw[if_pos ge]at H
       have c12b0:decide (64<=(rd aa am))=true:=decide_eq_true ge;clear ge;obtain rfl:=Option.some.inj H;obtain⟨du,dv,dw,e1,e2,e3⟩:=cell3 G;have bn:0<=(am:Int):=of_decide_eq_true asE;have bo:am<(aa.length:Int):=of_decide_eq_true asE;obtain⟨bw,cv,ax⟩:=Kd.at_int bu.out am bn bo
       cases cv
       replace ax:=(HB.out.cell (World.block_lt_of_cell? w _ ax)).trans ax;replace bn:=eq_true bn;replace bo:=eq_true bo;have br:0<=(am:Int):=of_decide_eq_true asE;have bs:am<(aa.length:Int):=of_decide_eq_true asE;obtain⟨cp,dp,a0⟩:=Kd.at_int bu.out am br bs;obtain rfl:bw=cp:=zbg
       replace a0:=(HB.out.cell (World.block_lt_of_cell? w _ a0)).trans a0;replace br:=eq_true br;replace bs:=eq_true bs;go_wp2
       repeat(go_quiet (fail);try go_wp2)
       go_ret
       exact⟨rfE,hbA HB.out⟩
      rw[if_neg ge]at H
      have c12b0:decide (64<=(rd aa am))=false:=decide_eq_false ge;clear ge;by_cases gf:am>0
      case neg=>
       rw[if_neg gf]at H
       have c14b0:decide (0<am)=false:=decide_eq_false gf;clear gf;have H':=aK H;clear H;obtain⟨d3,d4,d5,fa,fb,fc⟩:=cell3 G;have bn:0<=(am:Int):=of_decide_eq_true asE;have bo:am<(aa.length:Int):=of_decide_eq_true asE;obtain⟨bw,cv,ax⟩:=Kd.at_int bu.out am bn bo
       cases cv
       replace ax:=(HB.out.cell (World.block_lt_of_cell? w _ ax)).trans ax;replace bn:=eq_true bn;replace bo:=eq_true bo;have br:0<=(am:Int):=of_decide_eq_true asE;have bs:am<(aa.length:Int):=of_decide_eq_true asE;obtain⟨cp,dp,a0⟩:=Kd.at_int bu.out am br bs;obtain rfl:bw=cp:=zbg
       replace a0:=(HB.out.cell (World.block_lt_of_cell? w _ a0)).trans a0;replace br:=eq_true br;replace bs:=eq_true bs;go_wp2
       repeat(go_quiet (fail);try go_wp2)
       go_roundg k2
       case measure=>have:=di.out;have:=dj.out;omega
       case rel=>exact⟨(wrap64 (am+1)),rsE,H',⟨by have:=di.out;have:=dj.out;omega⟩,⟨bkA G.out⟩,⟨hbA HB.out⟩⟩
      rw[if_pos gf]at H
      have c14b0:decide (0<am)=true:=decide_eq_true gf;clear gf;obtain⟨bv,gh⟩: ∃j_:Int,(wrap64 (am-1))=j_:=⟨_,rfl⟩
      replace H:(if 0<=(bv)then(if(bv)<(aa.length:Int)then(if(rd aa am)<=(rd aa (bv))then(some false)else(recoupref21_May.l0 k2 (wrap64 (am+1)) aa I ah))else(none))else(none))=some r:=by first|(rw[gh]at H;exact H)|(simp only[gh]at H⊢;exact H)
      have hji15w:(IntKind.i64.wrap (am-1))=bv:=(i64_w _).trans gh;by_cases gz:0<=(bv)
      case neg=>rw[if_neg gz]at H;exact absurd H zac
      rw[if_pos gz]at H
      have c16b0:decide (0<=(bv))=true:=decide_eq_true gz;clear gz;by_cases g0:(bv)<(aa.length:Int)
      case neg=>rw[if_neg g0]at H;exact absurd H zac
      rw[if_pos g0]at H
      have c17b0:decide ((bv)<(aa.length:Int))=true:=decide_eq_true g0;clear g0;by_cases gg:(rd aa am)<=(rd aa (bv))
      ·rw[if_pos gg]at H
       have c18b0:decide ((rd aa am)<=(rd aa (bv)))=true:=decide_eq_true gg;clear gg;obtain rfl:=Option.some.inj H;obtain⟨dx,dy,dz,e4,e5,e6⟩:=cell3 G;have bn:0<=(am:Int):=of_decide_eq_true asE;have bo:am<(aa.length:Int):=of_decide_eq_true asE;obtain⟨bw,cv,ax⟩:=Kd.at_int bu.out am bn bo
       cases cv
       replace ax:=(HB.out.cell (World.block_lt_of_cell? w _ ax)).trans ax;replace bn:=eq_true bn;replace bo:=eq_true bo;have br:0<=(am:Int):=of_decide_eq_true asE;have bs:am<(aa.length:Int):=of_decide_eq_true asE;obtain⟨cp,dp,a0⟩:=Kd.at_int bu.out am br bs;obtain rfl:bw=cp:=zbg
       replace a0:=(HB.out.cell (World.block_lt_of_cell? w _ a0)).trans a0;replace br:=eq_true br;replace bs:=eq_true bs;have cl:0<=(am:Int):=of_decide_eq_true asE;have cn:am<(aa.length:Int):=of_decide_eq_true asE;obtain⟨gw,il,bp⟩:=Kd.at_int bu.out am cl cn;obtain rfl:bw=gw:=(by injection il)
       replace bp:=(HB.out.cell (World.block_lt_of_cell? w _ bp)).trans bp;replace cl:=eq_true cl;replace cn:=eq_true cn;have cm:0<=((bv):Int):=of_decide_eq_true asE;have co:(bv)<(aa.length:Int):=of_decide_eq_true asE;obtain⟨gx,im,bq⟩:=Kd.at_int bu.out (bv) cm co;obtain rfl:bw=gx:=(by injection im)
       replace bq:=(HB.out.cell (World.block_lt_of_cell? w _ bq)).trans bq;replace cm:=eq_true cm;replace co:=eq_true co;go_wp2
       repeat(go_quiet (fail);try go_wp2)
       go_ret
       exact⟨by first|rfl|(simp[errW_none,errW_some]<;>rfl)|(simp only[<-gh];first|rfl|(simp[errW_none,errW_some]<;>rfl))|(simp[*,errW_none,errW_some]<;>rfl),hbA HB.out⟩
      rw[if_neg gg]at H
      have c18b0:decide ((rd aa am)<=(rd aa (bv)))=false:=decide_eq_false gg;clear gg;have H':=aK H;clear H;obtain⟨d0,d1,d2,e7,e8,e9⟩:=cell3 G;have bn:0<=(am:Int):=of_decide_eq_true asE;have bo:am<(aa.length:Int):=of_decide_eq_true asE;obtain⟨bw,cv,ax⟩:=Kd.at_int bu.out am bn bo
      cases cv
      replace ax:=(HB.out.cell (World.block_lt_of_cell? w _ ax)).trans ax;replace bn:=eq_true bn;replace bo:=eq_true bo;have br:0<=(am:Int):=of_decide_eq_true asE;have bs:am<(aa.length:Int):=of_decide_eq_true asE;obtain⟨cp,dp,a0⟩:=Kd.at_int bu.out am br bs;obtain rfl:bw=cp:=zbg
      replace a0:=(HB.out.cell (World.block_lt_of_cell? w _ a0)).trans a0;replace br:=eq_true br;replace bs:=eq_true bs;have cl:0<=(am:Int):=of_decide_eq_true asE;have cn:am<(aa.length:Int):=of_decide_eq_true asE;obtain⟨gw,il,bp⟩:=Kd.at_int bu.out am cl cn;obtain rfl:bw=gw:=(by injection il)
      replace bp:=(HB.out.cell (World.block_lt_of_cell? w _ bp)).trans bp;replace cl:=eq_true cl;replace cn:=eq_true cn;have cm:0<=((bv):Int):=of_decide_eq_true asE;have co:(bv)<(aa.length:Int):=of_decide_eq_true asE;obtain⟨gx,im,bq⟩:=Kd.at_int bu.out (bv) cm co;obtain rfl:bw=gx:=(by injection im)
      replace bq:=(HB.out.cell (World.block_lt_of_cell? w _ bq)).trans bq;replace cm:=eq_true cm;replace co:=eq_true co;go_wp2
      repeat(go_quiet (fail);try go_wp2)
      go_roundg k2
      case measure=>have:=di.out;have:=dj.out;omega
      case rel=>exact⟨(wrap64 (am+1)),rsE,H',⟨by have:=di.out;have:=dj.out;omega⟩,⟨bkA G.out⟩,⟨hbA HB.out⟩⟩
     rw[if_neg c8]at H
     have c8b0:decide (am<(aa.length:Int))=false:=decide_eq_false c8;clear c8;have H':=aK H;clear H;obtain⟨d6,d7,d8,fd,fe,ff⟩:=cell3 G;go_wp2
     repeat(go_quiet (fail);try go_wp2)
     go_loopg [4] k2 (fun kq v4 w'=> ∃(J:Int),v4= .int .i64 J/\Aside0 (recoupref21_May.l1 kq J aa I ah=some r)/\Aside0 (kq<=k2)/\Aside0 (w'.heap[U]? =some (.cells #[(.slice ao aa.length aq),(.slice ck I.length ar),(.slice ap ah.length au)] 25 (0,0)))/\Aside0 (Below w.heap.size w w'))
     case atStart=>exact⟨(0),rsE,H',⟨Nat.le_refl _⟩,⟨bkA G.out⟩,⟨hbA HB.out⟩⟩
     case round=>
      clear H'
      (try clear c1);(try clear p1);(try clear q1);(try clear lp);(try clear p2 p2);(try clear c4);(try clear c4b0);(try clear c4b1);(try clear p6);(try clear c7);(try clear c8);(try clear c8b0);(try clear c9);(try clear c9b0);(try clear c10);(try clear c10b0);(try clear kp);(try clear kr);(try clear ks);(try clear ge);(try clear c12b0);(try clear gf);(try clear c14b0);(try clear gz);(try clear c16b0);(try clear g0);(try clear c17b0);(try clear gg);(try clear c18b0);(try clear dq dr dt ey ez e0);(try clear du dv dw e1 e2 e3);(try clear dx dy dz e4 e5 e6);(try clear d0 d1 d2 e7 e8 e9);(try clear d3 d4 d5 fa fb fc);(try clear d6 d7 d8 fd fe ff);(try clear cw cx cy dc dd de);(try clear cz da db df dg dh);(try clear ax);(try clear a0);(try clear bp);(try clear bq);(try clear bn);(try clear br);(try clear cl);(try clear cm);(try clear bo);(try clear bs);(try clear cn);(try clear co)
      obtain⟨J,rfl,HA,gl,G,HB⟩:=hrel
      cases gk with
      |zero=>exact absurd HA.out (by simp[recoupref21_May.l1])
      |succ k3=>
       have H:=HA.out;clear HA;simp only[recoupref21_May.l1]at H;by_cases gm:J<(I.length:Int)
       case neg=>
        rw[if_neg gm]at H
        have c23b0:decide (J<(I.length:Int))=false:=decide_eq_false gm;clear gm;have H':=aK H;clear H;obtain⟨jf,jg,jh,j4,j5,j6⟩:=cell3 G;go_wp2
        repeat(go_quiet (fail);try go_wp2)
        go_loopg [7] k3 (fun kq v7 w'=> ∃(a5:Int),v7= .int .i64 a5/\Aside0 (recoupref21_May.l3 kq a5 aa I ah=some r)/\Aside0 (kq<=k3)/\Aside0 (w'.heap[U]? =some (.cells #[(.slice ao aa.length aq),(.slice ck I.length ar),(.slice ap ah.length au)] 25 (0,0)))/\Aside0 (Below w.heap.size w w'))
        case atStart=>exact⟨(0),rsE,H',⟨Nat.le_refl _⟩,⟨bkA G.out⟩,⟨hbA HB.out⟩⟩
        case round=>
         clear H'
         (try clear c1);(try clear p1 p1);(try clear q1 q1);(try clear lp);(try clear c2);(try clear p2 p2);(try clear c3);(try clear c4);(try clear c4b0);(try clear c4b1);(try clear c5);(try clear c6);(try clear p6 p6);(try clear c7);(try clear c8);(try clear c8b0);(try clear c9);(try clear c9b0);(try clear c10);(try clear c10b0);(try clear ly);(try clear kp kp);(try clear kr kr);(try clear ks);(try clear ge);(try clear c12b0);(try clear l9);(try clear ma);(try clear lx);(try clear gf);(try clear c14b0);(try clear gz);(try clear c16b0);(try clear g0);(try clear c17b0);(try clear gg);(try clear c18b0);(try clear gm);(try clear c23b0);(try clear ie);(try clear c25b0);(try clear ig);(try clear c26b0);(try clear g1);(try clear c27b0);(try clear ii);(try clear c28b0);(try clear gn);(try clear c29b0);(try clear c29b1);(try clear lz);(try clear g2);(try clear c34b0);(try clear l4);(try clear g3);(try clear c39b0);(try clear l5);(try clear g4);(try clear c45b0);(try clear ij);(try clear c47b0);(try clear ik);(try clear c48b0);(try clear g5);(try clear c49b0);(try clear l6);(try clear l7);(try clear l8);(try clear p64);(try clear dq dr dt ey ez e0);(try clear du dv dw e1 e2 e3);(try clear dx dy dz e4 e5 e6);(try clear d0 d1 d2 e7 e8 e9);(try clear d3 d4 d5 fa fb fc);(try clear d6 d7 d8 fd fe ff);(try clear gq gr gs gt gu gv);(try clear it iu iv ji jj jk);(try clear d9 ea fg fh);(try clear iw ix iy jl jm jn);(try clear eb ec fi fj);(try clear iz i1 i2 jo jp jq);(try clear ed ee fk fl);(try clear ef eg eh fm fo fp);(try clear i3 i4 i5 jr js jt);(try clear ei ej fq ft);(try clear ek el em fu fv fw);(try clear i6 i7 i8 ju jv jw);(try clear en eo fx fy);(try clear ep er es fz f2 f3);(try clear cw cx cy dc dd de);(try clear i9 ja jb jx jy jz);(try clear et eu f4 f5);(try clear ev ew ex f6 f7 f8);(try clear jc jd je j1 j2 j3);(try clear jf jg jh j4 j5 j6);(try clear cz da db df dg dh);(try clear ax);(try clear a0);(try clear bp);(try clear bq);(try clear ai);(try clear aj);(try clear av);(try clear aw);(try clear L);(try clear O);(try clear Y);(try clear bn);(try clear br);(try clear cl);(try clear cm);(try clear a7);(try clear ba);(try clear bb);(try clear bc);(try clear bd);(try clear bo);(try clear bs);(try clear cn);(try clear co);(try clear a8);(try clear be);(try clear bf);(try clear bg);(try clear bh)
         obtain⟨a5,rfl,HA,gb,G,HB⟩:=hrel
         cases gk with
         |zero=>exact absurd HA.out (by simp[recoupref21_May.l3])
         |succ k4=>
          have H:=HA.out;clear HA;simp only[recoupref21_May.l3]at H;by_cases g6:a5<(ah.length:Int)
          case neg=>
           rw[if_neg g6]at H
           have c67b0:decide (a5<(ah.length:Int))=false:=decide_eq_false g6;clear g6;obtain rfl:=Option.some.inj H;obtain⟨k6,k7,k8,ll,lm,ln⟩:=cell3 G;go_wp2
           repeat(go_quiet (fail);try go_wp2)
           go_ret
           exact⟨rfE,hbA HB.out⟩
          rw[if_pos g6]at H
          have c67b0:decide (a5<(ah.length:Int))=true:=decide_eq_true g6;clear g6;by_cases ko:0<=a5
          case neg=>rw[if_neg ko]at H;exact absurd H zac
          rw[if_pos ko]at H
          have c68b0:decide (0<=a5)=true:=decide_eq_true ko;clear ko;by_cases g7:(rd ah a5)<0
          ·rw[if_pos g7]at H
           have c69b0:decide ((rd ah a5)<0)=true:=decide_eq_true g7;clear g7;obtain rfl:=Option.some.inj H;obtain⟨ku,kv,kw,k9,la,lb⟩:=cell3 G;have cg:0<=(a5:Int):=of_decide_eq_true asE;have ch:a5<(ah.length:Int):=of_decide_eq_true asE;obtain⟨gc,gp,bm⟩:=Kd.at_int dm.out a5 cg ch
           cases gp
           replace bm:=(HB.out.cell (World.block_lt_of_cell? w _ bm)).trans bm;replace cg:=eq_true cg;replace ch:=eq_true ch;go_wp2
           repeat(go_quiet (fail);try go_wp2)
           go_ret
           exact⟨rfE,hbA HB.out⟩
          rw[if_neg g7]at H
          have c69b0:decide ((rd ah a5)<0)=false:=decide_eq_false g7;clear g7;by_cases g8:(rd ah a5)>=(wrap64 ((aa.length:Int)+(I.length:Int)))
          ·rw[if_pos g8]at H
           have c71b0:decide ((wrap64 ((aa.length:Int)+(I.length:Int)))<=(rd ah a5))=true:=decide_eq_true g8;clear g8;obtain rfl:=Option.some.inj H;obtain⟨kx,ky,kz,lc,ld,le⟩:=cell3 G;have cg:0<=(a5:Int):=of_decide_eq_true asE;have ch:a5<(ah.length:Int):=of_decide_eq_true asE;obtain⟨gc,gp,bm⟩:=Kd.at_int dm.out a5 cg ch
           cases gp
           replace bm:=(HB.out.cell (World.block_lt_of_cell? w _ bm)).trans bm;replace cg:=eq_true cg;replace ch:=eq_true ch;have f9:0<=(a5:Int):=of_decide_eq_true asE;have ga:a5<(ah.length:Int):=of_decide_eq_true asE;obtain⟨gy,io,b0⟩:=Kd.at_int dm.out a5 f9 ga;obtain rfl:gc=gy:=(by injection io)
           replace b0:=(HB.out.cell (World.block_lt_of_cell? w _ b0)).trans b0;replace f9:=eq_true f9;replace ga:=eq_true ga;go_wp2
           repeat(go_quiet (fail);try go_wp2)
           go_ret
           exact⟨rfE,hbA HB.out⟩
          rw[if_neg g8]at H
          have c71b0:decide ((wrap64 ((aa.length:Int)+(I.length:Int)))<=(rd ah a5))=false:=decide_eq_false g8;clear g8;have H':=aK H;clear H;obtain⟨k0,k1,k5,lf,lg,lh⟩:=cell3 G;have cg:0<=(a5:Int):=of_decide_eq_true asE;have ch:a5<(ah.length:Int):=of_decide_eq_true asE;obtain⟨gc,gp,bm⟩:=Kd.at_int dm.out a5 cg ch
          cases gp
          replace bm:=(HB.out.cell (World.block_lt_of_cell? w _ bm)).trans bm;replace cg:=eq_true cg;replace ch:=eq_true ch;have f9:0<=(a5:Int):=of_decide_eq_true asE;have ga:a5<(ah.length:Int):=of_decide_eq_true asE;obtain⟨gy,io,b0⟩:=Kd.at_int dm.out a5 f9 ga;obtain rfl:gc=gy:=(by injection io)
          replace b0:=(HB.out.cell (World.block_lt_of_cell? w _ b0)).trans b0;replace f9:=eq_true f9;replace ga:=eq_true ga;go_wp2
          repeat(go_quiet (fail);try go_wp2)
          go_roundg k4
          case measure=>have:=di.out;have:=dj.out;have:=gl.out;have:=gb.out;omega
          case rel=>exact⟨(wrap64 (a5+1)),rsE,H',⟨by have:=di.out;have:=dj.out;have:=gl.out;have:=gb.out;omega⟩,⟨bkA G.out⟩,⟨hbA HB.out⟩⟩
       rw[if_pos gm]at H
       have c23b0:decide (J<(I.length:Int))=true:=decide_eq_true gm;clear gm;have H':=aK H;clear H;obtain⟨gq,gr,gs,gt,gu,gv⟩:=cell3 G;go_wp2
       repeat(go_quiet (fail);try go_wp2)
       go_loopg [5] k3 (fun kq v5 w'=> ∃(X:Int),v5= .int .i64 X/\Aside0 (recoupref21_May.l2 kq J X aa I ah=some r)/\Aside0 (kq<=k3)/\Aside0 (w'.heap[U]? =some (.cells #[(.slice ao aa.length aq),(.slice ck I.length ar),(.slice ap ah.length au)] 25 (0,0)))/\Aside0 (Below w.heap.size w w'))
       case atStart=>exact⟨(0),rsE,H',⟨Nat.le_refl _⟩,⟨bkA G.out⟩,⟨hbA HB.out⟩⟩
       case round=>
        clear H'
        (try clear c1);(try clear p1 p1);(try clear q1 q1);(try clear lp);(try clear c2);(try clear p2 p2);(try clear c4);(try clear c4b0);(try clear c4b1);(try clear p6 p6);(try clear c7);(try clear c8);(try clear c8b0);(try clear c9);(try clear c9b0);(try clear c10);(try clear c10b0);(try clear kp kp);(try clear kr kr);(try clear ks);(try clear ge);(try clear c12b0);(try clear gf);(try clear c14b0);(try clear gz);(try clear c16b0);(try clear g0);(try clear c17b0);(try clear gg);(try clear c18b0);(try clear gm);(try clear c23b0);(try clear dq dr dt ey ez e0);(try clear du dv dw e1 e2 e3);(try clear dx dy dz e4 e5 e6);(try clear d0 d1 d2 e7 e8 e9);(try clear d3 d4 d5 fa fb fc);(try clear d6 d7 d8 fd fe ff);(try clear gq gr gs gt gu gv);(try clear cw cx cy dc dd de);(try clear cz da db df dg dh);(try clear ax);(try clear a0);(try clear bp);(try clear bq);(try clear bn);(try clear br);(try clear cl);(try clear cm);(try clear bo);(try clear bs);(try clear cn);(try clear co)
        obtain⟨X,rfl,HA,gb,G,HB⟩:=hrel
        cases gk with
        |zero=>exact absurd HA.out (by simp[recoupref21_May.l2])
        |succ k4=>
         have H:=HA.out;clear HA;simp only[recoupref21_May.l2]at H;by_cases ie:0<=J
         case neg=>rw[if_neg ie]at H;exact absurd H zac
         rw[if_pos ie]at H
         have c25b0:decide (0<=J)=true:=decide_eq_true ie;clear ie;by_cases ig:J<(I.length:Int)
         case neg=>rw[if_neg ig]at H;exact absurd H zac
         rw[if_pos ig]at H
         have c26b0:decide (J<(I.length:Int))=true:=decide_eq_true ig;clear ig;by_cases g1:X<((rd_L5 I J).length:Int)
         case neg=>
          rw[if_neg g1]at H
          have c27b0:decide (X<((rd_L5 I J).length:Int))=false:=decide_eq_false g1;clear g1;have H':=aK H;clear H;obtain⟨jc,jd,je,j1,j2,j3⟩:=cell3 G;have a7:0<=(J:Int):=of_decide_eq_true asE;have a8:J<(I.length:Int):=of_decide_eq_true asE;obtain⟨ab,ci,cj,b5,ai,az,ay⟩:=at_L5 a9.out J a7 a8
          cases b5
          replace ai:=(HB.out.cell (World.block_lt_of_cell? w _ ai)).trans ai;have b4:=aK ay;have b3:=aK az;clear ay az;replace a7:=eq_true a7;replace a8:=eq_true a8;go_wp2
          repeat(go_quiet (fail);try go_wp2)
          go_roundg k4
          case measure=>have:=di.out;have:=dj.out;have:=gl.out;have:=gb.out;omega
          case rel=>exact⟨(wrap64 (J+1)),rsE,H',⟨by have:=di.out;have:=dj.out;have:=gl.out;have:=gb.out;omega⟩,⟨bkA G.out⟩,⟨hbA HB.out⟩⟩
         rw[if_pos g1]at H
         have c27b0:decide (X<((rd_L5 I J).length:Int))=true:=decide_eq_true g1;clear g1;by_cases ii:0<=X
         case neg=>rw[if_neg ii]at H;exact absurd H zac
         rw[if_pos ii]at H
         have c28b0:decide (0<=X)=true:=decide_eq_true ii;clear ii;by_cases gn:((rd_T61 (rd_L5 I J) X).f1)=0
         ·rw[if_pos gn]at H
          have c29b0:(((rd_T61 (rd_L5 I J) X).f1)==0)=true:=beq_iff_eq.mpr gn;have c29b1:(((rd_T61 (rd_L5 I J) X).f1)!=0)=false:=bne_eq_false_iff_eq.mpr gn;clear gn;obtain rfl:=Option.some.inj H;obtain⟨it,iu,iv,ji,jj,jk⟩:=cell3 G;have a7:0<=(J:Int):=of_decide_eq_true asE;have a8:J<(I.length:Int):=of_decide_eq_true asE;obtain⟨ab,ci,cj,b5,ai,az,ay⟩:=at_L5 a9.out J a7 a8
          cases b5
          replace ai:=(HB.out.cell (World.block_lt_of_cell? w _ ai)).trans ai;have b4:=aK ay;have b3:=aK az;clear ay az;replace a7:=eq_true a7;replace a8:=eq_true a8;have ba:0<=(J:Int):=of_decide_eq_true asE;have be:J<(I.length:Int):=of_decide_eq_true asE;obtain⟨bx,cq,ct,b8,aj,a3,a1⟩:=at_L5 a9.out J ba be;obtain rfl:ab=bx:=zav
          replace aj:=(HB.out.cell (World.block_lt_of_cell? w _ aj)).trans aj;have bj:=aK a1;have b6:=aK a3;clear a1 a3;replace ba:=eq_true ba;replace be:=eq_true be;have ea_:=Option.some.inj (ai.symm.trans aj);injection ea_ with ea_ en_ ec_;subst ea_;subst ec_;clear en_;have bb:0<=(X:Int):=of_decide_eq_true asE;have bf:X<((rd_L5 I J).length:Int):=of_decide_eq_true asE;obtain⟨dn,b9,av,aw⟩:=at_T61 bj.out X bb bf
          cases b9
          replace av:=(HB.out.cell (World.block_lt_of_cell? w _ av)).trans av;replace aw:=(HB.out.cell (World.block_lt_of_cell? w _ aw)).trans aw;replace bb:=eq_true bb;replace bf:=eq_true bf
          go_wp2_with (first|((with_reducible refine gD 6 rfl ?_);(try(refine gate_guard zae ?_;dsimp only));refine bE 6 #[.int .i64 0,.int .u8 0] 61 ?_;intro D hg g9 hbox hb;have ac:=aK (hbox);have an:=hbS HB hg;have bi:=hbS HB hg;replace HB:=hbB HB hb;have Z:=neL G hg;have ae:=neG G hg;replace G:=bkB G hb;clear hb hbox hg;have j7:=ae.out;have kd:=Z.out;obtain⟨d9,ea,fg,fh⟩:=cell2 ac))
          repeat(go_quiet (first|((with_reducible refine gate_dst (N:=6) rfl ?_);(try(refine gate_guard zae ?_;dsimp only));refine box_event ?hg (N:=6) ?hd (cs:= #[.int .i64 0,.int .u8 0]) (t:=61) ?hr ?_;(case hd=>rfl);(case hg=>rfl);(case hr=>first|(go_simp;done)|(go_simp;rfl));intro D hg g9 hbox hb;have n0_:=aK (blk_below (g:=U) (o:= .cells #[.slice ao aa.length aq,.slice (some ab) I.length ar,.slice ap ah.length au] 25 (0,0)) (bkA G.out) hb);have n1_:=aK (below_step (hbA HB.out) hb);have n2_:=aK (hbox);have n3_:=aK ((by rw[hg];exact(below_size (hbA HB.out)):w.heap.size<=D));have n4_:=aK ((by rw[hg];exact(below_size (hbA HB.out)):w.heap.size<=D));have n5_:=aK ((by rw[hg];exact Nat.ne_of_lt (blk_lt (g:=U) (o:= .cells #[.slice ao aa.length aq,.slice (some ab) I.length ar,.slice ap ah.length au] 25 (0,0)) (bkA G.out)):U≠D));have n6_:=aK ((by rw[hg];exact Nat.ne_of_gt (blk_lt (g:=U) (o:= .cells #[.slice ao aa.length aq,.slice (some ab) I.length ar,.slice ap ah.length au] 25 (0,0)) (bkA G.out)):D≠U));clear G;clear HB;have G:=n0_;have HB:=n1_;have ac:=n2_;have an:=n3_;have bi:=n4_;have Z:=n5_;have ae:=n6_;clear n0_ n1_ n2_ n3_ n4_ n5_ n6_;clear hb hbox hg;have j7:=ae.out;have kd:=Z.out;have d9:g9.cell? ⟨D,0,none⟩=some (.int .i64 0):=(blk_cell ac.out 0).trans rfl;have ea:g9.cell? ⟨D,1,none⟩=some (.int .u8 0):=(blk_cell ac.out 1).trans rfl;have fg:=blk_frozen ac.out 0;have fh:=blk_frozen ac.out 1));try go_wp2_with (first|((with_reducible refine gate_dst (N:=6) rfl ?_);(try(refine gate_guard zae ?_;dsimp only));refine box_event ?hg (N:=6) ?hd (cs:= #[.int .i64 0,.int .u8 0]) (t:=61) ?hr ?_;(case hd=>rfl);(case hg=>rfl);(case hr=>first|(go_simp;done)|(go_simp;rfl));intro D hg g9 hbox hb;have n0_:=aK (blk_below (g:=U) (o:= .cells #[.slice ao aa.length aq,.slice (some ab) I.length ar,.slice ap ah.length au] 25 (0,0)) (bkA G.out) hb);have n1_:=aK (below_step (hbA HB.out) hb);have n2_:=aK (hbox);have n3_:=aK ((by rw[hg];exact(below_size (hbA HB.out)):w.heap.size<=D));have n4_:=aK ((by rw[hg];exact(below_size (hbA HB.out)):w.heap.size<=D));have n5_:=aK ((by rw[hg];exact Nat.ne_of_lt (blk_lt (g:=U) (o:= .cells #[.slice ao aa.length aq,.slice (some ab) I.length ar,.slice ap ah.length au] 25 (0,0)) (bkA G.out)):U≠D));have n6_:=aK ((by rw[hg];exact Nat.ne_of_gt (blk_lt (g:=U) (o:= .cells #[.slice ao aa.length aq,.slice (some ab) I.length ar,.slice ap ah.length au] 25 (0,0)) (bkA G.out)):D≠U));clear G;clear HB;have G:=n0_;have HB:=n1_;have ac:=n2_;have an:=n3_;have bi:=n4_;have Z:=n5_;have ae:=n6_;clear n0_ n1_ n2_ n3_ n4_ n5_ n6_;clear hb hbox hg;have j7:=ae.out;have kd:=Z.out;have d9:g9.cell? ⟨D,0,none⟩=some (.int .i64 0):=(blk_cell ac.out 0).trans rfl;have ea:g9.cell? ⟨D,1,none⟩=some (.int .u8 0):=(blk_cell ac.out 1).trans rfl;have fg:=blk_frozen ac.out 0;have fh:=blk_frozen ac.out 1)))
          go_ret
          exact⟨rfE,hbA HB.out⟩
         rw[if_neg gn]at H
         have c29b0:(((rd_T61 (rd_L5 I J) X).f1)==0)=false:=beq_eq_false_iff_ne.mpr gn;have c29b1:(((rd_T61 (rd_L5 I J) X).f1)!=0)=true:=bne_iff_ne.mpr gn;by_cases g2:((rd_T61 (rd_L5 I J) X).f0)<0
         ·rw[if_pos g2]at H
          have c34b0:decide (((rd_T61 (rd_L5 I J) X).f0)<0)=true:=decide_eq_true g2;clear g2;obtain rfl:=Option.some.inj H;obtain⟨iw,ix,iy,jl,jm,jn⟩:=cell3 G;have a7:0<=(J:Int):=of_decide_eq_true asE;have a8:J<(I.length:Int):=of_decide_eq_true asE;obtain⟨ab,ci,cj,b5,ai,az,ay⟩:=at_L5 a9.out J a7 a8
          cases b5
          replace ai:=(HB.out.cell (World.block_lt_of_cell? w _ ai)).trans ai;have b4:=aK ay;have b3:=aK az;clear ay az;replace a7:=eq_true a7;replace a8:=eq_true a8;have ba:0<=(J:Int):=of_decide_eq_true asE;have be:J<(I.length:Int):=of_decide_eq_true asE;obtain⟨bx,cq,ct,b8,aj,a3,a1⟩:=at_L5 a9.out J ba be;obtain rfl:ab=bx:=zav
          replace aj:=(HB.out.cell (World.block_lt_of_cell? w _ aj)).trans aj;have bj:=aK a1;have b6:=aK a3;clear a1 a3;replace ba:=eq_true ba;replace be:=eq_true be;have ea_:=Option.some.inj (ai.symm.trans aj);injection ea_ with ea_ en_ ec_;subst ea_;subst ec_;clear en_;have bb:0<=(X:Int):=of_decide_eq_true asE;have bf:X<((rd_L5 I J).length:Int):=of_decide_eq_true asE;obtain⟨dn,b9,av,aw⟩:=at_T61 bj.out X bb bf
          cases b9
          replace av:=(HB.out.cell (World.block_lt_of_cell? w _ av)).trans av;replace aw:=(HB.out.cell (World.block_lt_of_cell? w _ aw)).trans aw;replace bb:=eq_true bb;replace bf:=eq_true bf
          go_wp2_with (first|((with_reducible refine gD 6 rfl ?_);(try(refine gate_guard zae ?_;dsimp only));refine bE 6 #[.int .i64 0,.int .u8 0] 61 ?_;intro D hg ia hbox hb;have ac:=aK (hbox);have an:=hbS HB hg;have bi:=hbS HB hg;replace HB:=hbB HB hb;have Z:=neL G hg;have ae:=neG G hg;replace G:=bkB G hb;clear hb hbox hg;have j8:=ae.out;have ke:=Z.out;obtain⟨eb,ec,fi,fj⟩:=cell2 ac))
          repeat(go_quiet (first|((with_reducible refine gate_dst (N:=6) rfl ?_);(try(refine gate_guard zae ?_;dsimp only));refine box_event ?hg (N:=6) ?hd (cs:= #[.int .i64 0,.int .u8 0]) (t:=61) ?hr ?_;(case hd=>rfl);(case hg=>rfl);(case hr=>first|(go_simp;done)|(go_simp;rfl));intro D hg ia hbox hb;have n0_:=aK (blk_below (g:=U) (o:= .cells #[.slice ao aa.length aq,.slice (some ab) I.length ar,.slice ap ah.length au] 25 (0,0)) (bkA G.out) hb);have n1_:=aK (below_step (hbA HB.out) hb);have n2_:=aK (hbox);have n3_:=aK ((by rw[hg];exact(below_size (hbA HB.out)):w.heap.size<=D));have n4_:=aK ((by rw[hg];exact(below_size (hbA HB.out)):w.heap.size<=D));have n5_:=aK ((by rw[hg];exact Nat.ne_of_lt (blk_lt (g:=U) (o:= .cells #[.slice ao aa.length aq,.slice (some ab) I.length ar,.slice ap ah.length au] 25 (0,0)) (bkA G.out)):U≠D));have n6_:=aK ((by rw[hg];exact Nat.ne_of_gt (blk_lt (g:=U) (o:= .cells #[.slice ao aa.length aq,.slice (some ab) I.length ar,.slice ap ah.length au] 25 (0,0)) (bkA G.out)):D≠U));clear G;clear HB;have G:=n0_;have HB:=n1_;have ac:=n2_;have an:=n3_;have bi:=n4_;have Z:=n5_;have ae:=n6_;clear n0_ n1_ n2_ n3_ n4_ n5_ n6_;clear hb hbox hg;have j8:=ae.out;have ke:=Z.out;have eb:ia.cell? ⟨D,0,none⟩=some (.int .i64 0):=(blk_cell ac.out 0).trans rfl;have ec:ia.cell? ⟨D,1,none⟩=some (.int .u8 0):=(blk_cell ac.out 1).trans rfl;have fi:=blk_frozen ac.out 0;have fj:=blk_frozen ac.out 1));try go_wp2_with (first|((with_reducible refine gate_dst (N:=6) rfl ?_);(try(refine gate_guard zae ?_;dsimp only));refine box_event ?hg (N:=6) ?hd (cs:= #[.int .i64 0,.int .u8 0]) (t:=61) ?hr ?_;(case hd=>rfl);(case hg=>rfl);(case hr=>first|(go_simp;done)|(go_simp;rfl));intro D hg ia hbox hb;have n0_:=aK (blk_below (g:=U) (o:= .cells #[.slice ao aa.length aq,.slice (some ab) I.length ar,.slice ap ah.length au] 25 (0,0)) (bkA G.out) hb);have n1_:=aK (below_step (hbA HB.out) hb);have n2_:=aK (hbox);have n3_:=aK ((by rw[hg];exact(below_size (hbA HB.out)):w.heap.size<=D));have n4_:=aK ((by rw[hg];exact(below_size (hbA HB.out)):w.heap.size<=D));have n5_:=aK ((by rw[hg];exact Nat.ne_of_lt (blk_lt (g:=U) (o:= .cells #[.slice ao aa.length aq,.slice (some ab) I.length ar,.slice ap ah.length au] 25 (0,0)) (bkA G.out)):U≠D));have n6_:=aK ((by rw[hg];exact Nat.ne_of_gt (blk_lt (g:=U) (o:= .cells #[.slice ao aa.length aq,.slice (some ab) I.length ar,.slice ap ah.length au] 25 (0,0)) (bkA G.out)):D≠U));clear G;clear HB;have G:=n0_;have HB:=n1_;have ac:=n2_;have an:=n3_;have bi:=n4_;have Z:=n5_;have ae:=n6_;clear n0_ n1_ n2_ n3_ n4_ n5_ n6_;clear hb hbox hg;have j8:=ae.out;have ke:=Z.out;have eb:ia.cell? ⟨D,0,none⟩=some (.int .i64 0):=(blk_cell ac.out 0).trans rfl;have ec:ia.cell? ⟨D,1,none⟩=some (.int .u8 0):=(blk_cell ac.out 1).trans rfl;have fi:=blk_frozen ac.out 0;have fj:=blk_frozen ac.out 1)))
          go_ret
          exact⟨rfE,hbA HB.out⟩
         rw[if_neg g2]at H
         have c34b0:decide (((rd_T61 (rd_L5 I J) X).f0)<0)=false:=decide_eq_false g2;clear g2;by_cases g3:((rd_T61 (rd_L5 I J) X).f0)>=(wrap64 ((aa.length:Int)+J))
         ·rw[if_pos g3]at H
          have c39b0:decide ((wrap64 ((aa.length:Int)+J))<=((rd_T61 (rd_L5 I J) X).f0))=true:=decide_eq_true g3;clear g3;obtain rfl:=Option.some.inj H;obtain⟨iz,i1,i2,jo,jp,jq⟩:=cell3 G;have a7:0<=(J:Int):=of_decide_eq_true asE;have a8:J<(I.length:Int):=of_decide_eq_true asE;obtain⟨ab,ci,cj,b5,ai,az,ay⟩:=at_L5 a9.out J a7 a8
          cases b5
          replace ai:=(HB.out.cell (World.block_lt_of_cell? w _ ai)).trans ai;have b4:=aK ay;have b3:=aK az;clear ay az;replace a7:=eq_true a7;replace a8:=eq_true a8;have ba:0<=(J:Int):=of_decide_eq_true asE;have be:J<(I.length:Int):=of_decide_eq_true asE;obtain⟨bx,cq,ct,b8,aj,a3,a1⟩:=at_L5 a9.out J ba be;obtain rfl:ab=bx:=zav
          replace aj:=(HB.out.cell (World.block_lt_of_cell? w _ aj)).trans aj;have bj:=aK a1;have b6:=aK a3;clear a1 a3;replace ba:=eq_true ba;replace be:=eq_true be;have ea_:=Option.some.inj (ai.symm.trans aj);injection ea_ with ea_ en_ ec_;subst ea_;subst ec_;clear en_;have bb:0<=(X:Int):=of_decide_eq_true asE;have bf:X<((rd_L5 I J).length:Int):=of_decide_eq_true asE;obtain⟨dn,b9,av,aw⟩:=at_T61 bj.out X bb bf
          cases b9
          replace av:=(HB.out.cell (World.block_lt_of_cell? w _ av)).trans av;replace aw:=(HB.out.cell (World.block_lt_of_cell? w _ aw)).trans aw;replace bb:=eq_true bb;replace bf:=eq_true bf
          go_wp2_with (first|((with_reducible refine gD 6 rfl ?_);(try(refine gate_guard zae ?_;dsimp only));refine bE 6 #[.int .i64 0,.int .u8 0] 61 ?_;intro D hg dk hbox hb;have ac:=aK (hbox);have an:=hbS HB hg;have bi:=hbS HB hg;replace HB:=hbB HB hb;have Z:=neL G hg;have ae:=neG G hg;replace G:=bkB G hb;clear hb hbox hg;have j9:=ae.out;have kf:=Z.out;obtain⟨ed,ee,fk,fl⟩:=cell2 ac;obtain⟨ef,eg,eh,fm,fo,fp⟩:=cell3 G))
          repeat(go_quiet (first|((with_reducible refine gate_dst (N:=6) rfl ?_);(try(refine gate_guard zae ?_;dsimp only));refine box_event ?hg (N:=6) ?hd (cs:= #[.int .i64 0,.int .u8 0]) (t:=61) ?hr ?_;(case hd=>rfl);(case hg=>rfl);(case hr=>first|(go_simp;done)|(go_simp;rfl));intro D hg dk hbox hb;have n0_:=aK (blk_below (g:=U) (o:= .cells #[.slice ao aa.length aq,.slice (some ab) I.length ar,.slice ap ah.length au] 25 (0,0)) (bkA G.out) hb);have n1_:=aK (below_step (hbA HB.out) hb);have n2_:=aK (hbox);have n3_:=aK ((by rw[hg];exact(below_size (hbA HB.out)):w.heap.size<=D));have n4_:=aK ((by rw[hg];exact(below_size (hbA HB.out)):w.heap.size<=D));have n5_:=aK ((by rw[hg];exact Nat.ne_of_lt (blk_lt (g:=U) (o:= .cells #[.slice ao aa.length aq,.slice (some ab) I.length ar,.slice ap ah.length au] 25 (0,0)) (bkA G.out)):U≠D));have n6_:=aK ((by rw[hg];exact Nat.ne_of_gt (blk_lt (g:=U) (o:= .cells #[.slice ao aa.length aq,.slice (some ab) I.length ar,.slice ap ah.length au] 25 (0,0)) (bkA G.out)):D≠U));clear G;clear HB;have G:=n0_;have HB:=n1_;have ac:=n2_;have an:=n3_;have bi:=n4_;have Z:=n5_;have ae:=n6_;clear n0_ n1_ n2_ n3_ n4_ n5_ n6_;clear hb hbox hg;have j9:=ae.out;have kf:=Z.out;have ed:dk.cell? ⟨D,0,none⟩=some (.int .i64 0):=(blk_cell ac.out 0).trans rfl;have ee:dk.cell? ⟨D,1,none⟩=some (.int .u8 0):=(blk_cell ac.out 1).trans rfl;have fk:=blk_frozen ac.out 0;have fl:=blk_frozen ac.out 1;have ef:dk.cell? ⟨U,0,none⟩=some (.slice ao aa.length aq):=(blk_cell G.out 0).trans rfl;have eg:dk.cell? ⟨U,1,none⟩=some (.slice (some ab) I.length ar):=(blk_cell G.out 1).trans rfl;have eh:dk.cell? ⟨U,2,none⟩=some (.slice ap ah.length au):=(blk_cell G.out 2).trans rfl;have fm:=blk_frozen G.out 0;have fo:=blk_frozen G.out 1;have fp:=blk_frozen G.out 2));try go_wp2_with (first|((with_reducible refine gate_dst (N:=6) rfl ?_);(try(refine gate_guard zae ?_;dsimp only));refine box_event ?hg (N:=6) ?hd (cs:= #[.int .i64 0,.int .u8 0]) (t:=61) ?hr ?_;(case hd=>rfl);(case hg=>rfl);(case hr=>first|(go_simp;done)|(go_simp;rfl));intro D hg dk hbox hb;have n0_:=aK (blk_below (g:=U) (o:= .cells #[.slice ao aa.length aq,.slice (some ab) I.length ar,.slice ap ah.length au] 25 (0,0)) (bkA G.out) hb);have n1_:=aK (below_step (hbA HB.out) hb);have n2_:=aK (hbox);have n3_:=aK ((by rw[hg];exact(below_size (hbA HB.out)):w.heap.size<=D));have n4_:=aK ((by rw[hg];exact(below_size (hbA HB.out)):w.heap.size<=D));have n5_:=aK ((by rw[hg];exact Nat.ne_of_lt (blk_lt (g:=U) (o:= .cells #[.slice ao aa.length aq,.slice (some ab) I.length ar,.slice ap ah.length au] 25 (0,0)) (bkA G.out)):U≠D));have n6_:=aK ((by rw[hg];exact Nat.ne_of_gt (blk_lt (g:=U) (o:= .cells #[.slice ao aa.length aq,.slice (some ab) I.length ar,.slice ap ah.length au] 25 (0,0)) (bkA G.out)):D≠U));clear G;clear HB;have G:=n0_;have HB:=n1_;have ac:=n2_;have an:=n3_;have bi:=n4_;have Z:=n5_;have ae:=n6_;clear n0_ n1_ n2_ n3_ n4_ n5_ n6_;clear hb hbox hg;have j9:=ae.out;have kf:=Z.out;have ed:dk.cell? ⟨D,0,none⟩=some (.int .i64 0):=(blk_cell ac.out 0).trans rfl;have ee:dk.cell? ⟨D,1,none⟩=some (.int .u8 0):=(blk_cell ac.out 1).trans rfl;have fk:=blk_frozen ac.out 0;have fl:=blk_frozen ac.out 1;have ef:dk.cell? ⟨U,0,none⟩=some (.slice ao aa.length aq):=(blk_cell G.out 0).trans rfl;have eg:dk.cell? ⟨U,1,none⟩=some (.slice (some ab) I.length ar):=(blk_cell G.out 1).trans rfl;have eh:dk.cell? ⟨U,2,none⟩=some (.slice ap ah.length au):=(blk_cell G.out 2).trans rfl;have fm:=blk_frozen G.out 0;have fo:=blk_frozen G.out 1;have fp:=blk_frozen G.out 2)))
          go_ret
          exact⟨rfE,hbA HB.out⟩
         rw[if_neg g3]at H
         have c39b0:decide ((wrap64 ((aa.length:Int)+J))<=((rd_T61 (rd_L5 I J) X).f0))=false:=decide_eq_false g3;clear g3;by_cases g4:X>0
         case neg=>
          rw[if_neg g4]at H
          have c45b0:decide (0<X)=false:=decide_eq_false g4;clear g4;have H':=aK H;clear H;obtain⟨i9,ja,jb,jx,jy,jz⟩:=cell3 G;have a7:0<=(J:Int):=of_decide_eq_true asE;have a8:J<(I.length:Int):=of_decide_eq_true asE;obtain⟨ab,ci,cj,b5,ai,az,ay⟩:=at_L5 a9.out J a7 a8
          cases b5
          replace ai:=(HB.out.cell (World.block_lt_of_cell? w _ ai)).trans ai;have b4:=aK ay;have b3:=aK az;clear ay az;replace a7:=eq_true a7;replace a8:=eq_true a8;have ba:0<=(J:Int):=of_decide_eq_true asE;have be:J<(I.length:Int):=of_decide_eq_true asE;obtain⟨bx,cq,ct,b8,aj,a3,a1⟩:=at_L5 a9.out J ba be;obtain rfl:ab=bx:=zav
          replace aj:=(HB.out.cell (World.block_lt_of_cell? w _ aj)).trans aj;have bj:=aK a1;have b6:=aK a3;clear a1 a3;replace ba:=eq_true ba;replace be:=eq_true be;have ea_:=Option.some.inj (ai.symm.trans aj);injection ea_ with ea_ en_ ec_;subst ea_;subst ec_;clear en_;have bb:0<=(X:Int):=of_decide_eq_true asE;have bf:X<((rd_L5 I J).length:Int):=of_decide_eq_true asE;obtain⟨dn,b9,av,aw⟩:=at_T61 bj.out X bb bf
          cases b9
          replace av:=(HB.out.cell (World.block_lt_of_cell? w _ av)).trans av;replace aw:=(HB.out.cell (World.block_lt_of_cell? w _ aw)).trans aw;replace bb:=eq_true bb;replace bf:=eq_true bf
          go_wp2_with (first|((with_reducible refine gD 6 rfl ?_);(try(refine gate_guard zae ?_;dsimp only));refine bE 6 #[.int .i64 0,.int .u8 0] 61 ?_;intro D hg dl hbox hb;have ac:=aK (hbox);have an:=hbS HB hg;have bi:=hbS HB hg;replace HB:=hbB HB hb;have Z:=neL G hg;have ae:=neG G hg;replace G:=bkB G hb;clear hb hbox hg;have kc:=ae.out;have kj:=Z.out;obtain⟨et,eu,f4,f5⟩:=cell2 ac;obtain⟨ev,ew,ex,f6,f7,f8⟩:=cell3 G))
          repeat(go_quiet (first|((with_reducible refine gate_dst (N:=6) rfl ?_);(try(refine gate_guard zae ?_;dsimp only));refine box_event ?hg (N:=6) ?hd (cs:= #[.int .i64 0,.int .u8 0]) (t:=61) ?hr ?_;(case hd=>rfl);(case hg=>rfl);(case hr=>first|(go_simp;done)|(go_simp;rfl));intro D hg dl hbox hb;have n0_:=aK (blk_below (g:=U) (o:= .cells #[.slice ao aa.length aq,.slice (some ab) I.length ar,.slice ap ah.length au] 25 (0,0)) (bkA G.out) hb);have n1_:=aK (below_step (hbA HB.out) hb);have n2_:=aK (hbox);have n3_:=aK ((by rw[hg];exact(below_size (hbA HB.out)):w.heap.size<=D));have n4_:=aK ((by rw[hg];exact(below_size (hbA HB.out)):w.heap.size<=D));have n5_:=aK ((by rw[hg];exact Nat.ne_of_lt (blk_lt (g:=U) (o:= .cells #[.slice ao aa.length aq,.slice (some ab) I.length ar,.slice ap ah.length au] 25 (0,0)) (bkA G.out)):U≠D));have n6_:=aK ((by rw[hg];exact Nat.ne_of_gt (blk_lt (g:=U) (o:= .cells #[.slice ao aa.length aq,.slice (some ab) I.length ar,.slice ap ah.length au] 25 (0,0)) (bkA G.out)):D≠U));clear G;clear HB;have G:=n0_;have HB:=n1_;have ac:=n2_;have an:=n3_;have bi:=n4_;have Z:=n5_;have ae:=n6_;clear n0_ n1_ n2_ n3_ n4_ n5_ n6_;clear hb hbox hg;have kc:=ae.out;have kj:=Z.out;have et:dl.cell? ⟨D,0,none⟩=some (.int .i64 0):=(blk_cell ac.out 0).trans rfl;have eu:dl.cell? ⟨D,1,none⟩=some (.int .u8 0):=(blk_cell ac.out 1).trans rfl;have f4:=blk_frozen ac.out 0;have f5:=blk_frozen ac.out 1;have ev:dl.cell? ⟨U,0,none⟩=some (.slice ao aa.length aq):=(blk_cell G.out 0).trans rfl;have ew:dl.cell? ⟨U,1,none⟩=some (.slice (some ab) I.length ar):=(blk_cell G.out 1).trans rfl;have ex:dl.cell? ⟨U,2,none⟩=some (.slice ap ah.length au):=(blk_cell G.out 2).trans rfl;have f6:=blk_frozen G.out 0;have f7:=blk_frozen G.out 1;have f8:=blk_frozen G.out 2));try go_wp2_with (first|((with_reducible refine gate_dst (N:=6) rfl ?_);(try(refine gate_guard zae ?_;dsimp only));refine box_event ?hg (N:=6) ?hd (cs:= #[.int .i64 0,.int .u8 0]) (t:=61) ?hr ?_;(case hd=>rfl);(case hg=>rfl);(case hr=>first|(go_simp;done)|(go_simp;rfl));intro D hg dl hbox hb;have n0_:=aK (blk_below (g:=U) (o:= .cells #[.slice ao aa.length aq,.slice (some ab) I.length ar,.slice ap ah.length au] 25 (0,0)) (bkA G.out) hb);have n1_:=aK (below_step (hbA HB.out) hb);have n2_:=aK (hbox);have n3_:=aK ((by rw[hg];exact(below_size (hbA HB.out)):w.heap.size<=D));have n4_:=aK ((by rw[hg];exact(below_size (hbA HB.out)):w.heap.size<=D));have n5_:=aK ((by rw[hg];exact Nat.ne_of_lt (blk_lt (g:=U) (o:= .cells #[.slice ao aa.length aq,.slice (some ab) I.length ar,.slice ap ah.length au] 25 (0,0)) (bkA G.out)):U≠D));have n6_:=aK ((by rw[hg];exact Nat.ne_of_gt (blk_lt (g:=U) (o:= .cells #[.slice ao aa.length aq,.slice (some ab) I.length ar,.slice ap ah.length au] 25 (0,0)) (bkA G.out)):D≠U));clear G;clear HB;have G:=n0_;have HB:=n1_;have ac:=n2_;have an:=n3_;have bi:=n4_;have Z:=n5_;have ae:=n6_;clear n0_ n1_ n2_ n3_ n4_ n5_ n6_;clear hb hbox hg;have kc:=ae.out;have kj:=Z.out;have et:dl.cell? ⟨D,0,none⟩=some (.int .i64 0):=(blk_cell ac.out 0).trans rfl;have eu:dl.cell? ⟨D,1,none⟩=some (.int .u8 0):=(blk_cell ac.out 1).trans rfl;have f4:=blk_frozen ac.out 0;have f5:=blk_frozen ac.out 1;have ev:dl.cell? ⟨U,0,none⟩=some (.slice ao aa.length aq):=(blk_cell G.out 0).trans rfl;have ew:dl.cell? ⟨U,1,none⟩=some (.slice (some ab) I.length ar):=(blk_cell G.out 1).trans rfl;have ex:dl.cell? ⟨U,2,none⟩=some (.slice ap ah.length au):=(blk_cell G.out 2).trans rfl;have f6:=blk_frozen G.out 0;have f7:=blk_frozen G.out 1;have f8:=blk_frozen G.out 2)))
          go_roundg k4
          case measure=>have:=di.out;have:=dj.out;have:=gl.out;have:=gb.out;omega
          case rel=>exact⟨(wrap64 (X+1)),rsE,H',⟨by have:=di.out;have:=dj.out;have:=gl.out;have:=gb.out;omega⟩,⟨by refine bkR ?_;refine blk_far ?_ Z.out _;refine bkR ?_;refine blk_far ?_ Z.out _;refine bkR ?_;exact G.out⟩,⟨hbA HB.out⟩⟩
         rw[if_pos g4]at H
         have c45b0:decide (0<X)=true:=decide_eq_true g4;clear g4;obtain⟨a6,gi⟩: ∃j_:Int,(wrap64 (X-1))=j_:=⟨_,rfl⟩
         replace H:(if 0<=(a6)then(if(a6)<((rd_L5 I J).length:Int)then(if((rd_T61 (rd_L5 I J) X).f0)<=((rd_T61 (rd_L5 I J) (a6)).f0)then(some false)else(recoupref21_May.l2 k4 J (wrap64 (X+1)) aa I ah))else(none))else(none))=some r:=by first|(rw[gi]at H;exact H)|(simp only[gi]at H⊢;exact H)
         have hji46w:(IntKind.i64.wrap (X-1))=a6:=(i64_w _).trans gi;by_cases ij:0<=(a6)
         case neg=>rw[if_neg ij]at H;exact absurd H zac
         rw[if_pos ij]at H
         have c47b0:decide (0<=(a6))=true:=decide_eq_true ij;clear ij;by_cases ik:(a6)<((rd_L5 I J).length:Int)
         case neg=>rw[if_neg ik]at H;exact absurd H zac
         rw[if_pos ik]at H
         have c48b0:decide ((a6)<((rd_L5 I J).length:Int))=true:=decide_eq_true ik;clear ik;by_cases g5:((rd_T61 (rd_L5 I J) X).f0)<=((rd_T61 (rd_L5 I J) (a6)).f0)
         ·rw[if_pos g5]at H
          have c49b0:decide (((rd_T61 (rd_L5 I J) X).f0)<=((rd_T61 (rd_L5 I J) (a6)).f0))=true:=decide_eq_true g5;clear g5;obtain rfl:=Option.some.inj H;obtain⟨i3,i4,i5,jr,js,jt⟩:=cell3 G;have a7:0<=(J:Int):=of_decide_eq_true asE;have a8:J<(I.length:Int):=of_decide_eq_true asE;obtain⟨ab,ci,cj,b5,ai,az,ay⟩:=at_L5 a9.out J a7 a8
          cases b5
          replace ai:=(HB.out.cell (World.block_lt_of_cell? w _ ai)).trans ai;have b4:=aK ay;have b3:=aK az;clear ay az;replace a7:=eq_true a7;replace a8:=eq_true a8;have ba:0<=(J:Int):=of_decide_eq_true asE;have be:J<(I.length:Int):=of_decide_eq_true asE;obtain⟨bx,cq,ct,b8,aj,a3,a1⟩:=at_L5 a9.out J ba be;obtain rfl:ab=bx:=zav
          replace aj:=(HB.out.cell (World.block_lt_of_cell? w _ aj)).trans aj;have bj:=aK a1;have b6:=aK a3;clear a1 a3;replace ba:=eq_true ba;replace be:=eq_true be;have ea_:=Option.some.inj (ai.symm.trans aj);injection ea_ with ea_ en_ ec_;subst ea_;subst ec_;clear en_;have bb:0<=(X:Int):=of_decide_eq_true asE;have bf:X<((rd_L5 I J).length:Int):=of_decide_eq_true asE;obtain⟨dn,b9,av,aw⟩:=at_T61 bj.out X bb bf
          cases b9
          replace av:=(HB.out.cell (World.block_lt_of_cell? w _ av)).trans av;replace aw:=(HB.out.cell (World.block_lt_of_cell? w _ aw)).trans aw;replace bb:=eq_true bb;replace bf:=eq_true bf
          go_wp2_with (first|((with_reducible refine gD 6 rfl ?_);(try(refine gate_guard zae ?_;dsimp only));refine bE 6 #[.int .i64 0,.int .u8 0] 61 ?_;intro D hg b1 hbox hb;have ac:=aK (hbox);have an:=hbS HB hg;have bi:=hbS HB hg;replace HB:=hbB HB hb;have Z:=neL G hg;have ae:=neG G hg;replace G:=bkB G hb;clear hb hbox hg;have ka:=ae.out;have kg:=Z.out;obtain⟨ei,ej,fq,ft⟩:=cell2 ac;obtain⟨ek,el,em,fu,fv,fw⟩:=cell3 G;have bc:0<=(J:Int):=of_decide_eq_true asE;have bg:J<(I.length:Int):=of_decide_eq_true asE;obtain⟨bz,cr,cu,ca,L,a4,a2⟩:=at_L5 a9.out J bc bg;obtain rfl:ab=bz:=zau;have ak:ab.block≠D:=Nat.ne_of_lt (Nat.lt_of_lt_of_le zap an.out);have al:ab.block≠D:=Nat.ne_of_lt (Nat.lt_of_lt_of_le zap an.out);replace L:=(HB.out.cell (World.block_lt_of_cell? w _ L)).trans L;have bk:=aK a2;have b7:=aK a4;clear a2 a4;replace L:=(cell_far (p:=⟨D,0,none⟩) zar (.int .i64 ((rd_T61 (rd_L5 I J) X).f0))).trans L;replace L:=(cell_far (p:=⟨D,1,none⟩) zaq (.int .u8 ((rd_T61 (rd_L5 I J) X).f1))).trans L;(try have cd:=fun(n_:Nat)=>(show((((b1.drewN n_).setCell ⟨D,0,none⟩ (.int .i64 ((rd_T61 (rd_L5 I J) X).f0))).setCell ⟨D,1,none⟩ (.int .u8 ((rd_T61 (rd_L5 I J) X).f1)))).cell? _=some _ from L));clear ak;clear al;replace bc:=eq_true bc;replace bg:=eq_true bg;have bd:0<=((a6):Int):=of_decide_eq_true asE;have bh:(a6)<((rd_L5 I J).length:Int):=of_decide_eq_true asE;obtain⟨bl,cb,O,Y⟩:=at_T61 bk.out (a6) bd bh;cases cb;have af:bl.block≠D:=Nat.ne_of_lt (Nat.lt_of_lt_of_le zao an.out);have ag:bl.block≠D:=Nat.ne_of_lt (Nat.lt_of_lt_of_le zao an.out);replace O:=(HB.out.cell (World.block_lt_of_cell? w _ O)).trans O;replace Y:=(HB.out.cell (World.block_lt_of_cell? w _ Y)).trans Y;replace O:=(cell_far (p:=⟨D,0,none⟩) zan (.int .i64 ((rd_T61 (rd_L5 I J) X).f0))).trans O;replace Y:=(cell_far (p:=⟨D,0,none⟩) zan (.int .i64 ((rd_T61 (rd_L5 I J) X).f0))).trans Y;replace O:=(cell_far (p:=⟨D,1,none⟩) zam (.int .u8 ((rd_T61 (rd_L5 I J) X).f1))).trans O;replace Y:=(cell_far (p:=⟨D,1,none⟩) zam (.int .u8 ((rd_T61 (rd_L5 I J) X).f1))).trans Y;(try have ce:=fun(n_:Nat)=>(show((((b1.drewN n_).setCell ⟨D,0,none⟩ (.int .i64 ((rd_T61 (rd_L5 I J) X).f0))).setCell ⟨D,1,none⟩ (.int .u8 ((rd_T61 (rd_L5 I J) X).f1)))).cell? _=some _ from O));(try have cf:=fun(n_:Nat)=>(show((((b1.drewN n_).setCell ⟨D,0,none⟩ (.int .i64 ((rd_T61 (rd_L5 I J) X).f0))).setCell ⟨D,1,none⟩ (.int .u8 ((rd_T61 (rd_L5 I J) X).f1)))).cell? _=some _ from Y));clear af;clear ag;replace bd:=eq_true bd;replace bh:=eq_true bh))
          repeat(go_quiet (first|((with_reducible refine gate_dst (N:=6) rfl ?_);(try(refine gate_guard zae ?_;dsimp only));refine box_event ?hg (N:=6) ?hd (cs:= #[.int .i64 0,.int .u8 0]) (t:=61) ?hr ?_;(case hd=>rfl);(case hg=>rfl);(case hr=>first|(go_simp;done)|(go_simp;rfl));intro D hg b1 hbox hb;have n0_:=aK (blk_below (g:=U) (o:= .cells #[.slice ao aa.length aq,.slice (some ab) I.length ar,.slice ap ah.length au] 25 (0,0)) (bkA G.out) hb);have n1_:=aK (below_step (hbA HB.out) hb);have n2_:=aK (hbox);have n3_:=aK ((by rw[hg];exact(below_size (hbA HB.out)):w.heap.size<=D));have n4_:=aK ((by rw[hg];exact(below_size (hbA HB.out)):w.heap.size<=D));have n5_:=aK ((by rw[hg];exact Nat.ne_of_lt (blk_lt (g:=U) (o:= .cells #[.slice ao aa.length aq,.slice (some ab) I.length ar,.slice ap ah.length au] 25 (0,0)) (bkA G.out)):U≠D));have n6_:=aK ((by rw[hg];exact Nat.ne_of_gt (blk_lt (g:=U) (o:= .cells #[.slice ao aa.length aq,.slice (some ab) I.length ar,.slice ap ah.length au] 25 (0,0)) (bkA G.out)):D≠U));clear G;clear HB;have G:=n0_;have HB:=n1_;have ac:=n2_;have an:=n3_;have bi:=n4_;have Z:=n5_;have ae:=n6_;clear n0_ n1_ n2_ n3_ n4_ n5_ n6_;clear hb hbox hg;have ka:=ae.out;have kg:=Z.out;have ei:b1.cell? ⟨D,0,none⟩=some (.int .i64 0):=(blk_cell ac.out 0).trans rfl;have ej:b1.cell? ⟨D,1,none⟩=some (.int .u8 0):=(blk_cell ac.out 1).trans rfl;have fq:=blk_frozen ac.out 0;have ft:=blk_frozen ac.out 1;have ek:b1.cell? ⟨U,0,none⟩=some (.slice ao aa.length aq):=(blk_cell G.out 0).trans rfl;have el:b1.cell? ⟨U,1,none⟩=some (.slice (some ab) I.length ar):=(blk_cell G.out 1).trans rfl;have em:b1.cell? ⟨U,2,none⟩=some (.slice ap ah.length au):=(blk_cell G.out 2).trans rfl;have fu:=blk_frozen G.out 0;have fv:=blk_frozen G.out 1;have fw:=blk_frozen G.out 2;have bc:0<=(J:Int):=of_decide_eq_true asE;have bg:J<(I.length:Int):=of_decide_eq_true asE;obtain⟨bz,cr,cu,ca,L,a4,a2⟩:=at_L5 a9.out J bc bg;obtain rfl:ab=bz:=zau;have ak:ab.block≠D:=Nat.ne_of_lt (Nat.lt_of_lt_of_le zap an.out);have al:ab.block≠D:=Nat.ne_of_lt (Nat.lt_of_lt_of_le zap an.out);replace L:=(HB.out.cell (World.block_lt_of_cell? w _ L)).trans L;have bk:=aK a2;have b7:=aK a4;clear a2 a4;replace L:=(cell_far (p:=⟨D,0,none⟩) zar (.int .i64 ((rd_T61 (rd_L5 I J) X).f0))).trans L;replace L:=(cell_far (p:=⟨D,1,none⟩) zaq (.int .u8 ((rd_T61 (rd_L5 I J) X).f1))).trans L;(try have cd:=fun(n_:Nat)=>(show((((b1.drewN n_).setCell ⟨D,0,none⟩ (.int .i64 ((rd_T61 (rd_L5 I J) X).f0))).setCell ⟨D,1,none⟩ (.int .u8 ((rd_T61 (rd_L5 I J) X).f1)))).cell? _=some _ from L));clear ak;clear al;replace bc:=eq_true bc;replace bg:=eq_true bg;have bd:0<=((a6):Int):=of_decide_eq_true asE;have bh:(a6)<((rd_L5 I J).length:Int):=of_decide_eq_true asE;obtain⟨bl,cb,O,Y⟩:=at_T61 bk.out (a6) bd bh;cases cb;have af:bl.block≠D:=Nat.ne_of_lt (Nat.lt_of_lt_of_le zao an.out);have ag:bl.block≠D:=Nat.ne_of_lt (Nat.lt_of_lt_of_le zao an.out);replace O:=(HB.out.cell (World.block_lt_of_cell? w _ O)).trans O;replace Y:=(HB.out.cell (World.block_lt_of_cell? w _ Y)).trans Y;replace O:=(cell_far (p:=⟨D,0,none⟩) zan (.int .i64 ((rd_T61 (rd_L5 I J) X).f0))).trans O;replace Y:=(cell_far (p:=⟨D,0,none⟩) zan (.int .i64 ((rd_T61 (rd_L5 I J) X).f0))).trans Y;replace O:=(cell_far (p:=⟨D,1,none⟩) zam (.int .u8 ((rd_T61 (rd_L5 I J) X).f1))).trans O;replace Y:=(cell_far (p:=⟨D,1,none⟩) zam (.int .u8 ((rd_T61 (rd_L5 I J) X).f1))).trans Y;(try have ce:=fun(n_:Nat)=>(show((((b1.drewN n_).setCell ⟨D,0,none⟩ (.int .i64 ((rd_T61 (rd_L5 I J) X).f0))).setCell ⟨D,1,none⟩ (.int .u8 ((rd_T61 (rd_L5 I J) X).f1)))).cell? _=some _ from O));(try have cf:=fun(n_:Nat)=>(show((((b1.drewN n_).setCell ⟨D,0,none⟩ (.int .i64 ((rd_T61 (rd_L5 I J) X).f0))).setCell ⟨D,1,none⟩ (.int .u8 ((rd_T61 (rd_L5 I J) X).f1)))).cell? _=some _ from Y));clear af;clear ag;replace bd:=eq_true bd;replace bh:=eq_true bh));try go_wp2_with (first|((with_reducible refine gate_dst (N:=6) rfl ?_);(try(refine gate_guard zae ?_;dsimp only));refine box_event ?hg (N:=6) ?hd (cs:= #[.int .i64 0,.int .u8 0]) (t:=61) ?hr ?_;(case hd=>rfl);(case hg=>rfl);(case hr=>first|(go_simp;done)|(go_simp;rfl));intro D hg b1 hbox hb;have n0_:=aK (blk_below (g:=U) (o:= .cells #[.slice ao aa.length aq,.slice (some ab) I.length ar,.slice ap ah.length au] 25 (0,0)) (bkA G.out) hb);have n1_:=aK (below_step (hbA HB.out) hb);have n2_:=aK (hbox);have n3_:=aK ((by rw[hg];exact(below_size (hbA HB.out)):w.heap.size<=D));have n4_:=aK ((by rw[hg];exact(below_size (hbA HB.out)):w.heap.size<=D));have n5_:=aK ((by rw[hg];exact Nat.ne_of_lt (blk_lt (g:=U) (o:= .cells #[.slice ao aa.length aq,.slice (some ab) I.length ar,.slice ap ah.length au] 25 (0,0)) (bkA G.out)):U≠D));have n6_:=aK ((by rw[hg];exact Nat.ne_of_gt (blk_lt (g:=U) (o:= .cells #[.slice ao aa.length aq,.slice (some ab) I.length ar,.slice ap ah.length au] 25 (0,0)) (bkA G.out)):D≠U));clear G;clear HB;have G:=n0_;have HB:=n1_;have ac:=n2_;have an:=n3_;have bi:=n4_;have Z:=n5_;have ae:=n6_;clear n0_ n1_ n2_ n3_ n4_ n5_ n6_;clear hb hbox hg;have ka:=ae.out;have kg:=Z.out;have ei:b1.cell? ⟨D,0,none⟩=some (.int .i64 0):=(blk_cell ac.out 0).trans rfl;have ej:b1.cell? ⟨D,1,none⟩=some (.int .u8 0):=(blk_cell ac.out 1).trans rfl;have fq:=blk_frozen ac.out 0;have ft:=blk_frozen ac.out 1;have ek:b1.cell? ⟨U,0,none⟩=some (.slice ao aa.length aq):=(blk_cell G.out 0).trans rfl;have el:b1.cell? ⟨U,1,none⟩=some (.slice (some ab) I.length ar):=(blk_cell G.out 1).trans rfl;have em:b1.cell? ⟨U,2,none⟩=some (.slice ap ah.length au):=(blk_cell G.out 2).trans rfl;have fu:=blk_frozen G.out 0;have fv:=blk_frozen G.out 1;have fw:=blk_frozen G.out 2;have bc:0<=(J:Int):=of_decide_eq_true asE;have bg:J<(I.length:Int):=of_decide_eq_true asE;obtain⟨bz,cr,cu,ca,L,a4,a2⟩:=at_L5 a9.out J bc bg;obtain rfl:ab=bz:=zau;have ak:ab.block≠D:=Nat.ne_of_lt (Nat.lt_of_lt_of_le zap an.out);have al:ab.block≠D:=Nat.ne_of_lt (Nat.lt_of_lt_of_le zap an.out);replace L:=(HB.out.cell (World.block_lt_of_cell? w _ L)).trans L;have bk:=aK a2;have b7:=aK a4;clear a2 a4;replace L:=(cell_far (p:=⟨D,0,none⟩) zar (.int .i64 ((rd_T61 (rd_L5 I J) X).f0))).trans L;replace L:=(cell_far (p:=⟨D,1,none⟩) zaq (.int .u8 ((rd_T61 (rd_L5 I J) X).f1))).trans L;(try have cd:=fun(n_:Nat)=>(show((((b1.drewN n_).setCell ⟨D,0,none⟩ (.int .i64 ((rd_T61 (rd_L5 I J) X).f0))).setCell ⟨D,1,none⟩ (.int .u8 ((rd_T61 (rd_L5 I J) X).f1)))).cell? _=some _ from L));clear ak;clear al;replace bc:=eq_true bc;replace bg:=eq_true bg;have bd:0<=((a6):Int):=of_decide_eq_true asE;have bh:(a6)<((rd_L5 I J).length:Int):=of_decide_eq_true asE;obtain⟨bl,cb,O,Y⟩:=at_T61 bk.out (a6) bd bh;cases cb;have af:bl.block≠D:=Nat.ne_of_lt (Nat.lt_of_lt_of_le zao an.out);have ag:bl.block≠D:=Nat.ne_of_lt (Nat.lt_of_lt_of_le zao an.out);replace O:=(HB.out.cell (World.block_lt_of_cell? w _ O)).trans O;replace Y:=(HB.out.cell (World.block_lt_of_cell? w _ Y)).trans Y;replace O:=(cell_far (p:=⟨D,0,none⟩) zan (.int .i64 ((rd_T61 (rd_L5 I J) X).f0))).trans O;replace Y:=(cell_far (p:=⟨D,0,none⟩) zan (.int .i64 ((rd_T61 (rd_L5 I J) X).f0))).trans Y;replace O:=(cell_far (p:=⟨D,1,none⟩) zam (.int .u8 ((rd_T61 (rd_L5 I J) X).f1))).trans O;replace Y:=(cell_far (p:=⟨D,1,none⟩) zam (.int .u8 ((rd_T61 (rd_L5 I J) X).f1))).trans Y;(try have ce:=fun(n_:Nat)=>(show((((b1.drewN n_).setCell ⟨D,0,none⟩ (.int .i64 ((rd_T61 (rd_L5 I J) X).f0))).setCell ⟨D,1,none⟩ (.int .u8 ((rd_T61 (rd_L5 I J) X).f1)))).cell? _=some _ from O));(try have cf:=fun(n_:Nat)=>(show((((b1.drewN n_).setCell ⟨D,0,none⟩ (.int .i64 ((rd_T61 (rd_L5 I J) X).f0))).setCell ⟨D,1,none⟩ (.int .u8 ((rd_T61 (rd_L5 I J) X).f1)))).cell? _=some _ from Y));clear af;clear ag;replace bd:=eq_true bd;replace bh:=eq_true bh)))
          go_ret
          exact⟨by first|rfl|(simp[errW_none,errW_some]<;>rfl)|(simp only[<-gi];first|rfl|(simp[errW_none,errW_some]<;>rfl))|(simp[*,errW_none,errW_some]<;>rfl),hbA HB.out⟩
         rw[if_neg g5]at H
         have c49b0:decide (((rd_T61 (rd_L5 I J) X).f0)<=((rd_T61 (rd_L5 I J) (a6)).f0))=false:=decide_eq_false g5;clear g5;have H':=aK H;clear H;obtain⟨i6,i7,i8,ju,jv,jw⟩:=cell3 G;have a7:0<=(J:Int):=of_decide_eq_true asE;have a8:J<(I.length:Int):=of_decide_eq_true asE;obtain⟨ab,ci,cj,b5,ai,az,ay⟩:=at_L5 a9.out J a7 a8
         cases b5
         replace ai:=(HB.out.cell (World.block_lt_of_cell? w _ ai)).trans ai;have b4:=aK ay;have b3:=aK az;clear ay az;replace a7:=eq_true a7;replace a8:=eq_true a8;have ba:0<=(J:Int):=of_decide_eq_true asE;have be:J<(I.length:Int):=of_decide_eq_true asE;obtain⟨bx,cq,ct,b8,aj,a3,a1⟩:=at_L5 a9.out J ba be;obtain rfl:ab=bx:=zav
         replace aj:=(HB.out.cell (World.block_lt_of_cell? w _ aj)).trans aj;have bj:=aK a1;have b6:=aK a3;clear a1 a3;replace ba:=eq_true ba;replace be:=eq_true be;have ea_:=Option.some.inj (ai.symm.trans aj);injection ea_ with ea_ en_ ec_;subst ea_;subst ec_;clear en_;have bb:0<=(X:Int):=of_decide_eq_true asE;have bf:X<((rd_L5 I J).length:Int):=of_decide_eq_true asE;obtain⟨dn,b9,av,aw⟩:=at_T61 bj.out X bb bf
         cases b9
         replace av:=(HB.out.cell (World.block_lt_of_cell? w _ av)).trans av;replace aw:=(HB.out.cell (World.block_lt_of_cell? w _ aw)).trans aw;replace bb:=eq_true bb;replace bf:=eq_true bf
         go_wp2_with (first|((with_reducible refine gD 6 rfl ?_);(try(refine gate_guard zae ?_;dsimp only));refine bE 6 #[.int .i64 0,.int .u8 0] 61 ?_;intro D hg b2 hbox hb;have ac:=aK (hbox);have an:=hbS HB hg;have bi:=hbS HB hg;replace HB:=hbB HB hb;have Z:=neL G hg;have ae:=neG G hg;replace G:=bkB G hb;clear hb hbox hg;have kb:=ae.out;have ki:=Z.out;obtain⟨en,eo,fx,fy⟩:=cell2 ac;obtain⟨ep,er,es,fz,f2,f3⟩:=cell3 G;have bc:0<=(J:Int):=of_decide_eq_true asE;have bg:J<(I.length:Int):=of_decide_eq_true asE;obtain⟨bz,cr,cu,ca,L,a4,a2⟩:=at_L5 a9.out J bc bg;obtain rfl:ab=bz:=zau;have ak:ab.block≠D:=Nat.ne_of_lt (Nat.lt_of_lt_of_le zap an.out);have al:ab.block≠D:=Nat.ne_of_lt (Nat.lt_of_lt_of_le zap an.out);replace L:=(HB.out.cell (World.block_lt_of_cell? w _ L)).trans L;have bk:=aK a2;have b7:=aK a4;clear a2 a4;replace L:=(cell_far (p:=⟨D,0,none⟩) zar (.int .i64 ((rd_T61 (rd_L5 I J) X).f0))).trans L;replace L:=(cell_far (p:=⟨D,1,none⟩) zaq (.int .u8 ((rd_T61 (rd_L5 I J) X).f1))).trans L;(try have cd:=fun(n_:Nat)=>(show((((b2.drewN n_).setCell ⟨D,0,none⟩ (.int .i64 ((rd_T61 (rd_L5 I J) X).f0))).setCell ⟨D,1,none⟩ (.int .u8 ((rd_T61 (rd_L5 I J) X).f1)))).cell? _=some _ from L));clear ak;clear al;replace bc:=eq_true bc;replace bg:=eq_true bg;have bd:0<=((a6):Int):=of_decide_eq_true asE;have bh:(a6)<((rd_L5 I J).length:Int):=of_decide_eq_true asE;obtain⟨bl,cb,O,Y⟩:=at_T61 bk.out (a6) bd bh;cases cb;have af:bl.block≠D:=Nat.ne_of_lt (Nat.lt_of_lt_of_le zao an.out);have ag:bl.block≠D:=Nat.ne_of_lt (Nat.lt_of_lt_of_le zao an.out);replace O:=(HB.out.cell (World.block_lt_of_cell? w _ O)).trans O;replace Y:=(HB.out.cell (World.block_lt_of_cell? w _ Y)).trans Y;replace O:=(cell_far (p:=⟨D,0,none⟩) zan (.int .i64 ((rd_T61 (rd_L5 I J) X).f0))).trans O;replace Y:=(cell_far (p:=⟨D,0,none⟩) zan (.int .i64 ((rd_T61 (rd_L5 I J) X).f0))).trans Y;replace O:=(cell_far (p:=⟨D,1,none⟩) zam (.int .u8 ((rd_T61 (rd_L5 I J) X).f1))).trans O;replace Y:=(cell_far (p:=⟨D,1,none⟩) zam (.int .u8 ((rd_T61 (rd_L5 I J) X).f1))).trans Y;(try have ce:=fun(n_:Nat)=>(show((((b2.drewN n_).setCell ⟨D,0,none⟩ (.int .i64 ((rd_T61 (rd_L5 I J) X).f0))).setCell ⟨D,1,none⟩ (.int .u8 ((rd_T61 (rd_L5 I J) X).f1)))).cell? _=some _ from O));(try have cf:=fun(n_:Nat)=>(show((((b2.drewN n_).setCell ⟨D,0,none⟩ (.int .i64 ((rd_T61 (rd_L5 I J) X).f0))).setCell ⟨D,1,none⟩ (.int .u8 ((rd_T61 (rd_L5 I J) X).f1)))).cell? _=some _ from Y));clear af;clear ag;replace bd:=eq_true bd;replace bh:=eq_true bh))
         repeat(go_quiet (first|((with_reducible refine gate_dst (N:=6) rfl ?_);(try(refine gate_guard zae ?_;dsimp only));refine box_event ?hg (N:=6) ?hd (cs:= #[.int .i64 0,.int .u8 0]) (t:=61) ?hr ?_;(case hd=>rfl);(case hg=>rfl);(case hr=>first|(go_simp;done)|(go_simp;rfl));intro D hg b2 hbox hb;have n0_:=aK (blk_below (g:=U) (o:= .cells #[.slice ao aa.length aq,.slice (some ab) I.length ar,.slice ap ah.length au] 25 (0,0)) (bkA G.out) hb);have n1_:=aK (below_step (hbA HB.out) hb);have n2_:=aK (hbox);have n3_:=aK ((by rw[hg];exact(below_size (hbA HB.out)):w.heap.size<=D));have n4_:=aK ((by rw[hg];exact(below_size (hbA HB.out)):w.heap.size<=D));have n5_:=aK ((by rw[hg];exact Nat.ne_of_lt (blk_lt (g:=U) (o:= .cells #[.slice ao aa.length aq,.slice (some ab) I.length ar,.slice ap ah.length au] 25 (0,0)) (bkA G.out)):U≠D));have n6_:=aK ((by rw[hg];exact Nat.ne_of_gt (blk_lt (g:=U) (o:= .cells #[.slice ao aa.length aq,.slice (some ab) I.length ar,.slice ap ah.length au] 25 (0,0)) (bkA G.out)):D≠U));clear G;clear HB;have G:=n0_;have HB:=n1_;have ac:=n2_;have an:=n3_;have bi:=n4_;have Z:=n5_;have ae:=n6_;clear n0_ n1_ n2_ n3_ n4_ n5_ n6_;clear hb hbox hg;have kb:=ae.out;have ki:=Z.out;have en:b2.cell? ⟨D,0,none⟩=some (.int .i64 0):=(blk_cell ac.out 0).trans rfl;have eo:b2.cell? ⟨D,1,none⟩=some (.int .u8 0):=(blk_cell ac.out 1).trans rfl;have fx:=blk_frozen ac.out 0;have fy:=blk_frozen ac.out 1;have ep:b2.cell? ⟨U,0,none⟩=some (.slice ao aa.length aq):=(blk_cell G.out 0).trans rfl;have er:b2.cell? ⟨U,1,none⟩=some (.slice (some ab) I.length ar):=(blk_cell G.out 1).trans rfl;have es:b2.cell? ⟨U,2,none⟩=some (.slice ap ah.length au):=(blk_cell G.out 2).trans rfl;have fz:=blk_frozen G.out 0;have f2:=blk_frozen G.out 1;have f3:=blk_frozen G.out 2;have bc:0<=(J:Int):=of_decide_eq_true asE;have bg:J<(I.length:Int):=of_decide_eq_true asE;obtain⟨bz,cr,cu,ca,L,a4,a2⟩:=at_L5 a9.out J bc bg;obtain rfl:ab=bz:=zau;have ak:ab.block≠D:=Nat.ne_of_lt (Nat.lt_of_lt_of_le zap an.out);have al:ab.block≠D:=Nat.ne_of_lt (Nat.lt_of_lt_of_le zap an.out);replace L:=(HB.out.cell (World.block_lt_of_cell? w _ L)).trans L;have bk:=aK a2;have b7:=aK a4;clear a2 a4;replace L:=(cell_far (p:=⟨D,0,none⟩) zar (.int .i64 ((rd_T61 (rd_L5 I J) X).f0))).trans L;replace L:=(cell_far (p:=⟨D,1,none⟩) zaq (.int .u8 ((rd_T61 (rd_L5 I J) X).f1))).trans L;(try have cd:=fun(n_:Nat)=>(show((((b2.drewN n_).setCell ⟨D,0,none⟩ (.int .i64 ((rd_T61 (rd_L5 I J) X).f0))).setCell ⟨D,1,none⟩ (.int .u8 ((rd_T61 (rd_L5 I J) X).f1)))).cell? _=some _ from L));clear ak;clear al;replace bc:=eq_true bc;replace bg:=eq_true bg;have bd:0<=((a6):Int):=of_decide_eq_true asE;have bh:(a6)<((rd_L5 I J).length:Int):=of_decide_eq_true asE;obtain⟨bl,cb,O,Y⟩:=at_T61 bk.out (a6) bd bh;cases cb;have af:bl.block≠D:=Nat.ne_of_lt (Nat.lt_of_lt_of_le zao an.out);have ag:bl.block≠D:=Nat.ne_of_lt (Nat.lt_of_lt_of_le zao an.out);replace O:=(HB.out.cell (World.block_lt_of_cell? w _ O)).trans O;replace Y:=(HB.out.cell (World.block_lt_of_cell? w _ Y)).trans Y;replace O:=(cell_far (p:=⟨D,0,none⟩) zan (.int .i64 ((rd_T61 (rd_L5 I J) X).f0))).trans O;replace Y:=(cell_far (p:=⟨D,0,none⟩) zan (.int .i64 ((rd_T61 (rd_L5 I J) X).f0))).trans Y;replace O:=(cell_far (p:=⟨D,1,none⟩) zam (.int .u8 ((rd_T61 (rd_L5 I J) X).f1))).trans O;replace Y:=(cell_far (p:=⟨D,1,none⟩) zam (.int .u8 ((rd_T61 (rd_L5 I J) X).f1))).trans Y;(try have ce:=fun(n_:Nat)=>(show((((b2.drewN n_).setCell ⟨D,0,none⟩ (.int .i64 ((rd_T61 (rd_L5 I J) X).f0))).setCell ⟨D,1,none⟩ (.int .u8 ((rd_T61 (rd_L5 I J) X).f1)))).cell? _=some _ from O));(try have cf:=fun(n_:Nat)=>(show((((b2.drewN n_).setCell ⟨D,0,none⟩ (.int .i64 ((rd_T61 (rd_L5 I J) X).f0))).setCell ⟨D,1,none⟩ (.int .u8 ((rd_T61 (rd_L5 I J) X).f1)))).cell? _=some _ from Y));clear af;clear ag;replace bd:=eq_true bd;replace bh:=eq_true bh));try go_wp2_with (first|((with_reducible refine gate_dst (N:=6) rfl ?_);(try(refine gate_guard zae ?_;dsimp only));refine box_event ?hg (N:=6) ?hd (cs:= #[.int .i64 0,.int .u8 0]) (t:=61) ?hr ?_;(case hd=>rfl);(case hg=>rfl);(case hr=>first|(go_simp;done)|(go_simp;rfl));intro D hg b2 hbox hb;have n0_:=aK (blk_below (g:=U) (o:= .cells #[.slice ao aa.length aq,.slice (some ab) I.length ar,.slice ap ah.length au] 25 (0,0)) (bkA G.out) hb);have n1_:=aK (below_step (hbA HB.out) hb);have n2_:=aK (hbox);have n3_:=aK ((by rw[hg];exact(below_size (hbA HB.out)):w.heap.size<=D));have n4_:=aK ((by rw[hg];exact(below_size (hbA HB.out)):w.heap.size<=D));have n5_:=aK ((by rw[hg];exact Nat.ne_of_lt (blk_lt (g:=U) (o:= .cells #[.slice ao aa.length aq,.slice (some ab) I.length ar,.slice ap ah.length au] 25 (0,0)) (bkA G.out)):U≠D));have n6_:=aK ((by rw[hg];exact Nat.ne_of_gt (blk_lt (g:=U) (o:= .cells #[.slice ao aa.length aq,.slice (some ab) I.length ar,.slice ap ah.length au] 25 (0,0)) (bkA G.out)):D≠U));clear G;clear HB;have G:=n0_;have HB:=n1_;have ac:=n2_;have an:=n3_;have bi:=n4_;have Z:=n5_;have ae:=n6_;clear n0_ n1_ n2_ n3_ n4_ n5_ n6_;clear hb hbox hg;have kb:=ae.out;have ki:=Z.out;have en:b2.cell? ⟨D,0,none⟩=some (.int .i64 0):=(blk_cell ac.out 0).trans rfl;have eo:b2.cell? ⟨D,1,none⟩=some (.int .u8 0):=(blk_cell ac.out 1).trans rfl;have fx:=blk_frozen ac.out 0;have fy:=blk_frozen ac.out 1;have ep:b2.cell? ⟨U,0,none⟩=some (.slice ao aa.length aq):=(blk_cell G.out 0).trans rfl;have er:b2.cell? ⟨U,1,none⟩=some (.slice (some ab) I.length ar):=(blk_cell G.out 1).trans rfl;have es:b2.cell? ⟨U,2,none⟩=some (.slice ap ah.length au):=(blk_cell G.out 2).trans rfl;have fz:=blk_frozen G.out 0;have f2:=blk_frozen G.out 1;have f3:=blk_frozen G.out 2;have bc:0<=(J:Int):=of_decide_eq_true asE;have bg:J<(I.length:Int):=of_decide_eq_true asE;obtain⟨bz,cr,cu,ca,L,a4,a2⟩:=at_L5 a9.out J bc bg;obtain rfl:ab=bz:=zau;have ak:ab.block≠D:=Nat.ne_of_lt (Nat.lt_of_lt_of_le zap an.out);have al:ab.block≠D:=Nat.ne_of_lt (Nat.lt_of_lt_of_le zap an.out);replace L:=(HB.out.cell (World.block_lt_of_cell? w _ L)).trans L;have bk:=aK a2;have b7:=aK a4;clear a2 a4;replace L:=(cell_far (p:=⟨D,0,none⟩) zar (.int .i64 ((rd_T61 (rd_L5 I J) X).f0))).trans L;replace L:=(cell_far (p:=⟨D,1,none⟩) zaq (.int .u8 ((rd_T61 (rd_L5 I J) X).f1))).trans L;(try have cd:=fun(n_:Nat)=>(show((((b2.drewN n_).setCell ⟨D,0,none⟩ (.int .i64 ((rd_T61 (rd_L5 I J) X).f0))).setCell ⟨D,1,none⟩ (.int .u8 ((rd_T61 (rd_L5 I J) X).f1)))).cell? _=some _ from L));clear ak;clear al;replace bc:=eq_true bc;replace bg:=eq_true bg;have bd:0<=((a6):Int):=of_decide_eq_true asE;have bh:(a6)<((rd_L5 I J).length:Int):=of_decide_eq_true asE;obtain⟨bl,cb,O,Y⟩:=at_T61 bk.out (a6) bd bh;cases cb;have af:bl.block≠D:=Nat.ne_of_lt (Nat.lt_of_lt_of_le zao an.out);have ag:bl.block≠D:=Nat.ne_of_lt (Nat.lt_of_lt_of_le zao an.out);replace O:=(HB.out.cell (World.block_lt_of_cell? w _ O)).trans O;replace Y:=(HB.out.cell (World.block_lt_of_cell? w _ Y)).trans Y;replace O:=(cell_far (p:=⟨D,0,none⟩) zan (.int .i64 ((rd_T61 (rd_L5 I J) X).f0))).trans O;replace Y:=(cell_far (p:=⟨D,0,none⟩) zan (.int .i64 ((rd_T61 (rd_L5 I J) X).f0))).trans Y;replace O:=(cell_far (p:=⟨D,1,none⟩) zam (.int .u8 ((rd_T61 (rd_L5 I J) X).f1))).trans O;replace Y:=(cell_far (p:=⟨D,1,none⟩) zam (.int .u8 ((rd_T61 (rd_L5 I J) X).f1))).trans Y;(try have ce:=fun(n_:Nat)=>(show((((b2.drewN n_).setCell ⟨D,0,none⟩ (.int .i64 ((rd_T61 (rd_L5 I J) X).f0))).setCell ⟨D,1,none⟩ (.int .u8 ((rd_T61 (rd_L5 I J) X).f1)))).cell? _=some _ from O));(try have cf:=fun(n_:Nat)=>(show((((b2.drewN n_).setCell ⟨D,0,none⟩ (.int .i64 ((rd_T61 (rd_L5 I J) X).f0))).setCell ⟨D,1,none⟩ (.int .u8 ((rd_T61 (rd_L5 I J) X).f1)))).cell? _=some _ from Y));clear af;clear ag;replace bd:=eq_true bd;replace bh:=eq_true bh)))
         go_roundg k4
         case measure=>have:=di.out;have:=dj.out;have:=gl.out;have:=gb.out;omega
         case rel=>exact⟨(wrap64 (X+1)),rsE,H',⟨by have:=di.out;have:=dj.out;have:=gl.out;have:=gb.out;omega⟩,⟨by refine bkR ?_;refine blk_far ?_ Z.out _;refine bkR ?_;refine blk_far ?_ Z.out _;refine bkR ?_;exact G.out⟩,⟨hbA HB.out⟩⟩
mutual
def recoupref01_Mul.l0:Nat->Int->Int->Int->Int->Option (Int)
 |0,_,_,_,_=>none
 |k+1,x0,x1,x5,x6=>if x6<8 then(if 0<=(IntKind.u64.wrap (x6))then(if(Go.bits .and .u8 (shr .u8 x1 (IntKind.u64.wrap (x6))) 1)=1 then(recoupref01_Mul.l0 k x0 x1 (Go.bits .xor .i64 x5 (shl .i64 (wrap64 (x0)) (IntKind.u64.wrap (x6)))) (wrap64 (x6+1)))else(recoupref01_Mul.l0 k x0 x1 x5 (wrap64 (x6+1))))else(none))else(recoupref01_Mul.l1 k x5 14)
def recoupref01_Mul.l1:Nat->Int->Int->Option (Int)
 |0,_,_=>none
 |k+1,x5,x7=>if x7>=8 then(if 0<=(IntKind.u64.wrap (x7))then(if(Go.bits .and .i64 (shr .i64 x5 (IntKind.u64.wrap (x7))) 1)=1 then(if 0<=(IntKind.u64.wrap (wrap64 (x7-8)))then(recoupref01_Mul.l1 k (Go.bits .xor .i64 x5 (shl .i64 285 (IntKind.u64.wrap (wrap64 (x7-8))))) (wrap64 (x7-1)))else(none))else(recoupref01_Mul.l1 k x5 (wrap64 (x7-1))))else(none))else(some ((x5) % 256))
end
def recoupref01_Mul.f(k:Nat)(a0:Int)(a1:Int):Option (Int):=recoupref01_Mul.l0 k a0 a1 0 0
theorem recoupref01_Mul.mono_l: ∀k,(∀y0 y1 y2 y3,LeO (recoupref01_Mul.l0 k y0 y1 y2 y3) (recoupref01_Mul.l0 (k+1) y0 y1 y2 y3))/\(∀y0 y1,LeO (recoupref01_Mul.l1 k y0 y1) (recoupref01_Mul.l1 (k+1) y0 y1))
 |0=>⟨fun _ _ _ _ r h=>by simp[recoupref01_Mul.l0]at h,fun _ _ r h=>by simp[recoupref01_Mul.l1]at h⟩
 |k+1=>by
  obtain⟨D,G⟩:=recoupref01_Mul.mono_l k;refine⟨?_,?_⟩;all_goals(intros;first|unfold recoupref01_Mul.l0|unfold recoupref01_Mul.l1)
  all_goals repeat' first|(with_reducible exact D _ _ _ _)|(with_reducible exact G _ _)|(with_reducible exact LeO.refl _)|(with_reducible exact LeO.none _)|(with_reducible refine LeO.ite ?_ ?_)|(with_reducible refine LeO.bind ?_ (fun _=>?_))|exact D _ _ _ _|exact G _ _|exact LeO.none _|refine LeO.ite ?_ ?_|refine LeO.bind ?_ (fun _=>?_)
theorem recoupref01_Mul.mono: ∀a0 a1 k,LeO (recoupref01_Mul.f k a0 a1) (recoupref01_Mul.f (k+1) a0 a1):=by
 intro a0 a1 k;obtain⟨D,G⟩:=recoupref01_Mul.mono_l k;unfold recoupref01_Mul.f
 with_reducible repeat' first|exact D _ _ _ _|exact G _ _|exact LeO.refl _|exact LeO.none _|refine LeO.ite ?_ ?_|refine LeO.bind ?_ (fun _=>?_)
theorem recoupref01_Mul.calls(k:Nat)(a0:Int)(a1:Int)(r:Int)(w:World)(h:recoupref01_Mul.f k a0 a1=some r):
 Calls Try.prog 27 #[.int .u8 a0,.int .u8 a1] w fun e w'=>e= .returned (.int .u8 r)/\Drawn0 w w':=by
 have H:(recoupref01_Mul.l0 k a0 a1 0 0)=some r:=h;clear h;have H':=aK H;clear H
 go_enter Try.func27,Try.ntmps27
 go_wp2
 go_loopg [5,6] k (fun kq v5 v6 w'=> ∃(O:Int) (I:Int),v5= .int .i64 O/\v6= .int .i64 I/\Aside0 (recoupref01_Mul.l0 kq a0 a1 O I=some r)/\Aside0 (kq<=k)/\Drawn0 w w')
 case atStart=>exact⟨(0),(0),rsE,rsE,H',⟨Nat.le_refl _⟩,by repeat(first|exact Drawn0.refl _|apply Drawn0.step)⟩
 case round=>
  clear H'
  (try clear c2);(try clear p2)
  obtain⟨O,I,rfl,rfl,HA,ab,⟨m1,rfl⟩⟩:=hrel
  cases gk with
  |zero=>exact absurd HA.out (by simp[recoupref01_Mul.l0])
  |succ k1=>
   have H:=HA.out;clear HA;simp only[recoupref01_Mul.l0]at H;by_cases c3:I<8
   ·rw[if_pos c3]at H
    have c3b0:decide (I<8)=true:=decide_eq_true c3;clear c3;obtain⟨J,an⟩: ∃j_:Int,(IntKind.u64.wrap (I))=j_:=⟨_,rfl⟩
    replace H:(if 0<=(J)then(if(Go.bits .and .u8 (shr .u8 a1 (J)) 1)=1 then(recoupref01_Mul.l0 k1 a0 a1 (Go.bits .xor .i64 O (shl .i64 (wrap64 (a0)) (J))) (wrap64 (I+1)))else(recoupref01_Mul.l0 k1 a0 a1 O (wrap64 (I+1))))else(none))=some r:=by first|(rw[an]at H;exact H)|(simp only[an]at H⊢;exact H)
    by_cases c5:0<=(J)
    case neg=>rw[if_neg c5]at H;exact absurd H zac
    rw[if_pos c5]at H
    have c5b0:=eq_true c5;have c5b1:decide (0<=(J))=true:=decide_eq_true c5;clear c5;obtain⟨ae,ag⟩: ∃j_:Int,(shr .u8 a1 (J))=j_:=⟨_,rfl⟩
    replace H:(if(Go.bits .and .u8 (ae) 1)=1 then(recoupref01_Mul.l0 k1 a0 a1 (Go.bits .xor .i64 O (shl .i64 (wrap64 (a0)) (J))) (wrap64 (I+1)))else(recoupref01_Mul.l0 k1 a0 a1 O (wrap64 (I+1))))=some r:=by first|(rw[ag]at H;exact H)|(simp only[ag]at H⊢;exact H)
    have hji6_:(a1 / 2^min (J).toNat 8)=ae:=ag;have hji6z:(J)<=8->(a1 / 2^(J).toNat)=ae:=shr_small ag;by_cases c7:(Go.bits .and .u8 (ae) 1)=1
    case neg=>
     rw[if_neg c7]at H
     have c7b0:((Go.bits .and .u8 (ae) 1)==1)=false:=beq_eq_false_iff_ne.mpr c7;have c7b1:((Go.bits .and .u8 (ae) 1)!=1)=true:=bne_iff_ne.mpr c7;have H':=aK H;clear H;go_wp2
     go_roundg k1
     case measure=>have:=ab.out;omega
     case rel=>exact⟨(O),(wrap64 (I+1)),rsE,rsE,H',⟨by have:=ab.out;omega⟩,by repeat(first|exact Drawn0.refl _|apply Drawn0.step)⟩
    rw[if_pos c7]at H
    have c7b0:((Go.bits .and .u8 (ae) 1)==1)=true:=beq_iff_eq.mpr c7;have c7b1:((Go.bits .and .u8 (ae) 1)!=1)=false:=bne_eq_false_iff_eq.mpr c7;clear c7;have c8b0:=eq_true (of_decide_eq_true asE:0<=(J));obtain⟨ah,ac⟩: ∃j_:Int,(shl .i64 (wrap64 (a0)) (J))=j_:=⟨_,rfl⟩
    replace H:(recoupref01_Mul.l0 k1 a0 a1 (Go.bits .xor .i64 O (ah)) (wrap64 (I+1)))=some r:=by first|(rw[ac]at H;exact H)|(simp only[ac]at H⊢;exact H)
    have hji9_:(IntKind.i64.wrap ((wrap64 (a0))*2^min (J).toNat 64))=ah:=ac;have hji9z:(J)<=64->(IntKind.i64.wrap ((wrap64 (a0))*2^(J).toNat))=ah:=shl_small ac;have hji9y:(wrap64 ((wrap64 (a0))*2^min (J).toNat 64))=ah:=(i64_w _).symm.trans hji9_;have hji9x:(J)<=64->(wrap64 ((wrap64 (a0))*2^(J).toNat))=ah:=fun h_=>(i64_w _).symm.trans (hji9z h_);have H':=aK H;clear H;go_wp2
    go_roundg k1
    case measure=>have:=ab.out;omega
    case rel=>exact⟨(Go.bits .xor .i64 O (ah)),(wrap64 (I+1)),(by first|rfl|(simp;done)|(simp only[<-ac]<;>(first|rfl|simp))|(simp[*];done)),rsE,H',⟨by have:=ab.out;omega⟩,by repeat(first|exact Drawn0.refl _|apply Drawn0.step)⟩
   rw[if_neg c3]at H
   have c3b0:decide (I<8)=false:=decide_eq_false c3;clear c3;have H':=aK H;clear H;go_wp2
   go_loopg [5,7] k1 (fun kq v5 v7 w'=> ∃(G:Int) (D:Int),v5= .int .i64 G/\v7= .int .i64 D/\Aside0 (recoupref01_Mul.l1 kq G D=some r)/\Aside0 (kq<=k1)/\Drawn0 w w')
   case atStart=>exact⟨(O),(14),rsE,rsE,H',⟨Nat.le_refl _⟩,by repeat(first|exact Drawn0.refl _|apply Drawn0.step)⟩
   case round=>
    clear H'
    (try clear c2);(try clear p2 p2);(try clear c3);(try clear c3b0);(try clear c5);(try clear c5b0);(try clear c5b1);(try clear p6);(try clear c7);(try clear c7b0);(try clear c7b1);(try clear c8);(try clear c8b0)
    obtain⟨G,D,rfl,rfl,HA,am,⟨m2,rfl⟩⟩:=hrel
    cases gk with
    |zero=>exact absurd HA.out (by simp[recoupref01_Mul.l1])
    |succ k2=>
     have H:=HA.out;clear HA;simp only[recoupref01_Mul.l1]at H;by_cases c10:D>=8
     case neg=>
      rw[if_neg c10]at H
      have c10b0:decide (8<=D)=false:=decide_eq_false c10;clear c10;obtain rfl:=Option.some.inj H;go_wp2
      go_ret
      exact zD
     rw[if_pos c10]at H
     have c10b0:decide (8<=D)=true:=decide_eq_true c10;clear c10;obtain⟨U,ak⟩: ∃j_:Int,(IntKind.u64.wrap (D))=j_:=⟨_,rfl⟩
     replace H:(if 0<=(U)then(if(Go.bits .and .i64 (shr .i64 G (U)) 1)=1 then(if 0<=(IntKind.u64.wrap (wrap64 (D-8)))then(recoupref01_Mul.l1 k2 (Go.bits .xor .i64 G (shl .i64 285 (IntKind.u64.wrap (wrap64 (D-8))))) (wrap64 (D-1)))else(none))else(recoupref01_Mul.l1 k2 G (wrap64 (D-1))))else(none))=some r:=by first|(rw[ak]at H;exact H)|(simp only[ak]at H⊢;exact H)
     by_cases ai:0<=(U)
     case neg=>rw[if_neg ai]at H;exact absurd H zac
     rw[if_pos ai]at H
     have c12b0:=eq_true ai;have c12b1:decide (0<=(U))=true:=decide_eq_true ai;clear ai;obtain⟨X,aa⟩: ∃j_:Int,(shr .i64 G (U))=j_:=⟨_,rfl⟩
     replace H:(if(Go.bits .and .i64 (X) 1)=1 then(if 0<=(IntKind.u64.wrap (wrap64 (D-8)))then(recoupref01_Mul.l1 k2 (Go.bits .xor .i64 G (shl .i64 285 (IntKind.u64.wrap (wrap64 (D-8))))) (wrap64 (D-1)))else(none))else(recoupref01_Mul.l1 k2 G (wrap64 (D-1))))=some r:=by first|(rw[aa]at H;exact H)|(simp only[aa]at H⊢;exact H)
     have hji13_:(G / 2^min (U).toNat 64)=X:=aa;have hji13z:(U)<=64->(G / 2^(U).toNat)=X:=shr_small aa;by_cases af:(Go.bits .and .i64 (X) 1)=1
     case neg=>
      rw[if_neg af]at H
      have c14b0:((Go.bits .and .i64 (X) 1)==1)=false:=beq_eq_false_iff_ne.mpr af;have c14b1:((Go.bits .and .i64 (X) 1)!=1)=true:=bne_iff_ne.mpr af;have H':=aK H;clear H;go_wp2
      go_roundg k2
      case measure=>have:=ab.out;have:=am.out;omega
      case rel=>exact⟨(G),(wrap64 (D-1)),rsE,rsE,H',⟨by have:=ab.out;have:=am.out;omega⟩,by repeat(first|exact Drawn0.refl _|apply Drawn0.step)⟩
     rw[if_pos af]at H
     have c14b0:((Go.bits .and .i64 (X) 1)==1)=true:=beq_iff_eq.mpr af;have c14b1:((Go.bits .and .i64 (X) 1)!=1)=false:=bne_eq_false_iff_eq.mpr af;clear af;obtain⟨L,al⟩: ∃j_:Int,(IntKind.u64.wrap (wrap64 (D-8)))=j_:=⟨_,rfl⟩
     replace H:(if 0<=(L)then(recoupref01_Mul.l1 k2 (Go.bits .xor .i64 G (shl .i64 285 (L))) (wrap64 (D-1)))else(none))=some r:=by first|(rw[al]at H;exact H)|(simp only[al]at H⊢;exact H)
     by_cases aj:0<=(L)
     case neg=>rw[if_neg aj]at H;exact absurd H zac
     rw[if_pos aj]at H
     have c16b0:=eq_true aj;have c16b1:decide (0<=(L))=true:=decide_eq_true aj;clear aj;obtain⟨Z,Y⟩: ∃j_:Int,(shl .i64 285 (L))=j_:=⟨_,rfl⟩
     replace H:(recoupref01_Mul.l1 k2 (Go.bits .xor .i64 G (Z)) (wrap64 (D-1)))=some r:=by first|(rw[Y]at H;exact H)|(simp only[Y]at H⊢;exact H)
     have hji17_:(IntKind.i64.wrap (285*2^min (L).toNat 64))=Z:=Y;have hji17z:(L)<=64->(IntKind.i64.wrap (285*2^(L).toNat))=Z:=shl_small Y;have hji17y:(wrap64 (285*2^min (L).toNat 64))=Z:=(i64_w _).symm.trans hji17_;have hji17x:(L)<=64->(wrap64 (285*2^(L).toNat))=Z:=fun h_=>(i64_w _).symm.trans (hji17z h_);have H':=aK H;clear H;go_wp2
     go_roundg k2
     case measure=>have:=ab.out;have:=am.out;omega
     case rel=>exact⟨(Go.bits .xor .i64 G (Z)),(wrap64 (D-1)),(by first|rfl|(simp;done)|(simp only[<-Y]<;>(first|rfl|simp))|(simp[*];done)),rsE,H',⟨by have:=ab.out;have:=am.out;omega⟩,by repeat(first|exact Drawn0.refl _|apply Drawn0.step)⟩
def recoupref01_Inv.l0:Nat->Int->Int->Option (Int×Int)
 |0,_,_=>none
 |k+1,x0,x4=>if x4<256 then((recoupref01_Mul.f k x0 ((x4) % 256)).bind fun D=>(if D=1 then(some ((x4) % 256,0))else(recoupref01_Inv.l0 k x0 (wrap64 (x4+1)))))else(some (0,5))
def recoupref01_Inv.f(k:Nat)(a0:Int):Option (Int×Int):=recoupref01_Inv.l0 k a0 1
theorem recoupref01_Inv.mono_l: ∀k,(∀y0 y1,LeO (recoupref01_Inv.l0 k y0 y1) (recoupref01_Inv.l0 (k+1) y0 y1))
 |0=>fun _ _ r h=>by simp[recoupref01_Inv.l0]at h
 |k+1=>by
  have D:=recoupref01_Inv.mono_l k
  ·intro y0 y1;unfold recoupref01_Inv.l0
   with_reducible repeat' first|exact D _ _|exact recoupref01_Mul.mono _ _ _|exact LeO.refl _|exact LeO.none _|refine LeO.ite ?_ ?_|refine LeO.bind ?_ (fun _=>?_)
theorem recoupref01_Inv.mono: ∀a0 k,LeO (recoupref01_Inv.f k a0) (recoupref01_Inv.f (k+1) a0):=by
 intro a0 k;have D:=recoupref01_Inv.mono_l k;unfold recoupref01_Inv.f
 with_reducible repeat' first|exact D _ _|exact recoupref01_Mul.mono _ _ _|exact LeO.refl _|exact LeO.none _|refine LeO.ite ?_ ?_|refine LeO.bind ?_ (fun _=>?_)
theorem recoupref01_Inv.calls(k:Nat)(a0:Int)(r1:Int)(r2:Int)(w:World)(h:recoupref01_Inv.f k a0=some (r1,r2)):
 Calls Try.prog 26 #[.int .u8 a0] w fun e w'=>e= .returned (.tuple #[.int .u8 r1,.int .i64 r2])/\Drawn0 w w':=by
 have H:(recoupref01_Inv.l0 k a0 1)=some (r1,r2):=h;clear h;have H':=aK H;clear H
 go_enter Try.func26,Try.ntmps26
 go_wp2
 go_loopg [4] k (fun kq v4 w'=> ∃(D:Int),v4= .int .i64 D/\Aside0 (recoupref01_Inv.l0 kq a0 D=some (r1,r2))/\Aside0 (kq<=k)/\Drawn0 w w')
 case atStart=>exact⟨(1),rsE,H',⟨Nat.le_refl _⟩,by repeat(first|exact Drawn0.refl _|apply Drawn0.step)⟩
 case round=>
  clear H';obtain⟨D,rfl,HA,I,⟨m1,rfl⟩⟩:=hrel
  cases gk with
  |zero=>exact absurd HA.out (by simp[recoupref01_Inv.l0])
  |succ k1=>
   have H:=HA.out;clear HA;simp only[recoupref01_Inv.l0]at H;by_cases c2:D<256
   case neg=>
    rw[if_neg c2]at H
    have c2b0:decide (D<256)=false:=decide_eq_false c2;clear c2;obtain⟨rfl,rfl⟩:=zP2 H;go_wp2
    go_ret2
    exact zD
   rw[if_pos c2]at H
   have c2b0:decide (D<256)=true:=decide_eq_true c2;clear c2;obtain⟨G,A3,H⟩:=bindO H
   (try dsimp only at H)
   by_cases c4:G=1
   case neg=>
    rw[if_neg c4]at H
    have c4b0:(G==1)=false:=beq_eq_false_iff_ne.mpr c4;have c4b1:(G !=1)=true:=bne_iff_ne.mpr c4;have H':=aK H;clear H
    go_wp2_with (first|((with_reducible refine gC 27 rfl ?_);refine cG (some 12) Try.func27 #[.int .u8 a0,.int .u8 ((D) % 256)] ?_;(with_reducible refine(recoupref01_Mul.calls k1 a0 ((D) % 256) G _ A3.out).mono ?_);rintro e w' ⟨rfl,⟨nd,rfl⟩⟩;refine⟨_,rfl,?_⟩))
    go_roundg k1
    case measure=>have:=I.out;omega
    case rel=>exact⟨(wrap64 (D+1)),rsE,H',⟨by have:=I.out;omega⟩,by repeat(first|exact Drawn0.refl _|apply Drawn0.step)⟩
   rw[if_pos c4]at H
   have c4b0:(G==1)=true:=beq_iff_eq.mpr c4;have c4b1:(G !=1)=false:=bne_eq_false_iff_eq.mpr c4;clear c4;obtain⟨rfl,rfl⟩:=zP2 H
   go_wp2_with (first|((with_reducible refine gC 27 rfl ?_);refine cG (some 12) Try.func27 #[.int .u8 a0,.int .u8 ((D) % 256)] ?_;(with_reducible refine(recoupref01_Mul.calls k1 a0 ((D) % 256) G _ A3.out).mono ?_);rintro e w' ⟨rfl,⟨nd,rfl⟩⟩;refine⟨_,rfl,?_⟩))
   go_ret2
   exact zD
def recoupref22_by.l0:Nat->List (S61)->Int->Int->Option (Int)
 |0,_,_,_=>none
 |k+1,x0,x1,x5=>if x5<(x0.length:Int)then(if 0<=x5 then(if((rd_T61 x0 x5).f0)=x1 then(some ((rd_T61 x0 x5).f1))else(recoupref22_by.l0 k x0 x1 (wrap64 (x5+1))))else(none))else(some 0)
def recoupref22_by.f(k:Nat)(l0:List (S61))(a1:Int):Option (Int):=recoupref22_by.l0 k l0 a1 0
theorem recoupref22_by.mono_l: ∀k,(∀y0 y1 y2,LeO (recoupref22_by.l0 k y0 y1 y2) (recoupref22_by.l0 (k+1) y0 y1 y2))
 |0=>fun _ _ _ r h=>by simp[recoupref22_by.l0]at h
 |k+1=>by
  have D:=recoupref22_by.mono_l k
  ·intro y0 y1 y2;unfold recoupref22_by.l0
   with_reducible repeat' first|exact D _ _ _|exact LeO.refl _|exact LeO.none _|refine LeO.ite ?_ ?_|refine LeO.bind ?_ (fun _=>?_)
theorem recoupref22_by.mono: ∀a0 a1 k,LeO (recoupref22_by.f k a0 a1) (recoupref22_by.f (k+1) a0 a1):=by
 intro a0 a1 k;have D:=recoupref22_by.mono_l k;unfold recoupref22_by.f
 with_reducible repeat' first|exact D _ _ _|exact LeO.refl _|exact LeO.none _|refine LeO.ite ?_ ?_|refine LeO.bind ?_ (fun _=>?_)
theorem recoupref22_by.calls(k:Nat)(A0:Option Addr)(c0:Nat)(l0:List (S61))(a1:Int)(r:Int)(w:World)(af:Kd.C k61 w A0 l0.length l0)(ae:l0.length<=c0)(h:recoupref22_by.f k l0 a1=some r):
 Calls Try.prog 33 #[.slice A0 l0.length c0,.int .i64 a1] w fun e w'=>e= .returned (.int .u8 r)/\Drawn0 w w':=by
 have Z:=aK af;have ai:=aK ae;clear af ae;have H:(recoupref22_by.l0 k l0 a1 0)=some r:=h;clear h;have H':=aK H;clear H
 go_enter Try.func33,Try.ntmps33
 go_wp2
 go_loopg [5] k (fun kq v5 w'=> ∃(D:Int),v5= .int .i64 D/\Aside0 (recoupref22_by.l0 kq l0 a1 D=some r)/\Aside0 (kq<=k)/\Drawn0 w w')
 case atStart=>exact⟨(0),rsE,H',⟨Nat.le_refl _⟩,by repeat(first|exact Drawn0.refl _|apply Drawn0.step)⟩
 case round=>
  clear H'
  (try clear p2)
  obtain⟨D,rfl,HA,ab,⟨m1,rfl⟩⟩:=hrel
  cases gk with
  |zero=>exact absurd HA.out (by simp[recoupref22_by.l0])
  |succ k1=>
   have H:=HA.out;clear HA;simp only[recoupref22_by.l0]at H;by_cases c3:D<(l0.length:Int)
   case neg=>
    rw[if_neg c3]at H
    have c3b0:decide (D<(l0.length:Int))=false:=decide_eq_false c3;clear c3;obtain rfl:=Option.some.inj H;go_wp2
    go_ret
    exact zD
   rw[if_pos c3]at H
   have c3b0:decide (D<(l0.length:Int))=true:=decide_eq_true c3;clear c3;by_cases c4:0<=D
   case neg=>rw[if_neg c4]at H;exact absurd H zac
   rw[if_pos c4]at H
   have c4b0:decide (0<=D)=true:=decide_eq_true c4;clear c4;by_cases c5:((rd_T61 l0 D).f0)=a1
   case neg=>
    rw[if_neg c5]at H
    have c5b0:(((rd_T61 l0 D).f0)==a1)=false:=beq_eq_false_iff_ne.mpr c5;have c5b1:(((rd_T61 l0 D).f0)!=a1)=true:=bne_iff_ne.mpr c5;have H':=aK H;clear H;have G:0<=(D:Int):=of_decide_eq_true asE;have I:D<(l0.length:Int):=of_decide_eq_true asE;obtain⟨J,L,O,U⟩:=at_T61 Z.out D G I
    cases L
    replace G:=eq_true G;replace I:=eq_true I;go_wp2
    go_roundg k1
    case measure=>have:=ab.out;omega
    case rel=>exact⟨(wrap64 (D+1)),rsE,H',⟨by have:=ab.out;omega⟩,by repeat(first|exact Drawn0.refl _|apply Drawn0.step)⟩
   rw[if_pos c5]at H
   have c5b0:(((rd_T61 l0 D).f0)==a1)=true:=beq_iff_eq.mpr c5;have c5b1:(((rd_T61 l0 D).f0)!=a1)=false:=bne_eq_false_iff_eq.mpr c5;clear c5;obtain rfl:=Option.some.inj H;have G:0<=(D:Int):=of_decide_eq_true asE;have I:D<(l0.length:Int):=of_decide_eq_true asE;obtain⟨J,L,O,U⟩:=at_T61 Z.out D G I
   cases L
   replace G:=eq_true G;replace I:=eq_true I;have X:0<=(D:Int):=of_decide_eq_true asE;have Y:D<(l0.length:Int):=of_decide_eq_true asE;obtain⟨aa,ac,ag,ah⟩:=at_T61 Z.out D X Y;obtain rfl:J=aa:=(by injection ac)
   replace X:=eq_true X;replace Y:=eq_true Y;go_wp2
   go_ret
   exact zD
def recoupref22_in.f(k:Nat)(l0:List (S61))(a1:Int)(a2:Int)(a3:Int):Option (Bool):=(recoupref22_by.f k l0 a1).bind fun D=>((recoupref22_by.f k l0 a2).bind fun G=>(if D=0 then(some false)else(if G=0 then(some false)else((recoupref01_Mul.f k D a3).bind fun I=>(some (I==G))))))
theorem recoupref22_in.mono: ∀a0 a1 a2 a3 k,LeO (recoupref22_in.f k a0 a1 a2 a3) (recoupref22_in.f (k+1) a0 a1 a2 a3):=by
 intro a0 a1 a2 a3 k;unfold recoupref22_in.f
 with_reducible repeat' first|exact recoupref01_Mul.mono _ _ _|exact recoupref22_by.mono _ _ _|exact LeO.refl _|exact LeO.none _|refine LeO.ite ?_ ?_|refine LeO.bind ?_ (fun _=>?_)
theorem recoupref22_in.calls(k:Nat)(A0:Option Addr)(c0:Nat)(l0:List (S61))(a1:Int)(a2:Int)(a3:Int)(r:Bool)(w:World)(U:Kd.C k61 w A0 l0.length l0)(O:l0.length<=c0)(h:recoupref22_in.f k l0 a1 a2 a3=some r):
 Calls Try.prog 28 #[.slice A0 l0.length c0,.int .i64 a1,.int .i64 a2,.int .u8 a3] w fun e w'=>e= .returned (.bool r)/\Drawn0 w w':=by
 have J:=aK U;have I:=aK O;clear U O;have H:((recoupref22_by.f k l0 a1).bind fun D=>((recoupref22_by.f k l0 a2).bind fun G=>(if D=0 then(some false)else(if G=0 then(some false)else((recoupref01_Mul.f k D a3).bind fun L=>(some (L==G)))))))=some r:=h;clear h;obtain⟨D,A5,H⟩:=bindO H
 (try dsimp only at H)
 obtain⟨G,A6,H⟩:=bindO H
 (try dsimp only at H)
 by_cases c7:D=0
 ·rw[if_pos c7]at H
  have c7b0:(D==0)=true:=beq_iff_eq.mpr c7;have c7b1:(D !=0)=false:=bne_eq_false_iff_eq.mpr c7;clear c7;obtain rfl:=Option.some.inj H
  go_enter Try.func28,Try.ntmps28
  go_wp2_with (first|((with_reducible refine gC 33 rfl ?_);refine cG (some 13) Try.func33 #[.slice A0 l0.length c0,.int .i64 a1] ?_;(with_reducible refine(recoupref22_by.calls k _ _ l0 a1 D _ ?side1 ?side2 A5.out).mono ?_);(case side1=>exact kcA J.out);(case side2=>exact I.out);rintro e w' ⟨rfl,⟨nd,rfl⟩⟩;refine⟨_,rfl,?_⟩)|((with_reducible refine gC 33 rfl ?_);refine cG (some 16) Try.func33 #[.slice A0 l0.length c0,.int .i64 a2] ?_;(with_reducible refine(recoupref22_by.calls k _ _ l0 a2 G _ ?side1 ?side2 A6.out).mono ?_);(case side1=>exact kcA J.out);(case side2=>exact I.out);rintro e w' ⟨rfl,⟨nd,rfl⟩⟩;refine⟨_,rfl,?_⟩))
  go_ret
  exact zD
 ·rw[if_neg c7]at H
  have c7b0:(D==0)=false:=beq_eq_false_iff_ne.mpr c7;have c7b1:(D !=0)=true:=bne_iff_ne.mpr c7;by_cases c8:G=0
  ·rw[if_pos c8]at H
   have c8b0:(G==0)=true:=beq_iff_eq.mpr c8;have c8b1:(G !=0)=false:=bne_eq_false_iff_eq.mpr c8;clear c8;obtain rfl:=Option.some.inj H
   go_enter Try.func28,Try.ntmps28
   go_wp2_with (first|((with_reducible refine gC 33 rfl ?_);refine cG (some 13) Try.func33 #[.slice A0 l0.length c0,.int .i64 a1] ?_;(with_reducible refine(recoupref22_by.calls k _ _ l0 a1 D _ ?side1 ?side2 A5.out).mono ?_);(case side1=>exact kcA J.out);(case side2=>exact I.out);rintro e w' ⟨rfl,⟨nd,rfl⟩⟩;refine⟨_,rfl,?_⟩)|((with_reducible refine gC 33 rfl ?_);refine cG (some 16) Try.func33 #[.slice A0 l0.length c0,.int .i64 a2] ?_;(with_reducible refine(recoupref22_by.calls k _ _ l0 a2 G _ ?side1 ?side2 A6.out).mono ?_);(case side1=>exact kcA J.out);(case side2=>exact I.out);rintro e w' ⟨rfl,⟨nd,rfl⟩⟩;refine⟨_,rfl,?_⟩))
   go_ret
   exact zD
  ·rw[if_neg c8]at H
   have c8b0:(G==0)=false:=beq_eq_false_iff_ne.mpr c8;have c8b1:(G !=0)=true:=bne_iff_ne.mpr c8;obtain⟨L,A9,H⟩:=bindO H
   (try dsimp only at H)
   obtain rfl:=Option.some.inj H
   go_enter Try.func28,Try.ntmps28
   go_wp2_with (first|((with_reducible refine gC 33 rfl ?_);refine cG (some 13) Try.func33 #[.slice A0 l0.length c0,.int .i64 a1] ?_;(with_reducible refine(recoupref22_by.calls k _ _ l0 a1 D _ ?side1 ?side2 A5.out).mono ?_);(case side1=>exact kcA J.out);(case side2=>exact I.out);rintro e w' ⟨rfl,⟨nd,rfl⟩⟩;refine⟨_,rfl,?_⟩)|((with_reducible refine gC 33 rfl ?_);refine cG (some 16) Try.func33 #[.slice A0 l0.length c0,.int .i64 a2] ?_;(with_reducible refine(recoupref22_by.calls k _ _ l0 a2 G _ ?side1 ?side2 A6.out).mono ?_);(case side1=>exact kcA J.out);(case side2=>exact I.out);rintro e w' ⟨rfl,⟨nd,rfl⟩⟩;refine⟨_,rfl,?_⟩)|(go_at_call 27;(with_reducible refine(recoupref01_Mul.calls k D a3 L _ A9.out).mono ?_);rintro e w' ⟨rfl,⟨nd,rfl⟩⟩))
   go_ret
   exact zD
def recoupref22_less.f(D:Int)(G:Int)(L:Int)(U:Int)(I:Int)(J:Int)(O:Int)(X:Int):Option (Bool):=if D=I then(if G=J then(some (decide (L<O)))else(some (decide (G<J))))else(some (decide (D<I)))
theorem recoupref22_less.calls(J:Int)(L:Int)(Y:Int)(aa:Int)(O:Int)(U:Int)(Z:Int)(ab:Int)(r:Bool)(w:World)(h:recoupref22_less.f J L Y aa O U Z ab=some r):
 Calls Try.prog 29 #[.agg #[.int .i64 J,.int .i64 L,.int .u8 Y,.int .i64 aa],.agg #[.int .i64 O,.int .i64 U,.int .u8 Z,.int .i64 ab]] w fun e w'=>e= .returned (.bool r)/\Below w.heap.size w w':=by
 have b5:=Try.underlying31;have HB:=aK (Below.refl w.heap.size w);have H:(if J=O then(if L=U then(some (decide (Y<Z)))else(some (decide (L<U))))else(some (decide (J<O))))=some r:=h;clear h;by_cases c3:J=O
 ·rw[if_pos c3]at H
  have c3b0:(J==O)=true:=beq_iff_eq.mpr c3;have c3b1:(J !=O)=false:=bne_eq_false_iff_eq.mpr c3;clear c3;by_cases c4:L=U
  ·rw[if_pos c4]at H
   have c4b0:(L==U)=true:=beq_iff_eq.mpr c4;have c4b1:(L !=U)=false:=bne_eq_false_iff_eq.mpr c4;clear c4;obtain rfl:=Option.some.inj H
   go_enter Try.func29,Try.ntmps29
   go_wp2_with (first|((with_reducible refine gD 2 rfl ?_);refine bE 2 #[.int .i64 J,.int .i64 L,.int .u8 Y,.int .i64 aa] 31 ?_;intro ah hg w5 hbox hb;have D:=aK (hbox);have af:=hbS HB hg;have ac:=hbS HB hg;replace HB:=hbB HB hb;clear hb hbox hg)|((with_reducible refine gD 3 rfl ?_);refine bE 3 #[.int .i64 O,.int .i64 U,.int .u8 Z,.int .i64 ab] 31 ?_;intro ai hg w6 hbox hb;have X:=aK (hbox);have ag:=hbS HB hg;have ae:=hbS HB hg;replace HB:=hbB HB hb;have G:=neL D hg;have I:=neG D hg;replace D:=bkB D hb;clear hb hbox hg;have b3:=G.out;have b4:=I.out;obtain⟨bh,bi,bj,bk,bp,bq,br,bs⟩:=cell4 D;obtain⟨bl,bm,bn,bo,bu,bv,bw,bx⟩:=cell4 X))
   go_ret
   exact⟨rfE,hbA HB.out⟩
  ·rw[if_neg c4]at H
   have c4b0:(L==U)=false:=beq_eq_false_iff_ne.mpr c4;have c4b1:(L !=U)=true:=bne_iff_ne.mpr c4;obtain rfl:=Option.some.inj H
   go_enter Try.func29,Try.ntmps29
   go_wp2_with (first|((with_reducible refine gD 2 rfl ?_);refine bE 2 #[.int .i64 J,.int .i64 L,.int .u8 Y,.int .i64 aa] 31 ?_;intro ah hg b6 hbox hb;have D:=aK (hbox);have af:=hbS HB hg;have ac:=hbS HB hg;replace HB:=hbB HB hb;clear hb hbox hg)|((with_reducible refine gD 3 rfl ?_);refine bE 3 #[.int .i64 O,.int .i64 U,.int .u8 Z,.int .i64 ab] 31 ?_;intro ai hg b7 hbox hb;have X:=aK (hbox);have ag:=hbS HB hg;have ae:=hbS HB hg;replace HB:=hbB HB hb;have G:=neL D hg;have I:=neG D hg;replace D:=bkB D hb;clear hb hbox hg;have bz:=G.out;have b1:=I.out;obtain⟨aj,ak,al,am,a1,a2,a3,a4⟩:=cell4 D;obtain⟨an,ao,ap,aq,a5,a6,a7,a8⟩:=cell4 X))
   go_ret
   exact⟨rfE,hbA HB.out⟩
 ·rw[if_neg c3]at H
  have c3b0:(J==O)=false:=beq_eq_false_iff_ne.mpr c3;have c3b1:(J !=O)=true:=bne_iff_ne.mpr c3;obtain rfl:=Option.some.inj H
  go_enter Try.func29,Try.ntmps29
  go_wp2_with (first|((with_reducible refine gD 2 rfl ?_);refine bE 2 #[.int .i64 J,.int .i64 L,.int .u8 Y,.int .i64 aa] 31 ?_;intro ah hg b8 hbox hb;have D:=aK (hbox);have af:=hbS HB hg;have ac:=hbS HB hg;replace HB:=hbB HB hb;clear hb hbox hg)|((with_reducible refine gD 3 rfl ?_);refine bE 3 #[.int .i64 O,.int .i64 U,.int .u8 Z,.int .i64 ab] 31 ?_;intro ai hg b9 hbox hb;have X:=aK (hbox);have ag:=hbS HB hg;have ae:=hbS HB hg;replace HB:=hbB HB hb;have G:=neL D hg;have I:=neG D hg;replace D:=bkB D hb;clear hb hbox hg;have b0:=G.out;have b2:=I.out;obtain⟨ar,au,av,aw,a9,ba,bb,bc⟩:=cell4 D;obtain⟨ax,ay,az,a0,bd,be,bf,bg⟩:=cell4 X))
  go_ret
  exact⟨rfE,hbA HB.out⟩
mutual
def recoupref22_Best.l0:Nat->Int->Int->List Int->List (List (S61))->List Int->Option (Int×Int×Int×Int×Bool×Int)
 |0,_,_,_,_,_=>none
 |k+1,x5,x6,G,D,I=>if x6<(D.length:Int)then(if 0<=x6 then(recoupref22_Best.l0 k (wrap64 (x5+((rd_L5 D x6).length:Int))) (wrap64 (x6+1)) G D I)else(none))else(if x5>512 then(recoupref22_Best.j1 k true G D I)else(recoupref22_Best.j1 k (decide ((D.length:Int)>=4096)) G D I))
def recoupref22_Best.j1:Nat->Bool->List Int->List (List (S61))->List Int->Option (Int×Int×Int×Int×Bool×Int)
 |0,_,_,_,_=>none
 |k+1,J,D,G,I=>if J=true then(some (0,0,0,0,false,0))else(recoupref22_Best.l1 k 0 D G I 0 0 0 1)
def recoupref22_Best.l1:Nat->Int->List Int->List (List (S61))->List Int->Int->Int->Int->Int->Option (Int×Int×Int×Int×Bool×Int)
 |0,_,_,_,_,_,_,_,_=>none
 |k+1,x8,O,G,U,I,J,L,D=>if x8<(G.length:Int)then(recoupref22_Best.l2 k x8 0 O G U I J L D)else(if D<2 then(some (0,0,0,0,false,0))else(some (I,J,L,D,true,0)))
def recoupref22_Best.l2:Nat->Int->Int->List Int->List (List (S61))->List Int->Int->Int->Int->Int->Option (Int×Int×Int×Int×Bool×Int)
 |0,_,_,_,_,_,_,_,_,_=>none
 |k+1,x8,x9,G,D,I,J,L,O,U=>if 0<=x8 then(if x8<(D.length:Int)then(if x9<((rd_L5 D x8).length:Int)then(recoupref22_Best.l3 k x8 x9 (wrap64 (x9+1)) G D I J L O U)else(recoupref22_Best.l1 k (wrap64 (x8+1)) G D I J L O U))else(none))else(none)
def recoupref22_Best.l3:Nat->Int->Int->Int->List Int->List (List (S61))->List Int->Int->Int->Int->Int->Option (Int×Int×Int×Int×Bool×Int)
 |0,_,_,_,_,_,_,_,_,_,_=>none
 |k+1,x8,x9,X,G,D,I,J,L,O,U=>if 0<=x8 then(if x8<(D.length:Int)then(if X<((rd_L5 D x8).length:Int)then(if 0<=x9 then(if x9<((rd_L5 D x8).length:Int)then(if 0<=X then((recoupref01_Inv.f k ((rd_T61 (rd_L5 D x8) x9).f1)).bind fun Y=>((recoupref01_Mul.f k ((rd_T61 (rd_L5 D x8) X).f1) Y.1).bind fun Z=>(recoupref22_Best.l4 k x8 x9 X 0 G D I J L O U ((rd_T61 (rd_L5 D x8) x9).f0) ((rd_T61 (rd_L5 D x8) X).f0) Z 0)))else(none))else(none))else(none))else(recoupref22_Best.l2 k x8 (wrap64 (x9+1)) G D I J L O U))else(none))else(none)
def recoupref22_Best.l4:Nat->Int->Int->Int->Int->List Int->List (List (S61))->List Int->Int->Int->Int->Int->Int->Int->Int->Int->Option (Int×Int×Int×Int×Bool×Int)
 |0,_,_,_,_,_,_,_,_,_,_,_,_,_,_,_=>none
 |k+1,x8,x9,ab,ac,J,D,L,O,U,X,G,Y,Z,aa,I=>if ac<(D.length:Int)then(if 0<=ac then((recoupref22_in.f k (rd_L5 D ac) Y Z aa).bind fun ae=>(if ae=true then(recoupref22_Best.l4 k x8 x9 ab (wrap64 (ac+1)) J D L O U X G Y Z aa (wrap64 (I+1)))else(recoupref22_Best.l4 k x8 x9 ab (wrap64 (ac+1)) J D L O U X G Y Z aa I)))else(none))else(if I>G then(recoupref22_Best.l3 k x8 x9 (wrap64 (ab+1)) J D L Y Z aa I)else(if I=G then(if I>1 then((recoupref22_less.f Y Z aa I O U X G).bind fun af=>(if af=true then(recoupref22_Best.l3 k x8 x9 (wrap64 (ab+1)) J D L Y Z aa I)else(recoupref22_Best.l3 k x8 x9 (wrap64 (ab+1)) J D L O U X G)))else(recoupref22_Best.l3 k x8 x9 (wrap64 (ab+1)) J D L O U X G))else(recoupref22_Best.l3 k x8 x9 (wrap64 (ab+1)) J D L O U X G)))
end
def recoupref22_Best.f(k:Nat)(D:List Int)(G:List (List (S61)))(I:List Int):Option (Int×Int×Int×Int×Bool×Int):=(recoupref21_May.f k D G I).bind fun J=>(if J=true then(recoupref22_Best.l0 k 0 0 D G I)else(some (0,0,0,0,false,2)))
theorem recoupref22_Best.mono_l: ∀k,(∀y0 y1 y2 y3 y4,LeO (recoupref22_Best.l0 k y0 y1 y2 y3 y4) (recoupref22_Best.l0 (k+1) y0 y1 y2 y3 y4))/\(∀y0 y1 y2 y3,LeO (recoupref22_Best.j1 k y0 y1 y2 y3) (recoupref22_Best.j1 (k+1) y0 y1 y2 y3))/\(∀y0 y1 y2 y3 y4 y5 y6 y7,LeO (recoupref22_Best.l1 k y0 y1 y2 y3 y4 y5 y6 y7) (recoupref22_Best.l1 (k+1) y0 y1 y2 y3 y4 y5 y6 y7))/\(∀y0 y1 y2 y3 y4 y5 y6 y7 y8,LeO (recoupref22_Best.l2 k y0 y1 y2 y3 y4 y5 y6 y7 y8) (recoupref22_Best.l2 (k+1) y0 y1 y2 y3 y4 y5 y6 y7 y8))/\(∀y0 y1 y2 y3 y4 y5 y6 y7 y8 y9,LeO (recoupref22_Best.l3 k y0 y1 y2 y3 y4 y5 y6 y7 y8 y9) (recoupref22_Best.l3 (k+1) y0 y1 y2 y3 y4 y5 y6 y7 y8 y9))/\(∀y0 y1 y2 y3 y4 y5 y6 y7 y8 y9 U X Y Z aa,LeO (recoupref22_Best.l4 k y0 y1 y2 y3 y4 y5 y6 y7 y8 y9 U X Y Z aa) (recoupref22_Best.l4 (k+1) y0 y1 y2 y3 y4 y5 y6 y7 y8 y9 U X Y Z aa))
 |0=>⟨fun _ _ _ _ _ r h=>by simp[recoupref22_Best.l0]at h,fun _ _ _ _ r h=>by simp[recoupref22_Best.j1]at h,fun _ _ _ _ _ _ _ _ r h=>by simp[recoupref22_Best.l1]at h,fun _ _ _ _ _ _ _ _ _ r h=>by simp[recoupref22_Best.l2]at h,fun _ _ _ _ _ _ _ _ _ _ r h=>by simp[recoupref22_Best.l3]at h,fun _ _ _ _ _ _ _ _ _ _ _ _ _ _ _ r h=>by simp[recoupref22_Best.l4]at h⟩
 |k+1=>by
  obtain⟨D,G,I,J,L,O⟩:=recoupref22_Best.mono_l k;refine⟨?_,?_,?_,?_,?_,?_⟩;all_goals(intros;first|unfold recoupref22_Best.l0|unfold recoupref22_Best.j1|unfold recoupref22_Best.l1|unfold recoupref22_Best.l2|unfold recoupref22_Best.l3|unfold recoupref22_Best.l4)
  all_goals repeat' first|(with_reducible exact D _ _ _ _ _)|(with_reducible exact G _ _ _ _)|(with_reducible exact I _ _ _ _ _ _ _ _)|(with_reducible exact J _ _ _ _ _ _ _ _ _)|(with_reducible exact L _ _ _ _ _ _ _ _ _ _)|(with_reducible exact O _ _ _ _ _ _ _ _ _ _ _ _ _ _ _)|(with_reducible exact recoupref01_Inv.mono _ _)|(with_reducible exact recoupref01_Mul.mono _ _ _)|(with_reducible exact recoupref21_May.mono _ _ _ _)|(with_reducible exact recoupref22_in.mono _ _ _ _ _)|(with_reducible exact LeO.refl _)|(with_reducible exact LeO.none _)|(with_reducible refine LeO.ite ?_ ?_)|(with_reducible refine LeO.bind ?_ (fun _=>?_))|exact D _ _ _ _ _|exact G _ _ _ _|exact I _ _ _ _ _ _ _ _|exact J _ _ _ _ _ _ _ _ _|exact L _ _ _ _ _ _ _ _ _ _|exact O _ _ _ _ _ _ _ _ _ _ _ _ _ _ _|exact recoupref01_Inv.mono _ _|exact recoupref01_Mul.mono _ _ _|exact recoupref21_May.mono _ _ _ _|exact recoupref22_in.mono _ _ _ _ _|exact LeO.none _|refine LeO.ite ?_ ?_|refine LeO.bind ?_ (fun _=>?_)
theorem recoupref22_Best.mono: ∀a0 a1 a2 k,LeO (recoupref22_Best.f k a0 a1 a2) (recoupref22_Best.f (k+1) a0 a1 a2):=by
 intro a0 a1 a2 k;obtain⟨D,G,I,J,L,O⟩:=recoupref22_Best.mono_l k;unfold recoupref22_Best.f
 with_reducible repeat' first|exact D _ _ _ _ _|exact G _ _ _ _|exact I _ _ _ _ _ _ _ _|exact J _ _ _ _ _ _ _ _ _|exact L _ _ _ _ _ _ _ _ _ _|exact O _ _ _ _ _ _ _ _ _ _ _ _ _ _ _|exact recoupref01_Inv.mono _ _|exact recoupref01_Mul.mono _ _ _|exact recoupref21_May.mono _ _ _ _|exact recoupref22_in.mono _ _ _ _ _|exact LeO.refl _|exact LeO.none _|refine LeO.ite ?_ ?_|refine LeO.bind ?_ (fun _=>?_)
def recoupref22_Best.T20:Bool×List (List Nat×List Nat):=(true,[([],[]),([0],[0]),([],[]),([1,2],[1,2]),([3],[3]),([],[]),([4,5],[4,5]),([6],[6]),([7],[7]),([],[]),([9],[9]),([],[]),([10,11],[10,11]),([12],[12]),([],[]),([13,14],[13,14]),([15],[15]),([16],[16]),([8,17],[8,17]),([],[]),([19,18,0,1,2,3,4,5,6,7,8,9,10,11,12,13,14,15,16,17,18,19],[18,19])])
def recoupref22_Best.B20:List Nat:= [0,1,0,7,15,0,63,127,255,0,512,0,3584,7680,0,32256,65024,130560,262143,0,1048575]
theorem recoupref22_Best.tab20:rtab .any (opsOf Try.f11 20)=recoupref22_Best.T20:=by kernel_rfl
theorem recoupref22_Best.bits20:waitsOk recoupref22_Best.T20.2 recoupref22_Best.B20=true:=by kernel_rfl
def recoupref22_Best.T26:Bool×List (List Nat×List Nat):=(true,[([],[]),([0],[0]),([],[]),([1,2],[1,2]),([3],[3]),([],[]),([5],[5]),([],[]),([7],[7]),([],[]),([9],[9]),([4,6,8,10],[4,6,8,10])])
def recoupref22_Best.B26:List Nat:= [0,1,0,7,15,0,32,0,128,0,512,2047]
theorem recoupref22_Best.tab26:rtab .any (opsOf Try.f11 26)=recoupref22_Best.T26:=by kernel_rfl
theorem recoupref22_Best.bits26:waitsOk recoupref22_Best.T26.2 recoupref22_Best.B26=true:=by kernel_rfl
theorem recoupref22_Best.calls(k:Nat)(bn:Option Addr)(bp:Nat)(a5:List Int)(dp:Option Addr)(bq:Nat)(G:List (List (S61)))(bo:Option Addr)(br:Nat)(a6:List Int)(r1:Int)(r2:Int)(r3:Int)(r4:Int)(r5:Bool)(r6:Int)(w:World)(i4:Kd.C (Kd.int .i64) w bn a5.length a5)(ib:a5.length<=bp)(i5:Kd.C (Kd.slice 61 k61) w dp G.length G)(ic:G.length<=bq)(i6:Kd.C (Kd.int .i64) w bo a6.length a6)(ie:a6.length<=br)(h:recoupref22_Best.f k a5 G a6=some (r1,r2,r3,r4,r5,r6)):
 Calls Try.prog 11 #[.agg #[.slice bn a5.length bp,.slice dp G.length bq,.slice bo a6.length br]] w fun e w'=>e= .returned (.tuple #[.agg #[.int .i64 r1,.int .i64 r2,.int .u8 r3,.int .i64 r4],.bool r5,.int .i64 r6])/\Below w.heap.size w w':=by
 have x7:=Try.underlying25;have x8:=Try.underlying31;have gx:=aK i4;have gr:=aK ib;clear i4 ib;have bi:=aK i5;have gs:=aK ic;clear i5 ic;have gy:=aK i6;have gt:=aK ie;clear i6 ie;have HB:=aK (Below.refl w.heap.size w);have H:((recoupref21_May.f k a5 G a6).bind fun i7=>(if i7=true then(recoupref22_Best.l0 k 0 0 a5 G a6)else(some (0,0,0,0,false,2))))=some (r1,r2,r3,r4,r5,r6):=h;clear h;obtain⟨i7,A2,H⟩:=bindO H
 (try dsimp only at H)
 by_cases c3:i7=true
 case neg=>
  replace c3:=Bool.eq_false_iff.mpr c3;subst c3;rw[if_neg nofT]at H
  simp only[Option.some.injEq,Prod.mk.injEq]at H;obtain⟨rfl,rfl,rfl,rfl,rfl,rfl⟩:=H
  go_enter Try.func11,Try.ntmps11
  go_wp2_with (first|((with_reducible refine gD 1 rfl ?_);(try(refine gate_guard zae ?_;dsimp only));refine bE 1 #[.slice bn a5.length bp,.slice dp G.length bq,.slice bo a6.length br] 25 ?_;intro bd hg yb hbox hb;have I:=aK (hbox);have jq:=hbS HB hg;have jo:=hbS HB hg;replace HB:=hbB HB hb;clear hb hbox hg)|((with_reducible refine gD 2 rfl ?_);(try(refine gate_guard zae ?_;dsimp only));refine bE 2 #[.int .i64 0,.int .i64 0,.int .u8 0,.int .i64 0] 31 ?_;intro bs hg yc hbox hb;have U:=aK (hbox);have jr:=hbS HB hg;have jp:=hbS HB hg;replace HB:=hbB HB hb;have ae:=neL I hg;have af:=neG I hg;replace I:=bkB I hb;clear hb hbox hg;have t2:=ae.out;have uw:=af.out;obtain⟨ma,mb,mc,ol,om,oo⟩:=cell3 I)|((with_reducible refine gC 18 rfl ?_);refine cG (some 16) Try.func18 #[.agg #[.slice bn a5.length bp,.slice dp G.length bq,.slice bo a6.length br]] ?_;(with_reducible refine(recoupref21_May.calls k _ _ a5 _ _ G _ _ a6 false _ ?side1 ?side2 ?side3 ?side4 ?side5 ?side6 A2.out).mono ?_);(case side1=>exact kcB gx HB);(case side2=>exact gr.out);(case side3=>exact kcB bi HB);(case side4=>exact gs.out);(case side5=>exact kcB gy HB);(case side6=>exact gt.out);rintro e yd ⟨rfl,hb⟩;refine⟨_,rfl,?_⟩;replace I:=bkB I hb;replace U:=bkB U hb;replace HB:=hbB HB hb;(try clear hb);obtain⟨me,mf,mg,mh,op,oq,os,ot⟩:=cell4 U))
  refine bodyPost_ret (results_ctt rfl _ _ bs 31 #[.int .i64 0,.int .i64 0,.int .u8 0,.int .i64 0] (0,0) _ rfl zbh Try.underlying31 rfl zad) rfl ?_;exact⟨rfE,hbA HB.out⟩
 subst c3;rw[if_pos rfl]at H
 have H':=aK H;clear H
 go_enter Try.func11,Try.ntmps11
 go_wp2_with (first|((with_reducible refine gD 1 rfl ?_);(try(refine gate_guard zae ?_;dsimp only));refine bE 1 #[.slice bn a5.length bp,.slice dp G.length bq,.slice bo a6.length br] 25 ?_;intro bd hg w4 hbox hb;have I:=aK (hbox);have jq:=hbS HB hg;have jo:=hbS HB hg;replace HB:=hbB HB hb;clear hb hbox hg)|((with_reducible refine gD 2 rfl ?_);(try(refine gate_guard zae ?_;dsimp only));refine bE 2 #[.int .i64 0,.int .i64 0,.int .u8 0,.int .i64 0] 31 ?_;intro bs hg w5 hbox hb;have U:=aK (hbox);have jr:=hbS HB hg;have jp:=hbS HB hg;replace HB:=hbB HB hb;have ae:=neL I hg;have af:=neG I hg;replace I:=bkB I hb;clear hb hbox hg;have x1:=ae.out;have x2:=af.out;obtain⟨dh,di,dj,dk,dl,dm⟩:=cell3 I)|((with_reducible refine gC 18 rfl ?_);refine cG (some 16) Try.func18 #[.agg #[.slice bn a5.length bp,.slice dp G.length bq,.slice bo a6.length br]] ?_;(with_reducible refine(recoupref21_May.calls k _ _ a5 _ _ G _ _ a6 true _ ?side1 ?side2 ?side3 ?side4 ?side5 ?side6 A2.out).mono ?_);(case side1=>exact kcB gx HB);(case side2=>exact gr.out);(case side3=>exact kcB bi HB);(case side4=>exact gs.out);(case side5=>exact kcB gy HB);(case side6=>exact gt.out);rintro e w8 ⟨rfl,hb⟩;refine⟨_,rfl,?_⟩;replace I:=bkB I hb;replace U:=bkB U hb;replace HB:=hbB HB hb;(try clear hb)))
 go_loopg [5,6] k (fun kq v5 v6 w'=> ∃(e0:Int) (cf:Int),v5= .int .i64 e0/\v6= .int .i64 cf/\Aside0 (recoupref22_Best.l0 kq e0 cf a5 G a6=some (r1,r2,r3,r4,r5,r6))/\Aside0 (kq<=k)/\Aside0 (w'.heap[bd]? =some (.cells #[(.slice bn a5.length bp),(.slice dp G.length bq),(.slice bo a6.length br)] 25 (0,0)))/\Aside0 (w'.heap[bs]? =some (.cells #[.int .i64 0,.int .i64 0,.int .u8 0,.int .i64 0] 31 (0,0)))/\Aside0 (Below w.heap.size w w'))
 case atStart=>exact⟨(0),(0),rsE,rsE,H',⟨Nat.le_refl _⟩,⟨bkA I.out⟩,⟨bkA U.out⟩,⟨hbA HB.out⟩⟩
 case round=>
  clear H'
  (try clear c1);(try clear p2);(try clear c3);(try clear c6);(try clear dh di dj dk dl dm)
  obtain⟨e0,cf,rfl,rfl,HA,b9,I,U,HB⟩:=hrel
  cases gk with
  |zero=>exact absurd HA.out (by simp[recoupref22_Best.l0])
  |succ k1=>
   have H:=HA.out;clear HA;simp only[recoupref22_Best.l0]at H;by_cases c9:cf<(G.length:Int)
   ·rw[if_pos c9]at H
    have c9b0:decide (cf<(G.length:Int))=true:=decide_eq_true c9;clear c9;by_cases c10:0<=cf
    case neg=>rw[if_neg c10]at H;exact absurd H zac
    rw[if_pos c10]at H
    have c10b0:decide (0<=cf)=true:=decide_eq_true c10;clear c10;have H':=aK H;clear H;have vl:=ae.out;have ws:=af.out;obtain⟨ck,cl,cm,cu,cv,cw⟩:=cell3 I;have ek:0<=(cf:Int):=of_decide_eq_true asE;have em:cf<(G.length:Int):=of_decide_eq_true asE;obtain⟨u2,sn,ss,o4,bk,fl,fg⟩:=at_L5 bi.out cf ek em
    cases o4
    replace bk:=(HB.out.cell (World.block_lt_of_cell? w _ bk)).trans bk;have o1:=aK fg;have ow:=aK fl;clear fg fl;replace ek:=eq_true ek;replace em:=eq_true em;go_wp2
    go_roundg k1
    case measure=>have:=b9.out;omega
    case rel=>exact⟨(wrap64 (e0+((rd_L5 G cf).length:Int))),(wrap64 (cf+1)),rsE,rsE,H',⟨by have:=b9.out;omega⟩,⟨bkA I.out⟩,⟨bkA U.out⟩,⟨hbA HB.out⟩⟩
   rw[if_neg c9]at H
   have c9b0:decide (cf<(G.length:Int))=false:=decide_eq_false c9;clear c9;have gu:=aK H;clear H;have vm:=ae.out;have wt:=af.out;obtain⟨cn,co,cp,cx,cy,cz⟩:=cell3 I
   go_upto_region 8 with(fail)
   go_cut [41] (fun x0 wc=> ∃(kq:Nat) (eo:Bool),x0= .bool eo/\Aside0 (recoupref22_Best.j1 kq eo a5 G a6=some (r1,r2,r3,r4,r5,r6))/\Aside0 (kq<=k1)/\Aside0 (wc.heap[bd]? =some (.cells #[(.slice bn a5.length bp),(.slice dp G.length bq),(.slice bo a6.length br)] 25 (0,0)))/\Aside0 (wc.heap[bs]? =some (.cells #[.int .i64 0,.int .i64 0,.int .u8 0,.int .i64 0] 31 (0,0)))/\Aside0 (Below w.heap.size w wc))
   case first=>
    have H:=gu.out;clear gu;by_cases er:e0>512
    ·rw[if_pos er]at H
     have c16b0:decide (512<e0)=true:=decide_eq_true er;clear er
     (first|rw[c16b0] |(simp only[i64_w,i32_w];rw[c16b0])|skip)
     have H':=aK H;clear H;go_wp2
     go_meet
     case rel=>exact⟨_,(true),rsE,H',⟨by have:=b9.out;first|omega|exact Nat.le_refl _⟩,⟨bkA I.out⟩,⟨bkA U.out⟩,⟨hbA HB.out⟩⟩
    rw[if_neg er]at H
    have c16b0:decide (512<e0)=false:=decide_eq_false er;clear er
    (first|rw[c16b0] |(simp only[i64_w,i32_w];rw[c16b0])|skip)
    have H':=aK H;clear H;have vn:=ae.out;have wu:=af.out;obtain⟨cq,cr,ct,c7,c8,da⟩:=cell3 I;go_wp2
    go_meet
    case rel=>exact⟨_,(decide ((G.length:Int)>=4096)),rsE,H',⟨by have:=b9.out;first|omega|exact Nat.le_refl _⟩,⟨bkA I.out⟩,⟨bkA U.out⟩,⟨hbA HB.out⟩⟩
   case rest=>
    clear gu
    (try clear c1);(try clear p1);(try clear q1);(try clear jl);(try clear p2 p2);(try clear c3);(try clear c6);(try clear p6);(try clear c9);(try clear c9b0);(try clear c10);(try clear c10b0);(try clear jb);(try clear jc);(try clear ft);(try clear fu);(try clear f2);(try clear jd);(try clear er);(try clear c16b0);(try clear jg);(try clear jh);(try clear ck cl cm cu cv cw);(try clear cn co cp cx cy cz);(try clear cq cr ct c7 c8 da);(try clear dh di dj dk dl dm);(try clear bk);(try clear ek);(try clear em)
    obtain⟨kq,eo,rfl,HA,bh,I,U,HB⟩:=hcut
    cases kq with
    |zero=>exact absurd HA.out (by simp[recoupref22_Best.j1])
    |succ jn=>
     have H:=HA.out;clear HA;simp only[recoupref22_Best.j1]at H;by_cases e8:eo=true
     ·subst e8;rw[if_pos rfl]at H
      simp only[Option.some.injEq,Prod.mk.injEq]at H;obtain⟨rfl,rfl,rfl,rfl,rfl,rfl⟩:=H;have vo:=af.out;have wv:=ae.out;obtain⟨du,dv,dw,dx,d2,d3,d4,d5⟩:=cell4 U;go_wp2;refine bodyPost_ret (results_ctt rfl _ _ bs 31 #[.int .i64 0,.int .i64 0,.int .u8 0,.int .i64 0] (0,0) _ rfl zbh Try.underlying31 rfl zad) rfl ?_;exact⟨rfE,hbA HB.out⟩
     replace e8:=Bool.eq_false_iff.mpr e8;subst e8;rw[if_neg nofT]at H
     have H':=aK H;clear H
     go_wp2_with (first|((with_reducible refine gD 7 rfl ?_);(try(refine gate_guard zae ?_;dsimp only));refine bE 7 #[.int .i64 0,.int .i64 0,.int .u8 0,.int .i64 0] 31 ?_;intro e5 hg ym hbox hb;have ac:=aK (hbox);have u1:=hbS HB hg;have uz:=hbS HB hg;replace HB:=hbB HB hb;have X:=neL I hg;have al:=neG I hg;replace I:=bkB I hb;have ah:=neL U hg;have a9:=neG U hg;replace U:=bkB U hb;clear hb hbox hg;have vp:=al.out;have ww:=X.out;have vq:=a9.out;have wx:=ah.out;obtain⟨dy,dz,d0,d1,d6,d7,d8,d9⟩:=cell4 ac))
     go_loopg [8] jn (fun kq v8 w'=> ∃(J:Int) (bb:Int) (be:Int) (bj:Int) (bc:Int),v8= .int .i64 J/\Aside0 (recoupref22_Best.l1 kq J a5 G a6 bb be bj bc=some (r1,r2,r3,r4,r5,r6))/\Aside0 (kq<=jn)/\Aside0 (w'.heap[bd]? =some (.cells #[(.slice bn a5.length bp),(.slice dp G.length bq),(.slice bo a6.length br)] 25 (0,0)))/\Aside0 (w'.heap[bs]? =some (.cells #[.int .i64 0,.int .i64 0,.int .u8 0,.int .i64 0] 31 (0,0)))/\Aside0 (w'.heap[e5]? =some (.cells #[.int .i64 bb,.int .i64 be,.int .u8 bj,.int .i64 bc] 31 (0,0)))/\Aside0 (Below w.heap.size w w'))
     case atStart=>exact⟨(0),(0),(0),(0),(1),rsE,H',⟨Nat.le_refl _⟩,⟨by refine bkR ?_;refine blk_far ?_ X.out _;refine bkR ?_;refine blk_far ?_ X.out _;refine bkR ?_;refine blk_far ?_ X.out _;refine bkR ?_;refine blk_far ?_ X.out _;refine bkR ?_;exact I.out⟩,⟨by refine bkR ?_;refine blk_far ?_ ah.out _;refine bkR ?_;refine blk_far ?_ ah.out _;refine bkR ?_;refine blk_far ?_ ah.out _;refine bkR ?_;refine blk_far ?_ ah.out _;refine bkR ?_;exact U.out⟩,⟨by refine bkR ?_;refine blk_put (cs:= #[.int .i64 0,.int .i64 0,.int .u8 0,.int .i64 0]) ?_ 3 _ rfl;refine bkR ?_;refine blk_put (cs:= #[.int .i64 0,.int .i64 0,.int .u8 0,.int .i64 0]) ?_ 2 _ rfl;refine bkR ?_;refine blk_put (cs:= #[.int .i64 0,.int .i64 0,.int .u8 0,.int .i64 0]) ?_ 1 _ rfl;refine bkR ?_;refine blk_put (cs:= #[.int .i64 0,.int .i64 0,.int .u8 0,.int .i64 0]) ?_ 0 _ rfl;refine bkR ?_;exact ac.out⟩,⟨hbA HB.out⟩⟩
     case round=>
      clear H'
      (try clear c1);(try clear p1 p1);(try clear q1 q1);(try clear jl);(try clear c2);(try clear p2 p2);(try clear c3);(try clear c6);(try clear p6 p6);(try clear c9);(try clear c9b0);(try clear c10);(try clear c10b0);(try clear jb);(try clear jc);(try clear ft ft);(try clear fu fu);(try clear f2);(try clear jd);(try clear er);(try clear c16b0);(try clear jg);(try clear jh);(try clear e8);(try clear jw);(try clear jx);(try clear jy);(try clear ck cl cm cu cv cw);(try clear cn co cp cx cy cz);(try clear cq cr ct c7 c8 da);(try clear du dv dw dx d2 d3 d4 d5);(try clear dy dz d0 d1 d6 d7 d8 d9);(try clear dh di dj dk dl dm);(try clear bk);(try clear ek);(try clear em)
      obtain⟨J,bb,be,bj,bc,rfl,HA,cg,I,U,ac,HB⟩:=hrel
      cases gk with
      |zero=>exact absurd HA.out (by simp[recoupref22_Best.l1])
      |succ k3=>
       have H:=HA.out;clear HA;simp only[recoupref22_Best.l1]at H;by_cases e4:J<(G.length:Int)
       case neg=>
        rw[if_neg e4]at H
        have c26b0:decide (J<(G.length:Int))=false:=decide_eq_false e4;clear e4;by_cases e1:bc<2
        case neg=>
         rw[if_neg e1]at H
         have c135b0:decide (bc<2)=false:=decide_eq_false e1;clear e1;simp only[Option.some.injEq,Prod.mk.injEq]at H;obtain⟨rfl,rfl,rfl,rfl,rfl,rfl⟩:=H;have tz:=ae.out;have ut:=af.out;have t0:=X.out;have uu:=al.out;obtain⟨lu,lv,lw,n6,n7,n8⟩:=cell3 I;have t1:=a9.out;have uv:=ah.out;obtain⟨lx,ly,lz,l5,n9,oa,ob,oc⟩:=cell4 ac;obtain⟨l6,l7,l8,l9,od,oe,og,oh⟩:=cell4 U;go_wp2;refine bodyPost_ret (results_ctt rfl _ _ bs 31 #[.int .i64 bb,.int .i64 be,.int .u8 bj,.int .i64 bc] (0,0) _ rfl (by refine bkR ?_;refine blk_put (cs:= #[.int .i64 bb,.int .i64 be,.int .u8 bj,.int .i64 0]) ?_ 3 _ rfl;refine bkR ?_;refine blk_put (cs:= #[.int .i64 bb,.int .i64 be,.int .u8 0,.int .i64 0]) ?_ 2 _ rfl;refine bkR ?_;refine blk_put (cs:= #[.int .i64 bb,.int .i64 0,.int .u8 0,.int .i64 0]) ?_ 1 _ rfl;refine bkR ?_;refine blk_put (cs:= #[.int .i64 0,.int .i64 0,.int .u8 0,.int .i64 0]) ?_ 0 _ rfl;refine bkR ?_;exact U.out) Try.underlying31 rfl zad) rfl ?_;exact⟨rfE,hbA HB.out⟩
        rw[if_pos e1]at H
        have c135b0:decide (bc<2)=true:=decide_eq_true e1;clear e1;simp only[Option.some.injEq,Prod.mk.injEq]at H;obtain⟨rfl,rfl,rfl,rfl,rfl,rfl⟩:=H;have tv:=ae.out;have uq:=af.out;have tw:=X.out;have ur:=al.out;obtain⟨lf,lg,lh,nv,nw,nx⟩:=cell3 I;have tx:=a9.out;have us:=ah.out;obtain⟨ll,lm,ln,lp,ny,nz,n0,n1⟩:=cell4 ac;obtain⟨lq,lr,ls,lt,n2,n3,n4,n5⟩:=cell4 U;go_wp2;refine bodyPost_ret (results_ctt rfl _ _ bs 31 #[.int .i64 0,.int .i64 0,.int .u8 0,.int .i64 0] (0,0) _ rfl zbh Try.underlying31 rfl zad) rfl ?_;exact⟨rfE,hbA HB.out⟩
       rw[if_pos e4]at H
       have c26b0:decide (J<(G.length:Int))=true:=decide_eq_true e4;clear e4;have H':=aK H;clear H;have vr:=ae.out;have wy:=af.out;have vt:=X.out;have wz:=al.out;obtain⟨es,et,eu,ev,ew,ex⟩:=cell3 I;go_wp2
       go_loopg [9] k3 (fun kq v9 w'=> ∃(ag:Int) (b5:Int) (b6:Int) (b7:Int) (b8:Int),v9= .int .i64 ag/\Aside0 (recoupref22_Best.l2 kq J ag a5 G a6 b5 b6 b7 b8=some (r1,r2,r3,r4,r5,r6))/\Aside0 (kq<=k3)/\Aside0 (w'.heap[bd]? =some (.cells #[(.slice bn a5.length bp),(.slice dp G.length bq),(.slice bo a6.length br)] 25 (0,0)))/\Aside0 (w'.heap[bs]? =some (.cells #[.int .i64 0,.int .i64 0,.int .u8 0,.int .i64 0] 31 (0,0)))/\Aside0 (w'.heap[e5]? =some (.cells #[.int .i64 b5,.int .i64 b6,.int .u8 b7,.int .i64 b8] 31 (0,0)))/\Aside0 (Below w.heap.size w w'))
       case atStart=>exact⟨(0),(bb),(be),(bj),(bc),rsE,H',⟨Nat.le_refl _⟩,⟨bkA I.out⟩,⟨bkA U.out⟩,⟨bkA ac.out⟩,⟨hbA HB.out⟩⟩
       case round=>
        clear H'
        (try clear c1);(try clear p1 p1);(try clear q1 q1);(try clear jl);(try clear c2);(try clear p2 p2);(try clear c3);(try clear c6);(try clear p6 p6);(try clear c9);(try clear c9b0);(try clear c10);(try clear c10b0);(try clear jb);(try clear jc);(try clear ft ft);(try clear fu fu);(try clear f2);(try clear jd);(try clear er);(try clear c16b0);(try clear jg);(try clear jh);(try clear e8);(try clear jw);(try clear jx);(try clear jy);(try clear e4);(try clear c26b0);(try clear o2);(try clear o3);(try clear ck cl cm cu cv cw);(try clear cn co cp cx cy cz);(try clear cq cr ct c7 c8 da);(try clear du dv dw dx d2 d3 d4 d5);(try clear dy dz d0 d1 d6 d7 d8 d9);(try clear es et eu ev ew ex);(try clear dh di dj dk dl dm);(try clear bk);(try clear ek);(try clear em)
        obtain⟨ag,b5,b6,b7,b8,rfl,HA,ch,I,U,ac,HB⟩:=hrel
        cases gk with
        |zero=>exact absurd HA.out (by simp[recoupref22_Best.l2])
        |succ k4=>
         have H:=HA.out;clear HA;simp only[recoupref22_Best.l2]at H;by_cases gl:0<=J
         case neg=>rw[if_neg gl]at H;exact absurd H zac
         rw[if_pos gl]at H
         have c30b0:decide (0<=J)=true:=decide_eq_true gl;clear gl;by_cases gm:J<(G.length:Int)
         case neg=>rw[if_neg gm]at H;exact absurd H zac
         rw[if_pos gm]at H
         have c31b0:decide (J<(G.length:Int))=true:=decide_eq_true gm;clear gm;by_cases e9:ag<((rd_L5 G J).length:Int)
         case neg=>
          rw[if_neg e9]at H
          have c32b0:decide (ag<((rd_L5 G J).length:Int))=false:=decide_eq_false e9;clear e9;have H':=aK H;clear H;have tt:=ae.out;have un:=af.out;have tu:=X.out;have uo:=al.out;obtain⟨lc,ld,le,nr,nt,nu⟩:=cell3 I;have ei:0<=(J:Int):=of_decide_eq_true asE;have ej:J<(G.length:Int):=of_decide_eq_true asE;obtain⟨aw,i9,je,g8,bg,de,db⟩:=at_L5 bi.out J ei ej
          cases g8
          replace bg:=(HB.out.cell (World.block_lt_of_cell? w _ bg)).trans bg;have gz:=aK db;have gv:=aK de;clear db de;replace ei:=eq_true ei;replace ej:=eq_true ej;go_wp2
          go_roundg k4
          case measure=>have:=b9.out;have:=bh.out;have:=cg.out;have:=ch.out;omega
          case rel=>exact⟨(wrap64 (J+1)),(b5),(b6),(b7),(b8),rsE,H',⟨by have:=b9.out;have:=bh.out;have:=cg.out;have:=ch.out;omega⟩,⟨bkA I.out⟩,⟨bkA U.out⟩,⟨bkA ac.out⟩,⟨hbA HB.out⟩⟩
         rw[if_pos e9]at H
         have c32b0:decide (ag<((rd_L5 G J).length:Int))=true:=decide_eq_true e9;clear e9;have H':=aK H;clear H;have vu:=ae.out;have w3:=af.out;have vv:=X.out;have w6:=al.out;obtain⟨fa,fb,fc,fd,fe,ff⟩:=cell3 I;have ei:0<=(J:Int):=of_decide_eq_true asE;have ej:J<(G.length:Int):=of_decide_eq_true asE;obtain⟨aw,i9,je,g8,bg,de,db⟩:=at_L5 bi.out J ei ej
         cases g8
         replace bg:=(HB.out.cell (World.block_lt_of_cell? w _ bg)).trans bg;have gz:=aK db;have gv:=aK de;clear db de;replace ei:=eq_true ei;replace ej:=eq_true ej;go_wp2
         go_loopg [10] k4 (fun kq xy w'=> ∃(Z:Int) (av:Int) (am:Int) (ak:Int) (Y:Int),xy= .int .i64 Z/\Aside0 (recoupref22_Best.l3 kq J ag Z a5 G a6 av am ak Y=some (r1,r2,r3,r4,r5,r6))/\Aside0 (kq<=k4)/\Aside0 (w'.heap[bd]? =some (.cells #[(.slice bn a5.length bp),(.slice (some aw) G.length bq),(.slice bo a6.length br)] 25 (0,0)))/\Aside0 (w'.heap[bs]? =some (.cells #[.int .i64 0,.int .i64 0,.int .u8 0,.int .i64 0] 31 (0,0)))/\Aside0 (w'.heap[e5]? =some (.cells #[.int .i64 av,.int .i64 am,.int .u8 ak,.int .i64 Y] 31 (0,0)))/\Aside0 (Below w.heap.size w w'))
         case atStart=>exact⟨(wrap64 (ag+1)),(b5),(b6),(b7),(b8),rsE,H',⟨Nat.le_refl _⟩,⟨bkA I.out⟩,⟨bkA U.out⟩,⟨bkA ac.out⟩,⟨hbA HB.out⟩⟩
         case round=>
          clear H'
          (try clear c1);(try clear p1 p1);(try clear q1 q1);(try clear jl);(try clear c2);(try clear p2 p2);(try clear c3);(try clear c6);(try clear p6 p6);(try clear c9);(try clear c9b0);(try clear c10);(try clear c10b0);(try clear jb);(try clear jc);(try clear ft ft);(try clear fu fu);(try clear f2);(try clear jd);(try clear si);(try clear sj);(try clear sh);(try clear er);(try clear c16b0);(try clear jg);(try clear jh);(try clear e8);(try clear jw);(try clear jx);(try clear jy);(try clear e4);(try clear c26b0);(try clear o2);(try clear o3);(try clear gl);(try clear c30b0);(try clear gm);(try clear c31b0);(try clear e9);(try clear c32b0);(try clear u4);(try clear u5);(try clear ck cl cm cu cv cw);(try clear cn co cp cx cy cz);(try clear cq cr ct c7 c8 da);(try clear du dv dw dx d2 d3 d4 d5);(try clear dy dz d0 d1 d6 d7 d8 d9);(try clear es et eu ev ew ex);(try clear fa fb fc fd fe ff);(try clear dh di dj dk dl dm);(try clear bk);(try clear bg);(try clear ek);(try clear ei);(try clear em);(try clear ej)
          obtain⟨Z,av,am,ak,Y,rfl,HA,dn,I,U,ac,HB⟩:=hrel
          cases gk with
          |zero=>exact absurd HA.out (by simp[recoupref22_Best.l3])
          |succ k5=>
           have H:=HA.out;clear HA;simp only[recoupref22_Best.l3]at H;by_cases g3:0<=J
           case neg=>rw[if_neg g3]at H;exact absurd H zac
           rw[if_pos g3]at H
           have c36b0:decide (0<=J)=true:=decide_eq_true g3;clear g3;by_cases g4:J<(G.length:Int)
           case neg=>rw[if_neg g4]at H;exact absurd H zac
           rw[if_pos g4]at H
           have c37b0:decide (J<(G.length:Int))=true:=decide_eq_true g4;clear g4;by_cases fx:Z<((rd_L5 G J).length:Int)
           case neg=>
            rw[if_neg fx]at H
            have c38b0:decide (Z<((rd_L5 G J).length:Int))=false:=decide_eq_false fx;clear fx;have H':=aK H;clear H;have tq:=ae.out;have ul:=af.out;have tr:=X.out;have um:=al.out;obtain⟨k9,la,lb,nn,np,nq⟩:=cell3 I;have el:0<=(J:Int):=of_decide_eq_true asE;have en:J<(G.length:Int):=of_decide_eq_true asE;obtain⟨fv,ja,jf,g9,bl,df,dc⟩:=at_L5 bi.out J el en;obtain rfl:aw=fv:=(by injection g9)
            replace bl:=(HB.out.cell (World.block_lt_of_cell? w _ bl)).trans bl;have g0:=aK dc;have gw:=aK df;clear dc df;replace el:=eq_true el;replace en:=eq_true en;go_wp2
            go_roundg k5
            case measure=>have:=b9.out;have:=bh.out;have:=cg.out;have:=ch.out;have:=dn.out;omega
            case rel=>exact⟨(wrap64 (ag+1)),(av),(am),(ak),(Y),rsE,H',⟨by have:=b9.out;have:=bh.out;have:=cg.out;have:=ch.out;have:=dn.out;omega⟩,⟨bkA I.out⟩,⟨bkA U.out⟩,⟨bkA ac.out⟩,⟨hbA HB.out⟩⟩
           rw[if_pos fx]at H
           have c38b0:decide (Z<((rd_L5 G J).length:Int))=true:=decide_eq_true fx;clear fx;by_cases g5:0<=ag
           case neg=>rw[if_neg g5]at H;exact absurd H zac
           rw[if_pos g5]at H
           have c39b0:decide (0<=ag)=true:=decide_eq_true g5;clear g5;by_cases g6:ag<((rd_L5 G J).length:Int)
           case neg=>rw[if_neg g6]at H;exact absurd H zac
           rw[if_pos g6]at H
           have c40b0:decide (ag<((rd_L5 G J).length:Int))=true:=decide_eq_true g6;clear g6;by_cases g7:0<=Z
           case neg=>rw[if_neg g7]at H;exact absurd H zac
           rw[if_pos g7]at H
           have c41b0:decide (0<=Z)=true:=decide_eq_true g7;clear g7;obtain⟨⟨i8,sk⟩,ux,H⟩:=bindO H
           (try dsimp only at H)
           obtain⟨bm,uy,H⟩:=bindO H
           (try dsimp only at H)
           have H':=aK H;clear H;have vw:=ae.out;have w7:=af.out;have vx:=X.out;have w9:=al.out;obtain⟨ig,ii,ij,it,iu,iv⟩:=cell3 I;have el:0<=(J:Int):=of_decide_eq_true asE;have en:J<(G.length:Int):=of_decide_eq_true asE;obtain⟨fv,ja,jf,g9,bl,df,dc⟩:=at_L5 bi.out J el en;obtain rfl:aw=fv:=(by injection g9)
           replace bl:=(HB.out.cell (World.block_lt_of_cell? w _ bl)).trans bl;have g0:=aK dc;have gw:=aK df;clear dc df;replace el:=eq_true el;replace en:=eq_true en
           try go_wp2
           replace I:=aK (blk_drew I.out);replace U:=aK (blk_drew U.out);replace ac:=aK (blk_drew ac.out);replace HB:=aK (below_drew1 HB.out);have f3:0<=(J:Int):=of_decide_eq_true asE;have gb:J<(G.length:Int):=of_decide_eq_true asE;obtain⟨js,so,fz,o5,b3,fm,fh⟩:=at_L5 bi.out J f3 gb;have an:=b3;obtain rfl:aw=js:=(by injection o5)
           replace b3:=(HB.out.cell (World.block_lt_of_cell? w _ b3)).trans b3;have e6:=aK fh;have ox:=aK fm;clear fh fm;replace f3:=eq_true f3;replace gb:=eq_true gb;have f4:0<=(ag:Int):=of_decide_eq_true asE;have gc:ag<((rd_L5 G J).length:Int):=of_decide_eq_true asE;obtain⟨cj,o6,ca,cb⟩:=at_T61 e6.out ag f4 gc;have ap:=cb;have ao:=ca
           cases o6
           replace ca:=(HB.out.cell (World.block_lt_of_cell? w _ ca)).trans ca;replace cb:=(HB.out.cell (World.block_lt_of_cell? w _ cb)).trans cb;replace f4:=eq_true f4;replace gc:=eq_true gc;have f5:0<=(J:Int):=of_decide_eq_true asE;have ge:J<(G.length:Int):=of_decide_eq_true asE;obtain⟨jt,sp,st,o7,b4,fo,fi⟩:=at_L5 bi.out J f5 ge;have aq:=b4;obtain rfl:aw=jt:=(by injection o7)
           replace b4:=(HB.out.cell (World.block_lt_of_cell? w _ b4)).trans b4;have e7:=aK fi;have oy:=aK fo;clear fi fo;replace f5:=eq_true f5;replace ge:=eq_true ge;have ea_:=Option.some.inj (b3.symm.trans b4);injection ea_ with ea_ en_ ec_;subst ea_;subst ec_;clear en_;have f6:0<=(Z:Int):=of_decide_eq_true asE;have gf:Z<((rd_L5 G J).length:Int):=of_decide_eq_true asE;obtain⟨u3,o8,cd,ce⟩:=at_T61 e7.out Z f6 gf;have au:=ce;have ar:=cd
           cases o8
           replace cd:=(HB.out.cell (World.block_lt_of_cell? w _ cd)).trans cd;replace ce:=(HB.out.cell (World.block_lt_of_cell? w _ ce)).trans ce;replace f6:=eq_true f6;replace gf:=eq_true gf;refine start_ (n:=21) (S:=fun w'=>w'.cell? ⟨bd,0,none⟩=some (.slice bn a5.length bp)/\w'.cell? ⟨bd,1,none⟩=some (.slice (some aw) G.length bq)/\w'.cell? ⟨bd,2,none⟩=some (.slice bo a6.length br)/\w'.cell? (aw.add (J).toNat)=some (.slice (some cj) (rd_L5 G J).length fz)/\w'.cell? (cj.add ((ag).toNat*2))=some (.int .i64 ((rd_T61 (rd_L5 G J) ag).f0))/\w'.cell? ⟨(cj.add ((ag).toNat*2)).block,(cj.add ((ag).toNat*2)).off+1,none⟩=some (.int .u8 ((rd_T61 (rd_L5 G J) ag).f1))/\w'.cell? (aw.add (J).toNat)=some (.slice (some cj) (rd_L5 G J).length fz)/\w'.cell? (cj.add ((Z).toNat*2))=some (.int .i64 ((rd_T61 (rd_L5 G J) Z).f0))/\w'.cell? ⟨(cj.add ((Z).toNat*2)).block,(cj.add ((Z).toNat*2)).off+1,none⟩=some (.int .u8 ((rd_T61 (rd_L5 G J) Z).f1))) (ds:= []) (.replicate 21 false) zad rfl rfl (z3k I ⟨((HB.out.cell (World.block_lt_of_cell? w _ an)).trans an),((HB.out.cell (World.block_lt_of_cell? w _ ao)).trans ao),((HB.out.cell (World.block_lt_of_cell? w _ ap)).trans ap),((HB.out.cell (World.block_lt_of_cell? w _ aq)).trans aq),((HB.out.cell (World.block_lt_of_cell? w _ ar)).trans ar),((HB.out.cell (World.block_lt_of_cell? w _ au)).trans au)⟩) (fun hHeld=>?_);refine with_tabW recoupref22_Best.tab20 recoupref22_Best.bits20 (fun HT_ HW_=>?_);generalize wr.drew=yn at I U ac HB e6 e7 b3 ca cb b4 cd ce hHeld⊢;refine pu 0 (some 73) (mB 21 1) HT_ ?_;refine pu 2 (some 75) (mB 21 5) HT_ ?_;refine pu 5 (some 78) (mB 21 37) HT_ ?_;refine pu 9 (some 82) (mB 21 549) HT_ ?_;refine pu 11 (some 84) (mB 21 2597) HT_ ?_;refine pu 14 (some 87) (mB 21 18981) HT_ ?_;refine tk9 1 (some 74) (mB 21 18983) HT_ HW_ hHeld ?_;refine pu 3 (some 76) (mB 21 18991) HT_ ?_;refine tk9 4 (some 77) (mB 21 19007) HT_ HW_ hHeld ?_;refine pu 6 (some 79) (mB 21 19071) HT_ ?_;refine pu 7 (some 80) (mB 21 19199) HT_ ?_;refine tk9 8 (some 81) (mB 21 19455) HT_ HW_ hHeld ?_;refine tk9 10 (some 83) (mB 21 20479) HT_ HW_ hHeld ?_;refine pu 12 (some 85) (mB 21 24575) HT_ ?_;refine tk9 13 (some 86) (mB 21 32767) HT_ HW_ hHeld ?_;refine pu 15 (some 88) (mB 21 65535) HT_ ?_;refine pu 16 (some 89) (mB 21 131071) HT_ ?_;refine tk9 17 (some 90) (mB 21 262143) HT_ HW_ hHeld ?_;refine pu 18 (some 91) (mB 21 524287) HT_ ?_;refine zoh 19 (some 11) (mB 21 1048575) HT_ fun K hK=>?_;refine box_step ?hg (N:=11) ?hd (cs:= #[.int .i64 0,.int .i64 0,.int .u8 0,.int .i64 0]) (t:=31) ?hr ?_;(case hd=>rfl);(case hg=>rfl);(case hr=>first|(go_simp;done)|(go_simp;rfl))
           intro L hg jm hbox hb;have ab:=aK (hbox);have D:=hbS HB hg;have u0:=hbS HB hg;replace HB:=hbB HB hb;have O:=neL I hg;have ax:=neG I hg;replace I:=bkB I hb;have ai:=neL U hg;have a3:=neG U hg;replace U:=bkB U hb;have aj:=neL ac hg;have a4:=neG ac hg;replace ac:=bkB ac hb;clear hb hbox hg;refine hK.out _ _ (z3k I ⟨((HB.out.cell (World.block_lt_of_cell? w _ an)).trans an),((HB.out.cell (World.block_lt_of_cell? w _ ao)).trans ao),((HB.out.cell (World.block_lt_of_cell? w _ ap)).trans ap),((HB.out.cell (World.block_lt_of_cell? w _ aq)).trans aq),((HB.out.cell (World.block_lt_of_cell? w _ ar)).trans ar),((HB.out.cell (World.block_lt_of_cell? w _ au)).trans au)⟩) (fun hHeld=>?_);clear hK K;refine znm (some 11) ?_;refine zoh 20 (none) (mB 21 2097151) HT_ fun K hK=>?_;have x3:jm.cell? ⟨L,0,none⟩=some (.int .i64 0):=(blk_cell ab.out 0).trans rfl;have u6:=blk_frozen ab.out 0;have rz:=O.out;have r0:=ai.out;have r7:=aj.out;have rl:=ax.out;have rm:=a3.out;have rn:=a4.out;have x4:jm.cell? ⟨L,1,none⟩=some (.int .i64 0):=(blk_cell ab.out 1).trans rfl;have u7:=blk_frozen ab.out 1;have r8:=O.out;have r9:=ai.out;have sa:=aj.out;have ro:=ax.out;have rp:=a3.out;have rq:=a4.out;have x5:jm.cell? ⟨L,2,none⟩=some (.int .u8 0):=(blk_cell ab.out 2).trans rfl;have u9:=blk_frozen ab.out 2;have sb:=O.out;have sc:=ai.out;have sd:=aj.out;have rr:=ax.out;have rt:=a3.out;have ru:=a4.out;have x6:jm.cell? ⟨L,3,none⟩=some (.int .i64 0):=(blk_cell ab.out 3).trans rfl;have vk:=blk_frozen ab.out 3;have se:=O.out;have sf:=ai.out;have sg:=aj.out;have rv:=ax.out;have rx:=a3.out;have ry:=a4.out;refine zsk ?_;refine hK.out _ _ ⟨((cell_far (p:=⟨L,_,none⟩) O.out _).trans (((cell_far (p:=⟨L,_,none⟩) O.out _).trans (((cell_far (p:=⟨L,_,none⟩) O.out _).trans (((cell_far (p:=⟨L,_,none⟩) O.out _).trans (hHeld.1)))))))),((cell_far (p:=⟨L,_,none⟩) O.out _).trans (((cell_far (p:=⟨L,_,none⟩) O.out _).trans (((cell_far (p:=⟨L,_,none⟩) O.out _).trans (((cell_far (p:=⟨L,_,none⟩) O.out _).trans (hHeld.2.1)))))))),((cell_far (p:=⟨L,_,none⟩) O.out _).trans (((cell_far (p:=⟨L,_,none⟩) O.out _).trans (((cell_far (p:=⟨L,_,none⟩) O.out _).trans (((cell_far (p:=⟨L,_,none⟩) O.out _).trans (hHeld.2.2.1)))))))),((cell_far (p:=⟨L,_,none⟩) za3 _).trans (((cell_far (p:=⟨L,_,none⟩) za3 _).trans (((cell_far (p:=⟨L,_,none⟩) za3 _).trans (((cell_far (p:=⟨L,_,none⟩) za3 _).trans (hHeld.2.2.2.1)))))))),((cell_far (p:=⟨L,_,none⟩) za2 _).trans (((cell_far (p:=⟨L,_,none⟩) za2 _).trans (((cell_far (p:=⟨L,_,none⟩) za2 _).trans (((cell_far (p:=⟨L,_,none⟩) za2 _).trans (hHeld.2.2.2.2.1)))))))),((cell_far (p:=⟨L,_,none⟩) za1 _).trans (((cell_far (p:=⟨L,_,none⟩) za1 _).trans (((cell_far (p:=⟨L,_,none⟩) za1 _).trans (((cell_far (p:=⟨L,_,none⟩) za1 _).trans (hHeld.2.2.2.2.2.1)))))))),((cell_far (p:=⟨L,_,none⟩) za0 _).trans (((cell_far (p:=⟨L,_,none⟩) za0 _).trans (((cell_far (p:=⟨L,_,none⟩) za0 _).trans (((cell_far (p:=⟨L,_,none⟩) za0 _).trans (hHeld.2.2.2.2.2.2.1)))))))),((cell_far (p:=⟨L,_,none⟩) zaz _).trans (((cell_far (p:=⟨L,_,none⟩) zaz _).trans (((cell_far (p:=⟨L,_,none⟩) zaz _).trans (((cell_far (p:=⟨L,_,none⟩) zaz _).trans (hHeld.2.2.2.2.2.2.2.1)))))))),((cell_far (p:=⟨L,_,none⟩) zay _).trans (((cell_far (p:=⟨L,_,none⟩) zay _).trans (((cell_far (p:=⟨L,_,none⟩) zay _).trans (((cell_far (p:=⟨L,_,none⟩) zay _).trans (hHeld.2.2.2.2.2.2.2.2))))))))⟩ (fun hHeld=>?_)
           clear hK K;refine done_ (done_of HT_.out zad) ?_;have vy:=O.out;have xa:=ax.out;obtain⟨ik,il,im,iw,ix,iy⟩:=cell3 I;have f7:0<=(J:Int):=of_decide_eq_true asE;have gg:J<(G.length:Int):=of_decide_eq_true asE;obtain⟨ju,sq,su,o9,ay,fp,fj⟩:=at_L5 bi.out J f7 gg;obtain rfl:aw=ju:=(by injection o9)
           have ea:aw.block≠L:=Nat.ne_of_lt (Nat.lt_of_lt_of_le za6 D.out);have eb:aw.block≠L:=Nat.ne_of_lt (Nat.lt_of_lt_of_le za6 D.out);have ec:aw.block≠L:=Nat.ne_of_lt (Nat.lt_of_lt_of_le za6 D.out);have ed:aw.block≠L:=Nat.ne_of_lt (Nat.lt_of_lt_of_le za6 D.out);replace ay:=(HB.out.cell (World.block_lt_of_cell? w _ ay)).trans ay;have g1:=aK fj;have oz:=aK fp;clear fj fp;replace ay:=(cell_far (p:=⟨L,0,none⟩) (by first|(rw[add_block];exact ea)|(show(Addr.add _ _).block≠_;rw[add_block];exact ea)|exact ea) (.int .i64 ((rd_T61 (rd_L5 G J) ag).f0))).trans ay;replace ay:=(cell_far (p:=⟨L,1,none⟩) (by first|(rw[add_block];exact eb)|(show(Addr.add _ _).block≠_;rw[add_block];exact eb)|exact eb) (.int .i64 ((rd_T61 (rd_L5 G J) Z).f0))).trans ay;replace ay:=(cell_far (p:=⟨L,2,none⟩) (by first|(rw[add_block];exact ec)|(show(Addr.add _ _).block≠_;rw[add_block];exact ec)|exact ec) (.int .u8 0)).trans ay;replace ay:=(cell_far (p:=⟨L,3,none⟩) (by first|(rw[add_block];exact ed)|(show(Addr.add _ _).block≠_;rw[add_block];exact ed)|exact ed) (.int .i64 0)).trans ay;clear ea;clear eb;clear ec;clear ed;replace f7:=eq_true f7;replace gg:=eq_true gg;have f8:0<=(ag:Int):=of_decide_eq_true asE;have gh:ag<((rd_L5 G J).length:Int):=of_decide_eq_true asE;obtain⟨e2,pa,az,a7⟩:=at_T61 g1.out ag f8 gh
           cases pa
           have bu:e2.block≠L:=Nat.ne_of_lt (Nat.lt_of_lt_of_le za5 D.out);have bv:e2.block≠L:=Nat.ne_of_lt (Nat.lt_of_lt_of_le za5 D.out);have bw:e2.block≠L:=Nat.ne_of_lt (Nat.lt_of_lt_of_le za5 D.out);have bx:e2.block≠L:=Nat.ne_of_lt (Nat.lt_of_lt_of_le za5 D.out);replace az:=(HB.out.cell (World.block_lt_of_cell? w _ az)).trans az;replace a7:=(HB.out.cell (World.block_lt_of_cell? w _ a7)).trans a7;replace az:=(cell_far (p:=⟨L,0,none⟩) zbz (.int .i64 ((rd_T61 (rd_L5 G J) ag).f0))).trans az;replace a7:=(cell_far (p:=⟨L,0,none⟩) zbz (.int .i64 ((rd_T61 (rd_L5 G J) ag).f0))).trans a7;replace az:=(cell_far (p:=⟨L,1,none⟩) zby (.int .i64 ((rd_T61 (rd_L5 G J) Z).f0))).trans az;replace a7:=(cell_far (p:=⟨L,1,none⟩) zby (.int .i64 ((rd_T61 (rd_L5 G J) Z).f0))).trans a7;replace az:=(cell_far (p:=⟨L,2,none⟩) zbx (.int .u8 0)).trans az;replace a7:=(cell_far (p:=⟨L,2,none⟩) zbx (.int .u8 0)).trans a7;replace az:=(cell_far (p:=⟨L,3,none⟩) zbw (.int .i64 0)).trans az;replace a7:=(cell_far (p:=⟨L,3,none⟩) zbw (.int .i64 0)).trans a7;clear bu;clear bv;clear bw;clear bx;replace f8:=eq_true f8;replace gh:=eq_true gh
           try go_wp2_with (first|((with_reducible refine gC 26 rfl ?_);refine cG (some 102) Try.func26 #[.int .u8 ((rd_T61 (rd_L5 G J) ag).f1)] ?_;(with_reducible refine(recoupref01_Inv.calls k5 ((rd_T61 (rd_L5 G J) ag).f1) i8 sk _ ux.out).mono ?_);rintro e w' ⟨rfl,⟨nd,rfl⟩⟩;refine⟨_,rfl,?_⟩;have f9:0<=(J:Int):=of_decide_eq_true asE;have gi:J<(G.length:Int):=of_decide_eq_true asE;obtain⟨jv,sr,sv,pb,a0,fq,fk⟩:=at_L5 bi.out J f9 gi;obtain rfl:aw=jv:=(by injection pb);have ee:aw.block≠L:=Nat.ne_of_lt (Nat.lt_of_lt_of_le za8 D.out);have ef:aw.block≠L:=Nat.ne_of_lt (Nat.lt_of_lt_of_le za8 D.out);have eg:aw.block≠L:=Nat.ne_of_lt (Nat.lt_of_lt_of_le za8 D.out);have eh:aw.block≠L:=Nat.ne_of_lt (Nat.lt_of_lt_of_le za8 D.out);replace a0:=(HB.out.cell (World.block_lt_of_cell? w _ a0)).trans a0;have g2:=aK fk;have o0:=aK fq;clear fk fq;replace a0:=(cell_far (p:=⟨L,0,none⟩) (by first|(rw[add_block];exact ee)|(show(Addr.add _ _).block≠_;rw[add_block];exact ee)|exact ee) (.int .i64 ((rd_T61 (rd_L5 G J) ag).f0))).trans a0;replace a0:=(cell_far (p:=⟨L,1,none⟩) (by first|(rw[add_block];exact ef)|(show(Addr.add _ _).block≠_;rw[add_block];exact ef)|exact ef) (.int .i64 ((rd_T61 (rd_L5 G J) Z).f0))).trans a0;replace a0:=(cell_far (p:=⟨L,2,none⟩) (by first|(rw[add_block];exact eg)|(show(Addr.add _ _).block≠_;rw[add_block];exact eg)|exact eg) (.int .u8 0)).trans a0;replace a0:=(cell_far (p:=⟨L,3,none⟩) (by first|(rw[add_block];exact eh)|(show(Addr.add _ _).block≠_;rw[add_block];exact eh)|exact eh) (.int .i64 0)).trans a0;clear ee;clear ef;clear eg;clear eh;replace f9:=eq_true f9;replace gi:=eq_true gi;have ga:0<=(Z:Int):=of_decide_eq_true asE;have gj:Z<((rd_L5 G J).length:Int):=of_decide_eq_true asE;obtain⟨e3,pc,a1,a8⟩:=at_T61 g2.out Z ga gj;cases pc;have bz:e3.block≠L:=Nat.ne_of_lt (Nat.lt_of_lt_of_le za7 D.out);have b0:e3.block≠L:=Nat.ne_of_lt (Nat.lt_of_lt_of_le za7 D.out);have b1:e3.block≠L:=Nat.ne_of_lt (Nat.lt_of_lt_of_le za7 D.out);have b2:e3.block≠L:=Nat.ne_of_lt (Nat.lt_of_lt_of_le za7 D.out);replace a1:=(HB.out.cell (World.block_lt_of_cell? w _ a1)).trans a1;replace a8:=(HB.out.cell (World.block_lt_of_cell? w _ a8)).trans a8;replace a1:=(cell_far (p:=⟨L,0,none⟩) zbv (.int .i64 ((rd_T61 (rd_L5 G J) ag).f0))).trans a1;replace a8:=(cell_far (p:=⟨L,0,none⟩) zbv (.int .i64 ((rd_T61 (rd_L5 G J) ag).f0))).trans a8;replace a1:=(cell_far (p:=⟨L,1,none⟩) zb2 (.int .i64 ((rd_T61 (rd_L5 G J) Z).f0))).trans a1;replace a8:=(cell_far (p:=⟨L,1,none⟩) zb2 (.int .i64 ((rd_T61 (rd_L5 G J) Z).f0))).trans a8;replace a1:=(cell_far (p:=⟨L,2,none⟩) zb1 (.int .u8 0)).trans a1;replace a8:=(cell_far (p:=⟨L,2,none⟩) zb1 (.int .u8 0)).trans a8;replace a1:=(cell_far (p:=⟨L,3,none⟩) zb0 (.int .i64 0)).trans a1;replace a8:=(cell_far (p:=⟨L,3,none⟩) zb0 (.int .i64 0)).trans a8;clear bz;clear b0;clear b1;clear b2;replace ga:=eq_true ga;replace gj:=eq_true gj)|((with_reducible refine gC 27 rfl ?_);refine cG (some 115) Try.func27 #[.int .u8 ((rd_T61 (rd_L5 G J) Z).f1),.int .u8 i8] ?_;(with_reducible refine(recoupref01_Mul.calls k5 ((rd_T61 (rd_L5 G J) Z).f1) i8 bm _ uy.out).mono ?_);rintro e w' ⟨rfl,⟨nd,rfl⟩⟩;refine⟨_,rfl,?_⟩;have vz:=a3.out;have xb:=ai.out;have v0:=a4.out;have xc:=aj.out;obtain⟨io,ip,iq,ir,iz,i1,i2,i3⟩:=cell4 ab))
           go_loopg [14] k5 (fun kq xz w'=> ∃(a2:Int) (aa:Int),xz= .int .i64 a2/\Aside0 (recoupref22_Best.l4 kq J ag Z a2 a5 G a6 av am ak Y ((rd_T61 (rd_L5 G J) ag).f0) ((rd_T61 (rd_L5 G J) Z).f0) bm aa=some (r1,r2,r3,r4,r5,r6))/\Aside0 (kq<=k5)/\Aside0 (w'.heap[bd]? =some (.cells #[(.slice bn a5.length bp),(.slice (some aw) G.length bq),(.slice bo a6.length br)] 25 (0,0)))/\Aside0 (w'.heap[bs]? =some (.cells #[.int .i64 0,.int .i64 0,.int .u8 0,.int .i64 0] 31 (0,0)))/\Aside0 (w'.heap[e5]? =some (.cells #[.int .i64 av,.int .i64 am,.int .u8 ak,.int .i64 Y] 31 (0,0)))/\Aside0 (w'.heap[L]? =some (.cells #[.int .i64 ((rd_T61 (rd_L5 G J) ag).f0),.int .i64 ((rd_T61 (rd_L5 G J) Z).f0),.int .u8 bm,.int .i64 aa] 31 (0,0)))/\Aside0 (Below w.heap.size w w'))
           case atStart=>exact⟨(0),(0),rsE,H',⟨Nat.le_refl _⟩,⟨by refine bkR ?_;refine blk_far ?_ O.out _;refine bkR ?_;refine blk_far ?_ O.out _;refine bkR ?_;refine blk_far ?_ O.out _;refine bkR ?_;refine blk_far ?_ O.out _;refine bkR ?_;refine blk_far ?_ O.out _;refine bkR ?_;exact I.out⟩,⟨by refine bkR ?_;refine blk_far ?_ ai.out _;refine bkR ?_;refine blk_far ?_ ai.out _;refine bkR ?_;refine blk_far ?_ ai.out _;refine bkR ?_;refine blk_far ?_ ai.out _;refine bkR ?_;refine blk_far ?_ ai.out _;refine bkR ?_;exact U.out⟩,⟨by refine bkR ?_;refine blk_far ?_ aj.out _;refine bkR ?_;refine blk_far ?_ aj.out _;refine bkR ?_;refine blk_far ?_ aj.out _;refine bkR ?_;refine blk_far ?_ aj.out _;refine bkR ?_;refine blk_far ?_ aj.out _;refine bkR ?_;exact ac.out⟩,⟨by refine bkR ?_;refine blk_put (cs:= #[.int .i64 ((rd_T61 (rd_L5 G J) ag).f0),.int .i64 ((rd_T61 (rd_L5 G J) Z).f0),.int .u8 0,.int .i64 0]) ?_ 2 _ rfl;refine bkR ?_;refine blk_put (cs:= #[.int .i64 ((rd_T61 (rd_L5 G J) ag).f0),.int .i64 ((rd_T61 (rd_L5 G J) Z).f0),.int .u8 0,.int .i64 0]) ?_ 3 _ rfl;refine bkR ?_;refine blk_put (cs:= #[.int .i64 ((rd_T61 (rd_L5 G J) ag).f0),.int .i64 ((rd_T61 (rd_L5 G J) Z).f0),.int .u8 0,.int .i64 0]) ?_ 2 _ rfl;refine bkR ?_;refine blk_put (cs:= #[.int .i64 ((rd_T61 (rd_L5 G J) ag).f0),.int .i64 0,.int .u8 0,.int .i64 0]) ?_ 1 _ rfl;refine bkR ?_;refine blk_put (cs:= #[.int .i64 0,.int .i64 0,.int .u8 0,.int .i64 0]) ?_ 0 _ rfl;refine bkR ?_;exact ab.out⟩,⟨hbA HB.out⟩⟩
           case round=>
            clear H'
            (try clear c1);(try clear p1 p1);(try clear q1 q1);(try clear jl);(try clear c2);(try clear p2 p2);(try clear c3);(try clear c4);(try clear c5);(try clear c6);(try clear p6 p6);(try clear c9);(try clear c9b0);(try clear c10);(try clear c10b0);(try clear jb);(try clear jc);(try clear ft ft);(try clear fu fu);(try clear f2);(try clear jd);(try clear si si);(try clear sj sj);(try clear sh);(try clear ye);(try clear yk);(try clear yl);(try clear x9);(try clear er);(try clear c16b0);(try clear jg);(try clear jh);(try clear e8);(try clear jw);(try clear jx);(try clear jy);(try clear e4);(try clear c26b0);(try clear o2);(try clear o3);(try clear gl);(try clear c30b0);(try clear gm);(try clear c31b0);(try clear e9);(try clear c32b0);(try clear u4);(try clear u5);(try clear g3);(try clear c36b0);(try clear g4);(try clear c37b0);(try clear fx);(try clear c38b0);(try clear g5);(try clear c39b0);(try clear g6);(try clear c40b0);(try clear g7);(try clear c41b0);(try clear yf);(try clear yg);(try clear yh);(try clear yi);(try clear yj);(try clear ck cl cm cu cv cw);(try clear cn co cp cx cy cz);(try clear cq cr ct c7 c8 da);(try clear du dv dw dx d2 d3 d4 d5);(try clear dy dz d0 d1 d6 d7 d8 d9);(try clear es et eu ev ew ex);(try clear fa fb fc fd fe ff);(try clear ig ii ij it iu iv);(try clear ik il im iw ix iy);(try clear io ip iq ir iz i1 i2 i3);(try clear dh di dj dk dl dm);(try clear bk);(try clear bg);(try clear bl);(try clear b3);(try clear ca);(try clear cb);(try clear b4);(try clear cd);(try clear ce);(try clear ay);(try clear az);(try clear a7);(try clear a0);(try clear a1);(try clear a8);(try clear ek);(try clear ei);(try clear el);(try clear f3);(try clear f4);(try clear f5);(try clear f6);(try clear f7);(try clear f8);(try clear f9);(try clear ga);(try clear em);(try clear ej);(try clear en);(try clear gb);(try clear gc);(try clear ge);(try clear gf);(try clear gg);(try clear gh);(try clear gi);(try clear gj)
            obtain⟨a2,aa,rfl,HA,dr,I,U,ac,ab,HB⟩:=hrel
            cases gk with
            |zero=>exact absurd HA.out (by simp[recoupref22_Best.l4])
            |succ k6=>
             have H:=HA.out;clear HA;simp only[recoupref22_Best.l4]at H;by_cases gn:a2<(G.length:Int)
             ·rw[if_pos gn]at H
              have c58b0:decide (a2<(G.length:Int))=true:=decide_eq_true gn;clear gn;by_cases ji:0<=a2
              case neg=>rw[if_neg ji]at H;exact absurd H zac
              rw[if_pos ji]at H
              have c59b0:decide (0<=a2)=true:=decide_eq_true ji;clear ji;obtain⟨sl,ou,H⟩:=bindO H
              (try dsimp only at H)
              by_cases jj:sl=true
              case neg=>
               replace jj:=Bool.eq_false_iff.mpr jj;subst jj;rw[if_neg nofT]at H
               have H':=aK H;clear H;have wb:=ae.out;have xi:=af.out;have wd:=X.out;have xj:=al.out;have we:=O.out;have xk:=ax.out;obtain⟨pk,pl,pm,qp,qq,qr⟩:=cell3 I
               try go_wp2
               replace I:=aK (blk_drew I.out);replace U:=aK (blk_drew U.out);replace ac:=aK (blk_drew ac.out);replace ab:=aK (blk_drew ab.out);replace HB:=aK (below_drew1 HB.out);have ey:0<=(a2:Int):=of_decide_eq_true asE;have ez:a2<(G.length:Int):=of_decide_eq_true asE;obtain⟨fw,dq,dt,ia,ba,dg,dd⟩:=at_L5 bi.out a2 ey ez;have bf:=ba;obtain rfl:aw=fw:=(by injection ia)
               replace ba:=(HB.out.cell (World.block_lt_of_cell? w _ ba)).trans ba;have ci:=aK dd;have ep:=aK dg;clear dd dg;replace ey:=eq_true ey;replace ez:=eq_true ez;refine start_ (n:=12) (S:=fun w'=>w'.cell? ⟨bd,0,none⟩=some (.slice bn a5.length bp)/\w'.cell? ⟨bd,1,none⟩=some (.slice (some aw) G.length bq)/\w'.cell? ⟨bd,2,none⟩=some (.slice bo a6.length br)/\w'.cell? ⟨L,0,none⟩=some (.int .i64 ((rd_T61 (rd_L5 G J) ag).f0))/\w'.cell? ⟨L,1,none⟩=some (.int .i64 ((rd_T61 (rd_L5 G J) Z).f0))/\w'.cell? ⟨L,2,none⟩=some (.int .u8 bm)/\w'.cell? ⟨L,3,none⟩=some (.int .i64 aa)/\w'.cell? (aw.add (a2).toNat)=some (.slice dq (rd_L5 G a2).length dt)) (ds:= []) (.replicate 12 false) zad rfl rfl (z3k I (z3k ab ⟨(blk_cell ab.out 3).trans rfl,((HB.out.cell (World.block_lt_of_cell? w _ bf)).trans bf)⟩)) (fun hHeld=>?_);refine with_tabW recoupref22_Best.tab26 recoupref22_Best.bits26 (fun HT_ HW_=>?_);generalize wr.drew=yp at I U ac ab HB ci ba hHeld⊢;refine pu 0 (some 124) (mB 12 1) HT_ ?_;refine pu 2 (some 126) (mB 12 5) HT_ ?_;refine pu 5 (some 129) (mB 12 37) HT_ ?_;refine pu 7 (some 131) (mB 12 165) HT_ ?_;refine pu 9 (some 133) (mB 12 677) HT_ ?_;refine tk8 1 (some 125) (mB 12 679) HT_ HW_ hHeld ?_;refine pu 3 (some 127) (mB 12 687) HT_ ?_;refine tk8 4 (some 128) (mB 12 703) HT_ HW_ hHeld ?_;refine tk8 6 (some 130) (mB 12 767) HT_ HW_ hHeld ?_;refine tk8 8 (some 132) (mB 12 1023) HT_ HW_ hHeld ?_;refine tk8 10 (some 134) (mB 12 2047) HT_ HW_ hHeld ?_;refine zoh 11 (some 135) (mB 12 4095) HT_ fun K hK=>?_;refine goes_ Try.func28 zad rfl #[.slice dq (rd_L5 G a2).length dt,.int .i64 ((rd_T61 (rd_L5 G J) ag).f0),.int .i64 ((rd_T61 (rd_L5 G J) Z).f0),.int .u8 bm] zae rfl rfl (by(try simp only[List.map_toArray,List.map_cons,List.map_nil]);first|done|rfl|(simp only[List.length_drop,List.length_take];rfl)) ?_;with_reducible refine(recoupref22_in.calls k6 _ _ (rd_L5 G a2) ((rd_T61 (rd_L5 G J) ag).f0) ((rd_T61 (rd_L5 G J) Z).f0) bm false _ ?side1 ?side2 ou.out).mono ?_
               (case side1=>exact kcB ci HB)
               (case side2=>exact ep.out)
               rintro e w' ⟨rfl,⟨nd,rfl⟩⟩;refine⟨_,rfl,?_⟩;refine hK.out _ _ (z3k I (z3k ab ⟨(blk_cell ab.out 3).trans rfl,((HB.out.cell (World.block_lt_of_cell? w _ bf)).trans bf)⟩)) (fun hHeld=>?_);clear hK K;refine znm (some 135) ?_;refine done_ (done_of HT_.out zad) ?_
               try go_wp2
               go_roundg k6
               case measure=>have:=b9.out;have:=bh.out;have:=cg.out;have:=ch.out;have:=dn.out;have:=dr.out;omega
               case rel=>exact⟨(wrap64 (a2+1)),(aa),rsE,H',⟨by have:=b9.out;have:=bh.out;have:=cg.out;have:=ch.out;have:=dn.out;have:=dr.out;omega⟩,⟨bkA I.out⟩,⟨bkA U.out⟩,⟨bkA ac.out⟩,⟨bkA ab.out⟩,⟨hbA HB.out⟩⟩
              subst jj;rw[if_pos rfl]at H
              have H':=aK H;clear H;have v2:=ae.out;have xd:=af.out;have v3:=X.out;have xe:=al.out;have v4:=O.out;have xf:=ax.out;obtain⟨pd,pe,pf,qi,qj,qk⟩:=cell3 I
              try go_wp2
              replace I:=aK (blk_drew I.out);replace U:=aK (blk_drew U.out);replace ac:=aK (blk_drew ac.out);replace ab:=aK (blk_drew ab.out);replace HB:=aK (below_drew1 HB.out);have ey:0<=(a2:Int):=of_decide_eq_true asE;have ez:a2<(G.length:Int):=of_decide_eq_true asE;obtain⟨fw,dq,dt,ia,ba,dg,dd⟩:=at_L5 bi.out a2 ey ez;have bf:=ba;obtain rfl:aw=fw:=(by injection ia)
              replace ba:=(HB.out.cell (World.block_lt_of_cell? w _ ba)).trans ba;have ci:=aK dd;have ep:=aK dg;clear dd dg;replace ey:=eq_true ey;replace ez:=eq_true ez;refine start_ (n:=12) (S:=fun w'=>w'.cell? ⟨bd,0,none⟩=some (.slice bn a5.length bp)/\w'.cell? ⟨bd,1,none⟩=some (.slice (some aw) G.length bq)/\w'.cell? ⟨bd,2,none⟩=some (.slice bo a6.length br)/\w'.cell? ⟨L,0,none⟩=some (.int .i64 ((rd_T61 (rd_L5 G J) ag).f0))/\w'.cell? ⟨L,1,none⟩=some (.int .i64 ((rd_T61 (rd_L5 G J) Z).f0))/\w'.cell? ⟨L,2,none⟩=some (.int .u8 bm)/\w'.cell? ⟨L,3,none⟩=some (.int .i64 aa)/\w'.cell? (aw.add (a2).toNat)=some (.slice dq (rd_L5 G a2).length dt)) (ds:= []) (.replicate 12 false) zad rfl rfl (z3k I (z3k ab ⟨(blk_cell ab.out 3).trans rfl,((HB.out.cell (World.block_lt_of_cell? w _ bf)).trans bf)⟩)) (fun hHeld=>?_);refine with_tabW recoupref22_Best.tab26 recoupref22_Best.bits26 (fun HT_ HW_=>?_);generalize wr.drew=yo at I U ac ab HB ci ba hHeld⊢;refine pu 0 (some 124) (mB 12 1) HT_ ?_;refine pu 2 (some 126) (mB 12 5) HT_ ?_;refine pu 5 (some 129) (mB 12 37) HT_ ?_;refine pu 7 (some 131) (mB 12 165) HT_ ?_;refine pu 9 (some 133) (mB 12 677) HT_ ?_;refine tk8 1 (some 125) (mB 12 679) HT_ HW_ hHeld ?_;refine pu 3 (some 127) (mB 12 687) HT_ ?_;refine tk8 4 (some 128) (mB 12 703) HT_ HW_ hHeld ?_;refine tk8 6 (some 130) (mB 12 767) HT_ HW_ hHeld ?_;refine tk8 8 (some 132) (mB 12 1023) HT_ HW_ hHeld ?_;refine tk8 10 (some 134) (mB 12 2047) HT_ HW_ hHeld ?_;refine zoh 11 (some 135) (mB 12 4095) HT_ fun K hK=>?_;refine goes_ Try.func28 zad rfl #[.slice dq (rd_L5 G a2).length dt,.int .i64 ((rd_T61 (rd_L5 G J) ag).f0),.int .i64 ((rd_T61 (rd_L5 G J) Z).f0),.int .u8 bm] zae rfl rfl (by(try simp only[List.map_toArray,List.map_cons,List.map_nil]);first|done|rfl|(simp only[List.length_drop,List.length_take];rfl)) ?_;with_reducible refine(recoupref22_in.calls k6 _ _ (rd_L5 G a2) ((rd_T61 (rd_L5 G J) ag).f0) ((rd_T61 (rd_L5 G J) Z).f0) bm true _ ?side1 ?side2 ou.out).mono ?_
              (case side1=>exact kcB ci HB)
              (case side2=>exact ep.out)
              rintro e w' ⟨rfl,⟨nd,rfl⟩⟩;refine⟨_,rfl,?_⟩;refine hK.out _ _ (z3k I (z3k ab ⟨(blk_cell ab.out 3).trans rfl,((HB.out.cell (World.block_lt_of_cell? w _ bf)).trans bf)⟩)) (fun hHeld=>?_);clear hK K;refine znm (some 135) ?_;refine done_ (done_of HT_.out zad) ?_;have v7:=a3.out;have xg:=ai.out;have wa:=a4.out;have xh:=aj.out;obtain⟨pg,ph,pi,pj,ql,qm,qn,qo⟩:=cell4 ab
              try go_wp2
              go_roundg k6
              case measure=>have:=b9.out;have:=bh.out;have:=cg.out;have:=ch.out;have:=dn.out;have:=dr.out;omega
              case rel=>exact⟨(wrap64 (a2+1)),(wrap64 (aa+1)),rsE,H',⟨by have:=b9.out;have:=bh.out;have:=cg.out;have:=ch.out;have:=dn.out;have:=dr.out;omega⟩,⟨by refine bkR ?_;refine blk_far ?_ O.out _;refine bkR ?_;exact I.out⟩,⟨by refine bkR ?_;refine blk_far ?_ ai.out _;refine bkR ?_;exact U.out⟩,⟨by refine bkR ?_;refine blk_far ?_ aj.out _;refine bkR ?_;exact ac.out⟩,⟨by refine bkR ?_;refine blk_put (cs:= #[.int .i64 ((rd_T61 (rd_L5 G J) ag).f0),.int .i64 ((rd_T61 (rd_L5 G J) Z).f0),.int .u8 bm,.int .i64 aa]) ?_ 3 _ rfl;refine bkR ?_;exact ab.out⟩,⟨hbA HB.out⟩⟩
             rw[if_neg gn]at H
             have c58b0:decide (a2<(G.length:Int))=false:=decide_eq_false gn;clear gn;by_cases gp:aa>Y
             ·rw[if_pos gp]at H
              have c75b0:decide (Y<aa)=true:=decide_eq_true gp;clear gp;have H':=aK H;clear H;have wf:=ae.out;have xl:=af.out;have wg:=X.out;have xm:=al.out;have wh:=O.out;have xn:=ax.out;obtain⟨pn,po,pp,qt,qu,qv⟩:=cell3 I;have wi:=a3.out;have xo:=ai.out;have wj:=a4.out;have xp:=aj.out;obtain⟨pq,pr,pt,pv,qw,qx,qy,qz⟩:=cell4 ab;have wk:=a9.out;have xq:=ah.out;obtain⟨pw,px,py,pz,q0,q2,q3,q4⟩:=cell4 ac;go_wp2
              go_roundg k6
              case measure=>have:=b9.out;have:=bh.out;have:=cg.out;have:=ch.out;have:=dn.out;have:=dr.out;omega
              case rel=>exact⟨(wrap64 (Z+1)),(((rd_T61 (rd_L5 G J) ag).f0)),(((rd_T61 (rd_L5 G J) Z).f0)),(bm),(aa),rsE,H',⟨by have:=b9.out;have:=bh.out;have:=cg.out;have:=ch.out;have:=dn.out;have:=dr.out;omega⟩,⟨by refine bkR ?_;refine blk_far ?_ X.out _;refine bkR ?_;refine blk_far ?_ X.out _;refine bkR ?_;refine blk_far ?_ X.out _;refine bkR ?_;refine blk_far ?_ X.out _;refine bkR ?_;exact I.out⟩,⟨by refine bkR ?_;refine blk_far ?_ ah.out _;refine bkR ?_;refine blk_far ?_ ah.out _;refine bkR ?_;refine blk_far ?_ ah.out _;refine bkR ?_;refine blk_far ?_ ah.out _;refine bkR ?_;exact U.out⟩,⟨by refine bkR ?_;refine blk_put (cs:= #[.int .i64 ((rd_T61 (rd_L5 G J) ag).f0),.int .i64 ((rd_T61 (rd_L5 G J) Z).f0),.int .u8 bm,.int .i64 Y]) ?_ 3 _ rfl;refine bkR ?_;refine blk_put (cs:= #[.int .i64 ((rd_T61 (rd_L5 G J) ag).f0),.int .i64 ((rd_T61 (rd_L5 G J) Z).f0),.int .u8 ak,.int .i64 Y]) ?_ 2 _ rfl;refine bkR ?_;refine blk_put (cs:= #[.int .i64 ((rd_T61 (rd_L5 G J) ag).f0),.int .i64 am,.int .u8 ak,.int .i64 Y]) ?_ 1 _ rfl;refine bkR ?_;refine blk_put (cs:= #[.int .i64 av,.int .i64 am,.int .u8 ak,.int .i64 Y]) ?_ 0 _ rfl;refine bkR ?_;exact ac.out⟩,⟨hbA HB.out⟩⟩
             rw[if_neg gp]at H
             have c75b0:decide (Y<aa)=false:=decide_eq_false gp;clear gp;by_cases fy:aa=Y
             case neg=>
              rw[if_neg fy]at H
              have c85b0:(aa==Y)=false:=beq_eq_false_iff_ne.mpr fy;have c85b1:(aa !=Y)=true:=bne_iff_ne.mpr fy;have H':=aK H;clear H;have tj:=ae.out;have uf:=af.out;have tk:=X.out;have ug:=al.out;have tl:=O.out;have uh:=ax.out;obtain⟨kt,ku,kv,nb,nc,ne⟩:=cell3 I;have tm:=a3.out;have ui:=ai.out;have tn:=a4.out;have uj:=aj.out;obtain⟨kw,kx,ky,kz,nf,ng,nh,ni⟩:=cell4 ab;have tp:=a9.out;have uk:=ah.out;obtain⟨k0,k2,k7,k8,nj,nk,nl,nm⟩:=cell4 ac;go_wp2
              go_roundg k6
              case measure=>have:=b9.out;have:=bh.out;have:=cg.out;have:=ch.out;have:=dn.out;have:=dr.out;omega
              case rel=>exact⟨(wrap64 (Z+1)),(av),(am),(ak),(Y),rsE,H',⟨by have:=b9.out;have:=bh.out;have:=cg.out;have:=ch.out;have:=dn.out;have:=dr.out;omega⟩,⟨bkA I.out⟩,⟨bkA U.out⟩,⟨bkA ac.out⟩,⟨hbA HB.out⟩⟩
             rw[if_pos fy]at H
             have c85b0:(aa==Y)=true:=beq_iff_eq.mpr fy;have c85b1:(aa !=Y)=false:=bne_eq_false_iff_eq.mpr fy;clear fy;by_cases gq:aa>1
             case neg=>
              rw[if_neg gq]at H
              have c86b0:decide (1<aa)=false:=decide_eq_false gq;clear gq;have H':=aK H;clear H;have td:=ae.out;have t9:=af.out;have te:=X.out;have ua:=al.out;have tf:=O.out;have ub:=ax.out;obtain⟨kf,kg,ki,m0,m1,m2⟩:=cell3 I;have tg:=a3.out;have uc:=ai.out;have th:=a4.out;have ud:=aj.out;obtain⟨kj,kk,km,kn,m3,m4,m5,m6⟩:=cell4 ab;have ti:=a9.out;have ue:=ah.out;obtain⟨ko,kp,kr,ks,m7,m8,m9,na⟩:=cell4 ac;go_wp2
              go_roundg k6
              case measure=>have:=b9.out;have:=bh.out;have:=cg.out;have:=ch.out;have:=dn.out;have:=dr.out;omega
              case rel=>exact⟨(wrap64 (Z+1)),(av),(am),(ak),(Y),rsE,H',⟨by have:=b9.out;have:=bh.out;have:=cg.out;have:=ch.out;have:=dn.out;have:=dr.out;omega⟩,⟨bkA I.out⟩,⟨bkA U.out⟩,⟨bkA ac.out⟩,⟨hbA HB.out⟩⟩
             rw[if_pos gq]at H
             have c86b0:decide (1<aa)=true:=decide_eq_true gq;clear gq;obtain⟨sm,ov,H⟩:=bindO H
             (try dsimp only at H)
             by_cases jk:sm=true
             ·subst jk;rw[if_pos rfl]at H
              have H':=aK H;clear H;have wl:=ae.out;have xr:=af.out;have wm:=X.out;have xt:=al.out;have wn:=O.out;have xu:=ax.out;obtain⟨p0,p3,p4,q5,q6,q7⟩:=cell3 I;have wo:=a3.out;have xv:=ai.out;have wp:=a4.out;have xw:=aj.out;obtain⟨p5,p7,p8,p9,q8,q9,ra,rb⟩:=cell4 ab;have wq:=a9.out;have xx:=ah.out;obtain⟨qa,qb,qc,qd,rc,re,rf,rg⟩:=cell4 ac
              go_wp2_with (first|(go_at_call 29;(with_reducible refine(recoupref22_less.calls ((rd_T61 (rd_L5 G J) ag).f0) ((rd_T61 (rd_L5 G J) Z).f0) bm aa av am ak Y true _ ov.out).mono ?_);rintro e yq ⟨rfl,hb⟩;replace I:=bkB I hb;replace U:=bkB U hb;replace ac:=bkB ac hb;replace ab:=bkB ab hb;replace HB:=hbB HB hb;(try clear hb);obtain⟨qe,qf,qg,qh,rh,ri,rj,rk⟩:=cell4 ab;obtain⟨jz,j0,j2,j3,mi,mj,ml,mm⟩:=cell4 ac))
              go_roundg k6
              case measure=>have:=b9.out;have:=bh.out;have:=cg.out;have:=ch.out;have:=dn.out;have:=dr.out;omega
              case rel=>exact⟨(wrap64 (Z+1)),(((rd_T61 (rd_L5 G J) ag).f0)),(((rd_T61 (rd_L5 G J) Z).f0)),(bm),(aa),rsE,H',⟨by have:=b9.out;have:=bh.out;have:=cg.out;have:=ch.out;have:=dn.out;have:=dr.out;omega⟩,⟨by refine bkR ?_;refine blk_far ?_ X.out _;refine bkR ?_;refine blk_far ?_ X.out _;refine bkR ?_;refine blk_far ?_ X.out _;refine bkR ?_;refine blk_far ?_ X.out _;refine bkR ?_;exact I.out⟩,⟨by refine bkR ?_;refine blk_far ?_ ah.out _;refine bkR ?_;refine blk_far ?_ ah.out _;refine bkR ?_;refine blk_far ?_ ah.out _;refine bkR ?_;refine blk_far ?_ ah.out _;refine bkR ?_;exact U.out⟩,⟨by refine bkR ?_;refine blk_put (cs:= #[.int .i64 ((rd_T61 (rd_L5 G J) ag).f0),.int .i64 ((rd_T61 (rd_L5 G J) Z).f0),.int .u8 bm,.int .i64 Y]) ?_ 3 _ rfl;refine bkR ?_;refine blk_put (cs:= #[.int .i64 ((rd_T61 (rd_L5 G J) ag).f0),.int .i64 ((rd_T61 (rd_L5 G J) Z).f0),.int .u8 ak,.int .i64 Y]) ?_ 2 _ rfl;refine bkR ?_;refine blk_put (cs:= #[.int .i64 ((rd_T61 (rd_L5 G J) ag).f0),.int .i64 am,.int .u8 ak,.int .i64 Y]) ?_ 1 _ rfl;refine bkR ?_;refine blk_put (cs:= #[.int .i64 av,.int .i64 am,.int .u8 ak,.int .i64 Y]) ?_ 0 _ rfl;refine bkR ?_;exact ac.out⟩,⟨hbA HB.out⟩⟩
             replace jk:=Bool.eq_false_iff.mpr jk;subst jk;rw[if_neg nofT]at H
             have H':=aK H;clear H;have sw:=ae.out;have t3:=af.out;have sx:=X.out;have t4:=al.out;have sy:=O.out;have t5:=ax.out;obtain⟨j4,j5,j6,mo,mp,mq⟩:=cell3 I;have ta:=a3.out;have t6:=ai.out;have tb:=a4.out;have t7:=aj.out;obtain⟨j7,j8,j9,ka,mr,ms,mt,mu⟩:=cell4 ab;have tc:=a9.out;have t8:=ah.out;obtain⟨kb,kc,kd,ke,mv,mw,my,mz⟩:=cell4 ac
             go_wp2_with (first|(go_at_call 29;(with_reducible refine(recoupref22_less.calls ((rd_T61 (rd_L5 G J) ag).f0) ((rd_T61 (rd_L5 G J) Z).f0) bm aa av am ak Y false _ ov.out).mono ?_);rintro e ya ⟨rfl,hb⟩;replace I:=bkB I hb;replace U:=bkB U hb;replace ac:=bkB ac hb;replace ab:=bkB ab hb;replace HB:=hbB HB hb;(try clear hb)))
             go_roundg k6
             case measure=>have:=b9.out;have:=bh.out;have:=cg.out;have:=ch.out;have:=dn.out;have:=dr.out;omega
             case rel=>exact⟨(wrap64 (Z+1)),(av),(am),(ak),(Y),rsE,H',⟨by have:=b9.out;have:=bh.out;have:=cg.out;have:=ch.out;have:=dn.out;have:=dr.out;omega⟩,⟨bkA I.out⟩,⟨bkA U.out⟩,⟨bkA ac.out⟩,⟨hbA HB.out⟩⟩
def recoupref21_Copy.l0:Nat->List (List (S61))->Int->List Int->List (List (S61))->List Int->Option (List Int×(List (List (S61)))×List Int)
 |0,_,_,_,_,_=>none
 |k+1,x3,x4,G,D,I=>if x4<(D.length:Int)then((some (([]:List (S61)):List (S61))).bind fun J=>(if 0<=x4 then(if J.length+(rd_L5 D x4).length<8796093022208 then(if x3.length<5864062014805 then(recoupref21_Copy.l0 k (x3++ [(J++(rd_L5 D x4))]) (wrap64 (x4+1)) G D I)else(none))else(none))else(none)))else((some (([]:List Int):List Int)).bind fun L=>(if L.length+G.length<17592186044416 then((some (([]:List Int):List Int)).bind fun O=>(if O.length+I.length<17592186044416 then(some ((L++G),x3,(O++I)))else(none)))else(none)))
def recoupref21_Copy.f(k:Nat)(D:List Int)(G:List (List (S61)))(I:List Int):Option (List Int×(List (List (S61)))×List Int):=recoupref21_Copy.l0 k ([]:List (List (S61))) 0 D G I
theorem recoupref21_Copy.mono_l: ∀k,(∀y0 y1 y2 y3 y4,LeO (recoupref21_Copy.l0 k y0 y1 y2 y3 y4) (recoupref21_Copy.l0 (k+1) y0 y1 y2 y3 y4))
 |0=>fun _ _ _ _ _ r h=>by simp[recoupref21_Copy.l0]at h
 |k+1=>by
  have D:=recoupref21_Copy.mono_l k
  ·intro y0 y1 y2 y3 y4;unfold recoupref21_Copy.l0
   with_reducible repeat' first|exact D _ _ _ _ _|exact LeO.refl _|exact LeO.none _|refine LeO.ite ?_ ?_|refine LeO.bind ?_ (fun _=>?_)
theorem recoupref21_Copy.mono: ∀a0 a1 a2 k,LeO (recoupref21_Copy.f k a0 a1 a2) (recoupref21_Copy.f (k+1) a0 a1 a2):=by
 intro a0 a1 a2 k;have D:=recoupref21_Copy.mono_l k;unfold recoupref21_Copy.f
 with_reducible repeat' first|exact D _ _ _ _ _|exact LeO.refl _|exact LeO.none _|refine LeO.ite ?_ ?_|refine LeO.bind ?_ (fun _=>?_)
def recoupref21_Copy.T6:Bool×List (List Nat×List Nat):=(true,[([],[]),([],[]),([1],[1]),([0,2],[0,2]),([],[]),([],[]),([],[]),([6],[6]),([5,7,3],[5,7]),([3,4,8],[3,4,8]),([9,8,0,1,2,3,4,5,6,7,8,9],[9])])
def recoupref21_Copy.B6:List Nat:= [0,0,2,7,0,0,0,64,239,511,1023]
theorem recoupref21_Copy.tab6:rtab .any (opsOf Try.f21 6)=recoupref21_Copy.T6:=by kernel_rfl
theorem recoupref21_Copy.bits6:waitsOk recoupref21_Copy.T6.2 recoupref21_Copy.B6=true:=by kernel_rfl
theorem recoupref21_Copy.calls(k:Nat)(ae:Option Addr)(ah:Nat)(U:List Int)(ak:Option Addr)(ai:Nat)(L:List (List (S61)))(af:Option Addr)(aj:Nat)(O:List Int)(r1:List Int)(r2:List (List (S61)))(r3:List Int)(w:World)(bw:Kd.C (Kd.int .i64) w ae U.length U)(bs:U.length<=ah)(bx:Kd.C (Kd.slice 61 k61) w ak L.length L)(bu:L.length<=ai)(bz:Kd.C (Kd.int .i64) w af O.length O)(bv:O.length<=aj)(h:recoupref21_Copy.f k U L O=some (r1,r2,r3)):
 Calls Try.prog 21 #[.agg #[.slice ae U.length ah,.slice ak L.length ai,.slice af O.length aj]] w fun e w'=> ∃v0_ v1_ v2_:Value,e= .returned (.agg #[v0_,v1_,v2_])/\Kd.R (Kd.int .i64) 3 w' w.heap.size (fun k_=>some k_≠(v2_:Value).ownBlock) v0_ r1/\Kd.S (Kd.slice 61 k61) 59 w' w.heap.size (fun _=>True) v1_ r2/\Kd.R (Kd.int .i64) 3 w' w.heap.size (fun k_=>some k_≠(v0_:Value).ownBlock) v2_ r3/\Below w.heap.size w w':=by
 have ea:=Try.underlying25;have bj:=aK bw;have dv:=aK bs;clear bw bs;have cb:=aK bx;have dw:=aK bu;clear bx bu;have cd:=aK bz;have dx:=aK bv;clear bz bv;have HB:=aK (Below.refl w.heap.size w);have H:(recoupref21_Copy.l0 k ([]:List (List (S61))) 0 U L O)=some (r1,r2,r3):=h;clear h;have H':=aK H;clear H
 go_enter Try.func21,Try.ntmps21
 go_wp2_with (first|((with_reducible refine gD 1 rfl ?_);refine bE 1 #[.slice ae U.length ah,.slice ak L.length ai,.slice af O.length aj] 25 ?_;intro Z hg w2 hbox hb;have D:=aK (hbox);have dt:=hbS HB hg;have dq:=hbS HB hg;replace HB:=hbB HB hb;clear hb hbox hg)|((with_reducible refine gD 2 rfl ?_);refine bE 2 #[.slice none 0 0,.slice none 0 0,.slice none 0 0] 25 ?_;intro I hg w3 hbox hb;have G:=aK (hbox);have du:=hbS HB hg;have dr:=hbS HB hg;replace HB:=hbB HB hb;have J:=neL D hg;have ag:=neG D hg;replace D:=bkB D hb;clear hb hbox hg))
 go_loopg [3,4] k (fun kq v3 v4 w'=> ∃(aa:List (List (S61))) (ab:Int),v4= .int .i64 ab/\Aside0 (recoupref21_Copy.l0 kq aa ab U L O=some (r1,r2,r3))/\Aside0 (kq<=k)/\Aside0 (Kd.S (Kd.slice 61 k61) 59 w' w.heap.size (fun _=>True) v3 aa)/\Aside0 (w'.heap[Z]? =some (.cells #[(.slice ae U.length ah),(.slice ak L.length ai),(.slice af O.length aj)] 25 (0,0)))/\Aside0 (w'.heap[I]? =some (.cells #[(.slice none 0 0),(.slice none 0 0),(.slice none 0 0)] 25 (0,0)))/\Aside0 (Below w.heap.size w w'))
 case atStart=>exact⟨(([]:List (List (S61)))),(0),rsE,H',⟨Nat.le_refl _⟩,⟨by first|exact Kd.S_nil _ _ _ _ _|exact Kd.N_nil _ _ _ _ _|exact Kd.V_nil _ _ _ _ _|exact Kd.Q_nil _ _ _ _ _|exact Kd.R_nil _ _ _ _ _⟩,⟨bkA D.out⟩,⟨bkA G.out⟩,⟨hbA HB.out⟩⟩
 case round=>
  clear H'
  (try clear c2);(try clear p2)
  obtain⟨aa,ab,rfl,HA,ck,HO_3,D,G,HB⟩:=hrel
  cases gk with
  |zero=>exact absurd HA.out (by simp[recoupref21_Copy.l0])
  |succ k1=>
   have H:=HA.out;clear HA;simp only[recoupref21_Copy.l0]at H;by_cases c4:ab<(L.length:Int)
   ·rw[if_pos c4]at H
    have c4b0:decide (ab<(L.length:Int))=true:=decide_eq_true c4;clear c4;obtain⟨bg,aw⟩: ∃y_:List (S61),y_=(([]:List (S61))):=⟨_,rfl⟩
    replace H:(if 0<=ab then(if bg.length+(rd_L5 L ab).length<8796093022208 then(if aa.length<5864062014805 then(recoupref21_Copy.l0 k1 (aa++ [(bg++(rd_L5 L ab))]) (wrap64 (ab+1)) U L O)else(none))else(none))else(none))=some (r1,r2,r3):=zH aw H
    have bq:=aK aw;clear aw;by_cases c5:0<=ab
    case neg=>rw[if_neg c5]at H;exact absurd H zac
    rw[if_pos c5]at H
    have c5b0:decide (0<=ab)=true:=decide_eq_true c5;clear c5;by_cases c6:bg.length+(rd_L5 L ab).length<8796093022208
    case neg=>rw[if_neg c6]at H;exact absurd H zac
    rw[if_pos c6]at H
    have cl:=aK c6;clear c6;obtain⟨bh,ax⟩: ∃y_:List (S61),y_=(bg++(rd_L5 L ab)):=⟨_,rfl⟩
    replace H:(if aa.length<5864062014805 then(recoupref21_Copy.l0 k1 (aa++ [bh]) (wrap64 (ab+1)) U L O)else(none))=some (r1,r2,r3):=zH ax H
    have cf:=aK ax;clear ax;by_cases c7:aa.length<5864062014805
    case neg=>rw[if_neg c7]at H;exact absurd H zac
    rw[if_pos c7]at H
    have cm:=aK c7;clear c7;obtain⟨b9,ay⟩: ∃y_:List (List (S61)),y_=(aa++ [bh]):=⟨_,rfl⟩
    replace H:(recoupref21_Copy.l0 k1 b9 (wrap64 (ab+1)) U L O)=some (r1,r2,r3):=zH ay H
    have cg:=aK ay;clear ay;have H':=aK H;clear H;have d5:=J.out;have d6:=ag.out;obtain⟨dj,dk,dl,dm,dn,dp⟩:=cell3 D
    go_wp2_with (first|((with_reducible refine gate_dst (N:=13) rfl ?_);refine Kd.R_lit k61 _ 61 ?hg (N:=13) ?hd (xs:=([]:List (S61))) (inner:= []) (ok:=fun _=>True) (okp:=fun _=>True) ?hr ?hp (fun _ hk=>hk) trivial (Below.refl _ _) (Nat.le_refl _) zac ?_;(case hd=>rfl);(case hg=>rfl);(case hr=>first|(go_simp;done)|(go_simp;rfl));(case hp=>exact(Reps.none _ _));intro df ee a6 hb hg_ hnew_;clear hg_ hnew_;(first|rw[<-bq.out]at a6|(simp only[Int.reduceToNat]at a6;rw[<-bq.out]at a6));replace HO_3:=aK (Kd.S_elder' (by(with_reducible repeat(first|apply Kd.S_alloc|apply Kd.S_drewN|apply Kd.S_drew));exact HO_3.out) (Kd.R_base a6) hb);have a8:=aK (Kd.R_lower a6 (below_size (hbA HB.out)));replace D:=bkB D hb;replace G:=bkB G hb;replace HB:=hbB HB hb;clear hb a6;obtain⟨cp,cq,cr,cw,cx,cy⟩:=cell3 D;have b0:0<=(ab:Int):=of_decide_eq_true asE;have b1:ab<(L.length:Int):=of_decide_eq_true asE;obtain⟨br,dh,di,cn,av,bf,be⟩:=at_L5 cb.out ab b0 b1;cases cn;replace av:=(HB.out.cell (World.block_lt_of_cell? w _ av)).trans av;have bp:=aK be;have cj:=aK bf;clear be bf;replace b0:=eq_true b0;replace b1:=eq_true b1)|((with_reducible refine gate_builtin (b:= .append) (xs:= #[.tmp 13,.tmp 18]) rfl ?_);at_builtin;refine Kd.R_append_rows k61 (w0:=w) w.heap.size rfl (.tmp 13) (.tmp 18) 59 61 (.agg #[(.int .i64 0),(.int .u8 0)]) 16 rfl Try.underlying59 info61 rfl zab zaa df bg (rd_L5 L ab) _ _ _ (fun _=>True) (fun _=>False) rfl rfl ?aO ?aR (fun _ _ h=>h) (fun _ h=>h.elim) ?aF ?aB ?aS ?aL ?_;(case aR=>exact kcB bp HB);(case aB=>exact(hbA HB.out));(case aF=>exact(fun _ _=>trivial));(case aO=>exact(kdA a8.out));(case aS=>exact(below_size (hbA HB.out)));(case aL=>have:=cl.out;omega);intro eb ef ho hb hg hat;rw[<-cf.out]at ho;have n0_:=aK (Kd.S_after (ok:=(fun _=>True)) (by(with_reducible repeat(first|apply Kd.S_alloc|apply Kd.S_drewN|apply Kd.S_drew));exact HO_3.out) hg hat);have n1_:=aK (blk_grown (g:=Z) (o:= .cells #[.slice ae U.length ah,.slice (some br) L.length ai,.slice af O.length aj] 25 (0,0)) (bkA D.out) hg (Kd.R_ne a8.out D.out zab));have n2_:=aK (blk_grown (g:=I) (o:= .cells #[.slice none 0 0,.slice none 0 0,.slice none 0 0] 25 (0,0)) (bkA G.out) hg (Kd.R_ne a8.out G.out zab));have n3_:=aK (hb);have n4_:=aK (ho);clear HO_3;clear D;clear G;clear HB;clear a8;have HO_3:=n0_;have D:=n1_;have G:=n2_;have HB:=n3_;have a9:=n4_;clear n0_ n1_ n2_ n3_ n4_;clear ho hb hg hat;obtain⟨b4,b5,co⟩:=Kd.R_slice a9.out;subst co)|((with_reducible refine gate_builtin (b:= .append) (xs:= #[.tmp 12,.tmp 20]) rfl ?_);at_builtin;refine Kd.S_append (Kd.slice 61 k61) (w0:=w) w.heap.size rfl (.tmp 12) (.tmp 20) 23 59 (.slice none 0 0) 24 rfl Try.underlying23 info59 rfl zab zaa u3 aa bh [.slice b4 bh.length b5] (fun _=>True) (fun k_=>some k_=(.slice b4 bh.length b5:Value).ownBlock) rfl rfl ?aP (fun k_ hk_=>((Kd.R_mono (ok':=fun k_=>((fun _=>True)) k_/\some k_≠(u3:Value).ownBlock) (Kd.R_apart' (a9.out) (Kd.S_typed HO_3.out) zab) (fun k_ hk=>⟨trivial,hk.2⟩))).1 k_ hk_.symm) ?aF ?aO ?aB ?aS ?aL ?_;(case aP=>exact Kd.M_row (Kd.R_mono (Kd.R_tight rfl (Kd.R_mono (ok':=fun k_=>((fun _=>True)) k_/\some k_≠(u3:Value).ownBlock) (Kd.R_apart' (a9.out) (Kd.S_typed HO_3.out) zab) (fun k_ hk=>⟨trivial,hk.2⟩))) (fun _ h_=>h_)));(case aB=>exact(hbA HB.out));(case aF=>exact(fun _ _=>trivial));(case aO=>exact(by(with_reducible repeat(first|apply Kd.S_alloc|apply Kd.S_drewN|apply Kd.S_drew));exact Kd.S_mono HO_3.out (fun k_ hk=>⟨trivial,fun e_=>hk.2 e_⟩)));(case aS=>exact(below_size (hbA HB.out)));(case aL=>have:=cm.out;omega);intro ec eg ho hb hg hat;rw[<-cg.out]at ho;have n0_:=aK (blk_grown (g:=Z) (o:= .cells #[.slice ae U.length ah,.slice (some br) L.length ai,.slice af O.length aj] 25 (0,0)) (bkA D.out) hg (Kd.S_ne HO_3.out D.out zab));have n1_:=aK (blk_grown (g:=I) (o:= .cells #[.slice none 0 0,.slice none 0 0,.slice none 0 0] 25 (0,0)) (bkA G.out) hg (Kd.S_ne HO_3.out G.out zab));have n2_:=aK (hb);have n3_:=aK (ho);clear D;clear G;clear HB;clear HO_3;clear a9;have D:=n0_;have G:=n1_;have HB:=n2_;have ca:=n3_;clear n0_ n1_ n2_ n3_;clear ho hb hg hat))
    go_roundg k1
    case measure=>have:=ck.out;omega
    case rel=>exact⟨(b9),(wrap64 (ab+1)),rsE,H',⟨by have:=ck.out;omega⟩,⟨by(with_reducible repeat(first|apply Kd.S_alloc|apply Kd.S_drewN|apply Kd.S_drew));exact ca.out⟩,⟨bkA D.out⟩,⟨bkA G.out⟩,⟨hbA HB.out⟩⟩
   rw[if_neg c4]at H
   have c4b0:decide (ab<(L.length:Int))=false:=decide_eq_false c4;clear c4;obtain⟨a3,az⟩: ∃y_:List Int,y_=(([]:List Int)):=⟨_,rfl⟩
   replace H:(if a3.length+U.length<17592186044416 then((some (([]:List Int):List Int)).bind fun am=>(if am.length+O.length<17592186044416 then(some ((a3++U),aa,(am++O)))else(none)))else(none))=some (r1,r2,r3):=zH az H
   have ba:=aK az;clear az;by_cases b2:a3.length+U.length<17592186044416
   case neg=>rw[if_neg b2]at H;exact absurd H zac
   rw[if_pos b2]at H
   have bk:=aK b2;clear b2;obtain⟨ap,a0⟩: ∃y_:List Int,y_=(a3++U):=⟨_,rfl⟩
   replace H:((some (([]:List Int):List Int)).bind fun am=>(if am.length+O.length<17592186044416 then(some (ap,aa,(am++O)))else(none)))=some (r1,r2,r3):=zH a0 H
   have bl:=aK a0;clear a0;obtain⟨am,a1⟩: ∃y_:List Int,y_=(([]:List Int)):=⟨_,rfl⟩
   replace H:(if am.length+O.length<17592186044416 then(some (ap,aa,(am++O)))else(none))=some (r1,r2,r3):=zH a1 H
   have ar:=aK a1;clear a1;by_cases b3:am.length+O.length<17592186044416
   case neg=>rw[if_neg b3]at H;exact absurd H zac
   rw[if_pos b3]at H
   have ce:=aK b3;clear b3;obtain⟨bi,a2⟩: ∃y_:List Int,y_=(am++O):=⟨_,rfl⟩
   replace H:(some (ap,aa,bi))=some (r1,r2,r3):=zH a2 H
   have ch:=aK a2;clear a2;obtain⟨rfl,rfl,rfl⟩:=zP3 H;have d1:=J.out;have d2:=ag.out;obtain⟨ct,cu,cv,cz,c3,c8⟩:=cell3 D
   try go_wp2
   replace HO_3:=aK (Kd.S_drew HO_3.out);replace D:=aK (blk_drew D.out);replace G:=aK (blk_drew G.out);replace HB:=aK (below_drew1 HB.out);refine start_ (n:=11) (S:=fun w'=>w'.cell? ⟨Z,0,none⟩=some (.slice ae U.length ah)/\w'.cell? ⟨Z,1,none⟩=some (.slice ak L.length ai)/\w'.cell? ⟨Z,2,none⟩=some (.slice af O.length aj)) (ds:= []) (.replicate 11 false) zad rfl rfl (z3c D) (fun hHeld=>?_);refine with_tabW recoupref21_Copy.tab6 recoupref21_Copy.bits6 (fun HT_ HW_=>?_);generalize wr.drew=eh at HO_3 D G HB hHeld⊢;refine pu 1 (some 23) (mB 11 2) HT_ ?_;refine pu 4 (some 26) (mB 11 18) HT_ ?_;refine pu 6 (some 28) (mB 11 82) HT_ ?_;refine tk3 2 (some 24) (mB 11 86) HT_ HW_ hHeld ?_;refine tk3 7 (some 29) (mB 11 214) HT_ HW_ hHeld ?_;refine join_ (σ:=Value×Value×Value) 3 (mB 11 255) (fun s_=> [(22,s_.1),(25,s_.2.1),(27,s_.2.2)]) (fun s_ w'=>(w'.cell? ⟨Z,0,none⟩=some (.slice ae U.length ah)/\w'.cell? ⟨Z,1,none⟩=some (.slice ak L.length ai)/\w'.cell? ⟨Z,2,none⟩=some (.slice af O.length aj))/\(Kd.R (Kd.int .i64) 3 w' w.heap.size (fun k_=>some k_≠(s_.2.2:Value).ownBlock) s_.2.1 ap)/\(Kd.R (Kd.int .i64) 3 w' w.heap.size (fun k_=>some k_≠(s_.2.1:Value).ownBlock) s_.2.2 am)/\(Kd.S (Kd.slice 61 k61) 59 w' w.heap.size (fun _=>True) u3 aa)/\(w'.heap[Z]? =some (.cells #[.slice ae U.length ah,.slice ak L.length ai,.slice af O.length aj] 25 (0,0)))/\(w'.heap[I]? =some (.cells #[.slice none 0 0,.slice none 0 0,.slice none 0 0] 25 (0,0)))/\(Below w.heap.size w w')) ?_ ?_;rotate_left
   ·intro hCont;refine two_ (i:=0) (j:=5) (Ni:=some 22) (Nj:=some 27) (mB 11 215) (mB 11 246) rfl rfl rfl rfl (two_of HT_.out zad) zab zab (fun K hK=>?_) (fun K hK=>?_)
    ·skip
     refine Kd.R_lit_step (Kd.int .i64) _ 3 ?hg (N:=22) ?hd (xs:=([]:List Int)) (inner:= []) (ok:=fun _=>True) (okp:=fun _=>True) ?hr ?hp (fun _ hk=>hk) trivial (Below.refl _ _) (Nat.le_refl _) zac ?_;(case hd=>rfl);(case hg=>rfl);(case hr=>first|(go_simp;done)|(go_simp;rfl));(case hp=>exact(Reps.none _ _))
     intro au d3 an hb hg_ hnew_;clear hg_ hnew_
     (first|rw[<-ba.out]at an|(simp only[Int.reduceToNat]at an;rw[<-ba.out]at an))
     replace HO_3:=aK (Kd.S_below (by(with_reducible repeat(first|apply Kd.S_alloc|apply Kd.S_drewN|apply Kd.S_drew));exact HO_3.out) hb);have Y:=aK (Kd.R_lower an (below_size (hbA HB.out)));replace D:=bkB D hb;replace G:=bkB G hb;replace HB:=hbB HB hb;clear hb an;refine hK.out _ _ (z3c D) (fun hHeld=>?_);clear hK K;refine znm (some 22) ?_;refine two_ (i:=3) (j:=5) (Ni:=some 25) (Nj:=some 27) (mB 11 223) (mB 11 247) rfl rfl rfl rfl (two_of HT_.out zad) zab zab (fun K hK=>?_) (fun K hK=>?_)
     ·skip
      refine Kd.R_append_rows_step (Kd.int .i64) (w0:=w) w.heap.size zae (.tmp 22) (.tmp 24) 22 3 (.int .i64 0) 8 rfl Try.underlying22 info3 rfl zab zaa au a3 U _ _ _ (fun _=>True) (fun _=>False) rfl rfl ?aO ?aR (fun _ _ h=>h) (fun _ h=>h.elim) ?aF ?aB ?aS ?aL ?_
      (case aR=>exact kcB bj HB)
      (case aB=>exact(hbA HB.out))
      (case aF=>exact(fun _ _=>trivial))
      (case aO=>exact(kdA Y.out))
      (case aS=>exact(below_size (hbA HB.out)))
      (case aL=>have:=bk.out;omega)
      intro aq dg ho hb hg hat;rw[<-bl.out]at ho
      have n0_:=aK (Kd.S_over' (by(with_reducible repeat(first|apply Kd.S_alloc|apply Kd.S_drewN|apply Kd.S_drew));exact HO_3.out) (Kd.R_typed (kdA Y.out)) zab hg);have n1_:=aK (blk_grown (g:=Z) (o:= .cells #[.slice ae U.length ah,.slice ak L.length ai,.slice af O.length aj] 25 (0,0)) (bkA D.out) hg (Kd.R_ne Y.out D.out zab));have n2_:=aK (blk_grown (g:=I) (o:= .cells #[.slice none 0 0,.slice none 0 0,.slice none 0 0] 25 (0,0)) (bkA G.out) hg (Kd.R_ne Y.out G.out zab));have n3_:=aK (hb);have n4_:=aK (ho);clear HO_3;clear D;clear G;clear HB;clear Y;have HO_3:=n0_;have D:=n1_;have G:=n2_;have HB:=n3_;have ac:=n4_;clear n0_ n1_ n2_ n3_ n4_;clear ho hb hg hat;refine hK.out _ _ (z3c D) (fun hHeld=>?_);clear hK K;refine znm (some 25) ?_;refine zoh 5 (some 27) (mB 11 255) HT_ fun K hK=>?_;refine Kd.R_lit_step (Kd.int .i64) _ 3 ?hg (N:=27) ?hd (xs:=([]:List Int)) (inner:= []) (ok:=fun _=>True) (okp:=fun _=>True) ?hr ?hp (fun _ hk=>hk) trivial (Below.refl _ _) (Nat.le_refl _) zac ?_;(case hd=>rfl);(case hg=>rfl);(case hr=>first|(go_simp;done)|(go_simp;rfl));(case hp=>exact(Reps.none _ _))
      intro ao ei a7 hb hg_ hnew_;clear hg_ hnew_
      (first|rw[<-ar.out]at a7|(simp only[Int.reduceToNat]at a7;rw[<-ar.out]at a7))
      replace HO_3:=aK (Kd.S_below (by(with_reducible repeat(first|apply Kd.S_alloc|apply Kd.S_drewN|apply Kd.S_drew));exact HO_3.out) hb);have X:=aK (Kd.R_lower (Kd.R_new' a7 (Kd.R_lt (kdA ac.out))) (below_size (hbA HB.out)));replace ac:=aK (Kd.R_elder' (kdA ac.out) (Kd.R_base a7) hb);replace D:=bkB D hb;replace G:=bkB G hb;replace HB:=hbB HB hb;clear hb a7;refine hK.out _ _ (z3c D) (fun hHeld=>?_);clear hK K;refine znm (some 27) ?_;exact norm_ zat (hCont (au,aq,ao) _ ⟨hHeld,(by(with_reducible repeat(first|apply Kd.R_alloc|apply Kd.R_drewN|apply Kd.R_drew));exact Kd.R_mono ac.out (fun _ hk=>hk.2)),(by(with_reducible repeat(first|apply Kd.R_alloc|apply Kd.R_drewN|apply Kd.R_drew));exact Kd.R_mono X.out (fun _ hk=>hk.2)),(by(with_reducible repeat(first|apply Kd.S_alloc|apply Kd.S_drewN|apply Kd.S_drew));exact HO_3.out),(bkA D.out),(bkA G.out),(hbA HB.out)⟩)
     ·skip
      refine Kd.R_lit_step (Kd.int .i64) _ 3 ?hg (N:=27) ?hd (xs:=([]:List Int)) (inner:= []) (ok:=fun _=>True) (okp:=fun _=>True) ?hr ?hp (fun _ hk=>hk) trivial (Below.refl _ _) (Nat.le_refl _) zac ?_;(case hd=>rfl);(case hg=>rfl);(case hr=>first|(go_simp;done)|(go_simp;rfl));(case hp=>exact(Reps.none _ _))
      intro ao dg al hb hg_ hnew_;clear hg_ hnew_
      (first|rw[<-ar.out]at al|(simp only[Int.reduceToNat]at al;rw[<-ar.out]at al))
      replace HO_3:=aK (Kd.S_below (by(with_reducible repeat(first|apply Kd.S_alloc|apply Kd.S_drewN|apply Kd.S_drew));exact HO_3.out) hb);have X:=aK (Kd.R_lower (Kd.R_new' al (Kd.R_lt (kdA Y.out))) (below_size (hbA HB.out)));replace Y:=aK (Kd.R_elder' (kdA Y.out) (Kd.R_base al) hb);replace D:=bkB D hb;replace G:=bkB G hb;replace HB:=hbB HB hb;clear hb al;refine hK.out _ _ (z3c D) (fun hHeld=>?_);clear hK K;refine znm (some 27) ?_;refine zoh 3 (some 25) (mB 11 255) HT_ fun K hK=>?_;refine Kd.R_append_rows_step (Kd.int .i64) (w0:=w) w.heap.size zae (.tmp 22) (.tmp 24) 22 3 (.int .i64 0) 8 rfl Try.underlying22 info3 rfl zab zaa au a3 U _ _ _ (fun k_=>some k_≠(ao:Value).ownBlock) (fun _=>False) rfl rfl ?aO ?aR (fun _ _ h=>h) (fun _ h=>h.elim) ?aF ?aB ?aS ?aL ?_
      (case aR=>exact kcB bj HB)
      (case aB=>exact(hbA HB.out))
      (case aF=>exact(fun k_ hk=>Kd.fresh' (Kd.R_lt (kdA X.out)) k_ hk))
      (case aO=>exact(by(with_reducible repeat(first|apply Kd.R_alloc|apply Kd.R_drewN|apply Kd.R_drew));exact Kd.R_mono Y.out (fun _ hk=>hk.2)))
      (case aS=>exact(below_size (hbA HB.out)))
      (case aL=>have:=bk.out;omega)
      intro aq d4 ho hb hg hat;rw[<-bl.out]at ho
      have n0_:=aK (Kd.S_over' (by(with_reducible repeat(first|apply Kd.S_alloc|apply Kd.S_drewN|apply Kd.S_drew));exact HO_3.out) (Kd.R_typed (kdA Y.out)) zab hg);have n1_:=aK (blk_grown (g:=Z) (o:= .cells #[.slice ae U.length ah,.slice ak L.length ai,.slice af O.length aj] 25 (0,0)) (bkA D.out) hg (Kd.R_ne Y.out D.out zab));have n2_:=aK (blk_grown (g:=I) (o:= .cells #[.slice none 0 0,.slice none 0 0,.slice none 0 0] 25 (0,0)) (bkA G.out) hg (Kd.R_ne Y.out G.out zab));have n3_:=aK (Kd.R_after (ok:=(fun _=>True)) (kdA X.out) hg hat);have n4_:=aK (hb);have n5_:=aK (ho);clear HO_3;clear D;clear G;clear X;clear HB;clear Y;have HO_3:=n0_;have D:=n1_;have G:=n2_;have X:=n3_;have HB:=n4_;have ac:=n5_;clear n0_ n1_ n2_ n3_ n4_ n5_;clear ho hb hg hat;refine hK.out _ _ (z3c D) (fun hHeld=>?_);clear hK K;refine znm (some 25) ?_;exact norm_ zat (hCont (au,aq,ao) _ ⟨hHeld,(kdA ac.out),(by(with_reducible repeat(first|apply Kd.R_alloc|apply Kd.R_drewN|apply Kd.R_drew));exact Kd.R_mono X.out (fun _ hk=>hk.2)),(by(with_reducible repeat(first|apply Kd.S_alloc|apply Kd.S_drewN|apply Kd.S_drew));exact HO_3.out),(bkA D.out),(bkA G.out),(hbA HB.out)⟩)
    ·skip
     refine Kd.R_lit_step (Kd.int .i64) _ 3 ?hg (N:=27) ?hd (xs:=([]:List Int)) (inner:= []) (ok:=fun _=>True) (okp:=fun _=>True) ?hr ?hp (fun _ hk=>hk) trivial (Below.refl _ _) (Nat.le_refl _) zac ?_;(case hd=>rfl);(case hg=>rfl);(case hr=>first|(go_simp;done)|(go_simp;rfl));(case hp=>exact(Reps.none _ _))
     intro ao d3 an hb hg_ hnew_;clear hg_ hnew_
     (first|rw[<-ar.out]at an|(simp only[Int.reduceToNat]at an;rw[<-ar.out]at an))
     replace HO_3:=aK (Kd.S_below (by(with_reducible repeat(first|apply Kd.S_alloc|apply Kd.S_drewN|apply Kd.S_drew));exact HO_3.out) hb);have X:=aK (Kd.R_lower an (below_size (hbA HB.out)));replace D:=bkB D hb;replace G:=bkB G hb;replace HB:=hbB HB hb;clear hb an;refine hK.out _ _ (z3c D) (fun hHeld=>?_);clear hK K;refine znm (some 27) ?_;refine zoh 0 (some 22) (mB 11 247) HT_ fun K hK=>?_;refine Kd.R_lit_step (Kd.int .i64) _ 3 ?hg (N:=22) ?hd (xs:=([]:List Int)) (inner:= []) (ok:=fun _=>True) (okp:=fun _=>True) ?hr ?hp (fun _ hk=>hk) trivial (Below.refl _ _) (Nat.le_refl _) zac ?_;(case hd=>rfl);(case hg=>rfl);(case hr=>first|(go_simp;done)|(go_simp;rfl));(case hp=>exact(Reps.none _ _))
     intro au dg al hb hg_ hnew_;clear hg_ hnew_
     (first|rw[<-ba.out]at al|(simp only[Int.reduceToNat]at al;rw[<-ba.out]at al))
     replace HO_3:=aK (Kd.S_below (by(with_reducible repeat(first|apply Kd.S_alloc|apply Kd.S_drewN|apply Kd.S_drew));exact HO_3.out) hb);have Y:=aK (Kd.R_lower (Kd.R_new' al (Kd.R_lt (kdA X.out))) (below_size (hbA HB.out)));replace X:=aK (Kd.R_elder' (kdA X.out) (Kd.R_base al) hb);replace D:=bkB D hb;replace G:=bkB G hb;replace HB:=hbB HB hb;clear hb al;refine hK.out _ _ (z3c D) (fun hHeld=>?_);clear hK K;refine znm (some 22) ?_;refine zoh 3 (some 25) (mB 11 255) HT_ fun K hK=>?_;refine Kd.R_append_rows_step (Kd.int .i64) (w0:=w) w.heap.size zae (.tmp 22) (.tmp 24) 22 3 (.int .i64 0) 8 rfl Try.underlying22 info3 rfl zab zaa au a3 U _ _ _ (fun k_=>some k_≠(ao:Value).ownBlock) (fun _=>False) rfl rfl ?aO ?aR (fun _ _ h=>h) (fun _ h=>h.elim) ?aF ?aB ?aS ?aL ?_
     (case aR=>exact kcB bj HB)
     (case aB=>exact(hbA HB.out))
     (case aF=>exact(fun k_ hk=>Kd.fresh' (Kd.R_lt (kdA X.out)) k_ hk))
     (case aO=>exact(by(with_reducible repeat(first|apply Kd.R_alloc|apply Kd.R_drewN|apply Kd.R_drew));exact Kd.R_mono Y.out (fun _ hk=>hk.2)))
     (case aS=>exact(below_size (hbA HB.out)))
     (case aL=>have:=bk.out;omega)
     intro aq d4 ho hb hg hat;rw[<-bl.out]at ho
     have n0_:=aK (Kd.S_over' (by(with_reducible repeat(first|apply Kd.S_alloc|apply Kd.S_drewN|apply Kd.S_drew));exact HO_3.out) (Kd.R_typed (kdA Y.out)) zab hg);have n1_:=aK (blk_grown (g:=Z) (o:= .cells #[.slice ae U.length ah,.slice ak L.length ai,.slice af O.length aj] 25 (0,0)) (bkA D.out) hg (Kd.R_ne Y.out D.out zab));have n2_:=aK (blk_grown (g:=I) (o:= .cells #[.slice none 0 0,.slice none 0 0,.slice none 0 0] 25 (0,0)) (bkA G.out) hg (Kd.R_ne Y.out G.out zab));have n3_:=aK (Kd.R_after (ok:=(fun _=>True)) (kdA X.out) hg hat);have n4_:=aK (hb);have n5_:=aK (ho);clear HO_3;clear D;clear G;clear X;clear HB;clear Y;have HO_3:=n0_;have D:=n1_;have G:=n2_;have X:=n3_;have HB:=n4_;have ac:=n5_;clear n0_ n1_ n2_ n3_ n4_ n5_;clear ho hb hg hat;refine hK.out _ _ (z3c D) (fun hHeld=>?_);clear hK K;refine znm (some 25) ?_;exact norm_ zat (hCont (au,aq,ao) _ ⟨hHeld,(kdA ac.out),(by(with_reducible repeat(first|apply Kd.R_alloc|apply Kd.R_drewN|apply Kd.R_drew));exact Kd.R_mono X.out (fun _ hk=>hk.2)),(by(with_reducible repeat(first|apply Kd.S_alloc|apply Kd.S_drewN|apply Kd.S_drew));exact HO_3.out),(bkA D.out),(bkA G.out),(hbA HB.out)⟩)
   rintro⟨au,aq,ao⟩ bb ⟨hS_,h0_,h1_,h2_,h3_,h4_,h5_⟩;have n0_:Aside0 (Kd.R (Kd.int .i64) 3 bb w.heap.size (fun k_=>some k_≠(ao:Value).ownBlock) aq ap):=⟨h0_⟩
   have n1_:Aside0 (Kd.R (Kd.int .i64) 3 bb w.heap.size (fun k_=>some k_≠(aq:Value).ownBlock) ao am):=⟨h1_⟩
   have n2_:Aside0 (Kd.S (Kd.slice 61 k61) 59 bb w.heap.size (fun _=>True) u3 aa):=⟨h2_⟩
   have n3_:Aside0 (bb.heap[Z]? =some (.cells #[.slice ae U.length ah,.slice ak L.length ai,.slice af O.length aj] 25 (0,0))):=⟨h3_⟩
   have n4_:Aside0 (bb.heap[I]? =some (.cells #[.slice none 0 0,.slice none 0 0,.slice none 0 0] 25 (0,0))):=⟨h4_⟩
   have n5_:Aside0 (Below w.heap.size w bb):=⟨h5_⟩
   clear HO_3;clear D;clear G;clear HB;clear h0_ h1_ h2_ h3_ h4_ h5_;have ac:=n0_;have X:=n1_;have HO_3:=n2_;have D:=n3_;have G:=n4_;have HB:=n5_;clear n0_ n1_ n2_ n3_ n4_ n5_;have hHeld:bb.cell? ⟨Z,0,none⟩=some (.slice ae U.length ah)/\bb.cell? ⟨Z,1,none⟩=some (.slice ak L.length ai)/\bb.cell? ⟨Z,2,none⟩=some (.slice af O.length aj):=hS_;refine znq ?_;refine zoh 8 (some 30) (mB 11 511) HT_ fun K hK=>?_;refine Kd.R_append_rows_step (Kd.int .i64) (w0:=w) w.heap.size zae (.tmp 27) (.tmp 29) 22 3 (.int .i64 0) 8 rfl Try.underlying22 info3 rfl zab zaa ao am O _ _ _ (fun k_=>some k_≠(aq:Value).ownBlock) (fun _=>False) rfl rfl ?aO ?aR (fun _ _ h=>h) (fun _ h=>h.elim) ?aF ?aB ?aS ?aL ?_
   (case aR=>exact kcB cd HB)
   (case aB=>exact(hbA HB.out))
   (case aF=>exact(fun k_ hk=>Kd.fresh' (Kd.R_lt (kdA ac.out)) k_ hk))
   (case aO=>exact(kdA X.out))
   (case aS=>exact(below_size (hbA HB.out)))
   (case aL=>have:=ce.out;omega)
   intro ed ci ho hb hg hat;rw[<-ch.out]at ho
   have n0_:=aK (Kd.S_over' (by(with_reducible repeat(first|apply Kd.S_alloc|apply Kd.S_drewN|apply Kd.S_drew));exact HO_3.out) (Kd.R_typed (kdA X.out)) zab hg);have n1_:=aK (blk_grown (g:=Z) (o:= .cells #[.slice ae U.length ah,.slice ak L.length ai,.slice af O.length aj] 25 (0,0)) (bkA D.out) hg (Kd.R_ne X.out D.out zab));have n2_:=aK (blk_grown (g:=I) (o:= .cells #[.slice none 0 0,.slice none 0 0,.slice none 0 0] 25 (0,0)) (bkA G.out) hg (Kd.R_ne X.out G.out zab));have n3_:=aK (Kd.R_after (ok:=(fun _=>True)) (by(with_reducible repeat(first|apply Kd.R_alloc|apply Kd.R_drewN|apply Kd.R_drew));exact Kd.R_mono ac.out (fun _ hk=>⟨trivial,hk⟩)) hg hat);have n4_:=aK (hb);have n5_:=aK (ho);clear HO_3;clear D;clear G;clear ac;clear HB;clear X;have HO_3:=n0_;have D:=n1_;have G:=n2_;have ac:=n3_;have HB:=n4_;have bo:=n5_;clear n0_ n1_ n2_ n3_ n4_ n5_;clear ho hb hg hat;obtain⟨bm,bn,b6⟩:=Kd.R_slice bo.out
   (first|subst b6|(injection b6 with f1_ f2_ f3_;have f4_:=f1_.symm;have f5_:=f3_.symm;clear f1_ f2_ f3_;subst f4_;subst f5_))
   obtain⟨bc,bd,b7⟩:=Kd.S_slice HO_3.out
   (first|subst b7|(injection b7 with f1_ f2_ f3_;have f4_:=f1_.symm;have f5_:=f3_.symm;clear f1_ f2_ f3_;subst f4_;subst f5_))
   obtain⟨a4,a5,b8⟩:=Kd.R_slice ac.out
   (first|subst b8|(injection b8 with f1_ f2_ f3_;have f4_:=f1_.symm;have f5_:=f3_.symm;clear f1_ f2_ f3_;subst f4_;subst f5_))
   refine hK.out _ _ (z3c D) (fun hHeld=>?_);clear hK K;refine znm (some 30) ?_;refine pu 9 (some 31) (mB 11 1023) HT_ ?_;refine zoh 10 (none) (mB 11 2047) HT_ fun K hK=>?_;have d7:ci.cell? ⟨I,0,none⟩=some (.slice none 0 0):=(blk_cell G.out 0).trans rfl;have dy:=blk_frozen G.out 0;have dc:=J.out;have c9:=ag.out;have d8:ci.cell? ⟨I,1,none⟩=some (.slice none 0 0):=(blk_cell G.out 1).trans rfl;have dz:=blk_frozen G.out 1;have dd:=J.out;have da:=ag.out;have d9:ci.cell? ⟨I,2,none⟩=some (.slice none 0 0):=(blk_cell G.out 2).trans rfl;have d0:=blk_frozen G.out 2;have de:=J.out;have db:=ag.out;refine zsk ?_;refine hK.out _ _ ⟨((cell_far (p:=⟨I,_,none⟩) J.out _).trans (((cell_far (p:=⟨I,_,none⟩) J.out _).trans (((cell_far (p:=⟨I,_,none⟩) J.out _).trans (hHeld.1)))))),((cell_far (p:=⟨I,_,none⟩) J.out _).trans (((cell_far (p:=⟨I,_,none⟩) J.out _).trans (((cell_far (p:=⟨I,_,none⟩) J.out _).trans (hHeld.2.1)))))),((cell_far (p:=⟨I,_,none⟩) J.out _).trans (((cell_far (p:=⟨I,_,none⟩) J.out _).trans (((cell_far (p:=⟨I,_,none⟩) J.out _).trans (hHeld.2.2))))))⟩ (fun hHeld=>?_);clear hK K;refine done_ (done_of HT_.out zad) ?_
   try go_wp2
   refine bodyPost_ret (results_cell_row rfl _ _ I 25 #[.slice a4 ap.length a5,.slice bc aa.length bd,.slice bm bi.length bn] (0,0) _ rfl (by refine bkR ?_;refine blk_put (cs:= #[.slice a4 ap.length a5,.slice bc aa.length bd,.slice none 0 0]) ?_ 2 _ rfl;refine bkR ?_;refine blk_put (cs:= #[.slice a4 ap.length a5,.slice none 0 0,.slice none 0 0]) ?_ 1 _ rfl;refine bkR ?_;refine blk_put (cs:= #[.slice none 0 0,.slice none 0 0,.slice none 0 0]) ?_ 0 _ rfl;refine bkR ?_;exact G.out) Try.underlying25 rfl zad) rfl ?_;exact⟨_,_,_,rfE,by(with_reducible repeat(first|apply Kd.R_alloc|apply Kd.R_drewN|apply Kd.R_drew));exact Kd.R_mono (Kd.R_far (p:=⟨I,2,none⟩) (Kd.R_far (p:=⟨I,1,none⟩) (Kd.R_far (p:=⟨I,0,none⟩) (Kd.R_types ac.out G.out zab) (fun _ hk=>hk.2) (.slice a4 ap.length a5)) (fun _ hk=>hk.2) (.slice bc aa.length bd)) (fun _ hk=>hk.2) (.slice bm bi.length bn)) (fun _ hk=>hk.1.2),by(with_reducible repeat(first|apply Kd.S_alloc|apply Kd.S_drewN|apply Kd.S_drew));exact Kd.S_mono (Kd.S_far (p:=⟨I,2,none⟩) (Kd.S_far (p:=⟨I,1,none⟩) (Kd.S_far (p:=⟨I,0,none⟩) (Kd.S_types HO_3.out G.out zab) (fun _ hk=>hk.2) (.slice a4 ap.length a5)) (fun _ hk=>hk.2) (.slice bc aa.length bd)) (fun _ hk=>hk.2) (.slice bm bi.length bn)) (fun _ hk=>trivial),by(with_reducible repeat(first|apply Kd.R_alloc|apply Kd.R_drewN|apply Kd.R_drew));exact Kd.R_mono (Kd.R_far (p:=⟨I,2,none⟩) (Kd.R_far (p:=⟨I,1,none⟩) (Kd.R_far (p:=⟨I,0,none⟩) (Kd.R_types bo.out G.out zab) (fun _ hk=>hk.2) (.slice a4 ap.length a5)) (fun _ hk=>hk.2) (.slice bc aa.length bd)) (fun _ hk=>hk.2) (.slice bm bi.length bn)) (fun _ hk=>hk.1),hbA HB.out⟩
end Go.Proofs.Ytnfemjnajfdepaa.Q
