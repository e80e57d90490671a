/- Texts of the proof of ShareOnce: what each Go function answers, and what the answers mean; no condition beyond each theorem's own. -/
import Derived.Test.YtnfemjnajfdepaaSo2
set_option maxHeartbeats 16000000
set_option maxRecDepth 100000
set_option linter.unusedVariables false
set_option linter.unusedSimpArgs false
namespace Go.Proofs.Ytnfemjnajfdepaa.Q
open RowKit YtnfemjnajfdepaaW.PrintWords YtnfemjnajfdepaaW.PrintLast YtnfemjnajfdepaaW.PrintMore
attribute [local go_sem] max2_int min2_int max_two min_two max_three min_three max_four min_four
mutual
def recoupref21_May.j0:Nat->Bool->List Int->List (List (S61))->List Int->Option (Bool)
 |0,_,_,_,_=>none
 |k+1,J,D,G,I=>if J=true then(some false)else(recoupref21_May.l0 k 0 D G I)
def recoupref21_May.l0:Nat->Int->List Int->List (List (S61))->List Int->Option (Bool)
 |0,_,_,_,_=>none
 |k+1,x3,D,G,I=>if x3<(D.length:Int)then(if 0<=x3 then(if(rd D x3)<0 then(some false)else(if(rd D x3)>=64 then(some false)else(if x3>0 then(if 0<=(wrap64 (x3-1))then(if(wrap64 (x3-1))<(D.length:Int)then(if(rd D x3)<=(rd D (wrap64 (x3-1)))then(some false)else(recoupref21_May.l0 k (wrap64 (x3+1)) D G I))else(none))else(none))else(recoupref21_May.l0 k (wrap64 (x3+1)) D G I))))else(none))else(recoupref21_May.l1 k 0 D G I)
def recoupref21_May.l1:Nat->Int->List Int->List (List (S61))->List Int->Option (Bool)
 |0,_,_,_,_=>none
 |k+1,x4,G,D,I=>if x4<(D.length:Int)then(recoupref21_May.l2 k x4 0 G D I)else(recoupref21_May.l3 k 0 G D I)
def recoupref21_May.l2:Nat->Int->Int->List Int->List (List (S61))->List Int->Option (Bool)
 |0,_,_,_,_,_=>none
 |k+1,x4,x5,G,D,I=>if 0<=x4 then(if x4<(D.length:Int)then(if x5<((rd_L5 D x4).length:Int)then(if 0<=x5 then(if((rd_T61 (rd_L5 D x4) x5).f1)=0 then(some false)else(if((rd_T61 (rd_L5 D x4) x5).f0)<0 then(some false)else(if((rd_T61 (rd_L5 D x4) x5).f0)>=(wrap64 ((G.length:Int)+x4))then(some false)else(if x5>0 then(if 0<=(wrap64 (x5-1))then(if(wrap64 (x5-1))<((rd_L5 D x4).length:Int)then(if((rd_T61 (rd_L5 D x4) x5).f0)<=((rd_T61 (rd_L5 D x4) (wrap64 (x5-1))).f0)then(some false)else(recoupref21_May.l2 k x4 (wrap64 (x5+1)) G D I))else(none))else(none))else(recoupref21_May.l2 k x4 (wrap64 (x5+1)) G D I)))))else(none))else(recoupref21_May.l1 k (wrap64 (x4+1)) G D I))else(none))else(none)
def recoupref21_May.l3:Nat->Int->List Int->List (List (S61))->List Int->Option (Bool)
 |0,_,_,_,_=>none
 |k+1,x7,G,I,D=>if x7<(D.length:Int)then(if 0<=x7 then(if(rd D x7)<0 then(some false)else(if(rd D x7)>=(wrap64 ((G.length:Int)+(I.length:Int)))then(some false)else(recoupref21_May.l3 k (wrap64 (x7+1)) G I D)))else(none))else(some true)
end
def recoupref21_May.f(k:Nat)(I:List Int)(D:List (List (S61)))(G:List Int):Option (Bool):=if(D.length:Int)>4096 then(recoupref21_May.j0 k true I D G)else(recoupref21_May.j0 k (decide ((G.length:Int)>64)) I D G)
theorem recoupref21_May.calls(k:Nat)(ao:Option Addr)(aq:Nat)(aa:List Int)(cj:Option Addr)(ar:Nat)(I:List (List (S61)))(ap:Option Addr)(au:Nat)(ah:List Int)(r:Bool)(w:World)(kk:Kd.C (Kd.int .i64) w ao aa.length aa)(ip:aa.length<=aq)(km:Kd.C (Kd.slice 61 k61) w cj I.length I)(iq:I.length<=ar)(kn:Kd.C (Kd.int .i64) w ap ah.length ah)(ir:ah.length<=au)(h:recoupref21_May.f k aa I ah=some r):
 Calls Try.prog 18 #[.agg #[.slice ao aa.length aq,.slice cj I.length ar,.slice ap ah.length au]] w fun e w'=>e= .returned (.bool r)/\Below w.heap.size w w':=by
 have lv:=Try.underlying25;have lw:=Try.underlying61;have bt:=aK kk;have lr:=aK ip;clear kk ip;have a9:=aK km;have ls:=aK iq;clear km iq;have dl:=aK kn;have lt:=aK ir;clear kn ir;have HB:=aK (Below.refl w.heap.size w);have H:(if(I.length:Int)>4096 then(recoupref21_May.j0 k true aa I ah)else(recoupref21_May.j0 k (decide ((ah.length:Int)>64)) aa I ah))=some r:=h;clear h;have kt:=aK H;clear H
 go_enter Try.func18,Try.ntmps18
 go_upto_region 1 with(first|((with_reducible refine gD 1 rfl ?_);(try(refine gate_guard zae ?_;dsimp only));refine bE 1 #[.slice ao aa.length aq,.slice cj I.length ar,.slice ap ah.length au] 25 ?_;intro U hg w3 hbox hb;have G:=aK (hbox);have ic:=hbS HB hg;have ib:=hbS HB hg;replace HB:=hbB HB hb;clear hb hbox hg))
 repeat(go_quiet (first|((with_reducible refine gate_dst (N:=1) rfl ?_);(try(refine gate_guard zae ?_;dsimp only));refine box_event ?hg (N:=1) ?hd (cs:= #[.slice ao aa.length aq,.slice cj I.length ar,.slice ap ah.length au]) (t:=25) ?hr ?_;(case hd=>rfl);(case hg=>rfl);(case hr=>first|(go_simp;done)|(go_simp;rfl));intro U hg w3 hbox hb;have n0_:=aK (below_step (hbA HB.out) hb);have n1_:=aK (hbox);have n2_:=aK ((by rw[hg];exact(below_size (hbA HB.out)):w.heap.size<=U));have n3_:=aK ((by rw[hg];exact(below_size (hbA HB.out)):w.heap.size<=U));clear HB;have HB:=n0_;have G:=n1_;have ic:=n2_;have ib:=n3_;clear n0_ n1_ n2_ n3_;clear hb hbox hg));go_upto_region 1 with(first|((with_reducible refine gate_dst (N:=1) rfl ?_);(try(refine gate_guard zae ?_;dsimp only));refine box_event ?hg (N:=1) ?hd (cs:= #[.slice ao aa.length aq,.slice cj I.length ar,.slice ap ah.length au]) (t:=25) ?hr ?_;(case hd=>rfl);(case hg=>rfl);(case hr=>first|(go_simp;done)|(go_simp;rfl));intro U hg w3 hbox hb;have n0_:=aK (below_step (hbA HB.out) hb);have n1_:=aK (hbox);have n2_:=aK ((by rw[hg];exact(below_size (hbA HB.out)):w.heap.size<=U));have n3_:=aK ((by rw[hg];exact(below_size (hbA HB.out)):w.heap.size<=U));clear HB;have HB:=n0_;have G:=n1_;have ic:=n2_;have ib:=n3_;clear n0_ n1_ n2_ n3_;clear hb hbox hg)))
 (try simp only[Act.put,zL])
 go_cut [17] (fun lu wc=> ∃(kq:Nat) (gj:Bool),lu= .bool gj/\Aside0 (recoupref21_May.j0 kq gj aa I ah=some r)/\Aside0 (kq<=k)/\Aside0 (wc.heap[U]? =some (.cells #[(.slice ao aa.length aq),(.slice cj I.length ar),(.slice ap ah.length au)] 25 (0,0)))/\Aside0 (Below w.heap.size w wc))
 case first=>
  have H:=kt.out;clear kt;by_cases c4:(I.length:Int)>4096
  case neg=>
   rw[if_neg c4]at H
   have c4b0:decide (4096<(I.length:Int))=false:=decide_eq_false c4;have c4b1:decide (4096<I.length)=false:=decide_eq_false zaa;clear c4
   (first|rw[c4b0] |(simp only[i64_w,i32_w];rw[c4b0])|skip)
   have H':=aK H;clear H;obtain⟨cy,cz,da,de,df,dg⟩:=cell3 G;go_wp2
   repeat(go_quiet (fail);try go_wp2)
   go_meet
   case rel=>exact⟨_,(decide ((ah.length:Int)>64)),rsE,H',⟨leE⟩,⟨bkA G.out⟩,⟨hbA HB.out⟩⟩
  rw[if_pos c4]at H
  have c4b0:decide (4096<(I.length:Int))=true:=decide_eq_true c4;have c4b1:decide (4096<I.length)=true:=decide_eq_true zaa;clear c4
  (first|rw[c4b0] |(simp only[i64_w,i32_w];rw[c4b0])|skip)
  have H':=aK H;clear H;obtain⟨cv,cw,cx,db,dc,dd⟩:=cell3 G;go_wp2
  repeat(go_quiet (fail);try go_wp2)
  go_meet
  case rel=>exact⟨_,(true),rsE,H',⟨leE⟩,⟨bkA G.out⟩,⟨hbA HB.out⟩⟩
 case rest=>
  clear kt
  (try clear c1);(try clear p2);(try clear c4);(try clear c4b0);(try clear c4b1);(try clear cv cw cx db dc dd);(try clear cy cz da de df dg)
  obtain⟨kq,gj,rfl,HA,dh,G,HB⟩:=hcut
  cases kq with
  |zero=>exact absurd HA.out (by simp[recoupref21_May.j0])
  |succ lq=>
   have H:=HA.out;clear HA;simp only[recoupref21_May.j0]at H;by_cases c7:gj=true
   ·subst c7;rw[if_pos rfl]at H
    obtain rfl:=Option.some.inj H;go_wp2
    repeat(go_quiet (fail);try go_wp2)
    go_ret
    exact⟨rfE,hbA HB.out⟩
   replace c7:=Bool.eq_false_iff.mpr c7;subst c7;rw[if_neg nofT]at H
   have H':=aK H;clear H;go_wp2
   repeat(go_quiet (fail);try go_wp2)
   go_loopg [3] lq (fun kq v3 w'=> ∃(am:Int),v3= .int .i64 am/\Aside0 (recoupref21_May.l0 kq am aa I ah=some r)/\Aside0 (kq<=lq)/\Aside0 (w'.heap[U]? =some (.cells #[(.slice ao aa.length aq),(.slice cj I.length ar),(.slice ap ah.length au)] 25 (0,0)))/\Aside0 (Below w.heap.size w w'))
   case atStart=>exact⟨(0),rsE,H',⟨Nat.le_refl _⟩,⟨bkA G.out⟩,⟨hbA HB.out⟩⟩
   case round=>
    clear H'
    (try clear c1);(try clear p2 p2);(try clear c4);(try clear c4b0);(try clear c4b1);(try clear c7);(try clear cv cw cx db dc dd);(try clear cy cz da de df dg)
    obtain⟨am,rfl,HA,di,G,HB⟩:=hrel
    cases gk with
    |zero=>exact absurd HA.out (by simp[recoupref21_May.l0])
    |succ k2=>
     have H:=HA.out;clear HA;simp only[recoupref21_May.l0]at H;by_cases c8:am<(aa.length:Int)
     ·rw[if_pos c8]at H
      have c8b0:decide (am<(aa.length:Int))=true:=decide_eq_true c8;clear c8;by_cases c9:0<=am
      case neg=>rw[if_neg c9]at H;exact absurd H zac
      rw[if_pos c9]at H
      have c9b0:decide (0<=am)=true:=decide_eq_true c9;clear c9;by_cases gc:(rd aa am)<0
      ·rw[if_pos gc]at H
       have c10b0:decide ((rd aa am)<0)=true:=decide_eq_true gc;clear gc;obtain rfl:=Option.some.inj H;obtain⟨dp,dq,dr,ex,ey,ez⟩:=cell3 G;have bn:0<=(am:Int):=of_decide_eq_true asE;have bo:am<(aa.length:Int):=of_decide_eq_true asE;obtain⟨bv,cu,ax⟩:=Kd.at_int bt.out am bn bo
       cases cu
       replace ax:=(HB.out.cell (World.block_lt_of_cell? w _ ax)).trans ax;replace bn:=eq_true bn;replace bo:=eq_true bo;go_wp2
       repeat(go_quiet (fail);try go_wp2)
       go_ret
       exact⟨rfE,hbA HB.out⟩
      rw[if_neg gc]at H
      have c10b0:decide ((rd aa am)<0)=false:=decide_eq_false gc;clear gc;by_cases ge:(rd aa am)>=64
      ·rw[if_pos ge]at H
       have c12b0:decide (64<=(rd aa am))=true:=decide_eq_true ge;clear ge;obtain rfl:=Option.some.inj H;obtain⟨dt,du,dv,e0,e1,e2⟩:=cell3 G;have bn:0<=(am:Int):=of_decide_eq_true asE;have bo:am<(aa.length:Int):=of_decide_eq_true asE;obtain⟨bv,cu,ax⟩:=Kd.at_int bt.out am bn bo
       cases cu
       replace ax:=(HB.out.cell (World.block_lt_of_cell? w _ ax)).trans ax;replace bn:=eq_true bn;replace bo:=eq_true bo;have br:0<=(am:Int):=of_decide_eq_true asE;have bs:am<(aa.length:Int):=of_decide_eq_true asE;obtain⟨co,dn,a0⟩:=Kd.at_int bt.out am br bs;obtain rfl:bv=co:=zbg
       replace a0:=(HB.out.cell (World.block_lt_of_cell? w _ a0)).trans a0;replace br:=eq_true br;replace bs:=eq_true bs;go_wp2
       repeat(go_quiet (fail);try go_wp2)
       go_ret
       exact⟨rfE,hbA HB.out⟩
      rw[if_neg ge]at H
      have c12b0:decide (64<=(rd aa am))=false:=decide_eq_false ge;clear ge;by_cases gf:am>0
      case neg=>
       rw[if_neg gf]at H
       have c14b0:decide (0<am)=false:=decide_eq_false gf;clear gf;have H':=aK H;clear H;obtain⟨d2,d3,d4,e9,fa,fb⟩:=cell3 G;have bn:0<=(am:Int):=of_decide_eq_true asE;have bo:am<(aa.length:Int):=of_decide_eq_true asE;obtain⟨bv,cu,ax⟩:=Kd.at_int bt.out am bn bo
       cases cu
       replace ax:=(HB.out.cell (World.block_lt_of_cell? w _ ax)).trans ax;replace bn:=eq_true bn;replace bo:=eq_true bo;have br:0<=(am:Int):=of_decide_eq_true asE;have bs:am<(aa.length:Int):=of_decide_eq_true asE;obtain⟨co,dn,a0⟩:=Kd.at_int bt.out am br bs;obtain rfl:bv=co:=zbg
       replace a0:=(HB.out.cell (World.block_lt_of_cell? w _ a0)).trans a0;replace br:=eq_true br;replace bs:=eq_true bs;go_wp2
       repeat(go_quiet (fail);try go_wp2)
       go_roundg k2
       case measure=>have:=dh.out;have:=di.out;omega
       case rel=>exact⟨(wrap64 (am+1)),rsE,H',⟨by have:=dh.out;have:=di.out;omega⟩,⟨bkA G.out⟩,⟨hbA HB.out⟩⟩
      rw[if_pos gf]at H
      have c14b0:decide (0<am)=true:=decide_eq_true gf;clear gf;obtain⟨bu,gh⟩: ∃j_:Int,(wrap64 (am-1))=j_:=⟨_,rfl⟩
      replace H:(if 0<=(bu)then(if(bu)<(aa.length:Int)then(if(rd aa am)<=(rd aa (bu))then(some false)else(recoupref21_May.l0 k2 (wrap64 (am+1)) aa I ah))else(none))else(none))=some r:=by first|(rw[gh]at H;exact H)|(simp only[gh]at H⊢;exact H)
      have hji15w:(IntKind.i64.wrap (am-1))=bu:=(i64_w _).trans gh;by_cases gz:0<=(bu)
      case neg=>rw[if_neg gz]at H;exact absurd H zac
      rw[if_pos gz]at H
      have c16b0:decide (0<=(bu))=true:=decide_eq_true gz;clear gz;by_cases g0:(bu)<(aa.length:Int)
      case neg=>rw[if_neg g0]at H;exact absurd H zac
      rw[if_pos g0]at H
      have c17b0:decide ((bu)<(aa.length:Int))=true:=decide_eq_true g0;clear g0;by_cases gg:(rd aa am)<=(rd aa (bu))
      ·rw[if_pos gg]at H
       have c18b0:decide ((rd aa am)<=(rd aa (bu)))=true:=decide_eq_true gg;clear gg;obtain rfl:=Option.some.inj H;obtain⟨dw,dx,dy,e3,e4,e5⟩:=cell3 G;have bn:0<=(am:Int):=of_decide_eq_true asE;have bo:am<(aa.length:Int):=of_decide_eq_true asE;obtain⟨bv,cu,ax⟩:=Kd.at_int bt.out am bn bo
       cases cu
       replace ax:=(HB.out.cell (World.block_lt_of_cell? w _ ax)).trans ax;replace bn:=eq_true bn;replace bo:=eq_true bo;have br:0<=(am:Int):=of_decide_eq_true asE;have bs:am<(aa.length:Int):=of_decide_eq_true asE;obtain⟨co,dn,a0⟩:=Kd.at_int bt.out am br bs;obtain rfl:bv=co:=zbg
       replace a0:=(HB.out.cell (World.block_lt_of_cell? w _ a0)).trans a0;replace br:=eq_true br;replace bs:=eq_true bs;have ck:0<=(am:Int):=of_decide_eq_true asE;have cm:am<(aa.length:Int):=of_decide_eq_true asE;obtain⟨gw,il,bp⟩:=Kd.at_int bt.out am ck cm;obtain rfl:bv=gw:=(by injection il)
       replace bp:=(HB.out.cell (World.block_lt_of_cell? w _ bp)).trans bp;replace ck:=eq_true ck;replace cm:=eq_true cm;have cl:0<=((bu):Int):=of_decide_eq_true asE;have cn:(bu)<(aa.length:Int):=of_decide_eq_true asE;obtain⟨gx,im,bq⟩:=Kd.at_int bt.out (bu) cl cn;obtain rfl:bv=gx:=(by injection im)
       replace bq:=(HB.out.cell (World.block_lt_of_cell? w _ bq)).trans bq;replace cl:=eq_true cl;replace cn:=eq_true cn;go_wp2
       repeat(go_quiet (fail);try go_wp2)
       go_ret
       exact⟨by first|rfl|(simp[errW_none,errW_some]<;>rfl)|(simp only[<-gh];first|rfl|(simp[errW_none,errW_some]<;>rfl))|(simp[*,errW_none,errW_some]<;>rfl),hbA HB.out⟩
      rw[if_neg gg]at H
      have c18b0:decide ((rd aa am)<=(rd aa (bu)))=false:=decide_eq_false gg;clear gg;have H':=aK H;clear H;obtain⟨dz,d0,d1,e6,e7,e8⟩:=cell3 G;have bn:0<=(am:Int):=of_decide_eq_true asE;have bo:am<(aa.length:Int):=of_decide_eq_true asE;obtain⟨bv,cu,ax⟩:=Kd.at_int bt.out am bn bo
      cases cu
      replace ax:=(HB.out.cell (World.block_lt_of_cell? w _ ax)).trans ax;replace bn:=eq_true bn;replace bo:=eq_true bo;have br:0<=(am:Int):=of_decide_eq_true asE;have bs:am<(aa.length:Int):=of_decide_eq_true asE;obtain⟨co,dn,a0⟩:=Kd.at_int bt.out am br bs;obtain rfl:bv=co:=zbg
      replace a0:=(HB.out.cell (World.block_lt_of_cell? w _ a0)).trans a0;replace br:=eq_true br;replace bs:=eq_true bs;have ck:0<=(am:Int):=of_decide_eq_true asE;have cm:am<(aa.length:Int):=of_decide_eq_true asE;obtain⟨gw,il,bp⟩:=Kd.at_int bt.out am ck cm;obtain rfl:bv=gw:=(by injection il)
      replace bp:=(HB.out.cell (World.block_lt_of_cell? w _ bp)).trans bp;replace ck:=eq_true ck;replace cm:=eq_true cm;have cl:0<=((bu):Int):=of_decide_eq_true asE;have cn:(bu)<(aa.length:Int):=of_decide_eq_true asE;obtain⟨gx,im,bq⟩:=Kd.at_int bt.out (bu) cl cn;obtain rfl:bv=gx:=(by injection im)
      replace bq:=(HB.out.cell (World.block_lt_of_cell? w _ bq)).trans bq;replace cl:=eq_true cl;replace cn:=eq_true cn;go_wp2
      repeat(go_quiet (fail);try go_wp2)
      go_roundg k2
      case measure=>have:=dh.out;have:=di.out;omega
      case rel=>exact⟨(wrap64 (am+1)),rsE,H',⟨by have:=dh.out;have:=di.out;omega⟩,⟨bkA G.out⟩,⟨hbA HB.out⟩⟩
     rw[if_neg c8]at H
     have c8b0:decide (am<(aa.length:Int))=false:=decide_eq_false c8;clear c8;have H':=aK H;clear H;obtain⟨d5,d6,d7,fc,fd,fe⟩:=cell3 G;go_wp2
     repeat(go_quiet (fail);try go_wp2)
     go_loopg [4] k2 (fun kq v4 w'=> ∃(J:Int),v4= .int .i64 J/\Aside0 (recoupref21_May.l1 kq J aa I ah=some r)/\Aside0 (kq<=k2)/\Aside0 (w'.heap[U]? =some (.cells #[(.slice ao aa.length aq),(.slice cj I.length ar),(.slice ap ah.length au)] 25 (0,0)))/\Aside0 (Below w.heap.size w w'))
     case atStart=>exact⟨(0),rsE,H',⟨Nat.le_refl _⟩,⟨bkA G.out⟩,⟨hbA HB.out⟩⟩
     case round=>
      clear H'
      (try clear c1);(try clear p1);(try clear q1);(try clear lp);(try clear p2 p2);(try clear c4);(try clear c4b0);(try clear c4b1);(try clear p6);(try clear c7);(try clear c8);(try clear c8b0);(try clear c9);(try clear c9b0);(try clear gc);(try clear c10b0);(try clear kp);(try clear kr);(try clear ks);(try clear ge);(try clear c12b0);(try clear gf);(try clear c14b0);(try clear gz);(try clear c16b0);(try clear g0);(try clear c17b0);(try clear gg);(try clear c18b0);(try clear dp dq dr ex ey ez);(try clear dt du dv e0 e1 e2);(try clear dw dx dy e3 e4 e5);(try clear dz d0 d1 e6 e7 e8);(try clear d2 d3 d4 e9 fa fb);(try clear d5 d6 d7 fc fd fe);(try clear cv cw cx db dc dd);(try clear cy cz da de df dg);(try clear ax);(try clear a0);(try clear bp);(try clear bq);(try clear bn);(try clear br);(try clear ck);(try clear cl);(try clear bo);(try clear bs);(try clear cm);(try clear cn)
      obtain⟨J,rfl,HA,gl,G,HB⟩:=hrel
      cases gk with
      |zero=>exact absurd HA.out (by simp[recoupref21_May.l1])
      |succ k3=>
       have H:=HA.out;clear HA;simp only[recoupref21_May.l1]at H;by_cases gm:J<(I.length:Int)
       case neg=>
        rw[if_neg gm]at H
        have c23b0:decide (J<(I.length:Int))=false:=decide_eq_false gm;clear gm;have H':=aK H;clear H;obtain⟨jf,jg,jh,j4,j5,j6⟩:=cell3 G;go_wp2
        repeat(go_quiet (fail);try go_wp2)
        go_loopg [7] k3 (fun kq v7 w'=> ∃(a5:Int),v7= .int .i64 a5/\Aside0 (recoupref21_May.l3 kq a5 aa I ah=some r)/\Aside0 (kq<=k3)/\Aside0 (w'.heap[U]? =some (.cells #[(.slice ao aa.length aq),(.slice cj I.length ar),(.slice ap ah.length au)] 25 (0,0)))/\Aside0 (Below w.heap.size w w'))
        case atStart=>exact⟨(0),rsE,H',⟨Nat.le_refl _⟩,⟨bkA G.out⟩,⟨hbA HB.out⟩⟩
        case round=>
         clear H'
         (try clear c1);(try clear p1 p1);(try clear q1 q1);(try clear lp);(try clear c2);(try clear p2 p2);(try clear c3);(try clear c4);(try clear c4b0);(try clear c4b1);(try clear c5);(try clear c6);(try clear p6 p6);(try clear c7);(try clear c8);(try clear c8b0);(try clear c9);(try clear c9b0);(try clear gc);(try clear c10b0);(try clear ly);(try clear kp kp);(try clear kr kr);(try clear ks);(try clear ge);(try clear c12b0);(try clear l9);(try clear ma);(try clear lx);(try clear gf);(try clear c14b0);(try clear gz);(try clear c16b0);(try clear g0);(try clear c17b0);(try clear gg);(try clear c18b0);(try clear gm);(try clear c23b0);(try clear ie);(try clear c25b0);(try clear ig);(try clear c26b0);(try clear g1);(try clear c27b0);(try clear ii);(try clear c28b0);(try clear gn);(try clear c29b0);(try clear c29b1);(try clear lz);(try clear g2);(try clear c34b0);(try clear l4);(try clear g3);(try clear c39b0);(try clear l5);(try clear g4);(try clear c45b0);(try clear ij);(try clear c47b0);(try clear ik);(try clear c48b0);(try clear g5);(try clear c49b0);(try clear l6);(try clear l7);(try clear l8);(try clear p64);(try clear dp dq dr ex ey ez);(try clear dt du dv e0 e1 e2);(try clear dw dx dy e3 e4 e5);(try clear dz d0 d1 e6 e7 e8);(try clear d2 d3 d4 e9 fa fb);(try clear d5 d6 d7 fc fd fe);(try clear gq gr gs gt gu gv);(try clear it iu iv ji jj jk);(try clear d8 d9 ff fg);(try clear iw ix iy jl jm jn);(try clear ea eb fh fi);(try clear iz i1 i2 jo jp jq);(try clear ec ed fj fk);(try clear ee ef eg fl fm fo);(try clear i3 i4 i5 jr js jt);(try clear eh ei fp fq);(try clear ej ek el ft fu fv);(try clear i6 i7 i8 ju jv jw);(try clear em en fw fx);(try clear eo ep er fy fz f2);(try clear cv cw cx db dc dd);(try clear i9 ja jb jx jy jz);(try clear es et f3 f4);(try clear eu ev ew f5 f6 f7);(try clear jc jd je j1 j2 j3);(try clear jf jg jh j4 j5 j6);(try clear cy cz da de df dg);(try clear ax);(try clear a0);(try clear bp);(try clear bq);(try clear ai);(try clear aj);(try clear av);(try clear aw);(try clear L);(try clear O);(try clear Y);(try clear bn);(try clear br);(try clear ck);(try clear cl);(try clear a7);(try clear ba);(try clear bb);(try clear bc);(try clear bd);(try clear bo);(try clear bs);(try clear cm);(try clear cn);(try clear a8);(try clear be);(try clear bf);(try clear bg);(try clear bh)
         obtain⟨a5,rfl,HA,ga,G,HB⟩:=hrel
         cases gk with
         |zero=>exact absurd HA.out (by simp[recoupref21_May.l3])
         |succ k4=>
          have H:=HA.out;clear HA;simp only[recoupref21_May.l3]at H;by_cases g6:a5<(ah.length:Int)
          case neg=>
           rw[if_neg g6]at H
           have c67b0:decide (a5<(ah.length:Int))=false:=decide_eq_false g6;clear g6;obtain rfl:=Option.some.inj H;obtain⟨k6,k7,k8,ll,lm,ln⟩:=cell3 G;go_wp2
           repeat(go_quiet (fail);try go_wp2)
           go_ret
           exact⟨rfE,hbA HB.out⟩
          rw[if_pos g6]at H
          have c67b0:decide (a5<(ah.length:Int))=true:=decide_eq_true g6;clear g6;by_cases ko:0<=a5
          case neg=>rw[if_neg ko]at H;exact absurd H zac
          rw[if_pos ko]at H
          have c68b0:decide (0<=a5)=true:=decide_eq_true ko;clear ko;by_cases g7:(rd ah a5)<0
          ·rw[if_pos g7]at H
           have c69b0:decide ((rd ah a5)<0)=true:=decide_eq_true g7;clear g7;obtain rfl:=Option.some.inj H;obtain⟨ku,kv,kw,k9,la,lb⟩:=cell3 G;have cf:0<=(a5:Int):=of_decide_eq_true asE;have cg:a5<(ah.length:Int):=of_decide_eq_true asE;obtain⟨gb,gp,bm⟩:=Kd.at_int dl.out a5 cf cg
           cases gp
           replace bm:=(HB.out.cell (World.block_lt_of_cell? w _ bm)).trans bm;replace cf:=eq_true cf;replace cg:=eq_true cg;go_wp2
           repeat(go_quiet (fail);try go_wp2)
           go_ret
           exact⟨rfE,hbA HB.out⟩
          rw[if_neg g7]at H
          have c69b0:decide ((rd ah a5)<0)=false:=decide_eq_false g7;clear g7;by_cases g8:(rd ah a5)>=(wrap64 ((aa.length:Int)+(I.length:Int)))
          ·rw[if_pos g8]at H
           have c71b0:decide ((wrap64 ((aa.length:Int)+(I.length:Int)))<=(rd ah a5))=true:=decide_eq_true g8;clear g8;obtain rfl:=Option.some.inj H;obtain⟨kx,ky,kz,lc,ld,le⟩:=cell3 G;have cf:0<=(a5:Int):=of_decide_eq_true asE;have cg:a5<(ah.length:Int):=of_decide_eq_true asE;obtain⟨gb,gp,bm⟩:=Kd.at_int dl.out a5 cf cg
           cases gp
           replace bm:=(HB.out.cell (World.block_lt_of_cell? w _ bm)).trans bm;replace cf:=eq_true cf;replace cg:=eq_true cg;have f8:0<=(a5:Int):=of_decide_eq_true asE;have f9:a5<(ah.length:Int):=of_decide_eq_true asE;obtain⟨gy,io,bz⟩:=Kd.at_int dl.out a5 f8 f9;obtain rfl:gb=gy:=(by injection io)
           replace bz:=(HB.out.cell (World.block_lt_of_cell? w _ bz)).trans bz;replace f8:=eq_true f8;replace f9:=eq_true f9;go_wp2
           repeat(go_quiet (fail);try go_wp2)
           go_ret
           exact⟨rfE,hbA HB.out⟩
          rw[if_neg g8]at H
          have c71b0:decide ((wrap64 ((aa.length:Int)+(I.length:Int)))<=(rd ah a5))=false:=decide_eq_false g8;clear g8;have H':=aK H;clear H;obtain⟨k0,k1,k5,lf,lg,lh⟩:=cell3 G;have cf:0<=(a5:Int):=of_decide_eq_true asE;have cg:a5<(ah.length:Int):=of_decide_eq_true asE;obtain⟨gb,gp,bm⟩:=Kd.at_int dl.out a5 cf cg
          cases gp
          replace bm:=(HB.out.cell (World.block_lt_of_cell? w _ bm)).trans bm;replace cf:=eq_true cf;replace cg:=eq_true cg;have f8:0<=(a5:Int):=of_decide_eq_true asE;have f9:a5<(ah.length:Int):=of_decide_eq_true asE;obtain⟨gy,io,bz⟩:=Kd.at_int dl.out a5 f8 f9;obtain rfl:gb=gy:=(by injection io)
          replace bz:=(HB.out.cell (World.block_lt_of_cell? w _ bz)).trans bz;replace f8:=eq_true f8;replace f9:=eq_true f9;go_wp2
          repeat(go_quiet (fail);try go_wp2)
          go_roundg k4
          case measure=>have:=dh.out;have:=di.out;have:=gl.out;have:=ga.out;omega
          case rel=>exact⟨(wrap64 (a5+1)),rsE,H',⟨by have:=dh.out;have:=di.out;have:=gl.out;have:=ga.out;omega⟩,⟨bkA G.out⟩,⟨hbA HB.out⟩⟩
       rw[if_pos gm]at H
       have c23b0:decide (J<(I.length:Int))=true:=decide_eq_true gm;clear gm;have H':=aK H;clear H;obtain⟨gq,gr,gs,gt,gu,gv⟩:=cell3 G;go_wp2
       repeat(go_quiet (fail);try go_wp2)
       go_loopg [5] k3 (fun kq v5 w'=> ∃(X:Int),v5= .int .i64 X/\Aside0 (recoupref21_May.l2 kq J X aa I ah=some r)/\Aside0 (kq<=k3)/\Aside0 (w'.heap[U]? =some (.cells #[(.slice ao aa.length aq),(.slice cj I.length ar),(.slice ap ah.length au)] 25 (0,0)))/\Aside0 (Below w.heap.size w w'))
       case atStart=>exact⟨(0),rsE,H',⟨Nat.le_refl _⟩,⟨bkA G.out⟩,⟨hbA HB.out⟩⟩
       case round=>
        clear H'
        (try clear c1);(try clear p1 p1);(try clear q1 q1);(try clear lp);(try clear c2);(try clear p2 p2);(try clear c4);(try clear c4b0);(try clear c4b1);(try clear p6 p6);(try clear c7);(try clear c8);(try clear c8b0);(try clear c9);(try clear c9b0);(try clear gc);(try clear c10b0);(try clear kp kp);(try clear kr kr);(try clear ks);(try clear ge);(try clear c12b0);(try clear gf);(try clear c14b0);(try clear gz);(try clear c16b0);(try clear g0);(try clear c17b0);(try clear gg);(try clear c18b0);(try clear gm);(try clear c23b0);(try clear dp dq dr ex ey ez);(try clear dt du dv e0 e1 e2);(try clear dw dx dy e3 e4 e5);(try clear dz d0 d1 e6 e7 e8);(try clear d2 d3 d4 e9 fa fb);(try clear d5 d6 d7 fc fd fe);(try clear gq gr gs gt gu gv);(try clear cv cw cx db dc dd);(try clear cy cz da de df dg);(try clear ax);(try clear a0);(try clear bp);(try clear bq);(try clear bn);(try clear br);(try clear ck);(try clear cl);(try clear bo);(try clear bs);(try clear cm);(try clear cn)
        obtain⟨X,rfl,HA,ga,G,HB⟩:=hrel
        cases gk with
        |zero=>exact absurd HA.out (by simp[recoupref21_May.l2])
        |succ k4=>
         have H:=HA.out;clear HA;simp only[recoupref21_May.l2]at H;by_cases ie:0<=J
         case neg=>rw[if_neg ie]at H;exact absurd H zac
         rw[if_pos ie]at H
         have c25b0:decide (0<=J)=true:=decide_eq_true ie;clear ie;by_cases ig:J<(I.length:Int)
         case neg=>rw[if_neg ig]at H;exact absurd H zac
         rw[if_pos ig]at H
         have c26b0:decide (J<(I.length:Int))=true:=decide_eq_true ig;clear ig;by_cases g1:X<((rd_L5 I J).length:Int)
         case neg=>
          rw[if_neg g1]at H
          have c27b0:decide (X<((rd_L5 I J).length:Int))=false:=decide_eq_false g1;clear g1;have H':=aK H;clear H;obtain⟨jc,jd,je,j1,j2,j3⟩:=cell3 G;have a7:0<=(J:Int):=of_decide_eq_true asE;have a8:J<(I.length:Int):=of_decide_eq_true asE;obtain⟨ab,ch,ci,b4,ai,az,ay⟩:=at_L5 a9.out J a7 a8
          cases b4
          replace ai:=(HB.out.cell (World.block_lt_of_cell? w _ ai)).trans ai;have b3:=aK ay;have b2:=aK az;clear ay az;replace a7:=eq_true a7;replace a8:=eq_true a8;go_wp2
          repeat(go_quiet (fail);try go_wp2)
          go_roundg k4
          case measure=>have:=dh.out;have:=di.out;have:=gl.out;have:=ga.out;omega
          case rel=>exact⟨(wrap64 (J+1)),rsE,H',⟨by have:=dh.out;have:=di.out;have:=gl.out;have:=ga.out;omega⟩,⟨bkA G.out⟩,⟨hbA HB.out⟩⟩
         rw[if_pos g1]at H
         have c27b0:decide (X<((rd_L5 I J).length:Int))=true:=decide_eq_true g1;clear g1;by_cases ii:0<=X
         case neg=>rw[if_neg ii]at H;exact absurd H zac
         rw[if_pos ii]at H
         have c28b0:decide (0<=X)=true:=decide_eq_true ii;clear ii;by_cases gn:((rd_T61 (rd_L5 I J) X).f1)=0
         ·rw[if_pos gn]at H
          have c29b0:(((rd_T61 (rd_L5 I J) X).f1)==0)=true:=beq_iff_eq.mpr gn;have c29b1:(((rd_T61 (rd_L5 I J) X).f1)!=0)=false:=bne_eq_false_iff_eq.mpr gn;clear gn;obtain rfl:=Option.some.inj H;obtain⟨it,iu,iv,ji,jj,jk⟩:=cell3 G;have a7:0<=(J:Int):=of_decide_eq_true asE;have a8:J<(I.length:Int):=of_decide_eq_true asE;obtain⟨ab,ch,ci,b4,ai,az,ay⟩:=at_L5 a9.out J a7 a8
          cases b4
          replace ai:=(HB.out.cell (World.block_lt_of_cell? w _ ai)).trans ai;have b3:=aK ay;have b2:=aK az;clear ay az;replace a7:=eq_true a7;replace a8:=eq_true a8;have ba:0<=(J:Int):=of_decide_eq_true asE;have be:J<(I.length:Int):=of_decide_eq_true asE;obtain⟨bw,cp,cr,b7,aj,a3,a1⟩:=at_L5 a9.out J ba be;obtain rfl:ab=bw:=zav
          replace aj:=(HB.out.cell (World.block_lt_of_cell? w _ aj)).trans aj;have bj:=aK a1;have b5:=aK a3;clear a1 a3;replace ba:=eq_true ba;replace be:=eq_true be;have ea_:=Option.some.inj (ai.symm.trans aj);injection ea_ with ea_ en_ ec_;subst ea_;subst ec_;clear en_;have bb:0<=(X:Int):=of_decide_eq_true asE;have bf:X<((rd_L5 I J).length:Int):=of_decide_eq_true asE;obtain⟨dm,b8,av,aw⟩:=at_T61 bj.out X bb bf
          cases b8
          replace av:=(HB.out.cell (World.block_lt_of_cell? w _ av)).trans av;replace aw:=(HB.out.cell (World.block_lt_of_cell? w _ aw)).trans aw;replace bb:=eq_true bb;replace bf:=eq_true bf
          go_wp2_with (first|((with_reducible refine gD 6 rfl ?_);(try(refine gate_guard zae ?_;dsimp only));refine bE 6 #[.int .i64 0,.int .u8 0] 61 ?_;intro D hg g9 hbox hb;have ac:=aK (hbox);have an:=hbS HB hg;have bi:=hbS HB hg;replace HB:=hbB HB hb;have Z:=neL G hg;have ae:=neG G hg;replace G:=bkB G hb;clear hb hbox hg;have j7:=ae.out;have kd:=Z.out;obtain⟨d8,d9,ff,fg⟩:=cell2 ac))
          repeat(go_quiet (first|((with_reducible refine gate_dst (N:=6) rfl ?_);(try(refine gate_guard zae ?_;dsimp only));refine box_event ?hg (N:=6) ?hd (cs:= #[.int .i64 0,.int .u8 0]) (t:=61) ?hr ?_;(case hd=>rfl);(case hg=>rfl);(case hr=>first|(go_simp;done)|(go_simp;rfl));intro D hg g9 hbox hb;have n0_:=aK (blk_below (g:=U) (o:= .cells #[.slice ao aa.length aq,.slice (some ab) I.length ar,.slice ap ah.length au] 25 (0,0)) (bkA G.out) hb);have n1_:=aK (below_step (hbA HB.out) hb);have n2_:=aK (hbox);have n3_:=aK ((by rw[hg];exact(below_size (hbA HB.out)):w.heap.size<=D));have n4_:=aK ((by rw[hg];exact(below_size (hbA HB.out)):w.heap.size<=D));have n5_:=aK ((by rw[hg];exact Nat.ne_of_lt (blk_lt (g:=U) (o:= .cells #[.slice ao aa.length aq,.slice (some ab) I.length ar,.slice ap ah.length au] 25 (0,0)) (bkA G.out)):U≠D));have n6_:=aK ((by rw[hg];exact Nat.ne_of_gt (blk_lt (g:=U) (o:= .cells #[.slice ao aa.length aq,.slice (some ab) I.length ar,.slice ap ah.length au] 25 (0,0)) (bkA G.out)):D≠U));clear G;clear HB;have G:=n0_;have HB:=n1_;have ac:=n2_;have an:=n3_;have bi:=n4_;have Z:=n5_;have ae:=n6_;clear n0_ n1_ n2_ n3_ n4_ n5_ n6_;clear hb hbox hg;have j7:=ae.out;have kd:=Z.out;have d8:g9.cell? ⟨D,0,none⟩=some (.int .i64 0):=(blk_cell ac.out 0).trans rfl;have d9:g9.cell? ⟨D,1,none⟩=some (.int .u8 0):=(blk_cell ac.out 1).trans rfl;have ff:=blk_frozen ac.out 0;have fg:=blk_frozen ac.out 1));try go_wp2_with (first|((with_reducible refine gate_dst (N:=6) rfl ?_);(try(refine gate_guard zae ?_;dsimp only));refine box_event ?hg (N:=6) ?hd (cs:= #[.int .i64 0,.int .u8 0]) (t:=61) ?hr ?_;(case hd=>rfl);(case hg=>rfl);(case hr=>first|(go_simp;done)|(go_simp;rfl));intro D hg g9 hbox hb;have n0_:=aK (blk_below (g:=U) (o:= .cells #[.slice ao aa.length aq,.slice (some ab) I.length ar,.slice ap ah.length au] 25 (0,0)) (bkA G.out) hb);have n1_:=aK (below_step (hbA HB.out) hb);have n2_:=aK (hbox);have n3_:=aK ((by rw[hg];exact(below_size (hbA HB.out)):w.heap.size<=D));have n4_:=aK ((by rw[hg];exact(below_size (hbA HB.out)):w.heap.size<=D));have n5_:=aK ((by rw[hg];exact Nat.ne_of_lt (blk_lt (g:=U) (o:= .cells #[.slice ao aa.length aq,.slice (some ab) I.length ar,.slice ap ah.length au] 25 (0,0)) (bkA G.out)):U≠D));have n6_:=aK ((by rw[hg];exact Nat.ne_of_gt (blk_lt (g:=U) (o:= .cells #[.slice ao aa.length aq,.slice (some ab) I.length ar,.slice ap ah.length au] 25 (0,0)) (bkA G.out)):D≠U));clear G;clear HB;have G:=n0_;have HB:=n1_;have ac:=n2_;have an:=n3_;have bi:=n4_;have Z:=n5_;have ae:=n6_;clear n0_ n1_ n2_ n3_ n4_ n5_ n6_;clear hb hbox hg;have j7:=ae.out;have kd:=Z.out;have d8:g9.cell? ⟨D,0,none⟩=some (.int .i64 0):=(blk_cell ac.out 0).trans rfl;have d9:g9.cell? ⟨D,1,none⟩=some (.int .u8 0):=(blk_cell ac.out 1).trans rfl;have ff:=blk_frozen ac.out 0;have fg:=blk_frozen ac.out 1)))
          go_ret
          exact⟨rfE,hbA HB.out⟩
         rw[if_neg gn]at H
         have c29b0:(((rd_T61 (rd_L5 I J) X).f1)==0)=false:=beq_eq_false_iff_ne.mpr gn;have c29b1:(((rd_T61 (rd_L5 I J) X).f1)!=0)=true:=bne_iff_ne.mpr gn;by_cases g2:((rd_T61 (rd_L5 I J) X).f0)<0
         ·rw[if_pos g2]at H
          have c34b0:decide (((rd_T61 (rd_L5 I J) X).f0)<0)=true:=decide_eq_true g2;clear g2;obtain rfl:=Option.some.inj H;obtain⟨iw,ix,iy,jl,jm,jn⟩:=cell3 G;have a7:0<=(J:Int):=of_decide_eq_true asE;have a8:J<(I.length:Int):=of_decide_eq_true asE;obtain⟨ab,ch,ci,b4,ai,az,ay⟩:=at_L5 a9.out J a7 a8
          cases b4
          replace ai:=(HB.out.cell (World.block_lt_of_cell? w _ ai)).trans ai;have b3:=aK ay;have b2:=aK az;clear ay az;replace a7:=eq_true a7;replace a8:=eq_true a8;have ba:0<=(J:Int):=of_decide_eq_true asE;have be:J<(I.length:Int):=of_decide_eq_true asE;obtain⟨bw,cp,cr,b7,aj,a3,a1⟩:=at_L5 a9.out J ba be;obtain rfl:ab=bw:=zav
          replace aj:=(HB.out.cell (World.block_lt_of_cell? w _ aj)).trans aj;have bj:=aK a1;have b5:=aK a3;clear a1 a3;replace ba:=eq_true ba;replace be:=eq_true be;have ea_:=Option.some.inj (ai.symm.trans aj);injection ea_ with ea_ en_ ec_;subst ea_;subst ec_;clear en_;have bb:0<=(X:Int):=of_decide_eq_true asE;have bf:X<((rd_L5 I J).length:Int):=of_decide_eq_true asE;obtain⟨dm,b8,av,aw⟩:=at_T61 bj.out X bb bf
          cases b8
          replace av:=(HB.out.cell (World.block_lt_of_cell? w _ av)).trans av;replace aw:=(HB.out.cell (World.block_lt_of_cell? w _ aw)).trans aw;replace bb:=eq_true bb;replace bf:=eq_true bf
          go_wp2_with (first|((with_reducible refine gD 6 rfl ?_);(try(refine gate_guard zae ?_;dsimp only));refine bE 6 #[.int .i64 0,.int .u8 0] 61 ?_;intro D hg ia hbox hb;have ac:=aK (hbox);have an:=hbS HB hg;have bi:=hbS HB hg;replace HB:=hbB HB hb;have Z:=neL G hg;have ae:=neG G hg;replace G:=bkB G hb;clear hb hbox hg;have j8:=ae.out;have ke:=Z.out;obtain⟨ea,eb,fh,fi⟩:=cell2 ac))
          repeat(go_quiet (first|((with_reducible refine gate_dst (N:=6) rfl ?_);(try(refine gate_guard zae ?_;dsimp only));refine box_event ?hg (N:=6) ?hd (cs:= #[.int .i64 0,.int .u8 0]) (t:=61) ?hr ?_;(case hd=>rfl);(case hg=>rfl);(case hr=>first|(go_simp;done)|(go_simp;rfl));intro D hg ia hbox hb;have n0_:=aK (blk_below (g:=U) (o:= .cells #[.slice ao aa.length aq,.slice (some ab) I.length ar,.slice ap ah.length au] 25 (0,0)) (bkA G.out) hb);have n1_:=aK (below_step (hbA HB.out) hb);have n2_:=aK (hbox);have n3_:=aK ((by rw[hg];exact(below_size (hbA HB.out)):w.heap.size<=D));have n4_:=aK ((by rw[hg];exact(below_size (hbA HB.out)):w.heap.size<=D));have n5_:=aK ((by rw[hg];exact Nat.ne_of_lt (blk_lt (g:=U) (o:= .cells #[.slice ao aa.length aq,.slice (some ab) I.length ar,.slice ap ah.length au] 25 (0,0)) (bkA G.out)):U≠D));have n6_:=aK ((by rw[hg];exact Nat.ne_of_gt (blk_lt (g:=U) (o:= .cells #[.slice ao aa.length aq,.slice (some ab) I.length ar,.slice ap ah.length au] 25 (0,0)) (bkA G.out)):D≠U));clear G;clear HB;have G:=n0_;have HB:=n1_;have ac:=n2_;have an:=n3_;have bi:=n4_;have Z:=n5_;have ae:=n6_;clear n0_ n1_ n2_ n3_ n4_ n5_ n6_;clear hb hbox hg;have j8:=ae.out;have ke:=Z.out;have ea:ia.cell? ⟨D,0,none⟩=some (.int .i64 0):=(blk_cell ac.out 0).trans rfl;have eb:ia.cell? ⟨D,1,none⟩=some (.int .u8 0):=(blk_cell ac.out 1).trans rfl;have fh:=blk_frozen ac.out 0;have fi:=blk_frozen ac.out 1));try go_wp2_with (first|((with_reducible refine gate_dst (N:=6) rfl ?_);(try(refine gate_guard zae ?_;dsimp only));refine box_event ?hg (N:=6) ?hd (cs:= #[.int .i64 0,.int .u8 0]) (t:=61) ?hr ?_;(case hd=>rfl);(case hg=>rfl);(case hr=>first|(go_simp;done)|(go_simp;rfl));intro D hg ia hbox hb;have n0_:=aK (blk_below (g:=U) (o:= .cells #[.slice ao aa.length aq,.slice (some ab) I.length ar,.slice ap ah.length au] 25 (0,0)) (bkA G.out) hb);have n1_:=aK (below_step (hbA HB.out) hb);have n2_:=aK (hbox);have n3_:=aK ((by rw[hg];exact(below_size (hbA HB.out)):w.heap.size<=D));have n4_:=aK ((by rw[hg];exact(below_size (hbA HB.out)):w.heap.size<=D));have n5_:=aK ((by rw[hg];exact Nat.ne_of_lt (blk_lt (g:=U) (o:= .cells #[.slice ao aa.length aq,.slice (some ab) I.length ar,.slice ap ah.length au] 25 (0,0)) (bkA G.out)):U≠D));have n6_:=aK ((by rw[hg];exact Nat.ne_of_gt (blk_lt (g:=U) (o:= .cells #[.slice ao aa.length aq,.slice (some ab) I.length ar,.slice ap ah.length au] 25 (0,0)) (bkA G.out)):D≠U));clear G;clear HB;have G:=n0_;have HB:=n1_;have ac:=n2_;have an:=n3_;have bi:=n4_;have Z:=n5_;have ae:=n6_;clear n0_ n1_ n2_ n3_ n4_ n5_ n6_;clear hb hbox hg;have j8:=ae.out;have ke:=Z.out;have ea:ia.cell? ⟨D,0,none⟩=some (.int .i64 0):=(blk_cell ac.out 0).trans rfl;have eb:ia.cell? ⟨D,1,none⟩=some (.int .u8 0):=(blk_cell ac.out 1).trans rfl;have fh:=blk_frozen ac.out 0;have fi:=blk_frozen ac.out 1)))
          go_ret
          exact⟨rfE,hbA HB.out⟩
         rw[if_neg g2]at H
         have c34b0:decide (((rd_T61 (rd_L5 I J) X).f0)<0)=false:=decide_eq_false g2;clear g2;by_cases g3:((rd_T61 (rd_L5 I J) X).f0)>=(wrap64 ((aa.length:Int)+J))
         ·rw[if_pos g3]at H
          have c39b0:decide ((wrap64 ((aa.length:Int)+J))<=((rd_T61 (rd_L5 I J) X).f0))=true:=decide_eq_true g3;clear g3;obtain rfl:=Option.some.inj H;obtain⟨iz,i1,i2,jo,jp,jq⟩:=cell3 G;have a7:0<=(J:Int):=of_decide_eq_true asE;have a8:J<(I.length:Int):=of_decide_eq_true asE;obtain⟨ab,ch,ci,b4,ai,az,ay⟩:=at_L5 a9.out J a7 a8
          cases b4
          replace ai:=(HB.out.cell (World.block_lt_of_cell? w _ ai)).trans ai;have b3:=aK ay;have b2:=aK az;clear ay az;replace a7:=eq_true a7;replace a8:=eq_true a8;have ba:0<=(J:Int):=of_decide_eq_true asE;have be:J<(I.length:Int):=of_decide_eq_true asE;obtain⟨bw,cp,cr,b7,aj,a3,a1⟩:=at_L5 a9.out J ba be;obtain rfl:ab=bw:=zav
          replace aj:=(HB.out.cell (World.block_lt_of_cell? w _ aj)).trans aj;have bj:=aK a1;have b5:=aK a3;clear a1 a3;replace ba:=eq_true ba;replace be:=eq_true be;have ea_:=Option.some.inj (ai.symm.trans aj);injection ea_ with ea_ en_ ec_;subst ea_;subst ec_;clear en_;have bb:0<=(X:Int):=of_decide_eq_true asE;have bf:X<((rd_L5 I J).length:Int):=of_decide_eq_true asE;obtain⟨dm,b8,av,aw⟩:=at_T61 bj.out X bb bf
          cases b8
          replace av:=(HB.out.cell (World.block_lt_of_cell? w _ av)).trans av;replace aw:=(HB.out.cell (World.block_lt_of_cell? w _ aw)).trans aw;replace bb:=eq_true bb;replace bf:=eq_true bf
          go_wp2_with (first|((with_reducible refine gD 6 rfl ?_);(try(refine gate_guard zae ?_;dsimp only));refine bE 6 #[.int .i64 0,.int .u8 0] 61 ?_;intro D hg dj hbox hb;have ac:=aK (hbox);have an:=hbS HB hg;have bi:=hbS HB hg;replace HB:=hbB HB hb;have Z:=neL G hg;have ae:=neG G hg;replace G:=bkB G hb;clear hb hbox hg;have j9:=ae.out;have kf:=Z.out;obtain⟨ec,ed,fj,fk⟩:=cell2 ac;obtain⟨ee,ef,eg,fl,fm,fo⟩:=cell3 G))
          repeat(go_quiet (first|((with_reducible refine gate_dst (N:=6) rfl ?_);(try(refine gate_guard zae ?_;dsimp only));refine box_event ?hg (N:=6) ?hd (cs:= #[.int .i64 0,.int .u8 0]) (t:=61) ?hr ?_;(case hd=>rfl);(case hg=>rfl);(case hr=>first|(go_simp;done)|(go_simp;rfl));intro D hg dj hbox hb;have n0_:=aK (blk_below (g:=U) (o:= .cells #[.slice ao aa.length aq,.slice (some ab) I.length ar,.slice ap ah.length au] 25 (0,0)) (bkA G.out) hb);have n1_:=aK (below_step (hbA HB.out) hb);have n2_:=aK (hbox);have n3_:=aK ((by rw[hg];exact(below_size (hbA HB.out)):w.heap.size<=D));have n4_:=aK ((by rw[hg];exact(below_size (hbA HB.out)):w.heap.size<=D));have n5_:=aK ((by rw[hg];exact Nat.ne_of_lt (blk_lt (g:=U) (o:= .cells #[.slice ao aa.length aq,.slice (some ab) I.length ar,.slice ap ah.length au] 25 (0,0)) (bkA G.out)):U≠D));have n6_:=aK ((by rw[hg];exact Nat.ne_of_gt (blk_lt (g:=U) (o:= .cells #[.slice ao aa.length aq,.slice (some ab) I.length ar,.slice ap ah.length au] 25 (0,0)) (bkA G.out)):D≠U));clear G;clear HB;have G:=n0_;have HB:=n1_;have ac:=n2_;have an:=n3_;have bi:=n4_;have Z:=n5_;have ae:=n6_;clear n0_ n1_ n2_ n3_ n4_ n5_ n6_;clear hb hbox hg;have j9:=ae.out;have kf:=Z.out;have ec:dj.cell? ⟨D,0,none⟩=some (.int .i64 0):=(blk_cell ac.out 0).trans rfl;have ed:dj.cell? ⟨D,1,none⟩=some (.int .u8 0):=(blk_cell ac.out 1).trans rfl;have fj:=blk_frozen ac.out 0;have fk:=blk_frozen ac.out 1;have ee:dj.cell? ⟨U,0,none⟩=some (.slice ao aa.length aq):=(blk_cell G.out 0).trans rfl;have ef:dj.cell? ⟨U,1,none⟩=some (.slice (some ab) I.length ar):=(blk_cell G.out 1).trans rfl;have eg:dj.cell? ⟨U,2,none⟩=some (.slice ap ah.length au):=(blk_cell G.out 2).trans rfl;have fl:=blk_frozen G.out 0;have fm:=blk_frozen G.out 1;have fo:=blk_frozen G.out 2));try go_wp2_with (first|((with_reducible refine gate_dst (N:=6) rfl ?_);(try(refine gate_guard zae ?_;dsimp only));refine box_event ?hg (N:=6) ?hd (cs:= #[.int .i64 0,.int .u8 0]) (t:=61) ?hr ?_;(case hd=>rfl);(case hg=>rfl);(case hr=>first|(go_simp;done)|(go_simp;rfl));intro D hg dj hbox hb;have n0_:=aK (blk_below (g:=U) (o:= .cells #[.slice ao aa.length aq,.slice (some ab) I.length ar,.slice ap ah.length au] 25 (0,0)) (bkA G.out) hb);have n1_:=aK (below_step (hbA HB.out) hb);have n2_:=aK (hbox);have n3_:=aK ((by rw[hg];exact(below_size (hbA HB.out)):w.heap.size<=D));have n4_:=aK ((by rw[hg];exact(below_size (hbA HB.out)):w.heap.size<=D));have n5_:=aK ((by rw[hg];exact Nat.ne_of_lt (blk_lt (g:=U) (o:= .cells #[.slice ao aa.length aq,.slice (some ab) I.length ar,.slice ap ah.length au] 25 (0,0)) (bkA G.out)):U≠D));have n6_:=aK ((by rw[hg];exact Nat.ne_of_gt (blk_lt (g:=U) (o:= .cells #[.slice ao aa.length aq,.slice (some ab) I.length ar,.slice ap ah.length au] 25 (0,0)) (bkA G.out)):D≠U));clear G;clear HB;have G:=n0_;have HB:=n1_;have ac:=n2_;have an:=n3_;have bi:=n4_;have Z:=n5_;have ae:=n6_;clear n0_ n1_ n2_ n3_ n4_ n5_ n6_;clear hb hbox hg;have j9:=ae.out;have kf:=Z.out;have ec:dj.cell? ⟨D,0,none⟩=some (.int .i64 0):=(blk_cell ac.out 0).trans rfl;have ed:dj.cell? ⟨D,1,none⟩=some (.int .u8 0):=(blk_cell ac.out 1).trans rfl;have fj:=blk_frozen ac.out 0;have fk:=blk_frozen ac.out 1;have ee:dj.cell? ⟨U,0,none⟩=some (.slice ao aa.length aq):=(blk_cell G.out 0).trans rfl;have ef:dj.cell? ⟨U,1,none⟩=some (.slice (some ab) I.length ar):=(blk_cell G.out 1).trans rfl;have eg:dj.cell? ⟨U,2,none⟩=some (.slice ap ah.length au):=(blk_cell G.out 2).trans rfl;have fl:=blk_frozen G.out 0;have fm:=blk_frozen G.out 1;have fo:=blk_frozen G.out 2)))
          go_ret
          exact⟨rfE,hbA HB.out⟩
         rw[if_neg g3]at H
         have c39b0:decide ((wrap64 ((aa.length:Int)+J))<=((rd_T61 (rd_L5 I J) X).f0))=false:=decide_eq_false g3;clear g3;by_cases g4:X>0
         case neg=>
          rw[if_neg g4]at H
          have c45b0:decide (0<X)=false:=decide_eq_false g4;clear g4;have H':=aK H;clear H;obtain⟨i9,ja,jb,jx,jy,jz⟩:=cell3 G;have a7:0<=(J:Int):=of_decide_eq_true asE;have a8:J<(I.length:Int):=of_decide_eq_true asE;obtain⟨ab,ch,ci,b4,ai,az,ay⟩:=at_L5 a9.out J a7 a8
          cases b4
          replace ai:=(HB.out.cell (World.block_lt_of_cell? w _ ai)).trans ai;have b3:=aK ay;have b2:=aK az;clear ay az;replace a7:=eq_true a7;replace a8:=eq_true a8;have ba:0<=(J:Int):=of_decide_eq_true asE;have be:J<(I.length:Int):=of_decide_eq_true asE;obtain⟨bw,cp,cr,b7,aj,a3,a1⟩:=at_L5 a9.out J ba be;obtain rfl:ab=bw:=zav
          replace aj:=(HB.out.cell (World.block_lt_of_cell? w _ aj)).trans aj;have bj:=aK a1;have b5:=aK a3;clear a1 a3;replace ba:=eq_true ba;replace be:=eq_true be;have ea_:=Option.some.inj (ai.symm.trans aj);injection ea_ with ea_ en_ ec_;subst ea_;subst ec_;clear en_;have bb:0<=(X:Int):=of_decide_eq_true asE;have bf:X<((rd_L5 I J).length:Int):=of_decide_eq_true asE;obtain⟨dm,b8,av,aw⟩:=at_T61 bj.out X bb bf
          cases b8
          replace av:=(HB.out.cell (World.block_lt_of_cell? w _ av)).trans av;replace aw:=(HB.out.cell (World.block_lt_of_cell? w _ aw)).trans aw;replace bb:=eq_true bb;replace bf:=eq_true bf
          go_wp2_with (first|((with_reducible refine gD 6 rfl ?_);(try(refine gate_guard zae ?_;dsimp only));refine bE 6 #[.int .i64 0,.int .u8 0] 61 ?_;intro D hg dk hbox hb;have ac:=aK (hbox);have an:=hbS HB hg;have bi:=hbS HB hg;replace HB:=hbB HB hb;have Z:=neL G hg;have ae:=neG G hg;replace G:=bkB G hb;clear hb hbox hg;have kc:=ae.out;have kj:=Z.out;obtain⟨es,et,f3,f4⟩:=cell2 ac;obtain⟨eu,ev,ew,f5,f6,f7⟩:=cell3 G))
          repeat(go_quiet (first|((with_reducible refine gate_dst (N:=6) rfl ?_);(try(refine gate_guard zae ?_;dsimp only));refine box_event ?hg (N:=6) ?hd (cs:= #[.int .i64 0,.int .u8 0]) (t:=61) ?hr ?_;(case hd=>rfl);(case hg=>rfl);(case hr=>first|(go_simp;done)|(go_simp;rfl));intro D hg dk hbox hb;have n0_:=aK (blk_below (g:=U) (o:= .cells #[.slice ao aa.length aq,.slice (some ab) I.length ar,.slice ap ah.length au] 25 (0,0)) (bkA G.out) hb);have n1_:=aK (below_step (hbA HB.out) hb);have n2_:=aK (hbox);have n3_:=aK ((by rw[hg];exact(below_size (hbA HB.out)):w.heap.size<=D));have n4_:=aK ((by rw[hg];exact(below_size (hbA HB.out)):w.heap.size<=D));have n5_:=aK ((by rw[hg];exact Nat.ne_of_lt (blk_lt (g:=U) (o:= .cells #[.slice ao aa.length aq,.slice (some ab) I.length ar,.slice ap ah.length au] 25 (0,0)) (bkA G.out)):U≠D));have n6_:=aK ((by rw[hg];exact Nat.ne_of_gt (blk_lt (g:=U) (o:= .cells #[.slice ao aa.length aq,.slice (some ab) I.length ar,.slice ap ah.length au] 25 (0,0)) (bkA G.out)):D≠U));clear G;clear HB;have G:=n0_;have HB:=n1_;have ac:=n2_;have an:=n3_;have bi:=n4_;have Z:=n5_;have ae:=n6_;clear n0_ n1_ n2_ n3_ n4_ n5_ n6_;clear hb hbox hg;have kc:=ae.out;have kj:=Z.out;have es:dk.cell? ⟨D,0,none⟩=some (.int .i64 0):=(blk_cell ac.out 0).trans rfl;have et:dk.cell? ⟨D,1,none⟩=some (.int .u8 0):=(blk_cell ac.out 1).trans rfl;have f3:=blk_frozen ac.out 0;have f4:=blk_frozen ac.out 1;have eu:dk.cell? ⟨U,0,none⟩=some (.slice ao aa.length aq):=(blk_cell G.out 0).trans rfl;have ev:dk.cell? ⟨U,1,none⟩=some (.slice (some ab) I.length ar):=(blk_cell G.out 1).trans rfl;have ew:dk.cell? ⟨U,2,none⟩=some (.slice ap ah.length au):=(blk_cell G.out 2).trans rfl;have f5:=blk_frozen G.out 0;have f6:=blk_frozen G.out 1;have f7:=blk_frozen G.out 2));try go_wp2_with (first|((with_reducible refine gate_dst (N:=6) rfl ?_);(try(refine gate_guard zae ?_;dsimp only));refine box_event ?hg (N:=6) ?hd (cs:= #[.int .i64 0,.int .u8 0]) (t:=61) ?hr ?_;(case hd=>rfl);(case hg=>rfl);(case hr=>first|(go_simp;done)|(go_simp;rfl));intro D hg dk hbox hb;have n0_:=aK (blk_below (g:=U) (o:= .cells #[.slice ao aa.length aq,.slice (some ab) I.length ar,.slice ap ah.length au] 25 (0,0)) (bkA G.out) hb);have n1_:=aK (below_step (hbA HB.out) hb);have n2_:=aK (hbox);have n3_:=aK ((by rw[hg];exact(below_size (hbA HB.out)):w.heap.size<=D));have n4_:=aK ((by rw[hg];exact(below_size (hbA HB.out)):w.heap.size<=D));have n5_:=aK ((by rw[hg];exact Nat.ne_of_lt (blk_lt (g:=U) (o:= .cells #[.slice ao aa.length aq,.slice (some ab) I.length ar,.slice ap ah.length au] 25 (0,0)) (bkA G.out)):U≠D));have n6_:=aK ((by rw[hg];exact Nat.ne_of_gt (blk_lt (g:=U) (o:= .cells #[.slice ao aa.length aq,.slice (some ab) I.length ar,.slice ap ah.length au] 25 (0,0)) (bkA G.out)):D≠U));clear G;clear HB;have G:=n0_;have HB:=n1_;have ac:=n2_;have an:=n3_;have bi:=n4_;have Z:=n5_;have ae:=n6_;clear n0_ n1_ n2_ n3_ n4_ n5_ n6_;clear hb hbox hg;have kc:=ae.out;have kj:=Z.out;have es:dk.cell? ⟨D,0,none⟩=some (.int .i64 0):=(blk_cell ac.out 0).trans rfl;have et:dk.cell? ⟨D,1,none⟩=some (.int .u8 0):=(blk_cell ac.out 1).trans rfl;have f3:=blk_frozen ac.out 0;have f4:=blk_frozen ac.out 1;have eu:dk.cell? ⟨U,0,none⟩=some (.slice ao aa.length aq):=(blk_cell G.out 0).trans rfl;have ev:dk.cell? ⟨U,1,none⟩=some (.slice (some ab) I.length ar):=(blk_cell G.out 1).trans rfl;have ew:dk.cell? ⟨U,2,none⟩=some (.slice ap ah.length au):=(blk_cell G.out 2).trans rfl;have f5:=blk_frozen G.out 0;have f6:=blk_frozen G.out 1;have f7:=blk_frozen G.out 2)))
          go_roundg k4
          case measure=>have:=dh.out;have:=di.out;have:=gl.out;have:=ga.out;omega
          case rel=>exact⟨(wrap64 (X+1)),rsE,H',⟨by have:=dh.out;have:=di.out;have:=gl.out;have:=ga.out;omega⟩,⟨by refine bkR ?_;refine blk_far ?_ Z.out _;refine bkR ?_;refine blk_far ?_ Z.out _;refine bkR ?_;exact G.out⟩,⟨hbA HB.out⟩⟩
         rw[if_pos g4]at H
         have c45b0:decide (0<X)=true:=decide_eq_true g4;clear g4;obtain⟨a6,gi⟩: ∃j_:Int,(wrap64 (X-1))=j_:=⟨_,rfl⟩
         replace H:(if 0<=(a6)then(if(a6)<((rd_L5 I J).length:Int)then(if((rd_T61 (rd_L5 I J) X).f0)<=((rd_T61 (rd_L5 I J) (a6)).f0)then(some false)else(recoupref21_May.l2 k4 J (wrap64 (X+1)) aa I ah))else(none))else(none))=some r:=by first|(rw[gi]at H;exact H)|(simp only[gi]at H⊢;exact H)
         have hji46w:(IntKind.i64.wrap (X-1))=a6:=(i64_w _).trans gi;by_cases ij:0<=(a6)
         case neg=>rw[if_neg ij]at H;exact absurd H zac
         rw[if_pos ij]at H
         have c47b0:decide (0<=(a6))=true:=decide_eq_true ij;clear ij;by_cases ik:(a6)<((rd_L5 I J).length:Int)
         case neg=>rw[if_neg ik]at H;exact absurd H zac
         rw[if_pos ik]at H
         have c48b0:decide ((a6)<((rd_L5 I J).length:Int))=true:=decide_eq_true ik;clear ik;by_cases g5:((rd_T61 (rd_L5 I J) X).f0)<=((rd_T61 (rd_L5 I J) (a6)).f0)
         ·rw[if_pos g5]at H
          have c49b0:decide (((rd_T61 (rd_L5 I J) X).f0)<=((rd_T61 (rd_L5 I J) (a6)).f0))=true:=decide_eq_true g5;clear g5;obtain rfl:=Option.some.inj H;obtain⟨i3,i4,i5,jr,js,jt⟩:=cell3 G;have a7:0<=(J:Int):=of_decide_eq_true asE;have a8:J<(I.length:Int):=of_decide_eq_true asE;obtain⟨ab,ch,ci,b4,ai,az,ay⟩:=at_L5 a9.out J a7 a8
          cases b4
          replace ai:=(HB.out.cell (World.block_lt_of_cell? w _ ai)).trans ai;have b3:=aK ay;have b2:=aK az;clear ay az;replace a7:=eq_true a7;replace a8:=eq_true a8;have ba:0<=(J:Int):=of_decide_eq_true asE;have be:J<(I.length:Int):=of_decide_eq_true asE;obtain⟨bw,cp,cr,b7,aj,a3,a1⟩:=at_L5 a9.out J ba be;obtain rfl:ab=bw:=zav
          replace aj:=(HB.out.cell (World.block_lt_of_cell? w _ aj)).trans aj;have bj:=aK a1;have b5:=aK a3;clear a1 a3;replace ba:=eq_true ba;replace be:=eq_true be;have ea_:=Option.some.inj (ai.symm.trans aj);injection ea_ with ea_ en_ ec_;subst ea_;subst ec_;clear en_;have bb:0<=(X:Int):=of_decide_eq_true asE;have bf:X<((rd_L5 I J).length:Int):=of_decide_eq_true asE;obtain⟨dm,b8,av,aw⟩:=at_T61 bj.out X bb bf
          cases b8
          replace av:=(HB.out.cell (World.block_lt_of_cell? w _ av)).trans av;replace aw:=(HB.out.cell (World.block_lt_of_cell? w _ aw)).trans aw;replace bb:=eq_true bb;replace bf:=eq_true bf
          go_wp2_with (first|((with_reducible refine gD 6 rfl ?_);(try(refine gate_guard zae ?_;dsimp only));refine bE 6 #[.int .i64 0,.int .u8 0] 61 ?_;intro D hg b0 hbox hb;have ac:=aK (hbox);have an:=hbS HB hg;have bi:=hbS HB hg;replace HB:=hbB HB hb;have Z:=neL G hg;have ae:=neG G hg;replace G:=bkB G hb;clear hb hbox hg;have ka:=ae.out;have kg:=Z.out;obtain⟨eh,ei,fp,fq⟩:=cell2 ac;obtain⟨ej,ek,el,ft,fu,fv⟩:=cell3 G;have bc:0<=(J:Int):=of_decide_eq_true asE;have bg:J<(I.length:Int):=of_decide_eq_true asE;obtain⟨bx,cq,ct,b9,L,a4,a2⟩:=at_L5 a9.out J bc bg;obtain rfl:ab=bx:=zau;have ak:ab.block≠D:=Nat.ne_of_lt (Nat.lt_of_lt_of_le zap an.out);have al:ab.block≠D:=Nat.ne_of_lt (Nat.lt_of_lt_of_le zap an.out);replace L:=(HB.out.cell (World.block_lt_of_cell? w _ L)).trans L;have bk:=aK a2;have b6:=aK a4;clear a2 a4;replace L:=(cell_far (p:=⟨D,0,none⟩) zar (.int .i64 ((rd_T61 (rd_L5 I J) X).f0))).trans L;replace L:=(cell_far (p:=⟨D,1,none⟩) zaq (.int .u8 ((rd_T61 (rd_L5 I J) X).f1))).trans L;(try have cb:=fun(n_:Nat)=>(show((((b0.drewN n_).setCell ⟨D,0,none⟩ (.int .i64 ((rd_T61 (rd_L5 I J) X).f0))).setCell ⟨D,1,none⟩ (.int .u8 ((rd_T61 (rd_L5 I J) X).f1)))).cell? _=some _ from L));clear ak;clear al;replace bc:=eq_true bc;replace bg:=eq_true bg;have bd:0<=((a6):Int):=of_decide_eq_true asE;have bh:(a6)<((rd_L5 I J).length:Int):=of_decide_eq_true asE;obtain⟨bl,ca,O,Y⟩:=at_T61 bk.out (a6) bd bh;cases ca;have af:bl.block≠D:=Nat.ne_of_lt (Nat.lt_of_lt_of_le zao an.out);have ag:bl.block≠D:=Nat.ne_of_lt (Nat.lt_of_lt_of_le zao an.out);replace O:=(HB.out.cell (World.block_lt_of_cell? w _ O)).trans O;replace Y:=(HB.out.cell (World.block_lt_of_cell? w _ Y)).trans Y;replace O:=(cell_far (p:=⟨D,0,none⟩) zan (.int .i64 ((rd_T61 (rd_L5 I J) X).f0))).trans O;replace Y:=(cell_far (p:=⟨D,0,none⟩) zan (.int .i64 ((rd_T61 (rd_L5 I J) X).f0))).trans Y;replace O:=(cell_far (p:=⟨D,1,none⟩) zam (.int .u8 ((rd_T61 (rd_L5 I J) X).f1))).trans O;replace Y:=(cell_far (p:=⟨D,1,none⟩) zam (.int .u8 ((rd_T61 (rd_L5 I J) X).f1))).trans Y;(try have cd:=fun(n_:Nat)=>(show((((b0.drewN n_).setCell ⟨D,0,none⟩ (.int .i64 ((rd_T61 (rd_L5 I J) X).f0))).setCell ⟨D,1,none⟩ (.int .u8 ((rd_T61 (rd_L5 I J) X).f1)))).cell? _=some _ from O));(try have ce:=fun(n_:Nat)=>(show((((b0.drewN n_).setCell ⟨D,0,none⟩ (.int .i64 ((rd_T61 (rd_L5 I J) X).f0))).setCell ⟨D,1,none⟩ (.int .u8 ((rd_T61 (rd_L5 I J) X).f1)))).cell? _=some _ from Y));clear af;clear ag;replace bd:=eq_true bd;replace bh:=eq_true bh))
          repeat(go_quiet (first|((with_reducible refine gate_dst (N:=6) rfl ?_);(try(refine gate_guard zae ?_;dsimp only));refine box_event ?hg (N:=6) ?hd (cs:= #[.int .i64 0,.int .u8 0]) (t:=61) ?hr ?_;(case hd=>rfl);(case hg=>rfl);(case hr=>first|(go_simp;done)|(go_simp;rfl));intro D hg b0 hbox hb;have n0_:=aK (blk_below (g:=U) (o:= .cells #[.slice ao aa.length aq,.slice (some ab) I.length ar,.slice ap ah.length au] 25 (0,0)) (bkA G.out) hb);have n1_:=aK (below_step (hbA HB.out) hb);have n2_:=aK (hbox);have n3_:=aK ((by rw[hg];exact(below_size (hbA HB.out)):w.heap.size<=D));have n4_:=aK ((by rw[hg];exact(below_size (hbA HB.out)):w.heap.size<=D));have n5_:=aK ((by rw[hg];exact Nat.ne_of_lt (blk_lt (g:=U) (o:= .cells #[.slice ao aa.length aq,.slice (some ab) I.length ar,.slice ap ah.length au] 25 (0,0)) (bkA G.out)):U≠D));have n6_:=aK ((by rw[hg];exact Nat.ne_of_gt (blk_lt (g:=U) (o:= .cells #[.slice ao aa.length aq,.slice (some ab) I.length ar,.slice ap ah.length au] 25 (0,0)) (bkA G.out)):D≠U));clear G;clear HB;have G:=n0_;have HB:=n1_;have ac:=n2_;have an:=n3_;have bi:=n4_;have Z:=n5_;have ae:=n6_;clear n0_ n1_ n2_ n3_ n4_ n5_ n6_;clear hb hbox hg;have ka:=ae.out;have kg:=Z.out;have eh:b0.cell? ⟨D,0,none⟩=some (.int .i64 0):=(blk_cell ac.out 0).trans rfl;have ei:b0.cell? ⟨D,1,none⟩=some (.int .u8 0):=(blk_cell ac.out 1).trans rfl;have fp:=blk_frozen ac.out 0;have fq:=blk_frozen ac.out 1;have ej:b0.cell? ⟨U,0,none⟩=some (.slice ao aa.length aq):=(blk_cell G.out 0).trans rfl;have ek:b0.cell? ⟨U,1,none⟩=some (.slice (some ab) I.length ar):=(blk_cell G.out 1).trans rfl;have el:b0.cell? ⟨U,2,none⟩=some (.slice ap ah.length au):=(blk_cell G.out 2).trans rfl;have ft:=blk_frozen G.out 0;have fu:=blk_frozen G.out 1;have fv:=blk_frozen G.out 2;have bc:0<=(J:Int):=of_decide_eq_true asE;have bg:J<(I.length:Int):=of_decide_eq_true asE;obtain⟨bx,cq,ct,b9,L,a4,a2⟩:=at_L5 a9.out J bc bg;obtain rfl:ab=bx:=zau;have ak:ab.block≠D:=Nat.ne_of_lt (Nat.lt_of_lt_of_le zap an.out);have al:ab.block≠D:=Nat.ne_of_lt (Nat.lt_of_lt_of_le zap an.out);replace L:=(HB.out.cell (World.block_lt_of_cell? w _ L)).trans L;have bk:=aK a2;have b6:=aK a4;clear a2 a4;replace L:=(cell_far (p:=⟨D,0,none⟩) zar (.int .i64 ((rd_T61 (rd_L5 I J) X).f0))).trans L;replace L:=(cell_far (p:=⟨D,1,none⟩) zaq (.int .u8 ((rd_T61 (rd_L5 I J) X).f1))).trans L;(try have cb:=fun(n_:Nat)=>(show((((b0.drewN n_).setCell ⟨D,0,none⟩ (.int .i64 ((rd_T61 (rd_L5 I J) X).f0))).setCell ⟨D,1,none⟩ (.int .u8 ((rd_T61 (rd_L5 I J) X).f1)))).cell? _=some _ from L));clear ak;clear al;replace bc:=eq_true bc;replace bg:=eq_true bg;have bd:0<=((a6):Int):=of_decide_eq_true asE;have bh:(a6)<((rd_L5 I J).length:Int):=of_decide_eq_true asE;obtain⟨bl,ca,O,Y⟩:=at_T61 bk.out (a6) bd bh;cases ca;have af:bl.block≠D:=Nat.ne_of_lt (Nat.lt_of_lt_of_le zao an.out);have ag:bl.block≠D:=Nat.ne_of_lt (Nat.lt_of_lt_of_le zao an.out);replace O:=(HB.out.cell (World.block_lt_of_cell? w _ O)).trans O;replace Y:=(HB.out.cell (World.block_lt_of_cell? w _ Y)).trans Y;replace O:=(cell_far (p:=⟨D,0,none⟩) zan (.int .i64 ((rd_T61 (rd_L5 I J) X).f0))).trans O;replace Y:=(cell_far (p:=⟨D,0,none⟩) zan (.int .i64 ((rd_T61 (rd_L5 I J) X).f0))).trans Y;replace O:=(cell_far (p:=⟨D,1,none⟩) zam (.int .u8 ((rd_T61 (rd_L5 I J) X).f1))).trans O;replace Y:=(cell_far (p:=⟨D,1,none⟩) zam (.int .u8 ((rd_T61 (rd_L5 I J) X).f1))).trans Y;(try have cd:=fun(n_:Nat)=>(show((((b0.drewN n_).setCell ⟨D,0,none⟩ (.int .i64 ((rd_T61 (rd_L5 I J) X).f0))).setCell ⟨D,1,none⟩ (.int .u8 ((rd_T61 (rd_L5 I J) X).f1)))).cell? _=some _ from O));(try have ce:=fun(n_:Nat)=>(show((((b0.drewN n_).setCell ⟨D,0,none⟩ (.int .i64 ((rd_T61 (rd_L5 I J) X).f0))).setCell ⟨D,1,none⟩ (.int .u8 ((rd_T61 (rd_L5 I J) X).f1)))).cell? _=some _ from Y));clear af;clear ag;replace bd:=eq_true bd;replace bh:=eq_true bh));try go_wp2_with (first|((with_reducible refine gate_dst (N:=6) rfl ?_);(try(refine gate_guard zae ?_;dsimp only));refine box_event ?hg (N:=6) ?hd (cs:= #[.int .i64 0,.int .u8 0]) (t:=61) ?hr ?_;(case hd=>rfl);(case hg=>rfl);(case hr=>first|(go_simp;done)|(go_simp;rfl));intro D hg b0 hbox hb;have n0_:=aK (blk_below (g:=U) (o:= .cells #[.slice ao aa.length aq,.slice (some ab) I.length ar,.slice ap ah.length au] 25 (0,0)) (bkA G.out) hb);have n1_:=aK (below_step (hbA HB.out) hb);have n2_:=aK (hbox);have n3_:=aK ((by rw[hg];exact(below_size (hbA HB.out)):w.heap.size<=D));have n4_:=aK ((by rw[hg];exact(below_size (hbA HB.out)):w.heap.size<=D));have n5_:=aK ((by rw[hg];exact Nat.ne_of_lt (blk_lt (g:=U) (o:= .cells #[.slice ao aa.length aq,.slice (some ab) I.length ar,.slice ap ah.length au] 25 (0,0)) (bkA G.out)):U≠D));have n6_:=aK ((by rw[hg];exact Nat.ne_of_gt (blk_lt (g:=U) (o:= .cells #[.slice ao aa.length aq,.slice (some ab) I.length ar,.slice ap ah.length au] 25 (0,0)) (bkA G.out)):D≠U));clear G;clear HB;have G:=n0_;have HB:=n1_;have ac:=n2_;have an:=n3_;have bi:=n4_;have Z:=n5_;have ae:=n6_;clear n0_ n1_ n2_ n3_ n4_ n5_ n6_;clear hb hbox hg;have ka:=ae.out;have kg:=Z.out;have eh:b0.cell? ⟨D,0,none⟩=some (.int .i64 0):=(blk_cell ac.out 0).trans rfl;have ei:b0.cell? ⟨D,1,none⟩=some (.int .u8 0):=(blk_cell ac.out 1).trans rfl;have fp:=blk_frozen ac.out 0;have fq:=blk_frozen ac.out 1;have ej:b0.cell? ⟨U,0,none⟩=some (.slice ao aa.length aq):=(blk_cell G.out 0).trans rfl;have ek:b0.cell? ⟨U,1,none⟩=some (.slice (some ab) I.length ar):=(blk_cell G.out 1).trans rfl;have el:b0.cell? ⟨U,2,none⟩=some (.slice ap ah.length au):=(blk_cell G.out 2).trans rfl;have ft:=blk_frozen G.out 0;have fu:=blk_frozen G.out 1;have fv:=blk_frozen G.out 2;have bc:0<=(J:Int):=of_decide_eq_true asE;have bg:J<(I.length:Int):=of_decide_eq_true asE;obtain⟨bx,cq,ct,b9,L,a4,a2⟩:=at_L5 a9.out J bc bg;obtain rfl:ab=bx:=zau;have ak:ab.block≠D:=Nat.ne_of_lt (Nat.lt_of_lt_of_le zap an.out);have al:ab.block≠D:=Nat.ne_of_lt (Nat.lt_of_lt_of_le zap an.out);replace L:=(HB.out.cell (World.block_lt_of_cell? w _ L)).trans L;have bk:=aK a2;have b6:=aK a4;clear a2 a4;replace L:=(cell_far (p:=⟨D,0,none⟩) zar (.int .i64 ((rd_T61 (rd_L5 I J) X).f0))).trans L;replace L:=(cell_far (p:=⟨D,1,none⟩) zaq (.int .u8 ((rd_T61 (rd_L5 I J) X).f1))).trans L;(try have cb:=fun(n_:Nat)=>(show((((b0.drewN n_).setCell ⟨D,0,none⟩ (.int .i64 ((rd_T61 (rd_L5 I J) X).f0))).setCell ⟨D,1,none⟩ (.int .u8 ((rd_T61 (rd_L5 I J) X).f1)))).cell? _=some _ from L));clear ak;clear al;replace bc:=eq_true bc;replace bg:=eq_true bg;have bd:0<=((a6):Int):=of_decide_eq_true asE;have bh:(a6)<((rd_L5 I J).length:Int):=of_decide_eq_true asE;obtain⟨bl,ca,O,Y⟩:=at_T61 bk.out (a6) bd bh;cases ca;have af:bl.block≠D:=Nat.ne_of_lt (Nat.lt_of_lt_of_le zao an.out);have ag:bl.block≠D:=Nat.ne_of_lt (Nat.lt_of_lt_of_le zao an.out);replace O:=(HB.out.cell (World.block_lt_of_cell? w _ O)).trans O;replace Y:=(HB.out.cell (World.block_lt_of_cell? w _ Y)).trans Y;replace O:=(cell_far (p:=⟨D,0,none⟩) zan (.int .i64 ((rd_T61 (rd_L5 I J) X).f0))).trans O;replace Y:=(cell_far (p:=⟨D,0,none⟩) zan (.int .i64 ((rd_T61 (rd_L5 I J) X).f0))).trans Y;replace O:=(cell_far (p:=⟨D,1,none⟩) zam (.int .u8 ((rd_T61 (rd_L5 I J) X).f1))).trans O;replace Y:=(cell_far (p:=⟨D,1,none⟩) zam (.int .u8 ((rd_T61 (rd_L5 I J) X).f1))).trans Y;(try have cd:=fun(n_:Nat)=>(show((((b0.drewN n_).setCell ⟨D,0,none⟩ (.int .i64 ((rd_T61 (rd_L5 I J) X).f0))).setCell ⟨D,1,none⟩ (.int .u8 ((rd_T61 (rd_L5 I J) X).f1)))).cell? _=some _ from O));(try have ce:=fun(n_:Nat)=>(show((((b0.drewN n_).setCell ⟨D,0,none⟩ (.int .i64 ((rd_T61 (rd_L5 I J) X).f0))).setCell ⟨D,1,none⟩ (.int .u8 ((rd_T61 (rd_L5 I J) X).f1)))).cell? _=some _ from Y));clear af;clear ag;replace bd:=eq_true bd;replace bh:=eq_true bh)))
          go_ret
          exact⟨by first|rfl|(simp[errW_none,errW_some]<;>rfl)|(simp only[<-gi];first|rfl|(simp[errW_none,errW_some]<;>rfl))|(simp[*,errW_none,errW_some]<;>rfl),hbA HB.out⟩
         rw[if_neg g5]at H
         have c49b0:decide (((rd_T61 (rd_L5 I J) X).f0)<=((rd_T61 (rd_L5 I J) (a6)).f0))=false:=decide_eq_false g5;clear g5;have H':=aK H;clear H;obtain⟨i6,i7,i8,ju,jv,jw⟩:=cell3 G;have a7:0<=(J:Int):=of_decide_eq_true asE;have a8:J<(I.length:Int):=of_decide_eq_true asE;obtain⟨ab,ch,ci,b4,ai,az,ay⟩:=at_L5 a9.out J a7 a8
         cases b4
         replace ai:=(HB.out.cell (World.block_lt_of_cell? w _ ai)).trans ai;have b3:=aK ay;have b2:=aK az;clear ay az;replace a7:=eq_true a7;replace a8:=eq_true a8;have ba:0<=(J:Int):=of_decide_eq_true asE;have be:J<(I.length:Int):=of_decide_eq_true asE;obtain⟨bw,cp,cr,b7,aj,a3,a1⟩:=at_L5 a9.out J ba be;obtain rfl:ab=bw:=zav
         replace aj:=(HB.out.cell (World.block_lt_of_cell? w _ aj)).trans aj;have bj:=aK a1;have b5:=aK a3;clear a1 a3;replace ba:=eq_true ba;replace be:=eq_true be;have ea_:=Option.some.inj (ai.symm.trans aj);injection ea_ with ea_ en_ ec_;subst ea_;subst ec_;clear en_;have bb:0<=(X:Int):=of_decide_eq_true asE;have bf:X<((rd_L5 I J).length:Int):=of_decide_eq_true asE;obtain⟨dm,b8,av,aw⟩:=at_T61 bj.out X bb bf
         cases b8
         replace av:=(HB.out.cell (World.block_lt_of_cell? w _ av)).trans av;replace aw:=(HB.out.cell (World.block_lt_of_cell? w _ aw)).trans aw;replace bb:=eq_true bb;replace bf:=eq_true bf
         go_wp2_with (first|((with_reducible refine gD 6 rfl ?_);(try(refine gate_guard zae ?_;dsimp only));refine bE 6 #[.int .i64 0,.int .u8 0] 61 ?_;intro D hg b1 hbox hb;have ac:=aK (hbox);have an:=hbS HB hg;have bi:=hbS HB hg;replace HB:=hbB HB hb;have Z:=neL G hg;have ae:=neG G hg;replace G:=bkB G hb;clear hb hbox hg;have kb:=ae.out;have ki:=Z.out;obtain⟨em,en,fw,fx⟩:=cell2 ac;obtain⟨eo,ep,er,fy,fz,f2⟩:=cell3 G;have bc:0<=(J:Int):=of_decide_eq_true asE;have bg:J<(I.length:Int):=of_decide_eq_true asE;obtain⟨bx,cq,ct,b9,L,a4,a2⟩:=at_L5 a9.out J bc bg;obtain rfl:ab=bx:=zau;have ak:ab.block≠D:=Nat.ne_of_lt (Nat.lt_of_lt_of_le zap an.out);have al:ab.block≠D:=Nat.ne_of_lt (Nat.lt_of_lt_of_le zap an.out);replace L:=(HB.out.cell (World.block_lt_of_cell? w _ L)).trans L;have bk:=aK a2;have b6:=aK a4;clear a2 a4;replace L:=(cell_far (p:=⟨D,0,none⟩) zar (.int .i64 ((rd_T61 (rd_L5 I J) X).f0))).trans L;replace L:=(cell_far (p:=⟨D,1,none⟩) zaq (.int .u8 ((rd_T61 (rd_L5 I J) X).f1))).trans L;(try have cb:=fun(n_:Nat)=>(show((((b1.drewN n_).setCell ⟨D,0,none⟩ (.int .i64 ((rd_T61 (rd_L5 I J) X).f0))).setCell ⟨D,1,none⟩ (.int .u8 ((rd_T61 (rd_L5 I J) X).f1)))).cell? _=some _ from L));clear ak;clear al;replace bc:=eq_true bc;replace bg:=eq_true bg;have bd:0<=((a6):Int):=of_decide_eq_true asE;have bh:(a6)<((rd_L5 I J).length:Int):=of_decide_eq_true asE;obtain⟨bl,ca,O,Y⟩:=at_T61 bk.out (a6) bd bh;cases ca;have af:bl.block≠D:=Nat.ne_of_lt (Nat.lt_of_lt_of_le zao an.out);have ag:bl.block≠D:=Nat.ne_of_lt (Nat.lt_of_lt_of_le zao an.out);replace O:=(HB.out.cell (World.block_lt_of_cell? w _ O)).trans O;replace Y:=(HB.out.cell (World.block_lt_of_cell? w _ Y)).trans Y;replace O:=(cell_far (p:=⟨D,0,none⟩) zan (.int .i64 ((rd_T61 (rd_L5 I J) X).f0))).trans O;replace Y:=(cell_far (p:=⟨D,0,none⟩) zan (.int .i64 ((rd_T61 (rd_L5 I J) X).f0))).trans Y;replace O:=(cell_far (p:=⟨D,1,none⟩) zam (.int .u8 ((rd_T61 (rd_L5 I J) X).f1))).trans O;replace Y:=(cell_far (p:=⟨D,1,none⟩) zam (.int .u8 ((rd_T61 (rd_L5 I J) X).f1))).trans Y;(try have cd:=fun(n_:Nat)=>(show((((b1.drewN n_).setCell ⟨D,0,none⟩ (.int .i64 ((rd_T61 (rd_L5 I J) X).f0))).setCell ⟨D,1,none⟩ (.int .u8 ((rd_T61 (rd_L5 I J) X).f1)))).cell? _=some _ from O));(try have ce:=fun(n_:Nat)=>(show((((b1.drewN n_).setCell ⟨D,0,none⟩ (.int .i64 ((rd_T61 (rd_L5 I J) X).f0))).setCell ⟨D,1,none⟩ (.int .u8 ((rd_T61 (rd_L5 I J) X).f1)))).cell? _=some _ from Y));clear af;clear ag;replace bd:=eq_true bd;replace bh:=eq_true bh))
         repeat(go_quiet (first|((with_reducible refine gate_dst (N:=6) rfl ?_);(try(refine gate_guard zae ?_;dsimp only));refine box_event ?hg (N:=6) ?hd (cs:= #[.int .i64 0,.int .u8 0]) (t:=61) ?hr ?_;(case hd=>rfl);(case hg=>rfl);(case hr=>first|(go_simp;done)|(go_simp;rfl));intro D hg b1 hbox hb;have n0_:=aK (blk_below (g:=U) (o:= .cells #[.slice ao aa.length aq,.slice (some ab) I.length ar,.slice ap ah.length au] 25 (0,0)) (bkA G.out) hb);have n1_:=aK (below_step (hbA HB.out) hb);have n2_:=aK (hbox);have n3_:=aK ((by rw[hg];exact(below_size (hbA HB.out)):w.heap.size<=D));have n4_:=aK ((by rw[hg];exact(below_size (hbA HB.out)):w.heap.size<=D));have n5_:=aK ((by rw[hg];exact Nat.ne_of_lt (blk_lt (g:=U) (o:= .cells #[.slice ao aa.length aq,.slice (some ab) I.length ar,.slice ap ah.length au] 25 (0,0)) (bkA G.out)):U≠D));have n6_:=aK ((by rw[hg];exact Nat.ne_of_gt (blk_lt (g:=U) (o:= .cells #[.slice ao aa.length aq,.slice (some ab) I.length ar,.slice ap ah.length au] 25 (0,0)) (bkA G.out)):D≠U));clear G;clear HB;have G:=n0_;have HB:=n1_;have ac:=n2_;have an:=n3_;have bi:=n4_;have Z:=n5_;have ae:=n6_;clear n0_ n1_ n2_ n3_ n4_ n5_ n6_;clear hb hbox hg;have kb:=ae.out;have ki:=Z.out;have em:b1.cell? ⟨D,0,none⟩=some (.int .i64 0):=(blk_cell ac.out 0).trans rfl;have en:b1.cell? ⟨D,1,none⟩=some (.int .u8 0):=(blk_cell ac.out 1).trans rfl;have fw:=blk_frozen ac.out 0;have fx:=blk_frozen ac.out 1;have eo:b1.cell? ⟨U,0,none⟩=some (.slice ao aa.length aq):=(blk_cell G.out 0).trans rfl;have ep:b1.cell? ⟨U,1,none⟩=some (.slice (some ab) I.length ar):=(blk_cell G.out 1).trans rfl;have er:b1.cell? ⟨U,2,none⟩=some (.slice ap ah.length au):=(blk_cell G.out 2).trans rfl;have fy:=blk_frozen G.out 0;have fz:=blk_frozen G.out 1;have f2:=blk_frozen G.out 2;have bc:0<=(J:Int):=of_decide_eq_true asE;have bg:J<(I.length:Int):=of_decide_eq_true asE;obtain⟨bx,cq,ct,b9,L,a4,a2⟩:=at_L5 a9.out J bc bg;obtain rfl:ab=bx:=zau;have ak:ab.block≠D:=Nat.ne_of_lt (Nat.lt_of_lt_of_le zap an.out);have al:ab.block≠D:=Nat.ne_of_lt (Nat.lt_of_lt_of_le zap an.out);replace L:=(HB.out.cell (World.block_lt_of_cell? w _ L)).trans L;have bk:=aK a2;have b6:=aK a4;clear a2 a4;replace L:=(cell_far (p:=⟨D,0,none⟩) zar (.int .i64 ((rd_T61 (rd_L5 I J) X).f0))).trans L;replace L:=(cell_far (p:=⟨D,1,none⟩) zaq (.int .u8 ((rd_T61 (rd_L5 I J) X).f1))).trans L;(try have cb:=fun(n_:Nat)=>(show((((b1.drewN n_).setCell ⟨D,0,none⟩ (.int .i64 ((rd_T61 (rd_L5 I J) X).f0))).setCell ⟨D,1,none⟩ (.int .u8 ((rd_T61 (rd_L5 I J) X).f1)))).cell? _=some _ from L));clear ak;clear al;replace bc:=eq_true bc;replace bg:=eq_true bg;have bd:0<=((a6):Int):=of_decide_eq_true asE;have bh:(a6)<((rd_L5 I J).length:Int):=of_decide_eq_true asE;obtain⟨bl,ca,O,Y⟩:=at_T61 bk.out (a6) bd bh;cases ca;have af:bl.block≠D:=Nat.ne_of_lt (Nat.lt_of_lt_of_le zao an.out);have ag:bl.block≠D:=Nat.ne_of_lt (Nat.lt_of_lt_of_le zao an.out);replace O:=(HB.out.cell (World.block_lt_of_cell? w _ O)).trans O;replace Y:=(HB.out.cell (World.block_lt_of_cell? w _ Y)).trans Y;replace O:=(cell_far (p:=⟨D,0,none⟩) zan (.int .i64 ((rd_T61 (rd_L5 I J) X).f0))).trans O;replace Y:=(cell_far (p:=⟨D,0,none⟩) zan (.int .i64 ((rd_T61 (rd_L5 I J) X).f0))).trans Y;replace O:=(cell_far (p:=⟨D,1,none⟩) zam (.int .u8 ((rd_T61 (rd_L5 I J) X).f1))).trans O;replace Y:=(cell_far (p:=⟨D,1,none⟩) zam (.int .u8 ((rd_T61 (rd_L5 I J) X).f1))).trans Y;(try have cd:=fun(n_:Nat)=>(show((((b1.drewN n_).setCell ⟨D,0,none⟩ (.int .i64 ((rd_T61 (rd_L5 I J) X).f0))).setCell ⟨D,1,none⟩ (.int .u8 ((rd_T61 (rd_L5 I J) X).f1)))).cell? _=some _ from O));(try have ce:=fun(n_:Nat)=>(show((((b1.drewN n_).setCell ⟨D,0,none⟩ (.int .i64 ((rd_T61 (rd_L5 I J) X).f0))).setCell ⟨D,1,none⟩ (.int .u8 ((rd_T61 (rd_L5 I J) X).f1)))).cell? _=some _ from Y));clear af;clear ag;replace bd:=eq_true bd;replace bh:=eq_true bh));try go_wp2_with (first|((with_reducible refine gate_dst (N:=6) rfl ?_);(try(refine gate_guard zae ?_;dsimp only));refine box_event ?hg (N:=6) ?hd (cs:= #[.int .i64 0,.int .u8 0]) (t:=61) ?hr ?_;(case hd=>rfl);(case hg=>rfl);(case hr=>first|(go_simp;done)|(go_simp;rfl));intro D hg b1 hbox hb;have n0_:=aK (blk_below (g:=U) (o:= .cells #[.slice ao aa.length aq,.slice (some ab) I.length ar,.slice ap ah.length au] 25 (0,0)) (bkA G.out) hb);have n1_:=aK (below_step (hbA HB.out) hb);have n2_:=aK (hbox);have n3_:=aK ((by rw[hg];exact(below_size (hbA HB.out)):w.heap.size<=D));have n4_:=aK ((by rw[hg];exact(below_size (hbA HB.out)):w.heap.size<=D));have n5_:=aK ((by rw[hg];exact Nat.ne_of_lt (blk_lt (g:=U) (o:= .cells #[.slice ao aa.length aq,.slice (some ab) I.length ar,.slice ap ah.length au] 25 (0,0)) (bkA G.out)):U≠D));have n6_:=aK ((by rw[hg];exact Nat.ne_of_gt (blk_lt (g:=U) (o:= .cells #[.slice ao aa.length aq,.slice (some ab) I.length ar,.slice ap ah.length au] 25 (0,0)) (bkA G.out)):D≠U));clear G;clear HB;have G:=n0_;have HB:=n1_;have ac:=n2_;have an:=n3_;have bi:=n4_;have Z:=n5_;have ae:=n6_;clear n0_ n1_ n2_ n3_ n4_ n5_ n6_;clear hb hbox hg;have kb:=ae.out;have ki:=Z.out;have em:b1.cell? ⟨D,0,none⟩=some (.int .i64 0):=(blk_cell ac.out 0).trans rfl;have en:b1.cell? ⟨D,1,none⟩=some (.int .u8 0):=(blk_cell ac.out 1).trans rfl;have fw:=blk_frozen ac.out 0;have fx:=blk_frozen ac.out 1;have eo:b1.cell? ⟨U,0,none⟩=some (.slice ao aa.length aq):=(blk_cell G.out 0).trans rfl;have ep:b1.cell? ⟨U,1,none⟩=some (.slice (some ab) I.length ar):=(blk_cell G.out 1).trans rfl;have er:b1.cell? ⟨U,2,none⟩=some (.slice ap ah.length au):=(blk_cell G.out 2).trans rfl;have fy:=blk_frozen G.out 0;have fz:=blk_frozen G.out 1;have f2:=blk_frozen G.out 2;have bc:0<=(J:Int):=of_decide_eq_true asE;have bg:J<(I.length:Int):=of_decide_eq_true asE;obtain⟨bx,cq,ct,b9,L,a4,a2⟩:=at_L5 a9.out J bc bg;obtain rfl:ab=bx:=zau;have ak:ab.block≠D:=Nat.ne_of_lt (Nat.lt_of_lt_of_le zap an.out);have al:ab.block≠D:=Nat.ne_of_lt (Nat.lt_of_lt_of_le zap an.out);replace L:=(HB.out.cell (World.block_lt_of_cell? w _ L)).trans L;have bk:=aK a2;have b6:=aK a4;clear a2 a4;replace L:=(cell_far (p:=⟨D,0,none⟩) zar (.int .i64 ((rd_T61 (rd_L5 I J) X).f0))).trans L;replace L:=(cell_far (p:=⟨D,1,none⟩) zaq (.int .u8 ((rd_T61 (rd_L5 I J) X).f1))).trans L;(try have cb:=fun(n_:Nat)=>(show((((b1.drewN n_).setCell ⟨D,0,none⟩ (.int .i64 ((rd_T61 (rd_L5 I J) X).f0))).setCell ⟨D,1,none⟩ (.int .u8 ((rd_T61 (rd_L5 I J) X).f1)))).cell? _=some _ from L));clear ak;clear al;replace bc:=eq_true bc;replace bg:=eq_true bg;have bd:0<=((a6):Int):=of_decide_eq_true asE;have bh:(a6)<((rd_L5 I J).length:Int):=of_decide_eq_true asE;obtain⟨bl,ca,O,Y⟩:=at_T61 bk.out (a6) bd bh;cases ca;have af:bl.block≠D:=Nat.ne_of_lt (Nat.lt_of_lt_of_le zao an.out);have ag:bl.block≠D:=Nat.ne_of_lt (Nat.lt_of_lt_of_le zao an.out);replace O:=(HB.out.cell (World.block_lt_of_cell? w _ O)).trans O;replace Y:=(HB.out.cell (World.block_lt_of_cell? w _ Y)).trans Y;replace O:=(cell_far (p:=⟨D,0,none⟩) zan (.int .i64 ((rd_T61 (rd_L5 I J) X).f0))).trans O;replace Y:=(cell_far (p:=⟨D,0,none⟩) zan (.int .i64 ((rd_T61 (rd_L5 I J) X).f0))).trans Y;replace O:=(cell_far (p:=⟨D,1,none⟩) zam (.int .u8 ((rd_T61 (rd_L5 I J) X).f1))).trans O;replace Y:=(cell_far (p:=⟨D,1,none⟩) zam (.int .u8 ((rd_T61 (rd_L5 I J) X).f1))).trans Y;(try have cd:=fun(n_:Nat)=>(show((((b1.drewN n_).setCell ⟨D,0,none⟩ (.int .i64 ((rd_T61 (rd_L5 I J) X).f0))).setCell ⟨D,1,none⟩ (.int .u8 ((rd_T61 (rd_L5 I J) X).f1)))).cell? _=some _ from O));(try have ce:=fun(n_:Nat)=>(show((((b1.drewN n_).setCell ⟨D,0,none⟩ (.int .i64 ((rd_T61 (rd_L5 I J) X).f0))).setCell ⟨D,1,none⟩ (.int .u8 ((rd_T61 (rd_L5 I J) X).f1)))).cell? _=some _ from Y));clear af;clear ag;replace bd:=eq_true bd;replace bh:=eq_true bh)))
         go_roundg k4
         case measure=>have:=dh.out;have:=di.out;have:=gl.out;have:=ga.out;omega
         case rel=>exact⟨(wrap64 (X+1)),rsE,H',⟨by have:=dh.out;have:=di.out;have:=gl.out;have:=ga.out;omega⟩,⟨by refine bkR ?_;refine blk_far ?_ Z.out _;refine bkR ?_;refine blk_far ?_ Z.out _;refine bkR ?_;exact G.out⟩,⟨hbA HB.out⟩⟩
mutual
def recoupref01_Mul.l0:Nat->Int->Int->Int->Int->Option (Int)
 |0,_,_,_,_=>none
 |k+1,x0,x1,x5,x6=>if x6<8 then(if 0<=(IntKind.u64.wrap (x6))then(if(Go.bits .and .u8 (shr .u8 x1 (IntKind.u64.wrap (x6))) 1)=1 then(recoupref01_Mul.l0 k x0 x1 (Go.bits .xor .i64 x5 (shl .i64 (wrap64 (x0)) (IntKind.u64.wrap (x6)))) (wrap64 (x6+1)))else(recoupref01_Mul.l0 k x0 x1 x5 (wrap64 (x6+1))))else(none))else(recoupref01_Mul.l1 k x5 14)
def recoupref01_Mul.l1:Nat->Int->Int->Option (Int)
 |0,_,_=>none
 |k+1,x5,x7=>if x7>=8 then(if 0<=(IntKind.u64.wrap (x7))then(if(Go.bits .and .i64 (shr .i64 x5 (IntKind.u64.wrap (x7))) 1)=1 then(if 0<=(IntKind.u64.wrap (wrap64 (x7-8)))then(recoupref01_Mul.l1 k (Go.bits .xor .i64 x5 (shl .i64 285 (IntKind.u64.wrap (wrap64 (x7-8))))) (wrap64 (x7-1)))else(none))else(recoupref01_Mul.l1 k x5 (wrap64 (x7-1))))else(none))else(some ((x5) % 256))
end
def recoupref01_Mul.f(k:Nat)(a0:Int)(a1:Int):Option (Int):=recoupref01_Mul.l0 k a0 a1 0 0
theorem recoupref01_Mul.calls(k:Nat)(a0:Int)(a1:Int)(r:Int)(w:World)(h:recoupref01_Mul.f k a0 a1=some r):
 Calls Try.prog 27 #[.int .u8 a0,.int .u8 a1] w fun e w'=>e= .returned (.int .u8 r)/\Drawn0 w w':=by
 have H:(recoupref01_Mul.l0 k a0 a1 0 0)=some r:=h;clear h;have H':=aK H;clear H
 go_enter Try.func27,Try.ntmps27
 go_wp2
 go_loopg [5,6] k (fun kq v5 v6 w'=> ∃(O:Int) (I:Int),v5= .int .i64 O/\v6= .int .i64 I/\Aside0 (recoupref01_Mul.l0 kq a0 a1 O I=some r)/\Aside0 (kq<=k)/\Drawn0 w w')
 case atStart=>exact⟨(0),(0),rsE,rsE,H',⟨Nat.le_refl _⟩,by repeat(first|exact Drawn0.refl _|apply Drawn0.step)⟩
 case round=>
  clear H'
  (try clear c2);(try clear p2)
  obtain⟨O,I,rfl,rfl,HA,ab,⟨m1,rfl⟩⟩:=hrel
  cases gk with
  |zero=>exact absurd HA.out (by simp[recoupref01_Mul.l0])
  |succ k1=>
   have H:=HA.out;clear HA;simp only[recoupref01_Mul.l0]at H;by_cases c3:I<8
   ·rw[if_pos c3]at H
    have c3b0:decide (I<8)=true:=decide_eq_true c3;clear c3;obtain⟨J,ao⟩: ∃j_:Int,(IntKind.u64.wrap (I))=j_:=⟨_,rfl⟩
    replace H:(if 0<=(J)then(if(Go.bits .and .u8 (shr .u8 a1 (J)) 1)=1 then(recoupref01_Mul.l0 k1 a0 a1 (Go.bits .xor .i64 O (shl .i64 (wrap64 (a0)) (J))) (wrap64 (I+1)))else(recoupref01_Mul.l0 k1 a0 a1 O (wrap64 (I+1))))else(none))=some r:=by first|(rw[ao]at H;exact H)|(simp only[ao]at H⊢;exact H)
    by_cases c5:0<=(J)
    case neg=>rw[if_neg c5]at H;exact absurd H zac
    rw[if_pos c5]at H
    have c5b0:=eq_true c5;have c5b1:decide (0<=(J))=true:=decide_eq_true c5;clear c5;obtain⟨ae,ag⟩: ∃j_:Int,(shr .u8 a1 (J))=j_:=⟨_,rfl⟩
    replace H:(if(Go.bits .and .u8 (ae) 1)=1 then(recoupref01_Mul.l0 k1 a0 a1 (Go.bits .xor .i64 O (shl .i64 (wrap64 (a0)) (J))) (wrap64 (I+1)))else(recoupref01_Mul.l0 k1 a0 a1 O (wrap64 (I+1))))=some r:=by first|(rw[ag]at H;exact H)|(simp only[ag]at H⊢;exact H)
    have hji6_:(a1 / 2^min (J).toNat 8)=ae:=ag;have hji6z:(J)<=8->(a1 / 2^(J).toNat)=ae:=shr_small ag;by_cases c7:(Go.bits .and .u8 (ae) 1)=1
    case neg=>
     rw[if_neg c7]at H
     have c7b0:((Go.bits .and .u8 (ae) 1)==1)=false:=beq_eq_false_iff_ne.mpr c7;have c7b1:((Go.bits .and .u8 (ae) 1)!=1)=true:=bne_iff_ne.mpr c7;have H':=aK H;clear H;go_wp2
     go_roundg k1
     case measure=>have:=ab.out;omega
     case rel=>exact⟨(O),(wrap64 (I+1)),rsE,rsE,H',⟨by have:=ab.out;omega⟩,by repeat(first|exact Drawn0.refl _|apply Drawn0.step)⟩
    rw[if_pos c7]at H
    have c7b0:((Go.bits .and .u8 (ae) 1)==1)=true:=beq_iff_eq.mpr c7;have c7b1:((Go.bits .and .u8 (ae) 1)!=1)=false:=bne_eq_false_iff_eq.mpr c7;clear c7;have c8b0:=eq_true (of_decide_eq_true asE:0<=(J));obtain⟨ai,ac⟩: ∃j_:Int,(shl .i64 (wrap64 (a0)) (J))=j_:=⟨_,rfl⟩
    replace H:(recoupref01_Mul.l0 k1 a0 a1 (Go.bits .xor .i64 O (ai)) (wrap64 (I+1)))=some r:=by first|(rw[ac]at H;exact H)|(simp only[ac]at H⊢;exact H)
    have hji9_:(IntKind.i64.wrap ((wrap64 (a0))*2^min (J).toNat 64))=ai:=ac;have hji9z:(J)<=64->(IntKind.i64.wrap ((wrap64 (a0))*2^(J).toNat))=ai:=shl_small ac;have hji9y:(wrap64 ((wrap64 (a0))*2^min (J).toNat 64))=ai:=(i64_w _).symm.trans hji9_;have hji9x:(J)<=64->(wrap64 ((wrap64 (a0))*2^(J).toNat))=ai:=fun h_=>(i64_w _).symm.trans (hji9z h_);have H':=aK H;clear H;go_wp2
    go_roundg k1
    case measure=>have:=ab.out;omega
    case rel=>exact⟨(Go.bits .xor .i64 O (ai)),(wrap64 (I+1)),(by first|rfl|(simp;done)|(simp only[<-ac]<;>(first|rfl|simp))|(simp[*];done)),rsE,H',⟨by have:=ab.out;omega⟩,by repeat(first|exact Drawn0.refl _|apply Drawn0.step)⟩
   rw[if_neg c3]at H
   have c3b0:decide (I<8)=false:=decide_eq_false c3;clear c3;have H':=aK H;clear H;go_wp2
   go_loopg [5,7] k1 (fun kq v5 v7 w'=> ∃(G:Int) (D:Int),v5= .int .i64 G/\v7= .int .i64 D/\Aside0 (recoupref01_Mul.l1 kq G D=some r)/\Aside0 (kq<=k1)/\Drawn0 w w')
   case atStart=>exact⟨(O),(14),rsE,rsE,H',⟨Nat.le_refl _⟩,by repeat(first|exact Drawn0.refl _|apply Drawn0.step)⟩
   case round=>
    clear H'
    (try clear c2);(try clear p2 p2);(try clear c3);(try clear c3b0);(try clear c5);(try clear c5b0);(try clear c5b1);(try clear p6);(try clear c7);(try clear c7b0);(try clear c7b1);(try clear c8);(try clear c8b0)
    obtain⟨G,D,rfl,rfl,HA,an,⟨m2,rfl⟩⟩:=hrel
    cases gk with
    |zero=>exact absurd HA.out (by simp[recoupref01_Mul.l1])
    |succ k2=>
     have H:=HA.out;clear HA;simp only[recoupref01_Mul.l1]at H;by_cases ah:D>=8
     case neg=>
      rw[if_neg ah]at H
      have c10b0:decide (8<=D)=false:=decide_eq_false ah;clear ah;obtain rfl:=Option.some.inj H;go_wp2
      go_ret
      exact zD
     rw[if_pos ah]at H
     have c10b0:decide (8<=D)=true:=decide_eq_true ah;clear ah;obtain⟨U,al⟩: ∃j_:Int,(IntKind.u64.wrap (D))=j_:=⟨_,rfl⟩
     replace H:(if 0<=(U)then(if(Go.bits .and .i64 (shr .i64 G (U)) 1)=1 then(if 0<=(IntKind.u64.wrap (wrap64 (D-8)))then(recoupref01_Mul.l1 k2 (Go.bits .xor .i64 G (shl .i64 285 (IntKind.u64.wrap (wrap64 (D-8))))) (wrap64 (D-1)))else(none))else(recoupref01_Mul.l1 k2 G (wrap64 (D-1))))else(none))=some r:=by first|(rw[al]at H;exact H)|(simp only[al]at H⊢;exact H)
     by_cases aj:0<=(U)
     case neg=>rw[if_neg aj]at H;exact absurd H zac
     rw[if_pos aj]at H
     have c12b0:=eq_true aj;have c12b1:decide (0<=(U))=true:=decide_eq_true aj;clear aj;obtain⟨X,aa⟩: ∃j_:Int,(shr .i64 G (U))=j_:=⟨_,rfl⟩
     replace H:(if(Go.bits .and .i64 (X) 1)=1 then(if 0<=(IntKind.u64.wrap (wrap64 (D-8)))then(recoupref01_Mul.l1 k2 (Go.bits .xor .i64 G (shl .i64 285 (IntKind.u64.wrap (wrap64 (D-8))))) (wrap64 (D-1)))else(none))else(recoupref01_Mul.l1 k2 G (wrap64 (D-1))))=some r:=by first|(rw[aa]at H;exact H)|(simp only[aa]at H⊢;exact H)
     have hji13_:(G / 2^min (U).toNat 64)=X:=aa;have hji13z:(U)<=64->(G / 2^(U).toNat)=X:=shr_small aa;by_cases af:(Go.bits .and .i64 (X) 1)=1
     case neg=>
      rw[if_neg af]at H
      have c14b0:((Go.bits .and .i64 (X) 1)==1)=false:=beq_eq_false_iff_ne.mpr af;have c14b1:((Go.bits .and .i64 (X) 1)!=1)=true:=bne_iff_ne.mpr af;have H':=aK H;clear H;go_wp2
      go_roundg k2
      case measure=>have:=ab.out;have:=an.out;omega
      case rel=>exact⟨(G),(wrap64 (D-1)),rsE,rsE,H',⟨by have:=ab.out;have:=an.out;omega⟩,by repeat(first|exact Drawn0.refl _|apply Drawn0.step)⟩
     rw[if_pos af]at H
     have c14b0:((Go.bits .and .i64 (X) 1)==1)=true:=beq_iff_eq.mpr af;have c14b1:((Go.bits .and .i64 (X) 1)!=1)=false:=bne_eq_false_iff_eq.mpr af;clear af;obtain⟨L,am⟩: ∃j_:Int,(IntKind.u64.wrap (wrap64 (D-8)))=j_:=⟨_,rfl⟩
     replace H:(if 0<=(L)then(recoupref01_Mul.l1 k2 (Go.bits .xor .i64 G (shl .i64 285 (L))) (wrap64 (D-1)))else(none))=some r:=by first|(rw[am]at H;exact H)|(simp only[am]at H⊢;exact H)
     by_cases ak:0<=(L)
     case neg=>rw[if_neg ak]at H;exact absurd H zac
     rw[if_pos ak]at H
     have c16b0:=eq_true ak;have c16b1:decide (0<=(L))=true:=decide_eq_true ak;clear ak;obtain⟨Z,Y⟩: ∃j_:Int,(shl .i64 285 (L))=j_:=⟨_,rfl⟩
     replace H:(recoupref01_Mul.l1 k2 (Go.bits .xor .i64 G (Z)) (wrap64 (D-1)))=some r:=by first|(rw[Y]at H;exact H)|(simp only[Y]at H⊢;exact H)
     have hji17_:(IntKind.i64.wrap (285*2^min (L).toNat 64))=Z:=Y;have hji17z:(L)<=64->(IntKind.i64.wrap (285*2^(L).toNat))=Z:=shl_small Y;have hji17y:(wrap64 (285*2^min (L).toNat 64))=Z:=(i64_w _).symm.trans hji17_;have hji17x:(L)<=64->(wrap64 (285*2^(L).toNat))=Z:=fun h_=>(i64_w _).symm.trans (hji17z h_);have H':=aK H;clear H;go_wp2
     go_roundg k2
     case measure=>have:=ab.out;have:=an.out;omega
     case rel=>exact⟨(Go.bits .xor .i64 G (Z)),(wrap64 (D-1)),(by first|rfl|(simp;done)|(simp only[<-Y]<;>(first|rfl|simp))|(simp[*];done)),rsE,H',⟨by have:=ab.out;have:=an.out;omega⟩,by repeat(first|exact Drawn0.refl _|apply Drawn0.step)⟩
def recoupref01_Inv.l0:Nat->Int->Int->Option (Int×Int)
 |0,_,_=>none
 |k+1,x0,x4=>if x4<256 then((recoupref01_Mul.f k x0 ((x4) % 256)).bind fun D=>(if D=1 then(some ((x4) % 256,0))else(recoupref01_Inv.l0 k x0 (wrap64 (x4+1)))))else(some (0,5))
def recoupref01_Inv.f(k:Nat)(a0:Int):Option (Int×Int):=recoupref01_Inv.l0 k a0 1
theorem recoupref01_Inv.calls(k:Nat)(a0:Int)(r1:Int)(r2:Int)(w:World)(h:recoupref01_Inv.f k a0=some (r1,r2)):
 Calls Try.prog 26 #[.int .u8 a0] w fun e w'=>e= .returned (.tuple #[.int .u8 r1,.int .i64 r2])/\Drawn0 w w':=by
 have H:(recoupref01_Inv.l0 k a0 1)=some (r1,r2):=h;clear h;have H':=aK H;clear H
 go_enter Try.func26,Try.ntmps26
 go_wp2
 go_loopg [4] k (fun kq v4 w'=> ∃(D:Int),v4= .int .i64 D/\Aside0 (recoupref01_Inv.l0 kq a0 D=some (r1,r2))/\Aside0 (kq<=k)/\Drawn0 w w')
 case atStart=>exact⟨(1),rsE,H',⟨Nat.le_refl _⟩,by repeat(first|exact Drawn0.refl _|apply Drawn0.step)⟩
 case round=>
  clear H';obtain⟨D,rfl,HA,I,⟨m1,rfl⟩⟩:=hrel
  cases gk with
  |zero=>exact absurd HA.out (by simp[recoupref01_Inv.l0])
  |succ k1=>
   have H:=HA.out;clear HA;simp only[recoupref01_Inv.l0]at H;by_cases c2:D<256
   case neg=>
    rw[if_neg c2]at H
    have c2b0:decide (D<256)=false:=decide_eq_false c2;clear c2;obtain⟨rfl,rfl⟩:=zP2 H;go_wp2
    go_ret2
    exact zD
   rw[if_pos c2]at H
   have c2b0:decide (D<256)=true:=decide_eq_true c2;clear c2;obtain⟨G,A3,H⟩:=bindO H
   (try dsimp only at H)
   by_cases c4:G=1
   case neg=>
    rw[if_neg c4]at H
    have c4b0:(G==1)=false:=beq_eq_false_iff_ne.mpr c4;have c4b1:(G !=1)=true:=bne_iff_ne.mpr c4;have H':=aK H;clear H
    go_wp2_with (first|((with_reducible refine gC 27 rfl ?_);refine cG (some 12) Try.func27 #[.int .u8 a0,.int .u8 ((D) % 256)] ?_;(with_reducible refine(recoupref01_Mul.calls k1 a0 ((D) % 256) G _ A3.out).mono ?_);rintro e w' ⟨rfl,⟨nd,rfl⟩⟩;refine⟨_,rfl,?_⟩))
    go_roundg k1
    case measure=>have:=I.out;omega
    case rel=>exact⟨(wrap64 (D+1)),rsE,H',⟨by have:=I.out;omega⟩,by repeat(first|exact Drawn0.refl _|apply Drawn0.step)⟩
   rw[if_pos c4]at H
   have c4b0:(G==1)=true:=beq_iff_eq.mpr c4;have c4b1:(G !=1)=false:=bne_eq_false_iff_eq.mpr c4;clear c4;obtain⟨rfl,rfl⟩:=zP2 H
   go_wp2_with (first|((with_reducible refine gC 27 rfl ?_);refine cG (some 12) Try.func27 #[.int .u8 a0,.int .u8 ((D) % 256)] ?_;(with_reducible refine(recoupref01_Mul.calls k1 a0 ((D) % 256) G _ A3.out).mono ?_);rintro e w' ⟨rfl,⟨nd,rfl⟩⟩;refine⟨_,rfl,?_⟩))
   go_ret2
   exact zD
def recoupref22_by.l0:Nat->List (S61)->Int->Int->Option (Int)
 |0,_,_,_=>none
 |k+1,x0,x1,x5=>if x5<(x0.length:Int)then(if 0<=x5 then(if((rd_T61 x0 x5).f0)=x1 then(some ((rd_T61 x0 x5).f1))else(recoupref22_by.l0 k x0 x1 (wrap64 (x5+1))))else(none))else(some 0)
def recoupref22_by.f(k:Nat)(l0:List (S61))(a1:Int):Option (Int):=recoupref22_by.l0 k l0 a1 0
theorem recoupref22_by.calls(k:Nat)(A0:Option Addr)(c0:Nat)(l0:List (S61))(a1:Int)(r:Int)(w:World)(af:Kd.C k61 w A0 l0.length l0)(ae:l0.length<=c0)(h:recoupref22_by.f k l0 a1=some r):
 Calls Try.prog 33 #[.slice A0 l0.length c0,.int .i64 a1] w fun e w'=>e= .returned (.int .u8 r)/\Drawn0 w w':=by
 have Z:=aK af;have ai:=aK ae;clear af ae;have H:(recoupref22_by.l0 k l0 a1 0)=some r:=h;clear h;have H':=aK H;clear H
 go_enter Try.func33,Try.ntmps33
 go_wp2
 go_loopg [5] k (fun kq v5 w'=> ∃(D:Int),v5= .int .i64 D/\Aside0 (recoupref22_by.l0 kq l0 a1 D=some r)/\Aside0 (kq<=k)/\Drawn0 w w')
 case atStart=>exact⟨(0),rsE,H',⟨Nat.le_refl _⟩,by repeat(first|exact Drawn0.refl _|apply Drawn0.step)⟩
 case round=>
  clear H'
  (try clear p2)
  obtain⟨D,rfl,HA,ab,⟨m1,rfl⟩⟩:=hrel
  cases gk with
  |zero=>exact absurd HA.out (by simp[recoupref22_by.l0])
  |succ k1=>
   have H:=HA.out;clear HA;simp only[recoupref22_by.l0]at H;by_cases c3:D<(l0.length:Int)
   case neg=>
    rw[if_neg c3]at H
    have c3b0:decide (D<(l0.length:Int))=false:=decide_eq_false c3;clear c3;obtain rfl:=Option.some.inj H;go_wp2
    go_ret
    exact zD
   rw[if_pos c3]at H
   have c3b0:decide (D<(l0.length:Int))=true:=decide_eq_true c3;clear c3;by_cases c4:0<=D
   case neg=>rw[if_neg c4]at H;exact absurd H zac
   rw[if_pos c4]at H
   have c4b0:decide (0<=D)=true:=decide_eq_true c4;clear c4;by_cases c5:((rd_T61 l0 D).f0)=a1
   case neg=>
    rw[if_neg c5]at H
    have c5b0:(((rd_T61 l0 D).f0)==a1)=false:=beq_eq_false_iff_ne.mpr c5;have c5b1:(((rd_T61 l0 D).f0)!=a1)=true:=bne_iff_ne.mpr c5;have H':=aK H;clear H;have G:0<=(D:Int):=of_decide_eq_true asE;have I:D<(l0.length:Int):=of_decide_eq_true asE;obtain⟨J,L,O,U⟩:=at_T61 Z.out D G I
    cases L
    replace G:=eq_true G;replace I:=eq_true I;go_wp2
    go_roundg k1
    case measure=>have:=ab.out;omega
    case rel=>exact⟨(wrap64 (D+1)),rsE,H',⟨by have:=ab.out;omega⟩,by repeat(first|exact Drawn0.refl _|apply Drawn0.step)⟩
   rw[if_pos c5]at H
   have c5b0:(((rd_T61 l0 D).f0)==a1)=true:=beq_iff_eq.mpr c5;have c5b1:(((rd_T61 l0 D).f0)!=a1)=false:=bne_eq_false_iff_eq.mpr c5;clear c5;obtain rfl:=Option.some.inj H;have G:0<=(D:Int):=of_decide_eq_true asE;have I:D<(l0.length:Int):=of_decide_eq_true asE;obtain⟨J,L,O,U⟩:=at_T61 Z.out D G I
   cases L
   replace G:=eq_true G;replace I:=eq_true I;have X:0<=(D:Int):=of_decide_eq_true asE;have Y:D<(l0.length:Int):=of_decide_eq_true asE;obtain⟨aa,ac,ag,ah⟩:=at_T61 Z.out D X Y;obtain rfl:J=aa:=(by injection ac)
   replace X:=eq_true X;replace Y:=eq_true Y;go_wp2
   go_ret
   exact zD
def recoupref22_in.f(k:Nat)(l0:List (S61))(a1:Int)(a2:Int)(a3:Int):Option (Bool):=(recoupref22_by.f k l0 a1).bind fun D=>((recoupref22_by.f k l0 a2).bind fun G=>(if D=0 then(some false)else(if G=0 then(some false)else((recoupref01_Mul.f k D a3).bind fun I=>(some (I==G))))))
theorem recoupref22_in.calls(k:Nat)(A0:Option Addr)(c0:Nat)(l0:List (S61))(a1:Int)(a2:Int)(a3:Int)(r:Bool)(w:World)(U:Kd.C k61 w A0 l0.length l0)(O:l0.length<=c0)(h:recoupref22_in.f k l0 a1 a2 a3=some r):
 Calls Try.prog 28 #[.slice A0 l0.length c0,.int .i64 a1,.int .i64 a2,.int .u8 a3] w fun e w'=>e= .returned (.bool r)/\Drawn0 w w':=by
 have J:=aK U;have I:=aK O;clear U O;have H:((recoupref22_by.f k l0 a1).bind fun D=>((recoupref22_by.f k l0 a2).bind fun G=>(if D=0 then(some false)else(if G=0 then(some false)else((recoupref01_Mul.f k D a3).bind fun L=>(some (L==G)))))))=some r:=h;clear h;obtain⟨D,A5,H⟩:=bindO H
 (try dsimp only at H)
 obtain⟨G,A6,H⟩:=bindO H
 (try dsimp only at H)
 by_cases c7:D=0
 ·rw[if_pos c7]at H
  have c7b0:(D==0)=true:=beq_iff_eq.mpr c7;have c7b1:(D !=0)=false:=bne_eq_false_iff_eq.mpr c7;clear c7;obtain rfl:=Option.some.inj H
  go_enter Try.func28,Try.ntmps28
  go_wp2_with (first|((with_reducible refine gC 33 rfl ?_);refine cG (some 13) Try.func33 #[.slice A0 l0.length c0,.int .i64 a1] ?_;(with_reducible refine(recoupref22_by.calls k _ _ l0 a1 D _ ?side1 ?side2 A5.out).mono ?_);(case side1=>exact kcA J.out);(case side2=>exact I.out);rintro e w' ⟨rfl,⟨nd,rfl⟩⟩;refine⟨_,rfl,?_⟩)|((with_reducible refine gC 33 rfl ?_);refine cG (some 16) Try.func33 #[.slice A0 l0.length c0,.int .i64 a2] ?_;(with_reducible refine(recoupref22_by.calls k _ _ l0 a2 G _ ?side1 ?side2 A6.out).mono ?_);(case side1=>exact kcA J.out);(case side2=>exact I.out);rintro e w' ⟨rfl,⟨nd,rfl⟩⟩;refine⟨_,rfl,?_⟩))
  go_ret
  exact zD
 ·rw[if_neg c7]at H
  have c7b0:(D==0)=false:=beq_eq_false_iff_ne.mpr c7;have c7b1:(D !=0)=true:=bne_iff_ne.mpr c7;by_cases c8:G=0
  ·rw[if_pos c8]at H
   have c8b0:(G==0)=true:=beq_iff_eq.mpr c8;have c8b1:(G !=0)=false:=bne_eq_false_iff_eq.mpr c8;clear c8;obtain rfl:=Option.some.inj H
   go_enter Try.func28,Try.ntmps28
   go_wp2_with (first|((with_reducible refine gC 33 rfl ?_);refine cG (some 13) Try.func33 #[.slice A0 l0.length c0,.int .i64 a1] ?_;(with_reducible refine(recoupref22_by.calls k _ _ l0 a1 D _ ?side1 ?side2 A5.out).mono ?_);(case side1=>exact kcA J.out);(case side2=>exact I.out);rintro e w' ⟨rfl,⟨nd,rfl⟩⟩;refine⟨_,rfl,?_⟩)|((with_reducible refine gC 33 rfl ?_);refine cG (some 16) Try.func33 #[.slice A0 l0.length c0,.int .i64 a2] ?_;(with_reducible refine(recoupref22_by.calls k _ _ l0 a2 G _ ?side1 ?side2 A6.out).mono ?_);(case side1=>exact kcA J.out);(case side2=>exact I.out);rintro e w' ⟨rfl,⟨nd,rfl⟩⟩;refine⟨_,rfl,?_⟩))
   go_ret
   exact zD
  ·rw[if_neg c8]at H
   have c8b0:(G==0)=false:=beq_eq_false_iff_ne.mpr c8;have c8b1:(G !=0)=true:=bne_iff_ne.mpr c8;obtain⟨L,A9,H⟩:=bindO H
   (try dsimp only at H)
   obtain rfl:=Option.some.inj H
   go_enter Try.func28,Try.ntmps28
   go_wp2_with (first|((with_reducible refine gC 33 rfl ?_);refine cG (some 13) Try.func33 #[.slice A0 l0.length c0,.int .i64 a1] ?_;(with_reducible refine(recoupref22_by.calls k _ _ l0 a1 D _ ?side1 ?side2 A5.out).mono ?_);(case side1=>exact kcA J.out);(case side2=>exact I.out);rintro e w' ⟨rfl,⟨nd,rfl⟩⟩;refine⟨_,rfl,?_⟩)|((with_reducible refine gC 33 rfl ?_);refine cG (some 16) Try.func33 #[.slice A0 l0.length c0,.int .i64 a2] ?_;(with_reducible refine(recoupref22_by.calls k _ _ l0 a2 G _ ?side1 ?side2 A6.out).mono ?_);(case side1=>exact kcA J.out);(case side2=>exact I.out);rintro e w' ⟨rfl,⟨nd,rfl⟩⟩;refine⟨_,rfl,?_⟩)|(go_at_call 27;(with_reducible refine(recoupref01_Mul.calls k D a3 L _ A9.out).mono ?_);rintro e w' ⟨rfl,⟨nd,rfl⟩⟩))
   go_ret
   exact zD
def recoupref22_less.f(D:Int)(G:Int)(L:Int)(U:Int)(I:Int)(J:Int)(O:Int)(X:Int):Option (Bool):=if D=I then(if G=J then(some (decide (L<O)))else(some (decide (G<J))))else(some (decide (D<I)))
theorem recoupref22_less.calls(J:Int)(L:Int)(Y:Int)(aa:Int)(O:Int)(U:Int)(Z:Int)(ab:Int)(r:Bool)(w:World)(h:recoupref22_less.f J L Y aa O U Z ab=some r):
 Calls Try.prog 29 #[.agg #[.int .i64 J,.int .i64 L,.int .u8 Y,.int .i64 aa],.agg #[.int .i64 O,.int .i64 U,.int .u8 Z,.int .i64 ab]] w fun e w'=>e= .returned (.bool r)/\Below w.heap.size w w':=by
 have b4:=Try.underlying31;have HB:=aK (Below.refl w.heap.size w);have H:(if J=O then(if L=U then(some (decide (Y<Z)))else(some (decide (L<U))))else(some (decide (J<O))))=some r:=h;clear h;by_cases c3:J=O
 ·rw[if_pos c3]at H
  have c3b0:(J==O)=true:=beq_iff_eq.mpr c3;have c3b1:(J !=O)=false:=bne_eq_false_iff_eq.mpr c3;clear c3;by_cases c4:L=U
  ·rw[if_pos c4]at H
   have c4b0:(L==U)=true:=beq_iff_eq.mpr c4;have c4b1:(L !=U)=false:=bne_eq_false_iff_eq.mpr c4;clear c4;obtain rfl:=Option.some.inj H
   go_enter Try.func29,Try.ntmps29
   go_wp2_with (first|((with_reducible refine gD 2 rfl ?_);refine bE 2 #[.int .i64 J,.int .i64 L,.int .u8 Y,.int .i64 aa] 31 ?_;intro ah hg w5 hbox hb;have D:=aK (hbox);have af:=hbS HB hg;have ac:=hbS HB hg;replace HB:=hbB HB hb;clear hb hbox hg)|((with_reducible refine gD 3 rfl ?_);refine bE 3 #[.int .i64 O,.int .i64 U,.int .u8 Z,.int .i64 ab] 31 ?_;intro ai hg w6 hbox hb;have X:=aK (hbox);have ag:=hbS HB hg;have ae:=hbS HB hg;replace HB:=hbB HB hb;have G:=neL D hg;have I:=neG D hg;replace D:=bkB D hb;clear hb hbox hg;have b2:=G.out;have b3:=I.out;obtain⟨bh,bi,bj,bk,bp,bq,br,bs⟩:=cell4 D;obtain⟨bl,bm,bn,bo,bt,bu,bv,bw⟩:=cell4 X))
   go_ret
   exact⟨rfE,hbA HB.out⟩
  ·rw[if_neg c4]at H
   have c4b0:(L==U)=false:=beq_eq_false_iff_ne.mpr c4;have c4b1:(L !=U)=true:=bne_iff_ne.mpr c4;obtain rfl:=Option.some.inj H
   go_enter Try.func29,Try.ntmps29
   go_wp2_with (first|((with_reducible refine gD 2 rfl ?_);refine bE 2 #[.int .i64 J,.int .i64 L,.int .u8 Y,.int .i64 aa] 31 ?_;intro ah hg b5 hbox hb;have D:=aK (hbox);have af:=hbS HB hg;have ac:=hbS HB hg;replace HB:=hbB HB hb;clear hb hbox hg)|((with_reducible refine gD 3 rfl ?_);refine bE 3 #[.int .i64 O,.int .i64 U,.int .u8 Z,.int .i64 ab] 31 ?_;intro ai hg b6 hbox hb;have X:=aK (hbox);have ag:=hbS HB hg;have ae:=hbS HB hg;replace HB:=hbB HB hb;have G:=neL D hg;have I:=neG D hg;replace D:=bkB D hb;clear hb hbox hg;have bx:=G.out;have b0:=I.out;obtain⟨aj,ak,al,am,a1,a2,a3,a4⟩:=cell4 D;obtain⟨an,ao,ap,aq,a5,a6,a7,a8⟩:=cell4 X))
   go_ret
   exact⟨rfE,hbA HB.out⟩
 ·rw[if_neg c3]at H
  have c3b0:(J==O)=false:=beq_eq_false_iff_ne.mpr c3;have c3b1:(J !=O)=true:=bne_iff_ne.mpr c3;obtain rfl:=Option.some.inj H
  go_enter Try.func29,Try.ntmps29
  go_wp2_with (first|((with_reducible refine gD 2 rfl ?_);refine bE 2 #[.int .i64 J,.int .i64 L,.int .u8 Y,.int .i64 aa] 31 ?_;intro ah hg b7 hbox hb;have D:=aK (hbox);have af:=hbS HB hg;have ac:=hbS HB hg;replace HB:=hbB HB hb;clear hb hbox hg)|((with_reducible refine gD 3 rfl ?_);refine bE 3 #[.int .i64 O,.int .i64 U,.int .u8 Z,.int .i64 ab] 31 ?_;intro ai hg b8 hbox hb;have X:=aK (hbox);have ag:=hbS HB hg;have ae:=hbS HB hg;replace HB:=hbB HB hb;have G:=neL D hg;have I:=neG D hg;replace D:=bkB D hb;clear hb hbox hg;have bz:=G.out;have b1:=I.out;obtain⟨ar,au,av,aw,a9,ba,bb,bc⟩:=cell4 D;obtain⟨ax,ay,az,a0,bd,be,bf,bg⟩:=cell4 X))
  go_ret
  exact⟨rfE,hbA HB.out⟩
mutual
def recoupref22_Best.l0:Nat->Int->Int->List Int->List (List (S61))->List Int->Option (Int×Int×Int×Int×Bool×Int)
 |0,_,_,_,_,_=>none
 |k+1,x5,x6,G,D,I=>if x6<(D.length:Int)then(if 0<=x6 then(recoupref22_Best.l0 k (wrap64 (x5+((rd_L5 D x6).length:Int))) (wrap64 (x6+1)) G D I)else(none))else(if x5>512 then(recoupref22_Best.j1 k true G D I)else(recoupref22_Best.j1 k (decide ((D.length:Int)>=4096)) G D I))
def recoupref22_Best.j1:Nat->Bool->List Int->List (List (S61))->List Int->Option (Int×Int×Int×Int×Bool×Int)
 |0,_,_,_,_=>none
 |k+1,J,D,G,I=>if J=true then(some (0,0,0,0,false,0))else(recoupref22_Best.l1 k 0 D G I 0 0 0 1)
def recoupref22_Best.l1:Nat->Int->List Int->List (List (S61))->List Int->Int->Int->Int->Int->Option (Int×Int×Int×Int×Bool×Int)
 |0,_,_,_,_,_,_,_,_=>none
 |k+1,x8,O,G,U,I,J,L,D=>if x8<(G.length:Int)then(recoupref22_Best.l2 k x8 0 O G U I J L D)else(if D<2 then(some (0,0,0,0,false,0))else(some (I,J,L,D,true,0)))
def recoupref22_Best.l2:Nat->Int->Int->List Int->List (List (S61))->List Int->Int->Int->Int->Int->Option (Int×Int×Int×Int×Bool×Int)
 |0,_,_,_,_,_,_,_,_,_=>none
 |k+1,x8,x9,G,D,I,J,L,O,U=>if 0<=x8 then(if x8<(D.length:Int)then(if x9<((rd_L5 D x8).length:Int)then(recoupref22_Best.l3 k x8 x9 (wrap64 (x9+1)) G D I J L O U)else(recoupref22_Best.l1 k (wrap64 (x8+1)) G D I J L O U))else(none))else(none)
def recoupref22_Best.l3:Nat->Int->Int->Int->List Int->List (List (S61))->List Int->Int->Int->Int->Int->Option (Int×Int×Int×Int×Bool×Int)
 |0,_,_,_,_,_,_,_,_,_,_=>none
 |k+1,x8,x9,X,G,D,I,J,L,O,U=>if 0<=x8 then(if x8<(D.length:Int)then(if X<((rd_L5 D x8).length:Int)then(if 0<=x9 then(if x9<((rd_L5 D x8).length:Int)then(if 0<=X then((recoupref01_Inv.f k ((rd_T61 (rd_L5 D x8) x9).f1)).bind fun Y=>((recoupref01_Mul.f k ((rd_T61 (rd_L5 D x8) X).f1) Y.1).bind fun Z=>(recoupref22_Best.l4 k x8 x9 X 0 G D I J L O U ((rd_T61 (rd_L5 D x8) x9).f0) ((rd_T61 (rd_L5 D x8) X).f0) Z 0)))else(none))else(none))else(none))else(recoupref22_Best.l2 k x8 (wrap64 (x9+1)) G D I J L O U))else(none))else(none)
def recoupref22_Best.l4:Nat->Int->Int->Int->Int->List Int->List (List (S61))->List Int->Int->Int->Int->Int->Int->Int->Int->Int->Option (Int×Int×Int×Int×Bool×Int)
 |0,_,_,_,_,_,_,_,_,_,_,_,_,_,_,_=>none
 |k+1,x8,x9,ab,ac,J,D,L,O,U,X,G,Y,Z,aa,I=>if ac<(D.length:Int)then(if 0<=ac then((recoupref22_in.f k (rd_L5 D ac) Y Z aa).bind fun ae=>(if ae=true then(recoupref22_Best.l4 k x8 x9 ab (wrap64 (ac+1)) J D L O U X G Y Z aa (wrap64 (I+1)))else(recoupref22_Best.l4 k x8 x9 ab (wrap64 (ac+1)) J D L O U X G Y Z aa I)))else(none))else(if I>G then(recoupref22_Best.l3 k x8 x9 (wrap64 (ab+1)) J D L Y Z aa I)else(if I=G then(if I>1 then((recoupref22_less.f Y Z aa I O U X G).bind fun af=>(if af=true then(recoupref22_Best.l3 k x8 x9 (wrap64 (ab+1)) J D L Y Z aa I)else(recoupref22_Best.l3 k x8 x9 (wrap64 (ab+1)) J D L O U X G)))else(recoupref22_Best.l3 k x8 x9 (wrap64 (ab+1)) J D L O U X G))else(recoupref22_Best.l3 k x8 x9 (wrap64 (ab+1)) J D L O U X G)))
end
def recoupref22_Best.f(k:Nat)(D:List Int)(G:List (List (S61)))(I:List Int):Option (Int×Int×Int×Int×Bool×Int):=(recoupref21_May.f k D G I).bind fun J=>(if J=true then(recoupref22_Best.l0 k 0 0 D G I)else(some (0,0,0,0,false,2)))
def recoupref22_Best.T20:Bool×List (List Nat×List Nat):=(true,[([],[]),([0],[0]),([],[]),([1,2],[1,2]),([3],[3]),([],[]),([4,5],[4,5]),([6],[6]),([7],[7]),([],[]),([9],[9]),([],[]),([10,11],[10,11]),([12],[12]),([],[]),([13,14],[13,14]),([15],[15]),([16],[16]),([8,17],[8,17]),([],[]),([19,18,0,1,2,3,4,5,6,7,8,9,10,11,12,13,14,15,16,17,18,19],[18,19])])
def recoupref22_Best.B20:List Nat:= [0,1,0,7,15,0,63,127,255,0,512,0,3584,7680,0,32256,65024,130560,262143,0,1048575]
theorem recoupref22_Best.tab20:rtab .any (opsOf Try.f11 20)=recoupref22_Best.T20:=by kernel_rfl
theorem recoupref22_Best.bits20:waitsOk recoupref22_Best.T20.2 recoupref22_Best.B20=true:=by kernel_rfl
def recoupref22_Best.T26:Bool×List (List Nat×List Nat):=(true,[([],[]),([0],[0]),([],[]),([1,2],[1,2]),([3],[3]),([],[]),([5],[5]),([],[]),([7],[7]),([],[]),([9],[9]),([4,6,8,10],[4,6,8,10])])
def recoupref22_Best.B26:List Nat:= [0,1,0,7,15,0,32,0,128,0,512,2047]
theorem recoupref22_Best.tab26:rtab .any (opsOf Try.f11 26)=recoupref22_Best.T26:=by kernel_rfl
theorem recoupref22_Best.bits26:waitsOk recoupref22_Best.T26.2 recoupref22_Best.B26=true:=by kernel_rfl
theorem recoupref22_Best.calls(k:Nat)(bn:Option Addr)(bp:Nat)(a5:List Int)(dn:Option Addr)(bq:Nat)(G:List (List (S61)))(bo:Option Addr)(br:Nat)(a6:List Int)(r1:Int)(r2:Int)(r3:Int)(r4:Int)(r5:Bool)(r6:Int)(w:World)(i4:Kd.C (Kd.int .i64) w bn a5.length a5)(ib:a5.length<=bp)(i5:Kd.C (Kd.slice 61 k61) w dn G.length G)(ic:G.length<=bq)(i6:Kd.C (Kd.int .i64) w bo a6.length a6)(ie:a6.length<=br)(h:recoupref22_Best.f k a5 G a6=some (r1,r2,r3,r4,r5,r6)):
 Calls Try.prog 11 #[.agg #[.slice bn a5.length bp,.slice dn G.length bq,.slice bo a6.length br]] w fun e w'=>e= .returned (.tuple #[.agg #[.int .i64 r1,.int .i64 r2,.int .u8 r3,.int .i64 r4],.bool r5,.int .i64 r6])/\Below w.heap.size w w':=by
 have xw:=Try.underlying25;have xx:=Try.underlying31;have gx:=aK i4;have gr:=aK ib;clear i4 ib;have bi:=aK i5;have gs:=aK ic;clear i5 ic;have gy:=aK i6;have gt:=aK ie;clear i6 ie;have HB:=aK (Below.refl w.heap.size w);have H:((recoupref21_May.f k a5 G a6).bind fun i7=>(if i7=true then(recoupref22_Best.l0 k 0 0 a5 G a6)else(some (0,0,0,0,false,2))))=some (r1,r2,r3,r4,r5,r6):=h;clear h;obtain⟨i7,A2,H⟩:=bindO H
 (try dsimp only at H)
 by_cases c3:i7=true
 case neg=>
  replace c3:=Bool.eq_false_iff.mpr c3;subst c3;rw[if_neg nofT]at H
  simp only[Option.some.injEq,Prod.mk.injEq]at H;obtain⟨rfl,rfl,rfl,rfl,rfl,rfl⟩:=H
  go_enter Try.func11,Try.ntmps11
  go_wp2_with (first|((with_reducible refine gD 1 rfl ?_);(try(refine gate_guard zae ?_;dsimp only));refine bE 1 #[.slice bn a5.length bp,.slice dn G.length bq,.slice bo a6.length br] 25 ?_;intro bd hg x0 hbox hb;have I:=aK (hbox);have jq:=hbS HB hg;have jo:=hbS HB hg;replace HB:=hbB HB hb;clear hb hbox hg)|((with_reducible refine gD 2 rfl ?_);(try(refine gate_guard zae ?_;dsimp only));refine bE 2 #[.int .i64 0,.int .i64 0,.int .u8 0,.int .i64 0] 31 ?_;intro bs hg x1 hbox hb;have U:=aK (hbox);have jr:=hbS HB hg;have jp:=hbS HB hg;replace HB:=hbB HB hb;have ae:=neL I hg;have af:=neG I hg;replace I:=bkB I hb;clear hb hbox hg;have tz:=ae.out;have ut:=af.out;obtain⟨ma,mb,mc,og,oh,ol⟩:=cell3 I)|((with_reducible refine gC 18 rfl ?_);refine cG (some 16) Try.func18 #[.agg #[.slice bn a5.length bp,.slice dn G.length bq,.slice bo a6.length br]] ?_;(with_reducible refine(recoupref21_May.calls k _ _ a5 _ _ G _ _ a6 false _ ?side1 ?side2 ?side3 ?side4 ?side5 ?side6 A2.out).mono ?_);(case side1=>exact kcB gx HB);(case side2=>exact gr.out);(case side3=>exact kcB bi HB);(case side4=>exact gs.out);(case side5=>exact kcB gy HB);(case side6=>exact gt.out);rintro e x2 ⟨rfl,hb⟩;refine⟨_,rfl,?_⟩;replace I:=bkB I hb;replace U:=bkB U hb;replace HB:=hbB HB hb;(try clear hb);obtain⟨me,mf,mg,mh,om,oo,op,oq⟩:=cell4 U))
  refine bodyPost_ret (results_ctt rfl _ _ bs 31 #[.int .i64 0,.int .i64 0,.int .u8 0,.int .i64 0] (0,0) _ rfl zbh Try.underlying31 rfl zad) rfl ?_;exact⟨rfE,hbA HB.out⟩
 subst c3;rw[if_pos rfl]at H
 have H':=aK H;clear H
 go_enter Try.func11,Try.ntmps11
 go_wp2_with (first|((with_reducible refine gD 1 rfl ?_);(try(refine gate_guard zae ?_;dsimp only));refine bE 1 #[.slice bn a5.length bp,.slice dn G.length bq,.slice bo a6.length br] 25 ?_;intro bd hg w4 hbox hb;have I:=aK (hbox);have jq:=hbS HB hg;have jo:=hbS HB hg;replace HB:=hbB HB hb;clear hb hbox hg)|((with_reducible refine gD 2 rfl ?_);(try(refine gate_guard zae ?_;dsimp only));refine bE 2 #[.int .i64 0,.int .i64 0,.int .u8 0,.int .i64 0] 31 ?_;intro bs hg w5 hbox hb;have U:=aK (hbox);have jr:=hbS HB hg;have jp:=hbS HB hg;replace HB:=hbB HB hb;have ae:=neL I hg;have af:=neG I hg;replace I:=bkB I hb;clear hb hbox hg;have xp:=ae.out;have xq:=af.out;obtain⟨dg,dh,di,dj,dk,dl⟩:=cell3 I)|((with_reducible refine gC 18 rfl ?_);refine cG (some 16) Try.func18 #[.agg #[.slice bn a5.length bp,.slice dn G.length bq,.slice bo a6.length br]] ?_;(with_reducible refine(recoupref21_May.calls k _ _ a5 _ _ G _ _ a6 true _ ?side1 ?side2 ?side3 ?side4 ?side5 ?side6 A2.out).mono ?_);(case side1=>exact kcB gx HB);(case side2=>exact gr.out);(case side3=>exact kcB bi HB);(case side4=>exact gs.out);(case side5=>exact kcB gy HB);(case side6=>exact gt.out);rintro e w8 ⟨rfl,hb⟩;refine⟨_,rfl,?_⟩;replace I:=bkB I hb;replace U:=bkB U hb;replace HB:=hbB HB hb;(try clear hb)))
 go_loopg [5,6] k (fun kq v5 v6 w'=> ∃(ez:Int) (ce:Int),v5= .int .i64 ez/\v6= .int .i64 ce/\Aside0 (recoupref22_Best.l0 kq ez ce a5 G a6=some (r1,r2,r3,r4,r5,r6))/\Aside0 (kq<=k)/\Aside0 (w'.heap[bd]? =some (.cells #[(.slice bn a5.length bp),(.slice dn G.length bq),(.slice bo a6.length br)] 25 (0,0)))/\Aside0 (w'.heap[bs]? =some (.cells #[.int .i64 0,.int .i64 0,.int .u8 0,.int .i64 0] 31 (0,0)))/\Aside0 (Below w.heap.size w w'))
 case atStart=>exact⟨(0),(0),rsE,rsE,H',⟨Nat.le_refl _⟩,⟨bkA I.out⟩,⟨bkA U.out⟩,⟨hbA HB.out⟩⟩
 case round=>
  clear H'
  (try clear c1);(try clear p2);(try clear c3);(try clear c6);(try clear dg dh di dj dk dl)
  obtain⟨ez,ce,rfl,rfl,HA,b8,I,U,HB⟩:=hrel
  cases gk with
  |zero=>exact absurd HA.out (by simp[recoupref22_Best.l0])
  |succ k1=>
   have H:=HA.out;clear HA;simp only[recoupref22_Best.l0]at H;by_cases c9:ce<(G.length:Int)
   ·rw[if_pos c9]at H
    have c9b0:decide (ce<(G.length:Int))=true:=decide_eq_true c9;clear c9;by_cases e3:0<=ce
    case neg=>rw[if_neg e3]at H;exact absurd H zac
    rw[if_pos e3]at H
    have c10b0:decide (0<=ce)=true:=decide_eq_true e3;clear e3;have H':=aK H;clear H;have u7:=ae.out;have wg:=af.out;obtain⟨cj,ck,cl,ct,cu,cv⟩:=cell3 I;have ej:0<=(ce:Int):=of_decide_eq_true asE;have el:ce<(G.length:Int):=of_decide_eq_true asE;obtain⟨uz,sl,sq,o2,bk,fl,fg⟩:=at_L5 bi.out ce ej el
    cases o2
    replace bk:=(HB.out.cell (World.block_lt_of_cell? w _ bk)).trans bk;have oz:=aK fg;have ou:=aK fl;clear fg fl;replace ej:=eq_true ej;replace el:=eq_true el;go_wp2
    go_roundg k1
    case measure=>have:=b8.out;omega
    case rel=>exact⟨(wrap64 (ez+((rd_L5 G ce).length:Int))),(wrap64 (ce+1)),rsE,rsE,H',⟨by have:=b8.out;omega⟩,⟨bkA I.out⟩,⟨bkA U.out⟩,⟨hbA HB.out⟩⟩
   rw[if_neg c9]at H
   have c9b0:decide (ce<(G.length:Int))=false:=decide_eq_false c9;clear c9;have gu:=aK H;clear H;have u9:=ae.out;have wh:=af.out;obtain⟨cm,cn,co,cw,cx,cy⟩:=cell3 I
   go_upto_region 8 with(fail)
   go_cut [41] (fun xo wc=> ∃(kq:Nat) (en:Bool),xo= .bool en/\Aside0 (recoupref22_Best.j1 kq en a5 G a6=some (r1,r2,r3,r4,r5,r6))/\Aside0 (kq<=k1)/\Aside0 (wc.heap[bd]? =some (.cells #[(.slice bn a5.length bp),(.slice dn G.length bq),(.slice bo a6.length br)] 25 (0,0)))/\Aside0 (wc.heap[bs]? =some (.cells #[.int .i64 0,.int .i64 0,.int .u8 0,.int .i64 0] 31 (0,0)))/\Aside0 (Below w.heap.size w wc))
   case first=>
    have H:=gu.out;clear gu;by_cases ep:ez>512
    ·rw[if_pos ep]at H
     have c16b0:decide (512<ez)=true:=decide_eq_true ep;clear ep
     (first|rw[c16b0] |(simp only[i64_w,i32_w];rw[c16b0])|skip)
     have H':=aK H;clear H;go_wp2
     go_meet
     case rel=>exact⟨_,(true),rsE,H',⟨by have:=b8.out;first|omega|exact Nat.le_refl _⟩,⟨bkA I.out⟩,⟨bkA U.out⟩,⟨hbA HB.out⟩⟩
    rw[if_neg ep]at H
    have c16b0:decide (512<ez)=false:=decide_eq_false ep;clear ep
    (first|rw[c16b0] |(simp only[i64_w,i32_w];rw[c16b0])|skip)
    have H':=aK H;clear H;have vc:=ae.out;have wi:=af.out;obtain⟨cp,cq,cr,cz,c7,c8⟩:=cell3 I;go_wp2
    go_meet
    case rel=>exact⟨_,(decide ((G.length:Int)>=4096)),rsE,H',⟨by have:=b8.out;first|omega|exact Nat.le_refl _⟩,⟨bkA I.out⟩,⟨bkA U.out⟩,⟨hbA HB.out⟩⟩
   case rest=>
    clear gu
    (try clear c1);(try clear p1);(try clear q1);(try clear jl);(try clear p2 p2);(try clear c3);(try clear c6);(try clear p6);(try clear c9);(try clear c9b0);(try clear e3);(try clear c10b0);(try clear jb);(try clear jc);(try clear ft);(try clear fu);(try clear f2);(try clear jd);(try clear ep);(try clear c16b0);(try clear jg);(try clear jh);(try clear cj ck cl ct cu cv);(try clear cm cn co cw cx cy);(try clear cp cq cr cz c7 c8);(try clear dg dh di dj dk dl);(try clear bk);(try clear ej);(try clear el)
    obtain⟨kq,en,rfl,HA,bh,I,U,HB⟩:=hcut
    cases kq with
    |zero=>exact absurd HA.out (by simp[recoupref22_Best.j1])
    |succ jn=>
     have H:=HA.out;clear HA;simp only[recoupref22_Best.j1]at H;by_cases e8:en=true
     ·subst e8;rw[if_pos rfl]at H
      simp only[Option.some.injEq,Prod.mk.injEq]at H;obtain⟨rfl,rfl,rfl,rfl,rfl,rfl⟩:=H;have vd:=af.out;have wj:=ae.out;obtain⟨dt,du,dv,dw,d1,d2,d3,d4⟩:=cell4 U;go_wp2;refine bodyPost_ret (results_ctt rfl _ _ bs 31 #[.int .i64 0,.int .i64 0,.int .u8 0,.int .i64 0] (0,0) _ rfl zbh Try.underlying31 rfl zad) rfl ?_;exact⟨rfE,hbA HB.out⟩
     replace e8:=Bool.eq_false_iff.mpr e8;subst e8;rw[if_neg nofT]at H
     have H':=aK H;clear H
     go_wp2_with (first|((with_reducible refine gD 7 rfl ?_);(try(refine gate_guard zae ?_;dsimp only));refine bE 7 #[.int .i64 0,.int .i64 0,.int .u8 0,.int .i64 0] 31 ?_;intro e5 hg yb hbox hb;have ac:=aK (hbox);have uy:=hbS HB hg;have uw:=hbS HB hg;replace HB:=hbB HB hb;have X:=neL I hg;have al:=neG I hg;replace I:=bkB I hb;have ah:=neL U hg;have a9:=neG U hg;replace U:=bkB U hb;clear hb hbox hg;have ve:=al.out;have wk:=X.out;have vf:=a9.out;have wl:=ah.out;obtain⟨dx,dy,dz,d0,d5,d6,d7,d8⟩:=cell4 ac))
     go_loopg [8] jn (fun kq v8 w'=> ∃(J:Int) (bb:Int) (be:Int) (bj:Int) (bc:Int),v8= .int .i64 J/\Aside0 (recoupref22_Best.l1 kq J a5 G a6 bb be bj bc=some (r1,r2,r3,r4,r5,r6))/\Aside0 (kq<=jn)/\Aside0 (w'.heap[bd]? =some (.cells #[(.slice bn a5.length bp),(.slice dn G.length bq),(.slice bo a6.length br)] 25 (0,0)))/\Aside0 (w'.heap[bs]? =some (.cells #[.int .i64 0,.int .i64 0,.int .u8 0,.int .i64 0] 31 (0,0)))/\Aside0 (w'.heap[e5]? =some (.cells #[.int .i64 bb,.int .i64 be,.int .u8 bj,.int .i64 bc] 31 (0,0)))/\Aside0 (Below w.heap.size w w'))
     case atStart=>exact⟨(0),(0),(0),(0),(1),rsE,H',⟨Nat.le_refl _⟩,⟨by refine bkR ?_;refine blk_far ?_ X.out _;refine bkR ?_;refine blk_far ?_ X.out _;refine bkR ?_;refine blk_far ?_ X.out _;refine bkR ?_;refine blk_far ?_ X.out _;refine bkR ?_;exact I.out⟩,⟨by refine bkR ?_;refine blk_far ?_ ah.out _;refine bkR ?_;refine blk_far ?_ ah.out _;refine bkR ?_;refine blk_far ?_ ah.out _;refine bkR ?_;refine blk_far ?_ ah.out _;refine bkR ?_;exact U.out⟩,⟨by refine bkR ?_;refine blk_put (cs:= #[.int .i64 0,.int .i64 0,.int .u8 0,.int .i64 0]) ?_ 3 _ rfl;refine bkR ?_;refine blk_put (cs:= #[.int .i64 0,.int .i64 0,.int .u8 0,.int .i64 0]) ?_ 2 _ rfl;refine bkR ?_;refine blk_put (cs:= #[.int .i64 0,.int .i64 0,.int .u8 0,.int .i64 0]) ?_ 1 _ rfl;refine bkR ?_;refine blk_put (cs:= #[.int .i64 0,.int .i64 0,.int .u8 0,.int .i64 0]) ?_ 0 _ rfl;refine bkR ?_;exact ac.out⟩,⟨hbA HB.out⟩⟩
     case round=>
      clear H'
      (try clear c1);(try clear p1 p1);(try clear q1 q1);(try clear jl);(try clear c2);(try clear p2 p2);(try clear c3);(try clear c6);(try clear p6 p6);(try clear c9);(try clear c9b0);(try clear e3);(try clear c10b0);(try clear jb);(try clear jc);(try clear ft ft);(try clear fu fu);(try clear f2);(try clear jd);(try clear ep);(try clear c16b0);(try clear jg);(try clear jh);(try clear e8);(try clear jw);(try clear jx);(try clear jy);(try clear cj ck cl ct cu cv);(try clear cm cn co cw cx cy);(try clear cp cq cr cz c7 c8);(try clear dt du dv dw d1 d2 d3 d4);(try clear dx dy dz d0 d5 d6 d7 d8);(try clear dg dh di dj dk dl);(try clear bk);(try clear ej);(try clear el)
      obtain⟨J,bb,be,bj,bc,rfl,HA,cf,I,U,ac,HB⟩:=hrel
      cases gk with
      |zero=>exact absurd HA.out (by simp[recoupref22_Best.l1])
      |succ k3=>
       have H:=HA.out;clear HA;simp only[recoupref22_Best.l1]at H;by_cases e4:J<(G.length:Int)
       case neg=>
        rw[if_neg e4]at H
        have c26b0:decide (J<(G.length:Int))=false:=decide_eq_false e4;clear e4;by_cases e0:bc<2
        case neg=>
         rw[if_neg e0]at H
         have c135b0:decide (bc<2)=false:=decide_eq_false e0;clear e0;simp only[Option.some.injEq,Prod.mk.injEq]at H;obtain⟨rfl,rfl,rfl,rfl,rfl,rfl⟩:=H;have tv:=ae.out;have uq:=af.out;have tw:=X.out;have ur:=al.out;obtain⟨lu,lv,lw,n4,n5,n6⟩:=cell3 I;have tx:=a9.out;have us:=ah.out;obtain⟨lx,ly,lz,l5,n7,n8,n9,oa⟩:=cell4 ac;obtain⟨l6,l7,l8,l9,ob,oc,od,oe⟩:=cell4 U;go_wp2;refine bodyPost_ret (results_ctt rfl _ _ bs 31 #[.int .i64 bb,.int .i64 be,.int .u8 bj,.int .i64 bc] (0,0) _ rfl (by refine bkR ?_;refine blk_put (cs:= #[.int .i64 bb,.int .i64 be,.int .u8 bj,.int .i64 0]) ?_ 3 _ rfl;refine bkR ?_;refine blk_put (cs:= #[.int .i64 bb,.int .i64 be,.int .u8 0,.int .i64 0]) ?_ 2 _ rfl;refine bkR ?_;refine blk_put (cs:= #[.int .i64 bb,.int .i64 0,.int .u8 0,.int .i64 0]) ?_ 1 _ rfl;refine bkR ?_;refine blk_put (cs:= #[.int .i64 0,.int .i64 0,.int .u8 0,.int .i64 0]) ?_ 0 _ rfl;refine bkR ?_;exact U.out) Try.underlying31 rfl zad) rfl ?_;exact⟨rfE,hbA HB.out⟩
        rw[if_pos e0]at H
        have c135b0:decide (bc<2)=true:=decide_eq_true e0;clear e0;simp only[Option.some.injEq,Prod.mk.injEq]at H;obtain⟨rfl,rfl,rfl,rfl,rfl,rfl⟩:=H;have tr:=ae.out;have um:=af.out;have tt:=X.out;have un:=al.out;obtain⟨lf,lg,lh,nt,nu,nv⟩:=cell3 I;have tu:=a9.out;have uo:=ah.out;obtain⟨ll,lm,ln,lp,nw,nx,ny,nz⟩:=cell4 ac;obtain⟨lq,lr,ls,lt,n0,n1,n2,n3⟩:=cell4 U;go_wp2;refine bodyPost_ret (results_ctt rfl _ _ bs 31 #[.int .i64 0,.int .i64 0,.int .u8 0,.int .i64 0] (0,0) _ rfl zbh Try.underlying31 rfl zad) rfl ?_;exact⟨rfE,hbA HB.out⟩
       rw[if_pos e4]at H
       have c26b0:decide (J<(G.length:Int))=true:=decide_eq_true e4;clear e4;have H':=aK H;clear H;have vg:=ae.out;have wm:=af.out;have vh:=X.out;have wn:=al.out;obtain⟨er,es,et,eu,ev,ew⟩:=cell3 I;go_wp2
       go_loopg [9] k3 (fun kq v9 w'=> ∃(ag:Int) (b4:Int) (b5:Int) (b6:Int) (b7:Int),v9= .int .i64 ag/\Aside0 (recoupref22_Best.l2 kq J ag a5 G a6 b4 b5 b6 b7=some (r1,r2,r3,r4,r5,r6))/\Aside0 (kq<=k3)/\Aside0 (w'.heap[bd]? =some (.cells #[(.slice bn a5.length bp),(.slice dn G.length bq),(.slice bo a6.length br)] 25 (0,0)))/\Aside0 (w'.heap[bs]? =some (.cells #[.int .i64 0,.int .i64 0,.int .u8 0,.int .i64 0] 31 (0,0)))/\Aside0 (w'.heap[e5]? =some (.cells #[.int .i64 b4,.int .i64 b5,.int .u8 b6,.int .i64 b7] 31 (0,0)))/\Aside0 (Below w.heap.size w w'))
       case atStart=>exact⟨(0),(bb),(be),(bj),(bc),rsE,H',⟨Nat.le_refl _⟩,⟨bkA I.out⟩,⟨bkA U.out⟩,⟨bkA ac.out⟩,⟨hbA HB.out⟩⟩
       case round=>
        clear H'
        (try clear c1);(try clear p1 p1);(try clear q1 q1);(try clear jl);(try clear c2);(try clear p2 p2);(try clear c3);(try clear c6);(try clear p6 p6);(try clear c9);(try clear c9b0);(try clear e3);(try clear c10b0);(try clear jb);(try clear jc);(try clear ft ft);(try clear fu fu);(try clear f2);(try clear jd);(try clear ep);(try clear c16b0);(try clear jg);(try clear jh);(try clear e8);(try clear jw);(try clear jx);(try clear jy);(try clear e4);(try clear c26b0);(try clear o0);(try clear o1);(try clear cj ck cl ct cu cv);(try clear cm cn co cw cx cy);(try clear cp cq cr cz c7 c8);(try clear dt du dv dw d1 d2 d3 d4);(try clear dx dy dz d0 d5 d6 d7 d8);(try clear er es et eu ev ew);(try clear dg dh di dj dk dl);(try clear bk);(try clear ej);(try clear el)
        obtain⟨ag,b4,b5,b6,b7,rfl,HA,cg,I,U,ac,HB⟩:=hrel
        cases gk with
        |zero=>exact absurd HA.out (by simp[recoupref22_Best.l2])
        |succ k4=>
         have H:=HA.out;clear HA;simp only[recoupref22_Best.l2]at H;by_cases gl:0<=J
         case neg=>rw[if_neg gl]at H;exact absurd H zac
         rw[if_pos gl]at H
         have c30b0:decide (0<=J)=true:=decide_eq_true gl;clear gl;by_cases gm:J<(G.length:Int)
         case neg=>rw[if_neg gm]at H;exact absurd H zac
         rw[if_pos gm]at H
         have c31b0:decide (J<(G.length:Int))=true:=decide_eq_true gm;clear gm;by_cases e9:ag<((rd_L5 G J).length:Int)
         case neg=>
          rw[if_neg e9]at H
          have c32b0:decide (ag<((rd_L5 G J).length:Int))=false:=decide_eq_false e9;clear e9;have H':=aK H;clear H;have tp:=ae.out;have uk:=af.out;have tq:=X.out;have ul:=al.out;obtain⟨lc,ld,le,np,nq,nr⟩:=cell3 I;have eh:0<=(J:Int):=of_decide_eq_true asE;have ei:J<(G.length:Int):=of_decide_eq_true asE;obtain⟨aw,i9,je,g8,bg,dd,da⟩:=at_L5 bi.out J eh ei
          cases g8
          replace bg:=(HB.out.cell (World.block_lt_of_cell? w _ bg)).trans bg;have gz:=aK da;have gv:=aK dd;clear da dd;replace eh:=eq_true eh;replace ei:=eq_true ei;go_wp2
          go_roundg k4
          case measure=>have:=b8.out;have:=bh.out;have:=cf.out;have:=cg.out;omega
          case rel=>exact⟨(wrap64 (J+1)),(b4),(b5),(b6),(b7),rsE,H',⟨by have:=b8.out;have:=bh.out;have:=cf.out;have:=cg.out;omega⟩,⟨bkA I.out⟩,⟨bkA U.out⟩,⟨bkA ac.out⟩,⟨hbA HB.out⟩⟩
         rw[if_pos e9]at H
         have c32b0:decide (ag<((rd_L5 G J).length:Int))=true:=decide_eq_true e9;clear e9;have H':=aK H;clear H;have vi:=ae.out;have wo:=af.out;have vj:=X.out;have wp:=al.out;obtain⟨fa,fb,fc,fd,fe,ff⟩:=cell3 I;have eh:0<=(J:Int):=of_decide_eq_true asE;have ei:J<(G.length:Int):=of_decide_eq_true asE;obtain⟨aw,i9,je,g8,bg,dd,da⟩:=at_L5 bi.out J eh ei
         cases g8
         replace bg:=(HB.out.cell (World.block_lt_of_cell? w _ bg)).trans bg;have gz:=aK da;have gv:=aK dd;clear da dd;replace eh:=eq_true eh;replace ei:=eq_true ei;go_wp2
         go_loopg [10] k4 (fun kq xm w'=> ∃(Z:Int) (av:Int) (am:Int) (ak:Int) (Y:Int),xm= .int .i64 Z/\Aside0 (recoupref22_Best.l3 kq J ag Z a5 G a6 av am ak Y=some (r1,r2,r3,r4,r5,r6))/\Aside0 (kq<=k4)/\Aside0 (w'.heap[bd]? =some (.cells #[(.slice bn a5.length bp),(.slice (some aw) G.length bq),(.slice bo a6.length br)] 25 (0,0)))/\Aside0 (w'.heap[bs]? =some (.cells #[.int .i64 0,.int .i64 0,.int .u8 0,.int .i64 0] 31 (0,0)))/\Aside0 (w'.heap[e5]? =some (.cells #[.int .i64 av,.int .i64 am,.int .u8 ak,.int .i64 Y] 31 (0,0)))/\Aside0 (Below w.heap.size w w'))
         case atStart=>exact⟨(wrap64 (ag+1)),(b4),(b5),(b6),(b7),rsE,H',⟨Nat.le_refl _⟩,⟨bkA I.out⟩,⟨bkA U.out⟩,⟨bkA ac.out⟩,⟨hbA HB.out⟩⟩
         case round=>
          clear H'
          (try clear c1);(try clear p1 p1);(try clear q1 q1);(try clear jl);(try clear c2);(try clear p2 p2);(try clear c3);(try clear c6);(try clear p6 p6);(try clear c9);(try clear c9b0);(try clear e3);(try clear c10b0);(try clear jb);(try clear jc);(try clear ft ft);(try clear fu fu);(try clear f2);(try clear jd);(try clear sg);(try clear sh);(try clear sf);(try clear ep);(try clear c16b0);(try clear jg);(try clear jh);(try clear e8);(try clear jw);(try clear jx);(try clear jy);(try clear e4);(try clear c26b0);(try clear o0);(try clear o1);(try clear gl);(try clear c30b0);(try clear gm);(try clear c31b0);(try clear e9);(try clear c32b0);(try clear u1);(try clear u2);(try clear cj ck cl ct cu cv);(try clear cm cn co cw cx cy);(try clear cp cq cr cz c7 c8);(try clear dt du dv dw d1 d2 d3 d4);(try clear dx dy dz d0 d5 d6 d7 d8);(try clear er es et eu ev ew);(try clear fa fb fc fd fe ff);(try clear dg dh di dj dk dl);(try clear bk);(try clear bg);(try clear ej);(try clear eh);(try clear el);(try clear ei)
          obtain⟨Z,av,am,ak,Y,rfl,HA,dm,I,U,ac,HB⟩:=hrel
          cases gk with
          |zero=>exact absurd HA.out (by simp[recoupref22_Best.l3])
          |succ k5=>
           have H:=HA.out;clear HA;simp only[recoupref22_Best.l3]at H;by_cases g3:0<=J
           case neg=>rw[if_neg g3]at H;exact absurd H zac
           rw[if_pos g3]at H
           have c36b0:decide (0<=J)=true:=decide_eq_true g3;clear g3;by_cases g4:J<(G.length:Int)
           case neg=>rw[if_neg g4]at H;exact absurd H zac
           rw[if_pos g4]at H
           have c37b0:decide (J<(G.length:Int))=true:=decide_eq_true g4;clear g4;by_cases fx:Z<((rd_L5 G J).length:Int)
           case neg=>
            rw[if_neg fx]at H
            have c38b0:decide (Z<((rd_L5 G J).length:Int))=false:=decide_eq_false fx;clear fx;have H':=aK H;clear H;have tm:=ae.out;have ui:=af.out;have tn:=X.out;have uj:=al.out;obtain⟨k9,la,lb,nl,nm,nn⟩:=cell3 I;have ek:0<=(J:Int):=of_decide_eq_true asE;have em:J<(G.length:Int):=of_decide_eq_true asE;obtain⟨fv,ja,jf,g9,bl,de,db⟩:=at_L5 bi.out J ek em;obtain rfl:aw=fv:=(by injection g9)
            replace bl:=(HB.out.cell (World.block_lt_of_cell? w _ bl)).trans bl;have g0:=aK db;have gw:=aK de;clear db de;replace ek:=eq_true ek;replace em:=eq_true em;go_wp2
            go_roundg k5
            case measure=>have:=b8.out;have:=bh.out;have:=cf.out;have:=cg.out;have:=dm.out;omega
            case rel=>exact⟨(wrap64 (ag+1)),(av),(am),(ak),(Y),rsE,H',⟨by have:=b8.out;have:=bh.out;have:=cf.out;have:=cg.out;have:=dm.out;omega⟩,⟨bkA I.out⟩,⟨bkA U.out⟩,⟨bkA ac.out⟩,⟨hbA HB.out⟩⟩
           rw[if_pos fx]at H
           have c38b0:decide (Z<((rd_L5 G J).length:Int))=true:=decide_eq_true fx;clear fx;by_cases g5:0<=ag
           case neg=>rw[if_neg g5]at H;exact absurd H zac
           rw[if_pos g5]at H
           have c39b0:decide (0<=ag)=true:=decide_eq_true g5;clear g5;by_cases g6:ag<((rd_L5 G J).length:Int)
           case neg=>rw[if_neg g6]at H;exact absurd H zac
           rw[if_pos g6]at H
           have c40b0:decide (ag<((rd_L5 G J).length:Int))=true:=decide_eq_true g6;clear g6;by_cases g7:0<=Z
           case neg=>rw[if_neg g7]at H;exact absurd H zac
           rw[if_pos g7]at H
           have c41b0:decide (0<=Z)=true:=decide_eq_true g7;clear g7;obtain⟨⟨i8,si⟩,uu,H⟩:=bindO H
           (try dsimp only at H)
           obtain⟨bm,uv,H⟩:=bindO H
           (try dsimp only at H)
           have H':=aK H;clear H;have vk:=ae.out;have wq:=af.out;have vl:=X.out;have ws:=al.out;obtain⟨ig,ii,ij,it,iu,iv⟩:=cell3 I;have ek:0<=(J:Int):=of_decide_eq_true asE;have em:J<(G.length:Int):=of_decide_eq_true asE;obtain⟨fv,ja,jf,g9,bl,de,db⟩:=at_L5 bi.out J ek em;obtain rfl:aw=fv:=(by injection g9)
           replace bl:=(HB.out.cell (World.block_lt_of_cell? w _ bl)).trans bl;have g0:=aK db;have gw:=aK de;clear db de;replace ek:=eq_true ek;replace em:=eq_true em
           try go_wp2
           replace I:=aK (blk_drew I.out);replace U:=aK (blk_drew U.out);replace ac:=aK (blk_drew ac.out);replace HB:=aK (below_drew1 HB.out);have f3:0<=(J:Int):=of_decide_eq_true asE;have gb:J<(G.length:Int):=of_decide_eq_true asE;obtain⟨js,sm,fz,o3,b2,fm,fh⟩:=at_L5 bi.out J f3 gb;have an:=b2;obtain rfl:aw=js:=(by injection o3)
           replace b2:=(HB.out.cell (World.block_lt_of_cell? w _ b2)).trans b2;have e6:=aK fh;have ov:=aK fm;clear fh fm;replace f3:=eq_true f3;replace gb:=eq_true gb;have f4:0<=(ag:Int):=of_decide_eq_true asE;have gc:ag<((rd_L5 G J).length:Int):=of_decide_eq_true asE;obtain⟨ci,o4,b9,ca⟩:=at_T61 e6.out ag f4 gc;have ap:=ca;have ao:=b9
           cases o4
           replace b9:=(HB.out.cell (World.block_lt_of_cell? w _ b9)).trans b9;replace ca:=(HB.out.cell (World.block_lt_of_cell? w _ ca)).trans ca;replace f4:=eq_true f4;replace gc:=eq_true gc;have f5:0<=(J:Int):=of_decide_eq_true asE;have ge:J<(G.length:Int):=of_decide_eq_true asE;obtain⟨jt,sn,sr,o5,b3,fo,fi⟩:=at_L5 bi.out J f5 ge;have aq:=b3;obtain rfl:aw=jt:=(by injection o5)
           replace b3:=(HB.out.cell (World.block_lt_of_cell? w _ b3)).trans b3;have e7:=aK fi;have ow:=aK fo;clear fi fo;replace f5:=eq_true f5;replace ge:=eq_true ge;have ea_:=Option.some.inj (b2.symm.trans b3);injection ea_ with ea_ en_ ec_;subst ea_;subst ec_;clear en_;have f6:0<=(Z:Int):=of_decide_eq_true asE;have gf:Z<((rd_L5 G J).length:Int):=of_decide_eq_true asE;obtain⟨u0,o6,cb,cd⟩:=at_T61 e7.out Z f6 gf;have au:=cd;have ar:=cb
           cases o6
           replace cb:=(HB.out.cell (World.block_lt_of_cell? w _ cb)).trans cb;replace cd:=(HB.out.cell (World.block_lt_of_cell? w _ cd)).trans cd;replace f6:=eq_true f6;replace gf:=eq_true gf;refine start_ (n:=21) (S:=fun w'=>w'.cell? ⟨bd,0,none⟩=some (.slice bn a5.length bp)/\w'.cell? ⟨bd,1,none⟩=some (.slice (some aw) G.length bq)/\w'.cell? ⟨bd,2,none⟩=some (.slice bo a6.length br)/\w'.cell? (aw.add (J).toNat)=some (.slice (some ci) (rd_L5 G J).length fz)/\w'.cell? (ci.add ((ag).toNat*2))=some (.int .i64 ((rd_T61 (rd_L5 G J) ag).f0))/\w'.cell? ⟨(ci.add ((ag).toNat*2)).block,(ci.add ((ag).toNat*2)).off+1,none⟩=some (.int .u8 ((rd_T61 (rd_L5 G J) ag).f1))/\w'.cell? (aw.add (J).toNat)=some (.slice (some ci) (rd_L5 G J).length fz)/\w'.cell? (ci.add ((Z).toNat*2))=some (.int .i64 ((rd_T61 (rd_L5 G J) Z).f0))/\w'.cell? ⟨(ci.add ((Z).toNat*2)).block,(ci.add ((Z).toNat*2)).off+1,none⟩=some (.int .u8 ((rd_T61 (rd_L5 G J) Z).f1))) (ds:= []) (.replicate 21 false) zad rfl rfl (z3k I ⟨((HB.out.cell (World.block_lt_of_cell? w _ an)).trans an),((HB.out.cell (World.block_lt_of_cell? w _ ao)).trans ao),((HB.out.cell (World.block_lt_of_cell? w _ ap)).trans ap),((HB.out.cell (World.block_lt_of_cell? w _ aq)).trans aq),((HB.out.cell (World.block_lt_of_cell? w _ ar)).trans ar),((HB.out.cell (World.block_lt_of_cell? w _ au)).trans au)⟩) (fun hHeld=>?_);refine with_tabW recoupref22_Best.tab20 recoupref22_Best.bits20 (fun HT_ HW_=>?_);generalize wr.drew=yc at I U ac HB e6 e7 b2 b9 ca b3 cb cd hHeld⊢;refine pu 0 (some 73) (mB 21 1) HT_ ?_;refine pu 2 (some 75) (mB 21 5) HT_ ?_;refine pu 5 (some 78) (mB 21 37) HT_ ?_;refine pu 9 (some 82) (mB 21 549) HT_ ?_;refine pu 11 (some 84) (mB 21 2597) HT_ ?_;refine pu 14 (some 87) (mB 21 18981) HT_ ?_;refine tk9 1 (some 74) (mB 21 18983) HT_ HW_ hHeld ?_;refine pu 3 (some 76) (mB 21 18991) HT_ ?_;refine tk9 4 (some 77) (mB 21 19007) HT_ HW_ hHeld ?_;refine pu 6 (some 79) (mB 21 19071) HT_ ?_;refine pu 7 (some 80) (mB 21 19199) HT_ ?_;refine tk9 8 (some 81) (mB 21 19455) HT_ HW_ hHeld ?_;refine tk9 10 (some 83) (mB 21 20479) HT_ HW_ hHeld ?_;refine pu 12 (some 85) (mB 21 24575) HT_ ?_;refine tk9 13 (some 86) (mB 21 32767) HT_ HW_ hHeld ?_;refine pu 15 (some 88) (mB 21 65535) HT_ ?_;refine pu 16 (some 89) (mB 21 131071) HT_ ?_;refine tk9 17 (some 90) (mB 21 262143) HT_ HW_ hHeld ?_;refine pu 18 (some 91) (mB 21 524287) HT_ ?_;refine zoh 19 (some 11) (mB 21 1048575) HT_ fun K hK=>?_;refine box_step ?hg (N:=11) ?hd (cs:= #[.int .i64 0,.int .i64 0,.int .u8 0,.int .i64 0]) (t:=31) ?hr ?_;(case hd=>rfl);(case hg=>rfl);(case hr=>first|(go_simp;done)|(go_simp;rfl))
           intro L hg jm hbox hb;have ab:=aK (hbox);have D:=hbS HB hg;have ux:=hbS HB hg;replace HB:=hbB HB hb;have O:=neL I hg;have ax:=neG I hg;replace I:=bkB I hb;have ai:=neL U hg;have a3:=neG U hg;replace U:=bkB U hb;have aj:=neL ac hg;have a4:=neG ac hg;replace ac:=bkB ac hb;clear hb hbox hg;refine hK.out _ _ (z3k I ⟨((HB.out.cell (World.block_lt_of_cell? w _ an)).trans an),((HB.out.cell (World.block_lt_of_cell? w _ ao)).trans ao),((HB.out.cell (World.block_lt_of_cell? w _ ap)).trans ap),((HB.out.cell (World.block_lt_of_cell? w _ aq)).trans aq),((HB.out.cell (World.block_lt_of_cell? w _ ar)).trans ar),((HB.out.cell (World.block_lt_of_cell? w _ au)).trans au)⟩) (fun hHeld=>?_);clear hK K;refine znm (some 11) ?_;refine zoh 20 (none) (mB 21 2097151) HT_ fun K hK=>?_;have xr:jm.cell? ⟨L,0,none⟩=some (.int .i64 0):=(blk_cell ab.out 0).trans rfl;have u3:=blk_frozen ab.out 0;have rx:=O.out;have ry:=ai.out;have rz:=aj.out;have rj:=ax.out;have rk:=a3.out;have rl:=a4.out;have xt:jm.cell? ⟨L,1,none⟩=some (.int .i64 0):=(blk_cell ab.out 1).trans rfl;have u4:=blk_frozen ab.out 1;have r0:=O.out;have r7:=ai.out;have r8:=aj.out;have rm:=ax.out;have rn:=a3.out;have ro:=a4.out;have xu:jm.cell? ⟨L,2,none⟩=some (.int .u8 0):=(blk_cell ab.out 2).trans rfl;have u5:=blk_frozen ab.out 2;have r9:=O.out;have sa:=ai.out;have sb:=aj.out;have rp:=ax.out;have rq:=a3.out;have rr:=a4.out;have xv:jm.cell? ⟨L,3,none⟩=some (.int .i64 0):=(blk_cell ab.out 3).trans rfl;have u6:=blk_frozen ab.out 3;have sc:=O.out;have sd:=ai.out;have se:=aj.out;have rt:=ax.out;have ru:=a3.out;have rv:=a4.out;refine zsk ?_;refine hK.out _ _ ⟨((cell_far (p:=⟨L,_,none⟩) O.out _).trans (((cell_far (p:=⟨L,_,none⟩) O.out _).trans (((cell_far (p:=⟨L,_,none⟩) O.out _).trans (((cell_far (p:=⟨L,_,none⟩) O.out _).trans (hHeld.1)))))))),((cell_far (p:=⟨L,_,none⟩) O.out _).trans (((cell_far (p:=⟨L,_,none⟩) O.out _).trans (((cell_far (p:=⟨L,_,none⟩) O.out _).trans (((cell_far (p:=⟨L,_,none⟩) O.out _).trans (hHeld.2.1)))))))),((cell_far (p:=⟨L,_,none⟩) O.out _).trans (((cell_far (p:=⟨L,_,none⟩) O.out _).trans (((cell_far (p:=⟨L,_,none⟩) O.out _).trans (((cell_far (p:=⟨L,_,none⟩) O.out _).trans (hHeld.2.2.1)))))))),((cell_far (p:=⟨L,_,none⟩) za3 _).trans (((cell_far (p:=⟨L,_,none⟩) za3 _).trans (((cell_far (p:=⟨L,_,none⟩) za3 _).trans (((cell_far (p:=⟨L,_,none⟩) za3 _).trans (hHeld.2.2.2.1)))))))),((cell_far (p:=⟨L,_,none⟩) za2 _).trans (((cell_far (p:=⟨L,_,none⟩) za2 _).trans (((cell_far (p:=⟨L,_,none⟩) za2 _).trans (((cell_far (p:=⟨L,_,none⟩) za2 _).trans (hHeld.2.2.2.2.1)))))))),((cell_far (p:=⟨L,_,none⟩) za1 _).trans (((cell_far (p:=⟨L,_,none⟩) za1 _).trans (((cell_far (p:=⟨L,_,none⟩) za1 _).trans (((cell_far (p:=⟨L,_,none⟩) za1 _).trans (hHeld.2.2.2.2.2.1)))))))),((cell_far (p:=⟨L,_,none⟩) za0 _).trans (((cell_far (p:=⟨L,_,none⟩) za0 _).trans (((cell_far (p:=⟨L,_,none⟩) za0 _).trans (((cell_far (p:=⟨L,_,none⟩) za0 _).trans (hHeld.2.2.2.2.2.2.1)))))))),((cell_far (p:=⟨L,_,none⟩) zaz _).trans (((cell_far (p:=⟨L,_,none⟩) zaz _).trans (((cell_far (p:=⟨L,_,none⟩) zaz _).trans (((cell_far (p:=⟨L,_,none⟩) zaz _).trans (hHeld.2.2.2.2.2.2.2.1)))))))),((cell_far (p:=⟨L,_,none⟩) zay _).trans (((cell_far (p:=⟨L,_,none⟩) zay _).trans (((cell_far (p:=⟨L,_,none⟩) zay _).trans (((cell_far (p:=⟨L,_,none⟩) zay _).trans (hHeld.2.2.2.2.2.2.2.2))))))))⟩ (fun hHeld=>?_)
           clear hK K;refine done_ (done_of HT_.out zad) ?_;have vm:=O.out;have wt:=ax.out;obtain⟨ik,il,im,iw,ix,iy⟩:=cell3 I;have f7:0<=(J:Int):=of_decide_eq_true asE;have gg:J<(G.length:Int):=of_decide_eq_true asE;obtain⟨ju,so,ss,o7,ay,fp,fj⟩:=at_L5 bi.out J f7 gg;obtain rfl:aw=ju:=(by injection o7)
           have d9:aw.block≠L:=Nat.ne_of_lt (Nat.lt_of_lt_of_le za6 D.out);have ea:aw.block≠L:=Nat.ne_of_lt (Nat.lt_of_lt_of_le za6 D.out);have eb:aw.block≠L:=Nat.ne_of_lt (Nat.lt_of_lt_of_le za6 D.out);have ec:aw.block≠L:=Nat.ne_of_lt (Nat.lt_of_lt_of_le za6 D.out);replace ay:=(HB.out.cell (World.block_lt_of_cell? w _ ay)).trans ay;have g1:=aK fj;have ox:=aK fp;clear fj fp;replace ay:=(cell_far (p:=⟨L,0,none⟩) (by first|(rw[add_block];exact d9)|(show(Addr.add _ _).block≠_;rw[add_block];exact d9)|exact d9) (.int .i64 ((rd_T61 (rd_L5 G J) ag).f0))).trans ay;replace ay:=(cell_far (p:=⟨L,1,none⟩) (by first|(rw[add_block];exact ea)|(show(Addr.add _ _).block≠_;rw[add_block];exact ea)|exact ea) (.int .i64 ((rd_T61 (rd_L5 G J) Z).f0))).trans ay;replace ay:=(cell_far (p:=⟨L,2,none⟩) (by first|(rw[add_block];exact eb)|(show(Addr.add _ _).block≠_;rw[add_block];exact eb)|exact eb) (.int .u8 0)).trans ay;replace ay:=(cell_far (p:=⟨L,3,none⟩) (by first|(rw[add_block];exact ec)|(show(Addr.add _ _).block≠_;rw[add_block];exact ec)|exact ec) (.int .i64 0)).trans ay;clear d9;clear ea;clear eb;clear ec;replace f7:=eq_true f7;replace gg:=eq_true gg;have f8:0<=(ag:Int):=of_decide_eq_true asE;have gh:ag<((rd_L5 G J).length:Int):=of_decide_eq_true asE;obtain⟨e1,o8,az,a7⟩:=at_T61 g1.out ag f8 gh
           cases o8
           have bt:e1.block≠L:=Nat.ne_of_lt (Nat.lt_of_lt_of_le za5 D.out);have bu:e1.block≠L:=Nat.ne_of_lt (Nat.lt_of_lt_of_le za5 D.out);have bv:e1.block≠L:=Nat.ne_of_lt (Nat.lt_of_lt_of_le za5 D.out);have bw:e1.block≠L:=Nat.ne_of_lt (Nat.lt_of_lt_of_le za5 D.out);replace az:=(HB.out.cell (World.block_lt_of_cell? w _ az)).trans az;replace a7:=(HB.out.cell (World.block_lt_of_cell? w _ a7)).trans a7;replace az:=(cell_far (p:=⟨L,0,none⟩) zbz (.int .i64 ((rd_T61 (rd_L5 G J) ag).f0))).trans az;replace a7:=(cell_far (p:=⟨L,0,none⟩) zbz (.int .i64 ((rd_T61 (rd_L5 G J) ag).f0))).trans a7;replace az:=(cell_far (p:=⟨L,1,none⟩) zby (.int .i64 ((rd_T61 (rd_L5 G J) Z).f0))).trans az;replace a7:=(cell_far (p:=⟨L,1,none⟩) zby (.int .i64 ((rd_T61 (rd_L5 G J) Z).f0))).trans a7;replace az:=(cell_far (p:=⟨L,2,none⟩) zbx (.int .u8 0)).trans az;replace a7:=(cell_far (p:=⟨L,2,none⟩) zbx (.int .u8 0)).trans a7;replace az:=(cell_far (p:=⟨L,3,none⟩) zbw (.int .i64 0)).trans az;replace a7:=(cell_far (p:=⟨L,3,none⟩) zbw (.int .i64 0)).trans a7;clear bt;clear bu;clear bv;clear bw;replace f8:=eq_true f8;replace gh:=eq_true gh
           try go_wp2_with (first|((with_reducible refine gC 26 rfl ?_);refine cG (some 102) Try.func26 #[.int .u8 ((rd_T61 (rd_L5 G J) ag).f1)] ?_;(with_reducible refine(recoupref01_Inv.calls k5 ((rd_T61 (rd_L5 G J) ag).f1) i8 si _ uu.out).mono ?_);rintro e w' ⟨rfl,⟨nd,rfl⟩⟩;refine⟨_,rfl,?_⟩;have f9:0<=(J:Int):=of_decide_eq_true asE;have gi:J<(G.length:Int):=of_decide_eq_true asE;obtain⟨jv,sp,st,o9,a0,fq,fk⟩:=at_L5 bi.out J f9 gi;obtain rfl:aw=jv:=(by injection o9);have ed:aw.block≠L:=Nat.ne_of_lt (Nat.lt_of_lt_of_le za8 D.out);have ee:aw.block≠L:=Nat.ne_of_lt (Nat.lt_of_lt_of_le za8 D.out);have ef:aw.block≠L:=Nat.ne_of_lt (Nat.lt_of_lt_of_le za8 D.out);have eg:aw.block≠L:=Nat.ne_of_lt (Nat.lt_of_lt_of_le za8 D.out);replace a0:=(HB.out.cell (World.block_lt_of_cell? w _ a0)).trans a0;have g2:=aK fk;have oy:=aK fq;clear fk fq;replace a0:=(cell_far (p:=⟨L,0,none⟩) (by first|(rw[add_block];exact ed)|(show(Addr.add _ _).block≠_;rw[add_block];exact ed)|exact ed) (.int .i64 ((rd_T61 (rd_L5 G J) ag).f0))).trans a0;replace a0:=(cell_far (p:=⟨L,1,none⟩) (by first|(rw[add_block];exact ee)|(show(Addr.add _ _).block≠_;rw[add_block];exact ee)|exact ee) (.int .i64 ((rd_T61 (rd_L5 G J) Z).f0))).trans a0;replace a0:=(cell_far (p:=⟨L,2,none⟩) (by first|(rw[add_block];exact ef)|(show(Addr.add _ _).block≠_;rw[add_block];exact ef)|exact ef) (.int .u8 0)).trans a0;replace a0:=(cell_far (p:=⟨L,3,none⟩) (by first|(rw[add_block];exact eg)|(show(Addr.add _ _).block≠_;rw[add_block];exact eg)|exact eg) (.int .i64 0)).trans a0;clear ed;clear ee;clear ef;clear eg;replace f9:=eq_true f9;replace gi:=eq_true gi;have ga:0<=(Z:Int):=of_decide_eq_true asE;have gj:Z<((rd_L5 G J).length:Int):=of_decide_eq_true asE;obtain⟨e2,pa,a1,a8⟩:=at_T61 g2.out Z ga gj;cases pa;have bx:e2.block≠L:=Nat.ne_of_lt (Nat.lt_of_lt_of_le za7 D.out);have bz:e2.block≠L:=Nat.ne_of_lt (Nat.lt_of_lt_of_le za7 D.out);have b0:e2.block≠L:=Nat.ne_of_lt (Nat.lt_of_lt_of_le za7 D.out);have b1:e2.block≠L:=Nat.ne_of_lt (Nat.lt_of_lt_of_le za7 D.out);replace a1:=(HB.out.cell (World.block_lt_of_cell? w _ a1)).trans a1;replace a8:=(HB.out.cell (World.block_lt_of_cell? w _ a8)).trans a8;replace a1:=(cell_far (p:=⟨L,0,none⟩) zbv (.int .i64 ((rd_T61 (rd_L5 G J) ag).f0))).trans a1;replace a8:=(cell_far (p:=⟨L,0,none⟩) zbv (.int .i64 ((rd_T61 (rd_L5 G J) ag).f0))).trans a8;replace a1:=(cell_far (p:=⟨L,1,none⟩) zbu (.int .i64 ((rd_T61 (rd_L5 G J) Z).f0))).trans a1;replace a8:=(cell_far (p:=⟨L,1,none⟩) zbu (.int .i64 ((rd_T61 (rd_L5 G J) Z).f0))).trans a8;replace a1:=(cell_far (p:=⟨L,2,none⟩) zb1 (.int .u8 0)).trans a1;replace a8:=(cell_far (p:=⟨L,2,none⟩) zb1 (.int .u8 0)).trans a8;replace a1:=(cell_far (p:=⟨L,3,none⟩) zb0 (.int .i64 0)).trans a1;replace a8:=(cell_far (p:=⟨L,3,none⟩) zb0 (.int .i64 0)).trans a8;clear bx;clear bz;clear b0;clear b1;replace ga:=eq_true ga;replace gj:=eq_true gj)|((with_reducible refine gC 27 rfl ?_);refine cG (some 115) Try.func27 #[.int .u8 ((rd_T61 (rd_L5 G J) Z).f1),.int .u8 i8] ?_;(with_reducible refine(recoupref01_Mul.calls k5 ((rd_T61 (rd_L5 G J) Z).f1) i8 bm _ uv.out).mono ?_);rintro e w' ⟨rfl,⟨nd,rfl⟩⟩;refine⟨_,rfl,?_⟩;have vn:=a3.out;have wu:=ai.out;have vo:=a4.out;have wv:=aj.out;obtain⟨io,ip,iq,ir,iz,i1,i2,i3⟩:=cell4 ab))
           go_loopg [14] k5 (fun kq xn w'=> ∃(a2:Int) (aa:Int),xn= .int .i64 a2/\Aside0 (recoupref22_Best.l4 kq J ag Z a2 a5 G a6 av am ak Y ((rd_T61 (rd_L5 G J) ag).f0) ((rd_T61 (rd_L5 G J) Z).f0) bm aa=some (r1,r2,r3,r4,r5,r6))/\Aside0 (kq<=k5)/\Aside0 (w'.heap[bd]? =some (.cells #[(.slice bn a5.length bp),(.slice (some aw) G.length bq),(.slice bo a6.length br)] 25 (0,0)))/\Aside0 (w'.heap[bs]? =some (.cells #[.int .i64 0,.int .i64 0,.int .u8 0,.int .i64 0] 31 (0,0)))/\Aside0 (w'.heap[e5]? =some (.cells #[.int .i64 av,.int .i64 am,.int .u8 ak,.int .i64 Y] 31 (0,0)))/\Aside0 (w'.heap[L]? =some (.cells #[.int .i64 ((rd_T61 (rd_L5 G J) ag).f0),.int .i64 ((rd_T61 (rd_L5 G J) Z).f0),.int .u8 bm,.int .i64 aa] 31 (0,0)))/\Aside0 (Below w.heap.size w w'))
           case atStart=>exact⟨(0),(0),rsE,H',⟨Nat.le_refl _⟩,⟨by refine bkR ?_;refine blk_far ?_ O.out _;refine bkR ?_;refine blk_far ?_ O.out _;refine bkR ?_;refine blk_far ?_ O.out _;refine bkR ?_;refine blk_far ?_ O.out _;refine bkR ?_;refine blk_far ?_ O.out _;refine bkR ?_;exact I.out⟩,⟨by refine bkR ?_;refine blk_far ?_ ai.out _;refine bkR ?_;refine blk_far ?_ ai.out _;refine bkR ?_;refine blk_far ?_ ai.out _;refine bkR ?_;refine blk_far ?_ ai.out _;refine bkR ?_;refine blk_far ?_ ai.out _;refine bkR ?_;exact U.out⟩,⟨by refine bkR ?_;refine blk_far ?_ aj.out _;refine bkR ?_;refine blk_far ?_ aj.out _;refine bkR ?_;refine blk_far ?_ aj.out _;refine bkR ?_;refine blk_far ?_ aj.out _;refine bkR ?_;refine blk_far ?_ aj.out _;refine bkR ?_;exact ac.out⟩,⟨by refine bkR ?_;refine blk_put (cs:= #[.int .i64 ((rd_T61 (rd_L5 G J) ag).f0),.int .i64 ((rd_T61 (rd_L5 G J) Z).f0),.int .u8 0,.int .i64 0]) ?_ 2 _ rfl;refine bkR ?_;refine blk_put (cs:= #[.int .i64 ((rd_T61 (rd_L5 G J) ag).f0),.int .i64 ((rd_T61 (rd_L5 G J) Z).f0),.int .u8 0,.int .i64 0]) ?_ 3 _ rfl;refine bkR ?_;refine blk_put (cs:= #[.int .i64 ((rd_T61 (rd_L5 G J) ag).f0),.int .i64 ((rd_T61 (rd_L5 G J) Z).f0),.int .u8 0,.int .i64 0]) ?_ 2 _ rfl;refine bkR ?_;refine blk_put (cs:= #[.int .i64 ((rd_T61 (rd_L5 G J) ag).f0),.int .i64 0,.int .u8 0,.int .i64 0]) ?_ 1 _ rfl;refine bkR ?_;refine blk_put (cs:= #[.int .i64 0,.int .i64 0,.int .u8 0,.int .i64 0]) ?_ 0 _ rfl;refine bkR ?_;exact ab.out⟩,⟨hbA HB.out⟩⟩
           case round=>
            clear H'
            (try clear c1);(try clear p1 p1);(try clear q1 q1);(try clear jl);(try clear c2);(try clear p2 p2);(try clear c3);(try clear c4);(try clear c5);(try clear c6);(try clear p6 p6);(try clear c9);(try clear c9b0);(try clear e3);(try clear c10b0);(try clear jb);(try clear jc);(try clear ft ft);(try clear fu fu);(try clear f2);(try clear jd);(try clear sg sg);(try clear sh sh);(try clear sf);(try clear x3);(try clear x9);(try clear ya);(try clear xy);(try clear ep);(try clear c16b0);(try clear jg);(try clear jh);(try clear e8);(try clear jw);(try clear jx);(try clear jy);(try clear e4);(try clear c26b0);(try clear o0);(try clear o1);(try clear gl);(try clear c30b0);(try clear gm);(try clear c31b0);(try clear e9);(try clear c32b0);(try clear u1);(try clear u2);(try clear g3);(try clear c36b0);(try clear g4);(try clear c37b0);(try clear fx);(try clear c38b0);(try clear g5);(try clear c39b0);(try clear g6);(try clear c40b0);(try clear g7);(try clear c41b0);(try clear x4);(try clear x5);(try clear x6);(try clear x7);(try clear x8);(try clear cj ck cl ct cu cv);(try clear cm cn co cw cx cy);(try clear cp cq cr cz c7 c8);(try clear dt du dv dw d1 d2 d3 d4);(try clear dx dy dz d0 d5 d6 d7 d8);(try clear er es et eu ev ew);(try clear fa fb fc fd fe ff);(try clear ig ii ij it iu iv);(try clear ik il im iw ix iy);(try clear io ip iq ir iz i1 i2 i3);(try clear dg dh di dj dk dl);(try clear bk);(try clear bg);(try clear bl);(try clear b2);(try clear b9);(try clear ca);(try clear b3);(try clear cb);(try clear cd);(try clear ay);(try clear az);(try clear a7);(try clear a0);(try clear a1);(try clear a8);(try clear ej);(try clear eh);(try clear ek);(try clear f3);(try clear f4);(try clear f5);(try clear f6);(try clear f7);(try clear f8);(try clear f9);(try clear ga);(try clear el);(try clear ei);(try clear em);(try clear gb);(try clear gc);(try clear ge);(try clear gf);(try clear gg);(try clear gh);(try clear gi);(try clear gj)
            obtain⟨a2,aa,rfl,HA,dq,I,U,ac,ab,HB⟩:=hrel
            cases gk with
            |zero=>exact absurd HA.out (by simp[recoupref22_Best.l4])
            |succ k6=>
             have H:=HA.out;clear HA;simp only[recoupref22_Best.l4]at H;by_cases gn:a2<(G.length:Int)
             ·rw[if_pos gn]at H
              have c58b0:decide (a2<(G.length:Int))=true:=decide_eq_true gn;clear gn;by_cases ji:0<=a2
              case neg=>rw[if_neg ji]at H;exact absurd H zac
              rw[if_pos ji]at H
              have c59b0:decide (0<=a2)=true:=decide_eq_true ji;clear ji;obtain⟨sj,os,H⟩:=bindO H
              (try dsimp only at H)
              by_cases jj:sj=true
              case neg=>
               replace jj:=Bool.eq_false_iff.mpr jj;subst jj;rw[if_neg nofT]at H
               have H':=aK H;clear H;have vv:=ae.out;have w6:=af.out;have vw:=X.out;have w7:=al.out;have vx:=O.out;have w9:=ax.out;obtain⟨pi,pj,pk,qn,qo,qp⟩:=cell3 I
               try go_wp2
               replace I:=aK (blk_drew I.out);replace U:=aK (blk_drew U.out);replace ac:=aK (blk_drew ac.out);replace ab:=aK (blk_drew ab.out);replace HB:=aK (below_drew1 HB.out);have ex:0<=(a2:Int):=of_decide_eq_true asE;have ey:a2<(G.length:Int):=of_decide_eq_true asE;obtain⟨fw,dp,dr,ia,ba,df,dc⟩:=at_L5 bi.out a2 ex ey;have bf:=ba;obtain rfl:aw=fw:=(by injection ia)
               replace ba:=(HB.out.cell (World.block_lt_of_cell? w _ ba)).trans ba;have ch:=aK dc;have eo:=aK df;clear dc df;replace ex:=eq_true ex;replace ey:=eq_true ey;refine start_ (n:=12) (S:=fun w'=>w'.cell? ⟨bd,0,none⟩=some (.slice bn a5.length bp)/\w'.cell? ⟨bd,1,none⟩=some (.slice (some aw) G.length bq)/\w'.cell? ⟨bd,2,none⟩=some (.slice bo a6.length br)/\w'.cell? ⟨L,0,none⟩=some (.int .i64 ((rd_T61 (rd_L5 G J) ag).f0))/\w'.cell? ⟨L,1,none⟩=some (.int .i64 ((rd_T61 (rd_L5 G J) Z).f0))/\w'.cell? ⟨L,2,none⟩=some (.int .u8 bm)/\w'.cell? ⟨L,3,none⟩=some (.int .i64 aa)/\w'.cell? (aw.add (a2).toNat)=some (.slice dp (rd_L5 G a2).length dr)) (ds:= []) (.replicate 12 false) zad rfl rfl (z3k I (z3k ab ⟨(blk_cell ab.out 3).trans rfl,((HB.out.cell (World.block_lt_of_cell? w _ bf)).trans bf)⟩)) (fun hHeld=>?_);refine with_tabW recoupref22_Best.tab26 recoupref22_Best.bits26 (fun HT_ HW_=>?_);generalize wr.drew=ye at I U ac ab HB ch ba hHeld⊢;refine pu 0 (some 124) (mB 12 1) HT_ ?_;refine pu 2 (some 126) (mB 12 5) HT_ ?_;refine pu 5 (some 129) (mB 12 37) HT_ ?_;refine pu 7 (some 131) (mB 12 165) HT_ ?_;refine pu 9 (some 133) (mB 12 677) HT_ ?_;refine tk8 1 (some 125) (mB 12 679) HT_ HW_ hHeld ?_;refine pu 3 (some 127) (mB 12 687) HT_ ?_;refine tk8 4 (some 128) (mB 12 703) HT_ HW_ hHeld ?_;refine tk8 6 (some 130) (mB 12 767) HT_ HW_ hHeld ?_;refine tk8 8 (some 132) (mB 12 1023) HT_ HW_ hHeld ?_;refine tk8 10 (some 134) (mB 12 2047) HT_ HW_ hHeld ?_;refine zoh 11 (some 135) (mB 12 4095) HT_ fun K hK=>?_;refine goes_ Try.func28 zad rfl #[.slice dp (rd_L5 G a2).length dr,.int .i64 ((rd_T61 (rd_L5 G J) ag).f0),.int .i64 ((rd_T61 (rd_L5 G J) Z).f0),.int .u8 bm] zae rfl rfl (by(try simp only[List.map_toArray,List.map_cons,List.map_nil]);first|done|rfl|(simp only[List.length_drop,List.length_take];rfl)) ?_;with_reducible refine(recoupref22_in.calls k6 _ _ (rd_L5 G a2) ((rd_T61 (rd_L5 G J) ag).f0) ((rd_T61 (rd_L5 G J) Z).f0) bm false _ ?side1 ?side2 os.out).mono ?_
               (case side1=>exact kcB ch HB)
               (case side2=>exact eo.out)
               rintro e w' ⟨rfl,⟨nd,rfl⟩⟩;refine⟨_,rfl,?_⟩;refine hK.out _ _ (z3k I (z3k ab ⟨(blk_cell ab.out 3).trans rfl,((HB.out.cell (World.block_lt_of_cell? w _ bf)).trans bf)⟩)) (fun hHeld=>?_);clear hK K;refine znm (some 135) ?_;refine done_ (done_of HT_.out zad) ?_
               try go_wp2
               go_roundg k6
               case measure=>have:=b8.out;have:=bh.out;have:=cf.out;have:=cg.out;have:=dm.out;have:=dq.out;omega
               case rel=>exact⟨(wrap64 (a2+1)),(aa),rsE,H',⟨by have:=b8.out;have:=bh.out;have:=cf.out;have:=cg.out;have:=dm.out;have:=dq.out;omega⟩,⟨bkA I.out⟩,⟨bkA U.out⟩,⟨bkA ac.out⟩,⟨bkA ab.out⟩,⟨hbA HB.out⟩⟩
              subst jj;rw[if_pos rfl]at H
              have H':=aK H;clear H;have vp:=ae.out;have ww:=af.out;have vq:=X.out;have wx:=al.out;have vr:=O.out;have wy:=ax.out;obtain⟨pb,pc,pd,qg,qh,qi⟩:=cell3 I
              try go_wp2
              replace I:=aK (blk_drew I.out);replace U:=aK (blk_drew U.out);replace ac:=aK (blk_drew ac.out);replace ab:=aK (blk_drew ab.out);replace HB:=aK (below_drew1 HB.out);have ex:0<=(a2:Int):=of_decide_eq_true asE;have ey:a2<(G.length:Int):=of_decide_eq_true asE;obtain⟨fw,dp,dr,ia,ba,df,dc⟩:=at_L5 bi.out a2 ex ey;have bf:=ba;obtain rfl:aw=fw:=(by injection ia)
              replace ba:=(HB.out.cell (World.block_lt_of_cell? w _ ba)).trans ba;have ch:=aK dc;have eo:=aK df;clear dc df;replace ex:=eq_true ex;replace ey:=eq_true ey;refine start_ (n:=12) (S:=fun w'=>w'.cell? ⟨bd,0,none⟩=some (.slice bn a5.length bp)/\w'.cell? ⟨bd,1,none⟩=some (.slice (some aw) G.length bq)/\w'.cell? ⟨bd,2,none⟩=some (.slice bo a6.length br)/\w'.cell? ⟨L,0,none⟩=some (.int .i64 ((rd_T61 (rd_L5 G J) ag).f0))/\w'.cell? ⟨L,1,none⟩=some (.int .i64 ((rd_T61 (rd_L5 G J) Z).f0))/\w'.cell? ⟨L,2,none⟩=some (.int .u8 bm)/\w'.cell? ⟨L,3,none⟩=some (.int .i64 aa)/\w'.cell? (aw.add (a2).toNat)=some (.slice dp (rd_L5 G a2).length dr)) (ds:= []) (.replicate 12 false) zad rfl rfl (z3k I (z3k ab ⟨(blk_cell ab.out 3).trans rfl,((HB.out.cell (World.block_lt_of_cell? w _ bf)).trans bf)⟩)) (fun hHeld=>?_);refine with_tabW recoupref22_Best.tab26 recoupref22_Best.bits26 (fun HT_ HW_=>?_);generalize wr.drew=yd at I U ac ab HB ch ba hHeld⊢;refine pu 0 (some 124) (mB 12 1) HT_ ?_;refine pu 2 (some 126) (mB 12 5) HT_ ?_;refine pu 5 (some 129) (mB 12 37) HT_ ?_;refine pu 7 (some 131) (mB 12 165) HT_ ?_;refine pu 9 (some 133) (mB 12 677) HT_ ?_;refine tk8 1 (some 125) (mB 12 679) HT_ HW_ hHeld ?_;refine pu 3 (some 127) (mB 12 687) HT_ ?_;refine tk8 4 (some 128) (mB 12 703) HT_ HW_ hHeld ?_;refine tk8 6 (some 130) (mB 12 767) HT_ HW_ hHeld ?_;refine tk8 8 (some 132) (mB 12 1023) HT_ HW_ hHeld ?_;refine tk8 10 (some 134) (mB 12 2047) HT_ HW_ hHeld ?_;refine zoh 11 (some 135) (mB 12 4095) HT_ fun K hK=>?_;refine goes_ Try.func28 zad rfl #[.slice dp (rd_L5 G a2).length dr,.int .i64 ((rd_T61 (rd_L5 G J) ag).f0),.int .i64 ((rd_T61 (rd_L5 G J) Z).f0),.int .u8 bm] zae rfl rfl (by(try simp only[List.map_toArray,List.map_cons,List.map_nil]);first|done|rfl|(simp only[List.length_drop,List.length_take];rfl)) ?_;with_reducible refine(recoupref22_in.calls k6 _ _ (rd_L5 G a2) ((rd_T61 (rd_L5 G J) ag).f0) ((rd_T61 (rd_L5 G J) Z).f0) bm true _ ?side1 ?side2 os.out).mono ?_
              (case side1=>exact kcB ch HB)
              (case side2=>exact eo.out)
              rintro e w' ⟨rfl,⟨nd,rfl⟩⟩;refine⟨_,rfl,?_⟩;refine hK.out _ _ (z3k I (z3k ab ⟨(blk_cell ab.out 3).trans rfl,((HB.out.cell (World.block_lt_of_cell? w _ bf)).trans bf)⟩)) (fun hHeld=>?_);clear hK K;refine znm (some 135) ?_;refine done_ (done_of HT_.out zad) ?_;have vt:=a3.out;have wz:=ai.out;have vu:=a4.out;have w3:=aj.out;obtain⟨pe,pf,pg,ph,qj,qk,ql,qm⟩:=cell4 ab
              try go_wp2
              go_roundg k6
              case measure=>have:=b8.out;have:=bh.out;have:=cf.out;have:=cg.out;have:=dm.out;have:=dq.out;omega
              case rel=>exact⟨(wrap64 (a2+1)),(wrap64 (aa+1)),rsE,H',⟨by have:=b8.out;have:=bh.out;have:=cf.out;have:=cg.out;have:=dm.out;have:=dq.out;omega⟩,⟨by refine bkR ?_;refine blk_far ?_ O.out _;refine bkR ?_;exact I.out⟩,⟨by refine bkR ?_;refine blk_far ?_ ai.out _;refine bkR ?_;exact U.out⟩,⟨by refine bkR ?_;refine blk_far ?_ aj.out _;refine bkR ?_;exact ac.out⟩,⟨by refine bkR ?_;refine blk_put (cs:= #[.int .i64 ((rd_T61 (rd_L5 G J) ag).f0),.int .i64 ((rd_T61 (rd_L5 G J) Z).f0),.int .u8 bm,.int .i64 aa]) ?_ 3 _ rfl;refine bkR ?_;exact ab.out⟩,⟨hbA HB.out⟩⟩
             rw[if_neg gn]at H
             have c58b0:decide (a2<(G.length:Int))=false:=decide_eq_false gn;clear gn;by_cases gp:aa>Y
             ·rw[if_pos gp]at H
              have c75b0:decide (Y<aa)=true:=decide_eq_true gp;clear gp;have H':=aK H;clear H;have vy:=ae.out;have xa:=af.out;have vz:=X.out;have xb:=al.out;have v0:=O.out;have xc:=ax.out;obtain⟨pl,pm,pn,qq,qr,qt⟩:=cell3 I;have v2:=a3.out;have xd:=ai.out;have v3:=a4.out;have xe:=aj.out;obtain⟨po,pp,pq,pr,qu,qv,qw,qx⟩:=cell4 ab;have v4:=a9.out;have xf:=ah.out;obtain⟨pt,pv,pw,px,qy,qz,q0,q2⟩:=cell4 ac;go_wp2
              go_roundg k6
              case measure=>have:=b8.out;have:=bh.out;have:=cf.out;have:=cg.out;have:=dm.out;have:=dq.out;omega
              case rel=>exact⟨(wrap64 (Z+1)),(((rd_T61 (rd_L5 G J) ag).f0)),(((rd_T61 (rd_L5 G J) Z).f0)),(bm),(aa),rsE,H',⟨by have:=b8.out;have:=bh.out;have:=cf.out;have:=cg.out;have:=dm.out;have:=dq.out;omega⟩,⟨by refine bkR ?_;refine blk_far ?_ X.out _;refine bkR ?_;refine blk_far ?_ X.out _;refine bkR ?_;refine blk_far ?_ X.out _;refine bkR ?_;refine blk_far ?_ X.out _;refine bkR ?_;exact I.out⟩,⟨by refine bkR ?_;refine blk_far ?_ ah.out _;refine bkR ?_;refine blk_far ?_ ah.out _;refine bkR ?_;refine blk_far ?_ ah.out _;refine bkR ?_;refine blk_far ?_ ah.out _;refine bkR ?_;exact U.out⟩,⟨by refine bkR ?_;refine blk_put (cs:= #[.int .i64 ((rd_T61 (rd_L5 G J) ag).f0),.int .i64 ((rd_T61 (rd_L5 G J) Z).f0),.int .u8 bm,.int .i64 Y]) ?_ 3 _ rfl;refine bkR ?_;refine blk_put (cs:= #[.int .i64 ((rd_T61 (rd_L5 G J) ag).f0),.int .i64 ((rd_T61 (rd_L5 G J) Z).f0),.int .u8 ak,.int .i64 Y]) ?_ 2 _ rfl;refine bkR ?_;refine blk_put (cs:= #[.int .i64 ((rd_T61 (rd_L5 G J) ag).f0),.int .i64 am,.int .u8 ak,.int .i64 Y]) ?_ 1 _ rfl;refine bkR ?_;refine blk_put (cs:= #[.int .i64 av,.int .i64 am,.int .u8 ak,.int .i64 Y]) ?_ 0 _ rfl;refine bkR ?_;exact ac.out⟩,⟨hbA HB.out⟩⟩
             rw[if_neg gp]at H
             have c75b0:decide (Y<aa)=false:=decide_eq_false gp;clear gp;by_cases fy:aa=Y
             case neg=>
              rw[if_neg fy]at H
              have c85b0:(aa==Y)=false:=beq_eq_false_iff_ne.mpr fy;have c85b1:(aa !=Y)=true:=bne_iff_ne.mpr fy;have H':=aK H;clear H;have tg:=ae.out;have uc:=af.out;have th:=X.out;have ud:=al.out;have ti:=O.out;have ue:=ax.out;obtain⟨kt,ku,kv,m9,na,nb⟩:=cell3 I;have tj:=a3.out;have uf:=ai.out;have tk:=a4.out;have ug:=aj.out;obtain⟨kw,kx,ky,kz,nc,ne,nf,ng⟩:=cell4 ab;have tl:=a9.out;have uh:=ah.out;obtain⟨k0,k2,k7,k8,nh,ni,nj,nk⟩:=cell4 ac;go_wp2
              go_roundg k6
              case measure=>have:=b8.out;have:=bh.out;have:=cf.out;have:=cg.out;have:=dm.out;have:=dq.out;omega
              case rel=>exact⟨(wrap64 (Z+1)),(av),(am),(ak),(Y),rsE,H',⟨by have:=b8.out;have:=bh.out;have:=cf.out;have:=cg.out;have:=dm.out;have:=dq.out;omega⟩,⟨bkA I.out⟩,⟨bkA U.out⟩,⟨bkA ac.out⟩,⟨hbA HB.out⟩⟩
             rw[if_pos fy]at H
             have c85b0:(aa==Y)=true:=beq_iff_eq.mpr fy;have c85b1:(aa !=Y)=false:=bne_eq_false_iff_eq.mpr fy;clear fy;by_cases gq:aa>1
             case neg=>
              rw[if_neg gq]at H
              have c86b0:decide (1<aa)=false:=decide_eq_false gq;clear gq;have H':=aK H;clear H;have ta:=ae.out;have t6:=af.out;have tb:=X.out;have t7:=al.out;have tc:=O.out;have t8:=ax.out;obtain⟨kf,kg,ki,my,mz,m0⟩:=cell3 I;have td:=a3.out;have t9:=ai.out;have te:=a4.out;have ua:=aj.out;obtain⟨kj,kk,km,kn,m1,m2,m3,m4⟩:=cell4 ab;have tf:=a9.out;have ub:=ah.out;obtain⟨ko,kp,kr,ks,m5,m6,m7,m8⟩:=cell4 ac;go_wp2
              go_roundg k6
              case measure=>have:=b8.out;have:=bh.out;have:=cf.out;have:=cg.out;have:=dm.out;have:=dq.out;omega
              case rel=>exact⟨(wrap64 (Z+1)),(av),(am),(ak),(Y),rsE,H',⟨by have:=b8.out;have:=bh.out;have:=cf.out;have:=cg.out;have:=dm.out;have:=dq.out;omega⟩,⟨bkA I.out⟩,⟨bkA U.out⟩,⟨bkA ac.out⟩,⟨hbA HB.out⟩⟩
             rw[if_pos gq]at H
             have c86b0:decide (1<aa)=true:=decide_eq_true gq;clear gq;obtain⟨sk,ot,H⟩:=bindO H
             (try dsimp only at H)
             by_cases jk:sk=true
             ·subst jk;rw[if_pos rfl]at H
              have H':=aK H;clear H;have v7:=ae.out;have xg:=af.out;have wa:=X.out;have xh:=al.out;have wb:=O.out;have xi:=ax.out;obtain⟨py,pz,p0,q3,q4,q5⟩:=cell3 I;have wd:=a3.out;have xj:=ai.out;have we:=a4.out;have xk:=aj.out;obtain⟨p3,p4,p5,p7,q6,q7,q8,q9⟩:=cell4 ab;have wf:=a9.out;have xl:=ah.out;obtain⟨p8,p9,qa,qb,ra,rb,rc,re⟩:=cell4 ac
              go_wp2_with (first|(go_at_call 29;(with_reducible refine(recoupref22_less.calls ((rd_T61 (rd_L5 G J) ag).f0) ((rd_T61 (rd_L5 G J) Z).f0) bm aa av am ak Y true _ ot.out).mono ?_);rintro e yf ⟨rfl,hb⟩;replace I:=bkB I hb;replace U:=bkB U hb;replace ac:=bkB ac hb;replace ab:=bkB ab hb;replace HB:=hbB HB hb;(try clear hb);obtain⟨qc,qd,qe,qf,rf,rg,rh,ri⟩:=cell4 ab;obtain⟨jz,j0,j2,j3,mi,mj,ml,mm⟩:=cell4 ac))
              go_roundg k6
              case measure=>have:=b8.out;have:=bh.out;have:=cf.out;have:=cg.out;have:=dm.out;have:=dq.out;omega
              case rel=>exact⟨(wrap64 (Z+1)),(((rd_T61 (rd_L5 G J) ag).f0)),(((rd_T61 (rd_L5 G J) Z).f0)),(bm),(aa),rsE,H',⟨by have:=b8.out;have:=bh.out;have:=cf.out;have:=cg.out;have:=dm.out;have:=dq.out;omega⟩,⟨by refine bkR ?_;refine blk_far ?_ X.out _;refine bkR ?_;refine blk_far ?_ X.out _;refine bkR ?_;refine blk_far ?_ X.out _;refine bkR ?_;refine blk_far ?_ X.out _;refine bkR ?_;exact I.out⟩,⟨by refine bkR ?_;refine blk_far ?_ ah.out _;refine bkR ?_;refine blk_far ?_ ah.out _;refine bkR ?_;refine blk_far ?_ ah.out _;refine bkR ?_;refine blk_far ?_ ah.out _;refine bkR ?_;exact U.out⟩,⟨by refine bkR ?_;refine blk_put (cs:= #[.int .i64 ((rd_T61 (rd_L5 G J) ag).f0),.int .i64 ((rd_T61 (rd_L5 G J) Z).f0),.int .u8 bm,.int .i64 Y]) ?_ 3 _ rfl;refine bkR ?_;refine blk_put (cs:= #[.int .i64 ((rd_T61 (rd_L5 G J) ag).f0),.int .i64 ((rd_T61 (rd_L5 G J) Z).f0),.int .u8 ak,.int .i64 Y]) ?_ 2 _ rfl;refine bkR ?_;refine blk_put (cs:= #[.int .i64 ((rd_T61 (rd_L5 G J) ag).f0),.int .i64 am,.int .u8 ak,.int .i64 Y]) ?_ 1 _ rfl;refine bkR ?_;refine blk_put (cs:= #[.int .i64 av,.int .i64 am,.int .u8 ak,.int .i64 Y]) ?_ 0 _ rfl;refine bkR ?_;exact ac.out⟩,⟨hbA HB.out⟩⟩
             replace jk:=Bool.eq_false_iff.mpr jk;subst jk;rw[if_neg nofT]at H
             have H':=aK H;clear H;have su:=ae.out;have t0:=af.out;have sv:=X.out;have t1:=al.out;have sw:=O.out;have t2:=ax.out;obtain⟨j4,j5,j6,mn,mo,mp⟩:=cell3 I;have sx:=a3.out;have t3:=ai.out;have sy:=a4.out;have t4:=aj.out;obtain⟨j7,j8,j9,ka,mq,mr,ms,mt⟩:=cell4 ab;have s9:=a9.out;have t5:=ah.out;obtain⟨kb,kc,kd,ke,mu,mv,mw,mx⟩:=cell4 ac
             go_wp2_with (first|(go_at_call 29;(with_reducible refine(recoupref22_less.calls ((rd_T61 (rd_L5 G J) ag).f0) ((rd_T61 (rd_L5 G J) Z).f0) bm aa av am ak Y false _ ot.out).mono ?_);rintro e xz ⟨rfl,hb⟩;replace I:=bkB I hb;replace U:=bkB U hb;replace ac:=bkB ac hb;replace ab:=bkB ab hb;replace HB:=hbB HB hb;(try clear hb)))
             go_roundg k6
             case measure=>have:=b8.out;have:=bh.out;have:=cf.out;have:=cg.out;have:=dm.out;have:=dq.out;omega
             case rel=>exact⟨(wrap64 (Z+1)),(av),(am),(ak),(Y),rsE,H',⟨by have:=b8.out;have:=bh.out;have:=cf.out;have:=cg.out;have:=dm.out;have:=dq.out;omega⟩,⟨bkA I.out⟩,⟨bkA U.out⟩,⟨bkA ac.out⟩,⟨hbA HB.out⟩⟩
def recoupref21_Copy.l0:Nat->List (List (S61))->Int->List Int->List (List (S61))->List Int->Option (List Int×(List (List (S61)))×List Int)
 |0,_,_,_,_,_=>none
 |k+1,x3,x4,G,D,I=>if x4<(D.length:Int)then((some (([]:List (S61)):List (S61))).bind fun J=>(if 0<=x4 then(if J.length+(rd_L5 D x4).length<8796093022208 then(if x3.length<5864062014805 then(recoupref21_Copy.l0 k (x3++ [(J++(rd_L5 D x4))]) (wrap64 (x4+1)) G D I)else(none))else(none))else(none)))else((some (([]:List Int):List Int)).bind fun L=>(if L.length+G.length<17592186044416 then((some (([]:List Int):List Int)).bind fun O=>(if O.length+I.length<17592186044416 then(some ((L++G),x3,(O++I)))else(none)))else(none)))
def recoupref21_Copy.f(k:Nat)(D:List Int)(G:List (List (S61)))(I:List Int):Option (List Int×(List (List (S61)))×List Int):=recoupref21_Copy.l0 k ([]:List (List (S61))) 0 D G I
def recoupref21_Copy.T6:Bool×List (List Nat×List Nat):=(true,[([],[]),([],[]),([1],[1]),([0,2],[0,2]),([],[]),([],[]),([],[]),([6],[6]),([5,7,3],[5,7]),([3,4,8],[3,4,8]),([9,8,0,1,2,3,4,5,6,7,8,9],[9])])
def recoupref21_Copy.B6:List Nat:= [0,0,2,7,0,0,0,64,239,511,1023]
theorem recoupref21_Copy.tab6:rtab .any (opsOf Try.f21 6)=recoupref21_Copy.T6:=by kernel_rfl
theorem recoupref21_Copy.bits6:waitsOk recoupref21_Copy.T6.2 recoupref21_Copy.B6=true:=by kernel_rfl
theorem recoupref21_Copy.calls(k:Nat)(ae:Option Addr)(ah:Nat)(U:List Int)(ak:Option Addr)(ai:Nat)(L:List (List (S61)))(af:Option Addr)(aj:Nat)(O:List Int)(r1:List Int)(r2:List (List (S61)))(r3:List Int)(w:World)(bv:Kd.C (Kd.int .i64) w ae U.length U)(bs:U.length<=ah)(bw:Kd.C (Kd.slice 61 k61) w ak L.length L)(bt:L.length<=ai)(bx:Kd.C (Kd.int .i64) w af O.length O)(bu:O.length<=aj)(h:recoupref21_Copy.f k U L O=some (r1,r2,r3)):
 Calls Try.prog 21 #[.agg #[.slice ae U.length ah,.slice ak L.length ai,.slice af O.length aj]] w fun e w'=> ∃v0_ v1_ v2_:Value,e= .returned (.agg #[v0_,v1_,v2_])/\Kd.R (Kd.int .i64) 3 w' w.heap.size (fun k_=>some k_≠(v2_:Value).ownBlock) v0_ r1/\Kd.S (Kd.slice 61 k61) 59 w' w.heap.size (fun _=>True) v1_ r2/\Kd.R (Kd.int .i64) 3 w' w.heap.size (fun k_=>some k_≠(v0_:Value).ownBlock) v2_ r3/\Below w.heap.size w w':=by
 have d9:=Try.underlying25;have bj:=aK bv;have du:=aK bs;clear bv bs;have ca:=aK bw;have dv:=aK bt;clear bw bt;have cb:=aK bx;have dw:=aK bu;clear bx bu;have HB:=aK (Below.refl w.heap.size w);have H:(recoupref21_Copy.l0 k ([]:List (List (S61))) 0 U L O)=some (r1,r2,r3):=h;clear h;have H':=aK H;clear H
 go_enter Try.func21,Try.ntmps21
 go_wp2_with (first|((with_reducible refine gD 1 rfl ?_);refine bE 1 #[.slice ae U.length ah,.slice ak L.length ai,.slice af O.length aj] 25 ?_;intro Z hg w2 hbox hb;have D:=aK (hbox);have dr:=hbS HB hg;have dp:=hbS HB hg;replace HB:=hbB HB hb;clear hb hbox hg)|((with_reducible refine gD 2 rfl ?_);refine bE 2 #[.slice none 0 0,.slice none 0 0,.slice none 0 0] 25 ?_;intro I hg w3 hbox hb;have G:=aK (hbox);have dt:=hbS HB hg;have dq:=hbS HB hg;replace HB:=hbB HB hb;have J:=neL D hg;have ag:=neG D hg;replace D:=bkB D hb;clear hb hbox hg))
 go_loopg [3,4] k (fun kq v3 v4 w'=> ∃(aa:List (List (S61))) (ab:Int),v4= .int .i64 ab/\Aside0 (recoupref21_Copy.l0 kq aa ab U L O=some (r1,r2,r3))/\Aside0 (kq<=k)/\Aside0 (Kd.S (Kd.slice 61 k61) 59 w' w.heap.size (fun _=>True) v3 aa)/\Aside0 (w'.heap[Z]? =some (.cells #[(.slice ae U.length ah),(.slice ak L.length ai),(.slice af O.length aj)] 25 (0,0)))/\Aside0 (w'.heap[I]? =some (.cells #[(.slice none 0 0),(.slice none 0 0),(.slice none 0 0)] 25 (0,0)))/\Aside0 (Below w.heap.size w w'))
 case atStart=>exact⟨(([]:List (List (S61)))),(0),rsE,H',⟨Nat.le_refl _⟩,⟨by first|exact Kd.S_nil _ _ _ _ _|exact Kd.N_nil _ _ _ _ _|exact Kd.V_nil _ _ _ _ _|exact Kd.Q_nil _ _ _ _ _|exact Kd.R_nil _ _ _ _ _⟩,⟨bkA D.out⟩,⟨bkA G.out⟩,⟨hbA HB.out⟩⟩
 case round=>
  clear H'
  (try clear c2);(try clear p2)
  obtain⟨aa,ab,rfl,HA,cj,HO_3,D,G,HB⟩:=hrel
  cases gk with
  |zero=>exact absurd HA.out (by simp[recoupref21_Copy.l0])
  |succ k1=>
   have H:=HA.out;clear HA;simp only[recoupref21_Copy.l0]at H;by_cases c4:ab<(L.length:Int)
   ·rw[if_pos c4]at H
    have c4b0:decide (ab<(L.length:Int))=true:=decide_eq_true c4;clear c4;obtain⟨bg,aw⟩: ∃y_:List (S61),y_=(([]:List (S61))):=⟨_,rfl⟩
    replace H:(if 0<=ab then(if bg.length+(rd_L5 L ab).length<8796093022208 then(if aa.length<5864062014805 then(recoupref21_Copy.l0 k1 (aa++ [(bg++(rd_L5 L ab))]) (wrap64 (ab+1)) U L O)else(none))else(none))else(none))=some (r1,r2,r3):=zH aw H
    have bq:=aK aw;clear aw;by_cases c5:0<=ab
    case neg=>rw[if_neg c5]at H;exact absurd H zac
    rw[if_pos c5]at H
    have c5b0:decide (0<=ab)=true:=decide_eq_true c5;clear c5;by_cases c6:bg.length+(rd_L5 L ab).length<8796093022208
    case neg=>rw[if_neg c6]at H;exact absurd H zac
    rw[if_pos c6]at H
    have ck:=aK c6;clear c6;obtain⟨bh,ax⟩: ∃y_:List (S61),y_=(bg++(rd_L5 L ab)):=⟨_,rfl⟩
    replace H:(if aa.length<5864062014805 then(recoupref21_Copy.l0 k1 (aa++ [bh]) (wrap64 (ab+1)) U L O)else(none))=some (r1,r2,r3):=zH ax H
    have ce:=aK ax;clear ax;by_cases c7:aa.length<5864062014805
    case neg=>rw[if_neg c7]at H;exact absurd H zac
    rw[if_pos c7]at H
    have cl:=aK c7;clear c7;obtain⟨b8,ay⟩: ∃y_:List (List (S61)),y_=(aa++ [bh]):=⟨_,rfl⟩
    replace H:(recoupref21_Copy.l0 k1 b8 (wrap64 (ab+1)) U L O)=some (r1,r2,r3):=zH ay H
    have cf:=aK ay;clear ay;have H':=aK H;clear H;have d4:=J.out;have d5:=ag.out;obtain⟨di,dj,dk,dl,dm,dn⟩:=cell3 D
    go_wp2_with (first|((with_reducible refine gate_dst (N:=13) rfl ?_);refine Kd.R_lit k61 _ 61 ?hg (N:=13) ?hd (xs:=([]:List (S61))) (inner:= []) (ok:=fun _=>True) (okp:=fun _=>True) ?hr ?hp (fun _ hk=>hk) trivial (Below.refl _ _) (Nat.le_refl _) zac ?_;(case hd=>rfl);(case hg=>rfl);(case hr=>first|(go_simp;done)|(go_simp;rfl));(case hp=>exact(Reps.none _ _));intro de ed a6 hb hg_ hnew_;clear hg_ hnew_;(first|rw[<-bq.out]at a6|(simp only[Int.reduceToNat]at a6;rw[<-bq.out]at a6));replace HO_3:=aK (Kd.S_elder' (by(with_reducible repeat(first|apply Kd.S_alloc|apply Kd.S_drewN|apply Kd.S_drew));exact HO_3.out) (Kd.R_base a6) hb);have a8:=aK (Kd.R_lower a6 (below_size (hbA HB.out)));replace D:=bkB D hb;replace G:=bkB G hb;replace HB:=hbB HB hb;clear hb a6;obtain⟨co,cp,cq,cv,cw,cx⟩:=cell3 D;have bz:0<=(ab:Int):=of_decide_eq_true asE;have b0:ab<(L.length:Int):=of_decide_eq_true asE;obtain⟨br,dg,dh,cm,av,bf,be⟩:=at_L5 ca.out ab bz b0;cases cm;replace av:=(HB.out.cell (World.block_lt_of_cell? w _ av)).trans av;have bp:=aK be;have ci:=aK bf;clear be bf;replace bz:=eq_true bz;replace b0:=eq_true b0)|((with_reducible refine gate_builtin (b:= .append) (xs:= #[.tmp 13,.tmp 18]) rfl ?_);at_builtin;refine Kd.R_append_rows k61 (w0:=w) w.heap.size rfl (.tmp 13) (.tmp 18) 59 61 (.agg #[(.int .i64 0),(.int .u8 0)]) 16 rfl Try.underlying59 info61 rfl zab zaa de bg (rd_L5 L ab) _ _ _ (fun _=>True) (fun _=>False) rfl rfl ?aO ?aR (fun _ _ h=>h) (fun _ h=>h.elim) ?aF ?aB ?aS ?aL ?_;(case aR=>exact kcB bp HB);(case aB=>exact(hbA HB.out));(case aF=>exact(fun _ _=>trivial));(case aO=>exact(kdA a8.out));(case aS=>exact(below_size (hbA HB.out)));(case aL=>have:=ck.out;omega);intro ea ee ho hb hg hat;rw[<-ce.out]at ho;have n0_:=aK (Kd.S_after (ok:=(fun _=>True)) (by(with_reducible repeat(first|apply Kd.S_alloc|apply Kd.S_drewN|apply Kd.S_drew));exact HO_3.out) hg hat);have n1_:=aK (blk_grown (g:=Z) (o:= .cells #[.slice ae U.length ah,.slice (some br) L.length ai,.slice af O.length aj] 25 (0,0)) (bkA D.out) hg (Kd.R_ne a8.out D.out zab));have n2_:=aK (blk_grown (g:=I) (o:= .cells #[.slice none 0 0,.slice none 0 0,.slice none 0 0] 25 (0,0)) (bkA G.out) hg (Kd.R_ne a8.out G.out zab));have n3_:=aK (hb);have n4_:=aK (ho);clear HO_3;clear D;clear G;clear HB;clear a8;have HO_3:=n0_;have D:=n1_;have G:=n2_;have HB:=n3_;have a9:=n4_;clear n0_ n1_ n2_ n3_ n4_;clear ho hb hg hat;obtain⟨b3,b4,cn⟩:=Kd.R_slice a9.out;subst cn)|((with_reducible refine gate_builtin (b:= .append) (xs:= #[.tmp 12,.tmp 20]) rfl ?_);at_builtin;refine Kd.S_append (Kd.slice 61 k61) (w0:=w) w.heap.size rfl (.tmp 12) (.tmp 20) 23 59 (.slice none 0 0) 24 rfl Try.underlying23 info59 rfl zab zaa u3 aa bh [.slice b3 bh.length b4] (fun _=>True) (fun k_=>some k_=(.slice b3 bh.length b4:Value).ownBlock) rfl rfl ?aP (fun k_ hk_=>((Kd.R_mono (ok':=fun k_=>((fun _=>True)) k_/\some k_≠(u3:Value).ownBlock) (Kd.R_apart' (a9.out) (Kd.S_typed HO_3.out) zab) (fun k_ hk=>⟨trivial,hk.2⟩))).1 k_ hk_.symm) ?aF ?aO ?aB ?aS ?aL ?_;(case aP=>exact Kd.M_row (Kd.R_mono (Kd.R_tight rfl (Kd.R_mono (ok':=fun k_=>((fun _=>True)) k_/\some k_≠(u3:Value).ownBlock) (Kd.R_apart' (a9.out) (Kd.S_typed HO_3.out) zab) (fun k_ hk=>⟨trivial,hk.2⟩))) (fun _ h_=>h_)));(case aB=>exact(hbA HB.out));(case aF=>exact(fun _ _=>trivial));(case aO=>exact(by(with_reducible repeat(first|apply Kd.S_alloc|apply Kd.S_drewN|apply Kd.S_drew));exact Kd.S_mono HO_3.out (fun k_ hk=>⟨trivial,fun e_=>hk.2 e_⟩)));(case aS=>exact(below_size (hbA HB.out)));(case aL=>have:=cl.out;omega);intro eb ef ho hb hg hat;rw[<-cf.out]at ho;have n0_:=aK (blk_grown (g:=Z) (o:= .cells #[.slice ae U.length ah,.slice (some br) L.length ai,.slice af O.length aj] 25 (0,0)) (bkA D.out) hg (Kd.S_ne HO_3.out D.out zab));have n1_:=aK (blk_grown (g:=I) (o:= .cells #[.slice none 0 0,.slice none 0 0,.slice none 0 0] 25 (0,0)) (bkA G.out) hg (Kd.S_ne HO_3.out G.out zab));have n2_:=aK (hb);have n3_:=aK (ho);clear D;clear G;clear HB;clear HO_3;clear a9;have D:=n0_;have G:=n1_;have HB:=n2_;have b9:=n3_;clear n0_ n1_ n2_ n3_;clear ho hb hg hat))
    go_roundg k1
    case measure=>have:=cj.out;omega
    case rel=>exact⟨(b8),(wrap64 (ab+1)),rsE,H',⟨by have:=cj.out;omega⟩,⟨by(with_reducible repeat(first|apply Kd.S_alloc|apply Kd.S_drewN|apply Kd.S_drew));exact b9.out⟩,⟨bkA D.out⟩,⟨bkA G.out⟩,⟨hbA HB.out⟩⟩
   rw[if_neg c4]at H
   have c4b0:decide (ab<(L.length:Int))=false:=decide_eq_false c4;clear c4;obtain⟨a3,az⟩: ∃y_:List Int,y_=(([]:List Int)):=⟨_,rfl⟩
   replace H:(if a3.length+U.length<17592186044416 then((some (([]:List Int):List Int)).bind fun am=>(if am.length+O.length<17592186044416 then(some ((a3++U),aa,(am++O)))else(none)))else(none))=some (r1,r2,r3):=zH az H
   have ba:=aK az;clear az;by_cases b1:a3.length+U.length<17592186044416
   case neg=>rw[if_neg b1]at H;exact absurd H zac
   rw[if_pos b1]at H
   have bk:=aK b1;clear b1;obtain⟨ap,a0⟩: ∃y_:List Int,y_=(a3++U):=⟨_,rfl⟩
   replace H:((some (([]:List Int):List Int)).bind fun am=>(if am.length+O.length<17592186044416 then(some (ap,aa,(am++O)))else(none)))=some (r1,r2,r3):=zH a0 H
   have bl:=aK a0;clear a0;obtain⟨am,a1⟩: ∃y_:List Int,y_=(([]:List Int)):=⟨_,rfl⟩
   replace H:(if am.length+O.length<17592186044416 then(some (ap,aa,(am++O)))else(none))=some (r1,r2,r3):=zH a1 H
   have ar:=aK a1;clear a1;by_cases b2:am.length+O.length<17592186044416
   case neg=>rw[if_neg b2]at H;exact absurd H zac
   rw[if_pos b2]at H
   have cd:=aK b2;clear b2;obtain⟨bi,a2⟩: ∃y_:List Int,y_=(am++O):=⟨_,rfl⟩
   replace H:(some (ap,aa,bi))=some (r1,r2,r3):=zH a2 H
   have cg:=aK a2;clear a2;obtain⟨rfl,rfl,rfl⟩:=zP3 H;have d0:=J.out;have d1:=ag.out;obtain⟨cr,ct,cu,cy,cz,c3⟩:=cell3 D
   try go_wp2
   replace HO_3:=aK (Kd.S_drew HO_3.out);replace D:=aK (blk_drew D.out);replace G:=aK (blk_drew G.out);replace HB:=aK (below_drew1 HB.out);refine start_ (n:=11) (S:=fun w'=>w'.cell? ⟨Z,0,none⟩=some (.slice ae U.length ah)/\w'.cell? ⟨Z,1,none⟩=some (.slice ak L.length ai)/\w'.cell? ⟨Z,2,none⟩=some (.slice af O.length aj)) (ds:= []) (.replicate 11 false) zad rfl rfl (z3c D) (fun hHeld=>?_);refine with_tabW recoupref21_Copy.tab6 recoupref21_Copy.bits6 (fun HT_ HW_=>?_);generalize wr.drew=eg at HO_3 D G HB hHeld⊢;refine pu 1 (some 23) (mB 11 2) HT_ ?_;refine pu 4 (some 26) (mB 11 18) HT_ ?_;refine pu 6 (some 28) (mB 11 82) HT_ ?_;refine tk3 2 (some 24) (mB 11 86) HT_ HW_ hHeld ?_;refine tk3 7 (some 29) (mB 11 214) HT_ HW_ hHeld ?_;refine join_ (σ:=Value×Value×Value) 3 (mB 11 255) (fun s_=> [(22,s_.1),(25,s_.2.1),(27,s_.2.2)]) (fun s_ w'=>(w'.cell? ⟨Z,0,none⟩=some (.slice ae U.length ah)/\w'.cell? ⟨Z,1,none⟩=some (.slice ak L.length ai)/\w'.cell? ⟨Z,2,none⟩=some (.slice af O.length aj))/\(Kd.R (Kd.int .i64) 3 w' w.heap.size (fun k_=>some k_≠(s_.2.2:Value).ownBlock) s_.2.1 ap)/\(Kd.R (Kd.int .i64) 3 w' w.heap.size (fun k_=>some k_≠(s_.2.1:Value).ownBlock) s_.2.2 am)/\(Kd.S (Kd.slice 61 k61) 59 w' w.heap.size (fun _=>True) u3 aa)/\(w'.heap[Z]? =some (.cells #[.slice ae U.length ah,.slice ak L.length ai,.slice af O.length aj] 25 (0,0)))/\(w'.heap[I]? =some (.cells #[.slice none 0 0,.slice none 0 0,.slice none 0 0] 25 (0,0)))/\(Below w.heap.size w w')) ?_ ?_;rotate_left
   ·intro hCont;refine two_ (i:=0) (j:=5) (Ni:=some 22) (Nj:=some 27) (mB 11 215) (mB 11 246) rfl rfl rfl rfl (two_of HT_.out zad) zab zab (fun K hK=>?_) (fun K hK=>?_)
    ·skip
     refine Kd.R_lit_step (Kd.int .i64) _ 3 ?hg (N:=22) ?hd (xs:=([]:List Int)) (inner:= []) (ok:=fun _=>True) (okp:=fun _=>True) ?hr ?hp (fun _ hk=>hk) trivial (Below.refl _ _) (Nat.le_refl _) zac ?_;(case hd=>rfl);(case hg=>rfl);(case hr=>first|(go_simp;done)|(go_simp;rfl));(case hp=>exact(Reps.none _ _))
     intro au d2 an hb hg_ hnew_;clear hg_ hnew_
     (first|rw[<-ba.out]at an|(simp only[Int.reduceToNat]at an;rw[<-ba.out]at an))
     replace HO_3:=aK (Kd.S_below (by(with_reducible repeat(first|apply Kd.S_alloc|apply Kd.S_drewN|apply Kd.S_drew));exact HO_3.out) hb);have Y:=aK (Kd.R_lower an (below_size (hbA HB.out)));replace D:=bkB D hb;replace G:=bkB G hb;replace HB:=hbB HB hb;clear hb an;refine hK.out _ _ (z3c D) (fun hHeld=>?_);clear hK K;refine znm (some 22) ?_;refine two_ (i:=3) (j:=5) (Ni:=some 25) (Nj:=some 27) (mB 11 223) (mB 11 247) rfl rfl rfl rfl (two_of HT_.out zad) zab zab (fun K hK=>?_) (fun K hK=>?_)
     ·skip
      refine Kd.R_append_rows_step (Kd.int .i64) (w0:=w) w.heap.size zae (.tmp 22) (.tmp 24) 22 3 (.int .i64 0) 8 rfl Try.underlying22 info3 rfl zab zaa au a3 U _ _ _ (fun _=>True) (fun _=>False) rfl rfl ?aO ?aR (fun _ _ h=>h) (fun _ h=>h.elim) ?aF ?aB ?aS ?aL ?_
      (case aR=>exact kcB bj HB)
      (case aB=>exact(hbA HB.out))
      (case aF=>exact(fun _ _=>trivial))
      (case aO=>exact(kdA Y.out))
      (case aS=>exact(below_size (hbA HB.out)))
      (case aL=>have:=bk.out;omega)
      intro aq df ho hb hg hat;rw[<-bl.out]at ho
      have n0_:=aK (Kd.S_over' (by(with_reducible repeat(first|apply Kd.S_alloc|apply Kd.S_drewN|apply Kd.S_drew));exact HO_3.out) (Kd.R_typed (kdA Y.out)) zab hg);have n1_:=aK (blk_grown (g:=Z) (o:= .cells #[.slice ae U.length ah,.slice ak L.length ai,.slice af O.length aj] 25 (0,0)) (bkA D.out) hg (Kd.R_ne Y.out D.out zab));have n2_:=aK (blk_grown (g:=I) (o:= .cells #[.slice none 0 0,.slice none 0 0,.slice none 0 0] 25 (0,0)) (bkA G.out) hg (Kd.R_ne Y.out G.out zab));have n3_:=aK (hb);have n4_:=aK (ho);clear HO_3;clear D;clear G;clear HB;clear Y;have HO_3:=n0_;have D:=n1_;have G:=n2_;have HB:=n3_;have ac:=n4_;clear n0_ n1_ n2_ n3_ n4_;clear ho hb hg hat;refine hK.out _ _ (z3c D) (fun hHeld=>?_);clear hK K;refine znm (some 25) ?_;refine zoh 5 (some 27) (mB 11 255) HT_ fun K hK=>?_;refine Kd.R_lit_step (Kd.int .i64) _ 3 ?hg (N:=27) ?hd (xs:=([]:List Int)) (inner:= []) (ok:=fun _=>True) (okp:=fun _=>True) ?hr ?hp (fun _ hk=>hk) trivial (Below.refl _ _) (Nat.le_refl _) zac ?_;(case hd=>rfl);(case hg=>rfl);(case hr=>first|(go_simp;done)|(go_simp;rfl));(case hp=>exact(Reps.none _ _))
      intro ao eh a7 hb hg_ hnew_;clear hg_ hnew_
      (first|rw[<-ar.out]at a7|(simp only[Int.reduceToNat]at a7;rw[<-ar.out]at a7))
      replace HO_3:=aK (Kd.S_below (by(with_reducible repeat(first|apply Kd.S_alloc|apply Kd.S_drewN|apply Kd.S_drew));exact HO_3.out) hb);have X:=aK (Kd.R_lower (Kd.R_new' a7 (Kd.R_lt (kdA ac.out))) (below_size (hbA HB.out)));replace ac:=aK (Kd.R_elder' (kdA ac.out) (Kd.R_base a7) hb);replace D:=bkB D hb;replace G:=bkB G hb;replace HB:=hbB HB hb;clear hb a7;refine hK.out _ _ (z3c D) (fun hHeld=>?_);clear hK K;refine znm (some 27) ?_;exact norm_ zat (hCont (au,aq,ao) _ ⟨hHeld,(by(with_reducible repeat(first|apply Kd.R_alloc|apply Kd.R_drewN|apply Kd.R_drew));exact Kd.R_mono ac.out (fun _ hk=>hk.2)),(by(with_reducible repeat(first|apply Kd.R_alloc|apply Kd.R_drewN|apply Kd.R_drew));exact Kd.R_mono X.out (fun _ hk=>hk.2)),(by(with_reducible repeat(first|apply Kd.S_alloc|apply Kd.S_drewN|apply Kd.S_drew));exact HO_3.out),(bkA D.out),(bkA G.out),(hbA HB.out)⟩)
     ·skip
      refine Kd.R_lit_step (Kd.int .i64) _ 3 ?hg (N:=27) ?hd (xs:=([]:List Int)) (inner:= []) (ok:=fun _=>True) (okp:=fun _=>True) ?hr ?hp (fun _ hk=>hk) trivial (Below.refl _ _) (Nat.le_refl _) zac ?_;(case hd=>rfl);(case hg=>rfl);(case hr=>first|(go_simp;done)|(go_simp;rfl));(case hp=>exact(Reps.none _ _))
      intro ao df al hb hg_ hnew_;clear hg_ hnew_
      (first|rw[<-ar.out]at al|(simp only[Int.reduceToNat]at al;rw[<-ar.out]at al))
      replace HO_3:=aK (Kd.S_below (by(with_reducible repeat(first|apply Kd.S_alloc|apply Kd.S_drewN|apply Kd.S_drew));exact HO_3.out) hb);have X:=aK (Kd.R_lower (Kd.R_new' al (Kd.R_lt (kdA Y.out))) (below_size (hbA HB.out)));replace Y:=aK (Kd.R_elder' (kdA Y.out) (Kd.R_base al) hb);replace D:=bkB D hb;replace G:=bkB G hb;replace HB:=hbB HB hb;clear hb al;refine hK.out _ _ (z3c D) (fun hHeld=>?_);clear hK K;refine znm (some 27) ?_;refine zoh 3 (some 25) (mB 11 255) HT_ fun K hK=>?_;refine Kd.R_append_rows_step (Kd.int .i64) (w0:=w) w.heap.size zae (.tmp 22) (.tmp 24) 22 3 (.int .i64 0) 8 rfl Try.underlying22 info3 rfl zab zaa au a3 U _ _ _ (fun k_=>some k_≠(ao:Value).ownBlock) (fun _=>False) rfl rfl ?aO ?aR (fun _ _ h=>h) (fun _ h=>h.elim) ?aF ?aB ?aS ?aL ?_
      (case aR=>exact kcB bj HB)
      (case aB=>exact(hbA HB.out))
      (case aF=>exact(fun k_ hk=>Kd.fresh' (Kd.R_lt (kdA X.out)) k_ hk))
      (case aO=>exact(by(with_reducible repeat(first|apply Kd.R_alloc|apply Kd.R_drewN|apply Kd.R_drew));exact Kd.R_mono Y.out (fun _ hk=>hk.2)))
      (case aS=>exact(below_size (hbA HB.out)))
      (case aL=>have:=bk.out;omega)
      intro aq d3 ho hb hg hat;rw[<-bl.out]at ho
      have n0_:=aK (Kd.S_over' (by(with_reducible repeat(first|apply Kd.S_alloc|apply Kd.S_drewN|apply Kd.S_drew));exact HO_3.out) (Kd.R_typed (kdA Y.out)) zab hg);have n1_:=aK (blk_grown (g:=Z) (o:= .cells #[.slice ae U.length ah,.slice ak L.length ai,.slice af O.length aj] 25 (0,0)) (bkA D.out) hg (Kd.R_ne Y.out D.out zab));have n2_:=aK (blk_grown (g:=I) (o:= .cells #[.slice none 0 0,.slice none 0 0,.slice none 0 0] 25 (0,0)) (bkA G.out) hg (Kd.R_ne Y.out G.out zab));have n3_:=aK (Kd.R_after (ok:=(fun _=>True)) (kdA X.out) hg hat);have n4_:=aK (hb);have n5_:=aK (ho);clear HO_3;clear D;clear G;clear X;clear HB;clear Y;have HO_3:=n0_;have D:=n1_;have G:=n2_;have X:=n3_;have HB:=n4_;have ac:=n5_;clear n0_ n1_ n2_ n3_ n4_ n5_;clear ho hb hg hat;refine hK.out _ _ (z3c D) (fun hHeld=>?_);clear hK K;refine znm (some 25) ?_;exact norm_ zat (hCont (au,aq,ao) _ ⟨hHeld,(kdA ac.out),(by(with_reducible repeat(first|apply Kd.R_alloc|apply Kd.R_drewN|apply Kd.R_drew));exact Kd.R_mono X.out (fun _ hk=>hk.2)),(by(with_reducible repeat(first|apply Kd.S_alloc|apply Kd.S_drewN|apply Kd.S_drew));exact HO_3.out),(bkA D.out),(bkA G.out),(hbA HB.out)⟩)
    ·skip
     refine Kd.R_lit_step (Kd.int .i64) _ 3 ?hg (N:=27) ?hd (xs:=([]:List Int)) (inner:= []) (ok:=fun _=>True) (okp:=fun _=>True) ?hr ?hp (fun _ hk=>hk) trivial (Below.refl _ _) (Nat.le_refl _) zac ?_;(case hd=>rfl);(case hg=>rfl);(case hr=>first|(go_simp;done)|(go_simp;rfl));(case hp=>exact(Reps.none _ _))
     intro ao d2 an hb hg_ hnew_;clear hg_ hnew_
     (first|rw[<-ar.out]at an|(simp only[Int.reduceToNat]at an;rw[<-ar.out]at an))
     replace HO_3:=aK (Kd.S_below (by(with_reducible repeat(first|apply Kd.S_alloc|apply Kd.S_drewN|apply Kd.S_drew));exact HO_3.out) hb);have X:=aK (Kd.R_lower an (below_size (hbA HB.out)));replace D:=bkB D hb;replace G:=bkB G hb;replace HB:=hbB HB hb;clear hb an;refine hK.out _ _ (z3c D) (fun hHeld=>?_);clear hK K;refine znm (some 27) ?_;refine zoh 0 (some 22) (mB 11 247) HT_ fun K hK=>?_;refine Kd.R_lit_step (Kd.int .i64) _ 3 ?hg (N:=22) ?hd (xs:=([]:List Int)) (inner:= []) (ok:=fun _=>True) (okp:=fun _=>True) ?hr ?hp (fun _ hk=>hk) trivial (Below.refl _ _) (Nat.le_refl _) zac ?_;(case hd=>rfl);(case hg=>rfl);(case hr=>first|(go_simp;done)|(go_simp;rfl));(case hp=>exact(Reps.none _ _))
     intro au df al hb hg_ hnew_;clear hg_ hnew_
     (first|rw[<-ba.out]at al|(simp only[Int.reduceToNat]at al;rw[<-ba.out]at al))
     replace HO_3:=aK (Kd.S_below (by(with_reducible repeat(first|apply Kd.S_alloc|apply Kd.S_drewN|apply Kd.S_drew));exact HO_3.out) hb);have Y:=aK (Kd.R_lower (Kd.R_new' al (Kd.R_lt (kdA X.out))) (below_size (hbA HB.out)));replace X:=aK (Kd.R_elder' (kdA X.out) (Kd.R_base al) hb);replace D:=bkB D hb;replace G:=bkB G hb;replace HB:=hbB HB hb;clear hb al;refine hK.out _ _ (z3c D) (fun hHeld=>?_);clear hK K;refine znm (some 22) ?_;refine zoh 3 (some 25) (mB 11 255) HT_ fun K hK=>?_;refine Kd.R_append_rows_step (Kd.int .i64) (w0:=w) w.heap.size zae (.tmp 22) (.tmp 24) 22 3 (.int .i64 0) 8 rfl Try.underlying22 info3 rfl zab zaa au a3 U _ _ _ (fun k_=>some k_≠(ao:Value).ownBlock) (fun _=>False) rfl rfl ?aO ?aR (fun _ _ h=>h) (fun _ h=>h.elim) ?aF ?aB ?aS ?aL ?_
     (case aR=>exact kcB bj HB)
     (case aB=>exact(hbA HB.out))
     (case aF=>exact(fun k_ hk=>Kd.fresh' (Kd.R_lt (kdA X.out)) k_ hk))
     (case aO=>exact(by(with_reducible repeat(first|apply Kd.R_alloc|apply Kd.R_drewN|apply Kd.R_drew));exact Kd.R_mono Y.out (fun _ hk=>hk.2)))
     (case aS=>exact(below_size (hbA HB.out)))
     (case aL=>have:=bk.out;omega)
     intro aq d3 ho hb hg hat;rw[<-bl.out]at ho
     have n0_:=aK (Kd.S_over' (by(with_reducible repeat(first|apply Kd.S_alloc|apply Kd.S_drewN|apply Kd.S_drew));exact HO_3.out) (Kd.R_typed (kdA Y.out)) zab hg);have n1_:=aK (blk_grown (g:=Z) (o:= .cells #[.slice ae U.length ah,.slice ak L.length ai,.slice af O.length aj] 25 (0,0)) (bkA D.out) hg (Kd.R_ne Y.out D.out zab));have n2_:=aK (blk_grown (g:=I) (o:= .cells #[.slice none 0 0,.slice none 0 0,.slice none 0 0] 25 (0,0)) (bkA G.out) hg (Kd.R_ne Y.out G.out zab));have n3_:=aK (Kd.R_after (ok:=(fun _=>True)) (kdA X.out) hg hat);have n4_:=aK (hb);have n5_:=aK (ho);clear HO_3;clear D;clear G;clear X;clear HB;clear Y;have HO_3:=n0_;have D:=n1_;have G:=n2_;have X:=n3_;have HB:=n4_;have ac:=n5_;clear n0_ n1_ n2_ n3_ n4_ n5_;clear ho hb hg hat;refine hK.out _ _ (z3c D) (fun hHeld=>?_);clear hK K;refine znm (some 25) ?_;exact norm_ zat (hCont (au,aq,ao) _ ⟨hHeld,(kdA ac.out),(by(with_reducible repeat(first|apply Kd.R_alloc|apply Kd.R_drewN|apply Kd.R_drew));exact Kd.R_mono X.out (fun _ hk=>hk.2)),(by(with_reducible repeat(first|apply Kd.S_alloc|apply Kd.S_drewN|apply Kd.S_drew));exact HO_3.out),(bkA D.out),(bkA G.out),(hbA HB.out)⟩)
   rintro⟨au,aq,ao⟩ bb ⟨hS_,h0_,h1_,h2_,h3_,h4_,h5_⟩;have n0_:Aside0 (Kd.R (Kd.int .i64) 3 bb w.heap.size (fun k_=>some k_≠(ao:Value).ownBlock) aq ap):=⟨h0_⟩
   have n1_:Aside0 (Kd.R (Kd.int .i64) 3 bb w.heap.size (fun k_=>some k_≠(aq:Value).ownBlock) ao am):=⟨h1_⟩
   have n2_:Aside0 (Kd.S (Kd.slice 61 k61) 59 bb w.heap.size (fun _=>True) u3 aa):=⟨h2_⟩
   have n3_:Aside0 (bb.heap[Z]? =some (.cells #[.slice ae U.length ah,.slice ak L.length ai,.slice af O.length aj] 25 (0,0))):=⟨h3_⟩
   have n4_:Aside0 (bb.heap[I]? =some (.cells #[.slice none 0 0,.slice none 0 0,.slice none 0 0] 25 (0,0))):=⟨h4_⟩
   have n5_:Aside0 (Below w.heap.size w bb):=⟨h5_⟩
   clear HO_3;clear D;clear G;clear HB;clear h0_ h1_ h2_ h3_ h4_ h5_;have ac:=n0_;have X:=n1_;have HO_3:=n2_;have D:=n3_;have G:=n4_;have HB:=n5_;clear n0_ n1_ n2_ n3_ n4_ n5_;have hHeld:bb.cell? ⟨Z,0,none⟩=some (.slice ae U.length ah)/\bb.cell? ⟨Z,1,none⟩=some (.slice ak L.length ai)/\bb.cell? ⟨Z,2,none⟩=some (.slice af O.length aj):=hS_;refine znq ?_;refine zoh 8 (some 30) (mB 11 511) HT_ fun K hK=>?_;refine Kd.R_append_rows_step (Kd.int .i64) (w0:=w) w.heap.size zae (.tmp 27) (.tmp 29) 22 3 (.int .i64 0) 8 rfl Try.underlying22 info3 rfl zab zaa ao am O _ _ _ (fun k_=>some k_≠(aq:Value).ownBlock) (fun _=>False) rfl rfl ?aO ?aR (fun _ _ h=>h) (fun _ h=>h.elim) ?aF ?aB ?aS ?aL ?_
   (case aR=>exact kcB cb HB)
   (case aB=>exact(hbA HB.out))
   (case aF=>exact(fun k_ hk=>Kd.fresh' (Kd.R_lt (kdA ac.out)) k_ hk))
   (case aO=>exact(kdA X.out))
   (case aS=>exact(below_size (hbA HB.out)))
   (case aL=>have:=cd.out;omega)
   intro ec ch ho hb hg hat;rw[<-cg.out]at ho
   have n0_:=aK (Kd.S_over' (by(with_reducible repeat(first|apply Kd.S_alloc|apply Kd.S_drewN|apply Kd.S_drew));exact HO_3.out) (Kd.R_typed (kdA X.out)) zab hg);have n1_:=aK (blk_grown (g:=Z) (o:= .cells #[.slice ae U.length ah,.slice ak L.length ai,.slice af O.length aj] 25 (0,0)) (bkA D.out) hg (Kd.R_ne X.out D.out zab));have n2_:=aK (blk_grown (g:=I) (o:= .cells #[.slice none 0 0,.slice none 0 0,.slice none 0 0] 25 (0,0)) (bkA G.out) hg (Kd.R_ne X.out G.out zab));have n3_:=aK (Kd.R_after (ok:=(fun _=>True)) (by(with_reducible repeat(first|apply Kd.R_alloc|apply Kd.R_drewN|apply Kd.R_drew));exact Kd.R_mono ac.out (fun _ hk=>⟨trivial,hk⟩)) hg hat);have n4_:=aK (hb);have n5_:=aK (ho);clear HO_3;clear D;clear G;clear ac;clear HB;clear X;have HO_3:=n0_;have D:=n1_;have G:=n2_;have ac:=n3_;have HB:=n4_;have bo:=n5_;clear n0_ n1_ n2_ n3_ n4_ n5_;clear ho hb hg hat;obtain⟨bm,bn,b5⟩:=Kd.R_slice bo.out
   (first|subst b5|(injection b5 with f1_ f2_ f3_;have f4_:=f1_.symm;have f5_:=f3_.symm;clear f1_ f2_ f3_;subst f4_;subst f5_))
   obtain⟨bc,bd,b6⟩:=Kd.S_slice HO_3.out
   (first|subst b6|(injection b6 with f1_ f2_ f3_;have f4_:=f1_.symm;have f5_:=f3_.symm;clear f1_ f2_ f3_;subst f4_;subst f5_))
   obtain⟨a4,a5,b7⟩:=Kd.R_slice ac.out
   (first|subst b7|(injection b7 with f1_ f2_ f3_;have f4_:=f1_.symm;have f5_:=f3_.symm;clear f1_ f2_ f3_;subst f4_;subst f5_))
   refine hK.out _ _ (z3c D) (fun hHeld=>?_);clear hK K;refine znm (some 30) ?_;refine pu 9 (some 31) (mB 11 1023) HT_ ?_;refine zoh 10 (none) (mB 11 2047) HT_ fun K hK=>?_;have d6:ch.cell? ⟨I,0,none⟩=some (.slice none 0 0):=(blk_cell G.out 0).trans rfl;have dx:=blk_frozen G.out 0;have db:=J.out;have c8:=ag.out;have d7:ch.cell? ⟨I,1,none⟩=some (.slice none 0 0):=(blk_cell G.out 1).trans rfl;have dy:=blk_frozen G.out 1;have dc:=J.out;have c9:=ag.out;have d8:ch.cell? ⟨I,2,none⟩=some (.slice none 0 0):=(blk_cell G.out 2).trans rfl;have dz:=blk_frozen G.out 2;have dd:=J.out;have da:=ag.out;refine zsk ?_;refine hK.out _ _ ⟨((cell_far (p:=⟨I,_,none⟩) J.out _).trans (((cell_far (p:=⟨I,_,none⟩) J.out _).trans (((cell_far (p:=⟨I,_,none⟩) J.out _).trans (hHeld.1)))))),((cell_far (p:=⟨I,_,none⟩) J.out _).trans (((cell_far (p:=⟨I,_,none⟩) J.out _).trans (((cell_far (p:=⟨I,_,none⟩) J.out _).trans (hHeld.2.1)))))),((cell_far (p:=⟨I,_,none⟩) J.out _).trans (((cell_far (p:=⟨I,_,none⟩) J.out _).trans (((cell_far (p:=⟨I,_,none⟩) J.out _).trans (hHeld.2.2))))))⟩ (fun hHeld=>?_);clear hK K;refine done_ (done_of HT_.out zad) ?_
   try go_wp2
   refine bodyPost_ret (results_cell_row rfl _ _ I 25 #[.slice a4 ap.length a5,.slice bc aa.length bd,.slice bm bi.length bn] (0,0) _ rfl (by refine bkR ?_;refine blk_put (cs:= #[.slice a4 ap.length a5,.slice bc aa.length bd,.slice none 0 0]) ?_ 2 _ rfl;refine bkR ?_;refine blk_put (cs:= #[.slice a4 ap.length a5,.slice none 0 0,.slice none 0 0]) ?_ 1 _ rfl;refine bkR ?_;refine blk_put (cs:= #[.slice none 0 0,.slice none 0 0,.slice none 0 0]) ?_ 0 _ rfl;refine bkR ?_;exact G.out) Try.underlying25 rfl zad) rfl ?_;exact⟨_,_,_,rfE,by(with_reducible repeat(first|apply Kd.R_alloc|apply Kd.R_drewN|apply Kd.R_drew));exact Kd.R_mono (Kd.R_far (p:=⟨I,2,none⟩) (Kd.R_far (p:=⟨I,1,none⟩) (Kd.R_far (p:=⟨I,0,none⟩) (Kd.R_types ac.out G.out zab) (fun _ hk=>hk.2) (.slice a4 ap.length a5)) (fun _ hk=>hk.2) (.slice bc aa.length bd)) (fun _ hk=>hk.2) (.slice bm bi.length bn)) (fun _ hk=>hk.1.2),by(with_reducible repeat(first|apply Kd.S_alloc|apply Kd.S_drewN|apply Kd.S_drew));exact Kd.S_mono (Kd.S_far (p:=⟨I,2,none⟩) (Kd.S_far (p:=⟨I,1,none⟩) (Kd.S_far (p:=⟨I,0,none⟩) (Kd.S_types HO_3.out G.out zab) (fun _ hk=>hk.2) (.slice a4 ap.length a5)) (fun _ hk=>hk.2) (.slice bc aa.length bd)) (fun _ hk=>hk.2) (.slice bm bi.length bn)) (fun _ hk=>trivial),by(with_reducible repeat(first|apply Kd.R_alloc|apply Kd.R_drewN|apply Kd.R_drew));exact Kd.R_mono (Kd.R_far (p:=⟨I,2,none⟩) (Kd.R_far (p:=⟨I,1,none⟩) (Kd.R_far (p:=⟨I,0,none⟩) (Kd.R_types bo.out G.out zab) (fun _ hk=>hk.2) (.slice a4 ap.length a5)) (fun _ hk=>hk.2) (.slice bc aa.length bd)) (fun _ hk=>hk.2) (.slice bm bi.length bn)) (fun _ hk=>hk.1),hbA HB.out⟩
end Go.Proofs.Ytnfemjnajfdepaa.Q
