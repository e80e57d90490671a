/- Texts of the proof of LocalFresh: what each Go function answers, and what the answers mean; no condition beyond each theorem's own. -/
import Derived.RangeFuncNested
import Derived.RangeFuncBound
import Derived.RangeFuncCalls
import Derived.RangeFuncLeaves
import Derived.RangeFuncWrites
import Derived.RangeFuncIn
import Derived.Shelf.RegionOpen
import Derived.LoopNIn
import Derived.LoopIn
import Derived.Test.YtjgcocfnilhggaaDoorLh2
set_option maxHeartbeats 16000000
set_option maxRecDepth 100000
set_option linter.unusedVariables false
set_option linter.unusedSimpArgs false
namespace Go.Proofs.YtjgcocfnilhggaaDoor.Q
open RowKit YtjgcocfnilhggaaDoorW.PrintWords YtjgcocfnilhggaaDoorW.PrintLast YtjgcocfnilhggaaDoorW.PrintMore
open Kd (V_mk F_below V_mono V_drewN V_drew V_slice V_reads' V_below V_elder' R_base R_lower R_alloc R_drewN R_drew R_mono R_slice C_F V_lower N_lt N_drewN R_lt N_below N_reads' R_reads' R_far R_types R_new' R_elder' R_ne)
attribute [local go_sem] max2_int min2_int max_two min_two max_three min_three max_four min_four
def local_row.f(a b:Int)(l:List Int)(i:Int):Option (List Int):=shape_rows_row.f a b l i
theorem C_nil8(w:World)(A:Option Addr):Kd.C (Kd.int .u8) w A ([]:List Int).length []:=
 Kd.C_of_reads (enc:=Value.int .u8) (d:=(0:Int)) (h1:=fun _=>rfl) ⟨rfl,by decide,fun hn=>absurd hn (Nat.lt_irrefl 0)⟩
theorem local_row.goes(ra:Int)(cols i n c f f2:Nat)(A:Option Addr)(w:World)(hf:f=i*cols)(D:f2=(i+1)*cols)(hc:f2<=c)(hi:i<=64)(I:cols<=64):
 Calls Tryd.prog 37 #[.agg #[.int .i64 ra,.int .i64 cols,.slice A n c],.int .i64 i] w fun e w'=>e= .returned (.slice (if c=f then A else A.map (·.add f)) cols (c-f))/\Below w.heap.size w w':=by
 have O:=Tryd.underlying24;have hff:f2=f+cols:=by rw[D,hf,Nat.add_mul,Nat.one_mul]
 have hfs:f<=4096:=by rw[hf];exact Nat.mul_le_mul hi I
 have m1:=mul_small hf (by clear hf D;omega);have m2:=mul_small D (by clear hf D m1;omega);clear hf D;obtain⟨w1b,w1a⟩:=m1;obtain⟨w2b,w2a⟩:=m2;rw[show((i+1:Nat):Int)=(i:Int)+1 from by omega]at w2a w2b
 have HFF:=aK hff;have L:(f:Int)<=(f2:Int):=by clear w1a w1b w2a w2b;omega
 have hf2c:(f2:Int)<=(c:Int):=by clear w1a w1b w2a w2b;omega
 have hfi:(0:Int)<=(f:Int):=by clear w1a w1b w2a w2b;omega
 have w3a:IntKind.i64.wrap ((i:Int)+1)=(i:Int)+1:=by clear w1a w1b w2a w2b;exact iwrap_small za za
 have w3b:wrap64 ((i:Int)+1)=(i:Int)+1:=by clear w1a w1b w2a w2b;unfold wrap64;omega
 clear hff
 go_enter Tryd.func37,Tryd.ntmps37
 go_upto_region 1 with(fail)
 have J:=below_alloc (Below.refl w.heap.size w) (.cells #[.int .i64 ra,.int .i64 cols,.slice A n c] 24);have G:=blk_new w (.cells #[.int .i64 ra,.int .i64 cols,.slice A n c] 24);generalize w.alloc (.cells #[.int .i64 ra,.int .i64 cols,.slice A n c] 24)=w1 at*;have z1:w1.cell? ⟨w.heap.size,1,none⟩=some (.int .i64 cols):=(blk_cell G 1).trans rfl;have z2:w1.cell? ⟨w.heap.size,2,none⟩=some (.slice A n c):=(blk_cell G 2).trans rfl;have hsub:f2-f=cols:=by have:=HFF.out;omega
 go_wp2_with fail
 all_goals
  go_ret
  exact⟨rfl,J⟩
theorem local_row.calls(a b:Int)(P:Nat->Prop)(A:Option Addr)(c:Nat)(l:List Int)(i:Int)(r:List Int)(w:World)(hs:Kd.V (Kd.int .u8) 5 w w.heap.size (fun k_=>P k_) (.slice A l.length c) l)(h:local_row.f a b l i=some r):
 Calls Tryd.prog 37 #[.agg #[.int .i64 a,.int .i64 b,.slice A l.length c],.int .i64 i] w fun e w'=> ∃v:Value,e= .returned v/\Kd.V (Kd.int .u8) 5 w' w.heap.size (fun k_=>(P k_∨w.heap.size<=k_)) v r/\Below w.heap.size w w':=by
 obtain⟨_,hc,hf⟩:=Kd.V_at hs;unfold local_row.f shape_rows_row.f at h;by_cases hg:0<=i/\i<a/\a<=64/\0<=b/\b<=64/\l.length=a.toNat*b.toNat
 ·rw[if_pos hg]at h
  obtain rfl:=Option.some.inj h;obtain⟨h0,h1,h2,h3,h4,h5⟩:=hg;obtain⟨i,rfl⟩:=Int.eq_ofNat_of_zero_le h0;obtain⟨b,rfl⟩:=Int.eq_ofNat_of_zero_le h3;obtain⟨f,hf'⟩: ∃f:Nat,f=i*b:=⟨_,rfl⟩
  obtain⟨f2,D⟩: ∃f2:Nat,f2=(i+1)*b:=⟨_,rfl⟩
  have G:f2=f+b:=by rw[D,hf',Nat.add_mul,Nat.one_mul]
  have hfl:f2<=l.length:=by rw[D,h5,Int.toNat_natCast];exact Nat.mul_le_mul_right _ za
  have hsg:Kd.F (Kd.int .u8) w P (if c=f then A else A.map (·.add f)) ((l.drop f).take b).length ((l.drop f).take b):=fun W' hW=>by
   have hC:=C_seg (hf W' hW) G hfl;by_cases e:f2=f
   ·have e0:(l.drop f).take b= []:=by rw[show b=0 from by omega,List.take_zero]
    rw[e0];exact C_nil8 _ _
   ·rw[if_neg e]at hC
    rw[if_neg za];exact hC
  have hseg:rowSeg (b:Int) l (i:Int)=(l.drop f).take b:=by unfold rowSeg;rw[Int.toNat_natCast,Int.toNat_natCast,hf']
  have hsl:((l.drop f).take b).length=b:=by rw[List.length_take,List.length_drop];omega
  rw[hseg];refine(local_row.goes a b i l.length c f f2 A w hf' D (Nat.le_trans hfl hc) za za).mono ?_;rintro e w' ⟨rfl,hb⟩;refine⟨_,rfl,?_,hb⟩;have:=V_mk (e:=5) (base:=w.heap.size) (c:=c-f) (by rw[hsl];omega) (Kd.F_mono (F_below hsg hb) (ok':=fun k_=>(P k_∨w.heap.size<=k_)) fun k hk=> .inl hk);rw[hsl]at this
  exact this
 ·rw[if_neg hg]at h
  cases h
def local_lead.l0:Nat->List Int->Int->Int->Option (Int)
 |0,_,_,_=>none
 |k+1,x5,x6,x7=>if x7<x6 then(if 0<=x7 then(if x7<(x5.length:Int)then(if(rd x5 x7)=0 then(local_lead.l0 k x5 x6 (wrap64 (x7+1)))else(some x7))else(none))else(none))else(some (-1))
def local_lead.f(k:Nat)(l0:List Int):Option (Int):=local_lead.l0 k l0 (l0.length:Int) 0
theorem local_lead.mono_l: ∀k,(∀y0 y1 y2,LeO (local_lead.l0 k y0 y1 y2) (local_lead.l0 (k+1) y0 y1 y2))
 |0=>fun _ _ _ r h=>by simp[local_lead.l0]at h
 |k+1=>by
  have D:=local_lead.mono_l k
  ·intro y0 y1 y2;unfold local_lead.l0
   with_reducible repeat' first|exact D _ _ _|exact LeO.refl _|exact LeO.none _|refine LeO.ite ?_ ?_|refine LeO.bind ?_ (fun _=>?_)
theorem local_lead.mono: ∀a0 k,LeO (local_lead.f k a0) (local_lead.f (k+1) a0):=by
 intro a0 k;have D:=local_lead.mono_l k;unfold local_lead.f
 with_reducible repeat' first|exact D _ _ _|exact LeO.refl _|exact LeO.none _|refine LeO.ite ?_ ?_|refine LeO.bind ?_ (fun _=>?_)
theorem local_lead.calls(k:Nat)(A0:Option Addr)(c0:Nat)(l0:List Int)(r:Int)(w:World)(Z:Kd.C (Kd.int .u8) w A0 l0.length l0)(Y:l0.length<=c0)(h:local_lead.f k l0=some r):
 Calls Tryd.prog 85 #[.slice A0 l0.length c0] w fun e w'=>e= .returned (.int .i64 r)/\Drawn0 w w':=by
 have X:=aK Z;have aa:=aK Y;clear Z Y;have H:(local_lead.l0 k l0 (l0.length:Int) 0)=some r:=h;clear h;have H':=aK H;clear H
 go_enter Tryd.func85,Tryd.ntmps85
 go_wp2
 go_loopg [7] k (fun kq v7 w'=> ∃(D:Int),v7= .int .i64 D/\Aside0 (local_lead.l0 kq l0 (l0.length:Int) D=some r)/\Aside0 (kq<=k)/\Drawn0 w w')
 case atStart=>exact⟨(0),rsE,H',⟨Nat.le_refl _⟩,by repeat(first|exact Drawn0.refl _|apply Drawn0.step)⟩
 case round=>
  clear H';obtain⟨D,rfl,HA,U,⟨m1,rfl⟩⟩:=hrel
  cases gk with
  |zero=>exact absurd HA.out (by simp[local_lead.l0])
  |succ k1=>
   have H:=HA.out;clear HA;simp only[local_lead.l0]at H;by_cases c2:D<(l0.length:Int)
   case neg=>
    rw[if_neg c2]at H
    have c2b0:decide (D<(l0.length:Int))=false:=decide_eq_false c2;clear c2;obtain rfl:=Option.some.inj H;go_wp2
    go_ret
    exact zD
   rw[if_pos c2]at H
   have c2b0:decide (D<(l0.length:Int))=true:=decide_eq_true c2;clear c2;by_cases c3:0<=D
   case neg=>rw[if_neg c3]at H;exact absurd H zd
   rw[if_pos c3]at H
   have c3b0:decide (0<=D)=true:=decide_eq_true c3;clear c3;by_cases c4:D<(l0.length:Int)
   case neg=>rw[if_neg c4]at H;exact absurd H zd
   rw[if_pos c4]at H
   have c4b0:decide (D<(l0.length:Int))=true:=decide_eq_true c4;clear c4;by_cases c5:(rd l0 D)=0
   case neg=>
    rw[if_neg c5]at H
    have c5b0:((rd l0 D)==0)=false:=beq_eq_false_iff_ne.mpr c5;have c5b1:((rd l0 D)!=0)=true:=bne_iff_ne.mpr c5;obtain rfl:=Option.some.inj H;have G:0<=(D:Int):=of_decide_eq_true asE;have I:D<(l0.length:Int):=of_decide_eq_true asE;obtain⟨O,J,L⟩:=Kd.at_int X.out D G I
    cases J
    replace G:=eq_true G;replace I:=eq_true I;go_wp2
    go_ret
    exact zD
   rw[if_pos c5]at H
   have c5b0:((rd l0 D)==0)=true:=beq_iff_eq.mpr c5;have c5b1:((rd l0 D)!=0)=false:=bne_eq_false_iff_eq.mpr c5;clear c5;have H':=aK H;clear H;have G:0<=(D:Int):=of_decide_eq_true asE;have I:D<(l0.length:Int):=of_decide_eq_true asE;obtain⟨O,J,L⟩:=Kd.at_int X.out D G I
   cases J
   replace G:=eq_true G;replace I:=eq_true I;go_wp2
   go_roundg k1
   case measure=>have:=U.out;omega
   case rel=>exact⟨(wrap64 (D+1)),rsE,H',⟨by have:=U.out;omega⟩,by repeat(first|exact Drawn0.refl _|apply Drawn0.step)⟩
def field_Mul.l0:Nat->Int->Int->Int->Option (Int)
 |0,_,_,_=>none
 |k+1,x0,x1,x5=>if x1=0 then(some x5)else(if(Go.bits .and .u8 x1 1)=0 then((field_double.f x0).bind fun D=>(field_Mul.l0 k D (x1 / 2) x5))else((field_double.f x0).bind fun G=>(field_Mul.l0 k G (x1 / 2) (Go.bits .xor .u8 x5 x0))))
def field_Mul.f(k:Nat)(a0:Int)(a1:Int):Option (Int):=field_Mul.l0 k a0 a1 0
theorem field_Mul.mono_l: ∀k,(∀y0 y1 y2,LeO (field_Mul.l0 k y0 y1 y2) (field_Mul.l0 (k+1) y0 y1 y2))
 |0=>fun _ _ _ r h=>by simp[field_Mul.l0]at h
 |k+1=>by
  have D:=field_Mul.mono_l k
  ·intro y0 y1 y2;unfold field_Mul.l0
   with_reducible repeat' first|exact D _ _ _|exact LeO.refl _|exact LeO.none _|refine LeO.ite ?_ ?_|refine LeO.bind ?_ (fun _=>?_)
theorem field_Mul.mono: ∀a0 a1 k,LeO (field_Mul.f k a0 a1) (field_Mul.f (k+1) a0 a1):=by
 intro a0 a1 k;have D:=field_Mul.mono_l k;unfold field_Mul.f
 with_reducible repeat' first|exact D _ _ _|exact LeO.refl _|exact LeO.none _|refine LeO.ite ?_ ?_|refine LeO.bind ?_ (fun _=>?_)
theorem field_Mul.calls(k:Nat)(a0:Int)(a1:Int)(r:Int)(w:World)(h:field_Mul.f k a0 a1=some r):
 Calls Tryd.prog 115 #[.int .u8 a0,.int .u8 a1] w fun e w'=>e= .returned (.int .u8 r)/\Drawn0 w w':=by
 have H:(field_Mul.l0 k a0 a1 0)=some r:=h;clear h;have H':=aK H;clear H
 go_enter Tryd.func115,Tryd.ntmps115
 go_wp2
 go_loopg [0,1,5] k (fun kq v0 v1 v5 w'=> ∃(G:Int) (D:Int) (I:Int),v0= .int .u8 G/\v1= .int .u8 D/\v5= .int .u8 I/\Aside0 (field_Mul.l0 kq G D I=some r)/\Aside0 (kq<=k)/\Drawn0 w w')
 case atStart=>exact⟨(a0),(a1),(0),rsE,rsE,rsE,H',⟨Nat.le_refl _⟩,by repeat(first|exact Drawn0.refl _|apply Drawn0.step)⟩
 case round=>
  clear H'
  (try clear c1);(try clear p2)
  obtain⟨G,D,I,rfl,rfl,rfl,HA,J,⟨m1,rfl⟩⟩:=hrel
  cases gk with
  |zero=>exact absurd HA.out (by simp[field_Mul.l0])
  |succ k1=>
   have H:=HA.out;clear HA;simp only[field_Mul.l0]at H;by_cases c3:D=0
   ·rw[if_pos c3]at H
    have c3b0:(D==0)=true:=beq_iff_eq.mpr c3;have c3b1:(D !=0)=false:=bne_eq_false_iff_eq.mpr c3;clear c3;obtain rfl:=Option.some.inj H;go_wp2
    go_ret
    exact zD
   rw[if_neg c3]at H
   have c3b0:(D==0)=false:=beq_eq_false_iff_ne.mpr c3;have c3b1:(D !=0)=true:=bne_iff_ne.mpr c3;by_cases c4:(Go.bits .and .u8 D 1)=0
   case neg=>
    rw[if_neg c4]at H
    have c4b0:((Go.bits .and .u8 D 1)==0)=false:=beq_eq_false_iff_ne.mpr c4;have c4b1:((Go.bits .and .u8 D 1)!=0)=true:=bne_iff_ne.mpr c4;obtain⟨O,A6,H⟩:=bindO H
    (try dsimp only at H)
    have H':=aK H;clear H
    go_wp2_with (first|((with_reducible refine gC 120 rfl ?_);refine cG (some 17) Tryd.func120 #[.int .u8 G] ?_;(with_reducible refine(field_double.calls G O _ A6.out).mono ?_);rintro e w' ⟨rfl,⟨nd,rfl⟩⟩;refine⟨_,rfl,?_⟩))
    go_roundg k1
    case measure=>have:=J.out;omega
    case rel=>exact⟨(O),(D / 2),(Go.bits .xor .u8 I G),rsE,rsE,rsE,H',⟨by have:=J.out;omega⟩,by repeat(first|exact Drawn0.refl _|apply Drawn0.step)⟩
   rw[if_pos c4]at H
   have c4b0:((Go.bits .and .u8 D 1)==0)=true:=beq_iff_eq.mpr c4;have c4b1:((Go.bits .and .u8 D 1)!=0)=false:=bne_eq_false_iff_eq.mpr c4;clear c4;obtain⟨L,A5,H⟩:=bindO H
   (try dsimp only at H)
   have H':=aK H;clear H
   go_wp2_with (first|((with_reducible refine gC 120 rfl ?_);refine cG (some 17) Tryd.func120 #[.int .u8 G] ?_;(with_reducible refine(field_double.calls G L _ A5.out).mono ?_);rintro e w' ⟨rfl,⟨nd,rfl⟩⟩;refine⟨_,rfl,?_⟩))
   go_roundg k1
   case measure=>have:=J.out;omega
   case rel=>exact⟨(L),(D / 2),(I),rsE,rsE,rsE,H',⟨by have:=J.out;omega⟩,by repeat(first|exact Drawn0.refl _|apply Drawn0.step)⟩
def field_Div.f(k:Nat)(a0:Int)(a1:Int):Option (Int×Int):=(field_Inv.f a1).bind fun D=>(if D.2=0 then((field_Mul.f k a0 D.1).bind fun G=>(some (G,0)))else(some (0,D.2)))
theorem field_Div.mono: ∀a0 a1 k,LeO (field_Div.f k a0 a1) (field_Div.f (k+1) a0 a1):=by
 intro a0 a1 k;unfold field_Div.f
 with_reducible repeat' first|exact field_Mul.mono _ _ _|exact LeO.refl _|exact LeO.none _|refine LeO.ite ?_ ?_|refine LeO.bind ?_ (fun _=>?_)
theorem field_Div.calls(k:Nat)(a0:Int)(a1:Int)(r1:Int)(r2:Int)(w:World)(h:field_Div.f k a0 a1=some (r1,r2)):
 Calls Tryd.prog 99 #[.int .u8 a0,.int .u8 a1] w fun e w'=>e= .returned (.tuple #[.int .u8 r1,.int .i64 r2])/\Below w.heap.size w w':=by
 have HB:=aK (Below.refl w.heap.size w);have H:((field_Inv.f a1).bind fun G=>(if G.2=0 then((field_Mul.f k a0 G.1).bind fun J=>(some (J,0)))else(some (0,G.2))))=some (r1,r2):=h;clear h;obtain⟨⟨I,D⟩,A3,H⟩:=bindO H
 (try dsimp only at H)
 by_cases c4:D=0
 ·rw[if_pos c4]at H
  have c4b0:(D==0)=true:=beq_iff_eq.mpr c4;have c4b1:(D !=0)=false:=bne_eq_false_iff_eq.mpr c4;clear c4;obtain⟨J,A5,H⟩:=bindO H
  (try dsimp only at H)
  obtain⟨rfl,rfl⟩:=zP2 H
  go_enter Tryd.func99,Tryd.ntmps99
  go_wp2_with (first|((with_reducible refine gC 108 rfl ?_);refine cG (some 10) Tryd.func108 #[.int .u8 a1] ?_;(with_reducible refine(field_Inv.calls a1 I D _ A3.out).mono ?_);rintro e w6 ⟨rfl,hb⟩;refine⟨_,rfl,?_⟩;replace HB:=hbB HB hb;(try clear hb))|((with_reducible refine gC 115 rfl ?_);refine cG (some 18) Tryd.func115 #[.int .u8 a0,.int .u8 I] ?_;(with_reducible refine(field_Mul.calls k a0 I J _ A5.out).mono ?_);rintro e w' ⟨rfl,⟨nd,rfl⟩⟩;refine⟨_,rfl,?_⟩))
  go_ret2
  exact⟨rfE,hbA HB.out⟩
 ·rw[if_neg c4]at H
  have c4b0:(D==0)=false:=beq_eq_false_iff_ne.mpr c4;have c4b1:(D !=0)=true:=bne_iff_ne.mpr c4;obtain⟨rfl,rfl⟩:=zP2 H
  go_enter Tryd.func99,Tryd.ntmps99
  go_wp2_with (first|((with_reducible refine gC 108 rfl ?_);refine cG (some 10) Tryd.func108 #[.int .u8 a1] ?_;(with_reducible refine(field_Inv.calls a1 I D _ A3.out).mono ?_);rintro e w7 ⟨rfl,hb⟩;refine⟨_,rfl,?_⟩;replace HB:=hbB HB hb;(try clear hb)))
  go_ret2
  exact⟨rfE,hbA HB.out⟩
def local_basis_left.l0:Nat->List Int->List (List Int)->Int->Int->Option (List Int)
 |0,_,_,_,_=>none
 |k+1,x1,I,O,D=>if D<O then(if 0<=D then(if D<(I.length:Int)then((local_lead.f k (rd_L3 I D)).bind fun G=>(if 0<=G then(if G<(x1.length:Int)then(if G<((rd_L3 I D).length:Int)then((field_Div.f k (rd x1 G) (rd (rd_L3 I D) G)).bind fun J=>(if J.1=0 then(local_basis_left.l0 k x1 I O (wrap64 (D+1)))else((field_Mac.f k x1 J.1 (rd_L3 I D)).bind fun L=>(local_basis_left.l0 k L.1 I O (wrap64 (D+1))))))else(none))else(none))else(none)))else(none))else(none))else(some x1)
def local_basis_left.f(k:Nat)(l0:List (List Int))(l1:List Int):Option (List Int):=local_basis_left.l0 k l1 l0 (l0.length:Int) 0
theorem local_basis_left.mono_l: ∀k,(∀y0 y1 y2 y3,LeO (local_basis_left.l0 k y0 y1 y2 y3) (local_basis_left.l0 (k+1) y0 y1 y2 y3))
 |0=>fun _ _ _ _ r h=>by simp[local_basis_left.l0]at h
 |k+1=>by
  have D:=local_basis_left.mono_l k
  ·intro y0 y1 y2 y3;unfold local_basis_left.l0
   with_reducible repeat' first|exact D _ _ _ _|exact field_Div.mono _ _ _|exact field_Mac.mono _ _ _ _|exact local_lead.mono _ _|exact LeO.refl _|exact LeO.none _|refine LeO.ite ?_ ?_|refine LeO.bind ?_ (fun _=>?_)
theorem local_basis_left.mono: ∀a0 a1 k,LeO (local_basis_left.f k a0 a1) (local_basis_left.f (k+1) a0 a1):=by
 intro a0 a1 k;have D:=local_basis_left.mono_l k;unfold local_basis_left.f
 with_reducible repeat' first|exact D _ _ _ _|exact field_Div.mono _ _ _|exact field_Mac.mono _ _ _ _|exact local_lead.mono _ _|exact LeO.refl _|exact LeO.none _|refine LeO.ite ?_ ?_|refine LeO.bind ?_ (fun _=>?_)
def local_basis_left.T5:Bool×List (List Nat×List Nat):=(true,[([],[]),([],[]),([0,1],[0,1]),([2],[2]),([],[]),([],[]),([4,5],[4,5]),([6],[6]),([3,7],[3,7]),([8],[8]),([9],[9]),([9],[9]),([10,8,0,1,2,3,4,5,6,7,8,9,10],[10]),([11,12,0,1,2,3,4,5,6,7,8,9,10,11,12],[11])])
def local_basis_left.B5:List Nat:= [0,0,3,7,0,0,48,112,255,511,1023,1023,2047,8191]
theorem local_basis_left.tab5:rtab .any (opsOf Tryd.f84 5)=local_basis_left.T5:=by kernel_rfl
theorem local_basis_left.bits5:waitsOk local_basis_left.T5.2 local_basis_left.B5=true:=by kernel_rfl
theorem local_basis_left.calls(k:Nat)(A0:Option Addr)(c0:Nat)(l0:List (List Int))(P1_:Nat->Prop)(A1:Option Addr)(c1:Nat)(l1:List Int)(r:List Int)(w:World)(a5:Kd.C (Kd.slice 5 (Kd.int .u8)) w A0 l0.length l0)(a4:l0.length<=c0)(ba:Kd.V (Kd.int .u8) 5 w w.heap.size (fun k_=>P1_ k_) (.slice A1 l1.length c1) l1)(h:local_basis_left.f k l0 l1=some r):
 Calls Tryd.prog 84 #[.slice A0 l0.length c0,.slice A1 l1.length c1] w fun e w'=> ∃v0_:Value,e= .returned (v0_)/\Kd.V (Kd.int .u8) 5 w' w.heap.size (fun k_=>(P1_ k_∨w.heap.size<=k_)) v0_ r/\Below w.heap.size w w':=by
 have a2:=aK a5;have bg:=aK a4;clear a5 a4;have a8:=aK (show Kd.V (Kd.int .u8) 5 w w.heap.size (fun k_=>(P1_ k_∨w.heap.size<=k_)) (.slice A1 l1.length c1) l1 from V_mono ba (fun k_ hk=> .inl hk));have HB:=aK (Below.refl w.heap.size w);have H:(local_basis_left.l0 k l1 l0 (l0.length:Int) 0)=some r:=h;clear h;have H':=aK H;clear H
 go_enter Tryd.func84,Tryd.ntmps84
 go_wp2
 go_loopg [1,12] k (fun kq v1 bb w'=> ∃(L:List Int) (D:Int),bb= .int .i64 D/\Aside0 (local_basis_left.l0 kq L l0 (l0.length:Int) D=some r)/\Aside0 (kq<=k)/\Aside0 (Kd.V (Kd.int .u8) 5 w' w.heap.size (fun k_=>(P1_ k_∨w.heap.size<=k_)) v1 L)/\Aside0 (Below w.heap.size w w'))
 case atStart=>exact⟨(l1),(0),rsE,H',⟨Nat.le_refl _⟩,⟨by(with_reducible repeat(first|apply Kd.V_alloc|apply V_drewN|apply V_drew));exact a8.out⟩,⟨hbA HB.out⟩⟩
 case round=>
  clear H'
  (try clear c1);(try clear p2)
  obtain⟨L,D,rfl,HA,ar,HO_1,HB⟩:=hrel
  cases gk with
  |zero=>exact absurd HA.out (by simp[local_basis_left.l0])
  |succ k1=>
   have H:=HA.out;clear HA;simp only[local_basis_left.l0]at H;by_cases c3:D<(l0.length:Int)
   case neg=>
    rw[if_neg c3]at H
    have c3b0:decide (D<(l0.length:Int))=false:=decide_eq_false c3;clear c3;obtain rfl:=Option.some.inj H;go_wp2
    go_ret
    exact⟨_,rfE,by(with_reducible repeat(first|apply Kd.V_alloc|apply V_drewN|apply V_drew));exact HO_1.out,hbA HB.out⟩
   rw[if_pos c3]at H
   have c3b0:decide (D<(l0.length:Int))=true:=decide_eq_true c3;clear c3;by_cases c4:0<=D
   case neg=>rw[if_neg c4]at H;exact absurd H zd
   rw[if_pos c4]at H
   have c4b0:decide (0<=D)=true:=decide_eq_true c4;clear c4;by_cases c5:D<(l0.length:Int)
   case neg=>rw[if_neg c5]at H;exact absurd H zd
   rw[if_pos c5]at H
   have c5b0:decide (D<(l0.length:Int))=true:=decide_eq_true c5;clear c5;obtain⟨G,A6,H⟩:=bindO H
   (try dsimp only at H)
   by_cases c7:0<=G
   case neg=>rw[if_neg c7]at H;exact absurd H zd
   rw[if_pos c7]at H
   have c7b0:decide (0<=G)=true:=decide_eq_true c7;clear c7;by_cases c8:G<(L.length:Int)
   case neg=>rw[if_neg c8]at H;exact absurd H zd
   rw[if_pos c8]at H
   have c8b0:decide (G<(L.length:Int))=true:=decide_eq_true c8;clear c8;by_cases c9:G<((rd_L3 l0 D).length:Int)
   case neg=>rw[if_neg c9]at H;exact absurd H zd
   rw[if_pos c9]at H
   have c9b0:decide (G<((rd_L3 l0 D).length:Int))=true:=decide_eq_true c9;clear c9;obtain⟨⟨ab,aw⟩,a1,H⟩:=bindO H
   (try dsimp only at H)
   by_cases an:ab=0
   ·rw[if_pos an]at H
    have c11b0:(ab==0)=true:=beq_iff_eq.mpr an;have c11b1:(ab !=0)=false:=bne_eq_false_iff_eq.mpr an;clear an;have H':=aK H;clear H;have ae:0<=(D:Int):=of_decide_eq_true asE;have ah:D<(l0.length:Int):=of_decide_eq_true asE;obtain⟨az,ak,ac,ao,O,Y,X⟩:=at_L3 a2.out D ae ah
    cases ao
    replace O:=(HB.out.cell (World.block_lt_of_cell? w _ O)).trans O;have U:=aK X;have aa:=aK Y;clear X Y;replace ae:=eq_true ae;replace ah:=eq_true ah
    try go_wp2_with (first|((with_reducible refine gC 85 rfl ?_);refine cG (some 17) Tryd.func85 #[.slice ak (rd_L3 l0 D).length ac] ?_;(with_reducible refine(local_lead.calls k1 _ _ (rd_L3 l0 D) G _ ?side1 ?side2 A6.out).mono ?_);(case side1=>exact kcB U HB);(case side2=>exact aa.out);rintro e w' ⟨rfl,⟨nd,rfl⟩⟩;refine⟨_,rfl,?_⟩))
    (try(rw[drewN_self wr];generalize hq_:World.drewN wr _=wr;have n0_:Aside0 (Kd.V (Kd.int .u8) 5 wr w.heap.size (fun k_=>(P1_ k_∨w.heap.size<=k_)) u1 L):=⟨by rw[<-hq_];exact(by(with_reducible repeat(first|apply Kd.V_alloc|apply V_drewN|apply V_drew));exact HO_1.out)⟩;have n1_:Aside0 (Below w.heap.size w wr):=⟨by rw[<-hq_];exact(hbA HB.out)⟩;clear HO_1 HB hq_;have HO_1:=n0_;have HB:=n1_;clear n0_ n1_))
    replace HO_1:=aK (V_drew HO_1.out);replace HB:=aK (below_drew1 HB.out);obtain⟨bc,be,au⟩:=V_slice HO_1.out
    (first|subst au|(injection au with f1_ f2_ f3_;have f4_:=f1_.symm;have f5_:=f3_.symm;clear f1_ f2_ f3_;subst f4_;subst f5_))
    have af:0<=(G:Int):=of_decide_eq_true asE;have ai:G<(L.length:Int):=of_decide_eq_true asE;obtain⟨al,ap,Z⟩:=Kd.at_int (V_reads' HO_1.out).2.2 G af ai
    cases ap
    replace af:=eq_true af;replace ai:=eq_true ai;have ag:0<=(G:Int):=of_decide_eq_true asE;have aj:G<((rd_L3 l0 D).length:Int):=of_decide_eq_true asE;obtain⟨am,aq,I⟩:=Kd.at_int U.out G ag aj;have J:=I
    cases aq
    replace I:=(HB.out.cell (World.block_lt_of_cell? w _ I)).trans I;replace ag:=eq_true ag;replace aj:=eq_true aj;refine start_ (n:=14) (S:=fun w'=>w'.cell? (al.add (G).toNat)=some (.int .u8 (rd L G))/\w'.cell? (am.add (G).toNat)=some (.int .u8 (rd (rd_L3 l0 D) G))) (ds:= []) (.replicate 14 false) zc rfl rfl ⟨Z,((HB.out.cell (World.block_lt_of_cell? w _ J)).trans J)⟩ (fun hHeld=>?_);refine with_tabW local_basis_left.tab5 local_basis_left.bits5 (fun HT_ HW_=>?_);generalize wr.drew=bh at HO_1 HB Z I hHeld⊢;refine pu 0 (some 19) (mB 14 1) HT_ ?_;refine pu 1 (some 20) (mB 14 3) HT_ ?_;refine pu 2 (some 21) (mB 14 7) HT_ ?_;refine pu 4 (some 23) (mB 14 23) HT_ ?_;refine pu 5 (some 24) (mB 14 55) HT_ ?_;refine pu 6 (some 25) (mB 14 119) HT_ ?_;refine tk2 3 (some 22) (mB 14 127) HT_ HW_ hHeld ?_;refine tk2 7 (some 26) (mB 14 255) HT_ HW_ hHeld ?_;refine zoh 8 (some 27) (mB 14 511) HT_ fun K hK=>?_;refine goes_ Tryd.func99 zc rfl #[.int .u8 (rd L G),.int .u8 (rd (rd_L3 l0 D) G)] ze rfl rfl (by(try simp only[List.map_toArray,List.map_cons,List.map_nil]);first|done|rfl|(simp only[List.length_drop,List.length_take];rfl)) ?_;with_reducible refine(field_Div.calls k1 (rd L G) (rd (rd_L3 l0 D) G) ab aw _ a1.out).mono ?_
    rintro e bi ⟨rfl,hb⟩;have HS0_:=(hb.cell (World.block_lt_of_cell? _ _ (hHeld.1))).trans (hHeld.1);refine⟨_,rfl,?_⟩;replace HO_1:=aK (V_below (by(with_reducible repeat(first|apply Kd.V_alloc|apply V_drewN|apply V_drew));exact HO_1.out) hb);replace HB:=hbB HB hb
    (try clear hb)
    (try clear a9)
    (try clear hk)
    (try clear hi)
    refine hK.out _ _ ⟨HS0_,((HB.out.cell (World.block_lt_of_cell? w _ J)).trans J)⟩ (fun hHeld=>?_);clear hK K;refine znm (some 27) ?_;refine pu 9 (some 18) (mB 14 1023) HT_ ?_;refine pu 10 (some 28) (mB 14 2047) HT_ ?_;refine pu 11 (some 29) (mB 14 4095) HT_ ?_;refine pu 12 (some 8) (mB 14 8191) HT_ ?_;refine pu 13 (some 9) (mB 14 16383) HT_ ?_;refine done_ (done_of HT_.out zc) ?_
    try go_wp2
    go_roundg k1
    case measure=>have:=ar.out;omega
    case rel=>exact⟨(L),(wrap64 (D+1)),rsE,H',⟨by have:=ar.out;omega⟩,⟨by(with_reducible repeat(first|apply Kd.V_alloc|apply V_drewN|apply V_drew));exact HO_1.out⟩,⟨hbA HB.out⟩⟩
   rw[if_neg an]at H
   have c11b0:(ab==0)=false:=beq_eq_false_iff_ne.mpr an;have c11b1:(ab !=0)=true:=bne_iff_ne.mpr an;obtain⟨⟨ax,a6⟩,a7,H⟩:=bindO H
   (try dsimp only at H)
   have H':=aK H;clear H;have ae:0<=(D:Int):=of_decide_eq_true asE;have ah:D<(l0.length:Int):=of_decide_eq_true asE;obtain⟨az,ak,ac,ao,O,Y,X⟩:=at_L3 a2.out D ae ah
   cases ao
   replace O:=(HB.out.cell (World.block_lt_of_cell? w _ O)).trans O;have U:=aK X;have aa:=aK Y;clear X Y;replace ae:=eq_true ae;replace ah:=eq_true ah
   try go_wp2_with (first|((with_reducible refine gC 85 rfl ?_);refine cG (some 17) Tryd.func85 #[.slice ak (rd_L3 l0 D).length ac] ?_;(with_reducible refine(local_lead.calls k1 _ _ (rd_L3 l0 D) G _ ?side1 ?side2 A6.out).mono ?_);(case side1=>exact kcB U HB);(case side2=>exact aa.out);rintro e w' ⟨rfl,⟨nd,rfl⟩⟩;refine⟨_,rfl,?_⟩))
   (try(rw[drewN_self wr];generalize hq_:World.drewN wr _=wr;have n0_:Aside0 (Kd.V (Kd.int .u8) 5 wr w.heap.size (fun k_=>(P1_ k_∨w.heap.size<=k_)) u1 L):=⟨by rw[<-hq_];exact(by(with_reducible repeat(first|apply Kd.V_alloc|apply V_drewN|apply V_drew));exact HO_1.out)⟩;have n1_:Aside0 (Below w.heap.size w wr):=⟨by rw[<-hq_];exact(hbA HB.out)⟩;clear HO_1 HB hq_;have HO_1:=n0_;have HB:=n1_;clear n0_ n1_))
   replace HO_1:=aK (V_drew HO_1.out);replace HB:=aK (below_drew1 HB.out);obtain⟨bd,a3,av⟩:=V_slice HO_1.out
   (first|subst av|(injection av with f1_ f2_ f3_;have f4_:=f1_.symm;have f5_:=f3_.symm;clear f1_ f2_ f3_;subst f4_;subst f5_))
   have af:0<=(G:Int):=of_decide_eq_true asE;have ai:G<(L.length:Int):=of_decide_eq_true asE;obtain⟨al,ap,Z⟩:=Kd.at_int (V_reads' HO_1.out).2.2 G af ai
   cases ap
   replace af:=eq_true af;replace ai:=eq_true ai;have ag:0<=(G:Int):=of_decide_eq_true asE;have aj:G<((rd_L3 l0 D).length:Int):=of_decide_eq_true asE;obtain⟨am,aq,I⟩:=Kd.at_int U.out G ag aj;have J:=I
   cases aq
   replace I:=(HB.out.cell (World.block_lt_of_cell? w _ I)).trans I;replace ag:=eq_true ag;replace aj:=eq_true aj;refine start_ (n:=14) (S:=fun w'=>w'.cell? (al.add (G).toNat)=some (.int .u8 (rd L G))/\w'.cell? (am.add (G).toNat)=some (.int .u8 (rd (rd_L3 l0 D) G))) (ds:= []) (.replicate 14 false) zc rfl rfl ⟨Z,((HB.out.cell (World.block_lt_of_cell? w _ J)).trans J)⟩ (fun hHeld=>?_);refine with_tabW local_basis_left.tab5 local_basis_left.bits5 (fun HT_ HW_=>?_);generalize wr.drew=bj at HO_1 HB Z I hHeld⊢;refine pu 0 (some 19) (mB 14 1) HT_ ?_;refine pu 1 (some 20) (mB 14 3) HT_ ?_;refine pu 2 (some 21) (mB 14 7) HT_ ?_;refine pu 4 (some 23) (mB 14 23) HT_ ?_;refine pu 5 (some 24) (mB 14 55) HT_ ?_;refine pu 6 (some 25) (mB 14 119) HT_ ?_;refine tk2 3 (some 22) (mB 14 127) HT_ HW_ hHeld ?_;refine tk2 7 (some 26) (mB 14 255) HT_ HW_ hHeld ?_;refine zoh 8 (some 27) (mB 14 511) HT_ fun K hK=>?_;refine goes_ Tryd.func99 zc rfl #[.int .u8 (rd L G),.int .u8 (rd (rd_L3 l0 D) G)] ze rfl rfl (by(try simp only[List.map_toArray,List.map_cons,List.map_nil]);first|done|rfl|(simp only[List.length_drop,List.length_take];rfl)) ?_;with_reducible refine(field_Div.calls k1 (rd L G) (rd (rd_L3 l0 D) G) ab aw _ a1.out).mono ?_
   rintro e bk ⟨rfl,hb⟩;have HS0_:=(hb.cell (World.block_lt_of_cell? _ _ (hHeld.1))).trans (hHeld.1);refine⟨_,rfl,?_⟩;replace HO_1:=aK (V_below (by(with_reducible repeat(first|apply Kd.V_alloc|apply V_drewN|apply V_drew));exact HO_1.out) hb);replace HB:=hbB HB hb
   (try clear hb)
   (try clear a9)
   (try clear hk)
   (try clear hi)
   refine hK.out _ _ ⟨HS0_,((HB.out.cell (World.block_lt_of_cell? w _ J)).trans J)⟩ (fun hHeld=>?_);clear hK K;refine znm (some 27) ?_;refine pu 9 (some 18) (mB 14 1023) HT_ ?_;refine pu 10 (some 28) (mB 14 2047) HT_ ?_;refine pu 11 (some 29) (mB 14 4095) HT_ ?_;refine pu 12 (some 8) (mB 14 8191) HT_ ?_;refine pu 13 (some 9) (mB 14 16383) HT_ ?_;refine done_ (done_of HT_.out zc) ?_
   try go_wp2_with (first|((with_reducible refine gC 100 rfl ?_);refine cG (some 36) Tryd.func100 #[.slice (some al) L.length a3,.int .u8 ab,.slice (some am) (rd_L3 l0 D).length ac] ?_;(with_reducible refine(field_Mac.calls k1 _ _ L ab _ _ (rd_L3 l0 D) ax a6 _ ?side1 ?side2 ?side3 ?side4 a7.out).mono ?_);(case side1=>repeat(first|exact(V_reads' HO_1.out).2.2|(with_reducible refine Kd.C_alloc ?_ _)|(with_reducible refine Kd.C_drewN ?_ _)|(with_reducible refine Kd.C_drew ?_)));(case side2=>exact(V_reads' HO_1.out).2.1);(case side3=>exact kcB U HB);(case side4=>exact aa.out);rintro e bl ⟨bf,rfl,a0,hb⟩;refine⟨_,rfl,?_⟩;replace HO_1:=aK (V_elder' (by(with_reducible repeat(first|apply Kd.V_alloc|apply V_drewN|apply V_drew));exact HO_1.out) (R_base a0) hb);have ay:=aK (R_lower (Kd.R_newM (M:=fun k_=>(w.heap.size<=k_)) a0 (below_size (hbA HB.out)) (fun k_ h_=>h_)) (below_size (hbA HB.out)));replace HB:=hbB HB hb;(try clear hb);(try clear a0)))
   go_roundg k1
   case measure=>have:=ar.out;omega
   case rel=>exact⟨(ax),(wrap64 (D+1)),rsE,H',⟨by have:=ar.out;omega⟩,⟨V_mono (Kd.R_V (by(with_reducible repeat(first|apply R_alloc|apply R_drewN|apply R_drew));exact R_mono ay.out (fun _ hk=>hk.1))) (fun k_ hk=>by first|exact⟨(.inr (hk.1)),hk.2⟩|exact(.inr (hk)))⟩,⟨hbA HB.out⟩⟩
def local_repairs.l0:Nat->Int->List (List Int)->List Int->Int->Int->Int->Int->List Int->Option (Bool)
 |0,_,_,_,_,_,_,_,_=>none
 |k+1,x1,x7,L,U,J,D,G,I=>if J<U then(if 0<=J then(if J<(L.length:Int)then((local_row.f D G I (rd L J)).bind fun aa=>((local_basis_left.f k x7 aa).bind fun O=>((local_lead.f k O).bind fun ab=>(if ab>=0 then(if x7.length<5864062014805 then(local_repairs.l0 k x1 (x7++ [O]) L U (wrap64 (J+1)) D G I)else(none))else(local_repairs.l0 k x1 x7 L U (wrap64 (J+1)) D G I)))))else(none))else(none))else((local_row.f D G I x1).bind fun X=>((local_basis_left.f k x7 X).bind fun Y=>((local_lead.f k Y).bind fun Z=>(some (decide (Z<0))))))
def local_repairs.f(k:Nat)(G:Int)(I:Int)(J:List Int)(a1:Int)(a2:Int):Option (Bool):=(subset_List.f k a2).bind fun D=>(local_repairs.l0 k a1 ([]:List (List Int)) D (D.length:Int) 0 G I J)
theorem local_repairs.mono_l: ∀k,(∀y0 y1 y2 y3 y4 y5 y6 y7,LeO (local_repairs.l0 k y0 y1 y2 y3 y4 y5 y6 y7) (local_repairs.l0 (k+1) y0 y1 y2 y3 y4 y5 y6 y7))
 |0=>fun _ _ _ _ _ _ _ _ r h=>by simp[local_repairs.l0]at h
 |k+1=>by
  have D:=local_repairs.mono_l k
  ·intro y0 y1 y2 y3 y4 y5 y6 y7;unfold local_repairs.l0
   with_reducible repeat' first|exact D _ _ _ _ _ _ _ _|exact local_basis_left.mono _ _ _|exact local_lead.mono _ _|exact subset_List.mono _ _|exact LeO.refl _|exact LeO.none _|refine LeO.ite ?_ ?_|refine LeO.bind ?_ (fun _=>?_)
theorem local_repairs.mono: ∀a0 a1 a2 a3 a4 k,LeO (local_repairs.f k a0 a1 a2 a3 a4) (local_repairs.f (k+1) a0 a1 a2 a3 a4):=by
 intro a0 a1 a2 a3 a4 k;have D:=local_repairs.mono_l k;unfold local_repairs.f
 with_reducible repeat' first|exact D _ _ _ _ _ _ _ _|exact local_basis_left.mono _ _ _|exact local_lead.mono _ _|exact subset_List.mono _ _|exact LeO.refl _|exact LeO.none _|refine LeO.ite ?_ ?_|refine LeO.bind ?_ (fun _=>?_)
theorem local_repairs.calls(k:Nat)(U:Int)(X:Int)(ab:Option Addr)(ac:Nat)(L:List Int)(a1:Int)(a2:Int)(r:Bool)(w:World)(a6:Kd.C (Kd.int .u8) w ab L.length L)(a5:L.length<=ac)(h:local_repairs.f k U X L a1 a2=some r)(hT:TabAt 0 Lib.deBruijn64tab w):
 Calls Tryd.prog 55 #[.agg #[.int .i64 U,.int .i64 X,.slice ab L.length ac],.int .i64 a1,.int .u64 a2] w fun e w'=>e= .returned (.bool r)/\Below w.heap.size w w':=by
 have HT:=aK hT;clear hT;have cz:=Tryd.underlying24;have au:=aK a6;have aq:=aK a5;clear a6 a5;have HB:=aK (Below.refl w.heap.size w);have H:((subset_List.f k a2).bind fun G=>(local_repairs.l0 k a1 ([]:List (List Int)) G (G.length:Int) 0 U X L))=some r:=h;clear h;obtain⟨G,A4,H⟩:=bindO H
 (try dsimp only at H)
 have H':=aK H;clear H
 go_enter Tryd.func55,Tryd.ntmps55
 go_wp2_with (first|((with_reducible refine gD 3 rfl ?_);refine bE 3 #[.int .i64 U,.int .i64 X,.slice ab L.length ac] 24 ?_;intro I hg w5 hbox hb;have D:=aK (hbox);have ap:=hbS HB hg;have cw:=hbS HB hg;replace HB:=hbB HB hb;clear hb hbox hg)|((with_reducible refine gC 35 rfl ?_);refine cG (some 12) Tryd.func35 #[.int .u64 a2] ?_;(with_reducible refine(subset_List.calls k a2 G _ A4.out (tab_below HT.out zj)).mono ?_);rintro e w6 ⟨c2,rfl,ae,hb⟩;refine⟨_,rfl,?_⟩;have az:=aK (R_lower ae (below_size (hbA HB.out)));replace D:=bkB D hb;replace HB:=hbB HB hb;(try clear hb);(try clear ae);obtain⟨ay,af,cx⟩:=R_slice az.out;subst cx))
 go_loopg [7,14] k (fun kq v7 cy w'=> ∃(O:List (List Int)) (J:Int),cy= .int .i64 J/\Aside0 (local_repairs.l0 kq a1 O G (G.length:Int) J U X L=some r)/\Aside0 (kq<=k)/\Aside0 (Kd.N (Kd.slice 5 (Kd.int .u8)) 22 w' w.heap.size (fun k_=>some k_≠((.slice ay G.length af):Value).ownBlock/\k_≠I) v7 O)/\Aside0 (Kd.R (Kd.int .i64) 3 w' w.heap.size (fun _=>True) (.slice ay G.length af) G)/\Aside0 (w'.heap[I]? =some (.cells #[.int .i64 U,.int .i64 X,(.slice ab L.length ac)] 24 (0,0)))/\Aside0 (Below w.heap.size w w'))
 case atStart=>exact⟨(([]:List (List Int))),(0),rsE,H',⟨Nat.le_refl _⟩,⟨by first|exact Kd.S_nil _ _ _ _ _|exact Kd.N_nil _ _ _ _ _|exact Kd.V_nil _ _ _ _ _|exact Kd.Q_nil _ _ _ _ _|exact Kd.R_nil _ _ _ _ _⟩,⟨kdA az.out⟩,⟨bkA D.out⟩,⟨hbA HB.out⟩⟩
 case round=>
  clear H'
  (try clear p2);(try clear c3);(try clear c5)
  obtain⟨O,J,rfl,HA,ba,HO_7,HO_12,D,HB⟩:=hrel
  cases gk with
  |zero=>exact absurd HA.out (by simp[local_repairs.l0])
  |succ k1=>
   have H:=HA.out;clear HA;simp only[local_repairs.l0]at H;by_cases c8:J<(G.length:Int)
   case neg=>
    rw[if_neg c8]at H
    have c8b0:decide (J<(G.length:Int))=false:=decide_eq_false c8;clear c8;obtain⟨a8,ct,H⟩:=bindO H
    (try dsimp only at H)
    obtain⟨a9,cu,H⟩:=bindO H
    (try dsimp only at H)
    obtain⟨cp,cv,H⟩:=bindO H
    (try dsimp only at H)
    obtain rfl:=Option.some.inj H;obtain⟨cd,ce,cf,cm,cn,co⟩:=cell3 D
    go_wp2_with (first|((with_reducible refine gC 37 rfl ?_);refine cG (some 34) Tryd.func37 #[.agg #[.int .i64 U,.int .i64 X,.slice ab L.length ac],.int .i64 a1] ?_;(with_reducible refine(local_row.calls U X (fun k_=>k_<w.heap.size) _ _ L a1 a8 _ ?side1 ct.out).mono ?_);(case side1=>exact V_mk aq.out (F_below (C_F (Kd.heap_int .u8) au.out) (hbA HB.out)));rintro e df ⟨c4,rfl,ae,hb⟩;refine⟨_,rfl,?_⟩;have an:=aK (V_lower (V_mono (ok':=fun k_=>some k_≠(u7:Value).ownBlock/\some k_≠(.slice ay G.length af:Value).ownBlock/\k_≠I) ae (fun k_ hk_=>⟨Or.elim hk_ (fun hs_=>fun e_=>Nat.not_le.2 hs_ (Kd.N_base HO_7.out k_ e_.symm)) (fun hn_=>(Kd.fresh' (N_lt (by(with_reducible repeat(first|apply Kd.N_alloc|apply N_drewN|apply Kd.N_drew));exact HO_7.out)) k_ hn_)),Or.elim hk_ (fun hs_=>fun e_=>Nat.not_le.2 hs_ (R_base HO_12.out k_ e_.symm)) (fun hn_=>(Kd.fresh' (R_lt (kdA HO_12.out)) k_ hn_)),Or.elim hk_ (fun hs_=>fun e_=>Nat.not_le.2 hs_ zam) (fun hn_=>(Kd.freshB (g:=I) (o:= .cells #[.int .i64 U,.int .i64 X,.slice ab L.length ac] 24 (0,0)) (bkA D.out) k_ hn_))⟩)) (below_size (hbA HB.out)));replace HO_7:=aK (N_below (by(with_reducible repeat(first|apply Kd.N_alloc|apply N_drewN|apply Kd.N_drew));exact HO_7.out) hb);replace HO_12:=kdB HO_12 hb;replace D:=bkB D hb;replace HB:=hbB HB hb;(try clear hb);(try clear ae);obtain⟨ax,a3,b3⟩:=Kd.N_slice HO_7.out;subst b3;obtain⟨bp,bu,b4⟩:=V_slice an.out;subst b4)|((with_reducible refine gC 84 rfl ?_);refine cG (some 35) Tryd.func84 #[.slice ax O.length a3,.slice bp a8.length bu] ?_;(with_reducible refine(local_basis_left.calls k1 _ _ O (fun k_=>(some k_≠(.slice ax O.length a3:Value).ownBlock/\(some k_≠(.slice ay G.length af:Value).ownBlock/\k_≠I))) _ _ a8 a9 _ ?side1 ?side2 ?side3 cu.out).mono ?_);(case side1=>repeat(first|exact(N_reads' HO_7.out).2.2|(with_reducible refine Kd.C_alloc ?_ _)|(with_reducible refine Kd.C_drewN ?_ _)|(with_reducible refine Kd.C_drew ?_)));(case side2=>exact(N_reads' HO_7.out).2.1);(case side3=>exact an.out);rintro e dg ⟨c6,rfl,ae,hb⟩;refine⟨_,rfl,?_⟩;replace an:=aK (V_below (by(with_reducible repeat(first|apply Kd.V_alloc|apply V_drewN|apply V_drew));exact an.out) hb);have ar:=aK (V_lower (V_mono (ok':=fun k_=>some k_≠(.slice ax O.length a3:Value).ownBlock/\some k_≠(.slice ay G.length af:Value).ownBlock/\k_≠I) ae (fun k_ hk_=>⟨Or.elim hk_ (fun hs_=>hs_.1) (fun hn_=>(Kd.fresh' (N_lt (by(with_reducible repeat(first|apply Kd.N_alloc|apply N_drewN|apply Kd.N_drew));exact HO_7.out)) k_ hn_)),Or.elim hk_ (fun hs_=>hs_.2.1) (fun hn_=>(Kd.fresh' (R_lt (kdA HO_12.out)) k_ hn_)),Or.elim hk_ (fun hs_=>hs_.2.2) (fun hn_=>(Kd.freshB (g:=I) (o:= .cells #[.int .i64 U,.int .i64 X,.slice ab L.length ac] 24 (0,0)) (bkA D.out) k_ hn_))⟩)) (below_size (hbA HB.out)));replace HO_7:=aK (N_below (by(with_reducible repeat(first|apply Kd.N_alloc|apply N_drewN|apply Kd.N_drew));exact HO_7.out) hb);replace HO_12:=kdB HO_12 hb;replace D:=bkB D hb;replace HB:=hbB HB hb;(try clear hb);(try clear ae);obtain⟨bq,bv,b5⟩:=V_slice ar.out;subst b5)|((with_reducible refine gC 85 rfl ?_);refine cG (some 36) Tryd.func85 #[.slice bq a9.length bv] ?_;(with_reducible refine(local_lead.calls k1 _ _ a9 cp _ ?side1 ?side2 cv.out).mono ?_);(case side1=>repeat(first|exact(V_reads' ar.out).2.2|(with_reducible refine Kd.C_alloc ?_ _)|(with_reducible refine Kd.C_drewN ?_ _)|(with_reducible refine Kd.C_drew ?_)));(case side2=>exact(V_reads' ar.out).2.1);rintro e w' ⟨rfl,⟨nd,rfl⟩⟩;refine⟨_,rfl,?_⟩))
    go_ret
    exact⟨rfE,hbA HB.out⟩
   rw[if_pos c8]at H
   have c8b0:decide (J<(G.length:Int))=true:=decide_eq_true c8;clear c8;by_cases c9:0<=J
   case neg=>rw[if_neg c9]at H;exact absurd H zd
   rw[if_pos c9]at H
   have c9b0:decide (0<=J)=true:=decide_eq_true c9;clear c9;by_cases bb:J<(G.length:Int)
   case neg=>rw[if_neg bb]at H;exact absurd H zd
   rw[if_pos bb]at H
   have c10b0:decide (J<(G.length:Int))=true:=decide_eq_true bb;clear bb;obtain⟨am,bj,H⟩:=bindO H
   (try dsimp only at H)
   obtain⟨ag,bk,H⟩:=bindO H
   (try dsimp only at H)
   obtain⟨ao,bl,H⟩:=bindO H
   (try dsimp only at H)
   by_cases av:ao>=0
   case neg=>
    rw[if_neg av]at H
    have c14b0:decide (0<=ao)=false:=decide_eq_false av;clear av;have H':=aK H;clear H;have ak:0<=(J:Int):=of_decide_eq_true asE;have al:J<(G.length:Int):=of_decide_eq_true asE;obtain⟨Y,a4,a7⟩:=Kd.at_int (R_reads' HO_12.out).2.2 J ak al
    cases a4
    replace ak:=eq_true ak;replace al:=eq_true al;obtain⟨b9,ca,cb,cj,ck,cl⟩:=cell3 D
    go_wp2_with (first|((with_reducible refine gC 37 rfl ?_);refine cG (some 21) Tryd.func37 #[.agg #[.int .i64 U,.int .i64 X,.slice ab L.length ac],.int .i64 (rd G J)] ?_;(with_reducible refine(local_row.calls U X (fun k_=>k_<w.heap.size) _ _ L (rd G J) am _ ?side1 bj.out).mono ?_);(case side1=>exact V_mk aq.out (F_below (C_F (Kd.heap_int .u8) au.out) (hbA HB.out)));rintro e dd ⟨cq,rfl,ae,hb⟩;refine⟨_,rfl,?_⟩;have Z:=aK (V_lower (V_mono (ok':=fun k_=>some k_≠(u7:Value).ownBlock/\some k_≠(.slice (some Y) G.length af:Value).ownBlock/\k_≠I) ae (fun k_ hk_=>⟨Or.elim hk_ (fun hs_=>fun e_=>Nat.not_le.2 hs_ (Kd.N_base HO_7.out k_ e_.symm)) (fun hn_=>(Kd.fresh' (N_lt (by(with_reducible repeat(first|apply Kd.N_alloc|apply N_drewN|apply Kd.N_drew));exact HO_7.out)) k_ hn_)),Or.elim hk_ (fun hs_=>fun e_=>Nat.not_le.2 hs_ (R_base HO_12.out k_ e_.symm)) (fun hn_=>(Kd.fresh' (R_lt (kdA HO_12.out)) k_ hn_)),Or.elim hk_ (fun hs_=>fun e_=>Nat.not_le.2 hs_ zam) (fun hn_=>(Kd.freshB (g:=I) (o:= .cells #[.int .i64 U,.int .i64 X,.slice ab L.length ac] 24 (0,0)) (bkA D.out) k_ hn_))⟩)) (below_size (hbA HB.out)));replace HO_7:=aK (N_below (by(with_reducible repeat(first|apply Kd.N_alloc|apply N_drewN|apply Kd.N_drew));exact HO_7.out) hb);replace HO_12:=kdB HO_12 hb;replace D:=bkB D hb;replace HB:=hbB HB hb;(try clear hb);(try clear ae);obtain⟨aw,a0,b0⟩:=Kd.N_slice HO_7.out;subst b0;obtain⟨bn,bs,b1⟩:=V_slice Z.out;subst b1)|((with_reducible refine gC 84 rfl ?_);refine cG (some 22) Tryd.func84 #[.slice aw O.length a0,.slice bn am.length bs] ?_;(with_reducible refine(local_basis_left.calls k1 _ _ O (fun k_=>(some k_≠(.slice aw O.length a0:Value).ownBlock/\(some k_≠(.slice (some Y) G.length af:Value).ownBlock/\k_≠I))) _ _ am ag _ ?side1 ?side2 ?side3 bk.out).mono ?_);(case side1=>repeat(first|exact(N_reads' HO_7.out).2.2|(with_reducible refine Kd.C_alloc ?_ _)|(with_reducible refine Kd.C_drewN ?_ _)|(with_reducible refine Kd.C_drew ?_)));(case side2=>exact(N_reads' HO_7.out).2.1);(case side3=>exact Z.out);rintro e de ⟨cr,rfl,ae,hb⟩;refine⟨_,rfl,?_⟩;replace Z:=aK (V_below (by(with_reducible repeat(first|apply Kd.V_alloc|apply V_drewN|apply V_drew));exact Z.out) hb);have aa:=aK (V_lower (V_mono (ok':=fun k_=>some k_≠(.slice aw O.length a0:Value).ownBlock/\some k_≠(.slice (some Y) G.length af:Value).ownBlock/\k_≠I) ae (fun k_ hk_=>⟨Or.elim hk_ (fun hs_=>hs_.1) (fun hn_=>(Kd.fresh' (N_lt (by(with_reducible repeat(first|apply Kd.N_alloc|apply N_drewN|apply Kd.N_drew));exact HO_7.out)) k_ hn_)),Or.elim hk_ (fun hs_=>hs_.2.1) (fun hn_=>(Kd.fresh' (R_lt (kdA HO_12.out)) k_ hn_)),Or.elim hk_ (fun hs_=>hs_.2.2) (fun hn_=>(Kd.freshB (g:=I) (o:= .cells #[.int .i64 U,.int .i64 X,.slice ab L.length ac] 24 (0,0)) (bkA D.out) k_ hn_))⟩)) (below_size (hbA HB.out)));replace HO_7:=aK (N_below (by(with_reducible repeat(first|apply Kd.N_alloc|apply N_drewN|apply Kd.N_drew));exact HO_7.out) hb);replace HO_12:=kdB HO_12 hb;replace D:=bkB D hb;replace HB:=hbB HB hb;(try clear hb);(try clear ae);obtain⟨bo,bt,b2⟩:=V_slice aa.out;subst b2)|((with_reducible refine gC 85 rfl ?_);refine cG (some 24) Tryd.func85 #[.slice bo ag.length bt] ?_;(with_reducible refine(local_lead.calls k1 _ _ ag ao _ ?side1 ?side2 bl.out).mono ?_);(case side1=>repeat(first|exact(V_reads' aa.out).2.2|(with_reducible refine Kd.C_alloc ?_ _)|(with_reducible refine Kd.C_drewN ?_ _)|(with_reducible refine Kd.C_drew ?_)));(case side2=>exact(V_reads' aa.out).2.1);rintro e w' ⟨rfl,⟨nd,rfl⟩⟩;refine⟨_,rfl,?_⟩))
    go_roundg k1
    case measure=>have:=ba.out;omega
    case rel=>exact⟨(O),(wrap64 (J+1)),rsE,H',⟨by have:=ba.out;omega⟩,⟨by(with_reducible repeat(first|apply Kd.N_alloc|apply N_drewN|apply Kd.N_drew));exact HO_7.out⟩,⟨kdA HO_12.out⟩,⟨bkA D.out⟩,⟨hbA HB.out⟩⟩
   rw[if_pos av]at H
   have c14b0:decide (0<=ao)=true:=decide_eq_true av;clear av;by_cases bc:O.length<5864062014805
   case neg=>rw[if_neg bc]at H;exact absurd H zd
   rw[if_pos bc]at H
   have bh:=aK bc;clear bc;obtain⟨bf,aj⟩: ∃y_:List (List Int),y_=(O++ [ag]):=⟨_,rfl⟩
   replace H:(local_repairs.l0 k1 a1 bf G (G.length:Int) (wrap64 (J+1)) U X L)=some r:=zH aj H
   have bi:=aK aj;clear aj;have H':=aK H;clear H;have ak:0<=(J:Int):=of_decide_eq_true asE;have al:J<(G.length:Int):=of_decide_eq_true asE;obtain⟨Y,a4,a7⟩:=Kd.at_int (R_reads' HO_12.out).2.2 J ak al
   cases a4
   replace ak:=eq_true ak;replace al:=eq_true al;obtain⟨b6,b7,b8,cg,ch,ci⟩:=cell3 D
   go_wp2_with (first|((with_reducible refine gC 37 rfl ?_);refine cG (some 21) Tryd.func37 #[.agg #[.int .i64 U,.int .i64 X,.slice ab L.length ac],.int .i64 (rd G J)] ?_;(with_reducible refine(local_row.calls U X (fun k_=>k_<w.heap.size) _ _ L (rd G J) am _ ?side1 bj.out).mono ?_);(case side1=>exact V_mk aq.out (F_below (C_F (Kd.heap_int .u8) au.out) (hbA HB.out)));rintro e da ⟨cq,rfl,ae,hb⟩;refine⟨_,rfl,?_⟩;have Z:=aK (V_lower (V_mono (ok':=fun k_=>some k_≠(u7:Value).ownBlock/\some k_≠(.slice (some Y) G.length af:Value).ownBlock/\k_≠I) ae (fun k_ hk_=>⟨Or.elim hk_ (fun hs_=>fun e_=>Nat.not_le.2 hs_ (Kd.N_base HO_7.out k_ e_.symm)) (fun hn_=>(Kd.fresh' (N_lt (by(with_reducible repeat(first|apply Kd.N_alloc|apply N_drewN|apply Kd.N_drew));exact HO_7.out)) k_ hn_)),Or.elim hk_ (fun hs_=>fun e_=>Nat.not_le.2 hs_ (R_base HO_12.out k_ e_.symm)) (fun hn_=>(Kd.fresh' (R_lt (kdA HO_12.out)) k_ hn_)),Or.elim hk_ (fun hs_=>fun e_=>Nat.not_le.2 hs_ zam) (fun hn_=>(Kd.freshB (g:=I) (o:= .cells #[.int .i64 U,.int .i64 X,.slice ab L.length ac] 24 (0,0)) (bkA D.out) k_ hn_))⟩)) (below_size (hbA HB.out)));replace HO_7:=aK (N_below (by(with_reducible repeat(first|apply Kd.N_alloc|apply N_drewN|apply Kd.N_drew));exact HO_7.out) hb);replace HO_12:=kdB HO_12 hb;replace D:=bkB D hb;replace HB:=hbB HB hb;(try clear hb);(try clear ae);obtain⟨ah,ai,bw⟩:=Kd.N_slice HO_7.out;subst bw;obtain⟨bm,br,bx⟩:=V_slice Z.out;subst bx)|((with_reducible refine gC 84 rfl ?_);refine cG (some 22) Tryd.func84 #[.slice ah O.length ai,.slice bm am.length br] ?_;(with_reducible refine(local_basis_left.calls k1 _ _ O (fun k_=>(some k_≠(.slice ah O.length ai:Value).ownBlock/\(some k_≠(.slice (some Y) G.length af:Value).ownBlock/\k_≠I))) _ _ am ag _ ?side1 ?side2 ?side3 bk.out).mono ?_);(case side1=>repeat(first|exact(N_reads' HO_7.out).2.2|(with_reducible refine Kd.C_alloc ?_ _)|(with_reducible refine Kd.C_drewN ?_ _)|(with_reducible refine Kd.C_drew ?_)));(case side2=>exact(N_reads' HO_7.out).2.1);(case side3=>exact Z.out);rintro e db ⟨cr,rfl,ae,hb⟩;refine⟨_,rfl,?_⟩;replace Z:=aK (V_below (by(with_reducible repeat(first|apply Kd.V_alloc|apply V_drewN|apply V_drew));exact Z.out) hb);have aa:=aK (V_lower (V_mono (ok':=fun k_=>some k_≠(.slice ah O.length ai:Value).ownBlock/\some k_≠(.slice (some Y) G.length af:Value).ownBlock/\k_≠I) ae (fun k_ hk_=>⟨Or.elim hk_ (fun hs_=>hs_.1) (fun hn_=>(Kd.fresh' (N_lt (by(with_reducible repeat(first|apply Kd.N_alloc|apply N_drewN|apply Kd.N_drew));exact HO_7.out)) k_ hn_)),Or.elim hk_ (fun hs_=>hs_.2.1) (fun hn_=>(Kd.fresh' (R_lt (kdA HO_12.out)) k_ hn_)),Or.elim hk_ (fun hs_=>hs_.2.2) (fun hn_=>(Kd.freshB (g:=I) (o:= .cells #[.int .i64 U,.int .i64 X,.slice ab L.length ac] 24 (0,0)) (bkA D.out) k_ hn_))⟩)) (below_size (hbA HB.out)));replace HO_7:=aK (N_below (by(with_reducible repeat(first|apply Kd.N_alloc|apply N_drewN|apply Kd.N_drew));exact HO_7.out) hb);replace HO_12:=kdB HO_12 hb;replace D:=bkB D hb;replace HB:=hbB HB hb;(try clear hb);(try clear ae);obtain⟨bd,be,bz⟩:=V_slice aa.out;subst bz)|((with_reducible refine gC 85 rfl ?_);refine cG (some 24) Tryd.func85 #[.slice bd ag.length be] ?_;(with_reducible refine(local_lead.calls k1 _ _ ag ao _ ?side1 ?side2 bl.out).mono ?_);(case side1=>repeat(first|exact(V_reads' aa.out).2.2|(with_reducible refine Kd.C_alloc ?_ _)|(with_reducible refine Kd.C_drewN ?_ _)|(with_reducible refine Kd.C_drew ?_)));(case side2=>exact(V_reads' aa.out).2.1);rintro e w' ⟨rfl,⟨nd,rfl⟩⟩;refine⟨_,rfl,?_⟩)|((with_reducible refine gate_builtin (b:= .append) (xs:= #[.tmp 26,.tmp 28]) rfl ?_);at_builtin;refine Kd.N_append (Kd.slice 5 (Kd.int .u8)) (w0:=w) w.heap.size rfl (.tmp 26) (.tmp 28) 115 22 (.slice none 0 0) 24 rfl Tryd.underlying115 info22 rfl zb za (.slice ah O.length ai) O ag [.slice bd ag.length be] (fun k_=>some k_≠(.slice (some Y) G.length af:Value).ownBlock/\k_≠I) (fun k_=>((fun k_=>some k_≠(.slice (some Y) G.length af:Value).ownBlock/\k_≠I)) k_/\some k_≠(.slice ah O.length ai:Value).ownBlock) rfl rfl ?aP (fun _ hk=>hk) ?aF ?aO ?aB ?aS ?aL ?_;(case aP=>exact(Kd.FK_slice_mk (V_reads' (V_mono (ok':=(fun k_=>((fun k_=>some k_≠(.slice (some Y) G.length af:Value).ownBlock/\k_≠I)) k_/\some k_≠(.slice ah O.length ai:Value).ownBlock)) (aa.out) (fun k_ hk=>⟨⟨hk.2.1,hk.2.2⟩,hk.1⟩))).2.1 (Kd.V_F (V_mono (ok':=(fun k_=>((fun k_=>some k_≠(.slice (some Y) G.length af:Value).ownBlock/\k_≠I)) k_/\some k_≠(.slice ah O.length ai:Value).ownBlock)) (V_drewN (aa.out) _) (fun k_ hk=>⟨⟨hk.2.1,hk.2.2⟩,hk.1⟩)))));(case aB=>exact(hbA HB.out));(case aF=>exact(fun k_ hk=>⟨Kd.fresh' (R_lt (kdA HO_12.out)) k_ hk,Kd.freshB (g:=I) (o:= .cells #[.int .i64 U,.int .i64 X,.slice ab L.length ac] 24 (0,0)) (bkA D.out) k_ hk⟩));(case aO=>exact(by(with_reducible repeat(first|apply Kd.N_alloc|apply N_drewN|apply Kd.N_drew));exact HO_7.out));(case aS=>exact(below_size (hbA HB.out)));(case aL=>have:=bh.out;omega);intro c7 dc ho hb hg hat;rw[<-bi.out]at ho;have n0_:=aK (Kd.R_over' (kdA HO_12.out) (Kd.N_typed (by(with_reducible repeat(first|apply Kd.N_alloc|apply N_drewN|apply Kd.N_drew));exact HO_7.out)) zb hg);have n1_:=aK (blk_grown (g:=I) (o:= .cells #[.int .i64 U,.int .i64 X,.slice ab L.length ac] 24 (0,0)) (bkA D.out) hg (Kd.N_ne HO_7.out D.out zb));have n2_:=aK (Kd.V_afterv (ok:=(fun k_=>some k_≠(.slice (some Y) G.length af:Value).ownBlock/\k_≠I)) (by(with_reducible repeat(first|apply Kd.V_alloc|apply V_drewN|apply V_drew));exact V_mono Z.out (fun _ hk=>⟨⟨hk.2.1,hk.2.2⟩,hk.1⟩)) hg hat);have n3_:=aK (Kd.V_afterv (ok:=(fun k_=>some k_≠(.slice (some Y) G.length af:Value).ownBlock/\k_≠I)) (by(with_reducible repeat(first|apply Kd.V_alloc|apply V_drewN|apply V_drew));exact V_mono aa.out (fun _ hk=>⟨⟨hk.2.1,hk.2.2⟩,hk.1⟩)) hg hat);have n4_:=aK (hb);have n5_:=aK (ho);clear HO_12;clear D;clear Z;clear aa;clear HB;clear HO_7;have HO_12:=n0_;have D:=n1_;have Z:=n2_;have aa:=n3_;have HB:=n4_;have bg:=n5_;clear n0_ n1_ n2_ n3_ n4_ n5_;clear ho hb hg hat))
   go_roundg k1
   case measure=>have:=ba.out;omega
   case rel=>exact⟨(bf),(wrap64 (J+1)),rsE,H',⟨by have:=ba.out;omega⟩,⟨by(with_reducible repeat(first|apply Kd.N_alloc|apply N_drewN|apply Kd.N_drew));exact bg.out⟩,⟨kdA HO_12.out⟩,⟨bkA D.out⟩,⟨hbA HB.out⟩⟩
def subset_Next.down(l:List Int)(n:Int):Nat->Option Nat
 |0=>none
 |i+1=>if l.getD i 0<n-(l.length:Int)+(i:Int)then some i else subset_Next.down l n i
def subset_Next.fill:Nat->Int->Int->Int
 |0,out,_=>out
 |c+1,out,x=>subset_Next.fill c (Go.bits .or .u64 out (shl .u64 1 x)) (x+1)
def subset_Next.okB(n:Int)(l:List Int):Bool:=decide (0<=n)&&decide (n<=64)&&decide (l.length<=64)&&l.all fun x=>decide (0<=x)&&decide (x<64)
def subset_Next.tail(s:Int)(l:List Int):Option Nat->Option (Int×Bool)
 |none=>some (0,false)
 |some i=>(subset_low.f (l.getD i 0)).bind fun b=>some (subset_Next.fill (l.length-i) (Go.bits .and .u64 s b) (l.getD i 0+1),true)
def subset_Next.behind(n s:Int)(l:List Int):Option (Int×Bool):=
 if subset_Next.okB n l=true then subset_Next.tail s l (subset_Next.down l n l.length)else none
def subset_Next.f(k:Nat)(n s:Int):Option (Int×Bool):=
 (subset_may.f n).bind fun t=>if t=true then((subset_low.f n).bind fun b=>if Go.bits .andNot .u64 s b=0 then((subset_List.f k s).bind fun l=>subset_Next.behind n s l)else some (0,false))else some (0,false)
theorem subset_Next.mono: ∀a0 a1 k,LeO (subset_Next.f k a0 a1) (subset_Next.f (k+1) a0 a1):=by
 intro a0 a1 k;unfold subset_Next.f
 with_reducible repeat' first|exact subset_List.mono _ _|exact LeO.refl _|refine LeO.ite ?_ ?_|refine LeO.bind ?_ (fun _=>?_)
theorem subset_Next.okB_spec{n:Int}{l:List Int}(h:subset_Next.okB n l=true):0<=n/\n<=64/\l.length<=64/\ ∀i,i<l.length->0<=l.getD i 0/\l.getD i 0<64:=by
 unfold subset_Next.okB at h;simp only[Bool.and_eq_true,decide_eq_true_eq,List.all_eq_true]at h;obtain⟨⟨⟨h1,h2⟩,h3⟩,h4⟩:=h;refine⟨h1,h2,h3,fun i hi=>?_⟩;have:=h4 (l[i]) (List.getElem_mem hi);rw[List.getD_eq_getElem?_getD,List.getElem?_eq_getElem hi];exact this
def subset_Next.J(a0 a1:Int)(l:List Int)(w:World)(a':Act)(w':World):Prop:=
 ∃(j:Nat) (ad:Addr) (cp:Nat) (u2 u3 u4 u5 u9 u10 u11 u12 u13 u14 u15 u16 u17 u18 u19 u20 u21 u22 u23 u24 u25 u26 u27 u28 u29 u30 u31 u32 u33 u34 u35 u36 u37 u38 u39 u40 u41 u42 u43 u44 u45 u46 u47 u48 u49 u50 u51 u52 u53 u54 u55 u56 u57 u58 u59 u60 u61 u62 u63 u64:Value),a'= { tmps:= #[.int .i64 a0,.int .u64 a1,u2,u3,u4,u5,.slice (some ad) l.length cp,.int .i64 l.length,.int .i64 (j:Int),u9,u10,u11,u12,u13,u14,u15,u16,u17,u18,u19,u20,u21,u22,u23,u24,u25,u26,u27,u28,u29,u30,u31,u32,u33,u34,u35,u36,u37,u38,u39,u40,u41,u42,u43,u44,u45,u46,u47,u48,u49,u50,u51,u52,u53,u54,u55,u56,u57,u58,u59,u60,u61,u62,u63,u64],defers:= [] } /\j<l.length/\subset_Next.down l a0 l.length=some j/\Kd.C (Kd.int .i64) w' (some ad) l.length l/\Below w.heap.size w w'
theorem subset_Next.calls(k:Nat)(a0 a1:Int)(r1:Int)(r2:Bool)(w:World)(h:subset_Next.f k a0 a1=some (r1,r2))(hT:TabAt 0 Lib.deBruijn64tab w):
 Calls Tryd.prog 98 #[.int .i64 a0,.int .u64 a1] w fun e w'=>e= .returned (.tuple #[.int .u64 r1,.bool r2])/\Below w.heap.size w w':=by
 have HB:=aK (Below.refl w.heap.size w);have HT:=aK hT;clear hT;obtain⟨t,hm,h⟩:=Option.bind_eq_some_iff.mp h
 cases t with
 |false=>
  simp only[Bool.false_eq_true,if_false,Option.some.injEq,Prod.mk.injEq]at h;obtain⟨rfl,rfl⟩:=h;have HM:=aK hm;clear hm
  go_enter Tryd.func98,Tryd.ntmps98
  go_wp2
  go_step3
  go_wp2_with (go_at_call 80;refine(subset_may.calls a0 false _ HM.out).mono ?_;rintro e w' ⟨rfl,⟨nd,rfl⟩⟩)
  rw[Exit.noGoto_ret]
  go_ret2
  exact⟨rfl,pw_below_drewN HB.out _⟩
 |true=>
  simp only[if_true]at h;obtain⟨b,hb,h⟩:=Option.bind_eq_some_iff.mp h;have HM:=aK hm;have HL:=aK hb;clear hm hb;by_cases c:Go.bits .andNot .u64 a1 b=0
  case neg=>
   rw[if_neg c]at h
   have cb:(Go.bits .andNot .u64 a1 b !=0)=true:=bne_iff_ne.mpr c;clear c;obtain⟨rfl,rfl⟩:=Prod.mk.inj (Option.some.inj h);clear h
   go_enter Tryd.func98,Tryd.ntmps98
   go_wp2
   go_step3
   go_wp2_with (first|(go_at_call 80;refine(subset_may.calls a0 true _ HM.out).mono ?_;rintro e w' ⟨rfl,⟨nd,rfl⟩⟩)|(go_at_call 88;refine(subset_low.calls a0 b _ HL.out).mono ?_;rintro e w' ⟨rfl,⟨nd,rfl⟩⟩))
   rw[Exit.noGoto_ret]
   go_ret2
   exact⟨rfl,by repeat(first|exact HB.out|apply pw_below_drewN)⟩
  rw[if_pos c]at h
  have cb:(Go.bits .andNot .u64 a1 b !=0)=false:=bne_eq_false_iff_eq.mpr c;clear c;obtain⟨l,hl,h⟩:=Option.bind_eq_some_iff.mp h;have HQ:=aK hl;clear hl;unfold subset_Next.behind at h;by_cases ok:subset_Next.okB a0 l=true
  case neg=>
   rw[if_neg ok]at h
   cases h
  rw[if_pos ok]at h
  obtain⟨n0,n1,l1,lr⟩:=subset_Next.okB_spec ok;clear ok;have LR:=aK lr;have H:=aK h;clear h lr
  go_enter Tryd.func98,Tryd.ntmps98
  go_wp2;refine wp_scope_jumps 0 (subset_Next.J a0 a1 l w) (fun _ _=>0) rfl ?_ ?_
  ·skip
   go_wp2_with (first|(go_at_call 80;refine(subset_may.calls a0 true _ HM.out).mono ?_;rintro e w' ⟨rfl,⟨nd,rfl⟩⟩)|(go_at_call 88;refine(subset_low.calls a0 b _ HL.out).mono ?_;rintro e w' ⟨rfl,⟨nd,rfl⟩⟩)|(go_at_call 35;refine(subset_List.calls k a1 l _ HQ.out (tab_below HT.out za5)).mono ?_;rintro e w8 ⟨v0,rfl,I,hb⟩;obtain⟨A,cp,eo⟩:=R_slice I;subst eo;have HR:=aK (R_reads' I).2.2;have L:=aK (below_step za5 hb);clear HB;have HB:=L;clear L I hb))
   obtain⟨D,hD⟩: ∃D,D=subset_Next.down l a0 l.length:=⟨_,rfl⟩
   have H2:subset_Next.tail a1 l D=some (r1,r2):=by rw[hD];exact H.out
   clear H;have HD:=aK hD;have H:=aK H2;clear hD H2;have hlen:(l.length:Int)<=64:=by omega
   go_loop [8] (fun v=> ∃m:Nat,m<=l.length/\v= .int .i64 ((m:Int)-1)/\Aside0 (D=subset_Next.down l a0 m)) (fun v=>(intOf v+1).toNat)
   case atStart=>exact⟨l.length,Nat.le_refl _,rfl,HD⟩
   case round=>
    obtain⟨m,hml,rfl,HM'⟩:=hrel;have HDL:=HD;clear HD
    cases m with
    |zero=>
     have hd:D=none:=HM'.out;subst hd;obtain⟨rfl,rfl⟩:=Prod.mk.inj (Option.some.inj (show some ((0:Int),false)=some (r1,r2)from H.out));go_wp2;simp only[Exit.jump]
     go_ret2
     exact⟨rfl,HB.out⟩
    |succ j=>
     have e1:((j+1:Nat):Int)-1=(j:Int):=by omega
     rw[e1];clear e1;obtain⟨ad,ea,hx⟩:=Kd.at_int HR.out (j:Int) za za;subst ea;have hx':w8.cell? (ad.add j)=some (.int .i64 (l.getD j 0)):=hx;clear hx;obtain⟨x,ex⟩: ∃x:Int,x=l.getD j 0:=⟨_,rfl⟩
     rw[<-ex]at hx'
     have lrj:=LR.out j za;rw[<-ex]at lrj
     obtain⟨x0,x1⟩:=lrj;have EX:=aK ex;clear ex;by_cases ct:x<a0-(l.length:Int)+(j:Int)
     ·have hdl:subset_Next.down l a0 l.length=some j:=by
       rw[<-HDL.out,HM'.out];unfold subset_Next.down;rw[<-EX.out,if_pos ct]
      go_wp2_with fail
      go_step3
      exact⟨rfl,j,ad,cp,_,_,_,_,_,_,_,_,_,_,_,_,_,_,_,_,_,_,_,_,_,_,_,_,_,_,_,_,_,_,_,_,_,_,_,_,_,_,_,_,_,_,_,_,_,_,_,_,_,_,_,_,_,_,_,_,_,_,_,_,rfl,by omega,hdl,HR.out,HB.out⟩
     have hd:D=subset_Next.down l a0 j:=by
      rw[HM'.out]
      conv=>lhs;unfold subset_Next.down
      rw[<-EX.out,if_neg ct]
     have HD':=aK hd;clear hd;go_wp2
     go_round
     case rel=>exact⟨j,by omega,rfl,HD'⟩
     case measure=>simp[intOf]
  ·rintro a' w' ⟨j,ad,cp,u2,u3,u4,u5,u9,u10,u11,u12,u13,u14,u15,u16,u17,u18,u19,u20,u21,u22,u23,u24,u25,u26,u27,u28,u29,u30,u31,u32,u33,u34,u35,u36,u37,u38,u39,u40,u41,u42,u43,u44,u45,u46,u47,u48,u49,u50,u51,u52,u53,u54,u55,u56,u57,u58,u59,u60,u61,u62,u63,u64,rfl,hj,hd,hC,hB⟩;rw[hd]at H
   obtain⟨b2,G,h2⟩:=Option.bind_eq_some_iff.mp (show(subset_low.f (l.getD j 0)).bind (fun b=>some (subset_Next.fill (l.length-j) (Go.bits .and .u64 a1 b) (l.getD j 0+1),true))=some (r1,r2)from H.out);obtain⟨x0,x1⟩:=LR.out j hj;obtain⟨ad',ea,hx⟩:=Kd.at_int hC (j:Int) za za;obtain rfl:ad=ad':=by injection ea
   have hx':w'.cell? (ad.add j)=some (.int .i64 (l.getD j 0)):=hx;clear hx hC hd H ea;obtain⟨x,ex⟩: ∃x:Int,x=l.getD j 0:=⟨_,rfl⟩
   rw[<-ex]at hx' G h2 x0 x1
   obtain⟨O,Z⟩:=Prod.mk.inj (Option.some.inj h2);subst Z;have H2:=aK O;have Y:=aK G;have U:=aK hB;clear O h2 G hB HB ex;have hlen:(l.length:Int)<=64:=by omega
   go_wp2_with (first|(go_at_call 88;refine(subset_low.calls x b2 _ Y.out).mono ?_;rintro e w' ⟨rfl,⟨ae,rfl⟩⟩))
   go_loop [8,9,10] (fun v8 v9 aa=> ∃(i:Nat) (at_ out:Int),j<=i/\i<=l.length/\v8= .int .i64 i/\v9= .int .i64 at_/\aa= .int .u64 out/\0<=at_/\at_<=64+(i:Int)/\Aside0 (subset_Next.fill (l.length-i) out at_=r1)) (fun v _ _=>l.length-(intOf v).toNat)
   case atStart=>exact⟨j,_,_,Nat.le_refl _,by omega,rfl,rfl,rfl,by omega,by omega,H2⟩
   case round=>
    obtain⟨i,at_,out,hij,hil,rfl,rfl,rfl,ab,ac,HF⟩:=hrel;by_cases hlt:i<l.length
    case neg=>
     have hlt': ¬(i:Int)<(l.length:Int):=by omega
     have h3:=HF.out;rw[show l.length-i=0 from by omega]at h3
     obtain rfl:out=r1:=h3;go_wp2;simp only[Exit.jump]
     go_ret2
     exact⟨rfl,by repeat(first|exact U.out|apply pw_below_drewN)⟩
    have hlt':(i:Int)<(l.length:Int):=by omega
    obtain⟨sh,hsh⟩: ∃s_:Int,shl .u64 1 at_=s_:=⟨_,rfl⟩
    have hji3_:(IntKind.u64.wrap (1*2^min at_.toNat 64))=sh:=hsh;have hji3u:(IntKind.u64.wrap (2^min at_.toNat 64))=sh:=by have h_:=hji3_;rw[Int.one_mul]at h_;exact h_
    have X:Aside0 (subset_Next.fill (l.length-(i+1)) (Go.bits .or .u64 out sh) (at_+1)=r1):=by
     refine⟨?_⟩;have h3:=HF.out;rw[show l.length-i=(l.length-(i+1))+1 from by omega]at h3
     unfold subset_Next.fill at h3;rw[hsh]at h3
     exact h3
    clear hsh;go_wp2
    go_round
    case rel=>exact⟨i+1,_,_,by omega,by omega,by go_num,rfl,rfl,by omega,by omega,X⟩
    case measure=>simp[intOf];omega
structure Stays (B C m:Nat) (W W':World):Prop where
 size:W.heap.size<=W'.heap.size
 same: ∀k,C<=k->k<C+m->k<W.heap.size->W'.heap[k]? =W.heap[k]?
 objs: ∀(k:Nat) (o:Obj),B<=k->W.heap[k]? =some o->o.isCells=false->W'.heap[k]? =some o
theorem Stays.refl(B C m:Nat)(W:World):Stays B C m W W:=⟨Nat.le_refl _,fun _ _ _ _=>rfl,fun _ _ _ h _=>h⟩
theorem Stays.trans{B C m:Nat}{X Y Z:World}(h:Stays B C m X Y)(k:Stays B C m Y Z):Stays B C m X Z:=
 ⟨Nat.le_trans h.size k.size,fun i hB hm hi=>(k.same i hB hm (Nat.lt_of_lt_of_le hi h.size)).trans (h.same i hB hm hi),fun i o hB hi ho=>k.objs i o hB (h.objs i o hB hi ho) ho⟩
theorem Stays.le{B C m B' C' m':Nat}{W W':World}(h:Stays B C m W W')(hB:B<=B')(hC:m'=0∨(C<=C'/\C'+m'<=C+m)):Stays B' C' m' W W':=⟨h.size,fun k hk D=>h.same k za za,fun k o hk=>h.objs k o (Nat.le_trans hB hk)⟩
theorem Stays.put{B C m l:Nat}(W:World)(o:Obj)(h:l<B)(h2:l<C):Stays B C m W (W.putObj l o):=⟨by simp,fun k hB _ _=>World.putObj_heap_other za,fun k o' hB hk _=>(World.putObj_heap_other za).trans hk⟩
theorem Stays.set{B C m:Nat}(W:World)(p:Addr)(v:Value)(h:p.block<B)(h2:p.block<C):Stays B C m W (W.setCell p v):=
 ⟨by show W.heap.size<=(W.heap.modify _ _).size;rw[Array.size_modify];exact Nat.le_refl _,fun k hB _ _=>Below.heap_setCell W p v k za,fun k o hB hk _=>(Below.heap_setCell W p v k za).trans hk⟩
theorem Stays.any{B C m:Nat}{W W':World}(h:Below W.heap.size W W'):Stays B C m W W':=⟨h.size,fun k _ _ hk=>h.block k hk,fun k o _ hk _=>(h.block k (Array.getElem?_eq_some_iff.1 hk).1).trans hk⟩
theorem yield_any{m m':Nat}{P:Program}{l:Nat}{args:Array Value}{W:World}{R:Ending->World->Prop}(h:YieldAt Fence.wide m P l args W R):YieldAt Fence.wide m' P l args W R:=by
 obtain⟨fn,tmps,assign,body,hy,hR⟩:=h;exact⟨fn,tmps,assign,body,hy,hR.1,fun c cs _=>hR.2 c cs fun d hd=>by cases hd⟩
theorem lies_own{W W':World}{row:Option Nat}{B k:Nat}{o:Obj}(hg:W.grownBy W' row)(hr: ∀r,row=some r->B<=r/\ ∃o:Obj,W.heap[r]? =some o/\o.isCells=false)(hk:k<B)(h:W.heap[k]? =some o):W'.heap[k]? =some o:=
 (hg.block k (Array.getElem?_eq_some_iff.1 h).1 fun e=>by have:=(hr k e.symm).1;omega).trans h
def Tells{α:Type}(P:Program)(gf:Nat)(lb:Array Value)(encs:α->Array Value)(Kp:World->World->Prop)(m:Nat)(xs:List α)(w:World):Prop:=
 ∀(l:Nat) (J Jx:List α->World->Prop) (W:World),Below w.heap.size w W->OwnFrom W.heap.size J->OwnFrom W.heap.size Jx->
  (∀pre x V,W.heap.size+m<=V.heap.size->J pre V->pre++ [x] <+: xs->YieldAt Fence.wide 0 P l (encs x) V fun e V'=>
    (e= .returned (.bool true)/\J (pre++ [x]) V'/\Kp V V'/\Stays W.heap.size W.heap.size m V V')∨(e= .returned (.bool false)/\Jx (pre++ [x]) V'/\Stays W.heap.size W.heap.size m V V'))->
  J [] W->CallsIn Fence.wide 0 P gf (#[.func (.yield l) #[] #[]]++lb) W fun e W'=>(∃v,e= .returned v)/\(J xs W'∨ ∃pre,pre <+: xs/\Jx pre W')
def tellPost{α:Type}(B m:Nat)(Kp:World->World->Prop)(I:List α->World->Prop)(Ix:Code->List α->World->Prop)(pre:List α)(W:World):Exit->Act->World->Prop
 | .normal,_,W'=>Stays B (B+2) m W W'/\Kp W W'/\I pre W'
 | .ret,_,W'=>Stays B (B+2) m W W'/\Ix .ret pre W'
 | .exit id,_,W'=>Stays B (B+2) m W W'/\Ix (.exit id) pre W'
 | .goto _,_,_=>False
 | .panic _,_,_=>False
 | .outgrown,_,_=>False
theorem round_tells{α:Type}{P:Program}{assign body:Code}{rec:LoopState->Option Code->Loop}{encs:α->Array Value}{a₁:α->Act}{Kp:World->World->Prop}{B D m:Nat}{I:List α->World->Prop}{Ix:Code->List α->World->Prop}{pre:List α}{x:α}{V:World}
 (hrec: ∀st pe,(rec st pe).state=st/\(rec st pe).pending=pe/\(rec st pe).assign=assign/\(rec st pe).body=body/\(rec st pe).fn=(rec .ready none).fn/\(rec st pe).params=(rec .ready none).params/\(rec st pe).tmps=(rec .ready none).tmps/\rec st pe= { rec .ready none with state:=st,pending:=pe })
 (hps:(encs x).size=(rec .ready none).params.size) (hD:D=B) (hKt: ∀ {X Y Z:World},Kp X Y->Kp Y Z->Kp X Z) (hKb: ∀(W:World) (l:Nat) (o:Obj),B<=l->Kp W (W.putObj l o)) (hI:OwnFrom B I) (hIx: ∀c,OwnFrom B (Ix c))
 (hVs:B+2+m<=V.heap.size) (hi:I pre V) (hl:V.heap[B+1]? =some (.loop (rec .ready none))) (hd:V.heap[D]? =some (.deferred (some [])))
 (hassign: ∀K:Act->World->Prop,K (a₁ x) V->assign.wpIn (Fence.wide.inRound (B+1)) 9 P (Exit.then K (fun _ _ _=>False)) { tmps:=((rec .ready none).params.zip (encs x)).foldl (fun t (p,v)=>t.setIfInBounds p v) (rec .ready none).tmps,defers:= [] } V)
 (hbody: ∀W,B+2+m<=W.heap.size->I pre W->body.wpIn (Fence.wide.inRound (B+1)) 9 P (tellPost B m Kp I Ix (pre++ [x]) W) (a₁ x) W):
 YieldAt Fence.wide 0 P (B+1) (encs x) V fun e V'=>
  (e= .returned (.bool true)/\(I (pre++ [x]) V'/\V'.heap[B+1]? =some (.loop (rec .ready none))/\V'.heap[D]? =some (.deferred (some [])))/\Kp V V'/\Stays (B+2) (B+2) m V V')∨
  (e= .returned (.bool false)/\(∃c,Ix c (pre++ [x]) V'/\V'.heap[B+1]? =some (.loop (rec .done (some c)))/\V'.heap[D]? =some (.deferred (some [])))/\Stays (B+2) (B+2) m V V'):=by
 subst hD;have hy:=run_yield (P:=P) (args:=encs x) hl hps;rw[(hrec .ready none).2.2.1,(hrec .ready none).2.2.2.1]at hy
 refine yield_any (m:=9) ⟨_,_,_,_,hy,roundIn_of_wpIn trivial (hassign _ ⟨_,run_beginRound hl (hrec _ _).1,?_⟩)⟩;have hlt:=(Array.getElem?_eq_some_iff.1 hl).1;obtain⟨busy,hbusy⟩: ∃b:Loop,b= { rec .ready none with state:= .busy } :=⟨_,rfl⟩
 rw[<-hbusy];have h2l:(V.putObj (D+1) (.loop busy)).heap[D+1]? =some (.loop busy):=World.putObj_heap_same hlt;have h2d:(V.putObj (D+1) (.loop busy)).heap[D]? =some (.deferred (some [])):=(World.putObj_heap_other za).trans hd;have k2:=Stays.put (B:=D+2) (C:=D+2) (m:=m) V (.loop busy) (Nat.lt_succ_self (D+1)) (Nat.lt_succ_self (D+1));have q2:=hKb V (D+1) (.loop busy) (Nat.le_succ _);have i2:=hI.putObj (.loop busy) hi (Nat.le_succ _) hl rfl;refine wpIn_mono (hbody _ (by rw[World.putObj_size];exact hVs) i2) ?_
 have fin: ∀(jump:Option Code) (U:World),Stays D (D+2) m (V.putObj (D+1) (.loop busy)) U->
  ∃U',(Instr.endRound (D+1) jump).run P U= .ok (.bool jump.isNone) U'/\U'=U.putObj (D+1) (.loop (rec (if jump.isNone then .ready else .done) jump))/\U.heap[D+1]? =some (.loop busy)/\
   U'.heap[D+1]? =some (.loop (rec (if jump.isNone then .ready else .done) jump))/\U'.heap[D]? =some (.deferred (some [])):=fun jump U hU=>by
  have h3l:=hU.objs _ _ (Nat.le_succ _) h2l rfl;have h3d:=hU.objs _ _ (Nat.le_refl _) h2d rfl;have he:=run_endRound (P:=P) jump h3l;have eb:({ busy with state:=if jump.isNone then .ready else .done,pending:=jump } :Loop)=rec (if jump.isNone then .ready else .done) jump:=by
   rw[hbusy,(hrec (if jump.isNone then .ready else .done) jump).2.2.2.2.2.2.2]
  rw[eb]at he
  exact⟨_,he,rfl,h3l,World.putObj_heap_same (Array.getElem?_eq_some_iff.1 h3l).1,(World.putObj_heap_other za).trans h3d⟩
 rintro e a' U hp
 cases e with
 |normal=>
  obtain⟨hk,hb,hi'⟩:=hp;obtain⟨U',hr,rfl,h3,h4,h5⟩:=fin none U hk;have k4:=Stays.put (B:=D+2) (C:=D+2) (m:=m) U (.loop (rec .ready none)) (Nat.lt_succ_self (D+1)) (Nat.lt_succ_self (D+1));have q4:=hKb U (D+1) (.loop (rec .ready none)) (Nat.le_succ _);exact⟨_,_,hr,.inl ⟨rfl,⟨hI.putObj _ hi' (Nat.le_succ _) h3 rfl,h4,h5⟩,hKt (hKt q2 hb) q4,(k2.trans (hk.le za (.inr ⟨Nat.le_refl _,Nat.le_refl _⟩))).trans k4⟩⟩
 |ret=>
  obtain⟨hk,hi'⟩:=hp;obtain⟨U',hr,rfl,h3,h4,h5⟩:=fin (some .ret) U hk;exact⟨_,_,hr,.inr ⟨rfl,⟨.ret,(hIx _).putObj _ hi' (Nat.le_succ _) h3 rfl,h4,h5⟩,(k2.trans (hk.le za (.inr ⟨Nat.le_refl _,Nat.le_refl _⟩))).trans (Stays.put (B:=D+2) (C:=D+2) (m:=m) U _ (Nat.lt_succ_self (D+1)) (Nat.lt_succ_self (D+1)))⟩⟩
 |exit id=>
  obtain⟨hk,hi'⟩:=hp;obtain⟨U',hr,rfl,h3,h4,h5⟩:=fin (some (.exit id)) U hk;exact⟨_,_,hr,.inr ⟨rfl,⟨.exit id,(hIx _).putObj _ hi' (Nat.le_succ _) h3 rfl,h4,h5⟩,(k2.trans (hk.le za (.inr ⟨Nat.le_refl _,Nat.le_refl _⟩))).trans (Stays.put (B:=D+2) (C:=D+2) (m:=m) U _ (Nat.lt_succ_self (D+1)) (Nat.lt_succ_self (D+1)))⟩⟩
 |goto t=>exact hp.elim
 |panic c=>exact hp.elim
 |outgrown=>exact hp.elim
theorem rangeFunc_tells{α:Type}{P:Program}{gop:Operand}{ps:Array Tmp}{assign body:Code}{Q:Exit->Act->World->Prop}{a:Act}{w w0:World}{n gf m:Nat}{Kp:World->World->Prop}{lb:Array Value}{encs:α->Array Value}{xs:List α}
 (hg:a.eval gop= .func (.func gf) #[] lb) (eg: ∀args W,(callFunc gf args).run P W= .ok (.enter gf args) W) (ht:Tells P gf lb encs Kp m xs w0) (hKt: ∀ {X Y Z:World},Kp X Y->Kp Y Z->Kp X Z) (hKb: ∀(W:World) (l:Nat) (o:Obj),w.heap.size<=l->Kp W (W.putObj l o)) (G:Below w0.heap.size w0 w) (hps: ∀x,(encs x).size=ps.size)
 (I:List α->World->Prop) (Ix:Code->List α->World->Prop) (hI:OwnFrom w.heap.size I) (hIx: ∀c,OwnFrom w.heap.size (Ix c)) (h0:I [] w) (a₁:α->Act)
 (hassign: ∀(l:Nat) (x:α) (W:World) (K:Act->World->Prop),K (a₁ x) W->assign.wpIn (Fence.wide.inRound l) 9 P (Exit.then K (fun _ _ _=>False)) { tmps:=(ps.zip (encs x)).foldl (fun t (p,v)=>t.setIfInBounds p v) a.tmps,defers:= [] } W)
 (hbody: ∀(l:Nat) (pre:List α) (x:α) (W:World),w.heap.size<l->w.heap.size+2+m<=W.heap.size->I pre W->pre++ [x] <+: xs->body.wpIn (Fence.wide.inRound l) 9 P (tellPost w.heap.size m Kp I Ix (pre++ [x]) W) (a₁ x) W)
 (hdone: ∀(D:Nat) (W:World),w.heap.size<=D->I xs W->W.heap[D]? =some (.deferred (some []))->Q .normal { a with defers:= { target:= .collected D,args:= #[] } ::a.defers } W)
 (hstop: ∀(D:Nat) (c:Code) (pre:List α) (W:World),w.heap.size<=D->pre <+: xs->Ix c pre W->W.heap[D]? =some (.deferred (some []))->c.wpIn Fence.wide n P Q { a with defers:= { target:= .collected D,args:= #[] } ::a.defers } W):
 (Code.rangeFunc gop ps assign body).wpIn Fence.wide n P Q a w:=by
 refine wpIn_rangeFunc fun fn _=>?_;obtain⟨rec,hrec⟩: ∃rec:LoopState->Option Code->Loop,rec=fun st pe=> { state:=st,pending:=pe,fn,tmps:=a.tmps,params:=ps,assign,body,defers:=w.heap.size } :=⟨_,rfl⟩
 obtain⟨V,hV⟩: ∃V,V=(w.alloc (.deferred (some []))).alloc (.loop (rec .ready none)):=⟨_,rfl⟩
 have hs:V.heap.size=w.heap.size+2:=by rw[hV];simp
 have hl:V.heap[w.heap.size+1]? =some (.loop (rec .ready none)):=by
  rw[hV];have:=World.alloc_heap_new (w.alloc (.deferred (some []))) (.loop (rec .ready none))
  rwa [World.size_alloc]at this
 have hd:V.heap[w.heap.size]? =some (.deferred (some [])):=by
  rw[hV];exact(Below.heap_alloc _ _ _ zd).trans (World.alloc_heap_new w _)
 have hi:I [] V:=by rw[hV];exact hI.alloc _ (hI.alloc _ h0)
 have hb:Below w0.heap.size w0 V:=by
  rw[hV];exact G.trans (((Below.refl _ w).alloc G.size _).alloc (by have:=G.size;simp;omega) _)
 refine⟨w.heap.size+1,[{ target:= .collected w.heap.size,args:= #[] }],V,{ target:= .fn (.func gf) lb,args:= #[.func (.yield (w.heap.size+1)) #[] #[]] },V,gf,#[.func (.yield (w.heap.size+1)) #[] #[]]++lb,V,?_,?_,fun _ _=>trivial,?_,fun h=>(by cases h),?_⟩
 ·rw[hV,hrec];exact run_enterLoop_outer _ _ _ _ _
 ·simp only[resolve,hg];simp[go_sem]
 ·simp[invoke,go_sem,eg]
 refine callsIn_wide.2 ((callsIn_wide (n:=0)).1 (ht (w.heap.size+1)
  (fun pre W=>I pre W/\W.heap[w.heap.size+1]? =some (.loop (rec .ready none))/\W.heap[w.heap.size]? =some (.deferred (some [])))
  (fun pre W=> ∃c,Ix c pre W/\W.heap[w.heap.size+1]? =some (.loop (rec .done (some c)))/\W.heap[w.heap.size]? =some (.deferred (some []))) V hb
  (fun s A B row hs' hg' hr=>⟨hI s A B row hs'.1 hg' fun r e=>⟨by have:=(hr r e).1;omega,(hr r e).2⟩,lies_own hg' hr za hs'.2.1,lies_own hg' hr za hs'.2.2⟩)
  (fun s A B row hs' hg' hr=>by
    obtain⟨c,h1,h2,h3⟩:=hs';exact⟨c,hIx c s A B row h1 hg' fun r e=>⟨by have:=(hr r e).1;omega,(hr r e).2⟩,lies_own hg' hr za h2,lies_own hg' hr za h3⟩)
  (fun pre x W hWs hJ hpre=>by
    have:=round_tells (P:=P) (assign:=assign) (body:=body) (rec:=rec) (encs:=encs) (a₁:=a₁) (B:=w.heap.size) (D:=w.heap.size) (m:=m) (Kp:=Kp) (I:=I) (Ix:=Ix) (pre:=pre) (x:=x) (V:=W)
     (fun st pe=>by rw[hrec];exact⟨rfl,rfl,rfl,rfl,rfl,rfl,rfl,rfl⟩) (by rw[hrec];exact hps x) rfl hKt hKb hI hIx (by rw[hs]at hWs;exact hWs) hJ.1 hJ.2.1 hJ.2.2 (fun K hK=>by rw[hrec];exact hassign _ x W K hK) (fun U hU hIU=>hbody _ pre x U (Nat.lt_succ_self _) hU hIU hpre)
    rw[hs];exact this)
  ⟨hi,hl,hd⟩)) |>.mono ?_
 rintro e W ⟨⟨v,rfl⟩,(⟨h1,h2,h3⟩|⟨pre,hp,c,h1,h2,h3⟩)⟩
 ·have he:=run_endLoop (P:=P) h2 (by rw[hrec];simp);rw[hrec]at he
  exact⟨none,_,he,hdone _ _ (Nat.le_refl _) (hI.putObj _ h1 (Nat.le_succ _) h2 rfl) ((World.putObj_heap_other za).trans h3)⟩
 ·have he:=run_endLoop (P:=P) h2 (by rw[hrec];simp);rw[hrec]at he
  exact⟨some c,_,he,hstop _ c pre _ (Nat.le_refl _) hp ((hIx c).putObj _ h1 (Nat.le_succ _) h2 rfl) ((World.putObj_heap_other za).trans h3)⟩
attribute [local go_sem] Oper.semAt_some
theorem subset_All.calls(n k:Int)(w:World):
 Calls Tryd.prog 83 #[.int .i64 n,.int .i64 k] w fun e w'=>e= .returned (.func (.func 97) #[] #[.pointer (some ⟨w.heap.size,0,none⟩),.pointer (some ⟨w.heap.size+1,0,none⟩)])/\w'=(w.alloc (.cells #[.int .i64 n] 3)).alloc (.cells #[.int .i64 k] 3):=by
 go_enter Tryd.func83,Tryd.ntmps83
 go_wp2
 go_ret
 exact⟨rfl,rfl⟩
theorem subset_All.calls'(n k:Int)(w:World):
 Calls Tryd.prog 83 #[.int .i64 n,.int .i64 k] w fun e w'=>e= .returned (.func (.func 97) #[] #[.pointer (some ⟨w.heap.size,0,none⟩),.pointer (some ⟨w.heap.size+1,0,none⟩)])/\
  Boxed w' w.heap.size 3 (.int .i64 n)/\Boxed w' (w.heap.size+1) 3 (.int .i64 k)/\w'.heap.size=w.heap.size+2/\Below w.heap.size w w':=by
 refine(subset_All.calls n k w).mono ?_;rintro e w' ⟨rfl,rfl⟩;refine⟨rfl,(Boxed.new w 3 _).alloc _,?_,by simp,((Below.refl _ w).alloc (Nat.le_refl _) _).alloc zd _⟩;have:=Boxed.new (w.alloc (.cells #[.int .i64 n] 3)) 3 (.int .i64 k)
 rwa [World.size_alloc]at this
def chainN(n:Int):Int->List Int->Prop
 |_,[]=>False
 |s,x::rest=>x=s/\ ∃K t tb,subset_Next.f K n s=some (t,tb)/\(if tb=true then chainN n t rest else rest= [])
def goodN(n k:Int)(xs:List Int):Prop:=if 0<=n/\n<=64/\0<=k/\k<=n then∃s,subset_low.f k=some s/\chainN n s xs else xs= []
theorem next_same{K K':Nat}{n s:Int}{p q:Int×Bool}(h:subset_Next.f K n s=some p)(h':subset_Next.f K' n s=some q):p=q:=by
 have up: ∀(d K:Nat) (p:Int×Bool),subset_Next.f K n s=some p->subset_Next.f (K+d) n s=some p:=fun d=>by
  induction d with
  |zero=>exact fun K p h=>h
  |succ d ih=>exact fun K p h=>subset_Next.mono n s (K+d) p (ih K p h)
 have h1:=up K' K p h;have h2:=up K K' q h';rw[Nat.add_comm]at h2
 exact Option.some.inj (h1.symm.trans h2)
theorem chainN_unique{n:Int} : ∀ {r r':List Int} {s:Int},chainN n s r->chainN n s r'->r=r'
 | [],_,s,h,_=>absurd h (by simp[chainN])
 |_::_,[],s,_,h=>absurd h (by simp[chainN])
 |x::r,y::r',s,h,h'=>by
  unfold chainN at h h';obtain⟨rfl,K,t,tb,h1,h2⟩:=h;obtain⟨rfl,K',t',tb',h1',h2'⟩:=h';have e:=next_same h1 h1';injection e with e1 e2;subst e1 e2
  cases tb with
  |false=>simp only[Bool.false_eq_true,if_false]at h2 h2';rw[h2,h2']
  |true=>simp only[if_true]at h2 h2';rw[chainN_unique h2 h2']
theorem chainN_len(n:Int): ∃len:Int->Nat,∀s r,chainN n s r->len s=r.length:=by
 classical
 refine⟨fun s=>if h: ∃r,chainN n s r then(Classical.choose h).length else 0,fun s r hr=>?_⟩;have h: ∃r,chainN n s r:=⟨r,hr⟩
 simp only[dif_pos h];rw[chainN_unique (Classical.choose_spec h) hr]
theorem grown_of_below19{W W':World}(h:Below W.heap.size W W'):W.grownBy W' none:=⟨h.os,h.tape,h.output,h.size,fun k hk _=>h.block k hk⟩
theorem cell_as19{W W':World}{p:Addr}(h:W'.heap[p.block]? =W.heap[p.block]?):W'.cell? p=W.cell? p:=by simp[World.cell?,h]
theorem subset_All1.tells(bn bk:Nat)(n k:Int)(xs:List Int)(hg:goodN n k xs)(Kp:World->World->Prop)(w:World)(cn:w.cell? ⟨bn,0,none⟩=some (.int .i64 n))(ck:w.cell? ⟨bk,0,none⟩=some (.int .i64 k))(hT:TabAt 0 Lib.deBruijn64tab w)
 (hKn: ∀V V',Kp V V'->bn<V.heap.size->V'.heap[bn]? =V.heap[bn]?) (ah: ∀V V',Kp V V'->0<V.heap.size->V'.heap[0]? =V.heap[0]?) (X:0<w.heap.size):
 Tells Tryd.prog 97 #[.pointer (some ⟨bn,0,none⟩),.pointer (some ⟨bk,0,none⟩)] (fun x:Int=> #[.int .u64 x]) Kp 0 xs w:=by
 intro l J Jx W hW hJ _ hY h0;replace cn:=pw_cell_below hW cn;replace ck:=pw_cell_below hW ck;replace hT:=tab_below hT hW;have h0w:0<W.heap.size:=Nat.lt_of_lt_of_le X hW.size;have hbnW:bn<W.heap.size:=World.block_lt_of_cell? _ _ cn;clear hW X;refine callsIn_wide.2 ((callsIn_wide (n:=9)).1 ?_);refine callsIn_of_wp Tryd.func97 rfl trivial ?_ rfl;simp only[Tryd.ntmps97,List.size_toArray,List.length_cons,List.length_nil,Nat.reduceAdd,Nat.reduceSub,Array.replicate_succ,Array.replicate_zero,List.push_toArray,List.append_toArray,List.nil_append,List.cons_append];by_cases hh:0<=n/\n<=64/\0<=k/\k<=n
 case neg=>
  unfold goodN at hg;rw[if_neg hh]at hg
  subst hg;by_cases hm:0<=n/\n<=64
  case neg=>
   have hmay:subset_may.f n=some false:=by
    unfold subset_may.f;by_cases h:n>=0
    case neg=>rw[if_neg h]
    rw[if_pos h];simp;omega
   have HM:=aK hmay;clear hmay hh hm
   gi_wp2_with (refine⟨trivial,?_⟩;gi_at_call 80;refine(callsIn_wide.2 (subset_may.calls n false _ HM.out)).mono ?_;rintro e w1 ⟨rfl,⟨nd,rfl⟩⟩)
   refine bodyPost_ret (results_none rfl _ _ _) rfl ?_;exact⟨⟨_,rfl⟩,.inl (hJ _ _ _ none h0 (grown_of_below19 (pw_below_drewN (Below.refl _ _) _)) (fun r e=>by cases e))⟩
  have hmay:subset_may.f n=some true:=by unfold subset_may.f;rw[if_pos hm.1];simpa using hm.2
  have HM:=aK hmay;clear hmay;by_cases hk:k<0
  ·have c1:(decide (k<0))=true:=decide_eq_true hk;clear hh hm hk
   gi_wp2_with (refine⟨trivial,?_⟩;gi_at_call 80;refine(callsIn_wide.2 (subset_may.calls n true _ HM.out)).mono ?_;rintro e w1 ⟨rfl,⟨nd,rfl⟩⟩)
   refine bodyPost_ret (results_none rfl _ _ _) rfl ?_;exact⟨⟨_,rfl⟩,.inl (hJ _ _ _ none h0 (grown_of_below19 (pw_below_drewN (Below.refl _ _) _)) (fun r e=>by cases e))⟩
  have c1:(decide (k<0))=false:=decide_eq_false hk;have c2:(decide (k>n))=true:=decide_eq_true za;clear hh hm hk
  gi_wp2_with (refine⟨trivial,?_⟩;gi_at_call 80;refine(callsIn_wide.2 (subset_may.calls n true _ HM.out)).mono ?_;rintro e w1 ⟨rfl,⟨nd,rfl⟩⟩)
  refine bodyPost_ret (results_none rfl _ _ _) rfl ?_;exact⟨⟨_,rfl⟩,.inl (hJ _ _ _ none h0 (grown_of_below19 (pw_below_drewN (Below.refl _ _) _)) (fun r e=>by cases e))⟩
 unfold goodN at hg;rw[if_pos hh]at hg
 obtain⟨n0,n1,k0,k1⟩:=hh;obtain⟨s0,hlow,hch⟩:=hg;have HG:=aK hch;clear hch;have hmay:subset_may.f n=some true:=by unfold subset_may.f;rw[if_pos n0];simpa using n1
 have c1:(decide (k<0))=false:=decide_eq_false za;have c2:(decide (k>n))=false:=decide_eq_false za;have HM:=aK hmay;have HL:=aK hlow;clear hmay hlow
 gi_wp2_with (first|(refine⟨trivial,?_⟩;gi_at_call 80;refine(callsIn_wide.2 (subset_may.calls n true _ HM.out)).mono ?_;rintro e w1 ⟨rfl,⟨nd,rfl⟩⟩)|(refine⟨trivial,?_⟩;gi_at_call 88;refine(callsIn_wide.2 (subset_low.calls k _ _ HL.out)).mono ?_;rintro e w2 ⟨rfl,⟨G,rfl⟩⟩))
 have aa:=grown_of_below19 (W:=W) (W':=W.drewN (nd+G)) (pw_below_drewN (Below.refl _ _) _);have Y:=hJ _ _ _ none h0 aa (fun r e=>by cases e);have L:(W.drewN (nd+G)).cell? ⟨bn,0,none⟩=some (.int .i64 n):=by simpa using cn
 have hTn:TabAt 0 Lib.deBruijn64tab (W.drewN (nd+G)):=tab_below hT (pw_below_drewN (Below.refl _ _) _);have hsz:W.heap.size<=(W.drewN (nd+G)).heap.size:=by simp
 generalize W.drewN (nd+G)=W1 at*;clear cn ck hT h0 aa;obtain⟨len,hlen⟩:=chainN_len n
 gi_loopw [4,5] (fun p q wr=> ∃(pre rest:List Int) (s:Int) (b:Bool),p= .int .u64 s/\q= .bool b/\Aside0 (xs=pre++rest)/\Aside0 (if b then chainN n s rest else rest= [])/\Aside0 (J pre wr)/\Aside0 (TabAt 0 Lib.deBruijn64tab wr)/\W.heap.size<=wr.heap.size/\wr.cell? ⟨bn,0,none⟩=some (.int .i64 n))
  (fun p q _=>match q with| .bool true=>len (intOf p)+1|_=>0)
 case atStart=>
  exact⟨[],xs,s0,true,rfl,rfl,⟨rfl⟩,⟨HG.out⟩,⟨Y⟩,⟨hTn⟩,hsz,L⟩
 case round=>
  obtain⟨pre,rest,s,b,rfl,rfl,hx,hc,hJs,hTs,D,hcn⟩:=hrel;clear Y hTn hsz L
  cases b with
  |false=>
   gi_wp2
   refine⟨fun _ h=>(by cases h),?_⟩
   gi_wp2
   go_end0
   have hr:rest= []:=by simpa using hc.out
   exact⟨⟨_,rfl⟩,.inl (by rw[hx.out,hr,List.append_nil];exact hJs.out)⟩
  |true=>
   obtain⟨x,rest,rfl⟩: ∃x r,rest=x::r:=by
    cases rest with
    |nil=>exact absurd hc.out (by simp[chainN])
    |cons x r=>exact⟨x,r,rfl⟩
   have O:chainN n s (x::rest):=by simpa using hc.out
   have hlx:=hlen s (x::rest) O;unfold chainN at O;obtain⟨hxs,K,t,tb,hnx,hmt⟩:=O;subst hxs;clear hc;have hpre:pre++ [x] <+: xs:=⟨rest,by rw[hx.out];simp⟩
   obtain⟨fn,tmps,assign,body,hy,hR⟩:=yield_any (m':=8) (hY pre x wr D hJs.out hpre);have HNX:=aK hnx;have HMT:=aK hmt;have HLX:=aK hlx;have HPR:=aK hpre;clear hnx hmt hlx hpre
   gi_wp2
   refine hR.mono ?_;rintro e W3 (⟨rfl,af,ac,ai⟩|⟨rfl,Z,_⟩)
   ·have ab:W3.cell? ⟨bn,0,none⟩=some (.int .i64 n):=(cell_as19 (p:=⟨bn,0,none⟩) (hKn _ _ ac (Nat.lt_of_lt_of_le hbnW D))).trans hcn;have ae:W.heap.size<=W3.heap.size:=Nat.le_trans D ai.size;have U:TabAt 0 Lib.deBruijn64tab W3:=fun j hj=>(cell_as19 (p:=⟨0,j,none⟩) (ah _ _ ac (Nat.lt_of_lt_of_le h0w D))).trans (hTs.out j hj);clear hR hy
    gi_wp2_with (refine⟨trivial,?_⟩;gi_at_call 98;refine(callsIn_wide.2 (subset_Next.calls K n x t tb _ HNX.out U)).mono ?_;rintro e W4 ⟨rfl,I⟩)
    have ag:=hJ _ _ _ none af (grown_of_below19 I) (fun r e=>by cases e);refine⟨⟨pre++ [x],rest,t,tb,rfl,rfl,⟨by rw[hx.out];simp⟩,⟨?_⟩,⟨ag⟩,⟨tab_below U I⟩,Nat.le_trans ae I.size,pw_cell_below I ab⟩,?_⟩
    ·cases tb with
     |true=>simpa using HMT.out
     |false=>simpa using HMT.out
    ·cases tb with
     |true=>
      have e2:=hlen t rest (by simpa using HMT.out);simp[intOf,HLX.out,e2]
     |false=>simp
   ·gi_wp2
    go_end0
    exact⟨⟨_,rfl⟩,.inr ⟨pre++ [x],HPR.out,Z⟩⟩
attribute [local go_sem] Oper.semAt_some
theorem local_others.calls(a c:Int)(A:Option Addr)(n cp:Nat)(b size:Int)(w:World):
 Calls Tryd.prog 54 #[.agg #[.int .i64 a,.int .i64 c,.slice A n cp],.int .i64 b,.int .i64 size] w fun e w'=>
  e= .returned (.func (.func 82) #[] #[.pointer (some ⟨w.heap.size,0,none⟩),.pointer (some ⟨w.heap.size+2,0,none⟩),.pointer (some ⟨w.heap.size+1,0,none⟩)])/\
  w'.heap[w.heap.size]? =some (.cells #[.int .i64 a,.int .i64 c,.slice A n cp] 24 (0,0))/\Boxed w' (w.heap.size+1) 3 (.int .i64 b)/\Boxed w' (w.heap.size+2) 3 (.int .i64 size)/\w'.heap.size=w.heap.size+3/\Below w.heap.size w w':=by
 have D:=Tryd.underlying24;have H:Calls Tryd.prog 54 #[.agg #[.int .i64 a,.int .i64 c,.slice A n cp],.int .i64 b,.int .i64 size] w fun e w'=>
  e= .returned (.func (.func 82) #[] #[.pointer (some ⟨w.heap.size,0,none⟩),.pointer (some ⟨w.heap.size+2,0,none⟩),.pointer (some ⟨w.heap.size+1,0,none⟩)])/\
  w'=(((w.alloc (.cells #[.int .i64 a,.int .i64 c,.slice A n cp] 24)).alloc (.cells #[.int .i64 b] 3)).alloc (.cells #[.int .i64 size] 3)):=by
  go_enter Tryd.func54,Tryd.ntmps54
  go_wp2
  go_ret
  exact⟨rfl,rfl⟩
 refine H.mono ?_;rintro e w' ⟨rfl,rfl⟩;refine⟨rfl,(Below.heap_alloc _ _ _ zk).trans ((Below.heap_alloc _ _ _ zd).trans (World.alloc_heap_new w _)),?_,?_,by simp,(((Below.refl _ w).alloc (Nat.le_refl _) _).alloc zd _).alloc zk _⟩
 ·have:=Boxed.new (w.alloc (.cells #[.int .i64 a,.int .i64 c,.slice A n cp] 24)) 3 (.int .i64 b);rw[World.size_alloc]at this
  exact this.alloc _
 ·have:=Boxed.new ((w.alloc (.cells #[.int .i64 a,.int .i64 c,.slice A n cp] 24)).alloc (.cells #[.int .i64 b] 3)) 3 (.int .i64 size)
  rwa [World.size_alloc,World.size_alloc]at this
def oth(b x:Int):Int:=Go.bits .or .u64 (Go.bits .and .u64 x (IntKind.u64.wrap (IntKind.u64.wrap (2^min b.toNat 64)-1))) (IntKind.u64.wrap (Go.bits .andNot .u64 x (Go.bits .and .u64 x (IntKind.u64.wrap (IntKind.u64.wrap (2^min b.toNat 64)-1)))*2))
theorem local_others1.tells(bg bs bb:Nat)(a size b:Int)(xs:List Int)(hg:goodN (wrap64 (a-1)) size xs)(hb:0<=b)(Kp:World->World->Prop)(w:World)
 (cg:w.cell? ⟨bg,0,none⟩=some (.int .i64 a)) (cs:w.cell? ⟨bs,0,none⟩=some (.int .i64 size)) (cb:w.cell? ⟨bb,0,none⟩=some (.int .i64 b)) (hT:TabAt 0 Lib.deBruijn64tab w) (aj:0<w.heap.size)
 (hKt: ∀ {X Y Z:World},Kp X Y->Kp Y Z->Kp X Z) (hKo: ∀(W:World) (l:Nat) (o:Obj),w.heap.size<=l->Kp W (W.putObj l o)) (hKb: ∀V V',Kp V V'->bb<V.heap.size->V'.heap[bb]? =V.heap[bb]?) (al: ∀V V',Kp V V'->0<V.heap.size->V'.heap[0]? =V.heap[0]?):
 Tells Tryd.prog 82 #[.pointer (some ⟨bg,0,none⟩),.pointer (some ⟨bs,0,none⟩),.pointer (some ⟨bb,0,none⟩)] (fun y:Int=> #[.int .u64 y]) Kp 3 (xs.map (oth b)) w:=by
 intro l J Jx W hW hJ hJx hY h0;have an:=Tryd.underlying24;have hwW:=hW.size;replace cg:=pw_cell_below hW cg;replace cs:=pw_cell_below hW cs;replace cb:=pw_cell_below hW cb;replace hT:=tab_below hT hW;have h0W:0<W.heap.size:=Nat.lt_of_lt_of_le aj hwW;have YH:=aK hY;have HT:=aK hT;have HJ:=aK h0;have HG:=aK hg;clear hW hY hT h0 hg;have hWA:Below W.heap.size W (W.alloc (.cells #[.func (.yield l) #[] #[]] 100)):=(Below.refl _ W).alloc (Nat.le_refl _) _;have cgA:=pw_cell_below hWA cg;have csA:=pw_cell_below hWA cs;have cbA:=pw_cell_below hWA cb;have byA:=Boxed.new W 100 (.func (.yield l) #[] #[]);have hsA:(W.alloc (.cells #[.func (.yield l) #[] #[]] 100)).heap.size=W.heap.size+1:=by simp
 have HWA:=aK hWA;clear hWA cg cs cb;refine callsIn_wide.2 ((callsIn_wide (n:=9)).1 ?_);refine callsIn_of_wp_marks Tryd.func82 rfl trivial ?_ rfl;simp only[Tryd.ntmps82,List.size_toArray,List.length_cons,List.length_nil,Nat.reduceAdd,Nat.reduceSub,Array.replicate_succ,Array.replicate_zero,List.push_toArray,List.append_toArray,List.nil_append,List.cons_append]
 gi_wp2_with (refine⟨trivial,?_⟩;gi_at_call 83;refine(callsIn_wide.2 (subset_All.calls' _ _ _)).mono ?_;rintro e w2 ⟨rfl,hbn,hbk,ag,I⟩;have ai:=pw_cell_below I cbA;have ah:Boxed w2 W.heap.size 100 (.func (.yield l) #[] #[]):=(I.block _ byA.lt).trans byA)
 have aa:=hbn.cell;have O:=hbk.cell;rw[hsA]at aa O ag
 have ab:W.heap.size<=w2.heap.size:=by omega
 have ac:Below W.heap.size W w2:=HWA.out.trans (I.mono za);have ak:=hJ [] W w2 none HJ.out (grown_of_below19 ac) (fun r e=>by cases e);have HTW:=aK (tab_below HT.out ac);clear hbn hbk I ac HT byA cgA csA cbA HJ HWA;have hpm: ∀ {p q:List Int},p <+: q->p.map (oth b) <+: q.map (oth b):=fun⟨t,e⟩=>⟨t.map (oth b),by rw[<-e,List.map_append]⟩
 refine rangeFunc_tells (xs:=xs) (w0:=w2) (gf:=97) (lb:= #[.pointer (some ⟨W.heap.size+1,0,none⟩),.pointer (some ⟨W.heap.size+1+1,0,none⟩)]) (encs:=fun x:Int=> #[.int .u64 x])
  (Kp:=fun V V'=>Kp V V'/\ ∀k,W.heap.size<=k->k<w2.heap.size->k<V.heap.size->V'.heap[k]? =V.heap[k]?) (by simp[go_sem]) (enters_of Tryd.func97 zc rfl)
  (subset_All1.tells (W.heap.size+1) (W.heap.size+1+1) (wrap64 (a-1)) size xs HG.out _ w2 aa O HTW.out (fun V V' h hlt=>h.2 _ za za hlt) (fun V V' h hlt=>al _ _ h.1 hlt) za)
  (fun {X Y Z} h1 h2=>⟨hKt h1.1 h2.1,fun k a1 a2 a3=>by
    have e1:=h1.2 k a1 a2 a3;refine(h2.2 k a1 a2 ?_).trans e1;rw[Array.getElem?_eq_getElem a3]at e1
    exact(Array.getElem?_eq_some_iff.1 e1).1⟩)
  (fun U lo o hlo=>⟨hKo U lo o za,fun k a1 a2 a3=>World.putObj_heap_other za⟩) (Below.refl _ _) (fun _=>rfl)
  (fun pre V=>J (pre.map (oth b)) V/\Boxed V W.heap.size 100 (.func (.yield l) #[] #[])/\V.cell? ⟨bb,0,none⟩=some (.int .i64 b)/\w2.heap.size<=V.heap.size)
  (fun c pre V=>c= .ret/\Jx (pre.map (oth b)) V)
  ?own ?ownx ?start ?a1 ?assign ?body ?done ?stop
 case own=>
  rintro pre V V' row ⟨h1,h2,h3,h4⟩ hg hr;exact⟨hJ _ V V' row h1 hg (fun r e=>⟨by have:=(hr r e).1;omega,(hr r e).2⟩),boxed_own W.heap.size 100 (fun _:Unit=>_) () V V' row h2 hg (fun r e=>(hr r e).2),cell_kept h3 hg (fun r e=>(hr r e).2),Nat.le_trans h4 hg.size⟩
 case ownx=>
  rintro c pre V V' row ⟨h1,h2⟩ hg hr;exact⟨h1,hJx _ V V' row h2 hg (fun r e=>⟨by have:=(hr r e).1;omega,(hr r e).2⟩)⟩
 case start=>exact⟨ak,ah,ai,Nat.le_refl _⟩
 case assign=>
  intro lo x V K hK
  gi_wp2
  exact hK
 case body=>
  rintro lo pre x V hlo am ⟨hJV,hby,hcb,hszV⟩ hpre;have cy:=hby.cell;obtain⟨fn,tmps,assign,body,hy,hR⟩:=yield_any (m':=8) (YH.out (pre.map (oth b)) (oth b x) V za hJV (by have:=hpm hpre;rwa [List.map_append]at this))
  dsimp only[oth]at hy
  gi_wp2
  refine hR.mono ?_;have em:pre.map (oth b)++ [oth b x] =(pre++ [x]).map (oth b):=by rw[List.map_append];rfl
  rintro e V3 (⟨rfl,ae,af,G⟩|⟨rfl,L,G⟩)
  ·rw[em]at ae
   clear hR hy
   gi_wp2
   exact⟨G.le ab (.inl rfl),⟨af,fun k a1 a2 a3=>G.same k a1 za a3⟩,ae,(G.same _ (Nat.le_refl _) za hby.lt).trans hby,(cell_as19 (p:=⟨bb,0,none⟩) (hKb _ _ af (World.block_lt_of_cell? _ _ hcb))).trans hcb,Nat.le_trans hszV G.size⟩
  ·rw[em]at L
   clear hR hy
   gi_wp2
   exact⟨G.le ab (.inl rfl),rfl,L⟩
 case done=>
  rintro D V hD ⟨hJV,hby,hcb,hszV⟩ hK;refine⟨by simp,.inl ⟨_,_,rfl,run_takeDeferred hK,?_⟩⟩;refine⟨_,results_none rfl _ _ _,?_⟩;exact⟨⟨_,rfl⟩,.inl (OwnFrom.putObj hJ _ hJV za hK rfl)⟩
 case stop=>
  rintro D c pre V hD hpre ⟨rfl,hJxV⟩ hK
  gi_wp2
  refine⟨by simp,.inl ⟨_,_,rfl,run_takeDeferred hK,?_⟩⟩;refine⟨_,results_none rfl _ _ _,?_⟩;exact⟨⟨_,rfl⟩,.inr ⟨_,hpm hpre,OwnFrom.putObj hJx _ hJxV za hK rfl⟩⟩
def setsN(n:Int):Nat->Int->Option (List Int)
 |0,_=>none
 |j+1,s=>(subset_Next.f j n s).bind fun p=>if p.2=true then(setsN n j p.1).bind fun r=>some (s::r)else some [s]
theorem setsN_chain(n:Int): ∀(j:Nat) (s:Int) (xs:List Int),setsN n j s=some xs->chainN n s xs
 |0,s,xs,h=>by simp[setsN]at h
 |j+1,s,xs,h=>by
  unfold setsN at h;obtain⟨⟨t,tb⟩,h1,h⟩:=Option.bind_eq_some_iff.mp h
  cases tb with
  |false=>
   simp only[Bool.false_eq_true,if_false]at h;obtain rfl:=Option.some.inj h;exact⟨rfl,j,t,false,h1,by simp⟩
  |true=>
   simp only[if_true]at h;obtain⟨r,h2,h⟩:=Option.bind_eq_some_iff.mp h;obtain rfl:=Option.some.inj h;exact⟨rfl,j,t,true,h1,by simpa using setsN_chain n j t r h2⟩
theorem setsN_mono(n:Int): ∀(j:Nat) (s:Int),LeO (setsN n j s) (setsN n (j+1) s)
 |0,s=>LeO.none _
 |j+1,s=>by
  show LeO (Option.bind (subset_Next.f j n s) _) (Option.bind (subset_Next.f (j+1) n s) _);refine LeO.bind (subset_Next.mono _ _ j) fun p=>?_
  split
  ·exact LeO.bind (setsN_mono n j p.1) fun _=>LeO.refl _
  ·exact LeO.refl _
def allN(k:Nat)(n size:Int):Option (List Int):=if 0<=n/\n<=64/\0<=size/\size<=n then(subset_low.f size).bind fun s=>setsN n k s else some []
theorem allN_good{k:Nat}{n size:Int}{xs:List Int}(h:allN k n size=some xs):goodN n size xs:=by
 unfold allN at h;unfold goodN;by_cases hh:0<=n/\n<=64/\0<=size/\size<=n
 case neg=>rw[if_neg hh]at h⊢;exact(Option.some.inj h).symm
 rw[if_pos hh]at h⊢
 obtain⟨s,h1,h2⟩:=Option.bind_eq_some_iff.mp h;exact⟨s,h1,setsN_chain n k s xs h2⟩
theorem allN_mono(k:Nat)(n size:Int):LeO (allN k n size) (allN (k+1) n size):=by
 unfold allN
 split
 ·exact LeO.bind (LeO.refl _) fun s=>setsN_mono n k s
 ·exact LeO.refl _
def scanN(k:Nat)(a b:Int)(l:List Int)(i:Int):List Int->Int->Option (Int×Option (Int×Int))
 | [],c=>some (c,none)
 |y::r,c=>if 16384<wrap64 (c+1)then some (wrap64 (c+1),some (0,4))else(local_repairs.f k a b l i y).bind fun t=>if t=true then some (wrap64 (c+1),some (y,0))else scanN k a b l i r (wrap64 (c+1))
theorem scanN_mono(k:Nat)(a b:Int)(l:List Int)(i:Int): ∀(xs:List Int) (c:Int),LeO (scanN k a b l i xs c) (scanN (k+1) a b l i xs c)
 | [],c=>LeO.refl _
 |y::r,c=>by
  unfold scanN
  split
  ·exact LeO.refl _
  ·refine LeO.bind (local_repairs.mono _ _ _ _ _ k) fun t=>?_
   split
   ·exact LeO.refl _
   ·exact scanN_mono k a b l i r _
def local_search.go(k:Nat)(a b:Int)(l:List Int)(i:Int):Nat->Int->Int->Option (Int×Int)
 |0,_,_=>none
 |d+1,size,c=>if size<a then(allN k (wrap64 (a-1)) size).bind fun xs=>(scanN k a b l i (xs.map (oth i)) c).bind fun p=>p.2.elim (local_search.go k a b l i d (wrap64 (size+1)) p.1) some else some (0,4)
theorem local_search.go_mono(k:Nat)(a b:Int)(l:List Int)(i:Int): ∀(d:Nat) (size c:Int),LeO (local_search.go k a b l i d size c) (local_search.go (k+1) a b l i (d+1) size c)
 |0,size,c=>LeO.none _
 |d+1,size,c=>by
  unfold local_search.go
  split
  ·refine LeO.bind (allN_mono _ _ _) fun xs=>LeO.bind (scanN_mono _ _ _ _ _ _ _) fun p=>?_
   cases p.2 with
   |none=>exact local_search.go_mono k a b l i d _ _
   |some r=>exact LeO.refl _
  ·exact LeO.refl _
def local_search.f(k:Nat)(a b:Int)(l:List Int)(i:Int):Option (Int×Int):=if 0<=i/\0<=a/\a<=64 then local_search.go k a b l i k 0 0 else none
theorem local_search.mono: ∀a b l i k,LeO (local_search.f k a b l i) (local_search.f (k+1) a b l i):=fun a b l i k=>by
 unfold local_search.f
 split
 ·exact local_search.go_mono k a b l i k 0 0
 ·exact LeO.none _
def markOf(D:Nat):Deferred:= { target:= .collected D,args:= #[] }
theorem leaves_marks{F:Fence}{n:Nat}{P:Program}{fn:Func}{tmps:Array Value}{R:Ending->World->Prop} : ∀(Ds:List Nat) (W:World),(∀D∈Ds,W.heap[D]? =some (.deferred (some [])))->Ds.Nodup->
 (∀W',(∀p v,W.cell? p=some v->W'.cell? p=some v)->(∀B,(∀D∈Ds,B<=D)->Below B W W')->LeavesIn F n P fn tmps R [] .returning W')->LeavesInM F n P fn tmps R (Ds.map markOf) .returning W
 | [],W,_,_,h=>h W (fun _ _ h=>h) (fun B _=>Below.refl _ _)
 |D::Ds,W,hD,hN,h=>by
  have h1:=hD D zd;refine⟨by simp,.inl ⟨D,_,rfl,run_takeDeferred h1,leaves_marks Ds _ (fun D' h'=>?_) (List.nodup_cons.1 hN).2 fun W' hc hB=>h W' (fun p v hp=>hc p v ?_) (fun B hb=>?_)⟩⟩
  ·refine(World.putObj_heap_other ?_).trans (hD D' (by simp[h']));rintro rfl;exact(List.nodup_cons.1 hN).1 h'
  ·exact cell_kept hp (grownBy_putObj' _ D (.deferred none)) (fun r e=>by cases e;exact⟨_,h1,rfl⟩)
  ·have hle:=hb D zd;exact((Below.refl B W).grown (grownBy_putObj' W D (.deferred none)) (by have:=(Array.getElem?_eq_some_iff.1 h1).1;omega) (fun k e=>by cases e;exact hle)).trans (hB B fun D' h'=>hb D' (by simp[h']))
structure SBox (w:World) (a b i:Int) (A:Option Addr) (n cp:Nat) (c fd er:Int) (V:World):Prop where
 mat:V.heap[w.heap.size]? =some (.cells #[.int .i64 a,.int .i64 b,.slice A n cp] 24 (0,0))
 blk:Boxed V (w.heap.size+1) 3 (.int .i64 i)
 look:Boxed V (w.heap.size+2) 3 (.int .i64 c)
 fnd:Boxed V (w.heap.size+3) 29 (.int .u64 fd)
 err:Boxed V (w.heap.size+4) 30 (.int .i64 er)
 low:Below w.heap.size w V
section
variable {w V V':World} {a b i c fd er:Int} {A:Option Addr} {n cp:Nat}
theorem SBox.ext(h:SBox w a b i A n cp c fd er V)(hb:Below V.heap.size V V'):SBox w a b i A n cp c fd er V':=
 ⟨(hb.block _ (Array.getElem?_eq_some_iff.1 h.mat).1).trans h.mat,(hb.block _ h.blk.lt).trans h.blk,(hb.block _ h.look.lt).trans h.look,(hb.block _ h.fnd.lt).trans h.fnd,(hb.block _ h.err.lt).trans h.err,below_step h.low hb⟩
theorem SBox.own{B:Nat}{β:Type}(hB:w.heap.size<=B):OwnFrom B (fun(_:β) V=>SBox w a b i A n cp c fd er V):=fun s X Y row h hg hr=>
 ⟨(hg.block _ (Array.getElem?_eq_some_iff.1 h.mat).1 fun e=>by
    obtain⟨_,o,ho,hc⟩:=hr _ e.symm;rw[h.mat]at ho;cases ho;cases hc).trans h.mat,
   boxed_own _ _ (fun _:Unit=>_) () X Y row h.blk hg (fun r e=>(hr r e).2),boxed_own _ _ (fun _:Unit=>_) () X Y row h.look hg (fun r e=>(hr r e).2),boxed_own _ _ (fun _:Unit=>_) () X Y row h.fnd hg (fun r e=>(hr r e).2),boxed_own _ _ (fun _:Unit=>_) () X Y row h.err hg (fun r e=>(hr r e).2),
   ownFrom_below (β:=Unit) (Nat.le_refl _) hB () X Y row h.low hg hr⟩
theorem SBox.setLook(h:SBox w a b i A n cp c fd er V)(c':Int):SBox w a b i A n cp c' fd er (V.setCell ⟨w.heap.size+2,0,none⟩ (.int .i64 c')):=
 ⟨(Below.heap_setCell V ⟨w.heap.size+2,0,none⟩ _ _ zd).trans h.mat,(Below.heap_setCell V ⟨w.heap.size+2,0,none⟩ _ _ zd).trans h.blk,h.look.set _,(Below.heap_setCell V ⟨w.heap.size+2,0,none⟩ _ _ zd).trans h.fnd,(Below.heap_setCell V ⟨w.heap.size+2,0,none⟩ _ _ zd).trans h.err,h.low.setCell (p:=⟨w.heap.size+2,0,none⟩) zd _⟩
theorem SBox.setFnd(h:SBox w a b i A n cp c fd er V)(x:Int):SBox w a b i A n cp c x er (V.setCell ⟨w.heap.size+3,0,none⟩ (.int .u64 x)):=
 ⟨(Below.heap_setCell V ⟨w.heap.size+3,0,none⟩ _ _ zd).trans h.mat,(Below.heap_setCell V ⟨w.heap.size+3,0,none⟩ _ _ zd).trans h.blk,(Below.heap_setCell V ⟨w.heap.size+3,0,none⟩ _ _ zd).trans h.look,h.fnd.set _,(Below.heap_setCell V ⟨w.heap.size+3,0,none⟩ _ _ zd).trans h.err,h.low.setCell (p:=⟨w.heap.size+3,0,none⟩) zd _⟩
theorem SBox.setErr(h:SBox w a b i A n cp c fd er V)(x:Int):SBox w a b i A n cp c fd x (V.setCell ⟨w.heap.size+4,0,none⟩ (.int .i64 x)):=
 ⟨(Below.heap_setCell V ⟨w.heap.size+4,0,none⟩ _ _ zd).trans h.mat,(Below.heap_setCell V ⟨w.heap.size+4,0,none⟩ _ _ zd).trans h.blk,(Below.heap_setCell V ⟨w.heap.size+4,0,none⟩ _ _ zd).trans h.look,(Below.heap_setCell V ⟨w.heap.size+4,0,none⟩ _ _ zd).trans h.fnd,h.err.set _,h.low.setCell (p:=⟨w.heap.size+4,0,none⟩) zd _⟩
end
attribute [local go_sem] Oper.semAt_some
def local_search.J(w:World)(a b i:Int)(A:Option Addr)(n cp k:Nat)(l:List Int)(r:Int×Int)(ag:Value)(z:Act)(W:World):Prop:=
 ∃(d:Nat) (size c:Int) (Ds:List Nat) (u9 u10 u11 u14 u15 u16 u17 u18 u19 u20 u21 u22 u23 u24 u25 u26 u27 u28 u29 u30 u31 u32:Value),z= { tmps:= #[ag,.int .i64 i,.pointer (some ⟨w.heap.size,0,none⟩),.pointer (some ⟨w.heap.size+1,0,none⟩),.int .u64 0,.int .i64 0,.pointer (some ⟨w.heap.size+2,0,none⟩),.pointer (some ⟨w.heap.size+3,0,none⟩),.pointer (some ⟨w.heap.size+4,0,none⟩),u9,u10,u11,.int .i64 a,.int .i64 size,u14,u15,u16,u17,u18,u19,u20,u21,u22,u23,u24,u25,u26,u27,u28,u29,u30,u31,u32],defers:=Ds.map markOf } /\0<=size/\size<=a/\
  Aside0 (local_search.go k a b l i d size c=some r)/\Aside0 (SBox w a b i A n cp c 0 4 W)/\Aside0 (∀D∈Ds,w.heap.size+5<=D/\W.heap[D]? =some (.deferred (some [])))/\Aside0 Ds.Nodup
theorem local_search.calls(k:Nat)(a b:Int)(A:Option Addr)(cp:Nat)(l:List Int)(i:Int)(r1 r2:Int)(w:World)(hr:Kd.C (Kd.int .u8) w A l.length l)(hc:l.length<=cp)(h:local_search.f k a b l i=some (r1,r2))(hT:TabAt 0 Lib.deBruijn64tab w):
 Calls Tryd.prog 33 #[.agg #[.int .i64 a,.int .i64 b,.slice A l.length cp],.int .i64 i] w fun e w'=>e= .returned (.tuple #[.int .u64 r1,.int .i64 r2])/\Below w.heap.size w w':=by
 have a9:=Tryd.underlying24;unfold local_search.f at h;by_cases hi:0<=i/\0<=a/\a<=64
 case neg=>rw[if_neg hi]at h;cases h
 rw[if_pos hi]at h
 have a6:0<w.heap.size:=World.block_lt_of_cell? _ _ (hT 0 zb);have HR:=aK hr;have HC:=aK hc;have HT:=aK hT;have HH:=aK h;clear hr hc hT h;refine(callsIn_wide (n:=9)).1 ?_;refine callsIn_of_wp_marks Tryd.func33 rfl trivial ?_ rfl;simp only[Tryd.ntmps33,List.size_toArray,List.length_cons,List.length_nil,Nat.reduceAdd,Nat.reduceSub,Array.replicate_succ,Array.replicate_zero,List.push_toArray,List.append_toArray,List.nil_append,List.cons_append]
 gi_wp2
 refine(wpIn_wide (n:=9)).2 (wp_scope_straight ((wpIn_wide (n:=9)).1 ?_));have ar:=World.alloc_heap_new w (.cells #[.int .i64 a,.int .i64 b,.slice A l.length cp] 24);have BK:=aK ((Below.heap_alloc (w.alloc (.cells #[.int .i64 a,.int .i64 b,.slice A l.length cp] 24)) (.cells #[.int .i64 i] 3) _ zd).trans ar);have bb0:=Boxed.new (w.alloc (.cells #[.int .i64 a,.int .i64 b,.slice A l.length cp] 24)) 3 (.int .i64 i);rw[World.size_alloc]at bb0
 have au:Below w.heap.size w ((w.alloc (.cells #[.int .i64 a,.int .i64 b,.slice A l.length cp] 24)).alloc (.cells #[.int .i64 i] 3)):=((Below.refl _ w).alloc (Nat.le_refl _) _).alloc zd _;have af:((w.alloc (.cells #[.int .i64 a,.int .i64 b,.slice A l.length cp] 24)).alloc (.cells #[.int .i64 i] 3)).heap.size=w.heap.size+2:=by simp
 generalize((w.alloc (.cells #[.int .i64 a,.int .i64 b,.slice A l.length cp] 24)).alloc (.cells #[.int .i64 i] 3))=w1 at*;clear ar;obtain⟨hcx_0,hcx_1,hcx_2,hfx_0,hfx_1,hfx_2⟩:=cell3 BK
 gi_wp2
 have ah:Below w1.heap.size w1 (((w1.alloc (.cells #[.int .i64 0] 3)).alloc (.cells #[.int .u64 0] 29)).alloc (.cells #[.int .i64 4] 30)):=(((Below.refl _ w1).alloc (Nat.le_refl _) _).alloc zd _).alloc zk _;have bl:=Boxed.new w1 3 (.int .i64 0);have bf:=Boxed.new (w1.alloc (.cells #[.int .i64 0] 3)) 29 (.int .u64 0);have be:=Boxed.new ((w1.alloc (.cells #[.int .i64 0] 3)).alloc (.cells #[.int .u64 0] 29)) 30 (.int .i64 4);rw[World.size_alloc,af]at bf
 rw[World.size_alloc,World.size_alloc,af]at be
 rw[af]at bl
 have al:SBox w a b i A l.length cp 0 0 4 (((w1.alloc (.cells #[.int .i64 0] 3)).alloc (.cells #[.int .u64 0] 29)).alloc (.cells #[.int .i64 4] 30)):=
  ⟨(ah.block _ (Array.getElem?_eq_some_iff.1 BK.out).1).trans BK.out,(ah.block _ bb0.lt).trans bb0,(bl.alloc _).alloc _,bf.alloc _,be,au.trans (ah.mono za)⟩
 have hsz:(((w1.alloc (.cells #[.int .i64 0] 3)).alloc (.cells #[.int .u64 0] 29)).alloc (.cells #[.int .i64 4] 30)).heap.size=w.heap.size+5:=by simp[af]
 generalize(((w1.alloc (.cells #[.int .i64 0] 3)).alloc (.cells #[.int .u64 0] 29)).alloc (.cells #[.int .i64 4] 30))=W1 at*;clear ah bl bf be BK bb0 au af hcx_0 hcx_1 hcx_2 hfx_0 hfx_1 hfx_2;have aq:=aK al;have c0:W1.cell? ⟨w.heap.size,0,none⟩=some (.int .i64 a):=(blk_cell al.mat 0).trans rfl;clear al;refine wpIn_label ?_
 gi_wp2
 refine wpIn_loop (local_search.J w a b i A l.length cp k l (r1,r2) (.agg #[.int .i64 a,.int .i64 b,.slice A l.length cp])) (fun z _=>(a-intOf (z.tmps.getD 13 undef)).toNat) ?_ ?_
 ·exact⟨k,0,0,[],_,_,_,_,_,_,_,_,_,_,_,_,_,_,_,_,_,_,_,_,_,_,rfl,Int.le_refl _,hi.2.1,HH,aq,⟨fun D hD=>(by cases hD)⟩,⟨List.nodup_nil⟩⟩
 ·rintro z W ⟨d,size,c,Ds,u9,u10,u11,u14,u15,u16,u17,u18,u19,u20,u21,u22,u23,u24,u25,u26,u27,u28,u29,u30,u31,u32,rfl,bc,hza,HGO,HS,HD,HN⟩;clear aq c0 hsz HH;by_cases hlt:size<a
  case neg=>
   have c1:decide (size<a)=false:=decide_eq_false hlt
   gi_wp2
   cases d with
   |zero=>exact absurd HGO.out (by simp[local_search.go])
   |succ d=>
   have hgo:=HGO.out;unfold local_search.go at hgo;rw[if_neg za]at hgo
   obtain⟨rfl,rfl⟩:=Prod.mk.inj (Option.some.inj hgo);have cf:=HS.out.fnd.cell;have ce:=HS.out.err.cell
   gi_region
   all_goals gi_wp2
   all_goals
    refine leaves_marks Ds _ (fun D' hD'=>?_) HN.out fun W6 _ ak=>⟨_,results_tmp2 rfl _ _ _,rfl,?_⟩
    ·exact(HD.out D' hD').2
    ·exact(below_drew1 HS.out.low).trans (ak w.heap.size fun D' hD'=>by have:=(HD.out D' hD').1;omega)
  have c1:decide (size<a)=true:=decide_eq_true hlt;have m0:W.cell? ⟨w.heap.size,0,none⟩=some (.int .i64 a):=(blk_cell HS.out.mat 0).trans rfl;have m1:W.cell? ⟨w.heap.size,1,none⟩=some (.int .i64 b):=(blk_cell HS.out.mat 1).trans rfl;have m2:W.cell? ⟨w.heap.size,2,none⟩=some (.slice A l.length cp):=(blk_cell HS.out.mat 2).trans rfl;have mb:=HS.out.blk.cell
  gi_wp2_with (refine⟨trivial,?_⟩;gi_at_call 54;refine(callsIn_wide.2 (local_others.calls a b A l.length cp i size _)).mono ?_;rintro e w3 ⟨rfl,hbg,hbb,hbs,az,an⟩)
  have ba:w.heap.size<W.heap.size:=(Array.getElem?_eq_some_iff.1 HS.out.mat).1;have bb:w.heap.size+4<W.heap.size:=HS.out.err.lt
  cases d with
  |zero=>exact absurd HGO.out (by simp[local_search.go])
  |succ d=>
  have hgo:=HGO.out;unfold local_search.go at hgo;rw[if_pos hlt]at hgo
  obtain⟨xs,hall,hgo⟩:=Option.bind_eq_some_iff.mp hgo;obtain⟨p,hscan,hgo⟩:=Option.bind_eq_some_iff.mp hgo;have HX:=aK (allN_good hall);have HP:=aK hscan;have aj:=aK hgo;clear hall hscan hgo HGO m0 m1 m2 mb;have am:=HS.out.ext an;have av: ∀D∈Ds,w.heap.size+5<=D/\D<W.heap.size/\w3.heap[D]? =some (.deferred (some [])):=fun D hD=>by
   obtain⟨a1,a2⟩:=HD.out D hD;have a3:=(Array.getElem?_eq_some_iff.1 a2).1;exact⟨a1,a3,(an.block _ a3).trans a2⟩
  have a4:=aK am;have I:=aK av;have ccg:w3.cell? ⟨W.heap.size,0,none⟩=some (.int .i64 a):=(blk_cell hbg 0).trans rfl;have ccb:=hbb.cell;have ccs:=hbs.cell;have ay:=tab_below HT.out am.low;have a5:=aK ay;have ybb:=aK hbb;clear am av hbg hbb hbs an HS HD ay;obtain⟨ys,eys⟩: ∃ys,ys=xs.map (oth i):=⟨_,rfl⟩
  have htells:=local_others1.tells W.heap.size (W.heap.size+2) (W.heap.size+1) a size i xs HX.out hi.1 (fun V V'=>Below w.heap.size V V'/\ ∀k,W.heap.size<=k->k<w3.heap.size->k<V.heap.size->V'.heap[k]? =V.heap[k]?) w3 ccg ccs ccb a5.out za
   (fun {X Y Z} h1 h2=>⟨h1.1.trans h2.1,fun k a1 a2 a3=>by
     have e1:=h1.2 k a1 a2 a3;refine(h2.2 k a1 a2 ?_).trans e1;rw[Array.getElem?_eq_getElem a3]at e1
     exact(Array.getElem?_eq_some_iff.1 e1).1⟩)
   (fun U lo o hlo=>⟨by have hg:=grownBy_putObj' U lo o;exact⟨hg.os,hg.tape,hg.output,hg.size,fun k hk=>World.putObj_heap_other za⟩,fun k a1 a2 a3=>World.putObj_heap_other za⟩)
   (fun V V' h hlt=>h.2 _ za za hlt) (fun V V' h hlt=>h.1.block 0 a6)
  rw[<-eys]at htells HP
  have HTL:=aK htells;clear htells ccg ccb ccs eys
  refine rangeFunc_tells (xs:=ys) (w0:=w3) (gf:=82) (lb:= #[.pointer (some ⟨W.heap.size,0,none⟩),.pointer (some ⟨W.heap.size+2,0,none⟩),.pointer (some ⟨W.heap.size+1,0,none⟩)]) (encs:=fun x:Int=> #[.int .u64 x])
   (by simp[go_sem]) (enters_of Tryd.func82 zc rfl) HTL.out
   (fun {X Y Z} h1 h2=>⟨h1.1.trans h2.1,fun k a1 a2 a3=>by
     have e1:=h1.2 k a1 a2 a3;refine(h2.2 k a1 a2 ?_).trans e1;rw[Array.getElem?_eq_getElem a3]at e1
     exact(Array.getElem?_eq_some_iff.1 e1).1⟩)
   (fun U lo o hlo=>⟨by have hg:=grownBy_putObj' U lo o;exact⟨hg.os,hg.tape,hg.output,hg.size,fun k hk=>World.putObj_heap_other za⟩,fun k a1 a2 a3=>World.putObj_heap_other za⟩) (Below.refl _ _) (fun _=>rfl)
   (fun pre V=>(∃c' rest,ys=pre++rest/\scanN k a b l i rest c'=some p/\SBox w a b i A l.length cp c' 0 4 V)/\(∀D∈Ds,V.heap[D]? =some (.deferred (some [])))/\w3.heap.size<=V.heap.size)
   (fun c pre V=>c= .exit 0/\ ∃c' fd er,p.2=some (fd,er)/\SBox w a b i A l.length cp c' fd er V/\(∀D∈Ds,V.heap[D]? =some (.deferred (some []))))
   ?own ?ownx ?start ?a1 ?assign ?body ?done ?stop
  case own=>
   rintro pre V V' row ⟨⟨c',rest,h1,h2,h3⟩,h4,h5⟩ hg hr;exact⟨⟨c',rest,h1,h2,SBox.own (β:=Unit) za () V V' row h3 hg hr⟩,fun D hD=>lies_own hg hr (by have:=(I.out D hD).2.1;omega) (h4 D hD),Nat.le_trans h5 hg.size⟩
  case ownx=>
   rintro c pre V V' row ⟨h1,c',fd,er,h2,h3,h4⟩ hg hr;exact⟨h1,c',fd,er,h2,SBox.own (β:=Unit) za () V V' row h3 hg hr,fun D hD=>lies_own hg hr (by have:=(I.out D hD).2.1;omega) (h4 D hD)⟩
  case start=>exact⟨⟨c,ys,rfl,HP.out,a4.out⟩,fun D hD=>(I.out D hD).2.2,Nat.le_refl _⟩
  case assign=>
   intro lo x V K hK
   gi_wp2
   exact hK
  case body=>
   rintro lo pre x V hlo a8 ⟨⟨c',rest,hys,hsc,hSV⟩,hMV,hVs⟩ hpre;obtain⟨rest,rfl⟩: ∃r,rest=x::r:=by
    obtain⟨t,ht⟩:=hpre;rw[hys,List.append_assoc]at ht
    exact⟨t,(List.append_cancel_left ht).symm⟩
   have HSV:=aK hSV;have HMV:=aK hMV;have HVS:=aK hVs;have HYS:=aK (show ys=(pre++ [x])++rest by rw[hys];simp);have cl:=hSV.look.cell;have fl:=hSV.look.frozen;have G:=aK (hSV.setLook (wrap64 (c'+1)));have m0:(V.setCell ⟨w.heap.size+2,0,none⟩ (.int .i64 (wrap64 (c'+1)))).cell? ⟨w.heap.size,0,none⟩=some (.int .i64 a):=(blk_cell G.out.mat 0).trans rfl;have m1:(V.setCell ⟨w.heap.size+2,0,none⟩ (.int .i64 (wrap64 (c'+1)))).cell? ⟨w.heap.size,1,none⟩=some (.int .i64 b):=(blk_cell G.out.mat 1).trans rfl;have m2:(V.setCell ⟨w.heap.size+2,0,none⟩ (.int .i64 (wrap64 (c'+1)))).cell? ⟨w.heap.size,2,none⟩=some (.slice A l.length cp):=(blk_cell G.out.mat 2).trans rfl;have mb:=G.out.blk.cell;have ai:Stays w3.heap.size (w3.heap.size+2) 3 V (V.setCell ⟨w.heap.size+2,0,none⟩ (.int .i64 (wrap64 (c'+1)))):=Stays.set V ⟨w.heap.size+2,0,none⟩ _ (by show w.heap.size+2<_;omega) (by show w.heap.size+2<_;omega);have ax: ∀D∈Ds,(V.setCell ⟨w.heap.size+2,0,none⟩ (.int .i64 (wrap64 (c'+1)))).heap[D]? =some (.deferred (some [])):=fun D hD=>(Below.heap_setCell V ⟨w.heap.size+2,0,none⟩ _ D (by have:=(I.out D hD).1;show D≠_;simp only;omega)).trans (hMV D hD);have aw:Below w.heap.size V (V.setCell ⟨w.heap.size+2,0,none⟩ (.int .i64 (wrap64 (c'+1))))/\ ∀k,W.heap.size<=k->k<w3.heap.size->k<V.heap.size->(V.setCell ⟨w.heap.size+2,0,none⟩ (.int .i64 (wrap64 (c'+1)))).heap[k]? =V.heap[k]? :=
    ⟨(Below.refl _ V).setCell (p:=⟨w.heap.size+2,0,none⟩) zd _,fun k a1 _ _=>Below.heap_setCell V ⟨w.heap.size+2,0,none⟩ _ k (by show k≠_;simp only;omega)⟩
   have ab:=aK ai;have ag:=aK ax;have ap:=aK aw;unfold scanN at hsc;have HSS:=aK az;clear hSV hMV hys ai ax aw az;by_cases hlim:16384<wrap64 (c'+1)
   ·rw[if_pos hlim]at hsc
    have cc:decide (16384<wrap64 (c'+1))=true:=decide_eq_true hlim;have HPE:=aK (Option.some.inj hsc);clear hsc
    gi_wp2
    exact⟨ab.out,rfl,_,_,_,(congrArg Prod.snd HPE.out).symm,G.out,ag.out⟩
   rw[if_neg hlim]at hsc
   have cc:decide (16384<wrap64 (c'+1))=false:=decide_eq_false hlim;obtain⟨t,ht,hsc⟩:=Option.bind_eq_some_iff.mp hsc;have HTT:=aK ht;have HSC:=aK hsc;clear ht hsc hlim
   cases t with
   |true=>
    gi_wp2_with (refine⟨trivial,?_⟩;gi_at_call 55;refine(callsIn_wide.2 (local_repairs.calls k a b A cp l i x true _ (Kd.C_below HR.out G.out.low) HC.out HTT.out (tab_below HT.out G.out.low))).mono ?_;rintro e w5 ⟨rfl,aa⟩;have O:=aK (G.out.ext aa);have L:=aK aa;clear aa;have ff:=O.out.fnd.cell;have fff:=O.out.fnd.frozen;have fe:=(O.out.setFnd x).err.cell;have ffe:=(O.out.setFnd x).err.frozen)
    have HPE:p=(wrap64 (c'+1),some (x,0)):=(Option.some.inj (by have:=HSC.out;rw[if_pos trivial]at this;exact this)).symm;have ac:Stays w3.heap.size (w3.heap.size+2) 3 V ((w5.setCell ⟨w.heap.size+3,0,none⟩ (.int .u64 x)).setCell ⟨w.heap.size+4,0,none⟩ (.int .i64 0)):=
     ((ab.out.trans (Stays.any L.out)).trans (Stays.set _ ⟨w.heap.size+3,0,none⟩ _ za9 za9)).trans (Stays.set _ ⟨w.heap.size+4,0,none⟩ _ za8 za8)
    refine⟨ac,rfl,_,x,0,by rw[HPE],(O.out.setFnd x).setErr 0,fun D hD=>?_⟩;have hl:=(I.out D hD).1;have h1:=ag.out D hD;exact(Below.heap_setCell _ ⟨w.heap.size+4,0,none⟩ _ D (by show D≠_;simp only;omega)).trans ((Below.heap_setCell _ ⟨w.heap.size+3,0,none⟩ _ D (by show D≠_;simp only;omega)).trans ((L.out.block _ (Array.getElem?_eq_some_iff.1 h1).1).trans h1))
   |false=>
    gi_wp2_with (refine⟨trivial,?_⟩;gi_at_call 55;refine(callsIn_wide.2 (local_repairs.calls k a b A cp l i x false _ (Kd.C_below HR.out G.out.low) HC.out HTT.out (tab_below HT.out G.out.low))).mono ?_;rintro e w5 ⟨rfl,aa⟩;have O:=aK (G.out.ext aa);have L:=aK aa;clear aa)
    have a0:scanN k a b l i rest (wrap64 (c'+1))=some p:=by have:=HSC.out;simpa using this
    have ac:Stays w3.heap.size (w3.heap.size+2) 3 V w5:=ab.out.trans (Stays.any L.out);exact⟨ac,⟨ap.out.1.trans (L.out.mono (by have:=(Array.getElem?_eq_some_iff.1 G.out.mat).1;omega)),fun k a1 a2 a3=>(L.out.block k (by have:=ab.out.size;omega)).trans (ap.out.2 k a1 a2 a3)⟩,⟨_,rest,HYS.out,a0,O.out⟩,fun D hD=>(L.out.block _ (Array.getElem?_eq_some_iff.1 (ag.out D hD)).1).trans (ag.out D hD),Nat.le_trans HVS.out ac.size⟩
  case done=>
   rintro D V hD ⟨⟨c',rest,hys,hsc,hSV⟩,hMV,hVs⟩ hK;obtain rfl:rest= []:=by
    have:=congrArg List.length hys;rw[List.length_append]at this
    exact List.eq_nil_of_length_eq_zero za
   obtain rfl:(c',none)=p:=Option.some.inj hsc;have ae:local_search.go k a b l i d (wrap64 (size+1)) c'=some (r1,r2):=aj.out;have hw:wrap64 (size+1)=size+1:=by unfold wrap64;omega
   rw[hw]at ae
   have ao:=aK ae;have HSV:=aK hSV;have HMV:=aK hMV;have KD:=aK hK;clear ae hSV hMV hK hsc aj HP
   gi_wp2
   refine⟨⟨d,size+1,c',D::Ds,_,_,_,_,_,_,_,_,_,_,_,_,_,_,_,_,_,_,_,_,_,_,rfl,by omega,by omega,ao,HSV,⟨fun D' hD'=>?_⟩,⟨List.nodup_cons.2 ⟨fun h=>by have:=(I.out D h).2.1;omega,HN.out⟩⟩⟩,?_⟩
   ·rcases List.mem_cons.1 hD' with rfl|h
    ·exact⟨by omega,KD.out⟩
    ·exact⟨(I.out D' h).1,HMV.out D' h⟩
   ·simp[intOf];omega
  case stop=>
   rintro D c pre V hD hpre ⟨rfl,c',fd,er,a7,hSV,hMV⟩ hK;have cf:=hSV.fnd.cell;have ce:=hSV.err.cell;have HSV:=aK hSV;have HMV:=aK hMV;have KD:=aK hK;have hres:(fd,er)=(r1,r2):=by have:=aj.out;rw[a7]at this;exact Option.some.inj this
   obtain⟨rfl,rfl⟩:=Prod.mk.inj hres;clear hSV hMV hK
   gi_wp2
   gi_region
   all_goals gi_wp2
   all_goals
    refine leaves_marks (D::Ds) _ (fun D' hD'=>?_) (List.nodup_cons.2 ⟨fun h=>by have:=(I.out D h).2.1;omega,HN.out⟩) fun W6 _ ak=>⟨_,results_tmp2 rfl _ _ _,rfl,?_⟩
    ·rcases List.mem_cons.1 hD' with rfl|h
     ·exact KD.out
     ·exact HMV.out D' h
    ·refine(below_drew1 HSV.out.low).trans (ak w.heap.size fun D' hD'=>?_);rcases List.mem_cons.1 hD' with rfl|h
     ·omega
     ·have:=(I.out D' h).1;omega
def local_put.l0:Nat->List Int->List Int->List Int->Int->Int->Option (List Int)
 |0,_,_,_,_,_=>none
 |k+1,x2,x7,G,I,D=>if D<I then(if 0<=D then(if D<(G.length:Int)then(if D<(x2.length:Int)then(if 0<=(rd G D)then(if(rd G D)<(x7.length:Int)then(local_put.l0 k x2 (x7.set ((rd G D):Int).toNat (rd x2 D)) G I (wrap64 (D+1)))else(none))else(none))else(none))else(none))else(none))else(some x7)
def local_put.f(k:Nat)(a0:Int)(a1:Int)(l2:List Int):Option (List Int):=if 0<=a0 then(if(a0:Int).toNat<=281474976710656 then((subset_List.f k a1).bind fun D=>(local_put.l0 k l2 (List.replicate (a0:Int).toNat 0) D (D.length:Int) 0))else(none))else(none)
theorem local_put.mono_l: ∀k,(∀y0 y1 y2 y3 y4,LeO (local_put.l0 k y0 y1 y2 y3 y4) (local_put.l0 (k+1) y0 y1 y2 y3 y4))
 |0=>fun _ _ _ _ _ r h=>by simp[local_put.l0]at h
 |k+1=>by
  have D:=local_put.mono_l k
  ·intro y0 y1 y2 y3 y4;unfold local_put.l0
   with_reducible repeat' first|exact D _ _ _ _ _|exact subset_List.mono _ _|exact LeO.refl _|exact LeO.none _|refine LeO.ite ?_ ?_|refine LeO.bind ?_ (fun _=>?_)
theorem local_put.mono: ∀a0 a1 a2 k,LeO (local_put.f k a0 a1 a2) (local_put.f (k+1) a0 a1 a2):=by
 intro a0 a1 a2 k;have D:=local_put.mono_l k;unfold local_put.f
 with_reducible repeat' first|exact D _ _ _ _ _|exact subset_List.mono _ _|exact LeO.refl _|exact LeO.none _|refine LeO.ite ?_ ?_|refine LeO.bind ?_ (fun _=>?_)
theorem local_put.calls(k:Nat)(a0:Int)(a1:Int)(A2:Option Addr)(c2:Nat)(l2:List Int)(r:List Int)(w:World)(bb:Kd.C (Kd.int .u8) w A2 l2.length l2)(a9:l2.length<=c2)(h:local_put.f k a0 a1 l2=some r)(hT:TabAt 0 Lib.deBruijn64tab w):
 Calls Tryd.prog 38 #[.int .i64 a0,.int .u64 a1,.slice A2 l2.length c2] w fun e w'=> ∃v0_:Value,e= .returned (v0_)/\Kd.R (Kd.int .u8) 5 w' w.heap.size (fun _=>True) v0_ r/\Below w.heap.size w w':=by
 have HT:=aK hT;clear hT;have bg:=aK bb;have bn:=aK a9;clear bb a9;have HB:=aK (Below.refl w.heap.size w);have H:(if 0<=a0 then(if(a0:Int).toNat<=281474976710656 then((subset_List.f k a1).bind fun G=>(local_put.l0 k l2 (List.replicate (a0:Int).toNat 0) G (G.length:Int) 0))else(none))else(none))=some r:=h;clear h;by_cases c4:0<=a0
 case neg=>rw[if_neg c4]at H;exact absurd H zd
 rw[if_pos c4]at H
 have c4b0:=eq_true c4;have c4b1:decide (0<=a0)=true:=decide_eq_true c4;clear c4;by_cases c5:(a0:Int).toNat<=281474976710656
 case neg=>rw[if_neg c5]at H;exact absurd H zd
 rw[if_pos c5]at H
 have c5b0:=eq_true c5;have c5b1:decide ((a0:Int).toNat<=281474976710656)=true:=decide_eq_true c5;clear c5;obtain⟨au,L⟩: ∃y_:List Int,y_=(List.replicate (a0:Int).toNat 0):=⟨_,rfl⟩
 replace H:((subset_List.f k a1).bind fun G=>(local_put.l0 k l2 au G (G.length:Int) 0))=some r:=zH L H
 have ab:=aK L;clear L;obtain⟨G,A6,H⟩:=bindO H
 (try dsimp only at H)
 have H':=aK H;clear H
 go_enter Tryd.func38,Tryd.ntmps38
 go_wp2_with (first|((with_reducible refine gate_dst (N:=11) rfl ?_);refine Kd.R_make (Kd.int .u8) _ 5 rfl (N:=11) rfl 22 _ _ rfl a0 rfl rfl Tryd.underlying22 (.int .u8 0) 1 info5 rfl zb za 0 (ok:=fun _=>True) (okp:=fun _=>True) rfl (fun _ hk=>hk) trivial (of_decide_eq_true asE) (Nat.le_trans (Nat.mul_le_mul_right _ (of_decide_eq_true asE:a0.toNat<=281474976710656)) za) (Below.refl _ _) (Nat.le_refl _) ?_;intro bd w7 ac hb hg_ hnew_;clear hg_ hnew_;(first|rw[<-ab.out]at ac|(simp only[Int.reduceToNat]at ac;rw[<-ab.out]at ac));have U:=aK (R_lower ac (below_size (hbA HB.out)));replace HB:=hbB HB hb;clear hb ac)|((with_reducible refine gC 35 rfl ?_);refine cG (some 13) Tryd.func35 #[.int .u64 a1] ?_;(with_reducible refine(subset_List.calls k a1 G _ A6.out (tab_below HT.out zj)).mono ?_);rintro e w9 ⟨bm,rfl,ba,hb⟩;refine⟨_,rfl,?_⟩;replace U:=kdB U hb;have Z:=aK (R_lower ba (below_size (hbA HB.out)));replace HB:=hbB HB hb;(try clear hb);(try clear ba);obtain⟨az,a4,a7⟩:=R_slice Z.out;subst a7))
 go_loopg [15] k (fun kq bj w'=> ∃(I:List Int) (D:Int),bj= .int .i64 D/\Aside0 (local_put.l0 kq l2 I G (G.length:Int) D=some r)/\Aside0 (kq<=k)/\Aside0 (Kd.R (Kd.int .u8) 5 w' w.heap.size (fun _=>True) bd I)/\Aside0 (Kd.R (Kd.int .i64) 3 w' w.heap.size (fun _=>True) (.slice az G.length a4) G)/\Aside0 (Below w.heap.size w w'))
 case atStart=>exact⟨(au),(0),rsE,H',⟨Nat.le_refl _⟩,⟨kdA U.out⟩,⟨kdA Z.out⟩,⟨hbA HB.out⟩⟩
 case round=>
  clear H'
  (try clear c2);(try clear p2);(try clear c3);(try clear c4);(try clear c4b0);(try clear c4b1);(try clear c5);(try clear c5b0);(try clear c5b1)
  obtain⟨I,D,rfl,HA,a3,HO_7,HO_13,HB⟩:=hrel
  cases gk with
  |zero=>exact absurd HA.out (by simp[local_put.l0])
  |succ k1=>
   have H:=HA.out;clear HA;simp only[local_put.l0]at H;by_cases Y:D<(G.length:Int)
   case neg=>
    rw[if_neg Y]at H
    have c11b0:decide (D<(G.length:Int))=false:=decide_eq_false Y;clear Y;obtain rfl:=Option.some.inj H;go_wp2
    go_ret
    exact⟨_,rfE,by(with_reducible repeat(first|apply R_alloc|apply R_drewN|apply R_drew));exact HO_7.out,hbA HB.out⟩
   rw[if_pos Y]at H
   have c11b0:decide (D<(G.length:Int))=true:=decide_eq_true Y;clear Y;by_cases aj:0<=D
   case neg=>rw[if_neg aj]at H;exact absurd H zd
   rw[if_pos aj]at H
   have c12b0:decide (0<=D)=true:=decide_eq_true aj;clear aj;by_cases ak:D<(G.length:Int)
   case neg=>rw[if_neg ak]at H;exact absurd H zd
   rw[if_pos ak]at H
   have c13b0:decide (D<(G.length:Int))=true:=decide_eq_true ak;clear ak;by_cases al:D<(l2.length:Int)
   case neg=>rw[if_neg al]at H;exact absurd H zd
   rw[if_pos al]at H
   have c14b0:decide (D<(l2.length:Int))=true:=decide_eq_true al;clear al;by_cases am:0<=(rd G D)
   case neg=>rw[if_neg am]at H;exact absurd H zd
   rw[if_pos am]at H
   have c15b0:decide (0<=(rd G D))=true:=decide_eq_true am;clear am;by_cases an:(rd G D)<(I.length:Int)
   case neg=>rw[if_neg an]at H;exact absurd H zd
   rw[if_pos an]at H
   have c16b0:decide ((rd G D)<(I.length:Int))=true:=decide_eq_true an;clear an;obtain⟨ai,O⟩: ∃y_:List Int,y_=(I.set ((rd G D):Int).toNat (rd l2 D)):=⟨_,rfl⟩
   replace H:(local_put.l0 k1 l2 ai G (G.length:Int) (wrap64 (D+1)))=some r:=zH O H
   have av:=aK O;clear O;have H':=aK H;clear H;have ae:0<=(D:Int):=of_decide_eq_true asE;have ag:D<(G.length:Int):=of_decide_eq_true asE;obtain⟨bh,a5,bc⟩:=Kd.at_int (R_reads' HO_13.out).2.2 D ae ag
   cases a5
   replace ae:=eq_true ae;replace ag:=eq_true ag;have af:0<=(D:Int):=of_decide_eq_true asE;have ah:D<(l2.length:Int):=of_decide_eq_true asE;obtain⟨bi,a6,J⟩:=Kd.at_int bg.out D af ah
   cases a6
   replace J:=(HB.out.cell (World.block_lt_of_cell? w _ J)).trans J;replace af:=eq_true af;replace ah:=eq_true ah;have aw:0<=((rd G D):Int):=of_decide_eq_true asE;have ax:((rd G D):Int)<((I.length:Int):Int):=of_decide_eq_true asE;obtain⟨X,ap,aq,ar,a8,bl,ao⟩:=Kd.R_form HO_7.out za
   (first|cases aq|(injection aq with ea_ en_ ec_;(first|subst ea_|(injection ea_ with ea_;subst ea_));subst ec_;clear en_))
   have a2:=aK ar;have bk:=aK ao;clear ar a8 ao;obtain⟨bf,be⟩:=Kd.R_celln 0 HO_7.out ((rd G D):Int) aw ax;replace aw:=eq_true aw;replace ax:=eq_true ax;have aa:=Kd.R_putg HO_7.out ((rd G D):Int) (rd l2 D)
   go_wp2_with (first|((with_reducible refine gate_store (t:=5) (p:=26) rfl ?_);refine store_event (t:=5) (p:=26) (v:=?vo_w19) (w1:=(wr.setCell ⟨X,((rd G D):Int).toNat,none⟩ (.int .u8 (rd l2 D)))) ?hg ?ho ?hn ?hr ?_;(case ho=>rfl);(case hg=>rfl);(case hn=>rfl);(case hr=>first|(go_simp;done)|(go_simp;rfl));intro ay hw;have hg:wr.grownBy ay (some X):=(by rw[hw];exact aa.2);have hp_:Kd.R (Kd.int .u8) 5 ay w.heap.size (fun _=>True) (.slice (some ⟨X,0,none⟩) I.length ap) ai:=(by rw[hw,av.out];exact aa.1);clear aa;replace HO_13:=aK (Kd.R_over' (v:=(.slice (some ⟨X,0,none⟩) I.length ap)) (kdA HO_13.out) (Kd.R_typed HO_7.out) zb hg);replace HO_7:=aK (hp_);replace HB:=aK ((by rw[hw];exact below_set (HB.out) a2.out:Below w.heap.size w ay));clear hg hw hp_))
   go_roundg k1
   case measure=>have:=a3.out;omega
   case rel=>exact⟨(ai),(wrap64 (D+1)),rsE,H',⟨by have:=a3.out;omega⟩,⟨kdA HO_7.out⟩,⟨kdA HO_13.out⟩,⟨hbA HB.out⟩⟩
def local_Least.j0:Nat->Int->Int->Bool->Int->Int->List Int->Option (Int×List Int×Bool×Int)
 |0,_,_,_,_,_,_=>none
 |k+1,x1,x7,Z,D,L,O=>if Z=true then(some (0,([]:List Int),false,x7))else((local_search.f k D L O x1).bind fun G=>(if G.2=0 then((subset_List.f k G.1).bind fun U=>((matrix_Pick.f D L O U).bind fun I=>(if I.2.2.2=0 then((local_row.f D L O x1).bind fun X=>((gauss_Combine.f k I.1 I.2.1 I.2.2.1 X).bind fun J=>(if J.2.2=0 then(if J.2.1=true then((local_put.f k D G.1 J.1).bind fun Y=>(some (G.1,Y,true,0)))else(some (0,([]:List Int),false,J.2.2)))else(some (0,([]:List Int),false,J.2.2)))))else(some (0,([]:List Int),false,I.2.2.2)))))else(some (0,([]:List Int),false,G.2))))
def local_Least.f(k:Nat)(G:Int)(I:Int)(J:List Int)(a1:Int):Option (Int×List Int×Bool×Int):=(local_may.f k G I J a1).bind fun D=>(if D.2=0 then(local_Least.j0 k a1 D.2 (!D.1) G I J)else(local_Least.j0 k a1 D.2 true G I J))
theorem local_Least.mono_l: ∀k,(∀y0 y1 y2 y3 y4 y5,LeO (local_Least.j0 k y0 y1 y2 y3 y4 y5) (local_Least.j0 (k+1) y0 y1 y2 y3 y4 y5))
 |0=>fun _ _ _ _ _ _ r h=>by simp[local_Least.j0]at h
 |k+1=>by
  have D:=local_Least.mono_l k
  ·intro y0 y1 y2 y3 y4 y5;unfold local_Least.j0
   with_reducible repeat' first|exact D _ _ _ _ _ _|exact gauss_Combine.mono _ _ _ _ _|exact local_may.mono _ _ _ _ _|exact local_put.mono _ _ _ _|exact local_search.mono _ _ _ _ _|exact subset_List.mono _ _|exact LeO.refl _|exact LeO.none _|refine LeO.ite ?_ ?_|refine LeO.bind ?_ (fun _=>?_)
theorem local_Least.mono: ∀a0 a1 a2 a3 k,LeO (local_Least.f k a0 a1 a2 a3) (local_Least.f (k+1) a0 a1 a2 a3):=by
 intro a0 a1 a2 a3 k;have D:=local_Least.mono_l k;unfold local_Least.f
 with_reducible repeat' first|exact D _ _ _ _ _ _|exact gauss_Combine.mono _ _ _ _ _|exact local_may.mono _ _ _ _ _|exact local_put.mono _ _ _ _|exact local_search.mono _ _ _ _ _|exact subset_List.mono _ _|exact LeO.refl _|exact LeO.none _|refine LeO.ite ?_ ?_|refine LeO.bind ?_ (fun _=>?_)
def local_Least.T7:Bool×List (List Nat×List Nat):=(true,[([],[]),([],[]),([1],[1]),([0,2,2],[0,2]),([3],[3]),([4],[4]),([4],[4]),([],[]),([7,5,3,0,1,2,3,4,5,7],[5,7]),([6,8,0,1,2,3,4,5,6,7,8],[6])])
def local_Least.B7:List Nat:= [0,0,2,7,15,31,31,0,191,511]
theorem local_Least.tab7:rtab .any (opsOf Tryd.f11 7)=local_Least.T7:=by kernel_rfl
theorem local_Least.bits7:waitsOk local_Least.T7.2 local_Least.B7=true:=by kernel_rfl
def local_Least.T10:Bool×List (List Nat×List Nat):=(true,[([],[]),([],[]),([],[]),([1,2],[1,2]),([0,3,3],[0,3]),([4],[4]),([5],[5]),([5],[5]),([5],[5]),([6,4,0,1,2,3,4,5,6],[6]),([7,9,0,1,2,3,4,5,6,7,9],[7]),([8,10,0,1,2,3,4,5,6,7,8,9,10],[8])])
def local_Least.B10:List Nat:= [0,0,0,6,15,31,63,63,63,127,767,2047]
theorem local_Least.tab10:rtab .any (opsOf Tryd.f11 10)=local_Least.T10:=by kernel_rfl
theorem local_Least.bits10:waitsOk local_Least.T10.2 local_Least.B10=true:=by kernel_rfl
theorem local_Least.calls(k:Nat)(ac:Int)(af:Int)(ai:Option Addr)(aj:Nat)(aa:List Int)(a1:Int)(r1:Int)(r2:List Int)(r3:Bool)(r4:Int)(w:World)(bg:Kd.C (Kd.int .u8) w ai aa.length aa)(bf:aa.length<=aj)(h:local_Least.f k ac af aa a1=some (r1,r2,r3,r4))(hT:TabAt 0 Lib.deBruijn64tab w):
 Calls Tryd.prog 11 #[.agg #[.int .i64 ac,.int .i64 af,.slice ai aa.length aj],.int .i64 a1] w fun e w'=> ∃v1_:Value,e= .returned (.tuple #[.int .u64 r1,v1_,.bool r3,.int .i64 r4])/\Kd.R (Kd.int .u8) 5 w' w.heap.size (fun _=>True) v1_ r2/\Below w.heap.size w w':=by
 have HT:=aK hT;clear hT;have dw:=Tryd.underlying24;have ap:=aK bg;have ao:=aK bf;clear bg bf;have HB:=aK (Below.refl w.heap.size w);have H:((local_may.f k ac af aa a1).bind fun a4=>(if a4.2=0 then(local_Least.j0 k a1 a4.2 (!a4.1) ac af aa)else(local_Least.j0 k a1 a4.2 true ac af aa)))=some (r1,r2,r3,r4):=h;clear h;obtain⟨⟨bv,az⟩,A3,H⟩:=bindO H
 (try dsimp only at H)
 have b3:=aK H;clear H
 go_enter Tryd.func11,Tryd.ntmps11
 go_upto_region 2 with(first|((with_reducible refine gD 2 rfl ?_);refine bE 2 #[.int .i64 ac,.int .i64 af,.slice ai aa.length aj] 24 ?_;intro Z hg w5 hbox hb;have D:=aK (hbox);have bb:=hbS HB hg;have de:=hbS HB hg;replace HB:=hbB HB hb;clear hb hbox hg;obtain⟨bi,bj,bk,bl,bm,bn⟩:=cell3 D)|((with_reducible refine gC 32 rfl ?_);refine cG (some 13) Tryd.func32 #[.agg #[.int .i64 ac,.int .i64 af,.slice ai aa.length aj],.int .i64 a1] ?_;(with_reducible refine(local_may.calls k ac af _ _ aa a1 bv az _ ?side1 ?side2 A3.out (tab_below HT.out zj)).mono ?_);(case side1=>exact kcB ap HB);(case side2=>exact ao.out);rintro e w7 ⟨rfl,hb⟩;refine⟨_,rfl,?_⟩;replace D:=bkB D hb;replace HB:=hbB HB hb;(try clear hb)))
 (try simp only[Act.put,zL])
 go_cut [21] (fun dk wc=> ∃(kq:Nat) (a5:Bool),dk= .bool a5/\Aside0 (local_Least.j0 kq a1 az a5 ac af aa=some (r1,r2,r3,r4))/\Aside0 (kq<=k)/\Aside0 (wc.heap[Z]? =some (.cells #[.int .i64 ac,.int .i64 af,(.slice ai aa.length aj)] 24 (0,0)))/\Aside0 (Below w.heap.size w wc))
 case first=>
  have H:=b3.out;clear b3;by_cases c8:az=0
  case neg=>
   rw[if_neg c8]at H
   have c8b0:(az==0)=false:=beq_eq_false_iff_ne.mpr c8;have c8b1:(az !=0)=true:=bne_iff_ne.mpr c8
   (first|rw[c8b0] |(simp only[i64_w,i32_w];rw[c8b0])|skip)
   have H':=aK H;clear H;go_wp2
   go_meet
   case rel=>exact⟨_,(true),rsE,H',⟨leE⟩,⟨bkA D.out⟩,⟨hbA HB.out⟩⟩
  rw[if_pos c8]at H
  have c8b0:(az==0)=true:=beq_iff_eq.mpr c8;have c8b1:(az !=0)=false:=bne_eq_false_iff_eq.mpr c8;clear c8
  (first|rw[c8b0] |(simp only[i64_w,i32_w];rw[c8b0])|skip)
  have H':=aK H;clear H;go_wp2
  go_meet
  case rel=>exact⟨_,(!bv),rsE,H',⟨leE⟩,⟨bkA D.out⟩,⟨hbA HB.out⟩⟩
 case rest=>
  clear b3
  (try clear c1);(try clear p2);(try clear c3);(try clear c8);(try clear c8b0);(try clear c8b1);(try clear bi bj bk bl bm bn)
  obtain⟨kq,a5,rfl,HA,dy,D,HB⟩:=hcut
  cases kq with
  |zero=>exact absurd HA.out (by simp[local_Least.j0])
  |succ a9=>
   have H:=HA.out;clear HA;simp only[local_Least.j0]at H;by_cases c9:a5=true
   ·subst c9;rw[if_pos rfl]at H
    obtain⟨rfl,rfl,rfl,rfl⟩:=zP4 H;go_wp2;refine bodyPost_ret (results_list (rs:= [.tmp 4,.tmp 5,.tmp 6,.tmp 7]) rfl zd (.tmp (.tmp (.tmp (.tmp .nil))))) rfl ?_;exact⟨_,rfE,nilE,hbA HB.out⟩
   replace c9:=Bool.eq_false_iff.mpr c9;subst c9;rw[if_neg nofT]at H
   obtain⟨⟨ax,a0⟩,b5,H⟩:=bindO H
   (try dsimp only at H)
   by_cases bc:a0=0
   case neg=>
    rw[if_neg bc]at H
    have c11b0:(a0==0)=false:=beq_eq_false_iff_ne.mpr bc;have c11b1:(a0 !=0)=true:=bne_iff_ne.mpr bc;obtain⟨rfl,rfl,rfl,rfl⟩:=zP4 H;obtain⟨cn,co,cp,cx,cy,cz⟩:=cell3 D
    go_wp2_with (first|((with_reducible refine gC 33 rfl ?_);refine cG (some 26) Tryd.func33 #[.agg #[.int .i64 ac,.int .i64 af,.slice ai aa.length aj],.int .i64 a1] ?_;(with_reducible refine(local_search.calls a9 ac af _ _ aa a1 ax a0 _ ?side1 ?side2 b5.out (tab_below HT.out zj)).mono ?_);(case side1=>exact kcB ap HB);(case side2=>exact ao.out);rintro e eb ⟨rfl,hb⟩;refine⟨_,rfl,?_⟩;replace D:=bkB D hb;replace HB:=hbB HB hb;(try clear hb)))
    refine bodyPost_ret (results_list (rs:= [.tmp 4,.tmp 5,.tmp 6,.tmp 7]) rfl zd (.tmp (.tmp (.tmp (.tmp .nil))))) rfl ?_;exact⟨_,rfE,nilE,hbA HB.out⟩
   rw[if_pos bc]at H
   have c11b0:(a0==0)=true:=beq_iff_eq.mpr bc;have c11b1:(a0 !=0)=false:=bne_eq_false_iff_eq.mpr bc;clear bc;obtain⟨am,b6,H⟩:=bindO H
   (try dsimp only at H)
   obtain⟨⟨X,Y,U,ar⟩,b0,H⟩:=bindO H
   (try dsimp only at H)
   obtain⟨ch,ci,cj,cq,cr,ct⟩:=cell3 D
   try go_wp2_with (first|((with_reducible refine gC 33 rfl ?_);refine cG (some 26) Tryd.func33 #[.agg #[.int .i64 ac,.int .i64 af,.slice ai aa.length aj],.int .i64 a1] ?_;(with_reducible refine(local_search.calls a9 ac af _ _ aa a1 ax a0 _ ?side1 ?side2 b5.out (tab_below HT.out zj)).mono ?_);(case side1=>exact kcB ap HB);(case side2=>exact ao.out);rintro e dl ⟨rfl,hb⟩;refine⟨_,rfl,?_⟩;replace D:=bkB D hb;replace HB:=hbB HB hb;(try clear hb)))
   replace D:=aK (blk_drew D.out);replace HB:=aK (below_drew1 HB.out);refine start_ (n:=10) (S:=fun w'=>w'.cell? ⟨Z,0,none⟩=some (.int .i64 ac)/\w'.cell? ⟨Z,1,none⟩=some (.int .i64 af)/\w'.cell? ⟨Z,2,none⟩=some (.slice ai aa.length aj)) (ds:= []) (.replicate 10 false) zc rfl rfl (z3c D) (fun hHeld=>?_);refine with_tabW local_Least.tab7 local_Least.bits7 (fun HT_ HW_=>?_);generalize dl.drew=dz at D HB hHeld⊢;refine pu 1 (some 34) (mB 10 2) HT_ ?_;refine tk3 0 (some 33) (mB 10 3) HT_ HW_ hHeld ?_;refine join_ (σ:=Value×Value×Nat) 2 (mB 10 255) (fun s_=> [(35,s_.1),(36,.tuple #[.agg #[.int .i64 X,.int .i64 Y,s_.2.1],.int .i64 ar]),(8,.pointer (some ⟨s_.2.2,0,none⟩)),(32,.tuple #[.agg #[.int .i64 X,.int .i64 Y,s_.2.1],.int .i64 ar]),(37,.agg #[.int .i64 X,.int .i64 Y,s_.2.1]),(38,.int .i64 ar)]) (fun s_ w'=>(w'.cell? ⟨Z,0,none⟩=some (.int .i64 ac)/\w'.cell? ⟨Z,1,none⟩=some (.int .i64 af)/\w'.cell? ⟨Z,2,none⟩=some (.slice ai aa.length aj))/\(Kd.R (Kd.int .i64) 3 w' w.heap.size (fun _=>True) s_.1 am)/\(Kd.R (Kd.int .u8) 5 w' w.heap.size (fun _=>True) s_.2.1 U)/\(w'.heap[Z]? =some (.cells #[.int .i64 ac,.int .i64 af,.slice ai aa.length aj] 24 (0,0)))/\(w'.heap[s_.2.2]? =some (.cells #[.int .i64 0,.int .i64 0,.slice none 0 0] 24 (0,0)))/\(w.heap.size<=s_.2.2)/\(w.heap.size<=s_.2.2)/\(Z≠s_.2.2)/\(s_.2.2≠Z)/\(Below w.heap.size w w')) ?_ ?_;rotate_left
   ·intro hCont;refine two_ (i:=2) (j:=7) (Ni:=some 35) (Nj:=some 8) (mB 10 7) (mB 10 131) rfl rfl rfl rfl (two_of HT_.out zc) zb zb (fun K hK=>?_) (fun K hK=>?_)
    ·skip
     refine goes_ Tryd.func35 zc rfl #[.int .u64 ax] ze rfl rfl (by(try simp only[List.map_toArray,List.map_cons,List.map_nil]);first|done|rfl|(simp only[List.length_drop,List.length_take];rfl)) ?_;with_reducible refine(subset_List.calls a9 ax am _ b6.out (tab_below HT.out zj)).mono ?_
     rintro e dm ⟨av,rfl,ag,hb⟩;refine⟨_,rfl,?_⟩;have J:=aK (R_lower ag (below_size (hbA HB.out)));replace D:=bkB D hb;replace HB:=hbB HB hb
     (try clear hb)
     (try clear a3)
     (try clear hk)
     (try clear hi)
     (try clear ag)
     obtain⟨bo,bp,bq⟩:=R_slice J.out
     (first|subst bq|(injection bq with f1_ f2_ f3_;have f4_:=f1_.symm;have f5_:=f3_.symm;clear f1_ f2_ f3_;subst f4_;subst f5_))
     refine hK.out _ _ (z3c D) (fun hHeld=>?_);clear hK K;refine znm (some 35) ?_;refine two_ (i:=3) (j:=7) (Ni:=some 36) (Nj:=some 8) (mB 10 15) (mB 10 135) rfl rfl rfl rfl (two_of HT_.out zc) zb zb (fun K hK=>?_) (fun K hK=>?_)
     ·skip
      refine goes_ Tryd.func34 zc rfl #[.agg #[.int .i64 ac,.int .i64 af,.slice ai aa.length aj],.slice bo am.length bp] ze rfl rfl (by(try simp only[List.map_toArray,List.map_cons,List.map_nil]);first|done|rfl|(simp only[List.length_drop,List.length_take];rfl)) ?_;with_reducible refine(matrix_Pick.calls ac af _ _ aa _ _ am X Y U ar _ ?side1 ?side2 ?side3 ?side4 b0.out).mono ?_
      (case side1=>exact kcB ap HB)
      (case side2=>exact ao.out)
      (case side3=>exact kcA (R_reads' J.out).2.2)
      (case side4=>exact(R_reads' J.out).2.1)
      rintro e d0 ⟨a2,rfl,ag,hb⟩;refine⟨_,rfl,?_⟩;replace J:=kdB J hb;have L:=aK (R_lower ag (below_size (hbA HB.out)));replace D:=bkB D hb;replace HB:=hbB HB hb
      (try clear hb)
      (try clear a3)
      (try clear hk)
      (try clear hi)
      (try clear ag)
      refine hK.out _ _ (z3c D) (fun hHeld=>?_);clear hK K;refine znm (some 36) ?_;refine pu 4 (some 32) (mB 10 31) HT_ ?_;refine pu 5 (some 37) (mB 10 63) HT_ ?_;refine pu 6 (some 38) (mB 10 127) HT_ ?_;refine zoh 7 (some 8) (mB 10 255) HT_ fun K hK=>?_;refine box_step ?hg (N:=8) ?hd (cs:= #[.int .i64 0,.int .i64 0,.slice none 0 0]) (t:=24) ?hr ?_;(case hd=>rfl);(case hg=>rfl);(case hr=>first|(go_simp;done)|(go_simp;rfl))
      intro G hg dc hbox hb;replace J:=kdB J hb;replace L:=kdB L hb;have I:=aK (hbox);have an:=hbS HB hg;have aw:=hbS HB hg;replace HB:=hbB HB hb;have O:=neL D hg;have ah:=neG D hg;replace D:=bkB D hb;clear hb hbox hg;refine hK.out _ _ (z3c D) (fun hHeld=>?_);clear hK K;refine znm (some 8) ?_;exact norm_ zm (hCont (.slice bo am.length bp,a2,G) _ ⟨hHeld,(kdA J.out),(kdA L.out),(bkA D.out),(bkA I.out),an.out,aw.out,O.out,ah.out,(hbA HB.out)⟩)
     ·skip
      refine box_step ?hg (N:=8) ?hd (cs:= #[.int .i64 0,.int .i64 0,.slice none 0 0]) (t:=24) ?hr ?_;(case hd=>rfl);(case hg=>rfl);(case hr=>first|(go_simp;done)|(go_simp;rfl))
      intro G hg dn hbox hb;replace J:=kdB J hb;have I:=aK (hbox);have an:=hbS HB hg;have aw:=hbS HB hg;replace HB:=hbB HB hb;have O:=neL D hg;have ah:=neG D hg;replace D:=bkB D hb;clear hb hbox hg;obtain⟨a6,a7,a8⟩:=R_slice J.out
      (first|subst a8|(injection a8 with f1_ f2_ f3_;have f4_:=f1_.symm;have f5_:=f3_.symm;clear f1_ f2_ f3_;subst f4_;subst f5_))
      refine hK.out _ _ (z3c D) (fun hHeld=>?_);clear hK K;refine znm (some 8) ?_;refine zoh 3 (some 36) (mB 10 143) HT_ fun K hK=>?_;refine goes_ Tryd.func34 zc rfl #[.agg #[.int .i64 ac,.int .i64 af,.slice ai aa.length aj],.slice a6 am.length a7] ze rfl rfl (by(try simp only[List.map_toArray,List.map_cons,List.map_nil]);first|done|rfl|(simp only[List.length_drop,List.length_take];rfl)) ?_;with_reducible refine(matrix_Pick.calls ac af _ _ aa _ _ am X Y U ar _ ?side1 ?side2 ?side3 ?side4 b0.out).mono ?_
      (case side1=>exact kcB ap HB)
      (case side2=>exact ao.out)
      (case side3=>exact kcA (R_reads' J.out).2.2)
      (case side4=>exact(R_reads' J.out).2.1)
      rintro e dc ⟨a2,rfl,ag,hb⟩;refine⟨_,rfl,?_⟩;replace J:=kdB J hb;have L:=aK (R_lower ag (below_size (hbA HB.out)));replace D:=bkB D hb;replace I:=bkB I hb;replace HB:=hbB HB hb
      (try clear hb)
      (try clear a3)
      (try clear hk)
      (try clear hi)
      (try clear ag)
      refine hK.out _ _ (z3c D) (fun hHeld=>?_);clear hK K;refine znm (some 36) ?_;refine pu 4 (some 32) (mB 10 159) HT_ ?_;refine pu 5 (some 37) (mB 10 191) HT_ ?_;refine pu 6 (some 38) (mB 10 255) HT_ ?_;exact norm_ zm (hCont (.slice a6 am.length a7,a2,G) _ ⟨hHeld,(kdA J.out),(kdA L.out),(bkA D.out),(bkA I.out),an.out,aw.out,O.out,ah.out,(hbA HB.out)⟩)
    ·skip
     refine box_step ?hg (N:=8) ?hd (cs:= #[.int .i64 0,.int .i64 0,.slice none 0 0]) (t:=24) ?hr ?_;(case hd=>rfl);(case hg=>rfl);(case hr=>first|(go_simp;done)|(go_simp;rfl))
     intro G hg dm hbox hb;have I:=aK (hbox);have an:=hbS HB hg;have aw:=hbS HB hg;replace HB:=hbB HB hb;have O:=neL D hg;have ah:=neG D hg;replace D:=bkB D hb;clear hb hbox hg;refine hK.out _ _ (z3c D) (fun hHeld=>?_);clear hK K;refine znm (some 8) ?_;refine zoh 2 (some 35) (mB 10 135) HT_ fun K hK=>?_;refine goes_ Tryd.func35 zc rfl #[.int .u64 ax] ze rfl rfl (by(try simp only[List.map_toArray,List.map_cons,List.map_nil]);first|done|rfl|(simp only[List.length_drop,List.length_take];rfl)) ?_;with_reducible refine(subset_List.calls a9 ax am _ b6.out (tab_below HT.out zj)).mono ?_
     rintro e dn ⟨av,rfl,ag,hb⟩;refine⟨_,rfl,?_⟩;have J:=aK (R_lower ag (below_size (hbA HB.out)));replace D:=bkB D hb;replace I:=bkB I hb;replace HB:=hbB HB hb
     (try clear hb)
     (try clear a3)
     (try clear hk)
     (try clear hi)
     (try clear ag)
     obtain⟨a6,a7,a8⟩:=R_slice J.out
     (first|subst a8|(injection a8 with f1_ f2_ f3_;have f4_:=f1_.symm;have f5_:=f3_.symm;clear f1_ f2_ f3_;subst f4_;subst f5_))
     refine hK.out _ _ (z3c D) (fun hHeld=>?_);clear hK K;refine znm (some 35) ?_;refine zoh 3 (some 36) (mB 10 143) HT_ fun K hK=>?_;refine goes_ Tryd.func34 zc rfl #[.agg #[.int .i64 ac,.int .i64 af,.slice ai aa.length aj],.slice a6 am.length a7] ze rfl rfl (by(try simp only[List.map_toArray,List.map_cons,List.map_nil]);first|done|rfl|(simp only[List.length_drop,List.length_take];rfl)) ?_;with_reducible refine(matrix_Pick.calls ac af _ _ aa _ _ am X Y U ar _ ?side1 ?side2 ?side3 ?side4 b0.out).mono ?_
     (case side1=>exact kcB ap HB)
     (case side2=>exact ao.out)
     (case side3=>exact kcA (R_reads' J.out).2.2)
     (case side4=>exact(R_reads' J.out).2.1)
     rintro e dc ⟨a2,rfl,ag,hb⟩;refine⟨_,rfl,?_⟩;replace J:=kdB J hb;have L:=aK (R_lower ag (below_size (hbA HB.out)));replace D:=bkB D hb;replace I:=bkB I hb;replace HB:=hbB HB hb
     (try clear hb)
     (try clear a3)
     (try clear hk)
     (try clear hi)
     (try clear ag)
     refine hK.out _ _ (z3c D) (fun hHeld=>?_);clear hK K;refine znm (some 36) ?_;refine pu 4 (some 32) (mB 10 159) HT_ ?_;refine pu 5 (some 37) (mB 10 191) HT_ ?_;refine pu 6 (some 38) (mB 10 255) HT_ ?_;exact norm_ zm (hCont (.slice a6 am.length a7,a2,G) _ ⟨hHeld,(kdA J.out),(kdA L.out),(bkA D.out),(bkA I.out),an.out,aw.out,O.out,ah.out,(hbA HB.out)⟩)
   rintro⟨av,a2,G⟩ al ⟨hS_,h0_,h1_,h2_,h3_,h4_,h5_,h6_,h7_,h8_⟩;have n0_:Aside0 (Kd.R (Kd.int .i64) 3 al w.heap.size (fun _=>True) av am):=⟨h0_⟩
   have n1_:Aside0 (Kd.R (Kd.int .u8) 5 al w.heap.size (fun _=>True) a2 U):=⟨h1_⟩
   have n2_:Aside0 (al.heap[Z]? =some (.cells #[.int .i64 ac,.int .i64 af,.slice ai aa.length aj] 24 (0,0))):=⟨h2_⟩
   have n3_:Aside0 (al.heap[G]? =some (.cells #[.int .i64 0,.int .i64 0,.slice none 0 0] 24 (0,0))):=⟨h3_⟩
   have n4_:Aside0 (w.heap.size<=G):=⟨h4_⟩
   have n5_:Aside0 (w.heap.size<=G):=⟨h5_⟩
   have n6_:Aside0 (Z≠G):=⟨h6_⟩
   have n7_:Aside0 (G≠Z):=⟨h7_⟩
   have n8_:Aside0 (Below w.heap.size w al):=⟨h8_⟩
   clear D;clear HB;clear h0_ h1_ h2_ h3_ h4_ h5_ h6_ h7_ h8_;have J:=n0_;have L:=n1_;have D:=n2_;have I:=n3_;have an:=n4_;have aw:=n5_;have O:=n6_;have ah:=n7_;have HB:=n8_;clear n0_ n1_ n2_ n3_ n4_ n5_ n6_ n7_ n8_;have hHeld:al.cell? ⟨Z,0,none⟩=some (.int .i64 ac)/\al.cell? ⟨Z,1,none⟩=some (.int .i64 af)/\al.cell? ⟨Z,2,none⟩=some (.slice ai aa.length aj):=hS_;obtain⟨ab,ae,br⟩:=R_slice L.out
   (first|subst br|(injection br with f1_ f2_ f3_;have f4_:=f1_.symm;have f5_:=f3_.symm;clear f1_ f2_ f3_;subst f4_;subst f5_))
   refine znq ?_;refine zoh 8 (none) (mB 10 511) HT_ fun K hK=>?_;have dt:al.cell? ⟨G,0,none⟩=some (.int .i64 0):=(blk_cell I.out 0).trans rfl;have df:=blk_frozen I.out 0;have c6:=O.out;have c2:=ah.out;have du:al.cell? ⟨G,1,none⟩=some (.int .i64 0):=(blk_cell I.out 1).trans rfl;have dg:=blk_frozen I.out 1;have c7:=O.out;have c4:=ah.out;have dv:al.cell? ⟨G,2,none⟩=some (.slice none 0 0):=(blk_cell I.out 2).trans rfl;have dh:=blk_frozen I.out 2;have da:=O.out;have c5:=ah.out;refine zsk ?_;refine hK.out _ _ ⟨((cell_far (p:=⟨G,_,none⟩) O.out _).trans (((cell_far (p:=⟨G,_,none⟩) O.out _).trans (((cell_far (p:=⟨G,_,none⟩) O.out _).trans (hHeld.1)))))),((cell_far (p:=⟨G,_,none⟩) O.out _).trans (((cell_far (p:=⟨G,_,none⟩) O.out _).trans (((cell_far (p:=⟨G,_,none⟩) O.out _).trans (hHeld.2.1)))))),((cell_far (p:=⟨G,_,none⟩) O.out _).trans (((cell_far (p:=⟨G,_,none⟩) O.out _).trans (((cell_far (p:=⟨G,_,none⟩) O.out _).trans (hHeld.2.2))))))⟩ (fun hHeld=>?_);clear hK K;refine pu 9 (some 7) (mB 10 1023) HT_ ?_;refine done_ (done_of HT_.out zc) ?_;by_cases bd:ar=0
   case neg=>
    rw[if_neg bd]at H
    have c14b0:(ar==0)=false:=beq_eq_false_iff_ne.mpr bd;have c14b1:(ar !=0)=true:=bne_iff_ne.mpr bd;obtain⟨rfl,rfl,rfl,rfl⟩:=zP4 H
    try go_wp2
    refine bodyPost_ret (results_list (rs:= [.tmp 4,.tmp 5,.tmp 6,.tmp 7]) rfl zd (.tmp (.tmp (.tmp (.tmp .nil))))) rfl ?_;exact⟨_,rfE,nilE,hbA HB.out⟩
   rw[if_pos bd]at H
   have c14b0:(ar==0)=true:=beq_iff_eq.mpr bd;have c14b1:(ar !=0)=false:=bne_eq_false_iff_eq.mpr bd;clear bd;obtain⟨au,b1,H⟩:=bindO H
   (try dsimp only at H)
   obtain⟨⟨ba,bw,ay⟩,b2,H⟩:=bindO H
   (try dsimp only at H)
   by_cases be:ay=0
   case neg=>
    rw[if_neg be]at H
    have c17b0:(ay==0)=false:=beq_eq_false_iff_ne.mpr be;have c17b1:(ay !=0)=true:=bne_iff_ne.mpr be;obtain⟨rfl,rfl,rfl,rfl⟩:=zP4 H
    try go_wp2
    have n0_:Aside0 (Kd.R (Kd.int .i64) 3 (((al.setCell ⟨G,0,none⟩ (.int .i64 X)).setCell ⟨G,1,none⟩ (.int .i64 Y)).setCell ⟨G,2,none⟩ (.slice ab U.length ae)) w.heap.size (fun _=>True) av am):=⟨by(with_reducible repeat(first|apply R_alloc|apply R_drewN|apply R_drew));exact R_mono (R_far (p:=⟨G,2,none⟩) (R_far (p:=⟨G,1,none⟩) (R_far (p:=⟨G,0,none⟩) (R_types J.out I.out zb) (fun _ hk=>hk.2) (.int .i64 X)) (fun _ hk=>hk.2) (.int .i64 Y)) (fun _ hk=>hk.2) (.slice ab U.length ae)) (fun _ hk=>trivial)⟩
    have n1_:Aside0 (Kd.R (Kd.int .u8) 5 (((al.setCell ⟨G,0,none⟩ (.int .i64 X)).setCell ⟨G,1,none⟩ (.int .i64 Y)).setCell ⟨G,2,none⟩ (.slice ab U.length ae)) w.heap.size (fun _=>True) (.slice ab U.length ae) U):=⟨by(with_reducible repeat(first|apply R_alloc|apply R_drewN|apply R_drew));exact R_mono (R_far (p:=⟨G,2,none⟩) (R_far (p:=⟨G,1,none⟩) (R_far (p:=⟨G,0,none⟩) (R_types L.out I.out zb) (fun _ hk=>hk.2) (.int .i64 X)) (fun _ hk=>hk.2) (.int .i64 Y)) (fun _ hk=>hk.2) (.slice ab U.length ae)) (fun _ hk=>trivial)⟩
    have n2_:Aside0 ((((al.setCell ⟨G,0,none⟩ (.int .i64 X)).setCell ⟨G,1,none⟩ (.int .i64 Y)).setCell ⟨G,2,none⟩ (.slice ab U.length ae)).heap[Z]? =some (.cells #[.int .i64 ac,.int .i64 af,.slice ai aa.length aj] 24 (0,0))):=⟨by refine bkR ?_;refine blk_far ?_ O.out _;refine bkR ?_;refine blk_far ?_ O.out _;refine bkR ?_;refine blk_far ?_ O.out _;refine bkR ?_;exact D.out⟩
    have n3_:Aside0 ((((al.setCell ⟨G,0,none⟩ (.int .i64 X)).setCell ⟨G,1,none⟩ (.int .i64 Y)).setCell ⟨G,2,none⟩ (.slice ab U.length ae)).heap[G]? =some (.cells #[.int .i64 X,.int .i64 Y,.slice ab U.length ae] 24 (0,0))):=⟨by refine bkR ?_;refine blk_put (cs:= #[.int .i64 X,.int .i64 Y,.slice none 0 0]) ?_ 2 _ rfl;refine bkR ?_;refine blk_put (cs:= #[.int .i64 X,.int .i64 0,.slice none 0 0]) ?_ 1 _ rfl;refine bkR ?_;refine blk_put (cs:= #[.int .i64 0,.int .i64 0,.slice none 0 0]) ?_ 0 _ rfl;refine bkR ?_;exact I.out⟩
    have n4_:Aside0 (Below w.heap.size w (((al.setCell ⟨G,0,none⟩ (.int .i64 X)).setCell ⟨G,1,none⟩ (.int .i64 Y)).setCell ⟨G,2,none⟩ (.slice ab U.length ae))):=⟨hbA HB.out⟩
    (try clear J)
    (try clear L)
    (try clear D)
    (try clear I)
    (try clear HB)
    generalize(((al.setCell ⟨G,0,none⟩ (.int .i64 X)).setCell ⟨G,1,none⟩ (.int .i64 Y)).setCell ⟨G,2,none⟩ (.slice ab U.length ae))=dr at n0_ n1_ n2_ n3_ n4_⊢;have J:=n0_;have L:=n1_;have D:=n2_;have I:=n3_;have HB:=n4_;clear n0_ n1_ n2_ n3_ n4_;replace J:=aK (R_drew J.out);replace L:=aK (R_drew L.out);replace D:=aK (blk_drew D.out);replace I:=aK (blk_drew I.out);replace HB:=aK (below_drew1 HB.out);refine start_ (n:=12) (S:=fun w'=>w'.cell? ⟨G,0,none⟩=some (.int .i64 X)/\w'.cell? ⟨G,1,none⟩=some (.int .i64 Y)/\w'.cell? ⟨G,2,none⟩=some (.slice ab U.length ae)/\w'.cell? ⟨Z,0,none⟩=some (.int .i64 ac)/\w'.cell? ⟨Z,1,none⟩=some (.int .i64 af)/\w'.cell? ⟨Z,2,none⟩=some (.slice ai aa.length aj)) (ds:= []) (.replicate 12 false) zc rfl rfl (z3k I (z3c D)) (fun hHeld=>?_);refine with_tabW local_Least.tab10 local_Least.bits10 (fun HT_ HW_=>?_);generalize dr.drew=d8 at J L D I HB hHeld⊢;refine pu 2 (some 45) (mB 12 4) HT_ ?_;refine tk6 0 (some 43) (mB 12 5) HT_ HW_ hHeld ?_;refine tk6 1 (some 44) (mB 12 7) HT_ HW_ hHeld ?_;refine zoh 3 (some 46) (mB 12 15) HT_ fun K hK=>?_;refine goes_ Tryd.func37 zc rfl #[.agg #[.int .i64 ac,.int .i64 af,.slice ai aa.length aj],.int .i64 a1] ze rfl rfl (by(try simp only[List.map_toArray,List.map_cons,List.map_nil]);first|done|rfl|(simp only[List.length_drop,List.length_take];rfl)) ?_;with_reducible refine(local_row.calls ac af (fun k_=>k_<w.heap.size) _ _ aa a1 au _ ?side1 b1.out).mono ?_
    (case side1=>exact V_mk ao.out (F_below (C_F (Kd.heap_int .u8) ap.out) (hbA HB.out)))
    rintro e d9 ⟨bx,rfl,ag,hb⟩;refine⟨_,rfl,?_⟩;have ak:=aK (V_lower (V_mono (ok':=fun k_=>some k_≠(av:Value).ownBlock/\some k_≠(.slice ab U.length ae:Value).ownBlock/\k_≠Z/\k_≠G) ag (fun k_ hk_=>⟨Or.elim hk_ (fun hs_=>fun e_=>Nat.not_le.2 hs_ (R_base J.out k_ e_.symm)) (fun hn_=>(Kd.fresh' (R_lt (kdA J.out)) k_ hn_)),Or.elim hk_ (fun hs_=>fun e_=>Nat.not_le.2 hs_ (R_base L.out k_ e_.symm)) (fun hn_=>(Kd.fresh' (R_lt (kdA L.out)) k_ hn_)),Or.elim hk_ (fun hs_=>fun e_=>Nat.not_le.2 hs_ zal) (fun hn_=>(Kd.freshB (g:=Z) (o:= .cells #[.int .i64 ac,.int .i64 af,.slice ai aa.length aj] 24 (0,0)) (bkA D.out) k_ hn_)),Or.elim hk_ (fun hs_=>fun e_=>Nat.not_le.2 hs_ zan) (fun hn_=>(Kd.freshB (g:=G) (o:= .cells #[.int .i64 X,.int .i64 Y,.slice ab U.length ae] 24 (0,0)) (bkA I.out) k_ hn_))⟩)) (below_size (hbA HB.out)));replace J:=kdB J hb;replace L:=kdB L hb;replace D:=bkB D hb;replace I:=bkB I hb;replace HB:=hbB HB hb
    (try clear hb)
    (try clear a3)
    (try clear hk)
    (try clear hi)
    (try clear ag)
    obtain⟨ca,cf,bu⟩:=V_slice ak.out
    (first|subst bu|(injection bu with f1_ f2_ f3_;have f4_:=f1_.symm;have f5_:=f3_.symm;clear f1_ f2_ f3_;subst f4_;subst f5_))
    refine hK.out _ _ (z3k I (z3c D)) (fun hHeld=>?_);clear hK K;refine znm (some 46) ?_;refine zoh 4 (some 47) (mB 12 31) HT_ fun K hK=>?_;refine goes_ Tryd.func36 zc rfl #[.agg #[.int .i64 X,.int .i64 Y,.slice ab U.length ae],.slice ca au.length cf] ze rfl rfl (by(try simp only[List.map_toArray,List.map_cons,List.map_nil]);first|done|rfl|(simp only[List.length_drop,List.length_take];rfl)) ?_;with_reducible refine(gauss_Combine.calls a9 X Y _ _ U _ _ au ba bw ay _ ?side1 ?side2 ?side3 ?side4 b2.out).mono ?_
    (case side1=>exact kcA (R_reads' L.out).2.2)
    (case side2=>exact(R_reads' L.out).2.1)
    (case side3=>repeat(first|exact(V_reads' ak.out).2.2|(with_reducible refine Kd.C_alloc ?_ _)|(with_reducible refine Kd.C_drewN ?_ _)|(with_reducible refine Kd.C_drew ?_)))
    (case side4=>exact(V_reads' ak.out).2.1)
    rintro e ea ⟨bz,rfl,ag,hb⟩;refine⟨_,rfl,?_⟩;replace J:=kdB J hb;replace ak:=aK (V_elder' (by(with_reducible repeat(first|apply Kd.V_alloc|apply V_drewN|apply V_drew));exact ak.out) (R_base ag) hb);have aq:=aK (R_lower (R_new' ag (R_lt (kdA L.out))) (below_size (hbA HB.out)));replace L:=aK (R_elder' (kdA L.out) (R_base ag) hb);replace D:=bkB D hb;replace I:=bkB I hb;replace HB:=hbB HB hb
    (try clear hb)
    (try clear a3)
    (try clear hk)
    (try clear hi)
    (try clear ag)
    refine hK.out _ _ (z3k I (z3c D)) (fun hHeld=>?_);clear hK K;refine znm (some 47) ?_;refine pu 5 (some 42) (mB 12 63) HT_ ?_;refine pu 6 (some 48) (mB 12 127) HT_ ?_;refine pu 7 (some 49) (mB 12 255) HT_ ?_;refine pu 8 (some 50) (mB 12 511) HT_ ?_;refine pu 9 (some 9) (mB 12 1023) HT_ ?_;refine pu 10 (some 6) (mB 12 2047) HT_ ?_;refine pu 11 (some 7) (mB 12 4095) HT_ ?_;refine done_ (done_of HT_.out zc) ?_
    try go_wp2
    refine bodyPost_ret (results_list (rs:= [.tmp 4,.tmp 5,.tmp 6,.tmp 7]) rfl zd (.tmp (.tmp (.tmp (.tmp .nil))))) rfl ?_;exact⟨_,rfE,nilE,hbA HB.out⟩
   rw[if_pos be]at H
   have c17b0:(ay==0)=true:=beq_iff_eq.mpr be;have c17b1:(ay !=0)=false:=bne_eq_false_iff_eq.mpr be;clear be;by_cases bh:bw=true
   case neg=>
    replace bh:=Bool.eq_false_iff.mpr bh;subst bh;rw[if_neg nofT]at H
    obtain⟨rfl,rfl,rfl,rfl⟩:=zP4 H
    try go_wp2
    have n0_:Aside0 (Kd.R (Kd.int .i64) 3 (((al.setCell ⟨G,0,none⟩ (.int .i64 X)).setCell ⟨G,1,none⟩ (.int .i64 Y)).setCell ⟨G,2,none⟩ (.slice ab U.length ae)) w.heap.size (fun _=>True) av am):=⟨by(with_reducible repeat(first|apply R_alloc|apply R_drewN|apply R_drew));exact R_mono (R_far (p:=⟨G,2,none⟩) (R_far (p:=⟨G,1,none⟩) (R_far (p:=⟨G,0,none⟩) (R_types J.out I.out zb) (fun _ hk=>hk.2) (.int .i64 X)) (fun _ hk=>hk.2) (.int .i64 Y)) (fun _ hk=>hk.2) (.slice ab U.length ae)) (fun _ hk=>trivial)⟩
    have n1_:Aside0 (Kd.R (Kd.int .u8) 5 (((al.setCell ⟨G,0,none⟩ (.int .i64 X)).setCell ⟨G,1,none⟩ (.int .i64 Y)).setCell ⟨G,2,none⟩ (.slice ab U.length ae)) w.heap.size (fun _=>True) (.slice ab U.length ae) U):=⟨by(with_reducible repeat(first|apply R_alloc|apply R_drewN|apply R_drew));exact R_mono (R_far (p:=⟨G,2,none⟩) (R_far (p:=⟨G,1,none⟩) (R_far (p:=⟨G,0,none⟩) (R_types L.out I.out zb) (fun _ hk=>hk.2) (.int .i64 X)) (fun _ hk=>hk.2) (.int .i64 Y)) (fun _ hk=>hk.2) (.slice ab U.length ae)) (fun _ hk=>trivial)⟩
    have n2_:Aside0 ((((al.setCell ⟨G,0,none⟩ (.int .i64 X)).setCell ⟨G,1,none⟩ (.int .i64 Y)).setCell ⟨G,2,none⟩ (.slice ab U.length ae)).heap[Z]? =some (.cells #[.int .i64 ac,.int .i64 af,.slice ai aa.length aj] 24 (0,0))):=⟨by refine bkR ?_;refine blk_far ?_ O.out _;refine bkR ?_;refine blk_far ?_ O.out _;refine bkR ?_;refine blk_far ?_ O.out _;refine bkR ?_;exact D.out⟩
    have n3_:Aside0 ((((al.setCell ⟨G,0,none⟩ (.int .i64 X)).setCell ⟨G,1,none⟩ (.int .i64 Y)).setCell ⟨G,2,none⟩ (.slice ab U.length ae)).heap[G]? =some (.cells #[.int .i64 X,.int .i64 Y,.slice ab U.length ae] 24 (0,0))):=⟨by refine bkR ?_;refine blk_put (cs:= #[.int .i64 X,.int .i64 Y,.slice none 0 0]) ?_ 2 _ rfl;refine bkR ?_;refine blk_put (cs:= #[.int .i64 X,.int .i64 0,.slice none 0 0]) ?_ 1 _ rfl;refine bkR ?_;refine blk_put (cs:= #[.int .i64 0,.int .i64 0,.slice none 0 0]) ?_ 0 _ rfl;refine bkR ?_;exact I.out⟩
    have n4_:Aside0 (Below w.heap.size w (((al.setCell ⟨G,0,none⟩ (.int .i64 X)).setCell ⟨G,1,none⟩ (.int .i64 Y)).setCell ⟨G,2,none⟩ (.slice ab U.length ae))):=⟨hbA HB.out⟩
    (try clear J)
    (try clear L)
    (try clear D)
    (try clear I)
    (try clear HB)
    generalize(((al.setCell ⟨G,0,none⟩ (.int .i64 X)).setCell ⟨G,1,none⟩ (.int .i64 Y)).setCell ⟨G,2,none⟩ (.slice ab U.length ae))=dq at n0_ n1_ n2_ n3_ n4_⊢;have J:=n0_;have L:=n1_;have D:=n2_;have I:=n3_;have HB:=n4_;clear n0_ n1_ n2_ n3_ n4_;replace J:=aK (R_drew J.out);replace L:=aK (R_drew L.out);replace D:=aK (blk_drew D.out);replace I:=aK (blk_drew I.out);replace HB:=aK (below_drew1 HB.out);refine start_ (n:=12) (S:=fun w'=>w'.cell? ⟨G,0,none⟩=some (.int .i64 X)/\w'.cell? ⟨G,1,none⟩=some (.int .i64 Y)/\w'.cell? ⟨G,2,none⟩=some (.slice ab U.length ae)/\w'.cell? ⟨Z,0,none⟩=some (.int .i64 ac)/\w'.cell? ⟨Z,1,none⟩=some (.int .i64 af)/\w'.cell? ⟨Z,2,none⟩=some (.slice ai aa.length aj)) (ds:= []) (.replicate 12 false) zc rfl rfl (z3k I (z3c D)) (fun hHeld=>?_);refine with_tabW local_Least.tab10 local_Least.bits10 (fun HT_ HW_=>?_);generalize dq.drew=d5 at J L D I HB hHeld⊢;refine pu 2 (some 45) (mB 12 4) HT_ ?_;refine tk6 0 (some 43) (mB 12 5) HT_ HW_ hHeld ?_;refine tk6 1 (some 44) (mB 12 7) HT_ HW_ hHeld ?_;refine zoh 3 (some 46) (mB 12 15) HT_ fun K hK=>?_;refine goes_ Tryd.func37 zc rfl #[.agg #[.int .i64 ac,.int .i64 af,.slice ai aa.length aj],.int .i64 a1] ze rfl rfl (by(try simp only[List.map_toArray,List.map_cons,List.map_nil]);first|done|rfl|(simp only[List.length_drop,List.length_take];rfl)) ?_;with_reducible refine(local_row.calls ac af (fun k_=>k_<w.heap.size) _ _ aa a1 au _ ?side1 b1.out).mono ?_
    (case side1=>exact V_mk ao.out (F_below (C_F (Kd.heap_int .u8) ap.out) (hbA HB.out)))
    rintro e d6 ⟨bx,rfl,ag,hb⟩;refine⟨_,rfl,?_⟩;have ak:=aK (V_lower (V_mono (ok':=fun k_=>some k_≠(av:Value).ownBlock/\some k_≠(.slice ab U.length ae:Value).ownBlock/\k_≠Z/\k_≠G) ag (fun k_ hk_=>⟨Or.elim hk_ (fun hs_=>fun e_=>Nat.not_le.2 hs_ (R_base J.out k_ e_.symm)) (fun hn_=>(Kd.fresh' (R_lt (kdA J.out)) k_ hn_)),Or.elim hk_ (fun hs_=>fun e_=>Nat.not_le.2 hs_ (R_base L.out k_ e_.symm)) (fun hn_=>(Kd.fresh' (R_lt (kdA L.out)) k_ hn_)),Or.elim hk_ (fun hs_=>fun e_=>Nat.not_le.2 hs_ zal) (fun hn_=>(Kd.freshB (g:=Z) (o:= .cells #[.int .i64 ac,.int .i64 af,.slice ai aa.length aj] 24 (0,0)) (bkA D.out) k_ hn_)),Or.elim hk_ (fun hs_=>fun e_=>Nat.not_le.2 hs_ zan) (fun hn_=>(Kd.freshB (g:=G) (o:= .cells #[.int .i64 X,.int .i64 Y,.slice ab U.length ae] 24 (0,0)) (bkA I.out) k_ hn_))⟩)) (below_size (hbA HB.out)));replace J:=kdB J hb;replace L:=kdB L hb;replace D:=bkB D hb;replace I:=bkB I hb;replace HB:=hbB HB hb
    (try clear hb)
    (try clear a3)
    (try clear hk)
    (try clear hi)
    (try clear ag)
    obtain⟨b9,ce,bt⟩:=V_slice ak.out
    (first|subst bt|(injection bt with f1_ f2_ f3_;have f4_:=f1_.symm;have f5_:=f3_.symm;clear f1_ f2_ f3_;subst f4_;subst f5_))
    refine hK.out _ _ (z3k I (z3c D)) (fun hHeld=>?_);clear hK K;refine znm (some 46) ?_;refine zoh 4 (some 47) (mB 12 31) HT_ fun K hK=>?_;refine goes_ Tryd.func36 zc rfl #[.agg #[.int .i64 X,.int .i64 Y,.slice ab U.length ae],.slice b9 au.length ce] ze rfl rfl (by(try simp only[List.map_toArray,List.map_cons,List.map_nil]);first|done|rfl|(simp only[List.length_drop,List.length_take];rfl)) ?_;with_reducible refine(gauss_Combine.calls a9 X Y _ _ U _ _ au ba false ay _ ?side1 ?side2 ?side3 ?side4 b2.out).mono ?_
    (case side1=>exact kcA (R_reads' L.out).2.2)
    (case side2=>exact(R_reads' L.out).2.1)
    (case side3=>repeat(first|exact(V_reads' ak.out).2.2|(with_reducible refine Kd.C_alloc ?_ _)|(with_reducible refine Kd.C_drewN ?_ _)|(with_reducible refine Kd.C_drew ?_)))
    (case side4=>exact(V_reads' ak.out).2.1)
    rintro e d7 ⟨bz,rfl,ag,hb⟩;refine⟨_,rfl,?_⟩;replace J:=kdB J hb;replace ak:=aK (V_elder' (by(with_reducible repeat(first|apply Kd.V_alloc|apply V_drewN|apply V_drew));exact ak.out) (R_base ag) hb);have aq:=aK (R_lower (R_new' ag (R_lt (kdA L.out))) (below_size (hbA HB.out)));replace L:=aK (R_elder' (kdA L.out) (R_base ag) hb);replace D:=bkB D hb;replace I:=bkB I hb;replace HB:=hbB HB hb
    (try clear hb)
    (try clear a3)
    (try clear hk)
    (try clear hi)
    (try clear ag)
    refine hK.out _ _ (z3k I (z3c D)) (fun hHeld=>?_);clear hK K;refine znm (some 47) ?_;refine pu 5 (some 42) (mB 12 63) HT_ ?_;refine pu 6 (some 48) (mB 12 127) HT_ ?_;refine pu 7 (some 49) (mB 12 255) HT_ ?_;refine pu 8 (some 50) (mB 12 511) HT_ ?_;refine pu 9 (some 9) (mB 12 1023) HT_ ?_;refine pu 10 (some 6) (mB 12 2047) HT_ ?_;refine pu 11 (some 7) (mB 12 4095) HT_ ?_;refine done_ (done_of HT_.out zc) ?_
    try go_wp2
    refine bodyPost_ret (results_list (rs:= [.tmp 4,.tmp 5,.tmp 6,.tmp 7]) rfl zd (.tmp (.tmp (.tmp (.tmp .nil))))) rfl ?_;exact⟨_,rfE,nilE,hbA HB.out⟩
   subst bh;rw[if_pos rfl]at H
   obtain⟨db,dd,H⟩:=bindO H
   (try dsimp only at H)
   obtain⟨rfl,rfl,rfl,rfl⟩:=zP4 H
   try go_wp2
   have n0_:Aside0 (Kd.R (Kd.int .i64) 3 (((al.setCell ⟨G,0,none⟩ (.int .i64 X)).setCell ⟨G,1,none⟩ (.int .i64 Y)).setCell ⟨G,2,none⟩ (.slice ab U.length ae)) w.heap.size (fun _=>True) av am):=⟨by(with_reducible repeat(first|apply R_alloc|apply R_drewN|apply R_drew));exact R_mono (R_far (p:=⟨G,2,none⟩) (R_far (p:=⟨G,1,none⟩) (R_far (p:=⟨G,0,none⟩) (R_types J.out I.out zb) (fun _ hk=>hk.2) (.int .i64 X)) (fun _ hk=>hk.2) (.int .i64 Y)) (fun _ hk=>hk.2) (.slice ab U.length ae)) (fun _ hk=>trivial)⟩
   have n1_:Aside0 (Kd.R (Kd.int .u8) 5 (((al.setCell ⟨G,0,none⟩ (.int .i64 X)).setCell ⟨G,1,none⟩ (.int .i64 Y)).setCell ⟨G,2,none⟩ (.slice ab U.length ae)) w.heap.size (fun _=>True) (.slice ab U.length ae) U):=⟨by(with_reducible repeat(first|apply R_alloc|apply R_drewN|apply R_drew));exact R_mono (R_far (p:=⟨G,2,none⟩) (R_far (p:=⟨G,1,none⟩) (R_far (p:=⟨G,0,none⟩) (R_types L.out I.out zb) (fun _ hk=>hk.2) (.int .i64 X)) (fun _ hk=>hk.2) (.int .i64 Y)) (fun _ hk=>hk.2) (.slice ab U.length ae)) (fun _ hk=>trivial)⟩
   have n2_:Aside0 ((((al.setCell ⟨G,0,none⟩ (.int .i64 X)).setCell ⟨G,1,none⟩ (.int .i64 Y)).setCell ⟨G,2,none⟩ (.slice ab U.length ae)).heap[Z]? =some (.cells #[.int .i64 ac,.int .i64 af,.slice ai aa.length aj] 24 (0,0))):=⟨by refine bkR ?_;refine blk_far ?_ O.out _;refine bkR ?_;refine blk_far ?_ O.out _;refine bkR ?_;refine blk_far ?_ O.out _;refine bkR ?_;exact D.out⟩
   have n3_:Aside0 ((((al.setCell ⟨G,0,none⟩ (.int .i64 X)).setCell ⟨G,1,none⟩ (.int .i64 Y)).setCell ⟨G,2,none⟩ (.slice ab U.length ae)).heap[G]? =some (.cells #[.int .i64 X,.int .i64 Y,.slice ab U.length ae] 24 (0,0))):=⟨by refine bkR ?_;refine blk_put (cs:= #[.int .i64 X,.int .i64 Y,.slice none 0 0]) ?_ 2 _ rfl;refine bkR ?_;refine blk_put (cs:= #[.int .i64 X,.int .i64 0,.slice none 0 0]) ?_ 1 _ rfl;refine bkR ?_;refine blk_put (cs:= #[.int .i64 0,.int .i64 0,.slice none 0 0]) ?_ 0 _ rfl;refine bkR ?_;exact I.out⟩
   have n4_:Aside0 (Below w.heap.size w (((al.setCell ⟨G,0,none⟩ (.int .i64 X)).setCell ⟨G,1,none⟩ (.int .i64 Y)).setCell ⟨G,2,none⟩ (.slice ab U.length ae))):=⟨hbA HB.out⟩
   (try clear J)
   (try clear L)
   (try clear D)
   (try clear I)
   (try clear HB)
   generalize(((al.setCell ⟨G,0,none⟩ (.int .i64 X)).setCell ⟨G,1,none⟩ (.int .i64 Y)).setCell ⟨G,2,none⟩ (.slice ab U.length ae))=dp at n0_ n1_ n2_ n3_ n4_⊢;have J:=n0_;have L:=n1_;have D:=n2_;have I:=n3_;have HB:=n4_;clear n0_ n1_ n2_ n3_ n4_;replace J:=aK (R_drew J.out);replace L:=aK (R_drew L.out);replace D:=aK (blk_drew D.out);replace I:=aK (blk_drew I.out);replace HB:=aK (below_drew1 HB.out);refine start_ (n:=12) (S:=fun w'=>w'.cell? ⟨G,0,none⟩=some (.int .i64 X)/\w'.cell? ⟨G,1,none⟩=some (.int .i64 Y)/\w'.cell? ⟨G,2,none⟩=some (.slice ab U.length ae)/\w'.cell? ⟨Z,0,none⟩=some (.int .i64 ac)/\w'.cell? ⟨Z,1,none⟩=some (.int .i64 af)/\w'.cell? ⟨Z,2,none⟩=some (.slice ai aa.length aj)) (ds:= []) (.replicate 12 false) zc rfl rfl (z3k I (z3c D)) (fun hHeld=>?_);refine with_tabW local_Least.tab10 local_Least.bits10 (fun HT_ HW_=>?_);generalize dp.drew=d1 at J L D I HB hHeld⊢;refine pu 2 (some 45) (mB 12 4) HT_ ?_;refine tk6 0 (some 43) (mB 12 5) HT_ HW_ hHeld ?_;refine tk6 1 (some 44) (mB 12 7) HT_ HW_ hHeld ?_;refine zoh 3 (some 46) (mB 12 15) HT_ fun K hK=>?_;refine goes_ Tryd.func37 zc rfl #[.agg #[.int .i64 ac,.int .i64 af,.slice ai aa.length aj],.int .i64 a1] ze rfl rfl (by(try simp only[List.map_toArray,List.map_cons,List.map_nil]);first|done|rfl|(simp only[List.length_drop,List.length_take];rfl)) ?_;with_reducible refine(local_row.calls ac af (fun k_=>k_<w.heap.size) _ _ aa a1 au _ ?side1 b1.out).mono ?_
   (case side1=>exact V_mk ao.out (F_below (C_F (Kd.heap_int .u8) ap.out) (hbA HB.out)))
   rintro e d2 ⟨bx,rfl,ag,hb⟩;refine⟨_,rfl,?_⟩;have ak:=aK (V_lower (V_mono (ok':=fun k_=>some k_≠(av:Value).ownBlock/\some k_≠(.slice ab U.length ae:Value).ownBlock/\k_≠Z/\k_≠G) ag (fun k_ hk_=>⟨Or.elim hk_ (fun hs_=>fun e_=>Nat.not_le.2 hs_ (R_base J.out k_ e_.symm)) (fun hn_=>(Kd.fresh' (R_lt (kdA J.out)) k_ hn_)),Or.elim hk_ (fun hs_=>fun e_=>Nat.not_le.2 hs_ (R_base L.out k_ e_.symm)) (fun hn_=>(Kd.fresh' (R_lt (kdA L.out)) k_ hn_)),Or.elim hk_ (fun hs_=>fun e_=>Nat.not_le.2 hs_ zal) (fun hn_=>(Kd.freshB (g:=Z) (o:= .cells #[.int .i64 ac,.int .i64 af,.slice ai aa.length aj] 24 (0,0)) (bkA D.out) k_ hn_)),Or.elim hk_ (fun hs_=>fun e_=>Nat.not_le.2 hs_ zan) (fun hn_=>(Kd.freshB (g:=G) (o:= .cells #[.int .i64 X,.int .i64 Y,.slice ab U.length ae] 24 (0,0)) (bkA I.out) k_ hn_))⟩)) (below_size (hbA HB.out)));replace J:=kdB J hb;replace L:=kdB L hb;replace D:=bkB D hb;replace I:=bkB I hb;replace HB:=hbB HB hb
   (try clear hb)
   (try clear a3)
   (try clear hk)
   (try clear hi)
   (try clear ag)
   obtain⟨b7,cb,bs⟩:=V_slice ak.out
   (first|subst bs|(injection bs with f1_ f2_ f3_;have f4_:=f1_.symm;have f5_:=f3_.symm;clear f1_ f2_ f3_;subst f4_;subst f5_))
   refine hK.out _ _ (z3k I (z3c D)) (fun hHeld=>?_);clear hK K;refine znm (some 46) ?_;refine zoh 4 (some 47) (mB 12 31) HT_ fun K hK=>?_;refine goes_ Tryd.func36 zc rfl #[.agg #[.int .i64 X,.int .i64 Y,.slice ab U.length ae],.slice b7 au.length cb] ze rfl rfl (by(try simp only[List.map_toArray,List.map_cons,List.map_nil]);first|done|rfl|(simp only[List.length_drop,List.length_take];rfl)) ?_;with_reducible refine(gauss_Combine.calls a9 X Y _ _ U _ _ au ba true ay _ ?side1 ?side2 ?side3 ?side4 b2.out).mono ?_
   (case side1=>exact kcA (R_reads' L.out).2.2)
   (case side2=>exact(R_reads' L.out).2.1)
   (case side3=>repeat(first|exact(V_reads' ak.out).2.2|(with_reducible refine Kd.C_alloc ?_ _)|(with_reducible refine Kd.C_drewN ?_ _)|(with_reducible refine Kd.C_drew ?_)))
   (case side4=>exact(V_reads' ak.out).2.1)
   rintro e d3 ⟨bz,rfl,ag,hb⟩;refine⟨_,rfl,?_⟩;replace J:=kdB J hb;replace ak:=aK (V_elder' (by(with_reducible repeat(first|apply Kd.V_alloc|apply V_drewN|apply V_drew));exact ak.out) (R_base ag) hb);have aq:=aK (R_lower (R_new' ag (R_lt (kdA L.out))) (below_size (hbA HB.out)));replace L:=aK (R_elder' (kdA L.out) (R_base ag) hb);replace D:=bkB D hb;replace I:=bkB I hb;replace HB:=hbB HB hb
   (try clear hb)
   (try clear a3)
   (try clear hk)
   (try clear hi)
   (try clear ag)
   refine hK.out _ _ (z3k I (z3c D)) (fun hHeld=>?_);clear hK K;refine znm (some 47) ?_;refine pu 5 (some 42) (mB 12 63) HT_ ?_;refine pu 6 (some 48) (mB 12 127) HT_ ?_;refine pu 7 (some 49) (mB 12 255) HT_ ?_;refine pu 8 (some 50) (mB 12 511) HT_ ?_;refine pu 9 (some 9) (mB 12 1023) HT_ ?_;refine pu 10 (some 6) (mB 12 2047) HT_ ?_;refine pu 11 (some 7) (mB 12 4095) HT_ ?_;refine done_ (done_of HT_.out zc) ?_;have di:=O.out;have dj:=ah.out;obtain⟨ck,cl,cm,cu,cv,cw⟩:=cell3 D;obtain⟨b8,cd,cg⟩:=R_slice aq.out;subst cg
   try go_wp2_with (first|((with_reducible refine gC 38 rfl ?_);refine cG (some 63) Tryd.func38 #[.int .i64 ac,.int .u64 ax,.slice b8 ba.length cd] ?_;(with_reducible refine(local_put.calls a9 ac ax _ _ ba db _ ?side1 ?side2 dd.out (tab_below HT.out zj)).mono ?_);(case side1=>exact kcA (R_reads' aq.out).2.2);(case side2=>exact(R_reads' aq.out).2.1);rintro e d4 ⟨dx,rfl,ag,hb⟩;refine⟨_,rfl,?_⟩;replace J:=kdB J hb;replace ak:=aK (V_elder' (by(with_reducible repeat(first|apply Kd.V_alloc|apply V_drewN|apply V_drew));exact ak.out) (R_base ag) hb);have b4:=aK (R_lower (R_new' (R_new' ag (R_lt (kdA L.out))) (R_lt (kdA aq.out))) (below_size (hbA HB.out)));replace L:=aK (R_elder' (kdA L.out) (R_base ag) hb);replace aq:=aK (R_elder' (kdA aq.out) (R_base ag) hb);replace D:=bkB D hb;replace I:=bkB I hb;replace HB:=hbB HB hb;(try clear hb);(try clear ag)))
   refine bodyPost_ret (results_list (rs:= [.tmp 4,.tmp 5,.tmp 6,.tmp 7]) rfl zd (.tmp (.tmp (.tmp (.tmp .nil))))) rfl ?_;exact⟨_,rfE,by(with_reducible repeat(first|apply R_alloc|apply R_drewN|apply R_drew));exact R_mono b4.out (fun _ hk=>trivial),hbA HB.out⟩
def recoupref06_Has.f(a0:Int)(a1:Int):Option (Bool):=if a1>=0 then(if a1<64 then(if 0<=(IntKind.u64.wrap (a1))then(some ((Go.bits .and .u64 (shr .u64 a0 (IntKind.u64.wrap (a1))) 1)==1))else(none))else(some false))else(some false)
theorem recoupref06_Has.calls(a0:Int)(a1:Int)(r:Bool)(w:World)(h:recoupref06_Has.f a0 a1=some r):
 Calls Tryd.prog 18 #[.int .u64 a0,.int .i64 a1] w fun e w'=>e= .returned (.bool r)/\Drawn0 w w':=by
 have H:(if a1>=0 then(if a1<64 then(if 0<=(IntKind.u64.wrap (a1))then(some ((Go.bits .and .u64 (shr .u64 a0 (IntKind.u64.wrap (a1))) 1)==1))else(none))else(some false))else(some false))=some r:=h;clear h;by_cases c3:a1>=0
 ·rw[if_pos c3]at H
  have c3b0:decide (0<=a1)=true:=decide_eq_true c3;clear c3;by_cases c4:a1<64
  ·rw[if_pos c4]at H
   have c4b0:decide (a1<64)=true:=decide_eq_true c4;clear c4;obtain⟨G,I⟩: ∃j_:Int,(IntKind.u64.wrap (a1))=j_:=⟨_,rfl⟩
   replace H:(if 0<=(G)then(some ((Go.bits .and .u64 (shr .u64 a0 (G)) 1)==1))else(none))=some r:=by first|(rw[I]at H;exact H)|(simp only[I]at H⊢;exact H)
   by_cases c6:0<=(G)
   ·rw[if_pos c6]at H
    have c6b0:=eq_true c6;have c6b1:decide (0<=(G))=true:=decide_eq_true c6;clear c6;obtain⟨J,D⟩: ∃j_:Int,(shr .u64 a0 (G))=j_:=⟨_,rfl⟩
    replace H:(some ((Go.bits .and .u64 (J) 1)==1))=some r:=by first|(rw[D]at H;exact H)|(simp only[D]at H⊢;exact H)
    have hji7_:(a0 / 2^min (G).toNat 64)=J:=D;have hji7z:(G)<=64->(a0 / 2^(G).toNat)=J:=shr_small D;obtain rfl:=Option.some.inj H
    go_enter Tryd.func18,Tryd.ntmps18
    go_wp2
    go_ret
    exact⟨by first|rfl|(simp;done)|(simp only[<-I,<-D]<;>(first|rfl|simp))|(simp[*];done),by repeat(first|exact Drawn0.refl _|apply Drawn0.step)⟩
   ·rw[if_neg c6]at H
    exact absurd H zd
  ·rw[if_neg c4]at H
   have c4b0:decide (a1<64)=false:=decide_eq_false c4;clear c4;obtain rfl:=Option.some.inj H
   go_enter Tryd.func18,Tryd.ntmps18
   go_wp2
   go_ret
   exact zD
 ·rw[if_neg c3]at H
  have c3b0:decide (0<=a1)=false:=decide_eq_false c3;clear c3;obtain rfl:=Option.some.inj H
  go_enter Tryd.func18,Tryd.ntmps18
  go_wp2
  go_ret
  exact zD
def recoupref03_Right.f(D:Int)(G:Int)(I:List Int):Option (Bool):=if D>=0 then(if D<=64 then(if G>=0 then(if G<=64 then(some ((I.length:Int)==(wrap64 (D*G))))else(some false))else(some false))else(some false))else(some false)
theorem recoupref03_Right.calls(D:Int)(G:Int)(L:Option Addr)(O:Nat)(J:List Int)(r:Bool)(w:World)(aa:Kd.C (Kd.int .u8) w L J.length J)(Z:J.length<=O)(h:recoupref03_Right.f D G J=some r):
 Calls Tryd.prog 45 #[.agg #[.int .i64 D,.int .i64 G,.slice L J.length O]] w fun e w'=>e= .returned (.bool r)/\Below w.heap.size w w':=by
 have ba:=Tryd.underlying24;have a9:=aK aa;have a8:=aK Z;clear aa Z;have HB:=aK (Below.refl w.heap.size w);have H:(if D>=0 then(if D<=64 then(if G>=0 then(if G<=64 then(some ((J.length:Int)==(wrap64 (D*G))))else(some false))else(some false))else(some false))else(some false))=some r:=h;clear h;by_cases c2:D>=0
 ·rw[if_pos c2]at H
  have c2b0:decide (0<=D)=true:=decide_eq_true c2;clear c2;by_cases c3:D<=64
  ·rw[if_pos c3]at H
   have c3b0:decide (D<=64)=true:=decide_eq_true c3;clear c3;by_cases c4:G>=0
   ·rw[if_pos c4]at H
    have c4b0:decide (0<=G)=true:=decide_eq_true c4;clear c4;by_cases c5:G<=64
    ·rw[if_pos c5]at H
     have c5b0:decide (G<=64)=true:=decide_eq_true c5;clear c5;obtain rfl:=Option.some.inj H
     go_enter Tryd.func45,Tryd.ntmps45
     go_wp2_with (first|((with_reducible refine gD 1 rfl ?_);(try(refine gate_guard ze ?_;dsimp only));refine bE 1 #[.int .i64 D,.int .i64 G,.slice L J.length O] 24 ?_;intro Y hg w6 hbox hb;have I:=aK (hbox);have X:=hbS HB hg;have U:=hbS HB hg;replace HB:=hbB HB hb;clear hb hbox hg;obtain⟨aw,ax,ay,a2,a3,a4⟩:=cell3 I))
     go_ret
     exact⟨rfE,hbA HB.out⟩
    ·rw[if_neg c5]at H
     have c5b0:decide (G<=64)=false:=decide_eq_false c5;clear c5;obtain rfl:=Option.some.inj H
     go_enter Tryd.func45,Tryd.ntmps45
     go_wp2_with (first|((with_reducible refine gD 1 rfl ?_);(try(refine gate_guard ze ?_;dsimp only));refine bE 1 #[.int .i64 D,.int .i64 G,.slice L J.length O] 24 ?_;intro Y hg w8 hbox hb;have I:=aK (hbox);have X:=hbS HB hg;have U:=hbS HB hg;replace HB:=hbB HB hb;clear hb hbox hg;obtain⟨az,a0,a1,a5,a6,a7⟩:=cell3 I))
     go_ret
     exact⟨rfE,hbA HB.out⟩
   ·rw[if_neg c4]at H
    have c4b0:decide (0<=G)=false:=decide_eq_false c4;clear c4;obtain rfl:=Option.some.inj H
    go_enter Tryd.func45,Tryd.ntmps45
    go_wp2_with (first|((with_reducible refine gD 1 rfl ?_);(try(refine gate_guard ze ?_;dsimp only));refine bE 1 #[.int .i64 D,.int .i64 G,.slice L J.length O] 24 ?_;intro Y hg bb hbox hb;have I:=aK (hbox);have X:=hbS HB hg;have U:=hbS HB hg;replace HB:=hbB HB hb;clear hb hbox hg;obtain⟨ab,ac,ae,al,am,an⟩:=cell3 I))
    go_ret
    exact⟨rfE,hbA HB.out⟩
  ·rw[if_neg c3]at H
   have c3b0:decide (D<=64)=false:=decide_eq_false c3;clear c3;obtain rfl:=Option.some.inj H
   go_enter Tryd.func45,Tryd.ntmps45
   go_wp2_with (first|((with_reducible refine gD 1 rfl ?_);(try(refine gate_guard ze ?_;dsimp only));refine bE 1 #[.int .i64 D,.int .i64 G,.slice L J.length O] 24 ?_;intro Y hg bc hbox hb;have I:=aK (hbox);have X:=hbS HB hg;have U:=hbS HB hg;replace HB:=hbB HB hb;clear hb hbox hg;obtain⟨af,ag,ah,ao,ap,aq⟩:=cell3 I))
   go_ret
   exact⟨rfE,hbA HB.out⟩
 ·rw[if_neg c2]at H
  have c2b0:decide (0<=D)=false:=decide_eq_false c2;clear c2;obtain rfl:=Option.some.inj H
  go_enter Tryd.func45,Tryd.ntmps45
  go_wp2_with (first|((with_reducible refine gD 1 rfl ?_);(try(refine gate_guard ze ?_;dsimp only));refine bE 1 #[.int .i64 D,.int .i64 G,.slice L J.length O] 24 ?_;intro Y hg bd hbox hb;have I:=aK (hbox);have X:=hbS HB hg;have U:=hbS HB hg;replace HB:=hbB HB hb;clear hb hbox hg;obtain⟨ai,aj,ak,ar,au,av⟩:=cell3 I))
  go_ret
  exact⟨rfE,hbA HB.out⟩
def recoupref16_Generator.f(G:Int)(D:Int)(I:List Int):Option (Bool):=(recoupref03_Right.f G D I).bind fun J=>(if J=true then(if D>=1 then(some (decide (G>=D)))else(some false))else(some false))
theorem recoupref16_Generator.calls(J:Int)(G:Int)(L:Option Addr)(O:Nat)(I:List Int)(r:Bool)(w:World)(ac:Kd.C (Kd.int .u8) w L I.length I)(ab:I.length<=O)(h:recoupref16_Generator.f J G I=some r):
 Calls Tryd.prog 14 #[.agg #[.int .i64 J,.int .i64 G,.slice L I.length O]] w fun e w'=>e= .returned (.bool r)/\Below w.heap.size w w':=by
 have bb:=Tryd.underlying24;have X:=aK ac;have U:=aK ab;clear ac ab;have HB:=aK (Below.refl w.heap.size w);have H:((recoupref03_Right.f J G I).bind fun ae=>(if ae=true then(if G>=1 then(some (decide (J>=G)))else(some false))else(some false)))=some r:=h;clear h;obtain⟨ae,A2,H⟩:=bindO H
 (try dsimp only at H)
 by_cases c3:ae=true
 ·subst c3;rw[if_pos rfl]at H
  by_cases c4:G>=1
  ·rw[if_pos c4]at H
   have c4b0:decide (1<=G)=true:=decide_eq_true c4;clear c4;obtain rfl:=Option.some.inj H
   go_enter Tryd.func14,Tryd.ntmps14
   go_wp2_with (first|((with_reducible refine gD 1 rfl ?_);refine bE 1 #[.int .i64 J,.int .i64 G,.slice L I.length O] 24 ?_;intro aa hg w5 hbox hb;have D:=aK (hbox);have Z:=hbS HB hg;have Y:=hbS HB hg;replace HB:=hbB HB hb;clear hb hbox hg;obtain⟨az,a0,a1,a5,a6,a7⟩:=cell3 D)|((with_reducible refine gC 45 rfl ?_);refine cG (some 4) Tryd.func45 #[.agg #[.int .i64 J,.int .i64 G,.slice L I.length O]] ?_;(with_reducible refine(recoupref03_Right.calls J G _ _ I true _ ?side1 ?side2 A2.out).mono ?_);(case side1=>exact kcB X HB);(case side2=>exact U.out);rintro e w7 ⟨rfl,hb⟩;refine⟨_,rfl,?_⟩;replace D:=bkB D hb;replace HB:=hbB HB hb;(try clear hb);obtain⟨a2,a3,a4,a8,a9,ba⟩:=cell3 D))
   go_ret
   exact⟨rfE,hbA HB.out⟩
  ·rw[if_neg c4]at H
   have c4b0:decide (1<=G)=false:=decide_eq_false c4;clear c4;obtain rfl:=Option.some.inj H
   go_enter Tryd.func14,Tryd.ntmps14
   go_wp2_with (first|((with_reducible refine gD 1 rfl ?_);refine bE 1 #[.int .i64 J,.int .i64 G,.slice L I.length O] 24 ?_;intro aa hg w9 hbox hb;have D:=aK (hbox);have Z:=hbS HB hg;have Y:=hbS HB hg;replace HB:=hbB HB hb;clear hb hbox hg;obtain⟨af,ag,ah,ao,ap,aq⟩:=cell3 D)|((with_reducible refine gC 45 rfl ?_);refine cG (some 4) Tryd.func45 #[.agg #[.int .i64 J,.int .i64 G,.slice L I.length O]] ?_;(with_reducible refine(recoupref03_Right.calls J G _ _ I true _ ?side1 ?side2 A2.out).mono ?_);(case side1=>exact kcB X HB);(case side2=>exact U.out);rintro e bc ⟨rfl,hb⟩;refine⟨_,rfl,?_⟩;replace D:=bkB D hb;replace HB:=hbB HB hb;(try clear hb);obtain⟨ai,aj,ak,ar,au,av⟩:=cell3 D))
   go_ret
   exact⟨rfE,hbA HB.out⟩
 ·replace c3:=Bool.eq_false_iff.mpr c3;subst c3;rw[if_neg nofT]at H
  obtain rfl:=Option.some.inj H
  go_enter Tryd.func14,Tryd.ntmps14
  go_wp2_with (first|((with_reducible refine gD 1 rfl ?_);refine bE 1 #[.int .i64 J,.int .i64 G,.slice L I.length O] 24 ?_;intro aa hg bd hbox hb;have D:=aK (hbox);have Z:=hbS HB hg;have Y:=hbS HB hg;replace HB:=hbB HB hb;clear hb hbox hg;obtain⟨al,am,an,aw,ax,ay⟩:=cell3 D)|((with_reducible refine gC 45 rfl ?_);refine cG (some 4) Tryd.func45 #[.agg #[.int .i64 J,.int .i64 G,.slice L I.length O]] ?_;(with_reducible refine(recoupref03_Right.calls J G _ _ I false _ ?side1 ?side2 A2.out).mono ?_);(case side1=>exact kcB X HB);(case side2=>exact U.out);rintro e be ⟨rfl,hb⟩;refine⟨_,rfl,?_⟩;replace D:=bkB D hb;replace HB:=hbB HB hb;(try clear hb)))
  go_ret
  exact⟨rfE,hbA HB.out⟩
def recoupref06_List.l0:Nat->Int->List Int->Int->Option (List Int)
 |0,_,_,_=>none
 |k+1,x0,x3,x4=>if x4<64 then((recoupref06_Has.f x0 x4).bind fun D=>(if D=true then(if x3.length<17592186044416 then(recoupref06_List.l0 k x0 (x3++ [x4]) (wrap64 (x4+1)))else(none))else(recoupref06_List.l0 k x0 x3 (wrap64 (x4+1)))))else(some x3)
def recoupref06_List.f(k:Nat)(a0:Int):Option (List Int):=recoupref06_List.l0 k a0 ([]:List Int) 0
theorem recoupref06_List.calls(k:Nat)(a0:Int)(r:List Int)(w:World)(h:recoupref06_List.f k a0=some r):
 Calls Tryd.prog 23 #[.int .u64 a0] w fun e w'=> ∃v0_:Value,e= .returned (v0_)/\Kd.R (Kd.int .i64) 3 w' w.heap.size (fun _=>True) v0_ r/\Below w.heap.size w w':=by
 have HB:=aK (Below.refl w.heap.size w);have H:(recoupref06_List.l0 k a0 ([]:List Int) 0)=some r:=h;clear h;have H':=aK H;clear H
 go_enter Tryd.func23,Tryd.ntmps23
 go_wp2
 go_loopg [3,4] k (fun kq v3 v4 w'=> ∃(I:List Int) (D:Int),v4= .int .i64 D/\Aside0 (recoupref06_List.l0 kq a0 I D=some r)/\Aside0 (kq<=k)/\Aside0 (Kd.R (Kd.int .i64) 3 w' w.heap.size (fun _=>True) v3 I)/\Aside0 (Below w.heap.size w w'))
 case atStart=>exact⟨(([]:List Int)),(0),rsE,H',⟨Nat.le_refl _⟩,⟨nilE⟩,⟨hbA HB.out⟩⟩
 case round=>
  clear H';obtain⟨I,D,rfl,HA,J,HO_3,HB⟩:=hrel
  cases gk with
  |zero=>exact absurd HA.out (by simp[recoupref06_List.l0])
  |succ k1=>
   have H:=HA.out;clear HA;simp only[recoupref06_List.l0]at H;by_cases c2:D<64
   case neg=>
    rw[if_neg c2]at H
    have c2b0:decide (D<64)=false:=decide_eq_false c2;clear c2;obtain rfl:=Option.some.inj H;go_wp2
    go_ret
    exact⟨_,rfE,by(with_reducible repeat(first|apply R_alloc|apply R_drewN|apply R_drew));exact HO_3.out,hbA HB.out⟩
   rw[if_pos c2]at H
   have c2b0:decide (D<64)=true:=decide_eq_true c2;clear c2;obtain⟨Y,A3,H⟩:=bindO H
   (try dsimp only at H)
   by_cases c4:Y=true
   case neg=>
    replace c4:=Bool.eq_false_iff.mpr c4;subst c4;rw[if_neg nofT]at H
    have H':=aK H;clear H
    go_wp2_with (first|((with_reducible refine gC 18 rfl ?_);refine cG (some 11) Tryd.func18 #[.int .u64 a0,.int .i64 D] ?_;(with_reducible refine(recoupref06_Has.calls a0 D false _ A3.out).mono ?_);rintro e w' ⟨rfl,⟨nd,rfl⟩⟩;refine⟨_,rfl,?_⟩))
    go_roundg k1
    case measure=>have:=J.out;omega
    case rel=>exact⟨(I),(wrap64 (D+1)),rsE,H',⟨by have:=J.out;omega⟩,⟨kdA HO_3.out⟩,⟨hbA HB.out⟩⟩
   subst c4;rw[if_pos rfl]at H
   by_cases c5:I.length<17592186044416
   case neg=>rw[if_neg c5]at H;exact absurd H zd
   rw[if_pos c5]at H
   have X:=aK c5;clear c5;obtain⟨L,G⟩: ∃y_:List Int,y_=(I++ [D]):=⟨_,rfl⟩
   replace H:(recoupref06_List.l0 k1 a0 L (wrap64 (D+1)))=some r:=zH G H
   have U:=aK G;clear G;have H':=aK H;clear H
   go_wp2_with (first|((with_reducible refine gC 18 rfl ?_);refine cG (some 11) Tryd.func18 #[.int .u64 a0,.int .i64 D] ?_;(with_reducible refine(recoupref06_Has.calls a0 D true _ A3.out).mono ?_);rintro e w' ⟨rfl,⟨nd,rfl⟩⟩;refine⟨_,rfl,?_⟩)|((with_reducible refine gate_builtin (b:= .append) (xs:= #[.tmp 12,.tmp 14]) rfl ?_);at_builtin;refine Kd.R_append (Kd.int .i64) (w0:=w) w.heap.size rfl (.tmp 12) (.tmp 14) 56 3 (.int .i64 0) 8 rfl Tryd.underlying56 info3 rfl zb za u3 I D [.int .i64 D] (fun _=>True) (fun _=>False) rfl rfl ?aP (fun _ hk=>hk.elim) ?aF ?aO ?aB ?aS ?aL ?_;(case aP=>exact rfl);(case aB=>exact(hbA HB.out));(case aF=>exact(fun _ _=>trivial));(case aO=>exact(kdA HO_3.out));(case aS=>exact(below_size (hbA HB.out)));(case aL=>have:=X.out;omega);intro Z w6 ho hb hg hat;rw[<-U.out]at ho;have n0_:=aK (hb);have n1_:=aK (ho);clear HB;clear HO_3;have HB:=n0_;have O:=n1_;clear n0_ n1_;clear ho hb hg hat))
   go_roundg k1
   case measure=>have:=J.out;omega
   case rel=>exact⟨(L),(wrap64 (D+1)),rsE,H',⟨by have:=J.out;omega⟩,⟨kdA O.out⟩,⟨hbA HB.out⟩⟩
def recoupref03_At.f(I:Int)(D:Int)(G:List Int)(a1:Int)(a2:Int):Option (Int):=if 0<=(wrap64 ((wrap64 (a1*D))+a2))then(if(wrap64 ((wrap64 (a1*D))+a2))<(G.length:Int)then(some (rd G (wrap64 ((wrap64 (a1*D))+a2))))else(none))else(none)
theorem recoupref03_At.calls(U:Int)(G:Int)(O:Option Addr)(X:Nat)(D:List Int)(a1:Int)(a2:Int)(r:Int)(w:World)(Z:Kd.C (Kd.int .u8) w O D.length D)(Y:D.length<=X)(h:recoupref03_At.f U G D a1 a2=some r):
 Calls Tryd.prog 49 #[.agg #[.int .i64 U,.int .i64 G,.slice O D.length X],.int .i64 a1,.int .i64 a2] w fun e w'=>e= .returned (.int .u8 r)/\Below w.heap.size w w':=by
 have ar:=Tryd.underlying24;have ae:=aK Z;have ao:=aK Y;clear Z Y;have HB:=aK (Below.refl w.heap.size w);have H:(if 0<=(wrap64 ((wrap64 (a1*G))+a2))then(if(wrap64 ((wrap64 (a1*G))+a2))<(D.length:Int)then(some (rd D (wrap64 ((wrap64 (a1*G))+a2))))else(none))else(none))=some r:=h;clear h;obtain⟨J,L⟩: ∃j_:Int,(wrap64 ((wrap64 (a1*G))+a2))=j_:=⟨_,rfl⟩
 replace H:(if 0<=(J)then(if(J)<(D.length:Int)then(some (rd D (J)))else(none))else(none))=some r:=by first|(rw[L]at H;exact H)|(simp only[L]at H⊢;exact H)
 have hji4w:(IntKind.i64.wrap ((wrap64 (a1*G))+a2))=J:=(i64_w _).trans L;by_cases c5:0<=(J)
 ·rw[if_pos c5]at H
  have c5b0:decide (0<=(J))=true:=decide_eq_true c5;clear c5;by_cases c6:(J)<(D.length:Int)
  ·rw[if_pos c6]at H
   have c6b0:decide ((J)<(D.length:Int))=true:=decide_eq_true c6;clear c6;obtain rfl:=Option.some.inj H
   go_enter Tryd.func49,Tryd.ntmps49
   go_wp2_with (first|((with_reducible refine gD 3 rfl ?_);refine bE 3 #[.int .i64 U,.int .i64 G,.slice O D.length X] 24 ?_;intro aq hg w7 hbox hb;have ac:=aK (hbox);have an:=hbS HB hg;have am:=hbS HB hg;replace HB:=hbB HB hb;clear hb hbox hg;obtain⟨ag,ah,ai,aj,ak,al⟩:=cell3 ac;have aa:0<=((J):Int):=of_decide_eq_true asE;have ab:(J)<(D.length:Int):=of_decide_eq_true asE;obtain⟨ap,af,I⟩:=Kd.at_int ae.out (J) aa ab;cases af;replace I:=(HB.out.cell (World.block_lt_of_cell? w _ I)).trans I;replace aa:=eq_true aa;replace ab:=eq_true ab))
   go_ret
   exact⟨by first|rfl|(simp[errW_none,errW_some]<;>rfl)|(simp only[<-L];first|rfl|(simp[errW_none,errW_some]<;>rfl))|(simp[*,errW_none,errW_some]<;>rfl),hbA HB.out⟩
  ·rw[if_neg c6]at H
   exact absurd H zd
 ·rw[if_neg c5]at H
  exact absurd H zd
mutual
def recoupref03_Row.j0:Nat->Int->Bool->Int->Int->List Int->Option (List Int×Int)
 |0,_,_,_,_,_=>none
 |k+1,x1,J,D,G,I=>if J=true then(some (([]:List Int),2))else(recoupref03_Row.l0 k x1 ([]:List Int) 0 D G I)
def recoupref03_Row.l0:Nat->Int->List Int->Int->Int->Int->List Int->Option (List Int×Int)
 |0,_,_,_,_,_,_=>none
 |k+1,x1,x6,x7,G,D,I=>if x7<D then((recoupref03_At.f G D I x1 x7).bind fun J=>(if x6.length<140737488355328 then(recoupref03_Row.l0 k x1 (x6++ [J]) (wrap64 (x7+1)) G D I)else(none)))else(some (x6,0))
end
def recoupref03_Row.f(k:Nat)(D:Int)(G:Int)(I:List Int)(a1:Int):Option (List Int×Int):=(recoupref03_Right.f D G I).bind fun J=>(if J=true then(if a1<0 then(recoupref03_Row.j0 k a1 true D G I)else(recoupref03_Row.j0 k a1 (decide (a1>=D)) D G I))else(some (([]:List Int),3)))
theorem recoupref03_Row.calls(k:Nat)(J:Int)(G:Int)(L:Option Addr)(O:Nat)(I:List Int)(a1:Int)(r1:List Int)(r2:Int)(w:World)(aw:Kd.C (Kd.int .u8) w L I.length I)(av:I.length<=O)(h:recoupref03_Row.f k J G I a1=some (r1,r2)):
 Calls Tryd.prog 21 #[.agg #[.int .i64 J,.int .i64 G,.slice L I.length O],.int .i64 a1] w fun e w'=> ∃v0_:Value,e= .returned (.tuple #[v0_,.int .i64 r2])/\Kd.R (Kd.int .u8) 5 w' w.heap.size (fun _=>True) v0_ r1/\Below w.heap.size w w':=by
 have bu:=Tryd.underlying24;have aj:=aK aw;have ai:=aK av;clear aw av;have HB:=aK (Below.refl w.heap.size w);have H:((recoupref03_Right.f J G I).bind fun ax=>(if ax=true then(if a1<0 then(recoupref03_Row.j0 k a1 true J G I)else(recoupref03_Row.j0 k a1 (decide (a1>=J)) J G I))else(some (([]:List Int),3))))=some (r1,r2):=h;clear h;obtain⟨ax,A3,H⟩:=bindO H
 (try dsimp only at H)
 by_cases c4:ax=true
 case neg=>
  replace c4:=Bool.eq_false_iff.mpr c4;subst c4;rw[if_neg nofT]at H
  obtain⟨rfl,rfl⟩:=zP2 H
  go_enter Tryd.func21,Tryd.ntmps21
  go_wp2_with (first|((with_reducible refine gD 2 rfl ?_);refine bE 2 #[.int .i64 J,.int .i64 G,.slice L I.length O] 24 ?_;intro Z hg bz hbox hb;have D:=aK (hbox);have a2:=hbS HB hg;have a0:=hbS HB hg;replace HB:=hbB HB hb;clear hb hbox hg;obtain⟨bf,bg,bh,bo,bp,bq⟩:=cell3 D)|((with_reducible refine gC 45 rfl ?_);refine cG (some 9) Tryd.func45 #[.agg #[.int .i64 J,.int .i64 G,.slice L I.length O]] ?_;(with_reducible refine(recoupref03_Right.calls J G _ _ I false _ ?side1 ?side2 A3.out).mono ?_);(case side1=>exact kcB aj HB);(case side2=>exact ai.out);rintro e b0 ⟨rfl,hb⟩;refine⟨_,rfl,?_⟩;replace D:=bkB D hb;replace HB:=hbB HB hb;(try clear hb)))
  go_ret2
  exact⟨_,rfE,nilE,hbA HB.out⟩
 subst c4;rw[if_pos rfl]at H
 have a3:=aK H;clear H
 go_enter Tryd.func21,Tryd.ntmps21
 go_upto_region 3 with(first|((with_reducible refine gD 2 rfl ?_);refine bE 2 #[.int .i64 J,.int .i64 G,.slice L I.length O] 24 ?_;intro Z hg w6 hbox hb;have D:=aK (hbox);have a2:=hbS HB hg;have a0:=hbS HB hg;replace HB:=hbB HB hb;clear hb hbox hg;obtain⟨ak,al,am,an,ao,ap⟩:=cell3 D)|((with_reducible refine gC 45 rfl ?_);refine cG (some 9) Tryd.func45 #[.agg #[.int .i64 J,.int .i64 G,.slice L I.length O]] ?_;(with_reducible refine(recoupref03_Right.calls J G _ _ I true _ ?side1 ?side2 A3.out).mono ?_);(case side1=>exact kcB aj HB);(case side2=>exact ai.out);rintro e w8 ⟨rfl,hb⟩;refine⟨_,rfl,?_⟩;replace D:=bkB D hb;replace HB:=hbB HB hb;(try clear hb)))
 (try simp only[Act.put,zL])
 go_cut [18] (fun bt wc=> ∃(kq:Nat) (aa:Bool),bt= .bool aa/\Aside0 (recoupref03_Row.j0 kq a1 aa J G I=some (r1,r2))/\Aside0 (kq<=k)/\Aside0 (wc.heap[Z]? =some (.cells #[.int .i64 J,.int .i64 G,(.slice L I.length O)] 24 (0,0)))/\Aside0 (Below w.heap.size w wc))
 case first=>
  have H:=a3.out;clear a3;by_cases c9:a1<0
  ·rw[if_pos c9]at H
   have c9b0:decide (a1<0)=true:=decide_eq_true c9;clear c9
   (first|rw[c9b0] |(simp only[i64_w,i32_w];rw[c9b0])|skip)
   have H':=aK H;clear H;go_wp2
   go_meet
   case rel=>exact⟨_,(true),rsE,H',⟨leE⟩,⟨bkA D.out⟩,⟨hbA HB.out⟩⟩
  rw[if_neg c9]at H
  have c9b0:decide (a1<0)=false:=decide_eq_false c9;clear c9
  (first|rw[c9b0] |(simp only[i64_w,i32_w];rw[c9b0])|skip)
  have H':=aK H;clear H;obtain⟨ab,ac,ae,af,ag,ah⟩:=cell3 D;go_wp2
  go_meet
  case rel=>exact⟨_,(decide (a1>=J)),rsE,H',⟨leE⟩,⟨bkA D.out⟩,⟨hbA HB.out⟩⟩
 case rest=>
  clear a3
  (try clear c2);(try clear p2);(try clear c4);(try clear c9);(try clear c9b0);(try clear ab ac ae af ag ah);(try clear ak al am an ao ap)
  obtain⟨kq,aa,rfl,HA,a7,D,HB⟩:=hcut
  cases kq with
  |zero=>exact absurd HA.out (by simp[recoupref03_Row.j0])
  |succ br=>
   have H:=HA.out;clear HA;simp only[recoupref03_Row.j0]at H;by_cases au:aa=true
   ·subst au;rw[if_pos rfl]at H
    obtain⟨rfl,rfl⟩:=zP2 H;go_wp2
    go_ret2
    exact⟨_,rfE,nilE,hbA HB.out⟩
   replace au:=Bool.eq_false_iff.mpr au;subst au;rw[if_neg nofT]at H
   have H':=aK H;clear H;go_wp2
   go_loopg [6,7] br (fun kq v6 v7 w'=> ∃(Y:List Int) (U:Int),v7= .int .i64 U/\Aside0 (recoupref03_Row.l0 kq a1 Y U J G I=some (r1,r2))/\Aside0 (kq<=br)/\Aside0 (Kd.R (Kd.int .u8) 5 w' w.heap.size (fun _=>True) v6 Y)/\Aside0 (w'.heap[Z]? =some (.cells #[.int .i64 J,.int .i64 G,(.slice L I.length O)] 24 (0,0)))/\Aside0 (Below w.heap.size w w'))
   case atStart=>exact⟨(([]:List Int)),(0),rsE,H',⟨Nat.le_refl _⟩,⟨nilE⟩,⟨bkA D.out⟩,⟨hbA HB.out⟩⟩
   case round=>
    clear H'
    (try clear c1);(try clear c2);(try clear p2 p2);(try clear c4);(try clear c9);(try clear c9b0);(try clear au);(try clear ab ac ae af ag ah);(try clear ak al am an ao ap)
    obtain⟨Y,U,rfl,HA,a8,HO_6,D,HB⟩:=hrel
    cases gk with
    |zero=>exact absurd HA.out (by simp[recoupref03_Row.l0])
    |succ k2=>
     have H:=HA.out;clear HA;simp only[recoupref03_Row.l0]at H;by_cases ar:U<G
     case neg=>
      rw[if_neg ar]at H
      have c12b0:decide (U<G)=false:=decide_eq_false ar;clear ar;obtain⟨rfl,rfl⟩:=zP2 H;obtain⟨bc,bd,be,bl,bm,bn⟩:=cell3 D;go_wp2
      go_ret2
      exact⟨_,rfE,by(with_reducible repeat(first|apply R_alloc|apply R_drewN|apply R_drew));exact HO_6.out,hbA HB.out⟩
     rw[if_pos ar]at H
     have c12b0:decide (U<G)=true:=decide_eq_true ar;clear ar;obtain⟨aq,bs,H⟩:=bindO H
     (try dsimp only at H)
     by_cases ay:Y.length<140737488355328
     case neg=>rw[if_neg ay]at H;exact absurd H zd
     rw[if_pos ay]at H
     have a5:=aK ay;clear ay;obtain⟨az,X⟩: ∃y_:List Int,y_=(Y++ [aq]):=⟨_,rfl⟩
     replace H:(recoupref03_Row.l0 k2 a1 az (wrap64 (U+1)) J G I)=some (r1,r2):=zH X H
     have a6:=aK X;clear X;have H':=aK H;clear H;obtain⟨a9,ba,bb,bi,bj,bk⟩:=cell3 D
     go_wp2_with (first|((with_reducible refine gC 49 rfl ?_);refine cG (some 29) Tryd.func49 #[.agg #[.int .i64 J,.int .i64 G,.slice L I.length O],.int .i64 a1,.int .i64 U] ?_;(with_reducible refine(recoupref03_At.calls J G _ _ I a1 U aq _ ?side1 ?side2 bs.out).mono ?_);(case side1=>exact kcB aj HB);(case side2=>exact ai.out);rintro e bw ⟨rfl,hb⟩;refine⟨_,rfl,?_⟩;replace HO_6:=kdB HO_6 hb;replace D:=bkB D hb;replace HB:=hbB HB hb;(try clear hb))|((with_reducible refine gate_builtin (b:= .append) (xs:= #[.tmp 25,.tmp 30]) rfl ?_);at_builtin;refine Kd.R_append (Kd.int .u8) (w0:=w) w.heap.size rfl (.tmp 25) (.tmp 30) 22 5 (.int .u8 0) 1 rfl Tryd.underlying22 info5 rfl zb za u6 Y aq [.int .u8 aq] (fun _=>True) (fun _=>False) rfl rfl ?aP (fun _ hk=>hk.elim) ?aF ?aO ?aB ?aS ?aL ?_;(case aP=>exact rfl);(case aB=>exact(hbA HB.out));(case aF=>exact(fun _ _=>trivial));(case aO=>exact(kdA HO_6.out));(case aS=>exact(below_size (hbA HB.out)));(case aL=>have:=a5.out;omega);intro bv bx ho hb hg hat;rw[<-a6.out]at ho;have n0_:=aK (blk_grown (g:=Z) (o:= .cells #[.int .i64 J,.int .i64 G,.slice L I.length O] 24 (0,0)) (bkA D.out) hg (R_ne HO_6.out D.out zb));have n1_:=aK (hb);have n2_:=aK (ho);clear D;clear HB;clear HO_6;have D:=n0_;have HB:=n1_;have a4:=n2_;clear n0_ n1_ n2_;clear ho hb hg hat))
     go_roundg k2
     case measure=>have:=a7.out;have:=a8.out;omega
     case rel=>exact⟨(az),(wrap64 (U+1)),rsE,H',⟨by have:=a7.out;have:=a8.out;omega⟩,⟨kdA a4.out⟩,⟨bkA D.out⟩,⟨hbA HB.out⟩⟩
mutual
def recoupref03_Pick.l0:Nat->List Int->Int->Int->Int->List Int->Option (Int×Int×List Int×Int)
 |0,_,_,_,_,_=>none
 |k+1,x1,x6,D,G,I=>if x6<(x1.length:Int)then(if 0<=x6 then(if(rd x1 x6)<0 then(some (0,0,([]:List Int),2))else(if(rd x1 x6)>=D then(some (0,0,([]:List Int),2))else(recoupref03_Pick.l0 k x1 (wrap64 (x6+1)) D G I)))else(none))else(if(x1.length:Int)>64 then(some (0,0,([]:List Int),4))else(recoupref03_Pick.l1 k x1 0 D G I (x1.length:Int) G ([]:List Int)))
def recoupref03_Pick.l1:Nat->List Int->Int->Int->Int->List Int->Int->Int->List Int->Option (Int×Int×List Int×Int)
 |0,_,_,_,_,_,_,_,_=>none
 |k+1,x1,x8,G,I,J,L,O,D=>if x8<(x1.length:Int)then(if 0<=x8 then((recoupref03_Row.f k G I J (rd x1 x8)).bind fun U=>(if D.length+U.1.length<140737488355328 then(recoupref03_Pick.l1 k x1 (wrap64 (x8+1)) G I J L O (D++U.1))else(none)))else(none))else(some (L,O,D,0))
end
def recoupref03_Pick.f(k:Nat)(D:Int)(G:Int)(I:List Int)(l1:List Int):Option (Int×Int×List Int×Int):=(recoupref03_Right.f D G I).bind fun J=>(if J=true then(recoupref03_Pick.l0 k l1 0 D G I)else(some (0,0,([]:List Int),3)))
def recoupref03_Pick.T6:Bool×List (List Nat×List Nat):=(true,[([],[]),([],[]),([0,1],[0,1]),([2],[2]),([3],[3]),([4],[4]),([5],[5]),([5],[5]),([6,7,5],[5,6,7]),([8,5],[5,8]),([5],[5]),([10,5],[5,10]),([9,11,5],[5,9,11]),([5,12],[5,12])])
def recoupref03_Pick.B6:List Nat:= [0,0,3,7,15,31,63,63,255,511,63,1087,4095,8191]
theorem recoupref03_Pick.tab6:rtab .any (opsOf Tryd.f43 6)=recoupref03_Pick.T6:=by kernel_rfl
theorem recoupref03_Pick.bits6:waitsOk recoupref03_Pick.T6.2 recoupref03_Pick.B6=true:=by kernel_rfl
def recoupref03_Pick.T14:Bool×List (List Nat×List Nat):=(true,[([],[]),([],[]),([],[]),([1,2],[1,2]),([3],[3]),([0,4],[0,4]),([5],[5]),([6],[6]),([6],[6]),([7,5,0,1,2,3,4,5,6,7],[7]),([8,9,0,1,2,3,4,5,6,7,8,9],[8])])
def recoupref03_Pick.B14:List Nat:= [0,0,0,6,14,31,63,127,127,255,1023]
theorem recoupref03_Pick.tab14:rtab .any (opsOf Tryd.f43 14)=recoupref03_Pick.T14:=by kernel_rfl
theorem recoupref03_Pick.bits14:waitsOk recoupref03_Pick.T14.2 recoupref03_Pick.B14=true:=by kernel_rfl
theorem recoupref03_Pick.calls(k:Nat)(Y:Int)(O:Int)(al:Option Addr)(am:Nat)(Z:List Int)(A1:Option Addr)(c1:Nat)(l1:List Int)(r1:Int)(r2:Int)(r3:List Int)(r4:Int)(w:World)(ck:Kd.C (Kd.int .u8) w al Z.length Z)(bn:Z.length<=am)(ej:Kd.C (Kd.int .i64) w A1 l1.length l1)(dg:l1.length<=c1)(h:recoupref03_Pick.f k Y O Z l1=some (r1,r2,r3,r4)):
 Calls Tryd.prog 43 #[.agg #[.int .i64 Y,.int .i64 O,.slice al Z.length am],.slice A1 l1.length c1] w fun e w'=> ∃v2_:Value,e= .returned (.tuple #[.agg #[.int .i64 r1,.int .i64 r2,v2_],.int .i64 r4])/\Kd.R (Kd.int .u8) 5 w' w.heap.size (fun _=>True) v2_ r3/\Below w.heap.size w w':=by
 have ff:=Tryd.underlying24;have a4:=aK ck;have a3:=aK bn;clear ck bn;have bi:=aK ej;have fj:=aK dg;clear ej dg;have HB:=aK (Below.refl w.heap.size w);have H:((recoupref03_Right.f Y O Z).bind fun cn=>(if cn=true then(recoupref03_Pick.l0 k l1 0 Y O Z)else(some (0,0,([]:List Int),3))))=some (r1,r2,r3,r4):=h;clear h;obtain⟨cn,A3,H⟩:=bindO H
 (try dsimp only at H)
 by_cases c4:cn=true
 case neg=>
  replace c4:=Bool.eq_false_iff.mpr c4;subst c4;rw[if_neg nofT]at H
  obtain⟨rfl,rfl,rfl,rfl⟩:=zP4 H
  go_enter Tryd.func43,Tryd.ntmps43
  go_wp2_with (first|((with_reducible refine gD 2 rfl ?_);refine bE 2 #[.int .i64 Y,.int .i64 O,.slice al Z.length am] 24 ?_;intro ah hg f3 hbox hb;have D:=aK (hbox);have cy:=hbS HB hg;have cw:=hbS HB hg;replace HB:=hbB HB hb;clear hb hbox hg)|((with_reducible refine gD 4 rfl ?_);refine bE 4 #[.int .i64 0,.int .i64 0,.slice none 0 0] 24 ?_;intro ak hg f4 hbox hb;have G:=aK (hbox);have cz:=hbS HB hg;have cx:=hbS HB hg;replace HB:=hbB HB hb;have ab:=neL D hg;have ac:=neG D hg;replace D:=bkB D hb;clear hb hbox hg;have e0:=ab.out;have fc:=ac.out;obtain⟨dv,dw,dx,ed,ee,ef⟩:=cell3 D)|((with_reducible refine gC 45 rfl ?_);refine cG (some 12) Tryd.func45 #[.agg #[.int .i64 Y,.int .i64 O,.slice al Z.length am]] ?_;(with_reducible refine(recoupref03_Right.calls Y O _ _ Z false _ ?side1 ?side2 A3.out).mono ?_);(case side1=>exact kcB a4 HB);(case side2=>exact a3.out);rintro e f5 ⟨rfl,hb⟩;refine⟨_,rfl,?_⟩;replace D:=bkB D hb;replace G:=bkB G hb;replace HB:=hbB HB hb;(try clear hb);obtain⟨dy,dz,d0,eg,eh,ei⟩:=cell3 G))
  refine bodyPost_ret (results_ct rfl _ _ ak 24 #[.int .i64 0,.int .i64 0,.slice none 0 0] (0,0) _ rfl (by refine bkR ?_;refine blk_put (cs:= #[.int .i64 0,.int .i64 0,.slice none 0 0]) ?_ 2 _ rfl;refine bkR ?_;refine blk_put (cs:= #[.int .i64 0,.int .i64 0,.slice none 0 0]) ?_ 1 _ rfl;refine bkR ?_;refine blk_put (cs:= #[.int .i64 0,.int .i64 0,.slice none 0 0]) ?_ 0 _ rfl;refine bkR ?_;exact G.out) Tryd.underlying24 rfl zc) rfl ?_;exact⟨_,rfE,nilE,hbA HB.out⟩
 subst c4;rw[if_pos rfl]at H
 have H':=aK H;clear H
 go_enter Tryd.func43,Tryd.ntmps43
 go_wp2_with (first|((with_reducible refine gD 2 rfl ?_);refine bE 2 #[.int .i64 Y,.int .i64 O,.slice al Z.length am] 24 ?_;intro ah hg w5 hbox hb;have D:=aK (hbox);have cy:=hbS HB hg;have cw:=hbS HB hg;replace HB:=hbB HB hb;clear hb hbox hg)|((with_reducible refine gD 4 rfl ?_);refine bE 4 #[.int .i64 0,.int .i64 0,.slice none 0 0] 24 ?_;intro ak hg w6 hbox hb;have G:=aK (hbox);have cz:=hbS HB hg;have cx:=hbS HB hg;replace HB:=hbB HB hb;have ab:=neL D hg;have ac:=neG D hg;replace D:=bkB D hb;clear hb hbox hg;have fd:=ab.out;have fe:=ac.out;obtain⟨bb,bc,bd,be,bf,bg⟩:=cell3 D)|((with_reducible refine gC 45 rfl ?_);refine cG (some 12) Tryd.func45 #[.agg #[.int .i64 Y,.int .i64 O,.slice al Z.length am]] ?_;(with_reducible refine(recoupref03_Right.calls Y O _ _ Z true _ ?side1 ?side2 A3.out).mono ?_);(case side1=>exact kcB a4 HB);(case side2=>exact a3.out);rintro e w9 ⟨rfl,hb⟩;refine⟨_,rfl,?_⟩;replace D:=bkB D hb;replace G:=bkB G hb;replace HB:=hbB HB hb;(try clear hb)))
 go_loopg [6] k (fun kq v6 w'=> ∃(I:Int) (U:Int) (L:Int),v6= .int .i64 I/\Aside0 (recoupref03_Pick.l0 kq l1 I Y O Z=some (r1,r2,r3,r4))/\Aside0 (kq<=k)/\Aside0 (w'.heap[ah]? =some (.cells #[.int .i64 Y,.int .i64 O,(.slice al Z.length am)] 24 (0,0)))/\Aside0 (w'.heap[ak]? =some (.cells #[.int .i64 U,.int .i64 L,(.slice none 0 0)] 24 (0,0)))/\Aside0 (Below w.heap.size w w'))
 case atStart=>exact⟨(0),(0),(0),rsE,H',⟨Nat.le_refl _⟩,⟨bkA D.out⟩,⟨bkA G.out⟩,⟨hbA HB.out⟩⟩
 case round=>
  clear H'
  (try clear c1);(try clear p2);(try clear c4);(try clear c7);(try clear bb bc bd be bf bg)
  obtain⟨I,U,L,rfl,HA,co,D,G,HB⟩:=hrel
  cases gk with
  |zero=>exact absurd HA.out (by simp[recoupref03_Pick.l0])
  |succ k1=>
   have H:=HA.out;clear HA;simp only[recoupref03_Pick.l0]at H;by_cases a6:I<(l1.length:Int)
   case neg=>
    rw[if_neg a6]at H
    have c10b0:decide (I<(l1.length:Int))=false:=decide_eq_false a6;clear a6;by_cases a9:(l1.length:Int)>64
    ·rw[if_pos a9]at H
     have c21b0:decide (64<(l1.length:Int))=true:=decide_eq_true a9;have c21b1:decide (64<l1.length)=true:=decide_eq_true za;clear a9;obtain⟨rfl,rfl,rfl,rfl⟩:=zP4 H;have er:=ac.out;have e3:=ab.out;obtain⟨bu,bv,bw,ca,cb,cd⟩:=cell3 G;go_wp2;refine bodyPost_ret (results_ct rfl _ _ ak 24 #[.int .i64 0,.int .i64 0,.slice none 0 0] (0,0) _ rfl zag Tryd.underlying24 rfl zc) rfl ?_;exact⟨_,rfE,nilE,hbA HB.out⟩
    rw[if_neg a9]at H
    have c21b0:decide (64<(l1.length:Int))=false:=decide_eq_false a9;have c21b1:decide (64<l1.length)=false:=decide_eq_false za;clear a9;have H':=aK H;clear H;have es:=ab.out;have e4:=ac.out;obtain⟨bx,bz,b0,ce,cf,cg⟩:=cell3 D
    go_wp2_with (first|((with_reducible refine gD 7 rfl ?_);refine bE 7 #[.int .i64 0,.int .i64 0,.slice none 0 0] 24 ?_;intro ba hg fz hbox hb;have aa:=aK (hbox);have en:=hbS HB hg;have em:=hbS HB hg;replace HB:=hbB HB hb;have af:=neL D hg;have au:=neG D hg;replace D:=bkB D hb;have ag:=neL G hg;have av:=neG G hg;replace G:=bkB G hb;clear hb hbox hg;have et:=au.out;have e5:=af.out;have eu:=av.out;have e6:=ag.out;obtain⟨b1,b2,b3,ch,ci,cj⟩:=cell3 aa))
    go_loopg [8] k1 (fun kq v8 w'=> ∃(aj:Int) (ae:List Int) (u224002:Value),v8= .int .i64 aj/\Aside0 (recoupref03_Pick.l1 kq l1 aj Y O Z (l1.length:Int) O ae=some (r1,r2,r3,r4))/\Aside0 (kq<=k1)/\Aside0 (Kd.R (Kd.int .u8) 5 w' w.heap.size (fun _=>True) u224002 ae)/\Aside0 (w'.heap[ah]? =some (.cells #[.int .i64 Y,.int .i64 O,(.slice al Z.length am)] 24 (0,0)))/\Aside0 (w'.heap[ak]? =some (.cells #[.int .i64 U,.int .i64 L,(.slice none 0 0)] 24 (0,0)))/\Aside0 (w'.heap[ba]? =some (.cells #[.int .i64 (l1.length:Int),.int .i64 O,u224002] 24 (0,0)))/\Aside0 (Below w.heap.size w w'))
    case atStart=>exact⟨(0),(([]:List Int)),(.slice none 0 0),rsE,H',⟨Nat.le_refl _⟩,⟨nilE⟩,⟨by refine bkR ?_;refine blk_far ?_ af.out _;refine bkR ?_;refine blk_far ?_ af.out _;refine bkR ?_;refine blk_far ?_ af.out _;refine bkR ?_;exact D.out⟩,⟨by refine bkR ?_;refine blk_far ?_ ag.out _;refine bkR ?_;refine blk_far ?_ ag.out _;refine bkR ?_;refine blk_far ?_ ag.out _;refine bkR ?_;exact G.out⟩,⟨by refine bkR ?_;refine blk_put (cs:= #[.int .i64 (l1.length:Int),.int .i64 O,.slice none 0 0]) ?_ 2 _ rfl;refine bkR ?_;refine blk_put (cs:= #[.int .i64 (l1.length:Int),.int .i64 0,.slice none 0 0]) ?_ 1 _ rfl;refine bkR ?_;refine blk_put (cs:= #[.int .i64 0,.int .i64 0,.slice none 0 0]) ?_ 0 _ rfl;refine bkR ?_;exact aa.out⟩,⟨hbA HB.out⟩⟩
    case round=>
     clear H'
     (try clear c1);(try clear c2);(try clear p2 p2);(try clear q2);(try clear ft);(try clear c4);(try clear p6);(try clear c7);(try clear a6);(try clear c10b0);(try clear bl);(try clear c11b0);(try clear a7);(try clear c12b0);(try clear fk);(try clear a8);(try clear c16b0);(try clear fl);(try clear a9);(try clear c21b0);(try clear c21b1);(try clear fm);(try clear fu);(try clear fv);(try clear fg);(try clear fo);(try clear fp);(try clear fq);(try clear bo bp bq b4 b5 b6);(try clear br bs bt b7 b8 b9);(try clear bu bv bw ca cb cd);(try clear bx bz b0 ce cf cg);(try clear b1 b2 b3 ch ci cj);(try clear bb bc bd be bf bg);(try clear J);(try clear X);(try clear ao);(try clear ay);(try clear ap);(try clear az)
     obtain⟨aj,ae,u224002,rfl,HA,da,HO_224002,D,G,aa,HB⟩:=hrel
     cases gk with
     |zero=>exact absurd HA.out (by simp[recoupref03_Pick.l1])
     |succ k2=>
      have H:=HA.out;clear HA;simp only[recoupref03_Pick.l1]at H;by_cases bj:aj<(l1.length:Int)
      case neg=>
       rw[if_neg bj]at H
       have c30b0:decide (aj<(l1.length:Int))=false:=decide_eq_false bj;clear bj;obtain⟨rfl,rfl,rfl,rfl⟩:=zP4 H;have ex:=au.out;have e9:=af.out;have ey:=av.out;have fa:=ag.out;obtain⟨dn,dp,dq,d7,d8,d9⟩:=cell3 aa;have ez:=ac.out;have fb:=ab.out;obtain⟨dr,dt,du,ea,eb,ec⟩:=cell3 G;obtain⟨ct,cv,df⟩:=R_slice HO_224002.out;subst df;go_wp2;refine bodyPost_ret (results_ct rfl _ _ ak 24 #[.int .i64 (l1.length:Int),.int .i64 O,.slice ct ae.length cv] (0,0) _ rfl (by refine bkR ?_;refine blk_put (cs:= #[.int .i64 (l1.length:Int),.int .i64 O,.slice none 0 0]) ?_ 2 _ rfl;refine bkR ?_;refine blk_put (cs:= #[.int .i64 (l1.length:Int),.int .i64 L,.slice none 0 0]) ?_ 1 _ rfl;refine bkR ?_;refine blk_put (cs:= #[.int .i64 U,.int .i64 L,.slice none 0 0]) ?_ 0 _ rfl;refine bkR ?_;exact G.out) Tryd.underlying24 rfl zc) rfl ?_;exact⟨_,rfE,by(with_reducible repeat(first|apply R_alloc|apply R_drewN|apply R_drew));exact R_mono (R_far (p:=⟨ak,2,none⟩) (R_far (p:=⟨ak,1,none⟩) (R_far (p:=⟨ak,0,none⟩) (R_types HO_224002.out G.out zb) (fun _ hk=>hk.2) (.int .i64 (l1.length:Int))) (fun _ hk=>hk.2) (.int .i64 O)) (fun _ hk=>hk.2) (.slice ct ae.length cv)) (fun _ hk=>trivial),hbA HB.out⟩
      rw[if_pos bj]at H
      have c30b0:decide (aj<(l1.length:Int))=true:=decide_eq_true bj;clear bj;by_cases cp:0<=aj
      case neg=>rw[if_neg cp]at H;exact absurd H zd
      rw[if_pos cp]at H
      have c31b0:decide (0<=aj)=true:=decide_eq_true cp;clear cp;obtain⟨⟨a2,ek⟩,el,H⟩:=bindO H
      (try dsimp only at H)
      by_cases cq:ae.length+a2.length<140737488355328
      case neg=>rw[if_neg cq]at H;exact absurd H zd
      rw[if_pos cq]at H
      have c3:=aK cq;clear cq;obtain⟨bh,a0⟩: ∃y_:List Int,y_=(ae++a2):=⟨_,rfl⟩
      replace H:(recoupref03_Pick.l1 k2 l1 (wrap64 (aj+1)) Y O Z (l1.length:Int) O bh)=some (r1,r2,r3,r4):=zH a0 H
      have c5:=aK a0;clear a0;have H':=aK H;clear H
      try go_wp2
      replace HO_224002:=aK (R_drew HO_224002.out);replace D:=aK (blk_drew D.out);replace G:=aK (blk_drew G.out);replace aa:=aK (blk_drew aa.out);replace HB:=aK (below_drew1 HB.out);have cl:0<=(aj:Int):=of_decide_eq_true asE;have cm:aj<(l1.length:Int):=of_decide_eq_true asE;obtain⟨c6,dc,ar⟩:=Kd.at_int bi.out aj cl cm;have aw:=ar
      cases dc
      replace ar:=(HB.out.cell (World.block_lt_of_cell? w _ ar)).trans ar;replace cl:=eq_true cl;replace cm:=eq_true cm;refine start_ (n:=11) (S:=fun w'=>w'.cell? ⟨ah,0,none⟩=some (.int .i64 Y)/\w'.cell? ⟨ah,1,none⟩=some (.int .i64 O)/\w'.cell? ⟨ah,2,none⟩=some (.slice al Z.length am)/\w'.cell? (c6.add (aj).toNat)=some (.int .i64 (rd l1 aj))) (ds:= []) (.replicate 11 false) zc rfl rfl (z3k D ((HB.out.cell (World.block_lt_of_cell? w _ aw)).trans aw)) (fun hHeld=>?_);refine with_tabW recoupref03_Pick.tab14 recoupref03_Pick.bits14 (fun HT_ HW_=>?_);generalize wr.drew=f0 at HO_224002 D G aa HB ar hHeld⊢;refine pu 1 (some 53) (mB 11 2) HT_ ?_;refine pu 2 (some 54) (mB 11 6) HT_ ?_;refine pu 3 (some 55) (mB 11 14) HT_ ?_;refine tk4 0 (some 52) (mB 11 15) HT_ HW_ hHeld ?_;refine tk4 4 (some 56) (mB 11 31) HT_ HW_ hHeld ?_;refine zoh 5 (some 57) (mB 11 63) HT_ fun K hK=>?_;refine goes_ Tryd.func21 zc rfl #[.agg #[.int .i64 Y,.int .i64 O,.slice al Z.length am],.int .i64 (rd l1 aj)] ze rfl rfl (by(try simp only[List.map_toArray,List.map_cons,List.map_nil]);first|done|rfl|(simp only[List.length_drop,List.length_take];rfl)) ?_;with_reducible refine(recoupref03_Row.calls k2 Y O _ _ Z (rd l1 aj) a2 ek _ ?side1 ?side2 el.out).mono ?_
      (case side1=>exact kcB a4 HB)
      (case side2=>exact a3.out)
      rintro e f1 ⟨fh,rfl,c8,hb⟩;refine⟨_,rfl,?_⟩;have ax:=aK (R_lower (R_new' c8 (R_lt (kdA HO_224002.out))) (below_size (hbA HB.out)));replace HO_224002:=aK (R_elder' (kdA HO_224002.out) (R_base c8) hb);replace D:=bkB D hb;replace G:=bkB G hb;replace aa:=bkB aa hb;replace HB:=hbB HB hb
      (try clear hb)
      (try clear fs)
      (try clear hk)
      (try clear hi)
      (try clear c8)
      refine hK.out _ _ (z3k D ((HB.out.cell (World.block_lt_of_cell? w _ aw)).trans aw)) (fun hHeld=>?_);clear hK K;refine znm (some 57) ?_;refine pu 6 (some 51) (mB 11 127) HT_ ?_;refine pu 7 (some 58) (mB 11 255) HT_ ?_;refine pu 8 (some 59) (mB 11 511) HT_ ?_;refine pu 9 (some 9) (mB 11 1023) HT_ ?_;refine pu 10 (some 10) (mB 11 2047) HT_ ?_;refine done_ (done_of HT_.out zc) ?_;have ev:=au.out;have e7:=af.out;have ew:=av.out;have e8:=ag.out;obtain⟨dh,di,dj,d1,d2,d3⟩:=cell3 aa;obtain⟨c9,db,dd⟩:=R_slice ax.out;subst dd
      try go_wp2_with (first|((with_reducible refine gate_builtin (b:= .append) (xs:= #[.tmp 61,.tmp 62]) rfl ?_);at_builtin;refine Kd.R_append_rows (Kd.int .u8) (w0:=w) w.heap.size rfl (.tmp 61) (.tmp 62) 22 5 (.int .u8 0) 1 rfl Tryd.underlying22 info5 rfl zb za u224002 ae a2 _ _ _ (fun k_=>some k_≠(.slice c9 a2.length db:Value).ownBlock) (fun _=>False) rfl rfl ?aO ?aR (fun _ _ h=>h) (fun _ h=>h.elim) ?aF ?aB ?aS ?aL ?_;(case aR=>exact kcA (R_reads' ax.out).2.2);(case aB=>exact(hbA HB.out));(case aF=>exact(fun k_ hk=>Kd.fresh' (R_lt (kdA ax.out)) k_ hk));(case aO=>exact(by(with_reducible repeat(first|apply R_alloc|apply R_drewN|apply R_drew));exact R_mono HO_224002.out (fun _ hk=>hk.2)));(case aS=>exact(below_size (hbA HB.out)));(case aL=>have:=c3.out;omega);intro fi f2 ho hb hg hat;rw[<-c5.out]at ho;have n0_:=aK (blk_grown (g:=ah) (o:= .cells #[.int .i64 Y,.int .i64 O,.slice al Z.length am] 24 (0,0)) (bkA D.out) hg (R_ne HO_224002.out D.out zb));have n1_:=aK (blk_grown (g:=ak) (o:= .cells #[.int .i64 U,.int .i64 L,.slice none 0 0] 24 (0,0)) (bkA G.out) hg (R_ne HO_224002.out G.out zb));have n2_:=aK (blk_grown (g:=ba) (o:= .cells #[.int .i64 (l1.length:Int),.int .i64 O,u224002] 24 (0,0)) (bkA aa.out) hg (R_ne HO_224002.out aa.out zb));have n3_:=aK (Kd.R_after (ok:=(fun _=>True)) (kdA ax.out) hg hat);have n4_:=aK (hb);have n5_:=aK (ho);clear D;clear G;clear aa;clear ax;clear HB;clear HO_224002;have D:=n0_;have G:=n1_;have aa:=n2_;have ax:=n3_;have HB:=n4_;have bk:=n5_;clear n0_ n1_ n2_ n3_ n4_ n5_;clear ho hb hg hat;obtain⟨cr,cu,de⟩:=R_slice bk.out;subst de;obtain⟨dk,dl,dm,d4,d5,d6⟩:=cell3 aa))
      go_roundg k2
      case measure=>have:=co.out;have:=da.out;omega
      case rel=>exact⟨(wrap64 (aj+1)),(bh),(.slice cr bh.length cu),rsE,H',⟨by have:=co.out;have:=da.out;omega⟩,⟨by(with_reducible repeat(first|apply R_alloc|apply R_drewN|apply R_drew));exact R_mono (R_far (p:=⟨ba,2,none⟩) (R_types bk.out aa.out zb) (fun _ hk=>hk.2) (.slice cr bh.length cu)) (fun _ hk=>trivial)⟩,⟨by refine bkR ?_;refine blk_far ?_ af.out _;refine bkR ?_;exact D.out⟩,⟨by refine bkR ?_;refine blk_far ?_ ag.out _;refine bkR ?_;exact G.out⟩,⟨by refine bkR ?_;refine blk_put (cs:= #[.int .i64 (l1.length:Int),.int .i64 O,u224002]) ?_ 2 _ rfl;refine bkR ?_;exact aa.out⟩,⟨hbA HB.out⟩⟩
   rw[if_pos a6]at H
   have c10b0:decide (I<(l1.length:Int))=true:=decide_eq_true a6;clear a6;by_cases bl:0<=I
   case neg=>rw[if_neg bl]at H;exact absurd H zd
   rw[if_pos bl]at H
   have c11b0:decide (0<=I)=true:=decide_eq_true bl;clear bl;by_cases a7:(rd l1 I)<0
   ·rw[if_pos a7]at H
    have c12b0:decide ((rd l1 I)<0)=true:=decide_eq_true a7;clear a7;obtain⟨rfl,rfl,rfl,rfl⟩:=zP4 H
    try go_wp2
    replace D:=aK (blk_drew D.out);replace G:=aK (blk_drew G.out);replace HB:=aK (below_drew1 HB.out);have ao:0<=(I:Int):=of_decide_eq_true asE;have ap:I<(l1.length:Int):=of_decide_eq_true asE;obtain⟨an,a1,J⟩:=Kd.at_int bi.out I ao ap;have ai:=J
    cases a1
    replace J:=(HB.out.cell (World.block_lt_of_cell? w _ J)).trans J;replace ao:=eq_true ao;replace ap:=eq_true ap;refine start_ (n:=14) (S:=fun w'=>w'.cell? (an.add (I).toNat)=some (.int .i64 (rd l1 I))) (ds:= []) (.replicate 14 false) zc rfl rfl (((HB.out.cell (World.block_lt_of_cell? w _ ai)).trans ai)) (fun hHeld=>?_);refine with_tabW recoupref03_Pick.tab6 recoupref03_Pick.bits6 (fun HT_ HW_=>?_);generalize wr.drew=fw at D G HB J hHeld⊢;refine pu 0 (some 21) (mB 14 1) HT_ ?_;refine pu 1 (some 22) (mB 14 3) HT_ ?_;refine pu 2 (some 23) (mB 14 7) HT_ ?_;refine tk1 3 (some 24) (mB 14 15) HT_ HW_ hHeld ?_;refine pu 4 (some 25) (mB 14 31) HT_ ?_;refine pu 5 (some 26) (mB 14 63) HT_ ?_;refine zpo 6 (some 27) (mB 14 127) HT_ ?_;refine zpo 7 (some 28) (mB 14 255) HT_ ?_;refine zpo 8 (some 29) (mB 14 511) HT_ ?_;refine zpo 9 (some 30) (mB 14 1023) HT_ ?_;refine zpo 10 (some 31) (mB 14 2047) HT_ ?_;refine zpo 11 (some 32) (mB 14 4095) HT_ ?_;refine zpo 12 (some 33) (mB 14 8191) HT_ ?_;refine pu 13 (some 34) (mB 14 16383) HT_ ?_;refine done_ (done_of HT_.out zc) ?_;have eo:=ac.out;have e1:=ab.out;obtain⟨bo,bp,bq,b4,b5,b6⟩:=cell3 G
    try go_wp2
    refine bodyPost_ret (results_ct rfl _ _ ak 24 #[.int .i64 0,.int .i64 0,.slice none 0 0] (0,0) _ rfl zag Tryd.underlying24 rfl zc) rfl ?_;exact⟨_,rfE,nilE,hbA HB.out⟩
   rw[if_neg a7]at H
   have c12b0:decide ((rd l1 I)<0)=false:=decide_eq_false a7;clear a7;by_cases a8:(rd l1 I)>=Y
   case neg=>
    rw[if_neg a8]at H
    have c16b0:decide (Y<=(rd l1 I))=false:=decide_eq_false a8;clear a8;have H':=aK H;clear H
    try go_wp2
    replace D:=aK (blk_drew D.out);replace G:=aK (blk_drew G.out);replace HB:=aK (below_drew1 HB.out);have ao:0<=(I:Int):=of_decide_eq_true asE;have ap:I<(l1.length:Int):=of_decide_eq_true asE;obtain⟨an,a1,J⟩:=Kd.at_int bi.out I ao ap;have ai:=J
    cases a1
    replace J:=(HB.out.cell (World.block_lt_of_cell? w _ J)).trans J;replace ao:=eq_true ao;replace ap:=eq_true ap;have ay:0<=(I:Int):=of_decide_eq_true asE;have az:I<(l1.length:Int):=of_decide_eq_true asE;obtain⟨a5,bm,X⟩:=Kd.at_int bi.out I ay az;have aq:=X;obtain rfl:an=a5:=(by injection bm)
    replace X:=(HB.out.cell (World.block_lt_of_cell? w _ X)).trans X;replace ay:=eq_true ay;replace az:=eq_true az;refine start_ (n:=14) (S:=fun w'=>w'.cell? ⟨ah,0,none⟩=some (.int .i64 Y)/\w'.cell? ⟨ah,1,none⟩=some (.int .i64 O)/\w'.cell? ⟨ah,2,none⟩=some (.slice al Z.length am)/\w'.cell? (an.add (I).toNat)=some (.int .i64 (rd l1 I))/\w'.cell? (an.add (I).toNat)=some (.int .i64 (rd l1 I))) (ds:= []) (.replicate 14 false) zc rfl rfl (z3k D ⟨((HB.out.cell (World.block_lt_of_cell? w _ ai)).trans ai),((HB.out.cell (World.block_lt_of_cell? w _ aq)).trans aq)⟩) (fun hHeld=>?_);refine with_tabW recoupref03_Pick.tab6 recoupref03_Pick.bits6 (fun HT_ HW_=>?_);generalize wr.drew=fy at D G HB J X hHeld⊢;refine pu 0 (some 21) (mB 14 1) HT_ ?_;refine pu 1 (some 22) (mB 14 3) HT_ ?_;refine pu 2 (some 23) (mB 14 7) HT_ ?_;refine tk5 3 (some 24) (mB 14 15) HT_ HW_ hHeld ?_;refine pu 4 (some 25) (mB 14 31) HT_ ?_;refine pu 5 (some 26) (mB 14 63) HT_ ?_;refine pu 6 (some 27) (mB 14 127) HT_ ?_;refine pu 7 (some 28) (mB 14 255) HT_ ?_;refine pu 8 (some 29) (mB 14 511) HT_ ?_;refine pu 10 (some 31) (mB 14 1535) HT_ ?_;refine tk5 9 (some 30) (mB 14 2047) HT_ HW_ hHeld ?_;refine tk5 11 (some 32) (mB 14 4095) HT_ HW_ hHeld ?_;refine pu 12 (some 33) (mB 14 8191) HT_ ?_;refine pu 13 (some 34) (mB 14 16383) HT_ ?_;refine done_ (done_of HT_.out zc) ?_
    try go_wp2
    go_roundg k1
    case measure=>have:=co.out;omega
    case rel=>exact⟨(wrap64 (I+1)),(U),(L),rsE,H',⟨by have:=co.out;omega⟩,⟨bkA D.out⟩,⟨bkA G.out⟩,⟨hbA HB.out⟩⟩
   rw[if_pos a8]at H
   have c16b0:decide (Y<=(rd l1 I))=true:=decide_eq_true a8;clear a8;obtain⟨rfl,rfl,rfl,rfl⟩:=zP4 H
   try go_wp2
   replace D:=aK (blk_drew D.out);replace G:=aK (blk_drew G.out);replace HB:=aK (below_drew1 HB.out);have ao:0<=(I:Int):=of_decide_eq_true asE;have ap:I<(l1.length:Int):=of_decide_eq_true asE;obtain⟨an,a1,J⟩:=Kd.at_int bi.out I ao ap;have ai:=J
   cases a1
   replace J:=(HB.out.cell (World.block_lt_of_cell? w _ J)).trans J;replace ao:=eq_true ao;replace ap:=eq_true ap;have ay:0<=(I:Int):=of_decide_eq_true asE;have az:I<(l1.length:Int):=of_decide_eq_true asE;obtain⟨a5,bm,X⟩:=Kd.at_int bi.out I ay az;have aq:=X;obtain rfl:an=a5:=(by injection bm)
   replace X:=(HB.out.cell (World.block_lt_of_cell? w _ X)).trans X;replace ay:=eq_true ay;replace az:=eq_true az;refine start_ (n:=14) (S:=fun w'=>w'.cell? ⟨ah,0,none⟩=some (.int .i64 Y)/\w'.cell? ⟨ah,1,none⟩=some (.int .i64 O)/\w'.cell? ⟨ah,2,none⟩=some (.slice al Z.length am)/\w'.cell? (an.add (I).toNat)=some (.int .i64 (rd l1 I))/\w'.cell? (an.add (I).toNat)=some (.int .i64 (rd l1 I))) (ds:= []) (.replicate 14 false) zc rfl rfl (z3k D ⟨((HB.out.cell (World.block_lt_of_cell? w _ ai)).trans ai),((HB.out.cell (World.block_lt_of_cell? w _ aq)).trans aq)⟩) (fun hHeld=>?_);refine with_tabW recoupref03_Pick.tab6 recoupref03_Pick.bits6 (fun HT_ HW_=>?_);generalize wr.drew=fx at D G HB J X hHeld⊢;refine pu 0 (some 21) (mB 14 1) HT_ ?_;refine pu 1 (some 22) (mB 14 3) HT_ ?_;refine pu 2 (some 23) (mB 14 7) HT_ ?_;refine tk5 3 (some 24) (mB 14 15) HT_ HW_ hHeld ?_;refine pu 4 (some 25) (mB 14 31) HT_ ?_;refine pu 5 (some 26) (mB 14 63) HT_ ?_;refine pu 6 (some 27) (mB 14 127) HT_ ?_;refine pu 7 (some 28) (mB 14 255) HT_ ?_;refine pu 8 (some 29) (mB 14 511) HT_ ?_;refine pu 10 (some 31) (mB 14 1535) HT_ ?_;refine tk5 9 (some 30) (mB 14 2047) HT_ HW_ hHeld ?_;refine tk5 11 (some 32) (mB 14 4095) HT_ HW_ hHeld ?_;refine pu 12 (some 33) (mB 14 8191) HT_ ?_;refine pu 13 (some 34) (mB 14 16383) HT_ ?_;refine done_ (done_of HT_.out zc) ?_;have ep:=ac.out;have e2:=ab.out;obtain⟨br,bs,bt,b7,b8,b9⟩:=cell3 G
   try go_wp2
   refine bodyPost_ret (results_ct rfl _ _ ak 24 #[.int .i64 0,.int .i64 0,.slice none 0 0] (0,0) _ rfl zag Tryd.underlying24 rfl zc) rfl ?_;exact⟨_,rfE,nilE,hbA HB.out⟩
def recoupref01_Copy.f(l0:List Int):Option (List Int):=(some (([]:List Int):List Int)).bind fun D=>(if D.length+l0.length<140737488355328 then(some (D++l0))else(none))
theorem recoupref01_Copy.calls(A0:Option Addr)(c0:Nat)(l0:List Int)(r:List Int)(w:World)(aa:Kd.C (Kd.int .u8) w A0 l0.length l0)(Z:l0.length<=c0)(h:recoupref01_Copy.f l0=some r):
 Calls Tryd.prog 51 #[.slice A0 l0.length c0] w fun e w'=> ∃v0_:Value,e= .returned (v0_)/\Kd.R (Kd.int .u8) 5 w' w.heap.size (fun _=>True) v0_ r/\Below w.heap.size w w':=by
 have ae:=aK aa;have ag:=aK Z;clear aa Z;have HB:=aK (Below.refl w.heap.size w);have H:((some (([]:List Int):List Int)).bind fun D=>(if D.length+l0.length<140737488355328 then(some (D++l0))else(none)))=some r:=h;clear h;obtain⟨D,G⟩: ∃y_:List Int,y_=(([]:List Int)):=⟨_,rfl⟩
 replace H:(if D.length+l0.length<140737488355328 then(some (D++l0))else(none))=some r:=zH G H
 have L:=aK G;clear G;by_cases c2:D.length+l0.length<140737488355328
 ·rw[if_pos c2]at H
  have Y:=aK c2;clear c2;obtain⟨ac,I⟩: ∃y_:List Int,y_=(D++l0):=⟨_,rfl⟩
  replace H:(some ac)=some r:=zH I H
  have X:=aK I;clear I;obtain rfl:=Option.some.inj H
  go_enter Tryd.func51,Tryd.ntmps51
  go_wp2_with (first|((with_reducible refine gate_dst (N:=3) rfl ?_);refine Kd.R_lit (Kd.int .u8) _ 5 ?hg (N:=3) ?hd (xs:=([]:List Int)) (inner:= []) (ok:=fun _=>True) (okp:=fun _=>True) ?hr ?hp (fun _ hk=>hk) trivial (Below.refl _ _) (Nat.le_refl _) zd ?_;(case hd=>rfl);(case hg=>rfl);(case hr=>first|(go_simp;done)|(go_simp;rfl));(case hp=>exact(Reps.none _ _));intro ab w3 O hb hg_ hnew_;clear hg_ hnew_;(first|rw[<-L.out]at O|(simp only[Int.reduceToNat]at O;rw[<-L.out]at O));have J:=aK (R_lower O (below_size (hbA HB.out)));replace HB:=hbB HB hb;clear hb O)|((with_reducible refine gate_builtin (b:= .append) (xs:= #[.tmp 3,.tmp 4]) rfl ?_);at_builtin;refine Kd.R_append_rows (Kd.int .u8) (w0:=w) w.heap.size rfl (.tmp 3) (.tmp 4) 22 5 (.int .u8 0) 1 rfl Tryd.underlying22 info5 rfl zb za ab D l0 _ _ _ (fun _=>True) (fun _=>False) rfl rfl ?aO ?aR (fun _ _ h=>h) (fun _ h=>h.elim) ?aF ?aB ?aS ?aL ?_;(case aR=>exact kcB ae HB);(case aB=>exact(hbA HB.out));(case aF=>exact(fun _ _=>trivial));(case aO=>exact(kdA J.out));(case aS=>exact(below_size (hbA HB.out)));(case aL=>have:=Y.out;omega);intro af w5 ho hb hg hat;rw[<-X.out]at ho;have n0_:=aK (hb);have n1_:=aK (ho);clear HB;clear J;have HB:=n0_;have U:=n1_;clear n0_ n1_;clear ho hb hg hat))
  go_ret
  exact⟨_,rfE,by(with_reducible repeat(first|apply R_alloc|apply R_drewN|apply R_drew));exact U.out,hbA HB.out⟩
 ·rw[if_neg c2]at H
  exact absurd H zd
def recoupref03_Copy.f(D:Int)(G:Int)(I:List Int):Option (Int×Int×List Int):=(recoupref01_Copy.f I).bind fun J=>(some (D,G,J))
theorem recoupref03_Copy.calls(I:Int)(O:Int)(Z:Option Addr)(aa:Nat)(G:List Int)(r1:Int)(r2:Int)(r3:List Int)(w:World)(ae:Kd.C (Kd.int .u8) w Z G.length G)(ac:G.length<=aa)(h:recoupref03_Copy.f I O G=some (r1,r2,r3)):
 Calls Tryd.prog 24 #[.agg #[.int .i64 I,.int .i64 O,.slice Z G.length aa]] w fun e w'=> ∃v2_:Value,e= .returned (.agg #[.int .i64 r1,.int .i64 r2,v2_])/\Kd.R (Kd.int .u8) 5 w' w.heap.size (fun _=>True) v2_ r3/\Below w.heap.size w w':=by
 have bc:=Tryd.underlying24;have ah:=aK ae;have ag:=aK ac;clear ae ac;have HB:=aK (Below.refl w.heap.size w);have H:((recoupref01_Copy.f G).bind fun U=>(some (I,O,U)))=some (r1,r2,r3):=h;clear h;obtain⟨U,A2,H⟩:=bindO H
 (try dsimp only at H)
 obtain⟨rfl,rfl,rfl⟩:=zP3 H
 go_enter Tryd.func24,Tryd.ntmps24
 go_wp2_with (first|((with_reducible refine gD 1 rfl ?_);refine bE 1 #[.int .i64 I,.int .i64 O,.slice Z G.length aa] 24 ?_;intro aj hg w3 hbox hb;have D:=aK (hbox);have a7:=hbS HB hg;have a5:=hbS HB hg;replace HB:=hbB HB hb;clear hb hbox hg)|((with_reducible refine gD 2 rfl ?_);refine bE 2 #[.int .i64 0,.int .i64 0,.slice none 0 0] 24 ?_;intro X hg w4 hbox hb;have J:=aK (hbox);have a8:=hbS HB hg;have a6:=hbS HB hg;replace HB:=hbB HB hb;have Y:=neL D hg;have L:=neG D hg;replace D:=bkB D hb;clear hb hbox hg;have ba:=Y.out;have bb:=L.out;obtain⟨ar,au,av,az,a0,a1⟩:=cell3 D)|((with_reducible refine gC 51 rfl ?_);refine cG (some 5) Tryd.func51 #[.slice Z G.length aa] ?_;(with_reducible refine(recoupref01_Copy.calls _ _ G U _ ?side1 ?side2 A2.out).mono ?_);(case side1=>exact kcB ah HB);(case side2=>exact ag.out);rintro e w7 ⟨bd,rfl,aq,hb⟩;refine⟨_,rfl,?_⟩;have ab:=aK (R_lower aq (below_size (hbA HB.out)));replace D:=bkB D hb;replace J:=bkB J hb;replace HB:=hbB HB hb;(try clear hb);(try clear aq);obtain⟨af,ai,a9⟩:=R_slice ab.out;subst a9;obtain⟨aw,ax,ay,a2,a3,a4⟩:=cell3 D;obtain⟨ak,al,am,an,ao,ap⟩:=cell3 J))
 refine bodyPost_ret (results_cell_row rfl _ _ X 24 #[.int .i64 I,.int .i64 O,.slice af U.length ai] (0,0) _ rfl (by refine bkR ?_;refine blk_put (cs:= #[.int .i64 I,.int .i64 O,.slice none 0 0]) ?_ 2 _ rfl;refine bkR ?_;refine blk_put (cs:= #[.int .i64 I,.int .i64 0,.slice none 0 0]) ?_ 1 _ rfl;refine bkR ?_;refine blk_put (cs:= #[.int .i64 0,.int .i64 0,.slice none 0 0]) ?_ 0 _ rfl;refine bkR ?_;refine blk_far ?_ L.out _;refine bkR ?_;exact J.out) Tryd.underlying24 rfl zc) rfl ?_;exact⟨_,rfE,by(with_reducible repeat(first|apply R_alloc|apply R_drewN|apply R_drew));exact R_mono (R_far (p:=⟨X,2,none⟩) (R_far (p:=⟨X,1,none⟩) (R_far (p:=⟨X,0,none⟩) (R_far (p:=⟨aj,2,none⟩) (R_types (R_types ab.out D.out zb) J.out zb) (fun _ hk=>hk.1.2) (.slice af U.length ai)) (fun _ hk=>hk.2) (.int .i64 I)) (fun _ hk=>hk.2) (.int .i64 O)) (fun _ hk=>hk.2) (.slice af U.length ai)) (fun _ hk=>trivial),hbA HB.out⟩
mutual
def recoupref01_Mul.l0:Nat->Int->Int->Int->Int->Option (Int)
 |0,_,_,_,_=>none
 |k+1,x0,x1,x5,x6=>if x6<8 then(if 0<=(IntKind.u64.wrap (x6))then(if(Go.bits .and .u8 (shr .u8 x1 (IntKind.u64.wrap (x6))) 1)=1 then(recoupref01_Mul.l0 k x0 x1 (Go.bits .xor .i64 x5 (shl .i64 (wrap64 (x0)) (IntKind.u64.wrap (x6)))) (wrap64 (x6+1)))else(recoupref01_Mul.l0 k x0 x1 x5 (wrap64 (x6+1))))else(none))else(recoupref01_Mul.l1 k x5 14)
def recoupref01_Mul.l1:Nat->Int->Int->Option (Int)
 |0,_,_=>none
 |k+1,x5,x7=>if x7>=8 then(if 0<=(IntKind.u64.wrap (x7))then(if(Go.bits .and .i64 (shr .i64 x5 (IntKind.u64.wrap (x7))) 1)=1 then(if 0<=(IntKind.u64.wrap (wrap64 (x7-8)))then(recoupref01_Mul.l1 k (Go.bits .xor .i64 x5 (shl .i64 285 (IntKind.u64.wrap (wrap64 (x7-8))))) (wrap64 (x7-1)))else(none))else(recoupref01_Mul.l1 k x5 (wrap64 (x7-1))))else(none))else(some ((x5) % 256))
end
def recoupref01_Mul.f(k:Nat)(a0:Int)(a1:Int):Option (Int):=recoupref01_Mul.l0 k a0 a1 0 0
theorem recoupref01_Mul.calls(k:Nat)(a0:Int)(a1:Int)(r:Int)(w:World)(h:recoupref01_Mul.f k a0 a1=some r):
 Calls Tryd.prog 78 #[.int .u8 a0,.int .u8 a1] w fun e w'=>e= .returned (.int .u8 r)/\Drawn0 w w':=by
 have H:(recoupref01_Mul.l0 k a0 a1 0 0)=some r:=h;clear h;have H':=aK H;clear H
 go_enter Tryd.func78,Tryd.ntmps78
 go_wp2
 go_loopg [5,6] k (fun kq v5 v6 w'=> ∃(O:Int) (I:Int),v5= .int .i64 O/\v6= .int .i64 I/\Aside0 (recoupref01_Mul.l0 kq a0 a1 O I=some r)/\Aside0 (kq<=k)/\Drawn0 w w')
 case atStart=>exact⟨(0),(0),rsE,rsE,H',⟨Nat.le_refl _⟩,by repeat(first|exact Drawn0.refl _|apply Drawn0.step)⟩
 case round=>
  clear H'
  (try clear p2)
  obtain⟨O,I,rfl,rfl,HA,ab,⟨m1,rfl⟩⟩:=hrel
  cases gk with
  |zero=>exact absurd HA.out (by simp[recoupref01_Mul.l0])
  |succ k1=>
   have H:=HA.out;clear HA;simp only[recoupref01_Mul.l0]at H;by_cases c3:I<8
   ·rw[if_pos c3]at H
    have c3b0:decide (I<8)=true:=decide_eq_true c3;clear c3;obtain⟨J,ao⟩: ∃j_:Int,(IntKind.u64.wrap (I))=j_:=⟨_,rfl⟩
    replace H:(if 0<=(J)then(if(Go.bits .and .u8 (shr .u8 a1 (J)) 1)=1 then(recoupref01_Mul.l0 k1 a0 a1 (Go.bits .xor .i64 O (shl .i64 (wrap64 (a0)) (J))) (wrap64 (I+1)))else(recoupref01_Mul.l0 k1 a0 a1 O (wrap64 (I+1))))else(none))=some r:=by first|(rw[ao]at H;exact H)|(simp only[ao]at H⊢;exact H)
    by_cases c5:0<=(J)
    case neg=>rw[if_neg c5]at H;exact absurd H zd
    rw[if_pos c5]at H
    have c5b0:=eq_true c5;have c5b1:decide (0<=(J))=true:=decide_eq_true c5;clear c5;obtain⟨ae,ag⟩: ∃j_:Int,(shr .u8 a1 (J))=j_:=⟨_,rfl⟩
    replace H:(if(Go.bits .and .u8 (ae) 1)=1 then(recoupref01_Mul.l0 k1 a0 a1 (Go.bits .xor .i64 O (shl .i64 (wrap64 (a0)) (J))) (wrap64 (I+1)))else(recoupref01_Mul.l0 k1 a0 a1 O (wrap64 (I+1))))=some r:=by first|(rw[ag]at H;exact H)|(simp only[ag]at H⊢;exact H)
    have hji6_:(a1 / 2^min (J).toNat 8)=ae:=ag;have hji6z:(J)<=8->(a1 / 2^(J).toNat)=ae:=shr_small ag;by_cases c7:(Go.bits .and .u8 (ae) 1)=1
    case neg=>
     rw[if_neg c7]at H
     have c7b0:((Go.bits .and .u8 (ae) 1)==1)=false:=beq_eq_false_iff_ne.mpr c7;have c7b1:((Go.bits .and .u8 (ae) 1)!=1)=true:=bne_iff_ne.mpr c7;have H':=aK H;clear H;go_wp2
     go_roundg k1
     case measure=>have:=ab.out;omega
     case rel=>exact⟨(O),(wrap64 (I+1)),rsE,rsE,H',⟨by have:=ab.out;omega⟩,by repeat(first|exact Drawn0.refl _|apply Drawn0.step)⟩
    rw[if_pos c7]at H
    have c7b0:((Go.bits .and .u8 (ae) 1)==1)=true:=beq_iff_eq.mpr c7;have c7b1:((Go.bits .and .u8 (ae) 1)!=1)=false:=bne_eq_false_iff_eq.mpr c7;clear c7;have c8b0:=eq_true (of_decide_eq_true asE:0<=(J));obtain⟨ai,ac⟩: ∃j_:Int,(shl .i64 (wrap64 (a0)) (J))=j_:=⟨_,rfl⟩
    replace H:(recoupref01_Mul.l0 k1 a0 a1 (Go.bits .xor .i64 O (ai)) (wrap64 (I+1)))=some r:=by first|(rw[ac]at H;exact H)|(simp only[ac]at H⊢;exact H)
    have hji9_:(IntKind.i64.wrap ((wrap64 (a0))*2^min (J).toNat 64))=ai:=ac;have hji9z:(J)<=64->(IntKind.i64.wrap ((wrap64 (a0))*2^(J).toNat))=ai:=shl_small ac;have hji9y:(wrap64 ((wrap64 (a0))*2^min (J).toNat 64))=ai:=(i64_w _).symm.trans hji9_;have hji9x:(J)<=64->(wrap64 ((wrap64 (a0))*2^(J).toNat))=ai:=fun h_=>(i64_w _).symm.trans (hji9z h_);have H':=aK H;clear H;go_wp2
    go_roundg k1
    case measure=>have:=ab.out;omega
    case rel=>exact⟨(Go.bits .xor .i64 O (ai)),(wrap64 (I+1)),(by first|rfl|(simp;done)|(simp only[<-ac]<;>(first|rfl|simp))|(simp[*];done)),rsE,H',⟨by have:=ab.out;omega⟩,by repeat(first|exact Drawn0.refl _|apply Drawn0.step)⟩
   rw[if_neg c3]at H
   have c3b0:decide (I<8)=false:=decide_eq_false c3;clear c3;have H':=aK H;clear H;go_wp2
   go_loopg [5,7] k1 (fun kq v5 v7 w'=> ∃(G:Int) (D:Int),v5= .int .i64 G/\v7= .int .i64 D/\Aside0 (recoupref01_Mul.l1 kq G D=some r)/\Aside0 (kq<=k1)/\Drawn0 w w')
   case atStart=>exact⟨(O),(14),rsE,rsE,H',⟨Nat.le_refl _⟩,by repeat(first|exact Drawn0.refl _|apply Drawn0.step)⟩
   case round=>
    clear H'
    (try clear p2 p2);(try clear c3);(try clear c3b0);(try clear c5);(try clear c5b0);(try clear c5b1);(try clear p6);(try clear c7);(try clear c7b0);(try clear c7b1);(try clear c8);(try clear c8b0)
    obtain⟨G,D,rfl,rfl,HA,an,⟨m2,rfl⟩⟩:=hrel
    cases gk with
    |zero=>exact absurd HA.out (by simp[recoupref01_Mul.l1])
    |succ k2=>
     have H:=HA.out;clear HA;simp only[recoupref01_Mul.l1]at H;by_cases ah:D>=8
     case neg=>
      rw[if_neg ah]at H
      have c10b0:decide (8<=D)=false:=decide_eq_false ah;clear ah;obtain rfl:=Option.some.inj H;go_wp2
      go_ret
      exact zD
     rw[if_pos ah]at H
     have c10b0:decide (8<=D)=true:=decide_eq_true ah;clear ah;obtain⟨U,al⟩: ∃j_:Int,(IntKind.u64.wrap (D))=j_:=⟨_,rfl⟩
     replace H:(if 0<=(U)then(if(Go.bits .and .i64 (shr .i64 G (U)) 1)=1 then(if 0<=(IntKind.u64.wrap (wrap64 (D-8)))then(recoupref01_Mul.l1 k2 (Go.bits .xor .i64 G (shl .i64 285 (IntKind.u64.wrap (wrap64 (D-8))))) (wrap64 (D-1)))else(none))else(recoupref01_Mul.l1 k2 G (wrap64 (D-1))))else(none))=some r:=by first|(rw[al]at H;exact H)|(simp only[al]at H⊢;exact H)
     by_cases aj:0<=(U)
     case neg=>rw[if_neg aj]at H;exact absurd H zd
     rw[if_pos aj]at H
     have c12b0:=eq_true aj;have c12b1:decide (0<=(U))=true:=decide_eq_true aj;clear aj;obtain⟨X,aa⟩: ∃j_:Int,(shr .i64 G (U))=j_:=⟨_,rfl⟩
     replace H:(if(Go.bits .and .i64 (X) 1)=1 then(if 0<=(IntKind.u64.wrap (wrap64 (D-8)))then(recoupref01_Mul.l1 k2 (Go.bits .xor .i64 G (shl .i64 285 (IntKind.u64.wrap (wrap64 (D-8))))) (wrap64 (D-1)))else(none))else(recoupref01_Mul.l1 k2 G (wrap64 (D-1))))=some r:=by first|(rw[aa]at H;exact H)|(simp only[aa]at H⊢;exact H)
     have hji13_:(G / 2^min (U).toNat 64)=X:=aa;have hji13z:(U)<=64->(G / 2^(U).toNat)=X:=shr_small aa;by_cases af:(Go.bits .and .i64 (X) 1)=1
     case neg=>
      rw[if_neg af]at H
      have c14b0:((Go.bits .and .i64 (X) 1)==1)=false:=beq_eq_false_iff_ne.mpr af;have c14b1:((Go.bits .and .i64 (X) 1)!=1)=true:=bne_iff_ne.mpr af;have H':=aK H;clear H;go_wp2
      go_roundg k2
      case measure=>have:=ab.out;have:=an.out;omega
      case rel=>exact⟨(G),(wrap64 (D-1)),rsE,rsE,H',⟨by have:=ab.out;have:=an.out;omega⟩,by repeat(first|exact Drawn0.refl _|apply Drawn0.step)⟩
     rw[if_pos af]at H
     have c14b0:((Go.bits .and .i64 (X) 1)==1)=true:=beq_iff_eq.mpr af;have c14b1:((Go.bits .and .i64 (X) 1)!=1)=false:=bne_eq_false_iff_eq.mpr af;clear af;obtain⟨L,am⟩: ∃j_:Int,(IntKind.u64.wrap (wrap64 (D-8)))=j_:=⟨_,rfl⟩
     replace H:(if 0<=(L)then(recoupref01_Mul.l1 k2 (Go.bits .xor .i64 G (shl .i64 285 (L))) (wrap64 (D-1)))else(none))=some r:=by first|(rw[am]at H;exact H)|(simp only[am]at H⊢;exact H)
     by_cases ak:0<=(L)
     case neg=>rw[if_neg ak]at H;exact absurd H zd
     rw[if_pos ak]at H
     have c16b0:=eq_true ak;have c16b1:decide (0<=(L))=true:=decide_eq_true ak;clear ak;obtain⟨Z,Y⟩: ∃j_:Int,(shl .i64 285 (L))=j_:=⟨_,rfl⟩
     replace H:(recoupref01_Mul.l1 k2 (Go.bits .xor .i64 G (Z)) (wrap64 (D-1)))=some r:=by first|(rw[Y]at H;exact H)|(simp only[Y]at H⊢;exact H)
     have hji17_:(IntKind.i64.wrap (285*2^min (L).toNat 64))=Z:=Y;have hji17z:(L)<=64->(IntKind.i64.wrap (285*2^(L).toNat))=Z:=shl_small Y;have hji17y:(wrap64 (285*2^min (L).toNat 64))=Z:=(i64_w _).symm.trans hji17_;have hji17x:(L)<=64->(wrap64 (285*2^(L).toNat))=Z:=fun h_=>(i64_w _).symm.trans (hji17z h_);have H':=aK H;clear H;go_wp2
     go_roundg k2
     case measure=>have:=ab.out;have:=an.out;omega
     case rel=>exact⟨(Go.bits .xor .i64 G (Z)),(wrap64 (D-1)),(by first|rfl|(simp;done)|(simp only[<-Y]<;>(first|rfl|simp))|(simp[*];done)),rsE,H',⟨by have:=ab.out;have:=an.out;omega⟩,by repeat(first|exact Drawn0.refl _|apply Drawn0.step)⟩
def recoupref01_Inv.l0:Nat->Int->Int->Option (Int×Int)
 |0,_,_=>none
 |k+1,x0,x4=>if x4<256 then((recoupref01_Mul.f k x0 ((x4) % 256)).bind fun D=>(if D=1 then(some ((x4) % 256,0))else(recoupref01_Inv.l0 k x0 (wrap64 (x4+1)))))else(some (0,5))
def recoupref01_Inv.f(k:Nat)(a0:Int):Option (Int×Int):=recoupref01_Inv.l0 k a0 1
theorem recoupref01_Inv.calls(k:Nat)(a0:Int)(r1:Int)(r2:Int)(w:World)(h:recoupref01_Inv.f k a0=some (r1,r2)):
 Calls Tryd.prog 113 #[.int .u8 a0] w fun e w'=>e= .returned (.tuple #[.int .u8 r1,.int .i64 r2])/\Drawn0 w w':=by
 have H:(recoupref01_Inv.l0 k a0 1)=some (r1,r2):=h;clear h;have H':=aK H;clear H
 go_enter Tryd.func113,Tryd.ntmps113
 go_wp2
 go_loopg [4] k (fun kq v4 w'=> ∃(D:Int),v4= .int .i64 D/\Aside0 (recoupref01_Inv.l0 kq a0 D=some (r1,r2))/\Aside0 (kq<=k)/\Drawn0 w w')
 case atStart=>exact⟨(1),rsE,H',⟨Nat.le_refl _⟩,by repeat(first|exact Drawn0.refl _|apply Drawn0.step)⟩
 case round=>
  clear H'
  (try clear c1)
  obtain⟨D,rfl,HA,I,⟨m1,rfl⟩⟩:=hrel
  cases gk with
  |zero=>exact absurd HA.out (by simp[recoupref01_Inv.l0])
  |succ k1=>
   have H:=HA.out;clear HA;simp only[recoupref01_Inv.l0]at H;by_cases c2:D<256
   case neg=>
    rw[if_neg c2]at H
    have c2b0:decide (D<256)=false:=decide_eq_false c2;clear c2;obtain⟨rfl,rfl⟩:=zP2 H;go_wp2
    go_ret2
    exact zD
   rw[if_pos c2]at H
   have c2b0:decide (D<256)=true:=decide_eq_true c2;clear c2;obtain⟨G,A3,H⟩:=bindO H
   (try dsimp only at H)
   by_cases c4:G=1
   case neg=>
    rw[if_neg c4]at H
    have c4b0:(G==1)=false:=beq_eq_false_iff_ne.mpr c4;have c4b1:(G !=1)=true:=bne_iff_ne.mpr c4;have H':=aK H;clear H
    go_wp2_with (first|((with_reducible refine gC 78 rfl ?_);refine cG (some 12) Tryd.func78 #[.int .u8 a0,.int .u8 ((D) % 256)] ?_;(with_reducible refine(recoupref01_Mul.calls k1 a0 ((D) % 256) G _ A3.out).mono ?_);rintro e w' ⟨rfl,⟨nd,rfl⟩⟩;refine⟨_,rfl,?_⟩))
    go_roundg k1
    case measure=>have:=I.out;omega
    case rel=>exact⟨(wrap64 (D+1)),rsE,H',⟨by have:=I.out;omega⟩,by repeat(first|exact Drawn0.refl _|apply Drawn0.step)⟩
   rw[if_pos c4]at H
   have c4b0:(G==1)=true:=beq_iff_eq.mpr c4;have c4b1:(G !=1)=false:=bne_eq_false_iff_eq.mpr c4;clear c4;obtain⟨rfl,rfl⟩:=zP2 H
   go_wp2_with (first|((with_reducible refine gC 78 rfl ?_);refine cG (some 12) Tryd.func78 #[.int .u8 a0,.int .u8 ((D) % 256)] ?_;(with_reducible refine(recoupref01_Mul.calls k1 a0 ((D) % 256) G _ A3.out).mono ?_);rintro e w' ⟨rfl,⟨nd,rfl⟩⟩;refine⟨_,rfl,?_⟩))
   go_ret2
   exact zD
def recoupref01_Scale.l0:Nat->Int->List Int->List Int->Int->Option (List Int)
 |0,_,_,_,_=>none
 |k+1,x0,x1,x5,x6=>if x6<(x1.length:Int)then(if 0<=x6 then((recoupref01_Mul.f k x0 (rd x1 x6)).bind fun D=>(if x5.length<140737488355328 then(recoupref01_Scale.l0 k x0 x1 (x5++ [D]) (wrap64 (x6+1)))else(none)))else(none))else(some x5)
def recoupref01_Scale.f(k:Nat)(a0:Int)(l1:List Int):Option (List Int):=recoupref01_Scale.l0 k a0 l1 ([]:List Int) 0
theorem recoupref01_Scale.calls(k:Nat)(a0:Int)(A1:Option Addr)(c1:Nat)(l1:List Int)(r:List Int)(w:World)(af:Kd.C (Kd.int .u8) w A1 l1.length l1)(ae:l1.length<=c1)(h:recoupref01_Scale.f k a0 l1=some r):
 Calls Tryd.prog 114 #[.int .u8 a0,.slice A1 l1.length c1] w fun e w'=> ∃v0_:Value,e= .returned (v0_)/\Kd.R (Kd.int .u8) 5 w' w.heap.size (fun _=>True) v0_ r/\Below w.heap.size w w':=by
 have ag:=aK af;have aj:=aK ae;clear af ae;have HB:=aK (Below.refl w.heap.size w);have H:(recoupref01_Scale.l0 k a0 l1 ([]:List Int) 0)=some r:=h;clear h;have H':=aK H;clear H
 go_enter Tryd.func114,Tryd.ntmps114
 go_wp2
 go_loopg [5,6] k (fun kq v5 v6 w'=> ∃(J:List Int) (D:Int),v6= .int .i64 D/\Aside0 (recoupref01_Scale.l0 kq a0 l1 J D=some r)/\Aside0 (kq<=k)/\Aside0 (Kd.R (Kd.int .u8) 5 w' w.heap.size (fun _=>True) v5 J)/\Aside0 (Below w.heap.size w w'))
 case atStart=>exact⟨(([]:List Int)),(0),rsE,H',⟨Nat.le_refl _⟩,⟨nilE⟩,⟨hbA HB.out⟩⟩
 case round=>
  clear H'
  (try clear c1);(try clear p2)
  obtain⟨J,D,rfl,HA,aa,HO_5,HB⟩:=hrel
  cases gk with
  |zero=>exact absurd HA.out (by simp[recoupref01_Scale.l0])
  |succ k1=>
   have H:=HA.out;clear HA;simp only[recoupref01_Scale.l0]at H;by_cases c3:D<(l1.length:Int)
   case neg=>
    rw[if_neg c3]at H
    have c3b0:decide (D<(l1.length:Int))=false:=decide_eq_false c3;clear c3;obtain rfl:=Option.some.inj H;go_wp2
    go_ret
    exact⟨_,rfE,by(with_reducible repeat(first|apply R_alloc|apply R_drewN|apply R_drew));exact HO_5.out,hbA HB.out⟩
   rw[if_pos c3]at H
   have c3b0:decide (D<(l1.length:Int))=true:=decide_eq_true c3;clear c3;by_cases c4:0<=D
   case neg=>rw[if_neg c4]at H;exact absurd H zd
   rw[if_pos c4]at H
   have c4b0:decide (0<=D)=true:=decide_eq_true c4;clear c4;obtain⟨L,A5,H⟩:=bindO H
   (try dsimp only at H)
   by_cases c6:J.length<140737488355328
   case neg=>rw[if_neg c6]at H;exact absurd H zd
   rw[if_pos c6]at H
   have ab:=aK c6;clear c6;obtain⟨X,I⟩: ∃y_:List Int,y_=(J++ [L]):=⟨_,rfl⟩
   replace H:(recoupref01_Scale.l0 k1 a0 l1 X (wrap64 (D+1)))=some r:=zH I H
   have Z:=aK I;clear I;have H':=aK H;clear H;have O:0<=(D:Int):=of_decide_eq_true asE;have U:D<(l1.length:Int):=of_decide_eq_true asE;obtain⟨ah,ac,G⟩:=Kd.at_int ag.out D O U
   cases ac
   replace G:=(HB.out.cell (World.block_lt_of_cell? w _ G)).trans G;replace O:=eq_true O;replace U:=eq_true U
   go_wp2_with (first|((with_reducible refine gC 78 rfl ?_);refine cG (some 19) Tryd.func78 #[.int .u8 a0,.int .u8 (rd l1 D)] ?_;(with_reducible refine(recoupref01_Mul.calls k1 a0 (rd l1 D) L _ A5.out).mono ?_);rintro e w' ⟨rfl,⟨nd,rfl⟩⟩;refine⟨_,rfl,?_⟩)|((with_reducible refine gate_builtin (b:= .append) (xs:= #[.tmp 13,.tmp 20]) rfl ?_);at_builtin;refine Kd.R_append (Kd.int .u8) (w0:=w) w.heap.size rfl (.tmp 13) (.tmp 20) 22 5 (.int .u8 0) 1 rfl Tryd.underlying22 info5 rfl zb za u5 J L [.int .u8 L] (fun _=>True) (fun _=>False) rfl rfl ?aP (fun _ hk=>hk.elim) ?aF ?aO ?aB ?aS ?aL ?_;(case aP=>exact rfl);(case aB=>exact(hbA HB.out));(case aF=>exact(fun _ _=>trivial));(case aO=>exact(kdA HO_5.out));(case aS=>exact(below_size (hbA HB.out)));(case aL=>have:=ab.out;omega);intro ai w7 ho hb hg hat;rw[<-Z.out]at ho;have n0_:=aK (hb);have n1_:=aK (ho);clear HB;clear HO_5;have HB:=n0_;have Y:=n1_;clear n0_ n1_;clear ho hb hg hat))
   go_roundg k1
   case measure=>have:=aa.out;omega
   case rel=>exact⟨(X),(wrap64 (D+1)),rsE,H',⟨by have:=aa.out;omega⟩,⟨kdA Y.out⟩,⟨hbA HB.out⟩⟩
end Go.Proofs.YtjgcocfnilhggaaDoor.Q
