/- Texts of the proof of VerdictGives: what each Go function answers, and what the answers mean; no condition beyond each theorem's own. -/
import Derived.RangeFuncNested
import Derived.RangeFuncBound
import Derived.RangeFuncCalls
import Derived.RangeFuncLeaves
import Derived.Shelf.Abstract
import Derived.Shelf.RegionOpen
import Derived.LoopNIn
import Derived.LoopIn
import Derived.Test.YtkagobkedifhkaaDoorG12
namespace Go.Proofs.YtkagobkedifhkaaDoor.Q
open Go.RowKit Go.Proofs.YtkagobkedifhkaaDoorW.PrintWords Go.Proofs.YtkagobkedifhkaaDoorW.PrintLast Go.Proofs.YtkagobkedifhkaaDoorW.PrintMore
attribute [local go_sem] max2_int min2_int max_two min_two max_three min_three max_four min_four
set_option linter.unusedVariables false
set_option linter.unusedSimpArgs false
theorem mul_small{i cols f:Nat}(hf:f=i*cols)(h:f≤1000000):wrap64 ((i:Int)*(cols:Int))=(f:Int)∧IntKind.i64.wrap ((i:Int)*(cols:Int))=(f:Int):=by
 have e:((i:Int)*(cols:Int))=(f:Int):=by rw[hf];simp
 clear hf;rw[e];exact⟨wrap_small za za,iwrap_small za za⟩
set_option maxHeartbeats 2000000 in
set_option maxRecDepth 100000 in
theorem matrix_row.calls(ra:Int)(cols i n c f f2:Nat)(A:Option Addr)(w:World)(hf:f=i*cols)(D:f2=(i+1)*cols)(hc:f2≤c)(hi:i≤64)(J:cols≤64):
 Calls Tryd.prog 70 #[.agg #[.int .i64 ra,.int .i64 cols,.slice A n c],.int .i64 i] w fun e w'=>e= .returned (.slice (if f2=f then A else A.map (·.add f)) cols cols)∧Below w.heap.size w w':=by
 have X:=Tryd.underlying24;have hff:f2=f+cols:=by rw[D,hf,Nat.add_mul,Nat.one_mul]
 have hfs:f≤4096:=by rw[hf];exact Nat.mul_le_mul hi J
 have m1:=mul_small hf (by clear hf D;omega);have m2:=mul_small D (by clear hf D m1;omega);clear hf D;obtain⟨w1b,w1a⟩:=m1;obtain⟨w2b,w2a⟩:=m2;rw[show((i+1:Nat):Int)=(i:Int)+1 from by omega]at w2a w2b
 have HFF:=aK hff;have U:(f:Int)≤(f2:Int):=by clear w1a w1b w2a w2b;omega
 have hf2c:(f2:Int)≤(c:Int):=by clear w1a w1b w2a w2b;omega
 have hfi:(0:Int)≤(f:Int):=by clear w1a w1b w2a w2b;omega
 have w3a:IntKind.i64.wrap ((i:Int)+1)=(i:Int)+1:=by clear w1a w1b w2a w2b;exact iwrap_small za za
 clear hff
 go_enter Tryd.func70,Tryd.ntmps70
 go_wp2_with fail
 have I:=below_alloc (Below.refl w.heap.size w) (.cells #[.int .i64 ra,.int .i64 cols,.slice A n c] 24);have G:=blk_new w (.cells #[.int .i64 ra,.int .i64 cols,.slice A n c] 24);generalize w.alloc (.cells #[.int .i64 ra,.int .i64 cols,.slice A n c] 24)=w1 at*;refine start_ (n:=11) (S:=fun w'=>w'.cell? ⟨w.heap.size,1,none⟩=some (.int .i64 cols)) (ds:= []) (mB 11 0) zb rfl rfl ((blk_cell G 1).trans rfl) (fun hHeld=>?_);have O:w1.drew.heap[w.heap.size]? =some (.cells #[.int .i64 ra,.int .i64 cols,.slice A n c] 24 (0,0)):=G;have L:Below w.heap.size w w1.drew:=below_drew I;clear G I;generalize w1.drew=w2 at*;refine zpu 0 (some 7) (mB 11 1) ?_;refine zpu 1 (some 8) (mB 11 3) ?_;refine zpu 4 (some 11) (mB 11 19) ?_;refine zpu 5 (some 12) (mB 11 51) ?_;refine zpu 6 (some 13) (mB 11 115) ?_;refine ztk1 2 (some 9) (mB 11 119) hHeld ?_;refine zpu 3 (some 10) (mB 11 127) ?_;refine zpu 9 (some 5) (mB 11 639) ?_;refine ztk1 7 (some 14) (mB 11 767) hHeld ?_;refine zpu 8 (some 15) (mB 11 1023) ?_;refine zpu 10 (some 6) (mB 11 2047) ?_;refine done_ zb ?_;clear hHeld w1a w2a w1b w2b w3a;have z:w2.cell? ⟨w.heap.size,2,none⟩=some (.slice A n c):=(blk_cell O 2).trans rfl;have hsub:f2-f=cols:=by have:=HFF.out;omega
 go_wp2_with fail
 all_goals
  go_ret
  exact⟨rfl,L⟩
def midT(rows cols:Nat)(l:List Int)(i j:Nat):List Int:=(List.range (cols*rows)).map fun q=>if q % rows<i∨(q % rows=i∧q / rows<j)then l.getD (q % rows*cols+q / rows) 0 else 0
def transL(rows cols:Nat)(l:List Int):List Int:=(List.range (cols*rows)).map fun q=>l.getD (q % rows*cols+q / rows) 0
theorem midT_length(rows cols:Nat)(l:List Int)(i j:Nat):(midT rows cols l i j).length=cols*rows:=by simp[midT]
theorem midT_zero(rows cols:Nat)(l:List Int):midT rows cols l 0 0=List.replicate (cols*rows) 0:=by
 apply List.ext_getElem (by simp[midT]);intro q h1 h2;simp[midT]
theorem midT_step{rows cols:Nat}{l:List Int}{i j:Nat}(hi:i<rows)(hj:j<cols):(midT rows cols l i j).set (j*rows+i) (l.getD (i*cols+j) 0)=midT rows cols l i (j+1):=by
 have hm:(j*rows+i) % rows=i:=by rw[Nat.add_comm,Nat.add_mul_mod_self_right,Nat.mod_eq_of_lt hi]
 have hd:(j*rows+i) / rows=j:=by rw[Nat.add_comm,Nat.add_mul_div_right _ _ za,Nat.div_eq_of_lt hi,Nat.zero_add]
 apply List.ext_getElem (by simp[midT]);intro q h1 h2;simp only[midT,List.getElem_set,List.getElem_map,List.getElem_range];by_cases e:j*rows+i=q
 ·subst e;rw[if_pos rfl,hm,hd,if_pos (.inr ⟨rfl,by omega⟩)]
 ·rw[if_neg e];have hq:=Nat.div_add_mod q rows;by_cases c:q % rows<i∨(q % rows=i∧q / rows<j)
  ·rw[if_pos c,if_pos (c.imp id (fun⟨a,b⟩=>⟨a,by omega⟩))]
  ·rw[if_neg c,if_neg];rintro(h|⟨h,h'⟩)
   ·exact c (.inl h)
   ·rcases Nat.lt_or_eq_of_le (Nat.le_of_lt_succ h')with h3|h3
    ·exact c (.inr ⟨h,h3⟩)
    ·apply e;rw[h,h3]at hq
     rw[Nat.mul_comm];exact hq
theorem midT_row{rows cols:Nat}{l:List Int}{i:Nat} :midT rows cols l i cols=midT rows cols l (i+1) 0:=by
 apply List.ext_getElem (by simp[midT]);intro q h1 h2;rw[midT_length]at h1
 have hq:q / rows<cols:=by
  rcases Nat.eq_zero_or_pos rows with h|h
  ·subst h;simp at h1
  ·exact(Nat.div_lt_iff_lt_mul h).2 h1
 simp only[midT,List.getElem_map,List.getElem_range];have:(q % rows<i∨(q % rows=i∧q / rows<cols))↔(q % rows<i+1∨(q % rows=i+1∧q / rows<0)):=by
  generalize q % rows=a at*;generalize q / rows=b at*;omega
 by_cases c:q % rows<i∨(q % rows=i∧q / rows<cols)
 ·rw[if_pos c,if_pos (this.1 c)]
 ·rw[if_neg c,if_neg (fun h=>c (this.2 h))]
theorem midT_all{rows cols:Nat}{l:List Int} :midT rows cols l rows 0=transL rows cols l:=by
 apply List.ext_getElem (by simp[midT,transL]);intro q h1 h2;rw[midT_length]at h1
 have hr:0<rows:=by
  rcases Nat.eq_zero_or_pos rows with h|h
  ·subst h;simp at h1
  ·exact h
 simp only[midT,transL,List.getElem_map,List.getElem_range];rw[if_pos (.inl (Nat.mod_lt _ hr))]
theorem blank_some{a b:Nat}(h:a*b≤10000):matrix_blank.f (a:Int) (b:Int)=some ((a:Int),(b:Int),List.replicate (a*b) (0:Int)):=by
 unfold matrix_blank.f;rw[(mul_small (i:=a) (cols:=b) rfl za).1,if_pos za,Int.toNat_natCast,if_pos za]
structure TS (w:World) (bm rb bt rows cols c:Nat) (A:Option Addr) (l:List Int) (vt:Value) (L:List Int) (wr:World):Prop where
 hm:wr.heap[bm]? =some (.cells #[.int .i64 rows,.int .i64 cols,.slice A l.length c] 24 (0,0))
 hr:wr.heap[rb]? =some (.cells #[.int .i64 0,.int .i64 0,.slice none 0 0] 24 (0,0))
 ht:wr.heap[bt]? =some (.cells #[.int .i64 cols,.int .i64 rows,vt] 24 (0,0))
 data:Kd.R (Kd.int .u8) 5 wr w.heap.size (fun _=>True) vt L
 below:Below w.heap.size w wr
 n1:w.heap.size≤bm
 n2:w.heap.size≤rb
 n3:w.heap.size≤bt
theorem TS.next{w:World}{bm rb bt rows cols c:Nat}{A:Option Addr}{l:List Int}{vt:Value}{L:List Int}{wr w1:World}(h:TS w bm rb bt rows cols c A l vt L wr)(hb:Below wr.heap.size wr w1):TS w bm rb bt rows cols c A l vt L w1:=
 ⟨(hb.block _ (lt_of_get h.hm)).trans h.hm,(hb.block _ (lt_of_get h.hr)).trans h.hr,(hb.block _ (lt_of_get h.ht)).trans h.ht,Kd.R_below h.data hb,below_step h.below hb,h.n1,h.n2,h.n3⟩
theorem TS.put{w:World}{bm rb bt rows cols c xb n cx:Nat}{A:Option Addr}{l:List Int}{L:List Int}{wr:World}(h:TS w bm rb bt rows cols c A l (.slice (some ⟨xb,0,none⟩) n cx) L wr)(q:Nat)(x:Int):
 TS w bm rb bt rows cols c A l (.slice (some ⟨xb,0,none⟩) n cx) (L.set q x) (wr.setCell ⟨xb,q,none⟩ (.int .u8 x)):=by
 obtain⟨_,cells,hc⟩:=own_addr (b:=xb) h.data rfl;have hx:w.heap.size≤xb:=((Kd.R_bound h.data).1 xb rfl).2.1;have hne: ∀(a:Nat) (ca:Array Value),wr.heap[a]? =some (.cells ca 24 (0,0))→a≠xb:=fun a ca h1 e=>by
  subst e;rw[h1]at hc
  injection hc with hc;injection hc with _ hc;exact absurd hc zc
 have hp:=Kd.R_putn h.data (q:Int) x;rw[Int.toNat_natCast]at hp
 exact⟨(Below.heap_setCell _ _ _ _ (hne _ _ h.hm)).trans h.hm,(Below.heap_setCell _ _ _ _ (hne _ _ h.hr)).trans h.hr,(Below.heap_setCell _ _ _ _ (hne _ _ h.ht)).trans h.ht,hp,h.below.setCell hx _,h.n1,h.n2,h.n3⟩
theorem R_elt{w:World}{base:Nat}{ok:Nat→Prop}{b n c i:Nat}{L:List Int}(h:Kd.R (Kd.int .u8) 5 w base ok (.slice (some ⟨b,0,none⟩) n c) L)(hi:i<L.length):w.cell? ⟨b,i,none⟩=some (.int .u8 (L.getD i 0))∧w.frozen? ⟨b,i,none⟩=false:=by
 have h1:=Kd.reads_of_C (enc:=Value.int .u8) (d:=(0:Int)) (h1:=fun _=>rfl) (Kd.R_reads' h).2.2;obtain⟨_,cells,hcc⟩:=own_addr (b:=b) h rfl;obtain⟨G,D,hcell⟩:=h1.2.2 za
 cases D
 refine⟨?_,by simp[World.frozen?,hcc]⟩;rw[show(⟨b,i,none⟩:Addr)=(⟨b,0,none⟩:Addr).add i from by unfold Addr.add;by_cases e:i=0<;>simp[e]];exact hcell i hi
theorem R_head{w:World}{base:Nat}{ok:Nat→Prop}{A:Option Addr}{n c:Nat}{L:List Int}(h:Kd.R (Kd.int .u8) 5 w base ok (.slice A n c) L)(hL:0<L.length): ∃b,A=some ⟨b,0,none⟩:=by
 have h1:=Kd.reads_of_C (enc:=Value.int .u8) (d:=(0:Int)) (h1:=fun _=>rfl) (Kd.R_reads' h).2.2;obtain⟨ad,ha,_⟩:=h1.2.2 hL;subst ha;obtain⟨e,_⟩:=own_addr (b:=ad.block) h rfl;injection e with e;exact⟨ad.block,by rw[e]⟩
set_option maxHeartbeats 4000000 in
set_option maxRecDepth 100000 in
theorem matrix_turned.calls(rows cols:Nat)(A:Option Addr)(c:Nat)(l:List Int)(w:World)(hr:Kd.C (Kd.int .u8) w A l.length l)(hc:l.length≤c)(hl:l.length=rows*cols)(aw:rows≤64∧cols≤64):
 Calls Tryd.prog 72 #[.agg #[.int .i64 rows,.int .i64 cols,.slice A l.length c]] w fun e w'=> ∃v,e= .returned (.agg #[.int .i64 cols,.int .i64 rows,v])∧Aside0 (Kd.R (Kd.int .u8) 5 w' w.heap.size (fun _=>True) v (transL rows cols l)∧Below w.heap.size w w'):=by
 have a5:=Tryd.underlying24;obtain⟨h1,h2⟩:=aw;have hcr:cols*rows≤4096:=Nat.mul_le_mul (by omega:cols≤64) (by omega:rows≤64);have HR:=aK hr;have HL:=aK hl;have HBL:=aK (blank_some (a:=cols) (b:=rows) za);clear hr hl
 go_enter Tryd.func72,Tryd.ntmps72
 go_upto_region 1 with(fail)
 have ao:=below_alloc (below_alloc (Below.refl w.heap.size w) (.cells #[.int .i64 rows,.int .i64 cols,.slice A l.length c] 24)) (.cells #[.int .i64 0,.int .i64 0,.slice none 0 0] 24);have hbm:=heap_alloc2_old w (.cells #[.int .i64 rows,.int .i64 cols,.slice A l.length c] 24) (.cells #[.int .i64 0,.int .i64 0,.slice none 0 0] 24);have hbr:=blk_new (w.alloc (.cells #[.int .i64 rows,.int .i64 cols,.slice A l.length c] 24)) (.cells #[.int .i64 0,.int .i64 0,.slice none 0 0] 24);rw[World.size_alloc]at hbr
 have ah:=aK ao;clear ao;generalize(w.alloc (.cells #[.int .i64 rows,.int .i64 cols,.slice A l.length c] 24)).alloc (.cells #[.int .i64 0,.int .i64 0,.slice none 0 0] 24)=w2 at*;have x0:w2.cell? ⟨w.heap.size,0,none⟩=some (.int .i64 rows):=(blk_cell hbm 0).trans rfl;have x1:w2.cell? ⟨w.heap.size,1,none⟩=some (.int .i64 cols):=(blk_cell hbm 1).trans rfl
 go_wp2_with fail
 refine(matrix_blank.calls cols rows _ _ _ _ HBL.out).mono ?_;rintro e w3 ⟨vt,rfl,ho,Y⟩;obtain⟨At,ct,ev⟩:=Kd.R_slice ho;rw[List.length_replicate]at ev
 subst ev;have ab:=(Y.block _ (lt_of_get hbm)).trans hbm;have ac:=(Y.block _ (lt_of_get hbr)).trans hbr;have aj:=aK (Kd.R_lower ho ah.out.size);have ai:=aK (below_step ah.out Y);clear x0 x1 hbm hbr ho Y;generalize hn:cols*rows=n at*;have HN:=aK hn;clear hn;have x0:w3.cell? ⟨w.heap.size,0,none⟩=some (.int .i64 rows):=(blk_cell ab 0).trans rfl
 go_upto_region 2 with(fail)
 have O:=below_alloc (Below.refl w3.heap.size w3) (.cells #[.int .i64 cols,.int .i64 rows,.slice At n ct] 24);have HT:Aside0 (TS w w.heap.size (w.heap.size+1) w3.heap.size rows cols c A l (.slice At n ct) (midT rows cols l 0 0) (w3.alloc (.cells #[.int .i64 cols,.int .i64 rows,.slice At n ct] 24))):=by
  rw[midT_zero,HN.out];exact⟨(O.block _ (lt_of_get ab)).trans ab,(O.block _ (lt_of_get ac)).trans ac,blk_new _ _,Kd.R_below aj.out O,below_step ai.out O,Nat.le_refl _,by omega,ai.out.size⟩
 have hrb:=lt_of_get ac;clear O ab ac aj x0;generalize w3.alloc (.cells #[.int .i64 cols,.int .i64 rows,.slice At n ct] 24)=w4 at*;generalize w3.heap.size=bt at*;have x0:w4.cell? ⟨w.heap.size,0,none⟩=some (.int .i64 rows):=(blk_cell HT.out.hm 0).trans rfl
 go_wp2_with fail
 clear x0
 go_loopg [13] rows (fun kq a3 wr=> ∃(i:Nat),a3= .int .i64 i∧i≤rows∧Aside0 (kq+i=rows)∧Aside0 (TS w w.heap.size (w.heap.size+1) bt rows cols c A l (.slice At n ct) (midT rows cols l i 0) wr))
 case atStart=>exact⟨0,rfl,Nat.zero_le _,⟨by omega⟩,HT⟩
 case round=>
  obtain⟨i,rfl,hi,HK,HO⟩:=hrel;clear HT;by_cases hlt:i<rows
  ·have tst:decide ((i:Int)<(rows:Int))=true:=by simpa using hlt
   have x1:wr.cell? ⟨w.heap.size,1,none⟩=some (.int .i64 cols):=(blk_cell HO.out.hm 1).trans rfl
   go_wp2_with fail
   clear x1
   go_loopg [18] cols (fun kq a4 w5=> ∃(j:Nat),a4= .int .i64 j∧j≤cols∧Aside0 (kq+j=cols)∧Aside0 (TS w w.heap.size (w.heap.size+1) bt rows cols c A l (.slice At n ct) (midT rows cols l i j) w5))
   case atStart=>exact⟨0,rfl,Nat.zero_le _,⟨by omega⟩,HO⟩
   case round=>
    obtain⟨j,rfl,hj,av,D⟩:=hrel;clear HO;by_cases hjl:j<cols
    ·have a6:decide ((j:Int)<(cols:Int))=true:=by simpa using hjl
     go_wp2_with fail
     obtain⟨xb,hxb⟩:=R_head D.out.data (by rw[midT_length];exact Nat.mul_pos za za);subst hxb;have a2:i*cols+j<l.length:=by
      rw[HL.out]
      calc i*cols+j<i*cols+cols:=by omega
       _=(i+1)*cols:=by rw[Nat.add_mul,Nat.one_mul]
       _≤rows*cols:=Nat.mul_le_mul_right _ hlt
     have aq:j*rows+i<(midT rows cols l i j).length:=by
      rw[midT_length]
      calc j*rows+i<j*rows+rows:=by omega
       _=(j+1)*rows:=by rw[Nat.add_mul,Nat.one_mul]
       _≤cols*rows:=Nat.mul_le_mul_right _ hjl
     obtain⟨ad,eA,ar⟩:=Kd.at_int HR.out ((i*cols+j:Nat):Int) za za;subst eA;have au:=pw_cell_below D.out.below ar;obtain⟨ae,af⟩:=R_elt D.out.data aq;have HST:=aK (midT_step (l:=l) hlt hjl);have hx:wr.cell? (ad.add (i*cols+j))=some (.int .u8 (l.getD (i*cols+j) 0)):=by
      rw[show l.getD (i*cols+j) 0=rd l ((i*cols+j:Nat):Int)from by unfold rd;rw[Int.toNat_natCast]];have:=au
      rwa [Int.toNat_natCast]at this
     clear ar au;generalize l.getD (i*cols+j) 0=x at*;obtain⟨f,hf⟩: ∃f:Nat,f=i*cols:=⟨_,rfl⟩
     obtain⟨f2,aa⟩: ∃f2:Nat,f2=(i+1)*cols:=⟨_,rfl⟩
     obtain⟨e,he⟩: ∃e:Nat,e=j*rows:=⟨_,rfl⟩
     obtain⟨e2,Z⟩: ∃e2:Nat,e2=(j+1)*rows:=⟨_,rfl⟩
     have a1:f2=f+cols:=by rw[aa,hf,Nat.add_mul,Nat.one_mul]
     have a0:e2=e+rows:=by rw[Z,he,Nat.add_mul,Nat.one_mul]
     have hfc:f2≤c:=Nat.le_trans (by rw[aa,HL.out];exact Nat.mul_le_mul_right _ hlt) hc;have hec:e2≤ct:=Nat.le_trans (show e2≤n by rw[Z,←HN.out];exact Nat.mul_le_mul_right _ hjl) (Kd.R_reads' D.out.data).2.1;have L:(ad.add f).add j=ad.add (f+j):=by unfold Addr.add;by_cases a:f=0<;>by_cases b:j=0<;>simp[a,b];all_goals omega
     have ax:((⟨xb,0,none⟩:Addr).add e).add i=⟨xb,e+i,none⟩:=by unfold Addr.add;by_cases a:e=0<;>by_cases b:i=0<;>simp[a,b]
     rw[←hf,←L]at hx
     rw[←he]at ae af HST
     have U:=fun W=>matrix_row.calls (cols:Int) rows j n ct e e2 (some ⟨xb,0,none⟩) W he Z hec za h1;have X:=fun W=>matrix_row.calls (rows:Int) cols i l.length c f f2 (some ad) W hf aa hfc za h2;rw[if_neg za]at U X
     simp only[Option.map_some]at U X;have ak:=aK U;have al:=aK X;clear U X hf aa he Z L a1 a0 hfc hec a2 aq;have p0:(0:Int)≤(i:Int):=by omega
     have p1:(i:Int)<(rows:Int):=by omega
     have p2:(0:Int)≤(j:Int):=by omega
     have p3:(j:Int)<(cols:Int):=by omega
     have s0:wr.cell? ⟨bt,0,none⟩=some (.int .i64 cols):=(blk_cell D.out.ht 0).trans rfl;have s1:wr.cell? ⟨bt,1,none⟩=some (.int .i64 rows):=(blk_cell D.out.ht 1).trans rfl;have s2:wr.cell? ⟨bt,2,none⟩=some (.slice (some ⟨xb,0,none⟩) n ct):=(blk_cell D.out.ht 2).trans rfl;have s3:wr.cell? ⟨w.heap.size,0,none⟩=some (.int .i64 rows):=(blk_cell D.out.hm 0).trans rfl;have s4:wr.cell? ⟨w.heap.size,1,none⟩=some (.int .i64 cols):=(blk_cell D.out.hm 1).trans rfl;have s5:wr.cell? ⟨w.heap.size,2,none⟩=some (.slice (some ad) l.length c):=(blk_cell D.out.hm 2).trans rfl;refine start_ (n:=12) (S:=fun w'=>w'.cell? ⟨bt,0,none⟩=some (.int .i64 cols)∧w'.cell? ⟨bt,1,none⟩=some (.int .i64 rows)∧w'.cell? ⟨bt,2,none⟩=some (.slice (some ⟨xb,0,none⟩) n ct)∧w'.cell? ⟨w.heap.size,0,none⟩=some (.int .i64 rows)∧w'.cell? ⟨w.heap.size,1,none⟩=some (.int .i64 cols)∧w'.cell? ⟨w.heap.size,2,none⟩=some (.slice (some ad) l.length c)∧w'.cell? ((ad.add f).add j)=some (.int .u8 x)) (ds:= [11]) (mB 12 0) zb rfl rfl ⟨s0,s1,s2,s3,s4,s5,hx⟩ (fun hHeld=>?_);have am:=aK (D.out.next (below_drew (Below.refl _ _)));have ag:wr.drew.cell? ⟨xb,e+i,none⟩=_:=ae;have ap:wr.drew.frozen? ⟨xb,e+i,none⟩=false:=af;clear D ae af s0 s1 s2 s3 s4 s5 hx;generalize wr.drew=w6 at*;refine zpu 1 (some 22) (mB 12 2) ?_;refine zpu 3 (some 24) (mB 12 10) ?_;refine zpu 5 (some 26) (mB 12 42) ?_;refine zpu 7 (some 28) (mB 12 170) ?_;refine ztk7 0 (some 21) (mB 12 171) hHeld ?_;refine ztk7 4 (some 25) (mB 12 187) hHeld ?_;refine zon 2 (some 23) (mB 12 191) fun K hK=>?_;refine goes_ Tryd.func70 zb rfl #[.agg #[.int .i64 cols,.int .i64 rows,.slice (some ⟨xb,0,none⟩) n ct],.int .i64 j] ze rfl rfl zg ?_;refine(ak.out _).mono ?_;rintro e' w7 ⟨rfl,G⟩;refine⟨_,rfl,?_⟩;refine hK.out _ _ ⟨pw_cell_below G hHeld.1,pw_cell_below G hHeld.2.1,pw_cell_below G hHeld.2.2.1,pw_cell_below G hHeld.2.2.2.1,pw_cell_below G hHeld.2.2.2.2.1,pw_cell_below G hHeld.2.2.2.2.2.1,pw_cell_below G hHeld.2.2.2.2.2.2⟩ (fun hHeld=>?_);clear hK K;refine znm (some 23) ?_;refine zon 6 (some 27) (mB 12 255) fun K hK=>?_;refine goes_ Tryd.func70 zb rfl #[.agg #[.int .i64 rows,.int .i64 cols,.slice (some ad) l.length c],.int .i64 i] ze rfl rfl zg ?_;refine(al.out _).mono ?_;rintro e' w8 ⟨rfl,I⟩;refine⟨_,rfl,?_⟩;have J:=below_step G I;have ay:=pw_cell_below J ag;have az:=(below_frozen J (p:=⟨xb,e+i,none⟩) (World.block_lt_of_cell? _ _ ag)).trans ap;refine hK.out _ _ ⟨pw_cell_below I hHeld.1,pw_cell_below I hHeld.2.1,pw_cell_below I hHeld.2.2.1,pw_cell_below I hHeld.2.2.2.1,pw_cell_below I hHeld.2.2.2.2.1,pw_cell_below I hHeld.2.2.2.2.2.1,pw_cell_below I hHeld.2.2.2.2.2.2⟩ (fun hHeld=>?_);clear hK K;refine znm (some 27) ?_;refine zpu 8 (some 29) (mB 12 511) ?_;refine ztk7 9 (some 30) (mB 12 1023) hHeld ?_;refine zpu 10 (some 31) (mB 12 2047) ?_;refine zln 11 (none) (mB 12 4095) fun K hK=>?_;refine zsk ?_;refine hK.out _ _ ?_;clear hK K;refine done_ zb ?_;clear hHeld;have an:=aK ((am.out.next J).put (e+i) x);rw[HST.out]at an
     clear am J G I ag ap ay az
     go_wp2_with fail
     go_roundg (cols-(j+1))
     case measure=>have:=av.out;omega
     case rel=>exact⟨j+1,by go_num,by omega,⟨by omega⟩,an⟩
    ·obtain rfl:j=cols:=by omega
     go_wp2_with fail
     go_roundg (rows-(i+1))
     case measure=>have:=HK.out;omega
     case rel=>exact⟨i+1,by go_num,by omega,⟨by omega⟩,⟨by rw[←midT_row];exact D.out⟩⟩
  ·obtain rfl:i=rows:=by omega
   have s0:wr.cell? ⟨bt,0,none⟩=some (.int .i64 cols):=(blk_cell HO.out.ht 0).trans rfl;have s1:wr.cell? ⟨bt,1,none⟩=some (.int .i64 i):=(blk_cell HO.out.ht 1).trans rfl;have s2:wr.cell? ⟨bt,2,none⟩=some (.slice At n ct):=(blk_cell HO.out.ht 2).trans rfl;have y0:wr.cell? ⟨w.heap.size+1,0,none⟩=some (.int .i64 0):=(blk_cell HO.out.hr 0).trans rfl;have y1:wr.cell? ⟨w.heap.size+1,1,none⟩=some (.int .i64 0):=(blk_cell HO.out.hr 1).trans rfl;have y2:wr.cell? ⟨w.heap.size+1,2,none⟩=some (.slice none 0 0):=(blk_cell HO.out.hr 2).trans rfl;have f0:=blk_frozen HO.out.hr 0;have f1:=blk_frozen HO.out.hr 1;have f2:=blk_frozen HO.out.hr 2
   go_wp2_with fail
   refine bodyPost_ret (results_cell_row rfl _ _ (w.heap.size+1) 24 #[.int .i64 cols,.int .i64 i,.slice At n ct] (0,0) _ rfl (blk_put (cs:= #[.int .i64 cols,.int .i64 i,.slice none 0 0]) (blk_put (cs:= #[.int .i64 cols,.int .i64 0,.slice none 0 0]) (blk_put (cs:= #[.int .i64 0,.int .i64 0,.slice none 0 0]) HO.out.hr 0 _ rfl) 1 _ rfl) 2 _ rfl) Tryd.underlying24 rfl zb) rfl ?_;refine⟨_,rfl,⟨?_,?_⟩⟩
   ·rw[←midT_all];have h1:=Kd.R_types HO.out.data HO.out.hr (fun q hq=>by obtain rfl:q=5:=(List.mem_cons.1 hq).elim id (fun hx=>by cases hx);decide);exact Kd.R_mono (Kd.R_far (Kd.R_far (Kd.R_far h1 (p:=⟨w.heap.size+1,0,none⟩) (fun k hk=>hk.2) _) (p:=⟨w.heap.size+1,1,none⟩) (fun k hk=>hk.2) _) (p:=⟨w.heap.size+1,2,none⟩) (fun k hk=>hk.2) _) (fun _ _=>trivial)
   ·exact((HO.out.below.setCell zf _).setCell zf _).setCell zf _
def matrix_Transpose.f(a b:Int)(l:List Int):Option (Int×Int×List Int×Int):=(matrix_Right.f a b l).bind fun t=>if t=true then some (b,a,transL a.toNat b.toNat l,0)else some (0,0,[],3)
set_option maxHeartbeats 4000000 in
set_option maxRecDepth 100000 in
theorem matrix_Transpose.calls(J:Int)(L:Int)(G:Option Addr)(I:Nat)(D:List Int)(r1:Int)(r2:Int)(r3:List Int)(r4:Int)(w:World)(ae:Kd.C (Kd.int .u8) w G D.length D)(ac:D.length≤I)(h:matrix_Transpose.f J L D=some (r1,r2,r3,r4)):
 Calls Tryd.prog 88 #[.agg #[.int .i64 J,.int .i64 L,.slice G D.length I]] w fun e w'=> ∃v2_:Value,e= .returned (.tuple #[.agg #[.int .i64 r1,.int .i64 r2,v2_],.int .i64 r4])∧Kd.R (Kd.int .u8) 5 w' w.heap.size (fun _=>True) v2_ r3∧Below w.heap.size w w':=by
 have af:=Tryd.underlying24;have HR:=aK ae;have HC:=aK ac;clear ae ac;unfold matrix_Transpose.f at h;obtain⟨t,hm,h⟩:=Option.bind_eq_some_iff.mp h;have HM:=aK hm
 cases t with
 |false=>
  simp only[Bool.false_eq_true,if_false,Option.some.injEq,Prod.mk.injEq]at h;obtain⟨rfl,rfl,rfl,rfl⟩:=h;clear hm
  go_enter Tryd.func88,Tryd.ntmps88
  go_upto_region 1 with(fail)
  have ab:=below_alloc (below_alloc (Below.refl w.heap.size w) (.cells #[.int .i64 J,.int .i64 L,.slice G D.length I] 24)) (.cells #[.int .i64 0,.int .i64 0,.slice none 0 0] 24);have hbm:=heap_alloc2_old w (.cells #[.int .i64 J,.int .i64 L,.slice G D.length I] 24) (.cells #[.int .i64 0,.int .i64 0,.slice none 0 0] 24);have hbr:=blk_new (w.alloc (.cells #[.int .i64 J,.int .i64 L,.slice G D.length I] 24)) (.cells #[.int .i64 0,.int .i64 0,.slice none 0 0] 24);rw[World.size_alloc]at hbr
  have Z:=aK ab;clear ab;generalize(w.alloc (.cells #[.int .i64 J,.int .i64 L,.slice G D.length I] 24)).alloc (.cells #[.int .i64 0,.int .i64 0,.slice none 0 0] 24)=w2 at*;have x0:w2.cell? ⟨w.heap.size,0,none⟩=some (.int .i64 J):=(blk_cell hbm 0).trans rfl;have x1:w2.cell? ⟨w.heap.size,1,none⟩=some (.int .i64 L):=(blk_cell hbm 1).trans rfl;have x2:w2.cell? ⟨w.heap.size,2,none⟩=some (.slice G D.length I):=(blk_cell hbm 2).trans rfl
  go_wp2_with fail
  refine(matrix_Right.calls J L G I D false _ (Kd.C_below HR.out Z.out) HC.out HM.out).mono ?_;rintro e w3 ⟨rfl,U⟩;have O:=(U.block _ (lt_of_get hbr)).trans hbr;have X:=(U.block _ (lt_of_get hbm)).trans hbm;have aa:=aK (below_step Z.out U);clear x0 x1 x2 hbr hbm U;have x0:w3.cell? ⟨w.heap.size,0,none⟩=some (.int .i64 J):=(blk_cell X 0).trans rfl;have x1:w3.cell? ⟨w.heap.size,1,none⟩=some (.int .i64 L):=(blk_cell X 1).trans rfl;have x2:w3.cell? ⟨w.heap.size,2,none⟩=some (.slice G D.length I):=(blk_cell X 2).trans rfl;have y0:w3.cell? ⟨w.heap.size+1,0,none⟩=some (.int .i64 0):=(blk_cell O 0).trans rfl;have y1:w3.cell? ⟨w.heap.size+1,1,none⟩=some (.int .i64 0):=(blk_cell O 1).trans rfl;have y2:w3.cell? ⟨w.heap.size+1,2,none⟩=some (.slice none 0 0):=(blk_cell O 2).trans rfl;have f0:=blk_frozen O 0;have f1:=blk_frozen O 1;have f2:=blk_frozen O 2;clear x0 x1 x2 X
  go_wp2_with fail
  refine bodyPost_ret (results_ct rfl _ _ (w.heap.size+1) 24 #[.int .i64 0,.int .i64 0,.slice none 0 0] (0,0) _ rfl (blk_put (cs:= #[.int .i64 0,.int .i64 0,.slice none 0 0]) (blk_put (cs:= #[.int .i64 0,.int .i64 0,.slice none 0 0]) (blk_put (cs:= #[.int .i64 0,.int .i64 0,.slice none 0 0]) O 0 _ rfl) 1 _ rfl) 2 _ rfl) Tryd.underlying24 rfl zb) rfl ?_;refine⟨_,rfl,Kd.R_nil _ _ _ _ _,?_⟩;exact((aa.out.setCell zf _).setCell zf _).setCell zf _
 |true=>
  obtain⟨e0,e1,e2,e3,hl⟩:=right_true hm;rw[if_pos rfl]at h
  simp only[Option.some.injEq,Prod.mk.injEq]at h;obtain⟨rows,rfl⟩:=Int.eq_ofNat_of_zero_le e0;obtain⟨cols,rfl⟩:=Int.eq_ofNat_of_zero_le e2;rw[Int.toNat_natCast,Int.toNat_natCast]at h hl
  obtain⟨rfl,rfl,rfl,rfl⟩:=h;have hrw:rows≤64∧cols≤64:=by omega
  have HL:=aK hl;obtain⟨F,hF⟩: ∃F,F=transL rows cols D:=⟨_,rfl⟩
  rw[←hF];have HF:=aK hF;clear hm hl e0 e1 e2 e3 hF
  go_enter Tryd.func88,Tryd.ntmps88
  go_upto_region 1 with(fail)
  have ab:=below_alloc (below_alloc (Below.refl w.heap.size w) (.cells #[.int .i64 (rows:Int),.int .i64 (cols:Int),.slice G D.length I] 24)) (.cells #[.int .i64 0,.int .i64 0,.slice none 0 0] 24);have hbm:=heap_alloc2_old w (.cells #[.int .i64 (rows:Int),.int .i64 (cols:Int),.slice G D.length I] 24) (.cells #[.int .i64 0,.int .i64 0,.slice none 0 0] 24);have hbr:=blk_new (w.alloc (.cells #[.int .i64 (rows:Int),.int .i64 (cols:Int),.slice G D.length I] 24)) (.cells #[.int .i64 0,.int .i64 0,.slice none 0 0] 24);rw[World.size_alloc]at hbr
  have Z:=aK ab;clear ab;generalize(w.alloc (.cells #[.int .i64 (rows:Int),.int .i64 (cols:Int),.slice G D.length I] 24)).alloc (.cells #[.int .i64 0,.int .i64 0,.slice none 0 0] 24)=w2 at*;have x0:w2.cell? ⟨w.heap.size,0,none⟩=some (.int .i64 (rows:Int)):=(blk_cell hbm 0).trans rfl;have x1:w2.cell? ⟨w.heap.size,1,none⟩=some (.int .i64 (cols:Int)):=(blk_cell hbm 1).trans rfl;have x2:w2.cell? ⟨w.heap.size,2,none⟩=some (.slice G D.length I):=(blk_cell hbm 2).trans rfl
  go_wp2_with fail
  refine(matrix_Right.calls (rows:Int) (cols:Int) G I D true _ (Kd.C_below HR.out Z.out) HC.out HM.out).mono ?_;rintro e w3 ⟨rfl,U⟩;have O:=(U.block _ (lt_of_get hbr)).trans hbr;have X:=(U.block _ (lt_of_get hbm)).trans hbm;have aa:=aK (below_step Z.out U);clear x0 x1 x2 hbr hbm U;have x0:w3.cell? ⟨w.heap.size,0,none⟩=some (.int .i64 (rows:Int)):=(blk_cell X 0).trans rfl;have x1:w3.cell? ⟨w.heap.size,1,none⟩=some (.int .i64 (cols:Int)):=(blk_cell X 1).trans rfl;have x2:w3.cell? ⟨w.heap.size,2,none⟩=some (.slice G D.length I):=(blk_cell X 2).trans rfl
  go_wp2_with fail
  refine(matrix_turned.calls rows cols G I D w3 (Kd.C_below HR.out aa.out) HC.out HL.out hrw).mono ?_;rintro e w4 ⟨v,rfl,hq⟩;rw[←HF.out]at hq
  obtain⟨Av,cv,ev⟩:=Kd.R_slice hq.out.1;subst ev;have Y:=(hq.out.2.block _ (lt_of_get O)).trans O;have hrl:=lt_of_get O;have HQ:=aK hq.out;clear hq O X x0 x1 x2;have y0:w4.cell? ⟨w.heap.size+1,0,none⟩=some (.int .i64 0):=(blk_cell Y 0).trans rfl;have y1:w4.cell? ⟨w.heap.size+1,1,none⟩=some (.int .i64 0):=(blk_cell Y 1).trans rfl;have y2:w4.cell? ⟨w.heap.size+1,2,none⟩=some (.slice none 0 0):=(blk_cell Y 2).trans rfl;have f0:=blk_frozen Y 0;have f1:=blk_frozen Y 1;have f2:=blk_frozen Y 2
  go_wp2_with fail
  refine bodyPost_ret (results_ct rfl _ _ (w.heap.size+1) 24 #[.int .i64 cols,.int .i64 rows,.slice Av F.length cv] (0,0) _ rfl (blk_put (cs:= #[.int .i64 cols,.int .i64 rows,.slice none 0 0]) (blk_put (cs:= #[.int .i64 cols,.int .i64 0,.slice none 0 0]) (blk_put (cs:= #[.int .i64 0,.int .i64 0,.slice none 0 0]) Y 0 _ rfl) 1 _ rfl) 2 _ rfl) Tryd.underlying24 rfl zb) rfl ?_;refine⟨_,rfl,?_,?_⟩
  ·have h1:=Kd.R_lower (Kd.R_bound HQ.out.1) aa.out.size;exact Kd.R_mono (Kd.R_far (Kd.R_far (Kd.R_far h1 (p:=⟨w.heap.size+1,0,none⟩) (fun k hk=>by show k≠w.heap.size+1;have:=hk.2.1;omega) _) (p:=⟨w.heap.size+1,1,none⟩) (fun k hk=>by show k≠w.heap.size+1;have:=hk.2.1;omega) _) (p:=⟨w.heap.size+1,2,none⟩) (fun k hk=>by show k≠w.heap.size+1;have:=hk.2.1;omega) _) (fun _ _=>trivial)
  ·exact(((below_step aa.out HQ.out.2).setCell zf _).setCell zf _).setCell zf _
theorem copy_step{P:Program}{ops:Array Oper}{o:Oper}{a:Act}{w:World}{K:Act→World→Prop}{Q:Exit→Act→World→Prop}{E:Prop}(hgd:o.guard=none)(d s:Operand)(dT sT:TypeId)
 (ho:o.op= .call { callee:= .builtin .copy,args:= #[d,s],argTypes:= #[dT,sT] }) (elem:TypeId) (hu:P.underlying dT=some (.slice elem)) (hsz:(P.info? elem).map (·.size)=some 1)
 (dp sp:Option Addr) (dLen dCap sLen sCap:Nat) (hd:a.eval d= .slice dp dLen dCap) (hs:a.eval s= .slice sp sLen sCap) (n:Nat) (hn:n=Nat.min sLen dLen) (F:World→Prop) (h0:n=0→F w)
 (hpos:0<n→ ∃(g off:Nat) (cur:List Value) (t:TypeId) (cs:List Value) (ad:Addr),w.heap[g]? =some (.cells cur.toArray t (0,0))∧cs.length=n∧dp=some ⟨g,off,none⟩∧sp=some ad∧(∀j v,cs[j]? =some v→w.cell? (ad.add j)=some v)∧off+cs.length≤cur.length∧(∀v∈cs,v.oneCell'=true)∧
  ∀w',w'.heap[g]? =some (.cells (splice cur off cs).toArray t (0,0))→w.grownBy w' (some g)→F w')
 (h: ∀w',F w'→K (a.put o.dst (goInt n)) w'):if Region.wanted o (yielded ops a.tmps)=true then Oper.wp P o a w K Q else E:=by
 have hw:Region.wanted o (yielded ops a.tmps)=true:=by simp[Region.wanted,hgd]
 rw[if_pos hw];rcases Nat.eq_zero_or_pos n with e|e
 ·have hrun:=run_copy_none (P:=P) w dT sT o.type elem dp sp dLen dCap sLen sCap hu hsz za;subst e;unfold Oper.wp;simp[execOp,ho,resolve,invoke,builtin,hd,hs,hrun,Result.andThen];exact h w (h0 rfl)
 ·obtain⟨g,off,cur,t,cs,ad,hg,hcl,rfl,rfl,hsrc,hfit,h1,hF⟩:=hpos e;have hrun:=run_copy_row (P:=P) w dT sT o.type elem g off dLen dCap ad sLen sCap cur.toArray t cs hu hsz hg (hcl.trans hn) hsrc (by simpa using hfit) h1;subst hcl;unfold Oper.wp;simp[execOp,ho,resolve,invoke,builtin,hd,hs,hrun,Result.andThen];refine h _ (hF _ (by simpa[splice]using setRow_heap w g _ _ t _ hg) ⟨rfl,rfl,rfl,by simp[World.setRow],fun k _ hk=>setRow_other w g k _ (fun e=>hk (by rw[e]))⟩)
theorem R_cur{w:World}{base:Nat}{ok:Nat→Prop}{g n c:Nat}{L:List Int}(h:Kd.R (Kd.int .u8) 5 w base ok (.slice (some ⟨g,0,none⟩) n c) L): ∃cur:List Value,w.heap[g]? =some (.cells cur.toArray 5 (0,0))∧cur.length=c∧n≤c∧n=L.length∧base≤g∧cur.take n=nums .u8 L∧c≤maxLen:=by
 have ho:=Kd.own_of_R h;rcases ho.2 with⟨h',_⟩|⟨g',cap',cur,h',D,hh,hle,hm,hsz,htk⟩
 ·cases h'
 ·injection h' with h1 h2 h3;injection h1 with h1;injection h1 with h1;subst h1 h2 h3;refine⟨cur.toList,by simpa using hh,by simpa using hsz,hle,rfl,D,?_,hm⟩;simpa[nums,encs]using htk
theorem R_splice{w w1:World}{base:Nat}{ok:Nat→Prop}{g n c off:Nat}{L seg:List Int}{cur:List Value}(h:Kd.R (Kd.int .u8) 5 w base ok (.slice (some ⟨g,0,none⟩) n c) L)(hg:w.heap[g]? =some (.cells cur.toArray 5 (0,0)))(hfit:off+seg.length≤L.length)
 (h1:w1.heap[g]? =some (.cells (splice cur off (nums .u8 seg)).toArray 5 (0,0))):Kd.R (Kd.int .u8) 5 w1 base ok (.slice (some ⟨g,0,none⟩) n c) (splice L off seg):=by
 obtain⟨cur',D,I,X,J,O,G,U⟩:=R_cur h;rw[hg]at D
 injection D with D;injection D with D;have hce:cur=cur':=by simpa using congrArg Array.toList D
 subst hce;have hls:(splice L off seg).length=n:=by rw[length_splice _ _ _ hfit,J]
 have hlc:(splice cur off (nums .u8 seg)).length=c:=by rw[length_splice _ _ _ (by simp[nums];omega),I]
 refine Kd.R_of_own ⟨by simp[encs],.inr ⟨g,c,(splice cur off (nums .u8 seg)).toArray,by rw[hls],O,h1,by omega,U,by simpa using hlc,?_⟩⟩ h.1;rw[hls,Nat.mul_one];show(splice cur off (nums .u8 seg)).take n=(splice L off seg).map _;unfold splice;rw[List.take_append,List.take_append,List.map_append,List.map_append];have e1:(nums .u8 seg).length=seg.length:=by simp[nums]
 rw[List.take_take,Nat.min_eq_right za,List.length_take,Nat.min_eq_left za,List.take_of_length_le (l:=nums .u8 seg) za,e1,List.take_drop];have e2:off+seg.length+(n-off-seg.length)=n:=by omega
 rw[e2];have e3:cur.take off=(L.take off).map (fun x=>Value.int .u8 x):=by
  have:(cur.take n).take off=(nums .u8 L).take off:=by rw[G]
  rw[List.take_take,Nat.min_eq_left za]at this
  rw[this,nums,List.map_take]
 have e4:(cur.take n).drop (off+seg.length)=(L.drop (off+seg.length)).map (fun x=>Value.int .u8 x):=by
  rw[G,nums,List.map_drop]
 rw[e3,e4];rfl
def segP(cols:Nat)(l:List Int)(i:Int):List Int:=(l.drop (i.toNat*cols)).take cols
def pickL(cols:Nat)(l:List Int)(L:List Int):List Int:=(L.map (segP cols l)).flatten
def midP(cols:Nat)(l:List Int)(L:List Int)(k:Nat):List Int:=pickL cols l (L.take k)++List.replicate ((L.length-k)*cols) 0
theorem pickL_length{cols rows:Nat}{l:List Int}(hl:l.length=rows*cols): ∀L:List Int,(∀x,x∈L→0≤x∧x<(rows:Int))→(pickL cols l L).length=L.length*cols
 | [],_=>by simp[pickL]
 |x::L,h=>by
  have ih:=pickL_length hl L fun y hy=>h y (List.mem_cons_of_mem _ hy);have hx:=h x (List.mem_cons_self ..);have hle:x.toNat*cols+cols≤l.length:=by rw[hl,←Nat.succ_mul];exact Nat.mul_le_mul_right _ za
  unfold pickL at ih⊢;rw[List.map_cons,List.flatten_cons,List.length_append,ih,List.length_cons,Nat.add_mul,Nat.one_mul];unfold segP;simp;omega
theorem midP_zero(cols:Nat)(l L:List Int):midP cols l L 0=List.replicate (L.length*cols) 0:=by simp[midP,pickL]
theorem midP_all(cols:Nat)(l L:List Int):midP cols l L L.length=pickL cols l L:=by simp[midP]
theorem segP_length{cols rows:Nat}{l:List Int}(hl:l.length=rows*cols){x:Int}(h:0≤x∧x<(rows:Int)):(segP cols l x).length=cols:=by
 have hle:x.toNat*cols+cols≤l.length:=by rw[hl,←Nat.succ_mul];exact Nat.mul_le_mul_right _ za
 unfold segP;simp;omega
theorem midP_length{cols rows:Nat}{l L:List Int}(hl:l.length=rows*cols)(h: ∀x,x∈L→0≤x∧x<(rows:Int)){k:Nat}(hk:k≤L.length):(midP cols l L k).length=L.length*cols:=by
 unfold midP;rw[List.length_append,pickL_length hl _ (fun x hx=>h x (List.mem_of_mem_take hx)),List.length_take,Nat.min_eq_left hk,List.length_replicate,←Nat.add_mul]
 congr 1
 omega
theorem midP_step{cols rows:Nat}{l L:List Int}(hl:l.length=rows*cols)(h: ∀x,x∈L→0≤x∧x<(rows:Int)){k:Nat}(hk:k<L.length):splice (midP cols l L k) (k*cols) (segP cols l (L.getD k 0))=midP cols l L (k+1):=by
 have hp:=pickL_length hl (L.take k) (fun x hx=>h x (List.mem_of_mem_take hx));rw[List.length_take,Nat.min_eq_left za]at hp
 have hx:0≤L.getD k 0∧L.getD k 0<(rows:Int):=by
  rw[List.getD_eq_getElem?_getD,List.getElem?_eq_getElem hk];exact h _ (List.getElem_mem hk)
 have hs:=segP_length hl hx;unfold splice midP;rw[hs,List.take_append,hp,Nat.sub_self,List.take_zero,List.append_nil,List.take_of_length_le za,List.drop_append,List.drop_of_length_le za,List.nil_append,hp,List.drop_replicate];rw[List.take_succ_eq_append_getElem hk];unfold pickL;rw[List.map_append,List.flatten_append,List.append_assoc]
 congr 1
 rw[List.getD_eq_getElem?_getD,List.getElem?_eq_getElem hk];simp only[List.map_cons,List.map_nil,List.flatten_cons,List.flatten_nil,List.append_nil,Option.getD_some]
 congr 2
 have:(L.length-k)*cols=(L.length-(k+1))*cols+cols:=by
  rw[show L.length-k=L.length-(k+1)+1 from by omega,Nat.add_mul,Nat.one_mul]
 omega
structure PS (w:World) (bm rb bt rows cols c:Nat) (o0 o1:Int) (A:Option Addr) (l:List Int) (vt:Value) (L:List Int) (wr:World):Prop where
 hm:wr.heap[bm]? =some (.cells #[.int .i64 rows,.int .i64 cols,.slice A l.length c] 24 (0,0))
 hr:wr.heap[rb]? =some (.cells #[.int .i64 0,.int .i64 0,.slice none 0 0] 24 (0,0))
 ht:wr.heap[bt]? =some (.cells #[.int .i64 o0,.int .i64 o1,vt] 24 (0,0))
 data:Kd.R (Kd.int .u8) 5 wr w.heap.size (fun _=>True) vt L
 below:Below w.heap.size w wr
 n1:w.heap.size≤bm
 n2:w.heap.size≤rb
 n3:w.heap.size≤bt
theorem PS.next{w:World}{bm rb bt rows cols c:Nat}{o0 o1:Int}{A:Option Addr}{l:List Int}{vt:Value}{L:List Int}{wr w1:World}(h:PS w bm rb bt rows cols c o0 o1 A l vt L wr)(hb:Below wr.heap.size wr w1):PS w bm rb bt rows cols c o0 o1 A l vt L w1:=
 ⟨(hb.block _ (lt_of_get h.hm)).trans h.hm,(hb.block _ (lt_of_get h.hr)).trans h.hr,(hb.block _ (lt_of_get h.ht)).trans h.ht,Kd.R_below h.data hb,below_step h.below hb,h.n1,h.n2,h.n3⟩
theorem PS.splice{w:World}{bm rb bt rows cols c xb n cx off:Nat}{o0 o1:Int}{A:Option Addr}{l:List Int}{L seg:List Int}{cur:List Value}{wr w1:World}(h:PS w bm rb bt rows cols c o0 o1 A l (.slice (some ⟨xb,0,none⟩) n cx) L wr)(hg:wr.heap[xb]? =some (.cells cur.toArray 5 (0,0)))(hfit:off+seg.length≤L.length)
 (h1:w1.heap[xb]? =some (.cells (splice cur off (nums .u8 seg)).toArray 5 (0,0))) (hgr:wr.grownBy w1 (some xb)):PS w bm rb bt rows cols c o0 o1 A l (.slice (some ⟨xb,0,none⟩) n cx) (splice L off seg) w1:=by
 have hx:w.heap.size≤xb:=((Kd.R_bound h.data).1 xb rfl).2.1;have hne: ∀(a:Nat) (ca:Array Value),wr.heap[a]? =some (.cells ca 24 (0,0))→a≠xb:=fun a ca hq e=>by
  subst e;rw[hq]at hg
  injection hg with hc;injection hc with _ hc;exact absurd hc zc
 have blk: ∀(a:Nat) (ca:Array Value),wr.heap[a]? =some (.cells ca 24 (0,0))→w1.heap[a]? =some (.cells ca 24 (0,0)):=fun a ca h1=>(hgr.block a (lt_of_get h1) (by simpa using hne a ca h1)).trans h1;exact⟨blk _ _ h.hm,blk _ _ h.hr,blk _ _ h.ht,R_splice h.data hg hfit h1,h.below.grown hgr h.below.size (fun k hk=>by injection hk with hk;omega),h.n1,h.n2,h.n3⟩
def inB(a:Int)(L:List Int):Bool:=L.all fun x=>decide (0≤x)&&decide (x<a)
def matrix_Pick.f(a b:Int)(l L:List Int):Option (Int×Int×List Int×Int):=
 (matrix_Right.f a b l).bind fun t=>if t=true then(if inB a L=true then(if L.length≤64 then some ((L.length:Int),b,pickL b.toNat l L,0)else some (0,0,[],4))else some (0,0,[],2))else some (0,0,[],3)
set_option maxHeartbeats 4000000 in
set_option maxRecDepth 100000 in
theorem matrix_Pick.calls(L:Int)(O:Int)(G:Option Addr)(I:Nat)(D:List Int)(A1:Option Addr)(c1:Nat)(l1:List Int)(r1:Int)(r2:Int)(r3:List Int)(r4:Int)(w:World)(ah:Kd.C (Kd.int .u8) w G D.length D)(ag:D.length≤I)(a1:Kd.C (Kd.int .i64) w A1 l1.length l1)(az:l1.length≤c1)(h:matrix_Pick.f L O D l1=some (r1,r2,r3,r4)):
 Calls Tryd.prog 46 #[.agg #[.int .i64 L,.int .i64 O,.slice G D.length I],.slice A1 l1.length c1] w fun e w'=> ∃v2_:Value,e= .returned (.tuple #[.agg #[.int .i64 r1,.int .i64 r2,v2_],.int .i64 r4])∧Kd.R (Kd.int .u8) 5 w' w.heap.size (fun _=>True) v2_ r3∧Below w.heap.size w w':=by
 have bj:=Tryd.underlying24;have HR:=aK ah;have HC:=aK ag;have aw:=aK a1;clear ah ag a1;unfold matrix_Pick.f at h;obtain⟨t,hm,h⟩:=Option.bind_eq_some_iff.mp h;have HM:=aK hm
 cases t with
 |false=>
  simp only[Bool.false_eq_true,if_false,Option.some.injEq,Prod.mk.injEq]at h;obtain⟨rfl,rfl,rfl,rfl⟩:=h;clear hm
  go_enter Tryd.func46,Tryd.ntmps46
  go_upto_region 1 with(fail)
  have af:=below_alloc (below_alloc (Below.refl w.heap.size w) (.cells #[.int .i64 L,.int .i64 O,.slice G D.length I] 24)) (.cells #[.int .i64 0,.int .i64 0,.slice none 0 0] 24);have hbm:=heap_alloc2_old w (.cells #[.int .i64 L,.int .i64 O,.slice G D.length I] 24) (.cells #[.int .i64 0,.int .i64 0,.slice none 0 0] 24);have hbr:=blk_new (w.alloc (.cells #[.int .i64 L,.int .i64 O,.slice G D.length I] 24)) (.cells #[.int .i64 0,.int .i64 0,.slice none 0 0] 24);rw[World.size_alloc]at hbr
  have ac:=aK af;clear af;generalize(w.alloc (.cells #[.int .i64 L,.int .i64 O,.slice G D.length I] 24)).alloc (.cells #[.int .i64 0,.int .i64 0,.slice none 0 0] 24)=w2 at*;have x0:w2.cell? ⟨w.heap.size,0,none⟩=some (.int .i64 L):=(blk_cell hbm 0).trans rfl;have x1:w2.cell? ⟨w.heap.size,1,none⟩=some (.int .i64 O):=(blk_cell hbm 1).trans rfl;have x2:w2.cell? ⟨w.heap.size,2,none⟩=some (.slice G D.length I):=(blk_cell hbm 2).trans rfl
  go_wp2_with fail
  refine(matrix_Right.calls L O G I D false _ (Kd.C_below HR.out ac.out) HC.out HM.out).mono ?_;rintro e w3 ⟨rfl,Z⟩;have J:=(Z.block _ (lt_of_get hbr)).trans hbr;have X:=(Z.block _ (lt_of_get hbm)).trans hbm;have ab:=aK (below_step ac.out Z);clear x0 x1 x2 hbr hbm Z;have x0:w3.cell? ⟨w.heap.size,0,none⟩=some (.int .i64 L):=(blk_cell X 0).trans rfl;have x1:w3.cell? ⟨w.heap.size,1,none⟩=some (.int .i64 O):=(blk_cell X 1).trans rfl;have x2:w3.cell? ⟨w.heap.size,2,none⟩=some (.slice G D.length I):=(blk_cell X 2).trans rfl;have y0:w3.cell? ⟨w.heap.size+1,0,none⟩=some (.int .i64 0):=(blk_cell J 0).trans rfl;have y1:w3.cell? ⟨w.heap.size+1,1,none⟩=some (.int .i64 0):=(blk_cell J 1).trans rfl;have y2:w3.cell? ⟨w.heap.size+1,2,none⟩=some (.slice none 0 0):=(blk_cell J 2).trans rfl;have f0:=blk_frozen J 0;have f1:=blk_frozen J 1;have f2:=blk_frozen J 2;clear x0 x1 x2 X
  go_wp2_with fail
  refine bodyPost_ret (results_ct rfl _ _ (w.heap.size+1) 24 #[.int .i64 0,.int .i64 0,.slice none 0 0] (0,0) _ rfl (blk_put (cs:= #[.int .i64 0,.int .i64 0,.slice none 0 0]) (blk_put (cs:= #[.int .i64 0,.int .i64 0,.slice none 0 0]) (blk_put (cs:= #[.int .i64 0,.int .i64 0,.slice none 0 0]) J 0 _ rfl) 1 _ rfl) 2 _ rfl) Tryd.underlying24 rfl zb) rfl ?_;refine⟨_,rfl,Kd.R_nil _ _ _ _ _,?_⟩;exact((ab.out.setCell zf _).setCell zf _).setCell zf _
 |true=>
  obtain⟨e0,e1,e2,e3,hl⟩:=right_true hm;rw[if_pos rfl]at h
  obtain⟨rows,rfl⟩:=Int.eq_ofNat_of_zero_le e0;obtain⟨cols,rfl⟩:=Int.eq_ofNat_of_zero_le e2;rw[Int.toNat_natCast,Int.toNat_natCast]at hl
  rw[Int.toNat_natCast]at h
  have hrw:rows≤64∧cols≤64:=by omega
  have HL:=aK hl;have HRES:=aK h;clear hm hl e0 e1 e2 e3 h
  go_enter Tryd.func46,Tryd.ntmps46
  go_upto_region 1 with(fail)
  have af:=below_alloc (below_alloc (Below.refl w.heap.size w) (.cells #[.int .i64 (rows:Int),.int .i64 (cols:Int),.slice G D.length I] 24)) (.cells #[.int .i64 0,.int .i64 0,.slice none 0 0] 24);have hbm:=heap_alloc2_old w (.cells #[.int .i64 (rows:Int),.int .i64 (cols:Int),.slice G D.length I] 24) (.cells #[.int .i64 0,.int .i64 0,.slice none 0 0] 24);have hbr:=blk_new (w.alloc (.cells #[.int .i64 (rows:Int),.int .i64 (cols:Int),.slice G D.length I] 24)) (.cells #[.int .i64 0,.int .i64 0,.slice none 0 0] 24);rw[World.size_alloc]at hbr
  have ac:=aK af;clear af;generalize(w.alloc (.cells #[.int .i64 (rows:Int),.int .i64 (cols:Int),.slice G D.length I] 24)).alloc (.cells #[.int .i64 0,.int .i64 0,.slice none 0 0] 24)=w2 at*;have x0:w2.cell? ⟨w.heap.size,0,none⟩=some (.int .i64 (rows:Int)):=(blk_cell hbm 0).trans rfl;have x1:w2.cell? ⟨w.heap.size,1,none⟩=some (.int .i64 (cols:Int)):=(blk_cell hbm 1).trans rfl;have x2:w2.cell? ⟨w.heap.size,2,none⟩=some (.slice G D.length I):=(blk_cell hbm 2).trans rfl
  go_wp2_with fail
  refine(matrix_Right.calls (rows:Int) (cols:Int) G I D true _ (Kd.C_below HR.out ac.out) HC.out HM.out).mono ?_;rintro e w3 ⟨rfl,Z⟩;have J:=(Z.block _ (lt_of_get hbr)).trans hbr;have X:=(Z.block _ (lt_of_get hbm)).trans hbm;have ab:=aK (below_step ac.out Z);clear x0 x1 x2 hbr hbm Z;have x0:w3.cell? ⟨w.heap.size,0,none⟩=some (.int .i64 (rows:Int)):=(blk_cell X 0).trans rfl;have x1:w3.cell? ⟨w.heap.size,1,none⟩=some (.int .i64 (cols:Int)):=(blk_cell X 1).trans rfl;have x2:w3.cell? ⟨w.heap.size,2,none⟩=some (.slice G D.length I):=(blk_cell X 2).trans rfl;have y0:w3.cell? ⟨w.heap.size+1,0,none⟩=some (.int .i64 0):=(blk_cell J 0).trans rfl;have y1:w3.cell? ⟨w.heap.size+1,1,none⟩=some (.int .i64 0):=(blk_cell J 1).trans rfl;have y2:w3.cell? ⟨w.heap.size+1,2,none⟩=some (.slice none 0 0):=(blk_cell J 2).trans rfl;have f0:=blk_frozen J 0;have f1:=blk_frozen J 1;have f2:=blk_frozen J 2
  go_wp2_with fail
  have HSZ:=aK (show l1.length≤9223372036854775807 from(Kd.reads_of_C (enc:=Value.int .i64) (d:=(0:Int)) (h1:=fun _=>rfl) aw.out).2.1);have hsz:=HSZ.out
  go_loopg [17] l1.length (fun kq bf wr=> ∃(k:Nat),bf= .int .i64 k∧k≤l1.length∧Aside0 (kq+k=l1.length)∧Aside0 (∀j,j<k→0≤l1.getD j 0∧l1.getD j 0<(rows:Int))∧wr=w3)
  case atStart=>exact⟨0,rfl,Nat.zero_le _,⟨by omega⟩,⟨fun j h=>by omega⟩,rfl⟩
  case round=>
   obtain⟨k,rfl,hk,HK,HALL,rfl⟩:=hrel;by_cases hkl:k<l1.length
   ·have tst:decide ((k:Int)<(l1.length:Int))=true:=by simpa using hkl
    obtain⟨ay,eA,ai⟩:=Kd.at_int aw.out (k:Int) za za;subst eA;have hx:wr.cell? (ay.add k)=some (.int .i64 (l1.getD k 0)):=by
     rw[show l1.getD k 0=rd l1 (k:Int)from by simp[rd]];have:=pw_cell_below ab.out ai;simpa using this
    obtain⟨x,ex⟩: ∃x,x=l1.getD k 0:=⟨_,rfl⟩
    rw[←ex]at hx
    have EX:=aK ex;clear ex ai;have bc:(0:Int)≤(k:Int):=by omega
    have bd:(k:Int)<(l1.length:Int):=by omega
    by_cases hin:0≤x∧x<(rows:Int)
    ·have t1:decide (x<0)=false:=by simpa using hin.1
     have t2:decide ((rows:Int)≤x)=false:=by simpa using hin.2
     have t3:decide (x≥(rows:Int))=false:=by simpa using hin.2
     have HIN:=aK hin;obtain⟨bh,bi⟩:=hin
     go_wp2_with fail
     go_roundg (l1.length-(k+1))
     case measure=>have:=HK.out;omega
     case rel=>
      refine⟨k+1,by go_num,by omega,⟨by omega⟩,⟨fun j hj=>?_⟩,rfl⟩;rcases Nat.lt_or_eq_of_le (Nat.le_of_lt_succ hj)with h|h
      ·exact HALL.out j h
      ·rw[h,←EX.out];exact HIN.out
    ·have hbad:inB (rows:Int) l1=false:=by
      rw[inB,Bool.eq_false_iff];intro hall;apply hin;have:=List.all_eq_true.1 hall _ (List.getElem_mem hkl);rw[EX.out,List.getD_eq_getElem?_getD,List.getElem?_eq_getElem hkl];simpa using this
     have hres:=HRES.out;rw[hbad,if_neg zd]at hres
     simp only[Option.some.injEq,Prod.mk.injEq]at hres;obtain⟨rfl,rfl,rfl,rfl⟩:=hres;have f0:=blk_frozen J 0;have f1:=blk_frozen J 1;have f2:=blk_frozen J 2;by_cases hneg:x<0
     ·have t1:decide (x<0)=true:=by simpa using hneg
      clear hin
      go_wp2_with fail
      refine bodyPost_ret (results_ct rfl _ _ (w.heap.size+1) 24 #[.int .i64 0,.int .i64 0,.slice none 0 0] (0,0) _ rfl (blk_put (cs:= #[.int .i64 0,.int .i64 0,.slice none 0 0]) (blk_put (cs:= #[.int .i64 0,.int .i64 0,.slice none 0 0]) (blk_put (cs:= #[.int .i64 0,.int .i64 0,.slice none 0 0]) J 0 _ rfl) 1 _ rfl) 2 _ rfl) Tryd.underlying24 rfl zb) rfl ?_;exact⟨_,rfl,Kd.R_nil _ _ _ _ _,((ab.out.setCell zf _).setCell zf _).setCell zf _⟩
     ·have t1:decide (x<0)=false:=by simpa using hneg
      have hge:(rows:Int)≤x:=by omega
      have t2:decide ((rows:Int)≤x)=true:=by simpa using hge
      have t3:decide (x≥(rows:Int))=true:=by simpa using hge
      clear hin
      go_wp2_with fail
      refine bodyPost_ret (results_ct rfl _ _ (w.heap.size+1) 24 #[.int .i64 0,.int .i64 0,.slice none 0 0] (0,0) _ rfl (blk_put (cs:= #[.int .i64 0,.int .i64 0,.slice none 0 0]) (blk_put (cs:= #[.int .i64 0,.int .i64 0,.slice none 0 0]) (blk_put (cs:= #[.int .i64 0,.int .i64 0,.slice none 0 0]) J 0 _ rfl) 1 _ rfl) 2 _ rfl) Tryd.underlying24 rfl zb) rfl ?_;exact⟨_,rfl,Kd.R_nil _ _ _ _ _,((ab.out.setCell zf _).setCell zf _).setCell zf _⟩
   ·obtain rfl:k=l1.length:=by omega
    have hgood:inB (rows:Int) l1=true:=by
     rw[inB,List.all_eq_true];intro y hy;obtain⟨j,hj,rfl⟩:=List.mem_iff_getElem.1 hy;have:=HALL.out j hj;rw[List.getD_eq_getElem?_getD,List.getElem?_eq_getElem hj]at this
     simpa using this
    have hres:=HRES.out;rw[hgood,if_pos rfl]at hres
    have HMEM:=aK (show∀y,y∈l1→0≤y∧y<(rows:Int)from fun y hy=>by
     have:=List.all_eq_true.1 hgood y hy;simpa using this)
    clear hgood;have hside:matrix_side.f ((l1.length:Nat):Int)=some (decide ((l1.length:Int)≤64)):=by
     unfold matrix_side.f;rw[if_pos za]
    go_wp2_with fail
    refine(matrix_side.calls _ _ _ hside).mono ?_;rintro e w4 ⟨rfl,nd,rfl⟩;have ak:Below wr.heap.size wr (wr.drewN nd):=pw_below_drewN (Below.refl _ _) nd;have ao:=(ak.block _ (lt_of_get X)).trans X;have Y:=(ak.block _ (lt_of_get J)).trans J;have au:=aK (below_step ab.out ak);clear ak x0 x1 x2 y0 y1 y2 f0 f1 f2 X J hside;generalize wr.drewN nd=w5 at*;by_cases ae:l1.length≤64
    ·rw[if_pos ae]at hres
     simp only[Option.some.injEq,Prod.mk.injEq]at hres;obtain⟨rfl,rfl,hr3e,rfl⟩:=hres;have a8:=aK hr3e;clear hr3e HRES;have bb:decide ((l1.length:Int)≤64)=true:=decide_eq_true za;have d64':decide (l1.length≤64)=true:=by simpa using ae
     have x1:w5.cell? ⟨w.heap.size,1,none⟩=some (.int .i64 cols):=(blk_cell ao 1).trans rfl;obtain⟨a1,a2⟩:=hrw;have hcr:l1.length*cols≤4096:=Nat.mul_le_mul ae a2;have HBL:=aK (blank_some (a:=l1.length) (b:=cols) za)
     go_wp2_with fail
     refine(matrix_blank.calls l1.length cols _ _ _ _ HBL.out).mono ?_;rintro e w6 ⟨vt,rfl,ho,al⟩;obtain⟨At,ct,ev⟩:=Kd.R_slice ho;rw[List.length_replicate]at ev
     subst ev;have a0:=(al.block _ (lt_of_get ao)).trans ao;have ap:=(al.block _ (lt_of_get Y)).trans Y;have a4:=aK (Kd.R_lower ho au.out.size);have a3:=aK (below_step au.out al);clear x1 ao Y ho al;generalize hn:l1.length*cols=n at*;have HN:=aK hn;clear hn
     go_upto_region 12 with(fail)
     have U:=below_alloc (Below.refl w6.heap.size w6) (.cells #[.int .i64 l1.length,.int .i64 cols,.slice At n ct] 24);have HT:Aside0 (PS w w.heap.size (w.heap.size+1) w6.heap.size rows cols I (l1.length:Int) (cols:Int) G D (.slice At n ct) (midP cols D l1 0) (w6.alloc (.cells #[.int .i64 l1.length,.int .i64 cols,.slice At n ct] 24))):=by
      rw[midP_zero,HN.out];exact⟨(U.block _ (lt_of_get a0)).trans a0,(U.block _ (lt_of_get ap)).trans ap,blk_new _ _,Kd.R_below a4.out U,below_step a3.out U,Nat.le_refl _,by omega,a3.out.size⟩
     have hrb:=lt_of_get ap;clear U a0 ap a4;generalize w6.alloc (.cells #[.int .i64 l1.length,.int .i64 cols,.slice At n ct] 24)=w7 at*;generalize w6.heap.size=bt at*
     go_wp2_with fail
     go_loopg [43] l1.length (fun kq bg wr=> ∃(k:Nat),bg= .int .i64 k∧k≤l1.length∧Aside0 (kq+k=l1.length)∧Aside0 (PS w w.heap.size (w.heap.size+1) bt rows cols I (l1.length:Int) (cols:Int) G D (.slice At n ct) (midP cols D l1 k) wr))
     case atStart=>exact⟨0,rfl,Nat.zero_le _,⟨by omega⟩,HT⟩
     case round=>
      obtain⟨k,rfl,hk,a7,HO⟩:=hrel;clear HT;by_cases hkl:k<l1.length
      ·have tst:decide ((k:Int)<(l1.length:Int))=true:=decide_eq_true za;obtain⟨ay,eA,ai⟩:=Kd.at_int aw.out (k:Int) za za;subst eA;have hx:wr.cell? (ay.add k)=some (.int .i64 (l1.getD k 0)):=by
        rw[show l1.getD k 0=rd l1 (k:Int)from by simp[rd]];have:=pw_cell_below HO.out.below ai;simpa using this
       have hxr:=HMEM.out (l1.getD k 0) (by rw[List.getD_eq_getElem?_getD,List.getElem?_eq_getElem hkl];exact List.getElem_mem hkl);have HST:=aK (midP_step HL.out HMEM.out hkl);have hsl:=segP_length HL.out hxr;have HSG:=aK (show segP cols D (l1.getD k 0)=(D.drop ((l1.getD k 0).toNat*cols)).take cols from rfl);have hml:=midP_length HL.out HMEM.out (k:=k) za;generalize l1.getD k 0=x at*;obtain⟨i,rfl⟩:=Int.eq_ofNat_of_zero_le hxr.1;rw[Int.toNat_natCast]at HSG
       have hi:i<rows:=by omega
       have bc:(0:Int)≤(k:Int):=by omega
       have bd:(k:Int)<(l1.length:Int):=by omega
       go_wp2_with fail
       obtain⟨f,hf⟩: ∃f:Nat,f=i*cols:=⟨_,rfl⟩
       obtain⟨f2,an⟩: ∃f2:Nat,f2=(i+1)*cols:=⟨_,rfl⟩
       obtain⟨e,he⟩: ∃e:Nat,e=k*cols:=⟨_,rfl⟩
       obtain⟨e2,am⟩: ∃e2:Nat,e2=(k+1)*cols:=⟨_,rfl⟩
       have a6:f2=f+cols:=by rw[an,hf,Nat.add_mul,Nat.one_mul]
       have a5:e2=e+cols:=by rw[am,he,Nat.add_mul,Nat.one_mul]
       have hfl:f2≤D.length:=by rw[an,HL.out];exact Nat.mul_le_mul_right _ hi
       have hen:e2≤n:=by rw[am,←HN.out];exact Nat.mul_le_mul_right _ hkl
       have hec:e2≤ct:=Nat.le_trans hen (Kd.R_reads' HO.out.data).2.1;have aq:=aK (fun W=>matrix_row.calls (l1.length:Int) cols k n ct e e2 At W he am hec za a2);have ar:=aK (fun W=>matrix_row.calls (rows:Int) cols i D.length I f f2 G W hf an (Nat.le_trans hfl HC.out) za a2);generalize hdp:(if e2=e then At else At.map (·.add e))=dp at aq;generalize hsp:(if f2=f then G else G.map (·.add f))=sp at ar;have HDP:=aK hdp;have HSP:=aK hsp;rw[←he]at HST
       rw[←hf]at HSG
       rw[HN.out]at hml
       have av:=aK a6;have aj:=aK a5;have HML:=aK hml;have HSL:=aK hsl;clear hf an he am a6 a5 hec hdp hsp ai hx hml hsl;have s0:wr.cell? ⟨bt,0,none⟩=some (.int .i64 l1.length):=(blk_cell HO.out.ht 0).trans rfl;have s1:wr.cell? ⟨bt,1,none⟩=some (.int .i64 cols):=(blk_cell HO.out.ht 1).trans rfl;have s2:wr.cell? ⟨bt,2,none⟩=some (.slice At n ct):=(blk_cell HO.out.ht 2).trans rfl;have s3:wr.cell? ⟨w.heap.size,0,none⟩=some (.int .i64 rows):=(blk_cell HO.out.hm 0).trans rfl;have s4:wr.cell? ⟨w.heap.size,1,none⟩=some (.int .i64 cols):=(blk_cell HO.out.hm 1).trans rfl;have s5:wr.cell? ⟨w.heap.size,2,none⟩=some (.slice G D.length I):=(blk_cell HO.out.hm 2).trans rfl;refine start_ (n:=7) (S:=fun w'=>w'.cell? ⟨bt,0,none⟩=some (.int .i64 l1.length)∧w'.cell? ⟨bt,1,none⟩=some (.int .i64 cols)∧w'.cell? ⟨bt,2,none⟩=some (.slice At n ct)∧w'.cell? ⟨w.heap.size,0,none⟩=some (.int .i64 rows)∧w'.cell? ⟨w.heap.size,1,none⟩=some (.int .i64 cols)∧w'.cell? ⟨w.heap.size,2,none⟩=some (.slice G D.length I)) (ds:= [6]) (mB 7 0) zb rfl rfl ⟨s0,s1,s2,s3,s4,s5⟩ (fun hHeld=>?_);have a9:=aK (HO.out.next (below_drew (Below.refl _ _)));clear HO s0 s1 s2 s3 s4 s5;generalize wr.drew=w6 at*;refine zpu 1 (some 49) (mB 7 2) ?_;refine zpu 4 (some 52) (mB 7 18) ?_;refine ztk6 0 (some 48) (mB 7 19) hHeld ?_;refine ztk6 3 (some 51) (mB 7 27) hHeld ?_;refine zon 2 (some 50) (mB 7 31) fun K hK=>?_;refine goes_ Tryd.func70 zb rfl #[.agg #[.int .i64 l1.length,.int .i64 cols,.slice At n ct],.int .i64 k] ze rfl rfl zg ?_;refine(aq.out _).mono ?_;rintro e' w7 ⟨rfl,U⟩;refine⟨_,rfl,?_⟩;refine hK.out _ _ ⟨pw_cell_below U hHeld.1,pw_cell_below U hHeld.2.1,pw_cell_below U hHeld.2.2.1,pw_cell_below U hHeld.2.2.2.1,pw_cell_below U hHeld.2.2.2.2.1,pw_cell_below U hHeld.2.2.2.2.2⟩ (fun hHeld=>?_);clear hK K;refine znm (some 50) ?_;refine zon 5 (some 53) (mB 7 63) fun K hK=>?_;refine goes_ Tryd.func70 zb rfl #[.agg #[.int .i64 rows,.int .i64 cols,.slice G D.length I],.int .i64 i] ze rfl rfl zg ?_;refine(ar.out _).mono ?_;rintro e' w8 ⟨rfl,aa⟩;refine⟨_,rfl,?_⟩;have ax:=aK (a9.out.next (below_step U aa));refine hK.out _ _ ⟨pw_cell_below aa hHeld.1,pw_cell_below aa hHeld.2.1,pw_cell_below aa hHeld.2.2.1,pw_cell_below aa hHeld.2.2.2.1,pw_cell_below aa hHeld.2.2.2.2.1,pw_cell_below aa hHeld.2.2.2.2.2⟩ (fun hHeld=>?_);clear hK K;refine znm (some 53) ?_;refine zln 6 (some 54) (mB 7 127) fun K hK=>?_;refine copy_step rfl (.tmp 50) (.tmp 53) 22 22 rfl 5 Tryd.underlying22 zb dp sp cols cols cols cols rfl rfl cols zd (fun w'=>PS w w.heap.size (w.heap.size+1) bt rows cols I (l1.length:Int) (cols:Int) G D (.slice At n ct) (midP cols D l1 (k+1)) w') (fun h0=>?_) (fun h0=>?_) ?_
       ·have h8:=ax.out;have be:segP cols D (i:Int)= []:=List.length_eq_zero_iff.1 (by rw[HSL.out,h0]);have hst:=HST.out;rw[be]at hst
        have:splice (midP cols D l1 k) e [] =midP cols D l1 k:=by simp[splice]
        rw[this]at hst
        rw[←hst];exact h8
       ·have h8:=ax.out;obtain⟨xb,hxb⟩:=R_head h8.data (by rw[HML.out];have:=aj.out;omega);subst hxb;obtain⟨cur,az,bk,bl,bm,bn,bo,bp⟩:=R_cur h8.data;have hrd:=Kd.reads_of_C (enc:=Value.int .u8) (d:=(0:Int)) (h1:=fun _=>rfl) (Kd.C_below HR.out h8.below);obtain⟨ad,ha,hcell⟩:=hrd.2.2 (by have:=av.out;omega);subst ha;refine⟨xb,e,cur,5,nums .u8 (segP cols D (i:Int)),ad.add f,az,by simp[nums,HSL.out],?_,?_,fun j v hv=>?_,by simp[nums,HSL.out];have:=aj.out;omega,fun v hv=>?_,fun w' h1 h2=>?_⟩
        ·rw[←HDP.out,if_neg (by have:=aj.out;omega)];show some ((⟨xb,0,none⟩:Addr).add e)=_;unfold Addr.add;by_cases a:e=0<;>simp[a]
        ·rw[←HSP.out,if_neg (by have:=av.out;omega)];rfl
        ·unfold nums at hv;rw[List.getElem?_map]at hv
         obtain⟨y,hy,rfl⟩:=Option.map_eq_some_iff.1 hv;have hj:=(List.getElem?_eq_some_iff.1 hy).1;rw[HSL.out]at hj
         rw[show(ad.add f).add j=ad.add (f+j)from by unfold Addr.add;by_cases a:f=0<;>by_cases b:j=0<;>simp[a,b];all_goals omega];rw[hcell (f+j) (by have:=av.out;omega)];rw[HSG.out,List.getElem?_take_of_lt hj,List.getElem?_drop]at hy
         rw[List.getD_eq_getElem?_getD,hy];rfl
        ·unfold nums at hv;obtain⟨y,_,rfl⟩:=List.mem_map.1 hv;rfl
        ·have:=h8.splice az (off:=e) (seg:=segP cols D (i:Int)) (by rw[HSL.out,HML.out];have:=aj.out;omega) h1 h2;rw[HST.out]at this
         exact this
       intro w9 h9;have ba:=aK h9;clear h9;clear ax;refine hK.out _ _ ?_;clear hK K;refine znm (some 54) ?_;refine done_ zb ?_;clear hHeld
       go_wp2_with fail
       go_roundg (l1.length-(k+1))
       case measure=>have:=a7.out;omega
       case rel=>exact⟨k+1,by go_num,by omega,⟨by omega⟩,ba⟩
      ·obtain rfl:k=l1.length:=by omega
       have s0:wr.cell? ⟨bt,0,none⟩=some (.int .i64 l1.length):=(blk_cell HO.out.ht 0).trans rfl;have s1:wr.cell? ⟨bt,1,none⟩=some (.int .i64 cols):=(blk_cell HO.out.ht 1).trans rfl;have s2:wr.cell? ⟨bt,2,none⟩=some (.slice At n ct):=(blk_cell HO.out.ht 2).trans rfl;have y0:wr.cell? ⟨w.heap.size+1,0,none⟩=some (.int .i64 0):=(blk_cell HO.out.hr 0).trans rfl;have y1:wr.cell? ⟨w.heap.size+1,1,none⟩=some (.int .i64 0):=(blk_cell HO.out.hr 1).trans rfl;have y2:wr.cell? ⟨w.heap.size+1,2,none⟩=some (.slice none 0 0):=(blk_cell HO.out.hr 2).trans rfl;have f0:=blk_frozen HO.out.hr 0;have f1:=blk_frozen HO.out.hr 1;have f2:=blk_frozen HO.out.hr 2
       go_wp2_with fail
       refine bodyPost_ret (results_ct rfl _ _ (w.heap.size+1) 24 #[.int .i64 l1.length,.int .i64 cols,.slice At n ct] (0,0) _ rfl (blk_put (cs:= #[.int .i64 l1.length,.int .i64 cols,.slice none 0 0]) (blk_put (cs:= #[.int .i64 l1.length,.int .i64 0,.slice none 0 0]) (blk_put (cs:= #[.int .i64 0,.int .i64 0,.slice none 0 0]) HO.out.hr 0 _ rfl) 1 _ rfl) 2 _ rfl) Tryd.underlying24 rfl zb) rfl ?_;refine⟨_,rfl,?_,?_⟩
       ·rw[←a8.out,←midP_all];have h1:=Kd.R_types HO.out.data HO.out.hr (fun q hq=>by obtain rfl:q=5:=(List.mem_cons.1 hq).elim id (fun hx=>by cases hx);decide);exact Kd.R_mono (Kd.R_far (Kd.R_far (Kd.R_far h1 (p:=⟨w.heap.size+1,0,none⟩) (fun k hk=>hk.2) _) (p:=⟨w.heap.size+1,1,none⟩) (fun k hk=>hk.2) _) (p:=⟨w.heap.size+1,2,none⟩) (fun k hk=>hk.2) _) (fun _ _=>trivial)
       ·exact((HO.out.below.setCell zf _).setCell zf _).setCell zf _
    ·rw[if_neg ae]at hres
     simp only[Option.some.injEq,Prod.mk.injEq]at hres;obtain⟨rfl,rfl,rfl,rfl⟩:=hres;have bb:decide ((l1.length:Int)≤64)=false:=decide_eq_false za;have d64':decide (l1.length≤64)=false:=by simpa using ae
     have y0:w5.cell? ⟨w.heap.size+1,0,none⟩=some (.int .i64 0):=(blk_cell Y 0).trans rfl;have y1:w5.cell? ⟨w.heap.size+1,1,none⟩=some (.int .i64 0):=(blk_cell Y 1).trans rfl;have y2:w5.cell? ⟨w.heap.size+1,2,none⟩=some (.slice none 0 0):=(blk_cell Y 2).trans rfl;have f0:=blk_frozen Y 0;have f1:=blk_frozen Y 1;have f2:=blk_frozen Y 2
     go_wp2_with fail
     refine bodyPost_ret (results_ct rfl _ _ (w.heap.size+1) 24 #[.int .i64 0,.int .i64 0,.slice none 0 0] (0,0) _ rfl (blk_put (cs:= #[.int .i64 0,.int .i64 0,.slice none 0 0]) (blk_put (cs:= #[.int .i64 0,.int .i64 0,.slice none 0 0]) (blk_put (cs:= #[.int .i64 0,.int .i64 0,.slice none 0 0]) Y 0 _ rfl) 1 _ rfl) 2 _ rfl) Tryd.underlying24 rfl zb) rfl ?_;exact⟨_,rfl,Kd.R_nil _ _ _ _ _,((au.out.setCell zf _).setCell zf _).setCell zf _⟩
def matroid_pick.f(k:Nat)(G:Int)(I:Int)(J:List Int)(a1:Int):Option (Int×Int×List Int×Int):=(matrix_Right.f G I J).bind fun L=>(if L=true then((subset_List.f k a1).bind fun O=>((matrix_Pick.f G I J O).bind fun D=>(some (D.1,D.2.1,D.2.2.1,D.2.2.2))))else(some (0,0,([]:List Int),3)))
theorem matroid_pick.mono: ∀a0 a1 a2 a3 k,LeO (matroid_pick.f k a0 a1 a2 a3) (matroid_pick.f (k+1) a0 a1 a2 a3):=by
 intro a0 a1 a2 a3 k;unfold matroid_pick.f
 repeat' first
  |(with_reducible exact subset_List.mono _ _)
  |(with_reducible exact LeO.refl _)
  |(with_reducible exact LeO.none _)
  |(with_reducible refine LeO.ite ?_ ?_)
  |(with_reducible refine LeO.bind ?_ (fun _=>?_))
  |exact subset_List.mono _ _
  |exact LeO.none _
  |refine LeO.ite ?_ ?_
  |refine LeO.bind ?_ (fun _=>?_)
def matroid_pick.T3:Bool×List (List Nat×List Nat):=(true,[([],[]),([],[]),([1],[1]),([0,2,2],[0,2]),([3],[3]),([3],[3]),([4,3,0,1,2,3,4,5],[4]),([5,6,0,1,2,3,4,5,6],[5])])
def matroid_pick.B3:List Nat:= [0,0,2,7,15,15,63,127]
theorem matroid_pick.tab3:rtab .any (opsOf Tryd.f78 3)=matroid_pick.T3:=by kernel_rfl
theorem matroid_pick.bits3:waitsOk matroid_pick.T3.2 matroid_pick.B3=true:=by kernel_rfl
set_option maxHeartbeats 8000000 in
set_option maxRecDepth 100000 in
theorem matroid_pick.calls(k:Nat)(U:Int)(X:Int)(Y:Option Addr)(Z:Nat)(O:List Int)(a1:Int)(r1:Int)(r2:Int)(r3:List Int)(r4:Int)(w:World)(am:Kd.C (Kd.int .u8) w Y O.length O)(ak:O.length≤Z)(h:matroid_pick.f k U X O a1=some (r1,r2,r3,r4))(hT:TabAt 0 Lib.deBruijn64tab w):
 Calls Tryd.prog 78 #[.agg #[.int .i64 U,.int .i64 X,.slice Y O.length Z],.int .u64 a1] w fun e w'=> ∃v2_:Value,e= .returned (.tuple #[.agg #[.int .i64 r1,.int .i64 r2,v2_],.int .i64 r4])∧Kd.R (Kd.int .u8) 5 w' w.heap.size (fun _=>True) v2_ r3∧Below w.heap.size w w':=by
 have HT:=aK hT;clear hT;have b5:=Tryd.underlying24;have ah:=aK am;have ag:=aK ak;clear am ak;have HB:=aK (Below.refl w.heap.size w);have H:((matrix_Right.f U X O).bind fun an=>(if an=true then((subset_List.f k a1).bind fun ae=>((matrix_Pick.f U X O ae).bind fun ab=>(some (ab.1,ab.2.1,ab.2.2.1,ab.2.2.2))))else(some (0,0,([]:List Int),3))))=some (r1,r2,r3,r4):=h;clear h;obtain⟨an,A3,H⟩:=bindO H
 (try dsimp only at H)
 by_cases c4:an=true
 ·subst c4;rw[if_pos rfl]at H
  obtain⟨ae,A5,H⟩:=bindO H
  (try dsimp only at H)
  obtain⟨⟨af,ai,ao,br⟩,A6,H⟩:=bindO H
  (try dsimp only at H)
  simp only[Option.some.injEq,Prod.mk.injEq]at H;obtain⟨rfl,rfl,rfl,rfl⟩:=H
  go_enter Tryd.func78,Tryd.ntmps78
  try go_wp2_with (first|((with_reducible refine gD 2 rfl ?_);refine bE 2 #[.int .i64 U,.int .i64 X,.slice Y O.length Z] 24 ?_;intro ac hg w7 hbox hb;have D:=aK (hbox);have ax:=hbS HB hg;have av:=hbS HB hg;replace HB:=hbB HB hb;clear hb hbox hg)|((with_reducible refine gD 4 rfl ?_);refine bE 4 #[.int .i64 0,.int .i64 0,.slice none 0 0] 24 ?_;intro J hg w8 hbox hb;have I:=aK (hbox);have ay:=hbS HB hg;have aw:=hbS HB hg;replace HB:=hbB HB hb;have G:=neL D hg;have L:=neG D hg;replace D:=bkB D hb;clear hb hbox hg;have b0:=G.out;have b1:=L.out;obtain⟨a3,a4,a5,bc,bd,be⟩:=cell3 D)|((with_reducible refine gC 51 rfl ?_);refine cG (some 7) Tryd.func51 #[.agg #[.int .i64 U,.int .i64 X,.slice Y O.length Z]] ?_;(with_reducible refine(matrix_Right.calls U X _ _ O true _ ?side1 ?side2 A3.out).mono ?_);(case side1=>exact kcB ah HB);(case side2=>exact ag.out);rintro e bz ⟨rfl,hb⟩;refine⟨_,rfl,?_⟩;replace D:=bkB D hb;replace I:=bkB I hb;replace HB:=hbB HB hb;(try clear hb)))
  replace D:=aK (blk_drew D.out);replace I:=aK (blk_drew I.out);replace HB:=aK (below_drew1 HB.out);refine start_ (n:=8) (S:=fun w'=>w'.cell? ⟨ac,0,none⟩=some (.int .i64 U)∧w'.cell? ⟨ac,1,none⟩=some (.int .i64 X)∧w'.cell? ⟨ac,2,none⟩=some (.slice Y O.length Z)) (ds:= []) (.replicate 8 false) zb rfl rfl ⟨(blk_cell D.out 0).trans rfl,(blk_cell D.out 1).trans rfl,(blk_cell D.out 2).trans rfl⟩ (fun hHeld=>?_);refine with_tabW matroid_pick.tab3 matroid_pick.bits3 (fun HT_ HW_=>?_);generalize bz.drew=b8 at D I HB hHeld⊢;refine pu 1 (some 11) (mB 8 2) HT_ ?_;refine tk3 0 (some 10) (mB 8 3) HT_ HW_ hHeld ?_;refine zoh 2 (some 12) (mB 8 7) HT_ fun K hK=>?_;refine goes_ Tryd.func47 zb rfl #[.int .u64 a1] ze rfl rfl (by(try simp only[List.map_toArray,List.map_cons,List.map_nil]);first|done|rfl|(simp only[List.length_drop,List.length_take];rfl)) ?_;with_reducible refine(subset_List.calls k a1 ae _ A5.out (tab_below HT.out zi)).mono ?_
  rintro e b9 ⟨b6,rfl,al,hb⟩;refine⟨_,rfl,?_⟩;have aa:=aK (Kd.R_lower al (below_size (hbA HB.out)));replace D:=bkB D hb;replace I:=bkB I hb;replace HB:=hbB HB hb
  (try clear hb)
  (try clear bs)
  (try clear hk)
  (try clear hi)
  (try clear al)
  obtain⟨a0,a2,ar⟩:=Kd.R_slice aa.out
  (first|subst ar|(injection ar with f1_ f2_ f3_;have f4_:=f1_.symm;have f5_:=f3_.symm;clear f1_ f2_ f3_;subst f4_;subst f5_))
  refine hK.out _ _ ⟨(blk_cell D.out 0).trans rfl,(blk_cell D.out 1).trans rfl,(blk_cell D.out 2).trans rfl⟩ (fun hHeld=>?_);clear hK K;refine znm (some 12) ?_;refine zoh 3 (some 13) (mB 8 15) HT_ fun K hK=>?_;refine goes_ Tryd.func46 zb rfl #[.agg #[.int .i64 U,.int .i64 X,.slice Y O.length Z],.slice a0 ae.length a2] ze rfl rfl (by(try simp only[List.map_toArray,List.map_cons,List.map_nil]);first|done|rfl|(simp only[List.length_drop,List.length_take];rfl)) ?_;with_reducible refine(matrix_Pick.calls U X _ _ O _ _ ae af ai ao br _ ?side1 ?side2 ?side3 ?side4 A6.out).mono ?_
  (case side1=>exact kcB ah HB)
  (case side2=>exact ag.out)
  (case side3=>exact kcA (Kd.R_reads' aa.out).2.2)
  (case side4=>exact(Kd.R_reads' aa.out).2.1)
  rintro e az ⟨b7,rfl,al,hb⟩;refine⟨_,rfl,?_⟩;replace aa:=kdB aa hb;have aj:=aK (Kd.R_lower al (below_size (hbA HB.out)));replace D:=bkB D hb;replace I:=bkB I hb;replace HB:=hbB HB hb
  (try clear hb)
  (try clear bs)
  (try clear hk)
  (try clear hi)
  (try clear al)
  obtain⟨ap,aq,au⟩:=Kd.R_slice aj.out
  (first|subst au|(injection au with f1_ f2_ f3_;have f4_:=f1_.symm;have f5_:=f3_.symm;clear f1_ f2_ f3_;subst f4_;subst f5_))
  refine hK.out _ _ ⟨(blk_cell D.out 0).trans rfl,(blk_cell D.out 1).trans rfl,(blk_cell D.out 2).trans rfl⟩ (fun hHeld=>?_);clear hK K;refine znm (some 13) ?_;refine pu 4 (some 14) (mB 8 31) HT_ ?_;refine pu 5 (some 15) (mB 8 63) HT_ ?_;refine zoh 6 (none) (mB 8 127) HT_ fun K hK=>?_;have b2:az.cell? ⟨J,0,none⟩=some (.int .i64 0):=(blk_cell I.out 0).trans rfl;have bt:=blk_frozen I.out 0;have bo:=G.out;have bl:=L.out;have b3:az.cell? ⟨J,1,none⟩=some (.int .i64 0):=(blk_cell I.out 1).trans rfl;have bu:=blk_frozen I.out 1;have bp:=G.out;have bm:=L.out;have b4:az.cell? ⟨J,2,none⟩=some (.slice none 0 0):=(blk_cell I.out 2).trans rfl;have bv:=blk_frozen I.out 2;have bq:=G.out;have bn:=L.out;refine zsk ?_;refine hK.out _ _ ⟨((cell_far (p:=⟨J,_,none⟩) G.out _).trans (((cell_far (p:=⟨J,_,none⟩) G.out _).trans (((cell_far (p:=⟨J,_,none⟩) G.out _).trans (hHeld.1)))))),((cell_far (p:=⟨J,_,none⟩) G.out _).trans (((cell_far (p:=⟨J,_,none⟩) G.out _).trans (((cell_far (p:=⟨J,_,none⟩) G.out _).trans (hHeld.2.1)))))),((cell_far (p:=⟨J,_,none⟩) G.out _).trans (((cell_far (p:=⟨J,_,none⟩) G.out _).trans (((cell_far (p:=⟨J,_,none⟩) G.out _).trans (hHeld.2.2))))))⟩ (fun hHeld=>?_);clear hK K;refine pu 7 (some 5) (mB 8 255) HT_ ?_;refine done_ (done_of HT_.out zb) ?_
  try go_wp2
  refine bodyPost_ret (results_ct rfl _ _ J 24 #[.int .i64 af,.int .i64 ai,.slice ap ao.length aq] (0,0) _ rfl (by refine bkR ?_;refine blk_put (cs:= #[.int .i64 af,.int .i64 ai,.slice none 0 0]) ?_ 2 _ rfl;refine bkR ?_;refine blk_put (cs:= #[.int .i64 af,.int .i64 0,.slice none 0 0]) ?_ 1 _ rfl;refine bkR ?_;refine blk_put (cs:= #[.int .i64 0,.int .i64 0,.slice none 0 0]) ?_ 0 _ rfl;refine bkR ?_;exact I.out) Tryd.underlying24 rfl zb) rfl ?_;exact⟨_,rfE,by(with_reducible repeat(first|apply Kd.R_alloc|apply Kd.R_drewN|apply Kd.R_drew));exact Kd.R_mono (Kd.R_far (p:=⟨J,2,none⟩) (Kd.R_far (p:=⟨J,1,none⟩) (Kd.R_far (p:=⟨J,0,none⟩) (Kd.R_types aj.out I.out zc) (fun _ hk=>hk.2) (.int .i64 af)) (fun _ hk=>hk.2) (.int .i64 ai)) (fun _ hk=>hk.2) (.slice ap ao.length aq)) (fun _ hk=>trivial),hbA HB.out⟩
 ·replace c4:=Bool.eq_false_iff.mpr c4;subst c4;rw[if_neg nofT]at H
  simp only[Option.some.injEq,Prod.mk.injEq]at H;obtain⟨rfl,rfl,rfl,rfl⟩:=H
  go_enter Tryd.func78,Tryd.ntmps78
  go_wp2_with (first|((with_reducible refine gD 2 rfl ?_);refine bE 2 #[.int .i64 U,.int .i64 X,.slice Y O.length Z] 24 ?_;intro ac hg ca hbox hb;have D:=aK (hbox);have ax:=hbS HB hg;have av:=hbS HB hg;replace HB:=hbB HB hb;clear hb hbox hg)|((with_reducible refine gD 4 rfl ?_);refine bE 4 #[.int .i64 0,.int .i64 0,.slice none 0 0] 24 ?_;intro J hg cb hbox hb;have I:=aK (hbox);have ay:=hbS HB hg;have aw:=hbS HB hg;replace HB:=hbB HB hb;have G:=neL D hg;have L:=neG D hg;replace D:=bkB D hb;clear hb hbox hg;have bw:=G.out;have bx:=L.out;obtain⟨a6,a7,a8,bf,bg,bh⟩:=cell3 D)|((with_reducible refine gC 51 rfl ?_);refine cG (some 7) Tryd.func51 #[.agg #[.int .i64 U,.int .i64 X,.slice Y O.length Z]] ?_;(with_reducible refine(matrix_Right.calls U X _ _ O false _ ?side1 ?side2 A3.out).mono ?_);(case side1=>exact kcB ah HB);(case side2=>exact ag.out);rintro e cd ⟨rfl,hb⟩;refine⟨_,rfl,?_⟩;replace D:=bkB D hb;replace I:=bkB I hb;replace HB:=hbB HB hb;(try clear hb);obtain⟨a9,ba,bb,bi,bj,bk⟩:=cell3 I))
  refine bodyPost_ret (results_ct rfl _ _ J 24 #[.int .i64 0,.int .i64 0,.slice none 0 0] (0,0) _ rfl zaq Tryd.underlying24 rfl zb) rfl ?_;exact⟨_,rfE,nilE,hbA HB.out⟩
def gauss_First.f(I:Int)(J:Int)(L:List Int):Option (List Int×Int):=(matrix_Transpose.f I J L).bind fun D=>(if D.2.2.2=0 then((gauss_Reduce.f D.1 D.2.1 D.2.2.1).bind fun G=>(some (G.2.2.2.1,G.2.2.2.2)))else(some (([]:List Int),D.2.2.2)))
set_option maxHeartbeats 8000000 in
set_option maxRecDepth 100000 in
theorem gauss_First.calls(U:Int)(X:Int)(ab:Option Addr)(ac:Nat)(L:List Int)(r1:List Int)(r2:Int)(w:World)(az:Kd.C (Kd.int .u8) w ab L.length L)(ay:L.length≤ac)(h:gauss_First.f U X L=some (r1,r2)):
 Calls Tryd.prog 79 #[.agg #[.int .i64 U,.int .i64 X,.slice ab L.length ac]] w fun e w'=> ∃v0_:Value,e= .returned (.tuple #[v0_,.int .i64 r2])∧Kd.R (Kd.int .i64) 3 w' w.heap.size (fun _=>True) v0_ r1∧Below w.heap.size w w':=by
 have cp:=Tryd.underlying24;have aw:=aK az;have av:=aK ay;clear az ay;have HB:=aK (Below.refl w.heap.size w);have H:((matrix_Transpose.f U X L).bind fun ag=>(if ag.2.2.2=0 then((gauss_Reduce.f ag.1 ag.2.1 ag.2.2.1).bind fun ax=>(some (ax.2.2.2.1,ax.2.2.2.2)))else(some (([]:List Int),ag.2.2.2))))=some (r1,r2):=h;clear h;obtain⟨⟨O,Y,Z,ah⟩,A2,H⟩:=bindO H
 (try dsimp only at H)
 by_cases c3:ah=0
 ·rw[if_pos c3]at H
  have c3b0:(ah==0)=true:=beq_iff_eq.mpr c3;have c3b1:(ah !=0)=false:=bne_eq_false_iff_eq.mpr c3;clear c3;obtain⟨⟨a0,a1,a2,b2,b3⟩,A4,H⟩:=bindO H
  (try dsimp only at H)
  simp only[Option.some.injEq,Prod.mk.injEq]at H;obtain⟨rfl,rfl⟩:=H
  go_enter Tryd.func79,Tryd.ntmps79
  go_wp2_with (first|((with_reducible refine gD 1 rfl ?_);refine bE 1 #[.int .i64 U,.int .i64 X,.slice ab L.length ac] 24 ?_;intro ai hg w5 hbox hb;have D:=aK (hbox);have a5:=hbS HB hg;have a3:=hbS HB hg;replace HB:=hbB HB hb;clear hb hbox hg;obtain⟨b6,b7,b8,b9,ca,cb⟩:=cell3 D)|((with_reducible refine gC 88 rfl ?_);refine cG (some 10) Tryd.func88 #[.agg #[.int .i64 U,.int .i64 X,.slice ab L.length ac]] ?_;(with_reducible refine(matrix_Transpose.calls U X _ _ L O Y Z ah _ ?side1 ?side2 A2.out).mono ?_);(case side1=>exact kcB aw HB);(case side2=>exact av.out);rintro e w7 ⟨b4,rfl,al,hb⟩;refine⟨_,rfl,?_⟩;have I:=aK (Kd.R_lower al (below_size (hbA HB.out)));replace D:=bkB D hb;replace HB:=hbB HB hb;(try clear hb);(try clear al))|((with_reducible refine gD 4 rfl ?_);refine bE 4 #[.int .i64 0,.int .i64 0,.slice none 0 0] 24 ?_;intro aj hg w8 hbox hb;replace I:=kdB I hb;have J:=aK (hbox);have a6:=hbS HB hg;have a4:=hbS HB hg;replace HB:=hbB HB hb;have G:=neL D hg;have aa:=neG D hg;replace D:=bkB D hb;clear hb hbox hg;have cn:=aa.out;have co:=G.out;obtain⟨bc,bd,be,bo,bp,bq⟩:=cell3 J;obtain⟨af,ae,a9⟩:=Kd.R_slice I.out;subst a9)|((with_reducible refine gC 89 rfl ?_);refine cG (some 18) Tryd.func89 #[.agg #[.int .i64 O,.int .i64 Y,.slice af Z.length ae]] ?_;(with_reducible refine(gauss_Reduce.calls O Y _ _ Z a0 a1 a2 b2 b3 _ ?side1 ?side2 A4.out).mono ?_);(case side1=>refine(Kd.R_reads' (e:=5) (base:=w.heap.size) (ok:=fun k_=>True) (n:=Z.length) (c:=ae) ?_).2.2;exact(by(with_reducible repeat(first|apply Kd.R_alloc|apply Kd.R_drewN|apply Kd.R_drew));exact(zF I.out J.out  (.int .i64 O)  (.int .i64 Y)  (.slice af Z.length ae))));(case side2=>exact(Kd.R_reads' I.out).2.1);rintro e cr ⟨cq,b5,rfl,al,b1,hb⟩;refine⟨_,rfl,?_⟩;have am:=aK (Kd.V_lower (Kd.V_mono (ok':=fun k_=>some k_≠(b5:Value).ownBlock∧some k_≠(.slice af Z.length ae:Value).ownBlock∧k_≠ai∧k_≠aj) al (fun k_ hk_=>⟨hk_.2,(Kd.fresh' (Kd.R_lt (by(with_reducible repeat(first|apply Kd.R_alloc|apply Kd.R_drewN|apply Kd.R_drew));exact(zF I.out J.out  (.int .i64 O)  (.int .i64 Y)  (.slice af Z.length ae)))) k_ hk_.1),(Kd.freshB (g:=ai) (o:= .cells #[.int .i64 U,.int .i64 X,.slice ab L.length ac] 24 (0,0)) zad k_ hk_.1),(Kd.freshB (g:=aj) (o:= .cells #[.int .i64 O,.int .i64 Y,.slice af Z.length ae] 24 (0,0)) zap k_ hk_.1)⟩)) (below_size (hbA HB.out)));replace I:=aK (Kd.R_below (by(with_reducible repeat(first|apply Kd.R_alloc|apply Kd.R_drewN|apply Kd.R_drew));exact(zF I.out J.out  (.int .i64 O)  (.int .i64 Y)  (.slice af Z.length ae))) hb);have an:=aK (Kd.R_lower (Kd.R_mono (ok':=fun k_=>True) b1 (fun _ hk_=>trivial)) (below_size (hbA HB.out)));replace D:=aK (blk_below (g:=ai) (o:= .cells #[.int .i64 U,.int .i64 X,.slice ab L.length ac] 24 (0,0)) zad hb);replace J:=aK (blk_below (g:=aj) (o:= .cells #[.int .i64 O,.int .i64 Y,.slice af Z.length ae] 24 (0,0)) zap hb);replace HB:=hbB HB hb;(try clear hb);(try clear al);(try clear b1))|((with_reducible refine gD 6 rfl ?_);refine bE 6 #[.int .i64 0,.int .i64 0,.slice none 0 0] 24 ?_;intro ak hg ct hbox hb;replace I:=kdB I hb;replace am:=aK (Kd.V_below (Kd.V_elderB (by(with_reducible repeat(first|apply Kd.V_alloc|apply Kd.V_drewN|apply Kd.V_drew));exact am.out) ak (Nat.le_of_eq hg.symm)) hb);replace an:=kdB an hb;have au:=aK (hbox);have ce:=hbS HB hg;have cd:=hbS HB hg;replace HB:=hbB HB hb;have ao:=neL D hg;have aq:=neG D hg;replace D:=bkB D hb;have ap:=neL J hg;have ar:=neG J hg;replace J:=bkB J hb;clear hb hbox hg;have cf:=aq.out;have ci:=ao.out;have cg:=ar.out;have cj:=ap.out;obtain⟨bf,bg,bh,br,bs,bt⟩:=cell3 au;obtain⟨a7,a8,ba⟩:=Kd.V_slice am.out;subst ba))
  go_ret2
  exact⟨_,rfE,by(with_reducible repeat(first|apply Kd.R_alloc|apply Kd.R_drewN|apply Kd.R_drew));exact Kd.R_mono (Kd.R_far (p:=⟨ak,2,none⟩) (Kd.R_far (p:=⟨ak,1,none⟩) (Kd.R_far (p:=⟨ak,0,none⟩) (Kd.R_types an.out au.out zc) (fun _ hk=>hk.2) (.int .i64 a0)) (fun _ hk=>hk.2) (.int .i64 a1)) (fun _ hk=>hk.2) (.slice a7 a2.length a8)) (fun _ hk=>trivial),hbA HB.out⟩
 ·rw[if_neg c3]at H
  have c3b0:(ah==0)=false:=beq_eq_false_iff_ne.mpr c3;have c3b1:(ah !=0)=true:=bne_iff_ne.mpr c3;simp only[Option.some.injEq,Prod.mk.injEq]at H;obtain⟨rfl,rfl⟩:=H
  go_enter Tryd.func79,Tryd.ntmps79
  go_wp2_with (first|((with_reducible refine gD 1 rfl ?_);refine bE 1 #[.int .i64 U,.int .i64 X,.slice ab L.length ac] 24 ?_;intro ai hg cu hbox hb;have D:=aK (hbox);have a5:=hbS HB hg;have a3:=hbS HB hg;replace HB:=hbB HB hb;clear hb hbox hg;obtain⟨bi,bj,bk,bu,bv,bw⟩:=cell3 D)|((with_reducible refine gC 88 rfl ?_);refine cG (some 10) Tryd.func88 #[.agg #[.int .i64 U,.int .i64 X,.slice ab L.length ac]] ?_;(with_reducible refine(matrix_Transpose.calls U X _ _ L O Y Z ah _ ?side1 ?side2 A2.out).mono ?_);(case side1=>exact kcB aw HB);(case side2=>exact av.out);rintro e cv ⟨b4,rfl,al,hb⟩;refine⟨_,rfl,?_⟩;have I:=aK (Kd.R_lower al (below_size (hbA HB.out)));replace D:=bkB D hb;replace HB:=hbB HB hb;(try clear hb);(try clear al))|((with_reducible refine gD 4 rfl ?_);refine bE 4 #[.int .i64 0,.int .i64 0,.slice none 0 0] 24 ?_;intro aj hg cw hbox hb;replace I:=kdB I hb;have J:=aK (hbox);have a6:=hbS HB hg;have a4:=hbS HB hg;replace HB:=hbB HB hb;have G:=neL D hg;have aa:=neG D hg;replace D:=bkB D hb;clear hb hbox hg;have ch:=aa.out;have ck:=G.out;obtain⟨bl,bm,bn,bx,bz,b0⟩:=cell3 J;obtain⟨cl,cm,bb⟩:=Kd.R_slice I.out;subst bb))
  go_ret2
  exact⟨_,rfE,nilE,hbA HB.out⟩
def matroid_Basis.l0:Nat→List Int→Int→List Int→Int→Int→Option (Int×Int)
 |0,_,_,_,_,_=>none
 |k+1,x9,I,G,J,D=>if D<J then(if 0≤D then(if D<(G.length:Int)then(if 0≤(rd G D)then(if(rd G D)<(x9.length:Int)then(if 0≤(rd x9 (rd G D))then(matroid_Basis.l0 k x9 (Go.bits .or .u64 I (shl .u64 1 (rd x9 (rd G D)))) G J (wrap64 (D+1)))else(none))else(none))else(none))else(none))else(none))else(some (I,0))
def matroid_Basis.f(k:Nat)(I:Int)(J:Int)(L:List Int)(a1:Int):Option (Int×Int):=(matroid_pick.f k I J L a1).bind fun D=>(if D.2.2.2=0 then((gauss_First.f D.1 D.2.1 D.2.2.1).bind fun G=>(if G.2=0 then((subset_List.f k a1).bind fun O=>(matroid_Basis.l0 k O 0 G.1 (G.1.length:Int) 0))else(some (0,G.2))))else(some (0,D.2.2.2)))
theorem matroid_Basis.mono_l: ∀k,(∀y0 y1 y2 y3 y4,LeO (matroid_Basis.l0 k y0 y1 y2 y3 y4) (matroid_Basis.l0 (k+1) y0 y1 y2 y3 y4))
 |0=>fun _ _ _ _ _ r h=>by simp[matroid_Basis.l0]at h
 |k+1=>by
  have D:=matroid_Basis.mono_l k
  ·intro y0 y1 y2 y3 y4;unfold matroid_Basis.l0
   repeat' first
   |(with_reducible exact D _ _ _ _ _)
   |(with_reducible exact matroid_pick.mono _ _ _ _ _)
   |(with_reducible exact subset_List.mono _ _)
   |(with_reducible exact LeO.refl _)
   |(with_reducible exact LeO.none _)
   |(with_reducible refine LeO.ite ?_ ?_)
   |(with_reducible refine LeO.bind ?_ (fun _=>?_))
   |exact D _ _ _ _ _
   |exact matroid_pick.mono _ _ _ _ _
   |exact subset_List.mono _ _
   |exact LeO.none _
   |refine LeO.ite ?_ ?_
   |refine LeO.bind ?_ (fun _=>?_)
theorem matroid_Basis.mono: ∀a0 a1 a2 a3 k,LeO (matroid_Basis.f k a0 a1 a2 a3) (matroid_Basis.f (k+1) a0 a1 a2 a3):=by
 intro a0 a1 a2 a3 k;have D:=matroid_Basis.mono_l k;unfold matroid_Basis.f
 repeat' first
  |(with_reducible exact D _ _ _ _ _)
  |(with_reducible exact matroid_pick.mono _ _ _ _ _)
  |(with_reducible exact subset_List.mono _ _)
  |(with_reducible exact LeO.refl _)
  |(with_reducible exact LeO.none _)
  |(with_reducible refine LeO.ite ?_ ?_)
  |(with_reducible refine LeO.bind ?_ (fun _=>?_))
  |exact D _ _ _ _ _
  |exact matroid_pick.mono _ _ _ _ _
  |exact subset_List.mono _ _
  |exact LeO.none _
  |refine LeO.ite ?_ ?_
  |refine LeO.bind ?_ (fun _=>?_)
set_option maxHeartbeats 8000000 in
set_option maxRecDepth 100000 in
theorem matroid_Basis.calls(k:Nat)(ac:Int)(ae:Int)(ag:Option Addr)(ah:Nat)(U:List Int)(a1:Int)(r1:Int)(r2:Int)(w:World)(be:Kd.C (Kd.int .u8) w ag U.length U)(a7:U.length≤ah)(h:matroid_Basis.f k ac ae U a1=some (r1,r2))(hT:TabAt 0 Lib.deBruijn64tab w):
 Calls Tryd.prog 54 #[.agg #[.int .i64 ac,.int .i64 ae,.slice ag U.length ah],.int .u64 a1] w fun e w'=>e= .returned (.tuple #[.int .u64 r1,.int .i64 r2])∧Below w.heap.size w w':=by
 have HT:=aK hT;clear hT;have dk:=Tryd.underlying24;have ay:=aK be;have ax:=aK a7;clear be a7;have HB:=aK (Below.refl w.heap.size w);have H:((matroid_pick.f k ac ae U a1).bind fun ak=>(if ak.2.2.2=0 then((gauss_First.f ak.1 ak.2.1 ak.2.2.1).bind fun av=>(if av.2=0 then((subset_List.f k a1).bind fun Z=>(matroid_Basis.l0 k Z 0 av.1 (av.1.length:Int) 0))else(some (0,av.2))))else(some (0,ak.2.2.2))))=some (r1,r2):=h;clear h;obtain⟨⟨X,aa,Y,aj⟩,A3,H⟩:=bindO H
 (try dsimp only at H)
 by_cases c4:aj=0
 ·rw[if_pos c4]at H
  have c4b0:(aj==0)=true:=beq_iff_eq.mpr c4;have c4b1:(aj !=0)=false:=bne_eq_false_iff_eq.mpr c4;clear c4;obtain⟨⟨J,ap⟩,A5,H⟩:=bindO H
  (try dsimp only at H)
  by_cases c6:ap=0
  ·rw[if_pos c6]at H
   have c6b0:(ap==0)=true:=beq_iff_eq.mpr c6;have c6b1:(ap !=0)=false:=bne_eq_false_iff_eq.mpr c6;clear c6;obtain⟨Z,A7,H⟩:=bindO H
   (try dsimp only at H)
   have H':=aK H;clear H
   go_enter Tryd.func54,Tryd.ntmps54
   go_wp2_with (first|((with_reducible refine gD 2 rfl ?_);refine bE 2 #[.int .i64 ac,.int .i64 ae,.slice ag U.length ah] 24 ?_;intro am hg w8 hbox hb;have D:=aK (hbox);have a4:=hbS HB hg;have a2:=hbS HB hg;replace HB:=hbB HB hb;clear hb hbox hg;obtain⟨bn,bo,bp,bq,br,bs⟩:=cell3 D)|((with_reducible refine gC 78 rfl ?_);refine cG (some 16) Tryd.func78 #[.agg #[.int .i64 ac,.int .i64 ae,.slice ag U.length ah],.int .u64 a1] ?_;(with_reducible refine(matroid_pick.calls k ac ae _ _ U a1 X aa Y aj _ ?side1 ?side2 A3.out (tab_below HT.out zi)).mono ?_);(case side1=>exact kcB ay HB);(case side2=>exact ax.out);rintro e dm ⟨bv,rfl,af,hb⟩;refine⟨_,rfl,?_⟩;have L:=aK (Kd.R_lower af (below_size (hbA HB.out)));replace D:=bkB D hb;replace HB:=hbB HB hb;(try clear hb);(try clear af))|((with_reducible refine gD 6 rfl ?_);refine bE 6 #[.int .i64 0,.int .i64 0,.slice none 0 0] 24 ?_;intro an hg dn hbox hb;replace L:=kdB L hb;have O:=aK (hbox);have a5:=hbS HB hg;have a3:=hbS HB hg;replace HB:=hbB HB hb;have I:=neL D hg;have ab:=neG D hg;replace D:=bkB D hb;clear hb hbox hg;have c8:=ab.out;have db:=I.out;obtain⟨a8,a9,ba,bb,bc,bd⟩:=cell3 O;obtain⟨ar,al,b2⟩:=Kd.R_slice L.out;subst b2)|((with_reducible refine gC 79 rfl ?_);refine cG (some 24) Tryd.func79 #[.agg #[.int .i64 X,.int .i64 aa,.slice ar Y.length al]] ?_;(with_reducible refine(gauss_First.calls X aa _ _ Y J ap _ ?side1 ?side2 A5.out).mono ?_);(case side1=>refine(Kd.R_reads' (e:=5) (base:=w.heap.size) (ok:=fun k_=>True) (n:=Y.length) (c:=al) ?_).2.2;exact(by(with_reducible repeat(first|apply Kd.R_alloc|apply Kd.R_drewN|apply Kd.R_drew));exact(zF L.out O.out  (.int .i64 X)  (.int .i64 aa)  (.slice ar Y.length al))));(case side2=>exact(Kd.R_reads' L.out).2.1);rintro e dp ⟨cz,rfl,af,hb⟩;refine⟨_,rfl,?_⟩;replace L:=aK (Kd.R_below (by(with_reducible repeat(first|apply Kd.R_alloc|apply Kd.R_drewN|apply Kd.R_drew));exact(zF L.out O.out  (.int .i64 X)  (.int .i64 aa)  (.slice ar Y.length al))) hb);have ai:=aK (Kd.R_lower af (below_size (hbA HB.out)));replace D:=aK (blk_below (g:=am) (o:= .cells #[.int .i64 ac,.int .i64 ae,.slice ag U.length ah] 24 (0,0)) zav hb);replace O:=aK (blk_below (g:=an) (o:= .cells #[.int .i64 X,.int .i64 aa,.slice ar Y.length al] 24 (0,0)) zao hb);replace HB:=hbB HB hb;(try clear hb);(try clear af))|((with_reducible refine gC 47 rfl ?_);refine cG (some 31) Tryd.func47 #[.int .u64 a1] ?_;(with_reducible refine(subset_List.calls k a1 Z _ A7.out (tab_below HT.out zi)).mono ?_);rintro e dq ⟨bw,rfl,af,hb⟩;refine⟨_,rfl,?_⟩;replace L:=kdB L hb;have bx:=aK (Kd.R_lower (Kd.R_new' af (Kd.R_lt (kdA ai.out))) (below_size (hbA HB.out)));replace ai:=aK (Kd.R_elder' (kdA ai.out) (Kd.R_base af) hb);replace D:=bkB D hb;replace O:=bkB O hb;replace HB:=hbB HB hb;(try clear hb);(try clear af);obtain⟨bt,bu,b3⟩:=Kd.R_slice ai.out;subst b3))
   go_loopg [10,34] k (fun kq de df w'=> ∃(aq:Int) (G:Int),de= .int .u64 aq∧df= .int .i64 G∧Aside0 (matroid_Basis.l0 kq Z aq J (J.length:Int) G=some (r1,r2))∧Aside0 (kq≤k)∧Aside0 (Kd.R (Kd.int .i64) 3 w' w.heap.size (fun k_=>some k_≠((.slice bt J.length bu):Value).ownBlock) bw Z)∧Aside0 (Kd.R (Kd.int .i64) 3 w' w.heap.size (fun k_=>some k_≠(bw:Value).ownBlock) (.slice bt J.length bu) J)∧Aside0 (Kd.R (Kd.int .u8) 5 w' w.heap.size (fun _=>True) (.slice ar Y.length al) Y)∧Aside0 (w'.heap[am]? =some (.cells #[.int .i64 ac,.int .i64 ae,(.slice ag U.length ah)] 24 (0,0)))∧Aside0 (w'.heap[an]? =some (.cells #[.int .i64 X,.int .i64 aa,(.slice ar Y.length al)] 24 (0,0)))∧Aside0 (Below w.heap.size w w'))
   case atStart=>exact⟨(0),(0),rsE,rsE,H',⟨Nat.le_refl _⟩,⟨by(with_reducible repeat(first|apply Kd.R_alloc|apply Kd.R_drewN|apply Kd.R_drew));exact Kd.R_mono bx.out (fun _ hk=>hk.2)⟩,⟨by(with_reducible repeat(first|apply Kd.R_alloc|apply Kd.R_drewN|apply Kd.R_drew));exact Kd.R_mono ai.out (fun _ hk=>hk.2)⟩,⟨kdA L.out⟩,⟨bkA D.out⟩,⟨bkA O.out⟩,⟨hbA HB.out⟩⟩
   case round=>
    clear H'
    (try clear c1);(try clear p2);(try clear c4);(try clear c4b0);(try clear c4b1);(try clear c5);(try clear c6);(try clear c6b0);(try clear c6b1);(try clear c7);(try clear dl);(try clear a8 a9 ba bb bc bd);(try clear bn bo bp bq br bs)
    obtain⟨aq,G,rfl,rfl,HA,bz,HO_9,HO_32,HO_160002,D,O,HB⟩:=hrel
    cases gk with
    |zero=>exact absurd HA.out (by simp[matroid_Basis.l0])
    |succ k1=>
     have H:=HA.out;clear HA;simp only[matroid_Basis.l0]at H;by_cases a0:G<(J.length:Int)
     ·rw[if_pos a0]at H
      have c18b0:decide (G<(J.length:Int))=true:=decide_eq_true a0;clear a0;by_cases bj:0≤G
      ·rw[if_pos bj]at H
       have c19b0:decide (0≤G)=true:=decide_eq_true bj;clear bj;by_cases bk:G<(J.length:Int)
       ·rw[if_pos bk]at H
        have c20b0:decide (G<(J.length:Int))=true:=decide_eq_true bk;clear bk;by_cases bl:0≤(rd J G)
        ·rw[if_pos bl]at H
         have c21b0:decide (0≤(rd J G))=true:=decide_eq_true bl;clear bl;by_cases bm:(rd J G)<(Z.length:Int)
         ·rw[if_pos bm]at H
          have c22b0:decide ((rd J G)<(Z.length:Int))=true:=decide_eq_true bm;clear bm;by_cases a6:0≤(rd Z (rd J G))
          ·rw[if_pos a6]at H
           have c23b0:=eq_true a6;have c23b1:decide (0≤(rd Z (rd J G)))=true:=decide_eq_true a6;clear a6;obtain⟨au,ao⟩: ∃j_:Int,(shl .u64 1 (rd Z (rd J G)))=j_:=⟨_,rfl⟩
           replace H:(matroid_Basis.l0 k1 Z (Go.bits .or .u64 aq (au)) J (J.length:Int) (wrap64 (G+1)))=some (r1,r2):=by first|(rw[ao]at H;exact H)|(simp only[ao]at H⊢;exact H)
           have hji24_:(IntKind.u64.wrap (1*2^min (rd Z (rd J G)).toNat 64))=au:=ao;have hji24z:(rd Z (rd J G))≤64→(IntKind.u64.wrap (1*2^(rd Z (rd J G)).toNat))=au:=shl_small ao;have hji24u:(IntKind.u64.wrap (2^min (rd Z (rd J G)).toNat 64))=au:=by have h_:=hji24_;rw[Int.one_mul]at h_;exact h_
           have hji24v:(rd Z (rd J G))≤64→(IntKind.u64.wrap (2^(rd Z (rd J G)).toNat))=au:=fun hle_=>by have h_:=hji24z hle_;rw[Int.one_mul]at h_;exact h_
           have H':=aK H;clear H;have bf:0≤(G:Int):=of_decide_eq_true asE;have bh:G<(J.length:Int):=of_decide_eq_true asE;obtain⟨c2,b0,cx⟩:=Kd.at_int (Kd.R_reads' HO_32.out).2.2 G bf bh
           cases b0
           replace bf:=eq_true bf;replace bh:=eq_true bh;obtain⟨dg,di,b4⟩:=Kd.R_slice HO_9.out;subst b4;have bg:0≤((rd J G):Int):=of_decide_eq_true asE;have bi:(rd J G)<(Z.length:Int):=of_decide_eq_true asE;obtain⟨c3,b1,cy⟩:=Kd.at_int (Kd.R_reads' HO_9.out).2.2 (rd J G) bg bi
           cases b1
           replace bg:=eq_true bg;replace bi:=eq_true bi;go_wp2
           go_roundg k1
           case measure=>have:=bz.out;omega
           case rel=>exact⟨(Go.bits .or .u64 aq (au)),(wrap64 (G+1)),(by first|rfl|(simp;done)|(simp only[←ao]<;>(first|rfl|simp))|(simp[*];done)),rsE,H',⟨by have:=bz.out;omega⟩,⟨kdA HO_9.out⟩,⟨kdA HO_32.out⟩,⟨kdA HO_160002.out⟩,⟨bkA D.out⟩,⟨bkA O.out⟩,⟨hbA HB.out⟩⟩
          ·rw[if_neg a6]at H
           exact absurd H zd
         ·rw[if_neg bm]at H
          exact absurd H zd
        ·rw[if_neg bl]at H
         exact absurd H zd
       ·rw[if_neg bk]at H
        exact absurd H zd
      ·rw[if_neg bj]at H
       exact absurd H zd
     ·rw[if_neg a0]at H
      have c18b0:decide (G<(J.length:Int))=false:=decide_eq_false a0;clear a0;simp only[Option.some.injEq,Prod.mk.injEq]at H;obtain⟨rfl,rfl⟩:=H;go_wp2
      go_ret2
      exact⟨rfE,hbA HB.out⟩
  ·rw[if_neg c6]at H
   have c6b0:(ap==0)=false:=beq_eq_false_iff_ne.mpr c6;have c6b1:(ap !=0)=true:=bne_iff_ne.mpr c6;simp only[Option.some.injEq,Prod.mk.injEq]at H;obtain⟨rfl,rfl⟩:=H
   go_enter Tryd.func54,Tryd.ntmps54
   go_wp2_with (first|((with_reducible refine gD 2 rfl ?_);refine bE 2 #[.int .i64 ac,.int .i64 ae,.slice ag U.length ah] 24 ?_;intro am hg dr hbox hb;have D:=aK (hbox);have a4:=hbS HB hg;have a2:=hbS HB hg;replace HB:=hbB HB hb;clear hb hbox hg;obtain⟨b7,b8,b9,ck,cl,cm⟩:=cell3 D)|((with_reducible refine gC 78 rfl ?_);refine cG (some 16) Tryd.func78 #[.agg #[.int .i64 ac,.int .i64 ae,.slice ag U.length ah],.int .u64 a1] ?_;(with_reducible refine(matroid_pick.calls k ac ae _ _ U a1 X aa Y aj _ ?side1 ?side2 A3.out (tab_below HT.out zi)).mono ?_);(case side1=>exact kcB ay HB);(case side2=>exact ax.out);rintro e dt ⟨bv,rfl,af,hb⟩;refine⟨_,rfl,?_⟩;have L:=aK (Kd.R_lower af (below_size (hbA HB.out)));replace D:=bkB D hb;replace HB:=hbB HB hb;(try clear hb);(try clear af))|((with_reducible refine gD 6 rfl ?_);refine bE 6 #[.int .i64 0,.int .i64 0,.slice none 0 0] 24 ?_;intro an hg du hbox hb;replace L:=kdB L hb;have O:=aK (hbox);have a5:=hbS HB hg;have a3:=hbS HB hg;replace HB:=hbB HB hb;have I:=neL D hg;have ab:=neG D hg;replace D:=bkB D hb;clear hb hbox hg;have c9:=ab.out;have dc:=I.out;obtain⟨ca,cb,cd,cn,co,cp⟩:=cell3 O;obtain⟨az,aw,b5⟩:=Kd.R_slice L.out;subst b5)|((with_reducible refine gC 79 rfl ?_);refine cG (some 24) Tryd.func79 #[.agg #[.int .i64 X,.int .i64 aa,.slice az Y.length aw]] ?_;(with_reducible refine(gauss_First.calls X aa _ _ Y J ap _ ?side1 ?side2 A5.out).mono ?_);(case side1=>refine(Kd.R_reads' (e:=5) (base:=w.heap.size) (ok:=fun k_=>True) (n:=Y.length) (c:=aw) ?_).2.2;exact(by(with_reducible repeat(first|apply Kd.R_alloc|apply Kd.R_drewN|apply Kd.R_drew));exact(zF L.out O.out  (.int .i64 X)  (.int .i64 aa)  (.slice az Y.length aw))));(case side2=>exact(Kd.R_reads' L.out).2.1);rintro e dv ⟨cz,rfl,af,hb⟩;refine⟨_,rfl,?_⟩;replace L:=aK (Kd.R_below (by(with_reducible repeat(first|apply Kd.R_alloc|apply Kd.R_drewN|apply Kd.R_drew));exact(zF L.out O.out  (.int .i64 X)  (.int .i64 aa)  (.slice az Y.length aw))) hb);have ai:=aK (Kd.R_lower af (below_size (hbA HB.out)));replace D:=aK (blk_below (g:=am) (o:= .cells #[.int .i64 ac,.int .i64 ae,.slice ag U.length ah] 24 (0,0)) zav hb);replace O:=aK (blk_below (g:=an) (o:= .cells #[.int .i64 X,.int .i64 aa,.slice az Y.length aw] 24 (0,0)) zao hb);replace HB:=hbB HB hb;(try clear hb);(try clear af)))
   go_ret2
   exact⟨rfE,hbA HB.out⟩
 ·rw[if_neg c4]at H
  have c4b0:(aj==0)=false:=beq_eq_false_iff_ne.mpr c4;have c4b1:(aj !=0)=true:=bne_iff_ne.mpr c4;simp only[Option.some.injEq,Prod.mk.injEq]at H;obtain⟨rfl,rfl⟩:=H
  go_enter Tryd.func54,Tryd.ntmps54
  go_wp2_with (first|((with_reducible refine gD 2 rfl ?_);refine bE 2 #[.int .i64 ac,.int .i64 ae,.slice ag U.length ah] 24 ?_;intro am hg dw hbox hb;have D:=aK (hbox);have a4:=hbS HB hg;have a2:=hbS HB hg;replace HB:=hbB HB hb;clear hb hbox hg;obtain⟨ce,cf,cg,cq,cr,ct⟩:=cell3 D)|((with_reducible refine gC 78 rfl ?_);refine cG (some 16) Tryd.func78 #[.agg #[.int .i64 ac,.int .i64 ae,.slice ag U.length ah],.int .u64 a1] ?_;(with_reducible refine(matroid_pick.calls k ac ae _ _ U a1 X aa Y aj _ ?side1 ?side2 A3.out (tab_below HT.out zi)).mono ?_);(case side1=>exact kcB ay HB);(case side2=>exact ax.out);rintro e dx ⟨bv,rfl,af,hb⟩;refine⟨_,rfl,?_⟩;have L:=aK (Kd.R_lower af (below_size (hbA HB.out)));replace D:=bkB D hb;replace HB:=hbB HB hb;(try clear hb);(try clear af))|((with_reducible refine gD 6 rfl ?_);refine bE 6 #[.int .i64 0,.int .i64 0,.slice none 0 0] 24 ?_;intro an hg dy hbox hb;replace L:=kdB L hb;have O:=aK (hbox);have a5:=hbS HB hg;have a3:=hbS HB hg;replace HB:=hbB HB hb;have I:=neL D hg;have ab:=neG D hg;replace D:=bkB D hb;clear hb hbox hg;have da:=ab.out;have dd:=I.out;obtain⟨ch,ci,cj,cu,cv,cw⟩:=cell3 O;obtain⟨dh,dj,b6⟩:=Kd.R_slice L.out;subst b6))
  go_ret2
  exact⟨rfE,hbA HB.out⟩
def bits_OnesCount64.f(a0:Int):Option (Int):=some (Go.bits .and .i64 (wrap64 (IntKind.u64.wrap ((IntKind.u64.wrap ((IntKind.u64.wrap ((Go.bits .and .u64 (IntKind.u64.wrap (((IntKind.u64.wrap ((Go.bits .and .u64 ((IntKind.u64.wrap ((Go.bits .and .u64 (a0 / 2) 6148914691236517205)+(Go.bits .and .u64 a0 6148914691236517205))) / 4) 3689348814741910323)+(Go.bits .and .u64 (IntKind.u64.wrap ((Go.bits .and .u64 (a0 / 2) 6148914691236517205)+(Go.bits .and .u64 a0 6148914691236517205))) 3689348814741910323))) / 16)+(IntKind.u64.wrap ((Go.bits .and .u64 ((IntKind.u64.wrap ((Go.bits .and .u64 (a0 / 2) 6148914691236517205)+(Go.bits .and .u64 a0 6148914691236517205))) / 4) 3689348814741910323)+(Go.bits .and .u64 (IntKind.u64.wrap ((Go.bits .and .u64 (a0 / 2) 6148914691236517205)+(Go.bits .and .u64 a0 6148914691236517205))) 3689348814741910323))))) 1085102592571150095)+((Go.bits .and .u64 (IntKind.u64.wrap (((IntKind.u64.wrap ((Go.bits .and .u64 ((IntKind.u64.wrap ((Go.bits .and .u64 (a0 / 2) 6148914691236517205)+(Go.bits .and .u64 a0 6148914691236517205))) / 4) 3689348814741910323)+(Go.bits .and .u64 (IntKind.u64.wrap ((Go.bits .and .u64 (a0 / 2) 6148914691236517205)+(Go.bits .and .u64 a0 6148914691236517205))) 3689348814741910323))) / 16)+(IntKind.u64.wrap ((Go.bits .and .u64 ((IntKind.u64.wrap ((Go.bits .and .u64 (a0 / 2) 6148914691236517205)+(Go.bits .and .u64 a0 6148914691236517205))) / 4) 3689348814741910323)+(Go.bits .and .u64 (IntKind.u64.wrap ((Go.bits .and .u64 (a0 / 2) 6148914691236517205)+(Go.bits .and .u64 a0 6148914691236517205))) 3689348814741910323))))) 1085102592571150095) / 256)))+((IntKind.u64.wrap ((Go.bits .and .u64 (IntKind.u64.wrap (((IntKind.u64.wrap ((Go.bits .and .u64 ((IntKind.u64.wrap ((Go.bits .and .u64 (a0 / 2) 6148914691236517205)+(Go.bits .and .u64 a0 6148914691236517205))) / 4) 3689348814741910323)+(Go.bits .and .u64 (IntKind.u64.wrap ((Go.bits .and .u64 (a0 / 2) 6148914691236517205)+(Go.bits .and .u64 a0 6148914691236517205))) 3689348814741910323))) / 16)+(IntKind.u64.wrap ((Go.bits .and .u64 ((IntKind.u64.wrap ((Go.bits .and .u64 (a0 / 2) 6148914691236517205)+(Go.bits .and .u64 a0 6148914691236517205))) / 4) 3689348814741910323)+(Go.bits .and .u64 (IntKind.u64.wrap ((Go.bits .and .u64 (a0 / 2) 6148914691236517205)+(Go.bits .and .u64 a0 6148914691236517205))) 3689348814741910323))))) 1085102592571150095)+((Go.bits .and .u64 (IntKind.u64.wrap (((IntKind.u64.wrap ((Go.bits .and .u64 ((IntKind.u64.wrap ((Go.bits .and .u64 (a0 / 2) 6148914691236517205)+(Go.bits .and .u64 a0 6148914691236517205))) / 4) 3689348814741910323)+(Go.bits .and .u64 (IntKind.u64.wrap ((Go.bits .and .u64 (a0 / 2) 6148914691236517205)+(Go.bits .and .u64 a0 6148914691236517205))) 3689348814741910323))) / 16)+(IntKind.u64.wrap ((Go.bits .and .u64 ((IntKind.u64.wrap ((Go.bits .and .u64 (a0 / 2) 6148914691236517205)+(Go.bits .and .u64 a0 6148914691236517205))) / 4) 3689348814741910323)+(Go.bits .and .u64 (IntKind.u64.wrap ((Go.bits .and .u64 (a0 / 2) 6148914691236517205)+(Go.bits .and .u64 a0 6148914691236517205))) 3689348814741910323))))) 1085102592571150095) / 256))) / 65536)))+((IntKind.u64.wrap ((IntKind.u64.wrap ((Go.bits .and .u64 (IntKind.u64.wrap (((IntKind.u64.wrap ((Go.bits .and .u64 ((IntKind.u64.wrap ((Go.bits .and .u64 (a0 / 2) 6148914691236517205)+(Go.bits .and .u64 a0 6148914691236517205))) / 4) 3689348814741910323)+(Go.bits .and .u64 (IntKind.u64.wrap ((Go.bits .and .u64 (a0 / 2) 6148914691236517205)+(Go.bits .and .u64 a0 6148914691236517205))) 3689348814741910323))) / 16)+(IntKind.u64.wrap ((Go.bits .and .u64 ((IntKind.u64.wrap ((Go.bits .and .u64 (a0 / 2) 6148914691236517205)+(Go.bits .and .u64 a0 6148914691236517205))) / 4) 3689348814741910323)+(Go.bits .and .u64 (IntKind.u64.wrap ((Go.bits .and .u64 (a0 / 2) 6148914691236517205)+(Go.bits .and .u64 a0 6148914691236517205))) 3689348814741910323))))) 1085102592571150095)+((Go.bits .and .u64 (IntKind.u64.wrap (((IntKind.u64.wrap ((Go.bits .and .u64 ((IntKind.u64.wrap ((Go.bits .and .u64 (a0 / 2) 6148914691236517205)+(Go.bits .and .u64 a0 6148914691236517205))) / 4) 3689348814741910323)+(Go.bits .and .u64 (IntKind.u64.wrap ((Go.bits .and .u64 (a0 / 2) 6148914691236517205)+(Go.bits .and .u64 a0 6148914691236517205))) 3689348814741910323))) / 16)+(IntKind.u64.wrap ((Go.bits .and .u64 ((IntKind.u64.wrap ((Go.bits .and .u64 (a0 / 2) 6148914691236517205)+(Go.bits .and .u64 a0 6148914691236517205))) / 4) 3689348814741910323)+(Go.bits .and .u64 (IntKind.u64.wrap ((Go.bits .and .u64 (a0 / 2) 6148914691236517205)+(Go.bits .and .u64 a0 6148914691236517205))) 3689348814741910323))))) 1085102592571150095) / 256)))+((IntKind.u64.wrap ((Go.bits .and .u64 (IntKind.u64.wrap (((IntKind.u64.wrap ((Go.bits .and .u64 ((IntKind.u64.wrap ((Go.bits .and .u64 (a0 / 2) 6148914691236517205)+(Go.bits .and .u64 a0 6148914691236517205))) / 4) 3689348814741910323)+(Go.bits .and .u64 (IntKind.u64.wrap ((Go.bits .and .u64 (a0 / 2) 6148914691236517205)+(Go.bits .and .u64 a0 6148914691236517205))) 3689348814741910323))) / 16)+(IntKind.u64.wrap ((Go.bits .and .u64 ((IntKind.u64.wrap ((Go.bits .and .u64 (a0 / 2) 6148914691236517205)+(Go.bits .and .u64 a0 6148914691236517205))) / 4) 3689348814741910323)+(Go.bits .and .u64 (IntKind.u64.wrap ((Go.bits .and .u64 (a0 / 2) 6148914691236517205)+(Go.bits .and .u64 a0 6148914691236517205))) 3689348814741910323))))) 1085102592571150095)+((Go.bits .and .u64 (IntKind.u64.wrap (((IntKind.u64.wrap ((Go.bits .and .u64 ((IntKind.u64.wrap ((Go.bits .and .u64 (a0 / 2) 6148914691236517205)+(Go.bits .and .u64 a0 6148914691236517205))) / 4) 3689348814741910323)+(Go.bits .and .u64 (IntKind.u64.wrap ((Go.bits .and .u64 (a0 / 2) 6148914691236517205)+(Go.bits .and .u64 a0 6148914691236517205))) 3689348814741910323))) / 16)+(IntKind.u64.wrap ((Go.bits .and .u64 ((IntKind.u64.wrap ((Go.bits .and .u64 (a0 / 2) 6148914691236517205)+(Go.bits .and .u64 a0 6148914691236517205))) / 4) 3689348814741910323)+(Go.bits .and .u64 (IntKind.u64.wrap ((Go.bits .and .u64 (a0 / 2) 6148914691236517205)+(Go.bits .and .u64 a0 6148914691236517205))) 3689348814741910323))))) 1085102592571150095) / 256))) / 65536))) / 4294967296)))) 127)
set_option maxHeartbeats 8000000 in
set_option maxRecDepth 100000 in
theorem bits_OnesCount64.calls(a0:Int)(r:Int)(w:World)(h:bits_OnesCount64.f a0=some r):
 Calls Tryd.prog 80 #[.int .u64 a0] w fun e w'=>e= .returned (.int .i64 r)∧Drawn0 w w':=by
 have H:(some (Go.bits .and .i64 (wrap64 (IntKind.u64.wrap ((IntKind.u64.wrap ((IntKind.u64.wrap ((Go.bits .and .u64 (IntKind.u64.wrap (((IntKind.u64.wrap ((Go.bits .and .u64 ((IntKind.u64.wrap ((Go.bits .and .u64 (a0 / 2) 6148914691236517205)+(Go.bits .and .u64 a0 6148914691236517205))) / 4) 3689348814741910323)+(Go.bits .and .u64 (IntKind.u64.wrap ((Go.bits .and .u64 (a0 / 2) 6148914691236517205)+(Go.bits .and .u64 a0 6148914691236517205))) 3689348814741910323))) / 16)+(IntKind.u64.wrap ((Go.bits .and .u64 ((IntKind.u64.wrap ((Go.bits .and .u64 (a0 / 2) 6148914691236517205)+(Go.bits .and .u64 a0 6148914691236517205))) / 4) 3689348814741910323)+(Go.bits .and .u64 (IntKind.u64.wrap ((Go.bits .and .u64 (a0 / 2) 6148914691236517205)+(Go.bits .and .u64 a0 6148914691236517205))) 3689348814741910323))))) 1085102592571150095)+((Go.bits .and .u64 (IntKind.u64.wrap (((IntKind.u64.wrap ((Go.bits .and .u64 ((IntKind.u64.wrap ((Go.bits .and .u64 (a0 / 2) 6148914691236517205)+(Go.bits .and .u64 a0 6148914691236517205))) / 4) 3689348814741910323)+(Go.bits .and .u64 (IntKind.u64.wrap ((Go.bits .and .u64 (a0 / 2) 6148914691236517205)+(Go.bits .and .u64 a0 6148914691236517205))) 3689348814741910323))) / 16)+(IntKind.u64.wrap ((Go.bits .and .u64 ((IntKind.u64.wrap ((Go.bits .and .u64 (a0 / 2) 6148914691236517205)+(Go.bits .and .u64 a0 6148914691236517205))) / 4) 3689348814741910323)+(Go.bits .and .u64 (IntKind.u64.wrap ((Go.bits .and .u64 (a0 / 2) 6148914691236517205)+(Go.bits .and .u64 a0 6148914691236517205))) 3689348814741910323))))) 1085102592571150095) / 256)))+((IntKind.u64.wrap ((Go.bits .and .u64 (IntKind.u64.wrap (((IntKind.u64.wrap ((Go.bits .and .u64 ((IntKind.u64.wrap ((Go.bits .and .u64 (a0 / 2) 6148914691236517205)+(Go.bits .and .u64 a0 6148914691236517205))) / 4) 3689348814741910323)+(Go.bits .and .u64 (IntKind.u64.wrap ((Go.bits .and .u64 (a0 / 2) 6148914691236517205)+(Go.bits .and .u64 a0 6148914691236517205))) 3689348814741910323))) / 16)+(IntKind.u64.wrap ((Go.bits .and .u64 ((IntKind.u64.wrap ((Go.bits .and .u64 (a0 / 2) 6148914691236517205)+(Go.bits .and .u64 a0 6148914691236517205))) / 4) 3689348814741910323)+(Go.bits .and .u64 (IntKind.u64.wrap ((Go.bits .and .u64 (a0 / 2) 6148914691236517205)+(Go.bits .and .u64 a0 6148914691236517205))) 3689348814741910323))))) 1085102592571150095)+((Go.bits .and .u64 (IntKind.u64.wrap (((IntKind.u64.wrap ((Go.bits .and .u64 ((IntKind.u64.wrap ((Go.bits .and .u64 (a0 / 2) 6148914691236517205)+(Go.bits .and .u64 a0 6148914691236517205))) / 4) 3689348814741910323)+(Go.bits .and .u64 (IntKind.u64.wrap ((Go.bits .and .u64 (a0 / 2) 6148914691236517205)+(Go.bits .and .u64 a0 6148914691236517205))) 3689348814741910323))) / 16)+(IntKind.u64.wrap ((Go.bits .and .u64 ((IntKind.u64.wrap ((Go.bits .and .u64 (a0 / 2) 6148914691236517205)+(Go.bits .and .u64 a0 6148914691236517205))) / 4) 3689348814741910323)+(Go.bits .and .u64 (IntKind.u64.wrap ((Go.bits .and .u64 (a0 / 2) 6148914691236517205)+(Go.bits .and .u64 a0 6148914691236517205))) 3689348814741910323))))) 1085102592571150095) / 256))) / 65536)))+((IntKind.u64.wrap ((IntKind.u64.wrap ((Go.bits .and .u64 (IntKind.u64.wrap (((IntKind.u64.wrap ((Go.bits .and .u64 ((IntKind.u64.wrap ((Go.bits .and .u64 (a0 / 2) 6148914691236517205)+(Go.bits .and .u64 a0 6148914691236517205))) / 4) 3689348814741910323)+(Go.bits .and .u64 (IntKind.u64.wrap ((Go.bits .and .u64 (a0 / 2) 6148914691236517205)+(Go.bits .and .u64 a0 6148914691236517205))) 3689348814741910323))) / 16)+(IntKind.u64.wrap ((Go.bits .and .u64 ((IntKind.u64.wrap ((Go.bits .and .u64 (a0 / 2) 6148914691236517205)+(Go.bits .and .u64 a0 6148914691236517205))) / 4) 3689348814741910323)+(Go.bits .and .u64 (IntKind.u64.wrap ((Go.bits .and .u64 (a0 / 2) 6148914691236517205)+(Go.bits .and .u64 a0 6148914691236517205))) 3689348814741910323))))) 1085102592571150095)+((Go.bits .and .u64 (IntKind.u64.wrap (((IntKind.u64.wrap ((Go.bits .and .u64 ((IntKind.u64.wrap ((Go.bits .and .u64 (a0 / 2) 6148914691236517205)+(Go.bits .and .u64 a0 6148914691236517205))) / 4) 3689348814741910323)+(Go.bits .and .u64 (IntKind.u64.wrap ((Go.bits .and .u64 (a0 / 2) 6148914691236517205)+(Go.bits .and .u64 a0 6148914691236517205))) 3689348814741910323))) / 16)+(IntKind.u64.wrap ((Go.bits .and .u64 ((IntKind.u64.wrap ((Go.bits .and .u64 (a0 / 2) 6148914691236517205)+(Go.bits .and .u64 a0 6148914691236517205))) / 4) 3689348814741910323)+(Go.bits .and .u64 (IntKind.u64.wrap ((Go.bits .and .u64 (a0 / 2) 6148914691236517205)+(Go.bits .and .u64 a0 6148914691236517205))) 3689348814741910323))))) 1085102592571150095) / 256)))+((IntKind.u64.wrap ((Go.bits .and .u64 (IntKind.u64.wrap (((IntKind.u64.wrap ((Go.bits .and .u64 ((IntKind.u64.wrap ((Go.bits .and .u64 (a0 / 2) 6148914691236517205)+(Go.bits .and .u64 a0 6148914691236517205))) / 4) 3689348814741910323)+(Go.bits .and .u64 (IntKind.u64.wrap ((Go.bits .and .u64 (a0 / 2) 6148914691236517205)+(Go.bits .and .u64 a0 6148914691236517205))) 3689348814741910323))) / 16)+(IntKind.u64.wrap ((Go.bits .and .u64 ((IntKind.u64.wrap ((Go.bits .and .u64 (a0 / 2) 6148914691236517205)+(Go.bits .and .u64 a0 6148914691236517205))) / 4) 3689348814741910323)+(Go.bits .and .u64 (IntKind.u64.wrap ((Go.bits .and .u64 (a0 / 2) 6148914691236517205)+(Go.bits .and .u64 a0 6148914691236517205))) 3689348814741910323))))) 1085102592571150095)+((Go.bits .and .u64 (IntKind.u64.wrap (((IntKind.u64.wrap ((Go.bits .and .u64 ((IntKind.u64.wrap ((Go.bits .and .u64 (a0 / 2) 6148914691236517205)+(Go.bits .and .u64 a0 6148914691236517205))) / 4) 3689348814741910323)+(Go.bits .and .u64 (IntKind.u64.wrap ((Go.bits .and .u64 (a0 / 2) 6148914691236517205)+(Go.bits .and .u64 a0 6148914691236517205))) 3689348814741910323))) / 16)+(IntKind.u64.wrap ((Go.bits .and .u64 ((IntKind.u64.wrap ((Go.bits .and .u64 (a0 / 2) 6148914691236517205)+(Go.bits .and .u64 a0 6148914691236517205))) / 4) 3689348814741910323)+(Go.bits .and .u64 (IntKind.u64.wrap ((Go.bits .and .u64 (a0 / 2) 6148914691236517205)+(Go.bits .and .u64 a0 6148914691236517205))) 3689348814741910323))))) 1085102592571150095) / 256))) / 65536))) / 4294967296)))) 127))=some r:=h
 clear h;obtain rfl:=Option.some.inj H
 go_enter Tryd.func80,Tryd.ntmps80
 go_wp2
 go_ret
 exact⟨by first|rfl|(simp;done)|(simp[*];done),by repeat(first|exact Drawn0.refl _|apply Drawn0.step)⟩
def subset_Count.f(a0:Int):Option (Int):=(bits_OnesCount64.f a0).bind fun D=>(some D)
set_option maxHeartbeats 8000000 in
set_option maxRecDepth 100000 in
theorem subset_Count.calls(a0:Int)(r:Int)(w:World)(h:subset_Count.f a0=some r):
 Calls Tryd.prog 55 #[.int .u64 a0] w fun e w'=>e= .returned (.int .i64 r)∧Drawn0 w w':=by
 have H:((bits_OnesCount64.f a0).bind fun D=>(some D))=some r:=h;clear h;obtain⟨D,A2,H⟩:=bindO H
 (try dsimp only at H)
 obtain rfl:=Option.some.inj H
 go_enter Tryd.func55,Tryd.ntmps55
 go_wp2_with (first|((with_reducible refine gC 80 rfl ?_);refine cG (some 4) Tryd.func80 #[.int .u64 a0] ?_;(with_reducible refine(bits_OnesCount64.calls a0 D _ A2.out).mono ?_);rintro e w' ⟨rfl,⟨nd,rfl⟩⟩;refine⟨_,rfl,?_⟩))
 go_ret
 exact⟨by first|rfl|(simp;done)|(simp[*];done),by repeat(first|exact Drawn0.refl _|apply Drawn0.step)⟩
end Go.Proofs.YtkagobkedifhkaaDoor.Q
namespace Go.Proofs.YtkagobkedifhkaaDoor.Q
open Go.RowKit Go.Proofs.YtkagobkedifhkaaDoorW.PrintWords Go.Proofs.YtkagobkedifhkaaDoorW.PrintLast Go.Proofs.YtkagobkedifhkaaDoorW.PrintMore
attribute [local go_sem] max2_int min2_int max_two min_two max_three min_three max_four min_four
set_option linter.unusedVariables false
set_option linter.unusedSimpArgs false
attribute [local go_sem] Oper.semAt_some
def hasB(x:Int)(i:Nat):Bool:=subset_Has.f x (i:Int)==some true
theorem hasB_eq(x:Int)(i:Nat):subset_Has.f x (i:Int)=some (hasB x i):=by
 have: ∃v,subset_Has.f x (i:Int)=some v:=by
  unfold subset_Has.f;by_cases h:(i:Int)<64
  ·exact⟨_,by rw[if_pos za,if_pos h,if_pos za]⟩
  ·exact⟨_,by rw[if_pos za,if_neg h]⟩
 obtain⟨v,hv⟩:=this;unfold hasB;rw[hv]
 cases v<;>rfl
def leftL(x:Int)(i:Nat):List Nat:=(List.range i).filter fun b=> !hasB x b
theorem leftL_succ(x:Int)(i:Nat):leftL x (i+1)=if hasB x i=true then leftL x i else leftL x i++ [i]:=by
 unfold leftL;rw[List.range_succ,List.filter_append]
 cases h:hasB x i with
 |true=>rw[if_pos rfl,show List.filter (fun b=> !hasB x b) [i] = []from by simp[h],List.append_nil]
 |false=>rw[if_neg zc,show List.filter (fun b=> !hasB x b) [i] = [i]from by simp[h]]
theorem leftL_prefix(x:Int)(i:Nat): ∀d,leftL x i <+: leftL x (i+d)
 |0=>List.prefix_refl _
 |d+1=>by
  refine(leftL_prefix x i d).trans ?_;rw[show i+(d+1)=(i+d)+1 from rfl,leftL_succ]
  split
  ·exact List.prefix_refl _
  ·exact List.prefix_append _ _
theorem leftL_le(x:Int){i j:Nat}(h:i≤j):leftL x i <+: leftL x j:=by
 obtain⟨d,rfl⟩:=Nat.exists_eq_add_of_le h;exact leftL_prefix x i d
def orL(l:List Nat):Int:=l.foldl (fun(s:Int) (i:Nat)=>Go.bits .or .u64 s (shl .u64 1 (i:Int))) 0
theorem orL_snoc(l:List Nat)(a:Nat):orL (l++ [a])=Go.bits .or .u64 (orL l) (shl .u64 1 (a:Int)):=by unfold orL;rw[List.foldl_append];rfl
theorem grown_of_belowV{W W':World}(h:Below W.heap.size W W'):W.grownBy W' none:=⟨h.os,h.tape,h.output,h.size,fun k hk _=>h.block k hk⟩
theorem cell_as18{W W':World}{p:Addr}(h:W'.heap[p.block]? =W.heap[p.block]?):W'.cell? p=W.cell? p:=by simp[World.cell?,h]
theorem verdict_left.calls(a b x:Int)(A:Option Addr)(n c:Nat)(w:World):
 Calls Tryd.prog 53 #[.agg #[.int .i64 a,.int .i64 b,.slice A n c],.int .u64 x] w fun e w'=>
  e= .returned (.func (.func 76) #[] #[.pointer (some ⟨w.heap.size,0,none⟩),.pointer (some ⟨w.heap.size+1,0,none⟩)])∧
  w'=(w.alloc (.cells #[.int .i64 a,.int .i64 b,.slice A n c] 24)).alloc (.cells #[.int .u64 x] 26):=by
 have D:=Tryd.underlying24
 go_enter Tryd.func53,Tryd.ntmps53
 go_wp2
 go_ret
 exact⟨rfl,rfl⟩
set_option maxHeartbeats 4000000 in
set_option maxRecDepth 100000 in
theorem verdict_left1.calls(m l bg bx:Nat)(a x:Int)(ha:0≤a∧a≤64)(J Jx:List Nat→World→Prop)(B0:Nat)(hJ:AbidesFrom B0 J)
 (hY: ∀(pre:List Nat) (b:Nat) W,J pre W→pre.length<(leftL x a.toNat).length→YieldAt Fence.wide m Tryd.prog l #[.int .i64 b] W fun e W'=>
   (e= .returned (.bool true)∧J (pre++ [b]) W'∧W'.heap[bx]? =W.heap[bx]?)∨(e= .returned (.bool false)∧Jx (pre++ [b]) W'))
 (W:World) (cg:W.cell? ⟨bg,0,none⟩=some (.int .i64 a)) (cx:W.cell? ⟨bx,0,none⟩=some (.int .u64 x)) (h0:J [] W):
 CallsIn Fence.wide (m+1) Tryd.prog 76 #[.func (.yield l) #[] #[],.pointer (some ⟨bg,0,none⟩),.pointer (some ⟨bx,0,none⟩)] W fun e W'=>(∃v,e= .returned v)∧
  ((∃ys,ys=leftL x a.toNat∧J ys W')∨(∃pre,pre <+: leftL x a.toNat∧Jx pre W')):=by
 have L:=Tryd.underlying24;refine callsIn_of_wp Tryd.func76 rfl trivial ?_ rfl;simp only[Tryd.ntmps76,List.size_toArray,List.length_cons,List.length_nil,Nat.reduceAdd,Nat.reduceSub,Array.replicate_succ,Array.replicate_zero,List.push_toArray,List.append_toArray,List.nil_append,List.cons_append]
 gi_wp2
 gi_loopw [7] (fun p wr=> ∃i:Nat,p= .int .i64 (i:Int)∧(i:Int)≤a∧Aside0 (J (leftL x i) wr)∧wr.cell? ⟨bx,0,none⟩=some (.int .u64 x))
  (fun p _=>(a-intOf p).toNat)
 case atStart=>exact⟨0,rfl,ha.1,⟨h0⟩,cx⟩
 case round=>
  obtain⟨i,rfl,hi,hJs,hcx⟩:=hrel;clear h0 cx cg;by_cases hlt:(i:Int)<a
  ·have c1:decide ((i:Int)<a)=true:=decide_eq_true hlt;have hle:leftL x (i+1) <+: leftL x a.toNat:=leftL_le x za;have hw:wrap64 ((i:Int)+1)=((i+1:Nat):Int):=by unfold wrap64;omega
   have hsucc:=leftL_succ x i;have HH:=aK (hasB_eq x i)
   cases hb:hasB x i with
   |true=>
    rw[hb]at HH
    rw[if_pos hb]at hsucc
    gi_wp2_with (refine⟨trivial,?_⟩;gi_at_call 77;refine(callsIn_wide.2 (subset_Has.calls x (i:Int) true _ HH.out)).mono ?_;rintro e w1 ⟨rfl,⟨nd,rfl⟩⟩)
    refine⟨fun _ h=>(by cases h),?_⟩
    gi_wp2
    refine⟨⟨i+1,by simp,by omega,⟨?_⟩,by simpa using hcx⟩,by simp[intOf];omega⟩;rw[hsucc];exact hJ _ _ _ none hJs.out (grown_of_belowV (pw_below_drewN (Below.refl _ _) _)) (fun r e=>by cases e)
   |false=>
    rw[hb]at HH
    rw[if_neg (by rw[hb];decide)]at hsucc
    have hlen:(leftL x i).length<(leftL x a.toNat).length:=by
     have:=hle.length_le;rw[hsucc,List.length_append,List.length_singleton]at this
     omega
    have HY: ∀nd,YieldAt Fence.wide m Tryd.prog l #[.int .i64 i] (wr.drewN nd) fun e W'=>
     (e= .returned (.bool true)∧J (leftL x i++ [i]) W'∧W'.heap[bx]? =(wr.drewN nd).heap[bx]?)∨(e= .returned (.bool false)∧Jx (leftL x i++ [i]) W'):=fun nd=>
     hY _ i _ (hJ _ _ _ none hJs.out (grown_of_belowV (pw_below_drewN (Below.refl _ _) _)) (fun r e=>by cases e)) hlen
    gi_wp2_with (refine⟨trivial,?_⟩;gi_at_call 77;refine(callsIn_wide.2 (subset_Has.calls x (i:Int) false _ HH.out)).mono ?_;rintro e w1 ⟨rfl,⟨nd,rfl⟩⟩;obtain⟨fn,tmps,assign,body,hy,hR⟩:=HY nd;clear HY)
    refine hR.mono ?_;rintro e W3 (⟨rfl,G,I⟩|⟨rfl,D⟩)
    ·clear hR hy
     gi_wp2
     refine⟨⟨i+1,by simp,by omega,⟨by rw[hsucc];exact G⟩,(cell_as18 (p:=⟨bx,0,none⟩) I).trans (by simpa using hcx)⟩,by simp[intOf];omega⟩
    ·clear hR hy
     gi_wp2
     refine bodyPost_ret (results_none rfl _ _ _) rfl ?_;exact⟨⟨_,rfl⟩,.inr ⟨leftL x i++ [i],by rw[←hsucc];exact hle,D⟩⟩
  ·have c1:decide ((i:Int)<a)=false:=decide_eq_false hlt
   gi_wp2
   go_end0
   exact⟨⟨_,rfl⟩,.inl (by rw[show a.toNat=i from by omega];exact hJs.out)⟩
theorem verdict_left1.stops(m bg bx:Nat)(a x:Int)(ha:0≤a∧a≤64)(w:World)(cg:w.cell? ⟨bg,0,none⟩=some (.int .i64 a))(cx:w.cell? ⟨bx,0,none⟩=some (.int .u64 x)):
 SeqStopsK Fence.wide (m+1) Tryd.prog 76 #[.pointer (some ⟨bg,0,none⟩),.pointer (some ⟨bx,0,none⟩)] (fun b:Nat=> #[.int .i64 (b:Int)]) (fun W W'=>W'.heap[bx]? =W.heap[bx]?) (fun ys=>ys=leftL x a.toNat) (fun pre=>pre <+: leftL x a.toNat) (leftL x a.toNat).length w:=
 fun l J Jx W hW hJ _ hY h0=>verdict_left1.calls m l bg bx a x ha J Jx W.heap.size hJ hY W (pw_cell_below hW cg) (pw_cell_below hW cx) h0
attribute [local go_sem] Oper.semAt_some
def verdict_rec.f(k:Nat)(a b:Int)(l:List Int)(x:Int):Option (Int×Bool×Int):=
 (matrix_Right.f a b l).bind fun t=>if t=true∧1≤b∧b≤a then
   ((subset_Full.f a).bind fun p=>if p.2=0∧Go.bits .andNot .u64 x p.1=0 then
     ((matroid_Basis.f k a b l (orL (leftL x a.toNat))).bind fun q=>if q.2=0 then((subset_Count.f q.1).bind fun n=>if n<b then some (0,false,0)else some (q.1,true,0))else some (0,false,q.2))
   else some (0,false,2))
 else some (0,false,3)
theorem verdict_rec.mono(k:Nat)(a b:Int)(l:List Int)(x:Int):LeO (verdict_rec.f k a b l x) (verdict_rec.f (k+1) a b l x):=by
 unfold verdict_rec.f;refine LeO.bind (LeO.refl _) fun t=>?_
 split
 ·refine LeO.bind (LeO.refl _) fun p=>?_
  split
  ·exact LeO.bind (matroid_Basis.mono _ _ _ _ _) fun q=>LeO.refl _
  ·exact LeO.refl _
 ·exact LeO.refl _
theorem verdict_left.calls'(a b x:Int)(A:Option Addr)(n c:Nat)(w:World):
 Calls Tryd.prog 53 #[.agg #[.int .i64 a,.int .i64 b,.slice A n c],.int .u64 x] w fun e w'=>
  e= .returned (.func (.func 76) #[] #[.pointer (some ⟨w.heap.size,0,none⟩),.pointer (some ⟨w.heap.size+1,0,none⟩)])∧
  w'.heap[w.heap.size]? =some (.cells #[.int .i64 a,.int .i64 b,.slice A n c] 24 (0,0))∧Boxed w' (w.heap.size+1) 26 (.int .u64 x)∧w'.heap.size=w.heap.size+2∧Below w.heap.size w w':=by
 refine(verdict_left.calls a b x A n c w).mono ?_;rintro e w' ⟨rfl,rfl⟩;refine⟨rfl,(Below.heap_alloc _ _ _ zd).trans (World.alloc_heap_new w _),?_,by simp,((Below.refl _ w).alloc (Nat.le_refl _) _).alloc zd _⟩;have:=Boxed.new (w.alloc (.cells #[.int .i64 a,.int .i64 b,.slice A n c] 24)) 26 (.int .u64 x)
 rwa [World.size_alloc]at this
theorem right_rows{a b:Int}{l:List Int}(h:matrix_Right.f a b l=some true):0≤a∧a≤64:=by
 unfold matrix_Right.f matrix_side.f at h;by_cases h0:a≥0
 ·by_cases h1:a≤64
  ·exact⟨h0,h1⟩
  ·exfalso;rw[if_pos h0]at h
   simp[h1]at h
 ·exfalso;rw[if_neg h0]at h
  simp at h
def onlyN(Q:Exit→Act→World→Prop):Exit→Act→World→Prop
 | .normal,a,w=>Q .normal a w
 |_,_,_=>False
theorem onlyN_le{Q:Exit→Act→World→Prop} : ∀e a w,onlyN Q e a w→Q e a w:=fun e a w h=>by
 cases e<;>first|exact h|exact h.elim
theorem shl_spell(y:Nat):shl .u64 1 (y:Int)=IntKind.u64.wrap (2^min y 64):=by
 show IntKind.u64.wrap (1*2^min ((y:Int).toNat) 64)=_;rw[Int.one_mul,Int.toNat_natCast]
theorem round_end{W WB:World}{bs bx:Nat}{t:TypeId}{v v':Value}(hb:Boxed W bs t v)(hB:Below bs WB W)(hne:bx≠bs):
 KeepsOthers W (W.setCell ⟨bs,0,none⟩ v').drew∧(W.setCell ⟨bs,0,none⟩ v').drew.heap[bx]? =W.heap[bx]? ∧Boxed (W.setCell ⟨bs,0,none⟩ v').drew bs t v'∧Below bs WB (W.setCell ⟨bs,0,none⟩ v').drew:=
 ⟨(KeepsOthers.setCell _ _ _).trans (KeepsOthers.drew _),Below.heap_setCell W ⟨bs,0,none⟩ v' bx hne,hb.set v',below_drew1 (hB.setCell (p:=⟨bs,0,none⟩) (Nat.le_refl _) v')⟩
set_option maxHeartbeats 4000000 in
set_option maxRecDepth 100000 in
theorem verdict_recovered.goes(k:Nat)(a b:Int)(A:Option Addr)(c:Nat)(l:List Int)(x s:Int)(ok:Bool)(er:Int)(tf:Nat)(caps:Array Value)(w:World)(T:World→Int→World→Prop)(R:Ending→World→Prop)
 (hr:Kd.C (Kd.int .u8) w A l.length l) (hc:l.length≤c) (h:verdict_rec.f k a b l x=some (s,ok,er)) (hT:TabAt 0 Lib.deBruijn64tab w)
 (het: ∀args W,(callFunc tf args).run Tryd.prog W= .ok (.enter tf args) W)
 (hthen:ok=true→ ∀W,Below w.heap.size w W→Calls Tryd.prog tf (#[.int .u64 s]++caps) W fun e W'=> ∃I,e= .returned (.int .i64 I)∧T W I W'∧ ∀D:Nat,W.heap[D]? =some (.deferred (some []))→W'.heap[D]? =some (.deferred (some [])))
 (hno:ok=false→ ∀w',Below w.heap.size w w'→R (.returned (.tuple #[.bool false,.int .i64 er])) w')
 (hyes:ok=true→ ∀W I W2 D,Below w.heap.size w W→w.heap.size≤D→D<W.heap.size→T W I W2→W2.heap[D]? =some (.deferred (some []))→R (.returned (.tuple #[.bool (I==0),.int .i64 I])) (W2.putObj D (.deferred none))):
 Calls Tryd.prog 30 #[.agg #[.int .i64 a,.int .i64 b,.slice A l.length c],.int .u64 x,.func (.func tf) #[] caps] w R:=by
 have al:=Tryd.underlying24;have HR:=aK hr;have HC:=aK hc;have HT:=aK hT;have HTH:=aK hthen;have HNO:=aK hno;have HYES:=aK hyes;have HB:=aK (Below.refl w.heap.size w);clear hr hc hT hthen hno hyes;refine(callsIn_wide (n:=9)).1 ?_;refine callsIn_of_wp_marks Tryd.func30 rfl trivial ?_ rfl;simp only[Tryd.ntmps30,List.size_toArray,List.length_cons,List.length_nil,Nat.reduceAdd,Nat.reduceSub,Array.replicate_succ,Array.replicate_zero,List.push_toArray,List.append_toArray,List.nil_append,List.cons_append];have ab:(w.alloc (.cells #[.int .i64 a,.int .i64 b,.slice A l.length c] 24)).heap[w.heap.size]? =some (.cells #[.int .i64 a,.int .i64 b,.slice A l.length c] 24 (0,0)):=World.alloc_heap_new w _;have BK:=aK ab;obtain⟨hcx_0,hcx_1,hcx_2,hfx_0,hfx_1,hfx_2⟩:=cell3 BK;clear ab;unfold verdict_rec.f at h;obtain⟨t,hm,h⟩:=Option.bind_eq_some_iff.mp h;have HM:=aK hm;clear hm;by_cases hh:t=true∧1≤b∧b≤a
 case neg=>
  rw[if_neg hh]at h
  injection h with h;injection h with h1 h;injection h with h2 h3;subst h1 h2 h3
  cases t with
  |false=>
   clear hh
   gi_wp2_with (refine⟨trivial,?_⟩;gi_at_call 51;refine(callsIn_wide.2 (matrix_Right.calls a b A c l false _ (kcB HR HB) HC.out HM.out)).mono ?_;rintro e w1 ⟨rfl,hb⟩;replace BK:=aK (blk_below BK.out hb);replace HB:=hbB HB hb;clear hb;obtain⟨hcy_0,hcy_1,hcy_2,hfy_0,hfy_1,hfy_2⟩:=cell3 BK)
   refine⟨_,results_tmp2 rfl _ _ _,?_⟩;exact HNO.out zd _ (hbA HB.out)
  |true=>
   by_cases h1:b<1
   ·have c1:decide (b<1)=true:=decide_eq_true h1;clear hh
    gi_wp2_with (refine⟨trivial,?_⟩;gi_at_call 51;refine(callsIn_wide.2 (matrix_Right.calls a b A c l true _ (kcB HR HB) HC.out HM.out)).mono ?_;rintro e w1 ⟨rfl,hb⟩;replace BK:=aK (blk_below BK.out hb);replace HB:=hbB HB hb;clear hb;obtain⟨hcy_0,hcy_1,hcy_2,hfy_0,hfy_1,hfy_2⟩:=cell3 BK)
    refine⟨_,results_tmp2 rfl _ _ _,?_⟩;exact HNO.out zd _ (hbA HB.out)
   ·have c1:decide (b<1)=false:=decide_eq_false h1;have c2:decide (a<b)=true:=decide_eq_true (by have: ¬b≤a:=fun e=>hh ⟨rfl,by omega,e⟩;omega);clear hh
    gi_wp2_with (refine⟨trivial,?_⟩;gi_at_call 51;refine(callsIn_wide.2 (matrix_Right.calls a b A c l true _ (kcB HR HB) HC.out HM.out)).mono ?_;rintro e w1 ⟨rfl,hb⟩;replace BK:=aK (blk_below BK.out hb);replace HB:=hbB HB hb;clear hb;obtain⟨hcy_0,hcy_1,hcy_2,hfy_0,hfy_1,hfy_2⟩:=cell3 BK)
    refine⟨_,results_tmp2 rfl _ _ _,?_⟩;exact HNO.out zd _ (hbA HB.out)
 rw[if_pos hh]at h
 obtain⟨rfl,b1,ba⟩:=hh;have c1:decide (b<1)=false:=decide_eq_false za;have c2:decide (a<b)=false:=decide_eq_false za;obtain⟨⟨p1,p2⟩,hf,h⟩:=Option.bind_eq_some_iff.mp h;have HF:=aK hf;clear hf
 dsimp only at h
 by_cases hp:p2=0∧Go.bits .andNot .u64 x p1=0
 case neg=>
  rw[if_neg hp]at h
  injection h with h;injection h with h1 h;injection h with h2 h3;subst h1 h2 h3;by_cases hq:p2=0
  ·have c3:(p2 !=0)=false:=by simpa using hq
   have c4:(Go.bits .andNot .u64 x p1 !=0)=true:=bne_iff_ne.mpr fun e=>hp ⟨hq,e⟩;clear hp hq
   gi_wp2_with (first
    |(refine⟨trivial,?_⟩;gi_at_call 51;refine(callsIn_wide.2 (matrix_Right.calls a b A c l true _ (kcB HR HB) HC.out HM.out)).mono ?_;rintro e w1 ⟨rfl,hb⟩;replace BK:=aK (blk_below BK.out hb);replace HB:=hbB HB hb;clear hb;obtain⟨hcy_0,hcy_1,hcy_2,hfy_0,hfy_1,hfy_2⟩:=cell3 BK)
    |(refine⟨trivial,?_⟩;gi_at_call 52;refine(callsIn_wide.2 (subset_Full.calls a p1 p2 _ HF.out)).mono ?_;rintro e w2 ⟨rfl,⟨nd,rfl⟩⟩))
   refine⟨_,results_tmp2 rfl _ _ _,?_⟩;exact HNO.out zd _ (hbA HB.out)
  ·have c3:(p2 !=0)=true:=bne_iff_ne.mpr hq;clear hp hq
   gi_wp2_with (first
    |(refine⟨trivial,?_⟩;gi_at_call 51;refine(callsIn_wide.2 (matrix_Right.calls a b A c l true _ (kcB HR HB) HC.out HM.out)).mono ?_;rintro e w1 ⟨rfl,hb⟩;replace BK:=aK (blk_below BK.out hb);replace HB:=hbB HB hb;clear hb;obtain⟨hcy_0,hcy_1,hcy_2,hfy_0,hfy_1,hfy_2⟩:=cell3 BK)
    |(refine⟨trivial,?_⟩;gi_at_call 52;refine(callsIn_wide.2 (subset_Full.calls a p1 p2 _ HF.out)).mono ?_;rintro e w2 ⟨rfl,⟨nd,rfl⟩⟩))
   refine⟨_,results_tmp2 rfl _ _ _,?_⟩;exact HNO.out zd _ (hbA HB.out)
 rw[if_pos hp]at h
 have c3:(p2 !=0)=false:=by simpa using hp.1
 have c4:(Go.bits .andNot .u64 x p1 !=0)=false:=by simpa using hp.2
 clear hp;have H:=aK h;clear h
 gi_wp2_with (first
  |(refine⟨trivial,?_⟩;gi_at_call 51;refine(callsIn_wide.2 (matrix_Right.calls a b A c l true _ (kcB HR HB) HC.out HM.out)).mono ?_;rintro e w1 ⟨rfl,hb⟩;replace BK:=aK (blk_below BK.out hb);replace HB:=hbB HB hb;clear hb;obtain⟨hcy_0,hcy_1,hcy_2,hfy_0,hfy_1,hfy_2⟩:=cell3 BK)
  |(refine⟨trivial,?_⟩;gi_at_call 52;refine(callsIn_wide.2 (subset_Full.calls a p1 p2 _ HF.out)).mono ?_;rintro e w2 ⟨rfl,⟨nd,rfl⟩⟩;have ai:=aK (bkA BK.out:((w1.drewN nd).alloc (.cells #[.int .u64 0] 26)).heap[w.heap.size]? =some (.cells #[.int .i64 a,.int .i64 b,.slice A l.length c] 24 (0,0)));obtain⟨hcz_0,hcz_1,hcz_2,hfz_0,hfz_1,hfz_2⟩:=cell3 ai)
  |(refine⟨trivial,?_⟩;gi_at_call 53;refine(callsIn_wide.2 (verdict_left.calls' a b x A l.length c _)).mono ?_;rintro e w3 ⟨rfl,hbg,hbx,ah,Z⟩))
 have hsA:w3.heap.size=w1.heap.size+3:=by rw[ah];simp
 have ac:Below w1.heap.size (w1.drewN nd) w3:=by
  have:=(Below.refl w1.heap.size (w1.drewN nd)).alloc zd (.cells #[.int .u64 0] 26);exact this.trans (Z.mono zd)
 have ag:Boxed w3 w1.heap.size 26 (.int .u64 (orL [])):=by
  have:=Boxed.new (w1.drewN nd) 26 (.int .u64 0);rw[show(w1.drewN nd).heap.size=w1.heap.size from by simp]at this
  exact(Z.block _ zd).trans this
 have hcg:=blk_cell hbg 0;have hcx:=hbx.cell;have hbgs:((w1.drewN nd).alloc (.cells #[.int .u64 0] 26)).heap.size=w1.heap.size+1:=by simp
 rw[hbgs]at hbx hcx hcg hbg
 have hle:w.heap.size<w1.heap.size:=(Array.getElem?_eq_some_iff.1 BK.out).1;have ha:0≤a∧a≤64:=right_rows HM.out;clear hcx_0 hcx_1 hcx_2 hfx_0 hfx_1 hfx_2 hcy_0 hcy_1 hcy_2 hfy_0 hfy_1 hfy_2 hcz_0 hcz_1 hcz_2 hfz_0 hfz_1 hfz_2
 refine wpIn_rangeFunc_ownF rfl zc (gf:=76) (lb:= #[.pointer (some ⟨w1.heap.size+1,0,none⟩),.pointer (some ⟨w1.heap.size+2,0,none⟩)]) (by simp[go_sem]) trivial (enters_of Tryd.func76 zb rfl)
  (verdict_left1.stops 7 (w1.heap.size+1) (w1.heap.size+2) a x ha w3 hcg hcx) (fun h k=>k.trans h) (fun W l o o' hl _ _ _=>World.putObj_heap_other za) (Below.refl _ _) (fun _=>rfl)
  (fun pre W=>Boxed W w1.heap.size 26 (.int .u64 (orL pre))∧Below w1.heap.size (w1.drewN nd) W)
  (fun _ _ _=>False)
  ?own ?ownx ?start ?a1 ?assign ?body ?done ?stop
 case own=>
  rintro pre V V' row ⟨h1,h2⟩ hg hr;exact⟨boxed_own w1.heap.size 26 (fun _:Unit=>_) () V V' row h1 hg (fun r e=>(hr r e).2),ownFrom_below zd za () V V' row h2 hg hr⟩
 case ownx=>exact fun _ _ _ _ _ hs _ _=>hs
 case start=>exact⟨ag,ac⟩
 case assign=>
  intro lo y W K hK
  gi_wp2
  exact hK
 case body=>
  rintro lo pre y W ⟨hbs,hBW⟩ _;have cs:=hbs.cell;have fs:=hbs.frozen;have am: ¬((y:Int)<0):=by omega
  have an:(0:Int)≤(y:Int):=by omega
  gi_wp2
  gi_region
  all_goals gi_wp2
  all_goals
   have hend:=round_end (v':= .int .u64 (orL (pre++ [y]))) hbs hBW (show w1.heap.size+2≠w1.heap.size by omega);rw[orL_snoc,shl_spell]at hend
   exact⟨hend.1,hend.2.1,by show Boxed _ _ _ (.int .u64 (orL (pre++ [y])))∧Below w1.heap.size (w1.drewN nd) _;rw[orL_snoc,shl_spell];exact hend.2.2⟩
 case stop=>
  rintro D c pre W _ _ h _;exact h.elim
 case done=>
  rintro D ys W hD rfl ⟨hbs,hBW⟩ hK;have hBWw:Below w.heap.size w W:=(hbA HB.out:Below w.heap.size w (w1.drewN nd)).trans (hBW.mono za);have U:W.heap[w.heap.size]? =some (.cells #[.int .i64 a,.int .i64 b,.slice A l.length c] 24 (0,0)):=(hBW.block _ (by simpa using hle)).trans BK.out;have BKW:=aK U;have HBW:=aK hBWw;have KD:=aK hK;obtain⟨hcx_0,hcx_1,hcx_2,hfx_0,hfx_1,hfx_2⟩:=cell3 BKW;have hcs:=hbs.cell;clear hbs hBW hBWw U hK hbg hbx hcg hcx ac ag Z;have h:=H.out;obtain⟨⟨q1,q2⟩,hq,h⟩:=Option.bind_eq_some_iff.mp h;have HQ:=aK hq;clear hq H
  dsimp only at h
  have hDw:D<W.heap.size:=(Array.getElem?_eq_some_iff.1 KD.out).1;by_cases L:q2=0
  case neg=>
   rw[if_neg L]at h
   injection h with h;injection h with h1 h;injection h with h2 h3;subst h1 h2 h3;have c5:(q2 !=0)=true:=bne_iff_ne.mpr L;clear L
   gi_wp2_with (refine⟨trivial,?_⟩;gi_at_call 54;refine(callsIn_wide.2 (matroid_Basis.calls k a b A c l (orL (leftL x a.toNat)) q1 q2 _ (kcB HR HBW) HC.out HQ.out (tab_below HT.out HBW.out))).mono ?_;rintro e w5 ⟨rfl,G⟩;replace BKW:=aK (blk_below BKW.out G);replace HBW:=hbB HBW G;have J:=aK ((G.block _ hDw).trans KD.out);clear G;obtain⟨hcy_0,hcy_1,hcy_2,hfy_0,hfy_1,hfy_2⟩:=cell3 BKW)
   refine wpIn_wide.2 (Code.wp_mono onlyN_le ?_);refine start_ (n:=9) (S:=fun w'=>True) (ds:= []) (mB 9 0) zb rfl rfl trivial (fun hHeld=>?_);refine zpu 0 (some 57) (mB 9 1) ?_;refine zpu 1 (some 58) (mB 9 3) ?_;refine zpu 2 (some 59) (mB 9 7) ?_;refine zpn 3 (some 60) (mB 9 15) ?_;refine zpn 4 (some 61) (mB 9 31) ?_;refine zpn 5 (some 62) (mB 9 63) ?_;refine zpn 6 (some 63) (mB 9 127) ?_;refine zpn 7 (some 64) (mB 9 255) ?_;refine zpu 8 (some 65) (mB 9 511) ?_;refine done_ zb ?_;simp only[onlyN]
   gi_wp2
   refine⟨by simp,.inl ⟨_,_,rfl,run_takeDeferred J.out,?_⟩⟩;refine⟨_,results_tmp2 rfl _ _ _,?_⟩;exact HNO.out zd _ ((below_drew1 HBW.out).trans (belowK_b (w:=w) (Nat.le_refl _) _ D _ _ za J.out rfl rfl))
  rw[if_pos L]at h
  subst L;obtain⟨n,hn,h⟩:=Option.bind_eq_some_iff.mp h;have HN:=aK hn;clear hn;have c5:((0:Int)!=0)=false:=by decide
  by_cases hnb:n<b
  ·rw[if_pos hnb]at h
   injection h with h;injection h with h1 h;injection h with h2 h3;subst h1 h2 h3;have c6:decide (n<b)=true:=decide_eq_true hnb;clear hnb
   gi_wp2_with (refine⟨trivial,?_⟩;gi_at_call 54;refine(callsIn_wide.2 (matroid_Basis.calls k a b A c l (orL (leftL x a.toNat)) q1 0 _ (kcB HR HBW) HC.out HQ.out (tab_below HT.out HBW.out))).mono ?_;rintro e w5 ⟨rfl,G⟩;replace BKW:=aK (blk_below BKW.out G);replace HBW:=hbB HBW G;have J:=aK ((G.block _ hDw).trans KD.out);clear G;obtain⟨hcy_0,hcy_1,hcy_2,hfy_0,hfy_1,hfy_2⟩:=cell3 BKW)
   refine wpIn_wide.2 (Code.wp_mono onlyN_le ?_);refine start_ (n:=9) (S:=fun w'=>w'.cell? ⟨w.heap.size,1,none⟩=some (.int .i64 b)) (ds:= []) (mB 9 0) zb rfl rfl (hcy_1) (fun hHeld=>?_);refine zpu 0 (some 57) (mB 9 1) ?_;refine zpu 1 (some 58) (mB 9 3) ?_;refine zpu 2 (some 59) (mB 9 7) ?_;refine zpu 3 (some 60) (mB 9 15) ?_;refine zpu 5 (some 62) (mB 9 47) ?_;refine ztk1 6 (some 63) (mB 9 111) hHeld ?_;refine zon 4 (some 61) (mB 9 127) fun K hK=>?_;refine goes_ Tryd.func55 zb rfl #[.int .u64 q1] ze rfl rfl zg ?_;with_reducible refine(subset_Count.calls q1 n _ HN.out).mono ?_
   rintro e w6 ⟨rfl,⟨O,rfl⟩⟩;refine⟨_,rfl,?_⟩;refine hK.out _ _ ((by simpa using hHeld)) (fun hHeld=>?_);clear hK K;refine znm (some 61) ?_;refine zpu 7 (some 64) (mB 9 255) ?_;refine zpu 8 (some 65) (mB 9 511) ?_;refine done_ zb ?_;simp only[onlyN]
   gi_wp2
   have aa:(w5.drew.drewN O).heap[D]? =some (.deferred (some [])):=J.out;refine⟨by simp,.inl ⟨_,_,rfl,run_takeDeferred aa,?_⟩⟩;refine⟨_,results_tmp2 rfl _ _ _,?_⟩;exact HNO.out zd _ ((pw_below_drewN (below_drew1 HBW.out) _).trans (belowK_b (w:=w) (Nat.le_refl _) _ D _ _ za aa rfl rfl))
  ·rw[if_neg hnb]at h
   injection h with h;injection h with h1 h;injection h with h2 h3;subst h1 h2 h3;have c6:decide (n<b)=false:=decide_eq_false hnb;clear hnb
   gi_wp2_with (refine⟨trivial,?_⟩;gi_at_call 54;refine(callsIn_wide.2 (matroid_Basis.calls k a b A c l (orL (leftL x a.toNat)) q1 0 _ (kcB HR HBW) HC.out HQ.out (tab_below HT.out HBW.out))).mono ?_;rintro e w5 ⟨rfl,G⟩;replace BKW:=aK (blk_below BKW.out G);replace HBW:=hbB HBW G;have J:=aK ((G.block _ hDw).trans KD.out);clear G;obtain⟨hcy_0,hcy_1,hcy_2,hfy_0,hfy_1,hfy_2⟩:=cell3 BKW)
   refine wpIn_wide.2 (Code.wp_mono onlyN_le ?_);refine start_ (n:=9) (S:=fun w'=>w'.cell? ⟨w.heap.size,1,none⟩=some (.int .i64 b)) (ds:= []) (mB 9 0) zb rfl rfl (hcy_1) (fun hHeld=>?_);refine zpu 0 (some 57) (mB 9 1) ?_;refine zpu 1 (some 58) (mB 9 3) ?_;refine zpu 2 (some 59) (mB 9 7) ?_;refine zpu 3 (some 60) (mB 9 15) ?_;refine zpu 5 (some 62) (mB 9 47) ?_;refine ztk1 6 (some 63) (mB 9 111) hHeld ?_;refine zon 4 (some 61) (mB 9 127) fun K hK=>?_;refine goes_ Tryd.func55 zb rfl #[.int .u64 q1] ze rfl rfl zg ?_;with_reducible refine(subset_Count.calls q1 n _ HN.out).mono ?_
   rintro e w6 ⟨rfl,⟨O,rfl⟩⟩;refine⟨_,rfl,?_⟩;refine hK.out _ _ ((by simpa using hHeld)) (fun hHeld=>?_);clear hK K;refine znm (some 61) ?_;refine zpu 7 (some 64) (mB 9 255) ?_;refine zpu 8 (some 65) (mB 9 511) ?_;refine done_ zb ?_;simp only[onlyN]
   gi_wp2
   refine⟨trivial,?_⟩;refine(callsIn_wide.2 (HTH.out zd (w5.drewN (1+O)) (pw_below_drewN HBW.out _))).mono ?_;rintro e w9 ⟨I,rfl,ak,af⟩;have Y:=aK (af D J.out);clear af;have hBD:Below w.heap.size w (w5.drewN (1+O)):=pw_below_drewN HBW.out _;have aj:D<(w5.drewN (1+O)).heap.size:=(Array.getElem?_eq_some_iff.1 J.out).1;have ae:w.heap.size≤D:=by omega
   have X:=HYES.out zd _ I w9 D hBD ae aj ak Y.out;by_cases h0:I=0
   ·subst h0
    gi_wp2
    refine⟨by simp,.inl ⟨_,_,rfl,run_takeDeferred Y.out,?_⟩⟩;refine⟨_,results_tmp2 rfl _ _ _,?_⟩;exact X
   ·have c8:(I !=0)=true:=bne_iff_ne.mpr h0;have c9:(I==0)=false:=by simpa using h0
    rw[c9]at X
    gi_wp2
    refine⟨by simp,.inl ⟨_,_,rfl,run_takeDeferred Y.out,?_⟩⟩;refine⟨_,results_tmp2 rfl _ _ _,?_⟩;exact X
def verdict_Recovers.f(k:Nat)(D:Int)(G:Int)(I:List Int)(a1:Int):Option (Bool×Int):=(verdict_rec.f k D G I a1).bind fun p=>some (p.2.1,if p.2.1=true then 0 else p.2.2)
theorem verdict_Recovers.mono: ∀a0 a1 a2 a3 k,LeO (verdict_Recovers.f k a0 a1 a2 a3) (verdict_Recovers.f (k+1) a0 a1 a2 a3):=fun a0 a1 a2 a3 k=>LeO.bind (verdict_rec.mono k a0 a1 a2 a3) fun _=>LeO.refl _
theorem verdict_fn31.calls(x:Int)(w:World):Calls Tryd.prog 31 #[.int .u64 x] w fun e w'=>e= .returned (.int .i64 0)∧w'=w:=by
 go_enter Tryd.func31,Tryd.ntmps31
 go_wp2
 go_ret
 exact⟨rfl,rfl⟩
theorem below_mark{w W:World}{D:Nat}(hB:Below w.heap.size w W)(hD:w.heap.size≤D)(hK:W.heap[D]? =some (.deferred (some []))):Below w.heap.size w (W.putObj D (.deferred none)):=
 hB.trans (belowK_b (w:=w) (Nat.le_refl _) W D _ _ hD hK rfl rfl)
theorem verdict_recovered31.calls(k:Nat)(a b:Int)(A:Option Addr)(c:Nat)(l:List Int)(x:Int)(r1:Bool)(r2:Int)(w:World)
 (hr:Kd.C (Kd.int .u8) w A l.length l) (hc:l.length≤c) (h:verdict_Recovers.f k a b l x=some (r1,r2)) (hT:TabAt 0 Lib.deBruijn64tab w):
 Calls Tryd.prog 30 #[.agg #[.int .i64 a,.int .i64 b,.slice A l.length c],.int .u64 x,.func (.func 31) #[] #[]] w fun e w'=>
  e= .returned (.tuple #[.bool r1,.int .i64 r2])∧Below w.heap.size w w':=by
 unfold verdict_Recovers.f at h;obtain⟨⟨s,ok,er⟩,h1,h2⟩:=Option.bind_eq_some_iff.mp h;injection h2 with h2;injection h2 with e1 e2;refine verdict_recovered.goes k a b A c l x s ok er 31 #[] w (fun W G W2=>G=0∧W2=W) _ hr hc h1 hT (enters_of Tryd.func31 zb rfl) (fun _ W _=>?_) (fun hok w' hB=>?_) (fun hok W G W2 D hB I L J hK=>?_)
 ·refine(verdict_fn31.calls s W).mono ?_;rintro e W' ⟨rfl,rfl⟩;exact⟨0,rfl,⟨rfl,rfl⟩,fun _ h=>h⟩
 ·rw[←e1,←e2,hok];exact⟨rfl,hB⟩
 ·obtain⟨rfl,rfl⟩:=J;rw[←e1,←e2,hok];exact⟨rfl,below_mark hB I hK⟩
set_option maxHeartbeats 4000000 in
set_option maxRecDepth 100000 in
theorem verdict_Recovers.calls(k:Nat)(I:Int)(J:Int)(G:Option Addr)(L:Nat)(D:List Int)(a1:Int)(r1:Bool)(r2:Int)(w:World)(U:Kd.C (Kd.int .u8) w G D.length D)(O:D.length≤L)(h:verdict_Recovers.f k I J D a1=some (r1,r2))(hT:TabAt 0 Lib.deBruijn64tab w):
 Calls Tryd.prog 9 #[.agg #[.int .i64 I,.int .i64 J,.slice G D.length L],.int .u64 a1] w fun e w'=>e= .returned (.tuple #[.bool r1,.int .i64 r2])∧Below w.heap.size w w':=by
 have X:=Tryd.underlying24;have HR:=aK U;have HC:=aK O;have HT:=aK hT;have HH:=aK h;have HB:=aK (Below.refl w.heap.size w);clear U O hT h;have BK:=aK (World.alloc_heap_new w (.cells #[.int .i64 I,.int .i64 J,.slice G D.length L] 24));obtain⟨hcx_0,hcx_1,hcx_2,hfx_0,hfx_1,hfx_2⟩:=cell3 BK
 go_enter Tryd.func9,Tryd.ntmps9
 go_wp2_with (go_at_call 30;refine(verdict_recovered31.calls k I J G L D a1 r1 r2 _ (kcB HR HB) HC.out HH.out (tab_below HT.out (hbA HB.out))).mono ?_;rintro e w1 ⟨rfl,hb⟩;replace HB:=hbB HB hb;clear hb)
 go_ret2
 exact⟨rfl,hbA HB.out⟩
end Go.Proofs.YtkagobkedifhkaaDoor.Q
namespace Go.Proofs.YtkagobkedifhkaaDoor.Q
open Go.RowKit Go.Proofs.YtkagobkedifhkaaDoorW.PrintWords Go.Proofs.YtkagobkedifhkaaDoorW.PrintLast Go.Proofs.YtkagobkedifhkaaDoorW.PrintMore
attribute [local go_sem] max2_int min2_int max_two min_two max_three min_three max_four min_four
set_option linter.unusedVariables false
set_option linter.unusedSimpArgs false
def gauss_Inverse.st(a:Int)(l:List Int):(List (List Int)×List (List Int))×List Int:=redTo (rowsOf a.toNat a.toNat l) (unitsTo a.toNat a.toNat) a.toNat
def gauss_Inverse.f(a b:Int)(l:List Int):Option (Int×Int×List Int×Int):=
 (matrix_Right.f a b l).bind fun t=>if t=true then(if a=b then(if bytesB l=true then(if((gauss_Inverse.st a l).2.length:Int)<a then some (0,0,[],6)else some (a,a,(gauss_Inverse.st a l).1.2.flatten,0))else none)else some (0,0,[],3))else some (0,0,[],3)
set_option maxHeartbeats 4000000 in
set_option maxRecDepth 100000 in
theorem gauss_Inverse.calls(J:Int)(L:Int)(G:Option Addr)(I:Nat)(D:List Int)(r1:Int)(r2:Int)(r3:List Int)(r4:Int)(w:World)(ak:Kd.C (Kd.int .u8) w G D.length D)(ah:D.length≤I)(h:gauss_Inverse.f J L D=some (r1,r2,r3,r4)):
 Calls Tryd.prog 63 #[.agg #[.int .i64 J,.int .i64 L,.slice G D.length I]] w fun e w'=> ∃v2_:Value,e= .returned (.tuple #[.agg #[.int .i64 r1,.int .i64 r2,v2_],.int .i64 r4])∧Kd.V (Kd.int .u8) 5 w' w.heap.size (fun k_=>(w.heap.size≤k_)) v2_ r3∧Below w.heap.size w w':=by
 have bq:=Tryd.underlying24;have HR:=aK ak;have HC:=aK ah;clear ak ah;unfold gauss_Inverse.f at h;obtain⟨t,hm,h⟩:=Option.bind_eq_some_iff.mp h;have HM:=aK hm
 cases t with
 |false=>
  simp only[Bool.false_eq_true,if_false,Option.some.injEq,Prod.mk.injEq]at h;obtain⟨rfl,rfl,rfl,rfl⟩:=h;clear hm
  go_enter Tryd.func63,Tryd.ntmps63
  go_upto_region 1 with(fail)
  have ab:=below_alloc (below_alloc (Below.refl w.heap.size w) (.cells #[.int .i64 J,.int .i64 L,.slice G D.length I] 24)) (.cells #[.int .i64 0,.int .i64 0,.slice none 0 0] 24);have hbm:=heap_alloc2_old w (.cells #[.int .i64 J,.int .i64 L,.slice G D.length I] 24) (.cells #[.int .i64 0,.int .i64 0,.slice none 0 0] 24);have hbr:=blk_new (w.alloc (.cells #[.int .i64 J,.int .i64 L,.slice G D.length I] 24)) (.cells #[.int .i64 0,.int .i64 0,.slice none 0 0] 24);rw[World.size_alloc]at hbr
  have aa:=aK ab;clear ab;generalize(w.alloc (.cells #[.int .i64 J,.int .i64 L,.slice G D.length I] 24)).alloc (.cells #[.int .i64 0,.int .i64 0,.slice none 0 0] 24)=w2 at*;have x0:w2.cell? ⟨w.heap.size,0,none⟩=some (.int .i64 J):=(blk_cell hbm 0).trans rfl;have x1:w2.cell? ⟨w.heap.size,1,none⟩=some (.int .i64 L):=(blk_cell hbm 1).trans rfl;have x2:w2.cell? ⟨w.heap.size,2,none⟩=some (.slice G D.length I):=(blk_cell hbm 2).trans rfl
  go_wp2_with fail
  refine(matrix_Right.calls J L G I D false _ (Kd.C_below HR.out aa.out) HC.out HM.out).mono ?_;rintro e w3 ⟨rfl,X⟩;have O:=(X.block _ (lt_of_get hbr)).trans hbr;have U:=(X.block _ (lt_of_get hbm)).trans hbm;have af:=aK (below_step aa.out X);clear x0 x1 x2 hbr hbm X;have x0:w3.cell? ⟨w.heap.size,0,none⟩=some (.int .i64 J):=(blk_cell U 0).trans rfl;have x1:w3.cell? ⟨w.heap.size,1,none⟩=some (.int .i64 L):=(blk_cell U 1).trans rfl;have x2:w3.cell? ⟨w.heap.size,2,none⟩=some (.slice G D.length I):=(blk_cell U 2).trans rfl;have y0:w3.cell? ⟨w.heap.size+1,0,none⟩=some (.int .i64 0):=(blk_cell O 0).trans rfl;have y1:w3.cell? ⟨w.heap.size+1,1,none⟩=some (.int .i64 0):=(blk_cell O 1).trans rfl;have y2:w3.cell? ⟨w.heap.size+1,2,none⟩=some (.slice none 0 0):=(blk_cell O 2).trans rfl;have f0:=blk_frozen O 0;have f1:=blk_frozen O 1;have f2:=blk_frozen O 2;clear x0 x1 x2 U
  go_wp2_with fail
  refine bodyPost_ret (results_ct rfl _ _ (w.heap.size+1) 24 #[.int .i64 0,.int .i64 0,.slice none 0 0] (0,0) _ rfl (blk_put (cs:= #[.int .i64 0,.int .i64 0,.slice none 0 0]) (blk_put (cs:= #[.int .i64 0,.int .i64 0,.slice none 0 0]) (blk_put (cs:= #[.int .i64 0,.int .i64 0,.slice none 0 0]) O 0 _ rfl) 1 _ rfl) 2 _ rfl) Tryd.underlying24 rfl zb) rfl ?_;refine⟨_,rfl,Kd.V_nil _ _ _ _ _,?_⟩;exact((af.out.setCell zf _).setCell zf _).setCell zf _
 |true=>
  have hrt:=right_true hm;rw[if_pos rfl]at h
  by_cases hab:J=L
  ·subst hab;rw[if_pos rfl]at h
   by_cases hb:bytesB D=true
   ·rw[if_pos hb]at h
    obtain⟨e0,e1,_,_,hl⟩:=hrt;obtain⟨n,rfl⟩:=Int.eq_ofNat_of_zero_le e0;rw[Int.toNat_natCast]at hl
    have hn:n≤64:=by omega
    have HS:=aK (shp_unit hb hl hn);have HST:=aK (show gauss_Inverse.st (n:Int) D=redTo (rowsOf n n D) (unitsTo n n) n from rfl);have HL:=aK hl;generalize gauss_Inverse.st (n:Int) D=st at*;obtain⟨F,hF⟩: ∃F,F=st.1.2.flatten:=⟨_,rfl⟩
    rw[←hF]at h
    have HF:=aK hF;have HRES:=aK h;clear hF hb hm hl e0 e1 h
    go_enter Tryd.func63,Tryd.ntmps63
    go_upto_region 1 with(fail)
    have ab:=below_alloc (below_alloc (Below.refl w.heap.size w) (.cells #[.int .i64 (n:Int),.int .i64 (n:Int),.slice G D.length I] 24)) (.cells #[.int .i64 0,.int .i64 0,.slice none 0 0] 24);have hbm:=heap_alloc2_old w (.cells #[.int .i64 (n:Int),.int .i64 (n:Int),.slice G D.length I] 24) (.cells #[.int .i64 0,.int .i64 0,.slice none 0 0] 24);have hbr:=blk_new (w.alloc (.cells #[.int .i64 (n:Int),.int .i64 (n:Int),.slice G D.length I] 24)) (.cells #[.int .i64 0,.int .i64 0,.slice none 0 0] 24);rw[World.size_alloc]at hbr
    have aa:=aK ab;clear ab;generalize(w.alloc (.cells #[.int .i64 (n:Int),.int .i64 (n:Int),.slice G D.length I] 24)).alloc (.cells #[.int .i64 0,.int .i64 0,.slice none 0 0] 24)=w2 at*;have x0:w2.cell? ⟨w.heap.size,0,none⟩=some (.int .i64 (n:Int)):=(blk_cell hbm 0).trans rfl;have x1:w2.cell? ⟨w.heap.size,1,none⟩=some (.int .i64 (n:Int)):=(blk_cell hbm 1).trans rfl;have x2:w2.cell? ⟨w.heap.size,2,none⟩=some (.slice G D.length I):=(blk_cell hbm 2).trans rfl
    go_wp2_with fail
    refine(matrix_Right.calls (n:Int) (n:Int) G I D true _ (Kd.C_below HR.out aa.out) HC.out HM.out).mono ?_;rintro e w3 ⟨rfl,X⟩;have O:=(X.block _ (lt_of_get hbr)).trans hbr;have U:=(X.block _ (lt_of_get hbm)).trans hbm;have af:=aK (below_step aa.out X);clear x0 x1 x2 hbr hbm X;have x0:w3.cell? ⟨w.heap.size,0,none⟩=some (.int .i64 (n:Int)):=(blk_cell U 0).trans rfl;have x1:w3.cell? ⟨w.heap.size,1,none⟩=some (.int .i64 (n:Int)):=(blk_cell U 1).trans rfl;have x2:w3.cell? ⟨w.heap.size,2,none⟩=some (.slice G D.length I):=(blk_cell U 2).trans rfl
    go_wp2_with fail
    refine(gauss_of.calls n n G I D w3 (Kd.C_below HR.out af.out) HC.out HL.out ⟨hn,hn⟩).mono ?_;rintro e w4 ⟨R,rfl,hq⟩;obtain⟨g,d,cl,cd,Al,Ad,hH,al,hg,hd,hRw,bu,bt,hcl,hcd,cR,hRf⟩:=hq.out;have a9:=(al.block _ (lt_of_get O)).trans O;have a5:=(al.block _ (lt_of_get U)).trans U;rw[←unitsTo_zero]at hH
    have HH:=aK hH;have ap:=aK (below_step af.out al);have bo:=lt_of_get O;have bm:=lt_of_get U;have y1:w4.cell? ⟨R,1,none⟩=some (.slice Ad n cd):=by have:=HH.out.also;rwa [unitsTo_length]at this
    clear hq hH al O U x0 x1 x2
    go_wp2_with fail
    clear y1
    go_loopg [24] n (fun kq bk wr=> ∃(i:Nat),bk= .int .i64 i∧i≤n∧Aside0 (kq+i=n)∧Aside0 (Hold wr R g d cl cd Al Ad (rowsOf n n D) (unitsTo n i) n∧Chg w4 wr (two g d)))
    case atStart=>exact⟨0,rfl,Nat.zero_le _,⟨by omega⟩,⟨HH.out,Chg.refl _ _⟩⟩
    case round=>
     obtain⟨i,rfl,hi,HK,HO⟩:=hrel;have a7:=ap.out.size;have ag:=(HO.out.2.block _ (lt_of_get a5) (fun e=>by rcases e with e|e<;>omega)).trans a5;have av:=(HO.out.2.block _ (lt_of_get a9) (fun e=>by rcases e with e|e<;>omega)).trans a9;have br:=HO.out.2.size;by_cases hlt:i<n
     ·have tst:decide ((i:Int)<(n:Int))=true:=by simpa using hlt
      go_wp2_with fail
      have hAd:=HO.out.1.hD (by rw[unitsTo_length];omega);subst hAd;have z1:wr.cell? ⟨R,1,none⟩=some (.slice (some ⟨d,0,none⟩) n cd):=by have:=HO.out.1.also;rwa [unitsTo_length]at this
      have z2:wr.cell? ⟨w.heap.size,1,none⟩=some (.int .i64 n):=(blk_cell ag 1).trans rfl;obtain⟨bl,az,hd0r⟩:=HO.out.1.LD.row i zag;have hdf:=HO.out.1.LD.frz i zag;have a8:=HO.out.1.ne3;have hRl:=HO.out.1.small;have hdl:=HO.out.1.LD.lt (by rw[unitsTo_length];omega);clear hd0r av;refine start_ (n:=10) (S:=fun w'=>w'.cell? ⟨R,1,none⟩=some (.slice (some ⟨d,0,none⟩) n cd)∧w'.cell? ⟨w.heap.size,1,none⟩=some (.int .i64 n)) (ds:= [9]) (mB 10 0) zb rfl rfl ⟨z1,z2⟩ (fun hHeld=>?_);have ac:=aK (show Hold wr.drew R g d cl cd Al (some ⟨d,0,none⟩) (rowsOf n n D) (unitsTo n i) n∧Chg w4 wr.drew (two g d)from⟨HO.out.1.below (below_drew (Below.refl _ _)),HO.out.2.trans (Chg.below_all (below_drew (Below.refl _ _)) _)⟩);have ai:wr.drew.heap[w.heap.size]? =some (.cells #[.int .i64 n,.int .i64 n,.slice G D.length I] 24 (0,0)):=ag;have a0:wr.drew.cell? ⟨d,i,none⟩=some bl:=az;have ao:wr.drew.frozen? ⟨d,i,none⟩=false:=hdf;have ba:wr.drew.heap.size=wr.heap.size:=rfl;clear HO ag z1 z2 az hdf;generalize wr.drew=w5 at*;refine zpu 0 (some 27) (mB 10 1) ?_;refine zpu 1 (some 28) (mB 10 3) ?_;refine zpu 2 (some 29) (mB 10 7) ?_;refine zpu 4 (some 31) (mB 10 23) ?_;refine zpu 5 (some 32) (mB 10 55) ?_;refine ztk2 3 (some 30) (mB 10 63) hHeld ?_;refine ztk2 6 (some 33) (mB 10 127) hHeld ?_;refine zon 7 (some 34) (mB 10 255) fun K hK=>?_;refine Kd.R_make_step (Kd.int .u8) w5.heap.size 5 ze (N:=34) rfl 22 _ _ rfl (n:Int) rfl rfl Tryd.underlying22 (.int .u8 0) 1 info5 rfl zc za (0:Int) (ok:=fun _=>True) (okp:=fun _=>False) rfl (fun _ h=>h.elim) trivial za za (Below.refl _ _) (Nat.le_refl _) ?_;intro vm w6 ho am bj hnew;rw[Int.toNat_natCast]at ho
      obtain⟨Am,cm,ev⟩:=Kd.R_slice ho;rw[List.length_replicate]at ev
      subst ev;obtain⟨nb,hnb,bn⟩:=hnew;obtain⟨hAm,_⟩:=own_addr ho hnb;subst hAm;have ar:=aK ho;have Y:=aK am;have a3:=pw_cell_below am a0;have a4:=(below_frozen am (p:=⟨d,i,none⟩) (by show d<_;omega)).trans ao;clear ho am bj hnb;refine hK.out _ _ ⟨pw_cell_below Y.out hHeld.1,pw_cell_below Y.out hHeld.2⟩ (fun hHeld=>?_);clear hK K;refine znm (some 34) ?_;refine zpu 8 (some 35) (mB 10 511) ?_;refine zln 9 (none) (mB 10 1023) fun K hK=>?_;refine zsk ?_;refine hK.out _ _ ?_;clear hK K;refine done_ zb ?_;clear hHeld;have h6s:=Y.out.size;obtain⟨bc,bd⟩:=R_one ar.out hlt;have q1:(w6.setCell ⟨d,i,none⟩ (.slice (some ⟨nb,0,none⟩) n cm)).cell? ⟨R,1,none⟩=some (.slice (some ⟨d,0,none⟩) n cd):=by
       rw[World.cell?_setCell_other _ _ _ _ (by simp<;>omega)];have:=(ac.out.1.below Y.out).also
       rwa [unitsTo_length]at this
      have q2:(w6.setCell ⟨d,i,none⟩ (.slice (some ⟨nb,0,none⟩) n cm)).cell? ⟨d,i,none⟩=some (.slice (some ⟨nb,0,none⟩) n cm):=World.cell?_setCell_same' _ _ _ (by rw[a3];rfl);have q3:(w6.setCell ⟨d,i,none⟩ (.slice (some ⟨nb,0,none⟩) n cm)).cell? ⟨nb,i,none⟩=some (.int .u8 0):=by
       rw[World.cell?_setCell_other _ _ _ _ (by simp<;>omega)];exact bc
      have q4:(w6.setCell ⟨d,i,none⟩ (.slice (some ⟨nb,0,none⟩) n cm)).frozen? ⟨nb,i,none⟩=false:=by
       rw[World.frozen?_setCell];exact bd
      have ax:=aK (ac.out.1.unitD (i:=i) zag Y.out ar.out);have hgr:Chg w5 ((w6.setCell ⟨d,i,none⟩ (.slice (some ⟨nb,0,none⟩) n cm)).setCell ⟨nb,i,none⟩ (.int .u8 1)) (two g d):=
       ⟨Y.out.os,Y.out.tape,Y.out.output,by simpa using h6s,fun k hk hkd=>by
        rw[Below.heap_setCell _ _ _ k (by show k≠nb;omega),Below.heap_setCell _ _ _ k (by intro e;exact hkd (.inr e))];exact Y.out.block k hk⟩
      have bh:=aK (ac.out.2.trans hgr);rw[unitsTo_succ hlt]at ax
      clear hgr ac ar Y a0 ao a3 a4 bc bd ai ba;generalize bb:w6.setCell ⟨d,i,none⟩ (.slice (some ⟨nb,0,none⟩) n cm)=w7 at*;have bs:=aK bb;clear bb;have hio:(0:Int)≤(i:Int):=by omega
      have hin:(i:Int)<(n:Int):=by omega
      have hadd:(⟨nb,0,none⟩:Addr).add i=⟨nb,i,none⟩:=by unfold Addr.add;by_cases e:i=0<;>simp[e]
      go_wp2_with fail
      go_roundg (n-(i+1))
      case measure=>have:=HK.out;omega
      case rel=>exact⟨i+1,by go_num,by omega,⟨by omega⟩,⟨ax.out,bh.out⟩⟩
     ·obtain rfl:i=n:=by omega
      have z1:wr.cell? ⟨w.heap.size,0,none⟩=some (.int .i64 i):=(blk_cell ag 0).trans rfl
      go_wp2_with fail
      refine start_ (n:=6) (S:=fun w'=>w'.cell? ⟨w.heap.size,0,none⟩=some (.int .i64 i)) (ds:= []) (mB 6 0) zb rfl rfl (z1) (fun hHeld=>?_);have ac:=aK (show Hold wr.drew R g d cl cd Al Ad (rowsOf i i D) (unitsTo i i) i∧Chg w4 wr.drew (two g d)from⟨HO.out.1.below (below_drew (Below.refl _ _)),HO.out.2.trans (Chg.below_all (below_drew (Below.refl _ _)) _)⟩);have ai:wr.drew.heap[w.heap.size]? =some (.cells #[.int .i64 i,.int .i64 i,.slice G D.length I] 24 (0,0)):=ag;have aw:wr.drew.heap[w.heap.size+1]? =some (.cells #[.int .i64 0,.int .i64 0,.slice none 0 0] 24 (0,0)):=av;have ba:wr.drew.heap.size=wr.heap.size:=rfl;clear HO ag av z1;generalize wr.drew=w5 at*;refine zpu 0 (some 46) (mB 6 1) ?_;refine zpu 3 (some 49) (mB 6 9) ?_;refine ztk1 4 (some 50) (mB 6 25) hHeld ?_;refine zon 1 (some 47) (mB 6 27) fun K hK=>?_;refine goes_ Tryd.func83 zb rfl #[.pointer (some ⟨R,0,none⟩)] ze rfl rfl zg ?_;refine(gauss_reduce.calls R g d cl cd Al Ad _ _ i i w5 ac.out.1 HS.out za za).mono ?_;rintro e w6 ⟨v,rfl,hq⟩;rw[←HST.out]at hq
      refine⟨_,rfl,?_⟩;obtain⟨Av,cv,ev⟩:=Kd.R_slice hq.out.2.1;subst ev;have a6:=(hq.out.2.2.block _ (lt_of_get ai) (fun e=>by rcases e with(e|e)|e<;>omega)).trans ai;have Z:=(hq.out.2.2.block _ (lt_of_get aw) (fun e=>by rcases e with(e|e)|e<;>omega)).trans aw;refine hK.out _ _ ((blk_cell a6 0).trans rfl) (fun hHeld=>?_);clear hK K;refine znm (some 47) ?_;refine zpu 2 (some 48) (mB 6 31) ?_;refine zpu 5 (some 51) (mB 6 63) ?_;refine done_ zb ?_;clear hHeld;have hsh:=red_shp HS.out i;rw[←HST.out]at hsh
      have HSH:=aK hsh;have HQ:=aK hq.out;have aq:=aK (ac.out.2.trans (hq.out.2.2.mono (t:=fun k=>two g d k∨w5.heap.size≤k) (fun _ _ h=>h) |>.mono (t:=two g d) (fun k hk h=>h.elim id (fun e=>by omega))));have hrl:=lt_of_get Z;clear hsh hq ai aw a6;by_cases hpl:(st.2.length:Int)<(i:Int)
      ·have aj:st.2.length<i:=by omega
       have tst:decide (st.2.length<i)=true:=by simpa using aj
       have hres:=HRES.out;rw[if_pos hpl]at hres
       simp only[Option.some.injEq,Prod.mk.injEq]at hres;obtain⟨rfl,rfl,rfl,rfl⟩:=hres;clear HRES hpl;have y0:w6.cell? ⟨w.heap.size+1,0,none⟩=some (.int .i64 0):=(blk_cell Z 0).trans rfl;have y1:w6.cell? ⟨w.heap.size+1,1,none⟩=some (.int .i64 0):=(blk_cell Z 1).trans rfl;have y2:w6.cell? ⟨w.heap.size+1,2,none⟩=some (.slice none 0 0):=(blk_cell Z 2).trans rfl;have f0:=blk_frozen Z 0;have f1:=blk_frozen Z 1;have f2:=blk_frozen Z 2
       go_wp2_with fail
       refine bodyPost_ret (results_ct rfl _ _ (w.heap.size+1) 24 #[.int .i64 0,.int .i64 0,.slice none 0 0] (0,0) _ rfl (blk_put (cs:= #[.int .i64 0,.int .i64 0,.slice none 0 0]) (blk_put (cs:= #[.int .i64 0,.int .i64 0,.slice none 0 0]) (blk_put (cs:= #[.int .i64 0,.int .i64 0,.slice none 0 0]) Z 0 _ rfl) 1 _ rfl) 2 _ rfl) Tryd.underlying24 rfl zb) rfl ?_;refine⟨_,rfl,Kd.V_nil _ _ _ _ _,?_⟩;have hbel:Below w.heap.size w w6:=ap.out.trans (aq.out.to_below (n:=w.heap.size) a7 (fun k hk=>by rcases hk with e|e<;>omega));exact((hbel.setCell zf _).setCell zf _).setCell zf _
      ·have aj: ¬st.2.length<i:=by omega
       have tst:decide (st.2.length<i)=false:=by simpa using aj
       have hres:=HRES.out;rw[if_neg hpl]at hres
       simp only[Option.some.injEq,Prod.mk.injEq]at hres;obtain⟨rfl,rfl,rfl,rfl⟩:=hres;clear HRES hpl;have hDl:st.1.2.length=i:=by rw[HSH.out.1.len,HSH.out.2.1,rowsOf_length]
       have hMl:st.1.1.length=i:=by rw[HSH.out.2.1,rowsOf_length]
       have z1:w6.cell? ⟨R,1,none⟩=some (.slice Ad i cd):=by rw[←hDl];exact HQ.out.1.also
       have z2:w6.cell? ⟨R,0,none⟩=some (.slice Al i cl):=by rw[←hMl];exact HQ.out.1.head
       have ay:=(aq.out.block R HH.out.small (fun e=>by have a1:=HH.out.ne2;have a2:=HH.out.ne3;rcases e with e|e<;>omega)).trans hRf;have z3:w6.frozen? ⟨R,0,none⟩=false:=blk_frozen ay 0;have y0:w6.cell? ⟨w.heap.size+1,0,none⟩=some (.int .i64 0):=(blk_cell Z 0).trans rfl;have HHf:Aside0 (Half (w6.setCell ⟨R,0,none⟩ (.slice Ad i cd)) R d cd Ad st.1.2 i):=by
        have hh:=HQ.out.1;have kb:KeepB w6 (w6.setCell ⟨R,0,none⟩ (.slice Ad i cd)):=KeepB.grown (grown_set w6 R 0 _) ay zc;have a8:=hh.ne3;refine⟨⟨?_,?_,by rw[hDl];exact fun h0=>hh.hD za,?_,HSH.out.1.bD,fun k hk=>HSH.out.1.eD k za,⟨by omega,hn⟩⟩⟩
        ·rw[hDl];exact World.cell?_setCell_same' _ _ _ (by rw[hh.head];rfl)
        ·rw[World.cell?_setCell_other _ _ _ _ zd];exact hh.wide
        ·exact hh.LD.same (Below.heap_setCell _ _ _ d (by show d≠R;omega)) kb
       have an:(w6.setCell ⟨R,0,none⟩ (.slice Ad i cd)).heap[w.heap.size+1]? =some (.cells #[.int .i64 0,.int .i64 0,.slice none 0 0] 24 (0,0)):=(Below.heap_setCell _ _ _ _ (by show w.heap.size+1≠R;omega)).trans Z;have bf:=aK (show Below w.heap.size w (w6.setCell ⟨R,0,none⟩ (.slice Ad i cd))from(ap.out.trans (aq.out.to_below (n:=w.heap.size) a7 (fun k hk=>by rcases hk with e|e<;>omega))).setCell (by show w.heap.size≤R;omega) _);clear HQ y0
       go_wp2_with fail
       generalize w6.setCell ⟨R,0,none⟩ (.slice Ad i cd)=w8 at*;refine(gauss_matrix.calls R d cd Ad st.1.2 i w8 HHf.out (by have:=hcd;omega)).mono ?_;rintro e w9 ⟨vm,rfl,hq⟩;rw[←HF.out]at hq
       rw[hDl];obtain⟨be,bi,ev⟩:=Kd.V_slice hq.out.1;subst ev;have au:=hq.out.2;have ae:=(au.block _ (lt_of_get an)).trans an;have HV:=aK hq.out.1;have bg:=aK (below_step bf.out au);have bp:=lt_of_get an;have y0:w9.cell? ⟨w.heap.size+1,0,none⟩=some (.int .i64 0):=(blk_cell ae 0).trans rfl;have y1:w9.cell? ⟨w.heap.size+1,1,none⟩=some (.int .i64 0):=(blk_cell ae 1).trans rfl;have y2:w9.cell? ⟨w.heap.size+1,2,none⟩=some (.slice none 0 0):=(blk_cell ae 2).trans rfl;have f0:=blk_frozen ae 0;have f1:=blk_frozen ae 1;have f2:=blk_frozen ae 2;clear hq au an hDl hMl z1 z2 z3
       go_wp2_with fail
       refine bodyPost_ret (results_ct rfl _ _ (w.heap.size+1) 24 #[.int .i64 i,.int .i64 i,.slice be F.length bi] (0,0) _ rfl (blk_put (cs:= #[.int .i64 i,.int .i64 i,.slice none 0 0]) (blk_put (cs:= #[.int .i64 i,.int .i64 0,.slice none 0 0]) (blk_put (cs:= #[.int .i64 0,.int .i64 0,.slice none 0 0]) ae 0 _ rfl) 1 _ rfl) 2 _ rfl) Tryd.underlying24 rfl zb) rfl ?_;refine⟨_,rfl,?_,?_⟩
       ·refine Kd.V_mono (Kd.V_far (Kd.V_far (Kd.V_far HV.out (p:=⟨w.heap.size+1,0,none⟩) (fun k hk e=>?_) _) (p:=⟨w.heap.size+1,1,none⟩) (fun k hk e=>?_) _) (p:=⟨w.heap.size+1,2,none⟩) (fun k hk e=>?_) _) (fun k hk=>?_)
        ·have h1:w8.heap.size≤k:=hk;have h2:k=w.heap.size+1:=e;omega
        ·have h1:w8.heap.size≤k:=hk;have h2:k=w.heap.size+1:=e;omega
        ·have h1:w8.heap.size≤k:=hk;have h2:k=w.heap.size+1:=e;omega
        ·have h1:w8.heap.size≤k:=hk;show w.heap.size≤k;omega
       ·exact((bg.out.setCell zf _).setCell zf _).setCell zf _
   ·rw[if_neg hb]at h
    cases h
  ·rw[if_neg hab]at h
   simp only[Option.some.injEq,Prod.mk.injEq]at h;obtain⟨rfl,rfl,rfl,rfl⟩:=h;have hne:(J !=L)=true:=bne_iff_ne.mpr hab;clear hm hrt hab
   go_enter Tryd.func63,Tryd.ntmps63
   go_upto_region 1 with(fail)
   have ab:=below_alloc (below_alloc (Below.refl w.heap.size w) (.cells #[.int .i64 J,.int .i64 L,.slice G D.length I] 24)) (.cells #[.int .i64 0,.int .i64 0,.slice none 0 0] 24);have hbm:=heap_alloc2_old w (.cells #[.int .i64 J,.int .i64 L,.slice G D.length I] 24) (.cells #[.int .i64 0,.int .i64 0,.slice none 0 0] 24);have hbr:=blk_new (w.alloc (.cells #[.int .i64 J,.int .i64 L,.slice G D.length I] 24)) (.cells #[.int .i64 0,.int .i64 0,.slice none 0 0] 24);rw[World.size_alloc]at hbr
   have aa:=aK ab;clear ab;generalize(w.alloc (.cells #[.int .i64 J,.int .i64 L,.slice G D.length I] 24)).alloc (.cells #[.int .i64 0,.int .i64 0,.slice none 0 0] 24)=w2 at*;have x0:w2.cell? ⟨w.heap.size,0,none⟩=some (.int .i64 J):=(blk_cell hbm 0).trans rfl;have x1:w2.cell? ⟨w.heap.size,1,none⟩=some (.int .i64 L):=(blk_cell hbm 1).trans rfl;have x2:w2.cell? ⟨w.heap.size,2,none⟩=some (.slice G D.length I):=(blk_cell hbm 2).trans rfl
   go_wp2_with fail
   refine(matrix_Right.calls J L G I D true _ (Kd.C_below HR.out aa.out) HC.out HM.out).mono ?_;rintro e w3 ⟨rfl,X⟩;have O:=(X.block _ (lt_of_get hbr)).trans hbr;have U:=(X.block _ (lt_of_get hbm)).trans hbm;have af:=aK (below_step aa.out X);clear x0 x1 x2 hbr hbm X;have x0:w3.cell? ⟨w.heap.size,0,none⟩=some (.int .i64 J):=(blk_cell U 0).trans rfl;have x1:w3.cell? ⟨w.heap.size,1,none⟩=some (.int .i64 L):=(blk_cell U 1).trans rfl;have x2:w3.cell? ⟨w.heap.size,2,none⟩=some (.slice G D.length I):=(blk_cell U 2).trans rfl;have y0:w3.cell? ⟨w.heap.size+1,0,none⟩=some (.int .i64 0):=(blk_cell O 0).trans rfl;have y1:w3.cell? ⟨w.heap.size+1,1,none⟩=some (.int .i64 0):=(blk_cell O 1).trans rfl;have y2:w3.cell? ⟨w.heap.size+1,2,none⟩=some (.slice none 0 0):=(blk_cell O 2).trans rfl;have f0:=blk_frozen O 0;have f1:=blk_frozen O 1;have f2:=blk_frozen O 2
   go_wp2_with fail
   refine bodyPost_ret (results_ct rfl _ _ (w.heap.size+1) 24 #[.int .i64 0,.int .i64 0,.slice none 0 0] (0,0) _ rfl (blk_put (cs:= #[.int .i64 0,.int .i64 0,.slice none 0 0]) (blk_put (cs:= #[.int .i64 0,.int .i64 0,.slice none 0 0]) (blk_put (cs:= #[.int .i64 0,.int .i64 0,.slice none 0 0]) O 0 _ rfl) 1 _ rfl) 2 _ rfl) Tryd.underlying24 rfl zb) rfl ?_;refine⟨_,rfl,Kd.V_nil _ _ _ _ _,?_⟩;exact((af.out.setCell zf _).setCell zf _).setCell zf _
def matrix_Make.f(a0:Int)(a1:Int):Option (Int×Int×List Int×Int):=(matrix_side.f a0).bind fun G=>(if G=true then((matrix_side.f a1).bind fun I=>(if I=true then((matrix_blank.f a0 a1).bind fun D=>(some (D.1,D.2.1,D.2.2,0)))else(some (0,0,([]:List Int),2))))else(some (0,0,([]:List Int),2)))
set_option maxHeartbeats 8000000 in
set_option maxRecDepth 100000 in
theorem matrix_Make.calls(a0:Int)(a1:Int)(r1:Int)(r2:Int)(r3:List Int)(r4:Int)(w:World)(h:matrix_Make.f a0 a1=some (r1,r2,r3,r4)):
 Calls Tryd.prog 64 #[.int .i64 a0,.int .i64 a1] w fun e w'=> ∃v2_:Value,e= .returned (.tuple #[.agg #[.int .i64 r1,.int .i64 r2,v2_],.int .i64 r4])∧Kd.R (Kd.int .u8) 5 w' w.heap.size (fun _=>True) v2_ r3∧Below w.heap.size w w':=by
 have a4:=Tryd.underlying24;have HB:=aK (Below.refl w.heap.size w);have H:((matrix_side.f a0).bind fun Z=>(if Z=true then((matrix_side.f a1).bind fun aa=>(if aa=true then((matrix_blank.f a0 a1).bind fun L=>(some (L.1,L.2.1,L.2.2,0)))else(some (0,0,([]:List Int),2))))else(some (0,0,([]:List Int),2))))=some (r1,r2,r3,r4):=h;clear h;obtain⟨Z,A3,H⟩:=bindO H
 (try dsimp only at H)
 by_cases c4:Z=true
 ·subst c4;rw[if_pos rfl]at H
  obtain⟨aa,A5,H⟩:=bindO H
  (try dsimp only at H)
  by_cases c6:aa=true
  ·subst c6;rw[if_pos rfl]at H
   obtain⟨⟨J,O,ab⟩,A7,H⟩:=bindO H
   (try dsimp only at H)
   simp only[Option.some.injEq,Prod.mk.injEq]at H;obtain⟨rfl,rfl,rfl,rfl⟩:=H
   go_enter Tryd.func64,Tryd.ntmps64
   go_wp2_with (first|((with_reducible refine gD 4 rfl ?_);refine bE 4 #[.int .i64 0,.int .i64 0,.slice none 0 0] 24 ?_;intro G hg w8 hbox hb;have D:=aK (hbox);have X:=hbS HB hg;have U:=hbS HB hg;replace HB:=hbB HB hb;clear hb hbox hg)|((with_reducible refine gC 68 rfl ?_);refine cG (some 7) Tryd.func68 #[.int .i64 a0] ?_;(with_reducible refine(matrix_side.calls a0 true _ A3.out).mono ?_);rintro e w' ⟨rfl,⟨nd,rfl⟩⟩;refine⟨_,rfl,?_⟩;(try(rw[drewN_self w8];generalize hq_:World.drewN w8 _=w8;have n0_:Aside0 (w8.heap[G]? =some (.cells #[.int .i64 0,.int .i64 0,.slice none 0 0] 24 (0,0))):=⟨by rw[←hq_];exact(bkA D.out)⟩;have n1_:Aside0 (Below w.heap.size w w8):=⟨by rw[←hq_];exact(hbA HB.out)⟩;clear D HB hq_;have D:=n0_;have HB:=n1_;clear n0_ n1_)))|(go_at_call 68;(with_reducible refine(matrix_side.calls a1 true _ A5.out).mono ?_);rintro e w' ⟨rfl,⟨nd,rfl⟩⟩;(try(rw[drewN_self w8];generalize hq_:World.drewN w8 _=w8;have n0_:Aside0 (w8.heap[G]? =some (.cells #[.int .i64 0,.int .i64 0,.slice none 0 0] 24 (0,0))):=⟨by rw[←hq_];exact(bkA D.out)⟩;have n1_:Aside0 (Below w.heap.size w w8):=⟨by rw[←hq_];exact(hbA HB.out)⟩;clear D HB hq_;have D:=n0_;have HB:=n1_;clear n0_ n1_)))|((with_reducible refine gC 69 rfl ?_);refine cG (some 17) Tryd.func69 #[.int .i64 a0,.int .i64 a1] ?_;(with_reducible refine(matrix_blank.calls a0 a1 J O ab _ A7.out).mono ?_);rintro e w9 ⟨a5,rfl,a3,hb⟩;refine⟨_,rfl,?_⟩;have Y:=aK (Kd.R_lower a3 (below_size (hbA HB.out)));replace D:=bkB D hb;replace HB:=hbB HB hb;(try clear hb);(try clear a3);obtain⟨ah,ai,aj,aq,ar,au⟩:=cell3 D;obtain⟨ae,af,ag⟩:=Kd.R_slice Y.out;subst ag))
   refine bodyPost_ret (results_ct rfl _ _ G 24 #[.int .i64 J,.int .i64 O,.slice ae ab.length af] (0,0) _ rfl (by refine bkR ?_;refine blk_put (cs:= #[.int .i64 J,.int .i64 O,.slice none 0 0]) ?_ 2 _ rfl;refine bkR ?_;refine blk_put (cs:= #[.int .i64 J,.int .i64 0,.slice none 0 0]) ?_ 1 _ rfl;refine bkR ?_;refine blk_put (cs:= #[.int .i64 0,.int .i64 0,.slice none 0 0]) ?_ 0 _ rfl;refine bkR ?_;exact D.out) Tryd.underlying24 rfl zb) rfl ?_;exact⟨_,rfE,by(with_reducible repeat(first|apply Kd.R_alloc|apply Kd.R_drewN|apply Kd.R_drew));exact Kd.R_mono (Kd.R_far (p:=⟨G,2,none⟩) (Kd.R_far (p:=⟨G,1,none⟩) (Kd.R_far (p:=⟨G,0,none⟩) (Kd.R_types Y.out D.out zc) (fun _ hk=>hk.2) (.int .i64 J)) (fun _ hk=>hk.2) (.int .i64 O)) (fun _ hk=>hk.2) (.slice ae ab.length af)) (fun _ hk=>trivial),hbA HB.out⟩
  ·replace c6:=Bool.eq_false_iff.mpr c6;subst c6;rw[if_neg nofT]at H
   simp only[Option.some.injEq,Prod.mk.injEq]at H;obtain⟨rfl,rfl,rfl,rfl⟩:=H
   go_enter Tryd.func64,Tryd.ntmps64
   go_wp2_with (first|((with_reducible refine gD 4 rfl ?_);refine bE 4 #[.int .i64 0,.int .i64 0,.slice none 0 0] 24 ?_;intro G hg I hbox hb;have D:=aK (hbox);have X:=hbS HB hg;have U:=hbS HB hg;replace HB:=hbB HB hb;clear hb hbox hg)|((with_reducible refine gC 68 rfl ?_);refine cG (some 7) Tryd.func68 #[.int .i64 a0] ?_;(with_reducible refine(matrix_side.calls a0 true _ A3.out).mono ?_);rintro e w' ⟨rfl,⟨nd,rfl⟩⟩;refine⟨_,rfl,?_⟩;(try(rw[drewN_self I];generalize hq_:World.drewN I _=I;have n0_:Aside0 (I.heap[G]? =some (.cells #[.int .i64 0,.int .i64 0,.slice none 0 0] 24 (0,0))):=⟨by rw[←hq_];exact(bkA D.out)⟩;have n1_:Aside0 (Below w.heap.size w I):=⟨by rw[←hq_];exact(hbA HB.out)⟩;clear D HB hq_;have D:=n0_;have HB:=n1_;clear n0_ n1_)))|(go_at_call 68;(with_reducible refine(matrix_side.calls a1 false _ A5.out).mono ?_);rintro e w' ⟨rfl,⟨nd,rfl⟩⟩;(try(rw[drewN_self I];generalize hq_:World.drewN I _=I;have n0_:Aside0 (I.heap[G]? =some (.cells #[.int .i64 0,.int .i64 0,.slice none 0 0] 24 (0,0))):=⟨by rw[←hq_];exact(bkA D.out)⟩;have n1_:Aside0 (Below w.heap.size w I):=⟨by rw[←hq_];exact(hbA HB.out)⟩;clear D HB hq_;have D:=n0_;have HB:=n1_;clear n0_ n1_));obtain⟨ak,al,am,av,aw,ax⟩:=cell3 D))
   refine bodyPost_ret (results_ct rfl _ _ G 24 #[.int .i64 0,.int .i64 0,.slice none 0 0] (0,0) _ rfl zar Tryd.underlying24 rfl zb) rfl ?_;exact⟨_,rfE,nilE,hbA HB.out⟩
 ·replace c4:=Bool.eq_false_iff.mpr c4;subst c4;rw[if_neg nofT]at H
  simp only[Option.some.injEq,Prod.mk.injEq]at H;obtain⟨rfl,rfl,rfl,rfl⟩:=H
  go_enter Tryd.func64,Tryd.ntmps64
  go_wp2_with (first|((with_reducible refine gD 4 rfl ?_);refine bE 4 #[.int .i64 0,.int .i64 0,.slice none 0 0] 24 ?_;intro G hg ac hbox hb;have D:=aK (hbox);have X:=hbS HB hg;have U:=hbS HB hg;replace HB:=hbB HB hb;clear hb hbox hg)|((with_reducible refine gC 68 rfl ?_);refine cG (some 7) Tryd.func68 #[.int .i64 a0] ?_;(with_reducible refine(matrix_side.calls a0 false _ A3.out).mono ?_);rintro e w' ⟨rfl,⟨nd,rfl⟩⟩;refine⟨_,rfl,?_⟩;(try(rw[drewN_self ac];generalize hq_:World.drewN ac _=ac;have n0_:Aside0 (ac.heap[G]? =some (.cells #[.int .i64 0,.int .i64 0,.slice none 0 0] 24 (0,0))):=⟨by rw[←hq_];exact(bkA D.out)⟩;have n1_:Aside0 (Below w.heap.size w ac):=⟨by rw[←hq_];exact(hbA HB.out)⟩;clear D HB hq_;have D:=n0_;have HB:=n1_;clear n0_ n1_));obtain⟨an,ao,ap,ay,az,a2⟩:=cell3 D))
  refine bodyPost_ret (results_ct rfl _ _ G 24 #[.int .i64 0,.int .i64 0,.slice none 0 0] (0,0) _ rfl zar Tryd.underlying24 rfl zb) rfl ?_;exact⟨_,rfE,nilE,hbA HB.out⟩
mutual
def verdict_decode.l0:Nat→List Int→Int→Int→Int→Int→List Int→Int→Int→List Int→Int→Int→List Int→Option (Int×Int×List Int×Int)
 |0,_,_,_,_,_,_,_,_,_,_,_,_=>none
 |k+1,x6,aa,Z,J,L,O,U,X,Y,D,G,I=>if Z<aa then(verdict_decode.l1 k x6 Z aa Z x6 (x6.length:Int) 0 J L O U X Y D G I)else(some (D,G,I,0))
def verdict_decode.l1:Nat→List Int→Int→Int→Int→List Int→Int→Int→Int→Int→List Int→Int→Int→List Int→Int→Int→List Int→Option (Int×Int×List Int×Int)
 |0,_,_,_,_,_,_,_,_,_,_,_,_,_,_,_,_=>none
 |k+1,x6,aa,ac,ae,ab,af,L,D,G,O,U,X,I,Y,Z,J=>if L<af then(if 0≤L then(if L<(ab.length:Int)then(if 0≤(wrap64 ((wrap64 (aa*G))+L))then(if(wrap64 ((wrap64 (aa*G))+L))<(I.length:Int)then(if 0≤(wrap64 ((wrap64 (aa*D))+(rd ab L)))then(if(wrap64 ((wrap64 (aa*D))+(rd ab L)))<(J.length:Int)then(verdict_decode.l1 k x6 aa ac ae ab af (wrap64 (L+1)) D G O U X I Y Z (J.set ((wrap64 ((wrap64 (aa*D))+(rd ab L))):Int).toNat (rd I (wrap64 ((wrap64 (aa*G))+L)))))else(none))else(none))else(none))else(none))else(none))else(none))else(verdict_decode.l0 k x6 ac (wrap64 (ae+1)) D G O U X I Y Z J)
end
def verdict_decode.f(k:Nat)(L:Int)(J:Int)(O:List Int)(a1:Int):Option (Int×Int×List Int×Int):=(subset_List.f k a1).bind fun U=>((matrix_Pick.f L J O U).bind fun D=>(if D.2.2.2=0 then((gauss_Inverse.f D.1 D.2.1 D.2.2.1).bind fun G=>(if G.2.2.2=0 then((matrix_Make.f J L).bind fun I=>(if I.2.2.2=0 then(verdict_decode.l0 k U J 0 L J O G.1 G.2.1 G.2.2.1 I.1 I.2.1 I.2.2.1)else(some (0,0,([]:List Int),I.2.2.2))))else(some (0,0,([]:List Int),G.2.2.2))))else(some (0,0,([]:List Int),D.2.2.2))))
theorem verdict_decode.mono_l: ∀k,(∀y0 y1 y2 y3 y4 y5 y6 y7 y8 y9 D G,LeO (verdict_decode.l0 k y0 y1 y2 y3 y4 y5 y6 y7 y8 y9 D G) (verdict_decode.l0 (k+1) y0 y1 y2 y3 y4 y5 y6 y7 y8 y9 D G))∧(∀y0 y1 y2 y3 y4 y5 y6 y7 y8 y9 D G L O U X,LeO (verdict_decode.l1 k y0 y1 y2 y3 y4 y5 y6 y7 y8 y9 D G L O U X) (verdict_decode.l1 (k+1) y0 y1 y2 y3 y4 y5 y6 y7 y8 y9 D G L O U X))
 |0=>⟨fun _ _ _ _ _ _ _ _ _ _ _ _ r h=>by simp[verdict_decode.l0]at h,fun _ _ _ _ _ _ _ _ _ _ _ _ _ _ _ _ r h=>by simp[verdict_decode.l1]at h⟩
 |k+1=>by
  obtain⟨I,J⟩:=verdict_decode.mono_l k;refine⟨?_,?_⟩;all_goals(intros;first|unfold verdict_decode.l0|unfold verdict_decode.l1)
  all_goals repeat' first|(with_reducible exact I _ _ _ _ _ _ _ _ _ _ _ _)|(with_reducible exact J _ _ _ _ _ _ _ _ _ _ _ _ _ _ _ _)|(with_reducible exact subset_List.mono _ _)|(with_reducible exact LeO.refl _)|(with_reducible exact LeO.none _)|(with_reducible refine LeO.ite ?_ ?_)|(with_reducible refine LeO.bind ?_ (fun _=>?_))|exact I _ _ _ _ _ _ _ _ _ _ _ _|exact J _ _ _ _ _ _ _ _ _ _ _ _ _ _ _ _|exact subset_List.mono _ _|exact LeO.none _|refine LeO.ite ?_ ?_|refine LeO.bind ?_ (fun _=>?_)
theorem verdict_decode.mono: ∀a0 a1 a2 a3 k,LeO (verdict_decode.f k a0 a1 a2 a3) (verdict_decode.f (k+1) a0 a1 a2 a3):=by
 intro a0 a1 a2 a3 k;obtain⟨D,G⟩:=verdict_decode.mono_l k;unfold verdict_decode.f
 repeat' first
  |(with_reducible exact D _ _ _ _ _ _ _ _ _ _ _ _)
  |(with_reducible exact G _ _ _ _ _ _ _ _ _ _ _ _ _ _ _ _)
  |(with_reducible exact subset_List.mono _ _)
  |(with_reducible exact LeO.refl _)
  |(with_reducible exact LeO.none _)
  |(with_reducible refine LeO.ite ?_ ?_)
  |(with_reducible refine LeO.bind ?_ (fun _=>?_))
  |exact D _ _ _ _ _ _ _ _ _ _ _ _
  |exact G _ _ _ _ _ _ _ _ _ _ _ _ _ _ _ _
  |exact subset_List.mono _ _
  |exact LeO.none _
  |refine LeO.ite ?_ ?_
  |refine LeO.bind ?_ (fun _=>?_)
def verdict_decode.T17:Bool×List (List Nat×List Nat):=(true,[([],[]),([0],[0]),([],[]),([],[]),([3],[3]),([2,4],[2,4]),([],[]),([5,6],[5,6]),([],[]),([8],[8]),([],[]),([],[]),([11],[11]),([10,12],[10,12]),([],[]),([13,14],[13,14]),([9,15],[9,15]),([16],[16]),([1,7,0,1,2,3,4,5,6,7,8,9,10,11,12,13,14,15,16,17],[1,7]),([18,17,0,1,2,3,4,5,6,7,8,9,10,11,12,13,14,15,16,17],[17,18])])
def verdict_decode.B17:List Nat:= [0,1,0,0,8,28,0,124,0,256,0,0,2048,7168,0,31744,65280,130816,262143,524287]
theorem verdict_decode.tab17:rtab .any (opsOf Tryd.f42 17)=verdict_decode.T17:=by kernel_rfl
theorem verdict_decode.bits17:waitsOk verdict_decode.T17.2 verdict_decode.B17=true:=by kernel_rfl
set_option maxHeartbeats 8000000 in
set_option maxRecDepth 100000 in
theorem verdict_decode.calls(k:Nat)(ac:Int)(aa:Int)(a4:Option Addr)(a5:Nat)(ai:List Int)(a1:Int)(r1:Int)(r2:Int)(r3:List Int)(r4:Int)(w:World)(eb:Kd.C (Kd.int .u8) w a4 ai.length ai)(ea:ai.length≤a5)(h:verdict_decode.f k ac aa ai a1=some (r1,r2,r3,r4))(hT:TabAt 0 Lib.deBruijn64tab w):
 Calls Tryd.prog 42 #[.agg #[.int .i64 ac,.int .i64 aa,.slice a4 ai.length a5],.int .u64 a1] w fun e w'=> ∃v2_:Value,e= .returned (.tuple #[.agg #[.int .i64 r1,.int .i64 r2,v2_],.int .i64 r4])∧Kd.R (Kd.int .u8) 5 w' w.heap.size (fun _=>True) v2_ r3∧Below w.heap.size w w':=by
 have HT:=aK hT;clear hT;have mn:=Tryd.underlying24;have cd:=aK eb;have cb:=aK ea;clear eb ea;have HB:=aK (Below.refl w.heap.size w);have H:((subset_List.f k a1).bind fun Y=>((matrix_Pick.f ac aa ai Y).bind fun b4=>(if b4.2.2.2=0 then((gauss_Inverse.f b4.1 b4.2.1 b4.2.2.1).bind fun b5=>(if b5.2.2.2=0 then((matrix_Make.f aa ac).bind fun b6=>(if b6.2.2.2=0 then(verdict_decode.l0 k Y aa 0 ac aa ai b5.1 b5.2.1 b5.2.2.1 b6.1 b6.2.1 b6.2.2.1)else(some (0,0,([]:List Int),b6.2.2.2))))else(some (0,0,([]:List Int),b5.2.2.2))))else(some (0,0,([]:List Int),b4.2.2.2)))))=some (r1,r2,r3,r4):=h;clear h;obtain⟨Y,A3,H⟩:=bindO H
 (try dsimp only at H)
 obtain⟨⟨ab,af,ag,bx⟩,A4,H⟩:=bindO H
 (try dsimp only at H)
 by_cases c5:bx=0
 ·rw[if_pos c5]at H
  have c5b0:(bx==0)=true:=beq_iff_eq.mpr c5;have c5b1:(bx !=0)=false:=bne_eq_false_iff_eq.mpr c5;clear c5;obtain⟨⟨ax,a3,bi,b2⟩,A6,H⟩:=bindO H
  (try dsimp only at H)
  by_cases c7:b2=0
  ·rw[if_pos c7]at H
   have c7b0:(b2==0)=true:=beq_iff_eq.mpr c7;have c7b1:(b2 !=0)=false:=bne_eq_false_iff_eq.mpr c7;clear c7;obtain⟨⟨bb,bc,b3,b8⟩,A8,H⟩:=bindO H
   (try dsimp only at H)
   by_cases c9:b8=0
   ·rw[if_pos c9]at H
    have c9b0:(b8==0)=true:=beq_iff_eq.mpr c9;have c9b1:(b8 !=0)=false:=bne_eq_false_iff_eq.mpr c9;clear c9;have H':=aK H;clear H
    go_enter Tryd.func42,Tryd.ntmps42
    go_wp2_with (first|((with_reducible refine gD 2 rfl ?_);refine bE 2 #[.int .i64 ac,.int .i64 aa,.slice a4 ai.length a5] 24 ?_;intro ar hg mv hbox hb;have D:=aK (hbox);have dy:=hbS HB hg;have dv:=hbS HB hg;replace HB:=hbB HB hb;clear hb hbox hg)|((with_reducible refine gD 4 rfl ?_);refine bE 4 #[.int .i64 0,.int .i64 0,.slice none 0 0] 24 ?_;intro aj hg mw hbox hb;have G:=aK (hbox);have dz:=hbS HB hg;have dw:=hbS HB hg;replace HB:=hbB HB hb;have az:=neL D hg;have a0:=neG D hg;replace D:=bkB D hb;clear hb hbox hg)|((with_reducible refine gC 47 rfl ?_);refine cG (some 15) Tryd.func47 #[.int .u64 a1] ?_;(with_reducible refine(subset_List.calls k a1 Y _ A3.out (tab_below HT.out zi)).mono ?_);rintro e mx ⟨eg,rfl,au,hb⟩;refine⟨_,rfl,?_⟩;have L:=aK (Kd.R_lower au (below_size (hbA HB.out)));replace D:=bkB D hb;replace G:=bkB G hb;replace HB:=hbB HB hb;(try clear hb);(try clear au);have kl:=az.out;have lg:=a0.out;obtain⟨ci,cj,ck,da,db,dc⟩:=cell3 D;obtain⟨bz,b0,gp⟩:=Kd.R_slice L.out;subst gp)|((with_reducible refine gC 46 rfl ?_);refine cG (some 19) Tryd.func46 #[.agg #[.int .i64 ac,.int .i64 aa,.slice a4 ai.length a5],.slice bz Y.length b0] ?_;(with_reducible refine(matrix_Pick.calls ac aa _ _ ai _ _ Y ab af ag bx _ ?side1 ?side2 ?side3 ?side4 A4.out).mono ?_);(case side1=>exact kcB cd HB);(case side2=>exact cb.out);(case side3=>exact kcA (Kd.R_reads' L.out).2.2);(case side4=>exact(Kd.R_reads' L.out).2.1);rintro e my ⟨eh,rfl,au,hb⟩;refine⟨_,rfl,?_⟩;replace L:=kdB L hb;have U:=aK (Kd.R_lower au (below_size (hbA HB.out)));replace D:=bkB D hb;replace G:=bkB G hb;replace HB:=hbB HB hb;(try clear hb);(try clear au))|((with_reducible refine gD 7 rfl ?_);refine bE 7 #[.int .i64 0,.int .i64 0,.slice none 0 0] 24 ?_;intro ay hg mz hbox hb;replace L:=kdB L hb;replace U:=kdB U hb;have I:=aK (hbox);have d0:=hbS HB hg;have dx:=hbS HB hg;replace HB:=hbB HB hb;have O:=neL D hg;have a7:=neG D hg;replace D:=bkB D hb;have J:=neL G hg;have a2:=neG G hg;replace G:=bkB G hb;clear hb hbox hg;have km:=a7.out;have lh:=O.out;have kn:=a2.out;have ll:=J.out;obtain⟨cl,cm,cn,dd,de,df⟩:=cell3 I;obtain⟨bs,br,gq⟩:=Kd.R_slice U.out;subst gq)|((with_reducible refine gC 63 rfl ?_);refine cG (some 28) Tryd.func63 #[.agg #[.int .i64 ab,.int .i64 af,.slice bs ag.length br]] ?_;(with_reducible refine(gauss_Inverse.calls ab af _ _ ag ax a3 bi b2 _ ?side1 ?side2 A6.out).mono ?_);(case side1=>refine(Kd.R_reads' (e:=5) (base:=w.heap.size) (ok:=fun k_=>True) (n:=ag.length) (c:=br) ?_).2.2;exact(by(with_reducible repeat(first|apply Kd.R_alloc|apply Kd.R_drewN|apply Kd.R_drew));exact(zF U.out I.out  (.int .i64 ab)  (.int .i64 af)  (.slice bs ag.length br))));(case side2=>exact(Kd.R_reads' U.out).2.1);rintro e m0 ⟨e6,rfl,au,hb⟩;refine⟨_,rfl,?_⟩;have aw:=aK (Kd.V_lower (Kd.V_mono (ok':=fun k_=>some k_≠(.slice bz Y.length b0:Value).ownBlock∧some k_≠(.slice bs ag.length br:Value).ownBlock∧k_≠ar∧k_≠aj∧k_≠ay) au (fun k_ hk_=>⟨(Kd.fresh' (Kd.R_lt (by(with_reducible repeat(first|apply Kd.R_alloc|apply Kd.R_drewN|apply Kd.R_drew));exact(zF L.out I.out  (.int .i64 ab)  (.int .i64 af)  (.slice bs ag.length br)))) k_ hk_),(Kd.fresh' (Kd.R_lt (by(with_reducible repeat(first|apply Kd.R_alloc|apply Kd.R_drewN|apply Kd.R_drew));exact(zF U.out I.out  (.int .i64 ab)  (.int .i64 af)  (.slice bs ag.length br)))) k_ hk_),(Kd.freshB (g:=ar) (o:= .cells #[.int .i64 ac,.int .i64 aa,.slice a4 ai.length a5] 24 (0,0)) zo k_ hk_),(Kd.freshB (g:=aj) (o:= .cells #[.int .i64 0,.int .i64 0,.slice none 0 0] 24 (0,0)) zr k_ hk_),(Kd.freshB (g:=ay) (o:= .cells #[.int .i64 ab,.int .i64 af,.slice bs ag.length br] 24 (0,0)) zq k_ hk_)⟩)) (below_size (hbA HB.out)));replace L:=aK (Kd.R_below (by(with_reducible repeat(first|apply Kd.R_alloc|apply Kd.R_drewN|apply Kd.R_drew));exact(zF L.out I.out  (.int .i64 ab)  (.int .i64 af)  (.slice bs ag.length br))) hb);replace U:=aK (Kd.R_below (by(with_reducible repeat(first|apply Kd.R_alloc|apply Kd.R_drewN|apply Kd.R_drew));exact(zF U.out I.out  (.int .i64 ab)  (.int .i64 af)  (.slice bs ag.length br))) hb);replace D:=aK (blk_below (g:=ar) (o:= .cells #[.int .i64 ac,.int .i64 aa,.slice a4 ai.length a5] 24 (0,0)) zo hb);replace G:=aK (blk_below (g:=aj) (o:= .cells #[.int .i64 0,.int .i64 0,.slice none 0 0] 24 (0,0)) zr hb);replace I:=aK (blk_below (g:=ay) (o:= .cells #[.int .i64 ab,.int .i64 af,.slice bs ag.length br] 24 (0,0)) zq hb);replace HB:=hbB HB hb;(try clear hb);(try clear au))|((with_reducible refine gD 9 rfl ?_);refine bE 9 #[.int .i64 0,.int .i64 0,.slice none 0 0] 24 ?_;intro ao hg m1 hbox hb;replace L:=kdB L hb;replace U:=kdB U hb;replace aw:=aK (Kd.V_below (Kd.V_elderB (by(with_reducible repeat(first|apply Kd.V_alloc|apply Kd.V_drewN|apply Kd.V_drew));exact aw.out) ao (Nat.le_of_eq hg.symm)) hb);have Z:=aK (hbox);have d8:=hbS HB hg;have d6:=hbS HB hg;replace HB:=hbB HB hb;have al:=neL D hg;have bg:=neG D hg;replace D:=bkB D hb;have ae:=neL G hg;have bd:=neG G hg;replace G:=bkB G hb;have am:=neL I hg;have bh:=neG I hg;replace I:=bkB I hb;clear hb hbox hg;have ko:=bg.out;have lm:=al.out;have kp:=bd.out;have ln:=ae.out;have kr:=bh.out;have lp:=am.out;obtain⟨co,cp,cq,dg,dh,di⟩:=cell3 Z;obtain⟨b9,ca,gr⟩:=Kd.V_slice aw.out;subst gr;obtain⟨cr,ct,cu,dj,dk,dl⟩:=cell3 D)|((with_reducible refine gC 64 rfl ?_);refine cG (some 40) Tryd.func64 #[.int .i64 aa,.int .i64 ac] ?_;(with_reducible refine(matrix_Make.calls aa ac bb bc b3 b8 _ A8.out).mono ?_);rintro e m2 ⟨jp,rfl,au,hb⟩;refine⟨_,rfl,?_⟩;replace L:=aK (Kd.R_below (by(with_reducible repeat(first|apply Kd.R_alloc|apply Kd.R_drewN|apply Kd.R_drew));exact(zF L.out Z.out  (.int .i64 ax)  (.int .i64 a3)  (.slice b9 bi.length ca))) hb);replace aw:=aK (Kd.V_elder' (by(with_reducible repeat(first|apply Kd.V_alloc|apply Kd.V_drewN|apply Kd.V_drew));exact(Kd.V_mono (Kd.V_far (p:=⟨ao,2,none⟩) (Kd.V_far (p:=⟨ao,1,none⟩) (Kd.V_far (p:=⟨ao,0,none⟩) (Kd.V_mono aw.out (fun k_ hk=>(⟨hk,hk.2⟩:_∧k_≠ao))) (fun _ hk=>hk.2) (.int .i64 ax)) (fun _ hk=>hk.2) (.int .i64 a3)) (fun _ hk=>hk.2) (.slice b9 bi.length ca)) (fun _ h_=>h_.1))) (Kd.R_base au) hb);have bt:=aK (Kd.R_lower (Kd.R_new' au (Kd.R_lt (by(with_reducible repeat(first|apply Kd.R_alloc|apply Kd.R_drewN|apply Kd.R_drew));exact(zF U.out Z.out  (.int .i64 ax)  (.int .i64 a3)  (.slice b9 bi.length ca))))) (below_size (hbA HB.out)));replace U:=aK (Kd.R_elder' (by(with_reducible repeat(first|apply Kd.R_alloc|apply Kd.R_drewN|apply Kd.R_drew));exact(zF U.out Z.out  (.int .i64 ax)  (.int .i64 a3)  (.slice b9 bi.length ca))) (Kd.R_base au) hb);replace D:=aK (blk_below (g:=ar) (o:= .cells #[.int .i64 ac,.int .i64 aa,.slice a4 ai.length a5] 24 (0,0)) zat hb);replace G:=aK (blk_below (g:=aj) (o:= .cells #[.int .i64 0,.int .i64 0,.slice none 0 0] 24 (0,0)) zau hb);replace I:=aK (blk_below (g:=ay) (o:= .cells #[.int .i64 ab,.int .i64 af,.slice bs ag.length br] 24 (0,0)) zas hb);replace Z:=aK (blk_below (g:=ao) (o:= .cells #[.int .i64 ax,.int .i64 a3,.slice b9 bi.length ca] 24 (0,0)) zam hb);replace HB:=hbB HB hb;(try clear hb);(try clear hk);(try clear au))|((with_reducible refine gD 10 rfl ?_);refine bE 10 #[.int .i64 0,.int .i64 0,.slice none 0 0] 24 ?_;intro an hg m3 hbox hb;replace L:=kdB L hb;replace U:=kdB U hb;replace aw:=aK (Kd.V_below (Kd.V_elderB (by(with_reducible repeat(first|apply Kd.V_alloc|apply Kd.V_drewN|apply Kd.V_drew));exact aw.out) an (Nat.le_of_eq hg.symm)) hb);replace bt:=kdB bt hb;have av:=aK (hbox);have fa:=hbS HB hg;have e9:=hbS HB hg;replace HB:=hbB HB hb;have a6:=neL D hg;have bl:=neG D hg;replace D:=bkB D hb;have aq:=neL G hg;have bm:=neG G hg;replace G:=bkB G hb;have a8:=neL I hg;have bn:=neG I hg;replace I:=bkB I hb;have a9:=neL Z hg;have bo:=neG Z hg;replace Z:=bkB Z hb;clear hb hbox hg;have ks:=bl.out;have lq:=a6.out;have kt:=bm.out;have lr:=aq.out;have ku:=bn.out;have ls:=a8.out;have kv:=bo.out;have lt:=a9.out;obtain⟨cv,cw,cx,dm,dn,dp⟩:=cell3 av;obtain⟨ce,cg,gs⟩:=Kd.R_slice bt.out;subst gs;obtain⟨cy,cz,c8,dq,dr,dt⟩:=cell3 D))
    go_loopg [49] k (fun kq mf w'=> ∃(ap:Int) (bw:List Int) (bq:List Int) (be:List Int) (u276002:Value) (u283002:Value) (u290002:Value),mf= .int .i64 ap∧Aside0 (verdict_decode.l0 kq Y aa ap ac aa ai ax a3 bq bb bc be=some (r1,r2,r3,r4))∧Aside0 (kq≤k)∧Aside0 (Kd.R (Kd.int .i64) 3 w' w.heap.size (fun _=>True) (.slice bz Y.length b0) Y)∧Aside0 (Kd.R (Kd.int .u8) 5 w' w.heap.size (fun k_=>some k_≠(u290002:Value).ownBlock) u276002 bw)∧Aside0 (Kd.V (Kd.int .u8) 5 w' w.heap.size (fun k_=>some k_≠((.slice bz Y.length b0):Value).ownBlock∧some k_≠(u276002:Value).ownBlock∧some k_≠(u290002:Value).ownBlock∧k_≠ar∧k_≠aj∧k_≠ay∧k_≠ao∧k_≠an) u283002 bq)∧Aside0 (Kd.R (Kd.int .u8) 5 w' w.heap.size (fun k_=>some k_≠(u276002:Value).ownBlock) u290002 be)∧Aside0 (w'.heap[ar]? =some (.cells #[.int .i64 ac,.int .i64 aa,(.slice a4 ai.length a5)] 24 (0,0)))∧Aside0 (w'.heap[aj]? =some (.cells #[.int .i64 0,.int .i64 0,(.slice none 0 0)] 24 (0,0)))∧Aside0 (w'.heap[ay]? =some (.cells #[.int .i64 ab,.int .i64 af,u276002] 24 (0,0)))∧Aside0 (w'.heap[ao]? =some (.cells #[.int .i64 ax,.int .i64 a3,u283002] 24 (0,0)))∧Aside0 (w'.heap[an]? =some (.cells #[.int .i64 bb,.int .i64 bc,u290002] 24 (0,0)))∧Aside0 (Below w.heap.size w w'))
    case atStart=>exact⟨(0),(ag),(bi),(b3),(.slice bs ag.length br),(.slice b9 bi.length ca),(.slice ce b3.length cg),rsE,H',⟨Nat.le_refl _⟩,⟨by(with_reducible repeat(first|apply Kd.R_alloc|apply Kd.R_drewN|apply Kd.R_drew));exact Kd.R_mono (Kd.R_far (p:=⟨an,2,none⟩) (Kd.R_far (p:=⟨an,1,none⟩) (Kd.R_far (p:=⟨an,0,none⟩) (Kd.R_types L.out av.out zc) (fun _ hk=>hk.2) (.int .i64 bb)) (fun _ hk=>hk.2) (.int .i64 bc)) (fun _ hk=>hk.2) (.slice ce b3.length cg)) (fun _ hk=>trivial)⟩,⟨by(with_reducible repeat(first|apply Kd.R_alloc|apply Kd.R_drewN|apply Kd.R_drew));exact Kd.R_mono (Kd.R_far (p:=⟨an,2,none⟩) (Kd.R_far (p:=⟨an,1,none⟩) (Kd.R_far (p:=⟨an,0,none⟩) (Kd.R_types U.out av.out zc) (fun _ hk=>hk.2) (.int .i64 bb)) (fun _ hk=>hk.2) (.int .i64 bc)) (fun _ hk=>hk.2) (.slice ce b3.length cg)) (fun _ hk=>hk.1.2)⟩,⟨by(with_reducible repeat(first|apply Kd.V_alloc|apply Kd.V_drewN|apply Kd.V_drew));exact Kd.V_mono (Kd.V_far (p:=⟨an,2,none⟩) (Kd.V_far (p:=⟨an,1,none⟩) (Kd.V_far (p:=⟨an,0,none⟩) (Kd.V_mono aw.out (fun k_ hk=>(⟨hk,hk.2⟩:_∧k_≠an))) (fun _ hk=>hk.2) (.int .i64 bb)) (fun _ hk=>hk.2) (.int .i64 bc)) (fun _ hk=>hk.2) (.slice ce b3.length cg)) (fun _ hk=>⟨hk.1.1.1.1.1,⟨hk.1.1.1.1.2.1,⟨hk.1.1.2,⟨hk.1.1.1.1.2.2.1,⟨hk.1.1.1.1.2.2.2.1,⟨hk.1.1.1.1.2.2.2.2,⟨hk.1.1.1.2,hk.1.2⟩⟩⟩⟩⟩⟩⟩)⟩,⟨by(with_reducible repeat(first|apply Kd.R_alloc|apply Kd.R_drewN|apply Kd.R_drew));exact Kd.R_mono (Kd.R_far (p:=⟨an,2,none⟩) (Kd.R_far (p:=⟨an,1,none⟩) (Kd.R_far (p:=⟨an,0,none⟩) (Kd.R_types bt.out av.out zc) (fun _ hk=>hk.2) (.int .i64 bb)) (fun _ hk=>hk.2) (.int .i64 bc)) (fun _ hk=>hk.2) (.slice ce b3.length cg)) (fun _ hk=>hk.1.2)⟩,⟨by refine bkR ?_;refine blk_far ?_ a6.out _;refine bkR ?_;refine blk_far ?_ a6.out _;refine bkR ?_;refine blk_far ?_ a6.out _;refine bkR ?_;exact D.out⟩,⟨by refine bkR ?_;refine blk_far ?_ aq.out _;refine bkR ?_;refine blk_far ?_ aq.out _;refine bkR ?_;refine blk_far ?_ aq.out _;refine bkR ?_;exact G.out⟩,⟨by refine bkR ?_;refine blk_far ?_ a8.out _;refine bkR ?_;refine blk_far ?_ a8.out _;refine bkR ?_;refine blk_far ?_ a8.out _;refine bkR ?_;exact I.out⟩,⟨by refine bkR ?_;refine blk_far ?_ a9.out _;refine bkR ?_;refine blk_far ?_ a9.out _;refine bkR ?_;refine blk_far ?_ a9.out _;refine bkR ?_;exact Z.out⟩,⟨by refine bkR ?_;refine blk_put (cs:= #[.int .i64 bb,.int .i64 bc,.slice none 0 0]) ?_ 2 _ rfl;refine bkR ?_;refine blk_put (cs:= #[.int .i64 bb,.int .i64 0,.slice none 0 0]) ?_ 1 _ rfl;refine bkR ?_;refine blk_put (cs:= #[.int .i64 0,.int .i64 0,.slice none 0 0]) ?_ 0 _ rfl;refine bkR ?_;exact av.out⟩,⟨hbA HB.out⟩⟩
    case round=>
     clear H'
     (try clear c1);(try clear c2);(try clear p2);(try clear c3);(try clear c4);(try clear c5);(try clear c5b0);(try clear c5b1);(try clear c6);(try clear c7);(try clear c7b0);(try clear c7b1);(try clear c9);(try clear c9b0);(try clear c9b1);(try clear j9);(try clear ka);(try clear kb);(try clear kc);(try clear kd);(try clear ke);(try clear kf);(try clear kg);(try clear kh);(try clear ki);(try clear ci cj ck da db dc);(try clear cl cm cn dd de df);(try clear co cp cq dg dh di);(try clear cr ct cu dj dk dl);(try clear cv cw cx dm dn dp);(try clear cy cz c8 dq dr dt)
     obtain⟨ap,bw,bq,be,u276002,u283002,u290002,rfl,HA,ei,HO_6,HO_276002,HO_283002,HO_290002,D,G,I,Z,av,HB⟩:=hrel
     cases gk with
     |zero=>exact absurd HA.out (by simp[verdict_decode.l0])
     |succ k1=>
      have H:=HA.out;clear HA;simp only[verdict_decode.l0]at H;by_cases d2:ap<aa
      ·rw[if_pos d2]at H
       have c39b0:decide (ap<aa)=true:=decide_eq_true d2;clear d2;have H':=aK H;clear H;go_wp2
       go_loopg [54] k1 (fun kq mg w'=> ∃(ak:Int) (bp:List Int) (X:List Int) (ah:List Int) (u276002:Value) (u283002:Value) (u290002:Value),mg= .int .i64 ak∧Aside0 (verdict_decode.l1 kq Y ap aa ap Y (Y.length:Int) ak ac aa ai ax a3 X bb bc ah=some (r1,r2,r3,r4))∧Aside0 (kq≤k1)∧Aside0 (Kd.R (Kd.int .i64) 3 w' w.heap.size (fun _=>True) (.slice bz Y.length b0) Y)∧Aside0 (Kd.R (Kd.int .i64) 3 w' w.heap.size (fun _=>True) (.slice bz Y.length b0) Y)∧Aside0 (Kd.R (Kd.int .u8) 5 w' w.heap.size (fun k_=>some k_≠(u290002:Value).ownBlock) u276002 bp)∧Aside0 (Kd.V (Kd.int .u8) 5 w' w.heap.size (fun k_=>some k_≠((.slice bz Y.length b0):Value).ownBlock∧some k_≠((.slice bz Y.length b0):Value).ownBlock∧some k_≠(u276002:Value).ownBlock∧some k_≠(u290002:Value).ownBlock∧k_≠ar∧k_≠aj∧k_≠ay∧k_≠ao∧k_≠an) u283002 X)∧Aside0 (Kd.R (Kd.int .u8) 5 w' w.heap.size (fun k_=>some k_≠(u276002:Value).ownBlock) u290002 ah)∧Aside0 (w'.heap[ar]? =some (.cells #[.int .i64 ac,.int .i64 aa,(.slice a4 ai.length a5)] 24 (0,0)))∧Aside0 (w'.heap[aj]? =some (.cells #[.int .i64 0,.int .i64 0,(.slice none 0 0)] 24 (0,0)))∧Aside0 (w'.heap[ay]? =some (.cells #[.int .i64 ab,.int .i64 af,u276002] 24 (0,0)))∧Aside0 (w'.heap[ao]? =some (.cells #[.int .i64 ax,.int .i64 a3,u283002] 24 (0,0)))∧Aside0 (w'.heap[an]? =some (.cells #[.int .i64 bb,.int .i64 bc,u290002] 24 (0,0)))∧Aside0 (Below w.heap.size w w'))
       case atStart=>exact⟨(0),(bw),(bq),(be),(u276002),(u283002),(u290002),rsE,H',⟨Nat.le_refl _⟩,⟨kdA HO_6.out⟩,⟨kdA HO_6.out⟩,⟨kdA HO_276002.out⟩,⟨by(with_reducible repeat(first|apply Kd.V_alloc|apply Kd.V_drewN|apply Kd.V_drew));exact Kd.V_mono HO_283002.out (fun _ hk=>⟨hk.1,⟨hk.1,⟨hk.2.1,⟨hk.2.2.1,⟨hk.2.2.2.1,⟨hk.2.2.2.2.1,⟨hk.2.2.2.2.2.1,⟨hk.2.2.2.2.2.2.1,hk.2.2.2.2.2.2.2⟩⟩⟩⟩⟩⟩⟩⟩)⟩,⟨kdA HO_290002.out⟩,⟨bkA D.out⟩,⟨bkA G.out⟩,⟨bkA I.out⟩,⟨bkA Z.out⟩,⟨bkA av.out⟩,⟨hbA HB.out⟩⟩
       case round=>
        clear H'
        (try clear c1);(try clear c2);(try clear p2 p2);(try clear c3);(try clear c4);(try clear c5);(try clear c5b0);(try clear c5b1);(try clear c6);(try clear c7);(try clear c7b0);(try clear c7b1);(try clear c9);(try clear c9b0);(try clear c9b1);(try clear j9);(try clear ka);(try clear kb);(try clear kc);(try clear kd);(try clear ke);(try clear kf);(try clear kg);(try clear kh);(try clear ki);(try clear d2);(try clear c39b0);(try clear ci cj ck da db dc);(try clear cl cm cn dd de df);(try clear co cp cq dg dh di);(try clear cr ct cu dj dk dl);(try clear cv cw cx dm dn dp);(try clear cy cz c8 dq dr dt)
        obtain⟨ak,bp,X,ah,u276002,u283002,u290002,rfl,HA,ej,HO_6,HO_52,HO_276002,HO_283002,HO_290002,D,G,I,Z,av,HB⟩:=hrel
        cases gk with
        |zero=>exact absurd HA.out (by simp[verdict_decode.l1])
        |succ k2=>
         have H:=HA.out;clear HA;simp only[verdict_decode.l1]at H;by_cases d5:ak<(Y.length:Int)
         ·rw[if_pos d5]at H
          have c40b0:decide (ak<(Y.length:Int))=true:=decide_eq_true d5;clear d5;by_cases ek:0≤ak
          ·rw[if_pos ek]at H
           have c41b0:decide (0≤ak)=true:=decide_eq_true ek;clear ek;by_cases el:ak<(Y.length:Int)
           ·rw[if_pos el]at H
            have c42b0:decide (ak<(Y.length:Int))=true:=decide_eq_true el;clear el;obtain⟨ba,d3⟩: ∃j_:Int,(wrap64 ((wrap64 (ap*aa))+ak))=j_:=⟨_,rfl⟩
            replace H:(if 0≤(ba)then(if(ba)<(X.length:Int)then(if 0≤(wrap64 ((wrap64 (ap*ac))+(rd Y ak)))then(if(wrap64 ((wrap64 (ap*ac))+(rd Y ak)))<(ah.length:Int)then(verdict_decode.l1 k2 Y ap aa ap Y (Y.length:Int) (wrap64 (ak+1)) ac aa ai ax a3 X bb bc (ah.set ((wrap64 ((wrap64 (ap*ac))+(rd Y ak))):Int).toNat (rd X (ba))))else(none))else(none))else(none))else(none))=some (r1,r2,r3,r4):=by first|(rw[d3]at H;exact H)|(simp only[d3]at H⊢;exact H)
            have hji43w:(IntKind.i64.wrap ((wrap64 (ap*aa))+ak))=ba:=(i64_w _).trans d3;by_cases em:0≤(ba)
            ·rw[if_pos em]at H
             have c44b0:decide (0≤(ba))=true:=decide_eq_true em;clear em;by_cases en:(ba)<(X.length:Int)
             ·rw[if_pos en]at H
              have c45b0:decide ((ba)<(X.length:Int))=true:=decide_eq_true en;clear en;obtain⟨bf,d4⟩: ∃j_:Int,(wrap64 ((wrap64 (ap*ac))+(rd Y ak)))=j_:=⟨_,rfl⟩
              replace H:(if 0≤(bf)then(if(bf)<(ah.length:Int)then(verdict_decode.l1 k2 Y ap aa ap Y (Y.length:Int) (wrap64 (ak+1)) ac aa ai ax a3 X bb bc (ah.set ((bf):Int).toNat (rd X (ba))))else(none))else(none))=some (r1,r2,r3,r4):=by first|(rw[d4]at H;exact H)|(simp only[d4]at H⊢;exact H)
              have hji46w:(IntKind.i64.wrap ((wrap64 (ap*ac))+(rd Y ak)))=bf:=(i64_w _).trans d4;by_cases eo:0≤(bf)
              ·rw[if_pos eo]at H
               have c47b0:decide (0≤(bf))=true:=decide_eq_true eo;clear eo;by_cases ep:(bf)<(ah.length:Int)
               ·rw[if_pos ep]at H
                have c48b0:decide ((bf)<(ah.length:Int))=true:=decide_eq_true ep;clear ep;obtain⟨e7,b7⟩: ∃y_:List Int,y_=(ah.set ((bf):Int).toNat (rd X (ba))):=⟨_,rfl⟩
                replace H:(verdict_decode.l1 k2 Y ap aa ap Y (Y.length:Int) (wrap64 (ak+1)) ac aa ai ax a3 X bb bc e7)=some (r1,r2,r3,r4):=by first|(rw[b7];with_reducible exact H)|(have H2_:=(Option.bind_some _ _).symm.trans H;rw[b7];with_reducible exact H2_)|(have H2_:=(Option.bind_some _ _).symm.trans H;with_reducible exact H2_)|with_reducible exact H|(rw[b7];exact H)|exact H
                have fb:=aK b7;clear b7;have H':=aK H;clear H;have ec:0≤(ak:Int):=of_decide_eq_true asE;have ee:ak<(Y.length:Int):=of_decide_eq_true asE;obtain⟨j8,gm,jo⟩:=Kd.at_int (Kd.R_reads' HO_52.out).2.2 ak ec ee
                cases gm
                replace ec:=eq_true ec;replace ee:=eq_true ee
                try go_wp2
                replace HO_6:=aK (Kd.R_drew HO_6.out);replace HO_52:=aK (Kd.R_drew HO_52.out);replace HO_276002:=aK (Kd.R_drew HO_276002.out);replace HO_283002:=aK (Kd.V_drew HO_283002.out);replace HO_290002:=aK (Kd.R_drew HO_290002.out);replace D:=aK (blk_drew D.out);replace G:=aK (blk_drew G.out);replace I:=aK (blk_drew I.out);replace Z:=aK (blk_drew Z.out);replace av:=aK (blk_drew av.out);replace HB:=aK (below_drew1 HB.out);obtain⟨mh,ez,e4⟩:=Kd.V_slice HO_283002.out
                (first|subst e4|(injection e4 with f1_ f2_ f3_;have f4_:=f1_.symm;have f5_:=f3_.symm;clear f1_ f2_ f3_;subst f4_;subst f5_))
                have ed:0≤((ba):Int):=of_decide_eq_true asE;have ef:(ba)<(X.length:Int):=of_decide_eq_true asE;obtain⟨d1,gn,du⟩:=Kd.at_int (Kd.V_reads' HO_283002.out).2.2 (ba) ed ef
                cases gn
                replace ed:=eq_true ed;replace ef:=eq_true ef;have p49:0≤((bf):Int):=of_decide_eq_true asE;have fh:((bf):Int)<((ah.length:Int):Int):=of_decide_eq_true asE;obtain⟨b1,ey,e3,e5,gz,ml,ew⟩:=Kd.R_form HO_290002.out za
                (first|cases e3|(injection e3 with ea_ en_ ec_;(first|subst ea_|(injection ea_ with ea_;subst ea_));subst ec_;clear en_))
                have mj:=aK e5;have d7:=aK ew;clear e5 gz ew;obtain⟨es,er⟩:=Kd.R_celln 0 HO_290002.out ((bf):Int) p49 fh;replace p49:=eq_true p49;replace fh:=eq_true fh;have d9:=Kd.R_putn HO_290002.out ((bf):Int) (rd X (ba));rw[←fb.out]at d9
                have ex:=aK d9;clear d9;refine start_ (n:=20) (S:=fun w'=>w'.cell? ⟨an,0,none⟩=some (.int .i64 bb)∧w'.cell? ⟨an,1,none⟩=some (.int .i64 bc)∧w'.cell? ⟨an,2,none⟩=some (.slice (some ⟨b1,0,none⟩) ah.length ey)∧w'.cell? ⟨ar,0,none⟩=some (.int .i64 ac)∧w'.cell? ⟨ar,1,none⟩=some (.int .i64 aa)∧w'.cell? ⟨ar,2,none⟩=some (.slice a4 ai.length a5)∧w'.cell? ⟨ao,0,none⟩=some (.int .i64 ax)∧w'.cell? ⟨ao,1,none⟩=some (.int .i64 a3)∧w'.cell? ⟨ao,2,none⟩=some (.slice (some d1) X.length ez)∧w'.cell? (d1.add ((ba)).toNat)=some (.int .u8 (rd X (ba)))) (ds:= [19]) (.replicate 20 false) zb rfl rfl ⟨(blk_cell av.out 0).trans rfl,(blk_cell av.out 1).trans rfl,(blk_cell av.out 2).trans rfl,(blk_cell D.out 0).trans rfl,(blk_cell D.out 1).trans rfl,(blk_cell D.out 2).trans rfl,(blk_cell Z.out 0).trans rfl,(blk_cell Z.out 1).trans rfl,(blk_cell Z.out 2).trans rfl,du⟩ (fun hHeld=>?_);refine with_tabW verdict_decode.tab17 verdict_decode.bits17 (fun HT_ HW_=>?_);generalize wr.drew=m4 at HO_6 HO_52 HO_276002 HO_283002 HO_290002 D G I Z av HB d7 ex er du es hHeld⊢;refine pu 0 (some 59) (mB 20 1) HT_ ?_;refine pu 2 (some 61) (mB 20 5) HT_ ?_;refine pu 3 (some 62) (mB 20 13) HT_ ?_;refine pu 6 (some 65) (mB 20 77) HT_ ?_;refine pu 8 (some 67) (mB 20 333) HT_ ?_;refine pu 10 (some 69) (mB 20 1357) HT_ ?_;refine pu 11 (some 70) (mB 20 3405) HT_ ?_;refine pu 14 (some 73) (mB 20 19789) HT_ ?_;refine tk10 1 (some 60) (mB 20 19791) HT_ HW_ hHeld ?_;refine tk10 4 (some 63) (mB 20 19807) HT_ HW_ hHeld ?_;refine pu 5 (some 64) (mB 20 19839) HT_ ?_;refine pu 7 (some 66) (mB 20 19967) HT_ ?_;refine tk10 9 (some 68) (mB 20 20479) HT_ HW_ hHeld ?_;refine tk10 12 (some 71) (mB 20 24575) HT_ HW_ hHeld ?_;refine pu 13 (some 72) (mB 20 32767) HT_ ?_;refine pu 15 (some 74) (mB 20 65535) HT_ ?_;refine pu 16 (some 75) (mB 20 131071) HT_ ?_;refine tk10 17 (some 76) (mB 20 262143) HT_ HW_ hHeld ?_;refine pu 18 (some 77) (mB 20 524287) HT_ ?_;refine zlh 19 (none) (mB 20 1048575) HT_ fun K hK=>?_;refine zsk ?_;refine hK.out _ _ ?_;clear hK K;refine done_ (done_of HT_.out zb) ?_
                try go_wp2
                go_roundg k2
                case measure=>have:=ei.out;have:=ej.out;omega
                case rel=>exact⟨(wrap64 (ak+1)),(bp),(X),(e7),(u276002),(.slice (some d1) X.length ez),(.slice (some ⟨b1,0,none⟩) ah.length ey),rsE,H',⟨by have:=ei.out;have:=ej.out;omega⟩,⟨by(with_reducible repeat(first|apply Kd.R_alloc|apply Kd.R_drewN|apply Kd.R_drew));exact Kd.R_mono (Kd.R_far (p:=⟨b1,((bf):Int).toNat,none⟩) (Kd.R_types HO_6.out d7.out zc) (fun _ hk=>hk.2) (.int .u8 (rd X (ba)))) (fun _ hk=>trivial)⟩,⟨by(with_reducible repeat(first|apply Kd.R_alloc|apply Kd.R_drewN|apply Kd.R_drew));exact Kd.R_mono (Kd.R_far (p:=⟨b1,((bf):Int).toNat,none⟩) (Kd.R_types HO_52.out d7.out zc) (fun _ hk=>hk.2) (.int .u8 (rd X (ba)))) (fun _ hk=>trivial)⟩,⟨by(with_reducible repeat(first|apply Kd.R_alloc|apply Kd.R_drewN|apply Kd.R_drew));exact Kd.R_mono (Kd.R_far (p:=⟨b1,((bf):Int).toNat,none⟩) (Kd.R_mono HO_276002.out (fun k_ hk=>(⟨hk,fun e_=>hk zk⟩:_∧k_≠b1))) (fun _ hk=>hk.2) (.int .u8 (rd X (ba)))) (fun _ hk=>hk.1)⟩,⟨by(with_reducible repeat(first|apply Kd.V_alloc|apply Kd.V_drewN|apply Kd.V_drew));exact Kd.V_mono (Kd.V_far (p:=⟨b1,((bf):Int).toNat,none⟩) (Kd.V_mono HO_283002.out (fun k_ hk=>(⟨hk,fun e_=>hk.2.2.2.1 zk⟩:_∧k_≠b1))) (fun _ hk=>hk.2) (.int .u8 (rd X (ba)))) (fun _ hk=>⟨hk.1.1,⟨hk.1.2.1,⟨hk.1.2.2.1,⟨hk.1.2.2.2.1,⟨hk.1.2.2.2.2.1,⟨hk.1.2.2.2.2.2.1,⟨hk.1.2.2.2.2.2.2.1,⟨hk.1.2.2.2.2.2.2.2.1,hk.1.2.2.2.2.2.2.2.2⟩⟩⟩⟩⟩⟩⟩⟩)⟩,⟨kdA ex.out⟩,⟨by refine bkR ?_;refine blk_far ?_ (by have h_:=Kd.R_ne HO_290002.out D.out zc;intro e_;exact h_ zk) _;refine bkR ?_;exact D.out⟩,⟨by refine bkR ?_;refine blk_far ?_ (by have h_:=Kd.R_ne HO_290002.out G.out zc;intro e_;exact h_ zk) _;refine bkR ?_;exact G.out⟩,⟨by refine bkR ?_;refine blk_far ?_ (by have h_:=Kd.R_ne HO_290002.out I.out zc;intro e_;exact h_ zk) _;refine bkR ?_;exact I.out⟩,⟨by refine bkR ?_;refine blk_far ?_ (by have h_:=Kd.R_ne HO_290002.out Z.out zc;intro e_;exact h_ zk) _;refine bkR ?_;exact Z.out⟩,⟨by refine bkR ?_;refine blk_far ?_ (by have h_:=Kd.R_ne HO_290002.out av.out zc;intro e_;exact h_ zk) _;refine bkR ?_;exact av.out⟩,⟨hbA HB.out⟩⟩
               ·rw[if_neg ep]at H
                exact absurd H zd
              ·rw[if_neg eo]at H
               exact absurd H zd
             ·rw[if_neg en]at H
              exact absurd H zd
            ·rw[if_neg em]at H
             exact absurd H zd
           ·rw[if_neg el]at H
            exact absurd H zd
          ·rw[if_neg ek]at H
           exact absurd H zd
         ·rw[if_neg d5]at H
          have c40b0:decide (ak<(Y.length:Int))=false:=decide_eq_false d5;clear d5;have H':=aK H;clear H;go_wp2
          go_roundg k2
          case measure=>have:=ei.out;have:=ej.out;omega
          case rel=>exact⟨(wrap64 (ap+1)),(bp),(X),(ah),(u276002),(u283002),(u290002),rsE,H',⟨by have:=ei.out;have:=ej.out;omega⟩,⟨kdA HO_6.out⟩,⟨kdA HO_276002.out⟩,⟨by(with_reducible repeat(first|apply Kd.V_alloc|apply Kd.V_drewN|apply Kd.V_drew));exact Kd.V_mono HO_283002.out (fun _ hk=>⟨hk.1,⟨hk.2.2.1,⟨hk.2.2.2.1,⟨hk.2.2.2.2.1,⟨hk.2.2.2.2.2.1,⟨hk.2.2.2.2.2.2.1,⟨hk.2.2.2.2.2.2.2.1,hk.2.2.2.2.2.2.2.2⟩⟩⟩⟩⟩⟩⟩)⟩,⟨kdA HO_290002.out⟩,⟨bkA D.out⟩,⟨bkA G.out⟩,⟨bkA I.out⟩,⟨bkA Z.out⟩,⟨bkA av.out⟩,⟨hbA HB.out⟩⟩
      ·rw[if_neg d2]at H
       have c39b0:decide (ap<aa)=false:=decide_eq_false d2;clear d2;simp only[Option.some.injEq,Prod.mk.injEq]at H;obtain⟨rfl,rfl,rfl,rfl⟩:=H;have kw:=bl.out;have lu:=a6.out;have kx:=bm.out;have lv:=aq.out;have ky:=bn.out;have lw:=a8.out;have kz:=bo.out;have lx:=a9.out;obtain⟨g0,g1,g2,iw,ix,iy⟩:=cell3 av;have k0:=a0.out;have ly:=az.out;have k3:=J.out;have lz:=a2.out;have k4:=ae.out;have l2:=bd.out;obtain⟨g3,g4,g5,iz,i1,i2⟩:=cell3 G;obtain⟨et,e0,gt⟩:=Kd.R_slice HO_290002.out;subst gt;go_wp2;refine bodyPost_ret (results_ct rfl _ _ aj 24 #[.int .i64 bb,.int .i64 bc,.slice et be.length e0] (0,0) _ rfl (by refine bkR ?_;refine blk_put (cs:= #[.int .i64 bb,.int .i64 bc,.slice none 0 0]) ?_ 2 _ rfl;refine bkR ?_;refine blk_put (cs:= #[.int .i64 bb,.int .i64 0,.slice none 0 0]) ?_ 1 _ rfl;refine bkR ?_;refine blk_put (cs:= #[.int .i64 0,.int .i64 0,.slice none 0 0]) ?_ 0 _ rfl;refine bkR ?_;exact G.out) Tryd.underlying24 rfl zb) rfl ?_;exact⟨_,rfE,by(with_reducible repeat(first|apply Kd.R_alloc|apply Kd.R_drewN|apply Kd.R_drew));exact Kd.R_mono (Kd.R_far (p:=⟨aj,2,none⟩) (Kd.R_far (p:=⟨aj,1,none⟩) (Kd.R_far (p:=⟨aj,0,none⟩) (Kd.R_types HO_290002.out G.out zc) (fun _ hk=>hk.2) (.int .i64 bb)) (fun _ hk=>hk.2) (.int .i64 bc)) (fun _ hk=>hk.2) (.slice et be.length e0)) (fun _ hk=>trivial),hbA HB.out⟩
   ·rw[if_neg c9]at H
    have c9b0:(b8==0)=false:=beq_eq_false_iff_ne.mpr c9;have c9b1:(b8 !=0)=true:=bne_iff_ne.mpr c9;simp only[Option.some.injEq,Prod.mk.injEq]at H;obtain⟨rfl,rfl,rfl,rfl⟩:=H
    go_enter Tryd.func42,Tryd.ntmps42
    go_wp2_with (first|((with_reducible refine gD 2 rfl ?_);refine bE 2 #[.int .i64 ac,.int .i64 aa,.slice a4 ai.length a5] 24 ?_;intro ar hg m5 hbox hb;have D:=aK (hbox);have dy:=hbS HB hg;have dv:=hbS HB hg;replace HB:=hbB HB hb;clear hb hbox hg)|((with_reducible refine gD 4 rfl ?_);refine bE 4 #[.int .i64 0,.int .i64 0,.slice none 0 0] 24 ?_;intro aj hg w64 hbox hb;have G:=aK (hbox);have dz:=hbS HB hg;have dw:=hbS HB hg;replace HB:=hbB HB hb;have az:=neL D hg;have a0:=neG D hg;replace D:=bkB D hb;clear hb hbox hg)|((with_reducible refine gC 47 rfl ?_);refine cG (some 15) Tryd.func47 #[.int .u64 a1] ?_;(with_reducible refine(subset_List.calls k a1 Y _ A3.out (tab_below HT.out zi)).mono ?_);rintro e m6 ⟨eg,rfl,au,hb⟩;refine⟨_,rfl,?_⟩;have L:=aK (Kd.R_lower au (below_size (hbA HB.out)));replace D:=bkB D hb;replace G:=bkB G hb;replace HB:=hbB HB hb;(try clear hb);(try clear au);have k5:=az.out;have l3:=a0.out;obtain⟨g6,g7,g8,i3,i4,i5⟩:=cell3 D;obtain⟨eu,e1,gu⟩:=Kd.R_slice L.out;subst gu)|((with_reducible refine gC 46 rfl ?_);refine cG (some 19) Tryd.func46 #[.agg #[.int .i64 ac,.int .i64 aa,.slice a4 ai.length a5],.slice eu Y.length e1] ?_;(with_reducible refine(matrix_Pick.calls ac aa _ _ ai _ _ Y ab af ag bx _ ?side1 ?side2 ?side3 ?side4 A4.out).mono ?_);(case side1=>exact kcB cd HB);(case side2=>exact cb.out);(case side3=>exact kcA (Kd.R_reads' L.out).2.2);(case side4=>exact(Kd.R_reads' L.out).2.1);rintro e m7 ⟨eh,rfl,au,hb⟩;refine⟨_,rfl,?_⟩;replace L:=kdB L hb;have U:=aK (Kd.R_lower au (below_size (hbA HB.out)));replace D:=bkB D hb;replace G:=bkB G hb;replace HB:=hbB HB hb;(try clear hb);(try clear au))|((with_reducible refine gD 7 rfl ?_);refine bE 7 #[.int .i64 0,.int .i64 0,.slice none 0 0] 24 ?_;intro ay hg m8 hbox hb;replace L:=kdB L hb;replace U:=kdB U hb;have I:=aK (hbox);have d0:=hbS HB hg;have dx:=hbS HB hg;replace HB:=hbB HB hb;have O:=neL D hg;have a7:=neG D hg;replace D:=bkB D hb;have J:=neL G hg;have a2:=neG G hg;replace G:=bkB G hb;clear hb hbox hg;have k6:=a7.out;have l4:=O.out;have k7:=a2.out;have l5:=J.out;obtain⟨g9,ia,ib,i6,i7,i8⟩:=cell3 I;obtain⟨bv,bu,gv⟩:=Kd.R_slice U.out;subst gv)|((with_reducible refine gC 63 rfl ?_);refine cG (some 28) Tryd.func63 #[.agg #[.int .i64 ab,.int .i64 af,.slice bv ag.length bu]] ?_;(with_reducible refine(gauss_Inverse.calls ab af _ _ ag ax a3 bi b2 _ ?side1 ?side2 A6.out).mono ?_);(case side1=>refine(Kd.R_reads' (e:=5) (base:=w.heap.size) (ok:=fun k_=>True) (n:=ag.length) (c:=bu) ?_).2.2;exact(by(with_reducible repeat(first|apply Kd.R_alloc|apply Kd.R_drewN|apply Kd.R_drew));exact(zF U.out I.out  (.int .i64 ab)  (.int .i64 af)  (.slice bv ag.length bu))));(case side2=>exact(Kd.R_reads' U.out).2.1);rintro e m9 ⟨e6,rfl,au,hb⟩;refine⟨_,rfl,?_⟩;have aw:=aK (Kd.V_lower (Kd.V_mono (ok':=fun k_=>some k_≠(.slice eu Y.length e1:Value).ownBlock∧some k_≠(.slice bv ag.length bu:Value).ownBlock∧k_≠ar∧k_≠aj∧k_≠ay) au (fun k_ hk_=>⟨(Kd.fresh' (Kd.R_lt (by(with_reducible repeat(first|apply Kd.R_alloc|apply Kd.R_drewN|apply Kd.R_drew));exact(zF L.out I.out  (.int .i64 ab)  (.int .i64 af)  (.slice bv ag.length bu)))) k_ hk_),(Kd.fresh' (Kd.R_lt (by(with_reducible repeat(first|apply Kd.R_alloc|apply Kd.R_drewN|apply Kd.R_drew));exact(zF U.out I.out  (.int .i64 ab)  (.int .i64 af)  (.slice bv ag.length bu)))) k_ hk_),(Kd.freshB (g:=ar) (o:= .cells #[.int .i64 ac,.int .i64 aa,.slice a4 ai.length a5] 24 (0,0)) zo k_ hk_),(Kd.freshB (g:=aj) (o:= .cells #[.int .i64 0,.int .i64 0,.slice none 0 0] 24 (0,0)) zr k_ hk_),(Kd.freshB (g:=ay) (o:= .cells #[.int .i64 ab,.int .i64 af,.slice bv ag.length bu] 24 (0,0)) zq k_ hk_)⟩)) (below_size (hbA HB.out)));replace L:=aK (Kd.R_below (by(with_reducible repeat(first|apply Kd.R_alloc|apply Kd.R_drewN|apply Kd.R_drew));exact(zF L.out I.out  (.int .i64 ab)  (.int .i64 af)  (.slice bv ag.length bu))) hb);replace U:=aK (Kd.R_below (by(with_reducible repeat(first|apply Kd.R_alloc|apply Kd.R_drewN|apply Kd.R_drew));exact(zF U.out I.out  (.int .i64 ab)  (.int .i64 af)  (.slice bv ag.length bu))) hb);replace D:=aK (blk_below (g:=ar) (o:= .cells #[.int .i64 ac,.int .i64 aa,.slice a4 ai.length a5] 24 (0,0)) zo hb);replace G:=aK (blk_below (g:=aj) (o:= .cells #[.int .i64 0,.int .i64 0,.slice none 0 0] 24 (0,0)) zr hb);replace I:=aK (blk_below (g:=ay) (o:= .cells #[.int .i64 ab,.int .i64 af,.slice bv ag.length bu] 24 (0,0)) zq hb);replace HB:=hbB HB hb;(try clear hb);(try clear au))|((with_reducible refine gD 9 rfl ?_);refine bE 9 #[.int .i64 0,.int .i64 0,.slice none 0 0] 24 ?_;intro ao hg na hbox hb;replace L:=kdB L hb;replace U:=kdB U hb;replace aw:=aK (Kd.V_below (Kd.V_elderB (by(with_reducible repeat(first|apply Kd.V_alloc|apply Kd.V_drewN|apply Kd.V_drew));exact aw.out) ao (Nat.le_of_eq hg.symm)) hb);have Z:=aK (hbox);have d8:=hbS HB hg;have d6:=hbS HB hg;replace HB:=hbB HB hb;have al:=neL D hg;have bg:=neG D hg;replace D:=bkB D hb;have ae:=neL G hg;have bd:=neG G hg;replace G:=bkB G hb;have am:=neL I hg;have bh:=neG I hg;replace I:=bkB I hb;clear hb hbox hg;have k8:=bg.out;have l6:=al.out;have k9:=bd.out;have l7:=ae.out;have la:=bh.out;have l8:=am.out;obtain⟨ic,ie,ig,i9,ja,jb⟩:=cell3 Z;obtain⟨cf,ch,gw⟩:=Kd.V_slice aw.out;subst gw;obtain⟨ii,ij,ik,jc,jd,je⟩:=cell3 D)|((with_reducible refine gC 64 rfl ?_);refine cG (some 40) Tryd.func64 #[.int .i64 aa,.int .i64 ac] ?_;(with_reducible refine(matrix_Make.calls aa ac bb bc b3 b8 _ A8.out).mono ?_);rintro e nb ⟨jp,rfl,au,hb⟩;refine⟨_,rfl,?_⟩;replace L:=aK (Kd.R_below (by(with_reducible repeat(first|apply Kd.R_alloc|apply Kd.R_drewN|apply Kd.R_drew));exact(zF L.out Z.out  (.int .i64 ax)  (.int .i64 a3)  (.slice cf bi.length ch))) hb);replace aw:=aK (Kd.V_elder' (by(with_reducible repeat(first|apply Kd.V_alloc|apply Kd.V_drewN|apply Kd.V_drew));exact(Kd.V_mono (Kd.V_far (p:=⟨ao,2,none⟩) (Kd.V_far (p:=⟨ao,1,none⟩) (Kd.V_far (p:=⟨ao,0,none⟩) (Kd.V_mono aw.out (fun k_ hk=>(⟨hk,hk.2⟩:_∧k_≠ao))) (fun _ hk=>hk.2) (.int .i64 ax)) (fun _ hk=>hk.2) (.int .i64 a3)) (fun _ hk=>hk.2) (.slice cf bi.length ch)) (fun _ h_=>h_.1))) (Kd.R_base au) hb);have bt:=aK (Kd.R_lower (Kd.R_new' au (Kd.R_lt (by(with_reducible repeat(first|apply Kd.R_alloc|apply Kd.R_drewN|apply Kd.R_drew));exact(zF U.out Z.out  (.int .i64 ax)  (.int .i64 a3)  (.slice cf bi.length ch))))) (below_size (hbA HB.out)));replace U:=aK (Kd.R_elder' (by(with_reducible repeat(first|apply Kd.R_alloc|apply Kd.R_drewN|apply Kd.R_drew));exact(zF U.out Z.out  (.int .i64 ax)  (.int .i64 a3)  (.slice cf bi.length ch))) (Kd.R_base au) hb);replace D:=aK (blk_below (g:=ar) (o:= .cells #[.int .i64 ac,.int .i64 aa,.slice a4 ai.length a5] 24 (0,0)) zat hb);replace G:=aK (blk_below (g:=aj) (o:= .cells #[.int .i64 0,.int .i64 0,.slice none 0 0] 24 (0,0)) zau hb);replace I:=aK (blk_below (g:=ay) (o:= .cells #[.int .i64 ab,.int .i64 af,.slice bv ag.length bu] 24 (0,0)) zas hb);replace Z:=aK (blk_below (g:=ao) (o:= .cells #[.int .i64 ax,.int .i64 a3,.slice cf bi.length ch] 24 (0,0)) zam hb);replace HB:=hbB HB hb;(try clear hb);(try clear hk);(try clear au))|((with_reducible refine gD 10 rfl ?_);refine bE 10 #[.int .i64 0,.int .i64 0,.slice none 0 0] 24 ?_;intro an hg nc hbox hb;replace L:=kdB L hb;replace U:=kdB U hb;replace aw:=aK (Kd.V_below (Kd.V_elderB (by(with_reducible repeat(first|apply Kd.V_alloc|apply Kd.V_drewN|apply Kd.V_drew));exact aw.out) an (Nat.le_of_eq hg.symm)) hb);replace bt:=kdB bt hb;have av:=aK (hbox);have fa:=hbS HB hg;have e9:=hbS HB hg;replace HB:=hbB HB hb;have a6:=neL D hg;have bl:=neG D hg;replace D:=bkB D hb;have aq:=neL G hg;have bm:=neG G hg;replace G:=bkB G hb;have a8:=neL I hg;have bn:=neG I hg;replace I:=bkB I hb;have a9:=neL Z hg;have bo:=neG Z hg;replace Z:=bkB Z hb;clear hb hbox hg;have lb:=bl.out;have l9:=a6.out;have lc:=bm.out;have ma:=aq.out;have ld:=bn.out;have mb:=a8.out;have le:=bo.out;have mc:=a9.out;obtain⟨il,im,io,jf,jg,jh⟩:=cell3 av;obtain⟨mi,mm,gx⟩:=Kd.R_slice bt.out;subst gx;obtain⟨ip,iq,ir,ji,jj,jk⟩:=cell3 G))
    refine bodyPost_ret (results_ct rfl _ _ aj 24 #[.int .i64 0,.int .i64 0,.slice none 0 0] (0,0) _ rfl (by refine bkR ?_;refine blk_put (cs:= #[.int .i64 0,.int .i64 0,.slice none 0 0]) ?_ 2 _ rfl;refine bkR ?_;refine blk_put (cs:= #[.int .i64 0,.int .i64 0,.slice none 0 0]) ?_ 1 _ rfl;refine bkR ?_;refine blk_put (cs:= #[.int .i64 0,.int .i64 0,.slice none 0 0]) ?_ 0 _ rfl;refine bkR ?_;refine blk_far ?_ aq.out _;refine bkR ?_;refine blk_far ?_ aq.out _;refine bkR ?_;refine blk_far ?_ aq.out _;refine bkR ?_;exact G.out) Tryd.underlying24 rfl zb) rfl ?_;exact⟨_,rfE,nilE,hbA HB.out⟩
  ·rw[if_neg c7]at H
   have c7b0:(b2==0)=false:=beq_eq_false_iff_ne.mpr c7;have c7b1:(b2 !=0)=true:=bne_iff_ne.mpr c7;simp only[Option.some.injEq,Prod.mk.injEq]at H;obtain⟨rfl,rfl,rfl,rfl⟩:=H
   go_enter Tryd.func42,Tryd.ntmps42
   go_wp2_with (first|((with_reducible refine gD 2 rfl ?_);refine bE 2 #[.int .i64 ac,.int .i64 aa,.slice a4 ai.length a5] 24 ?_;intro ar hg nd hbox hb;have D:=aK (hbox);have dy:=hbS HB hg;have dv:=hbS HB hg;replace HB:=hbB HB hb;clear hb hbox hg)|((with_reducible refine gD 4 rfl ?_);refine bE 4 #[.int .i64 0,.int .i64 0,.slice none 0 0] 24 ?_;intro aj hg ne hbox hb;have G:=aK (hbox);have dz:=hbS HB hg;have dw:=hbS HB hg;replace HB:=hbB HB hb;have az:=neL D hg;have a0:=neG D hg;replace D:=bkB D hb;clear hb hbox hg)|((with_reducible refine gC 47 rfl ?_);refine cG (some 15) Tryd.func47 #[.int .u64 a1] ?_;(with_reducible refine(subset_List.calls k a1 Y _ A3.out (tab_below HT.out zi)).mono ?_);rintro e nf ⟨eg,rfl,au,hb⟩;refine⟨_,rfl,?_⟩;have L:=aK (Kd.R_lower au (below_size (hbA HB.out)));replace D:=bkB D hb;replace G:=bkB G hb;replace HB:=hbB HB hb;(try clear hb);(try clear au);have lf:=az.out;have me:=a0.out;obtain⟨it,iu,iv,jl,jm,jn⟩:=cell3 D;obtain⟨ev,e2,gy⟩:=Kd.R_slice L.out;subst gy)|((with_reducible refine gC 46 rfl ?_);refine cG (some 19) Tryd.func46 #[.agg #[.int .i64 ac,.int .i64 aa,.slice a4 ai.length a5],.slice ev Y.length e2] ?_;(with_reducible refine(matrix_Pick.calls ac aa _ _ ai _ _ Y ab af ag bx _ ?side1 ?side2 ?side3 ?side4 A4.out).mono ?_);(case side1=>exact kcB cd HB);(case side2=>exact cb.out);(case side3=>exact kcA (Kd.R_reads' L.out).2.2);(case side4=>exact(Kd.R_reads' L.out).2.1);rintro e ng ⟨eh,rfl,au,hb⟩;refine⟨_,rfl,?_⟩;replace L:=kdB L hb;have U:=aK (Kd.R_lower au (below_size (hbA HB.out)));replace D:=bkB D hb;replace G:=bkB G hb;replace HB:=hbB HB hb;(try clear hb);(try clear au))|((with_reducible refine gD 7 rfl ?_);refine bE 7 #[.int .i64 0,.int .i64 0,.slice none 0 0] 24 ?_;intro ay hg nh hbox hb;replace L:=kdB L hb;replace U:=kdB U hb;have I:=aK (hbox);have d0:=hbS HB hg;have dx:=hbS HB hg;replace HB:=hbB HB hb;have O:=neL D hg;have a7:=neG D hg;replace D:=bkB D hb;have J:=neL G hg;have a2:=neG G hg;replace G:=bkB G hb;clear hb hbox hg;have jq:=a7.out;have jy:=O.out;have jr:=a2.out;have jz:=J.out;obtain⟨fi,fj,fk,f2,f3,f4⟩:=cell3 I;obtain⟨bk,bj,fd⟩:=Kd.R_slice U.out;subst fd)|((with_reducible refine gC 63 rfl ?_);refine cG (some 28) Tryd.func63 #[.agg #[.int .i64 ab,.int .i64 af,.slice bk ag.length bj]] ?_;(with_reducible refine(gauss_Inverse.calls ab af _ _ ag ax a3 bi b2 _ ?side1 ?side2 A6.out).mono ?_);(case side1=>refine(Kd.R_reads' (e:=5) (base:=w.heap.size) (ok:=fun k_=>True) (n:=ag.length) (c:=bj) ?_).2.2;exact(by(with_reducible repeat(first|apply Kd.R_alloc|apply Kd.R_drewN|apply Kd.R_drew));exact(zF U.out I.out  (.int .i64 ab)  (.int .i64 af)  (.slice bk ag.length bj))));(case side2=>exact(Kd.R_reads' U.out).2.1);rintro e mo ⟨e6,rfl,au,hb⟩;refine⟨_,rfl,?_⟩;have aw:=aK (Kd.V_lower (Kd.V_mono (ok':=fun k_=>some k_≠(.slice ev Y.length e2:Value).ownBlock∧some k_≠(.slice bk ag.length bj:Value).ownBlock∧k_≠ar∧k_≠aj∧k_≠ay) au (fun k_ hk_=>⟨(Kd.fresh' (Kd.R_lt (by(with_reducible repeat(first|apply Kd.R_alloc|apply Kd.R_drewN|apply Kd.R_drew));exact(zF L.out I.out  (.int .i64 ab)  (.int .i64 af)  (.slice bk ag.length bj)))) k_ hk_),(Kd.fresh' (Kd.R_lt (by(with_reducible repeat(first|apply Kd.R_alloc|apply Kd.R_drewN|apply Kd.R_drew));exact(zF U.out I.out  (.int .i64 ab)  (.int .i64 af)  (.slice bk ag.length bj)))) k_ hk_),(Kd.freshB (g:=ar) (o:= .cells #[.int .i64 ac,.int .i64 aa,.slice a4 ai.length a5] 24 (0,0)) zo k_ hk_),(Kd.freshB (g:=aj) (o:= .cells #[.int .i64 0,.int .i64 0,.slice none 0 0] 24 (0,0)) zr k_ hk_),(Kd.freshB (g:=ay) (o:= .cells #[.int .i64 ab,.int .i64 af,.slice bk ag.length bj] 24 (0,0)) zq k_ hk_)⟩)) (below_size (hbA HB.out)));replace L:=aK (Kd.R_below (by(with_reducible repeat(first|apply Kd.R_alloc|apply Kd.R_drewN|apply Kd.R_drew));exact(zF L.out I.out  (.int .i64 ab)  (.int .i64 af)  (.slice bk ag.length bj))) hb);replace U:=aK (Kd.R_below (by(with_reducible repeat(first|apply Kd.R_alloc|apply Kd.R_drewN|apply Kd.R_drew));exact(zF U.out I.out  (.int .i64 ab)  (.int .i64 af)  (.slice bk ag.length bj))) hb);replace D:=aK (blk_below (g:=ar) (o:= .cells #[.int .i64 ac,.int .i64 aa,.slice a4 ai.length a5] 24 (0,0)) zo hb);replace G:=aK (blk_below (g:=aj) (o:= .cells #[.int .i64 0,.int .i64 0,.slice none 0 0] 24 (0,0)) zr hb);replace I:=aK (blk_below (g:=ay) (o:= .cells #[.int .i64 ab,.int .i64 af,.slice bk ag.length bj] 24 (0,0)) zq hb);replace HB:=hbB HB hb;(try clear hb);(try clear au))|((with_reducible refine gD 9 rfl ?_);refine bE 9 #[.int .i64 0,.int .i64 0,.slice none 0 0] 24 ?_;intro ao hg mp hbox hb;replace L:=kdB L hb;replace U:=kdB U hb;replace aw:=aK (Kd.V_below (Kd.V_elderB (by(with_reducible repeat(first|apply Kd.V_alloc|apply Kd.V_drewN|apply Kd.V_drew));exact aw.out) ao (Nat.le_of_eq hg.symm)) hb);have Z:=aK (hbox);have d8:=hbS HB hg;have d6:=hbS HB hg;replace HB:=hbB HB hb;have al:=neL D hg;have bg:=neG D hg;replace D:=bkB D hb;have ae:=neL G hg;have bd:=neG G hg;replace G:=bkB G hb;have am:=neL I hg;have bh:=neG I hg;replace I:=bkB I hb;clear hb hbox hg;have js:=bg.out;have j0:=al.out;have jt:=bd.out;have j1:=ae.out;have ju:=bh.out;have j2:=am.out;obtain⟨fl,fm,fo,f5,f6,f7⟩:=cell3 Z;obtain⟨j6,kj,fe⟩:=Kd.V_slice aw.out;subst fe;obtain⟨fp,fq,fs,f8,f9,ga⟩:=cell3 G))
   refine bodyPost_ret (results_ct rfl _ _ aj 24 #[.int .i64 0,.int .i64 0,.slice none 0 0] (0,0) _ rfl (by refine bkR ?_;refine blk_put (cs:= #[.int .i64 0,.int .i64 0,.slice none 0 0]) ?_ 2 _ rfl;refine bkR ?_;refine blk_put (cs:= #[.int .i64 0,.int .i64 0,.slice none 0 0]) ?_ 1 _ rfl;refine bkR ?_;refine blk_put (cs:= #[.int .i64 0,.int .i64 0,.slice none 0 0]) ?_ 0 _ rfl;refine bkR ?_;refine blk_far ?_ ae.out _;refine bkR ?_;refine blk_far ?_ ae.out _;refine bkR ?_;refine blk_far ?_ ae.out _;refine bkR ?_;exact G.out) Tryd.underlying24 rfl zb) rfl ?_;exact⟨_,rfE,nilE,hbA HB.out⟩
 ·rw[if_neg c5]at H
  have c5b0:(bx==0)=false:=beq_eq_false_iff_ne.mpr c5;have c5b1:(bx !=0)=true:=bne_iff_ne.mpr c5;simp only[Option.some.injEq,Prod.mk.injEq]at H;obtain⟨rfl,rfl,rfl,rfl⟩:=H
  go_enter Tryd.func42,Tryd.ntmps42
  go_wp2_with (first|((with_reducible refine gD 2 rfl ?_);refine bE 2 #[.int .i64 ac,.int .i64 aa,.slice a4 ai.length a5] 24 ?_;intro ar hg mq hbox hb;have D:=aK (hbox);have dy:=hbS HB hg;have dv:=hbS HB hg;replace HB:=hbB HB hb;clear hb hbox hg)|((with_reducible refine gD 4 rfl ?_);refine bE 4 #[.int .i64 0,.int .i64 0,.slice none 0 0] 24 ?_;intro aj hg mr hbox hb;have G:=aK (hbox);have dz:=hbS HB hg;have dw:=hbS HB hg;replace HB:=hbB HB hb;have az:=neL D hg;have a0:=neG D hg;replace D:=bkB D hb;clear hb hbox hg)|((with_reducible refine gC 47 rfl ?_);refine cG (some 15) Tryd.func47 #[.int .u64 a1] ?_;(with_reducible refine(subset_List.calls k a1 Y _ A3.out (tab_below HT.out zi)).mono ?_);rintro e ms ⟨eg,rfl,au,hb⟩;refine⟨_,rfl,?_⟩;have L:=aK (Kd.R_lower au (below_size (hbA HB.out)));replace D:=bkB D hb;replace G:=bkB G hb;replace HB:=hbB HB hb;(try clear hb);(try clear au);have jv:=az.out;have j3:=a0.out;obtain⟨ft,fu,fv,gb,gc,ge⟩:=cell3 D;obtain⟨e8,fc,ff⟩:=Kd.R_slice L.out;subst ff)|((with_reducible refine gC 46 rfl ?_);refine cG (some 19) Tryd.func46 #[.agg #[.int .i64 ac,.int .i64 aa,.slice a4 ai.length a5],.slice e8 Y.length fc] ?_;(with_reducible refine(matrix_Pick.calls ac aa _ _ ai _ _ Y ab af ag bx _ ?side1 ?side2 ?side3 ?side4 A4.out).mono ?_);(case side1=>exact kcB cd HB);(case side2=>exact cb.out);(case side3=>exact kcA (Kd.R_reads' L.out).2.2);(case side4=>exact(Kd.R_reads' L.out).2.1);rintro e mt ⟨eh,rfl,au,hb⟩;refine⟨_,rfl,?_⟩;replace L:=kdB L hb;have U:=aK (Kd.R_lower au (below_size (hbA HB.out)));replace D:=bkB D hb;replace G:=bkB G hb;replace HB:=hbB HB hb;(try clear hb);(try clear au))|((with_reducible refine gD 7 rfl ?_);refine bE 7 #[.int .i64 0,.int .i64 0,.slice none 0 0] 24 ?_;intro ay hg mu hbox hb;replace L:=kdB L hb;replace U:=kdB U hb;have I:=aK (hbox);have d0:=hbS HB hg;have dx:=hbS HB hg;replace HB:=hbB HB hb;have O:=neL D hg;have a7:=neG D hg;replace D:=bkB D hb;have J:=neL G hg;have a2:=neG G hg;replace G:=bkB G hb;clear hb hbox hg;have jw:=a7.out;have j4:=O.out;have jx:=a2.out;have j5:=J.out;obtain⟨fw,fx,fy,gf,gg,gh⟩:=cell3 I;obtain⟨j7,kk,fg⟩:=Kd.R_slice U.out;subst fg;obtain⟨fz,f0,f1,gi,gj,gl⟩:=cell3 G))
  refine bodyPost_ret (results_ct rfl _ _ aj 24 #[.int .i64 0,.int .i64 0,.slice none 0 0] (0,0) _ rfl (by refine bkR ?_;refine blk_put (cs:= #[.int .i64 0,.int .i64 0,.slice none 0 0]) ?_ 2 _ rfl;refine bkR ?_;refine blk_put (cs:= #[.int .i64 0,.int .i64 0,.slice none 0 0]) ?_ 1 _ rfl;refine bkR ?_;refine blk_put (cs:= #[.int .i64 0,.int .i64 0,.slice none 0 0]) ?_ 0 _ rfl;refine bkR ?_;refine blk_far ?_ J.out _;refine bkR ?_;refine blk_far ?_ J.out _;refine bkR ?_;refine blk_far ?_ J.out _;refine bkR ?_;exact G.out) Tryd.underlying24 rfl zb) rfl ?_;exact⟨_,rfE,nilE,hbA HB.out⟩
end Go.Proofs.YtkagobkedifhkaaDoor.Q
namespace Go.Proofs.YtkagobkedifhkaaDoor.Q
open Go.RowKit Go.Proofs.YtkagobkedifhkaaDoorW.PrintWords Go.Proofs.YtkagobkedifhkaaDoorW.PrintLast Go.Proofs.YtkagobkedifhkaaDoorW.PrintMore
attribute [local go_sem] max2_int min2_int max_two min_two max_three min_three max_four min_four
set_option linter.unusedVariables false
set_option linter.unusedSimpArgs false
def verdict_Decode.f(k:Nat)(D:Int)(G:Int)(I:List Int)(a1:Int):Option (Int×Int×List Int×Bool×Int):=
 (verdict_rec.f k D G I a1).bind fun p=>if p.2.1=true then((verdict_decode.f k D G I p.1).bind fun q=>some (q.1,q.2.1,q.2.2.1,q.2.2.2==0,q.2.2.2))else some (0,0,[],false,p.2.2)
theorem verdict_Decode.mono: ∀a0 a1 a2 a3 k,LeO (verdict_Decode.f k a0 a1 a2 a3) (verdict_Decode.f (k+1) a0 a1 a2 a3):=fun a0 a1 a2 a3 k=>by
 unfold verdict_Decode.f;refine LeO.bind (verdict_rec.mono k a0 a1 a2 a3) fun p=>?_
 split
 ·exact LeO.bind (verdict_decode.mono _ _ _ _ _) fun q=>LeO.refl _
 ·exact LeO.refl _
structure Stored18 (w w':World) (bd:Nat) (r1 r2:Int) (r3:List Int):Prop where
 box: ∃v:Value,w'.heap[bd]? =some (.cells #[.int .i64 r1,.int .i64 r2,v] 24 (0,0))∧Kd.R (Kd.int .u8) 5 w' w.heap.size (fun _=>True) v r3
 below:Below bd w w'
 same: ∀k,k<w.heap.size→k≠bd→w'.heap[k]? =w.heap[k]?
set_option maxHeartbeats 4000000 in
set_option maxRecDepth 100000 in
theorem verdict_fn41.calls(k:Nat)(a b:Int)(A:Option Addr)(c:Nat)(l:List Int)(s r1 r2:Int)(r3:List Int)(r4:Int)(bg bd:Nat)(w:World)
 (hg:w.heap[bg]? =some (.cells #[.int .i64 a,.int .i64 b,.slice A l.length c] 24 (0,0))) (hd:w.heap[bd]? =some (.cells #[.int .i64 0,.int .i64 0,.slice none 0 0] 24 (0,0)))
 (hr:Kd.C (Kd.int .u8) w A l.length l) (hc:l.length≤c) (h:verdict_decode.f k a b l s=some (r1,r2,r3,r4)) (hT:TabAt 0 Lib.deBruijn64tab w):
 Calls Tryd.prog 41 #[.int .u64 s,.pointer (some ⟨bg,0,none⟩),.pointer (some ⟨bd,0,none⟩)] w fun e w'=>e= .returned (.int .i64 r4)∧Stored18 w w' bd r1 r2 r3:=by
 have G:=Tryd.underlying24;have HR:=aK hr;have HC:=aK hc;have HT:=aK hT;have HH:=aK h;have HB:=aK (Below.refl w.heap.size w);have HD:=aK hd;have BK:=aK hg;have hbd:bd<w.heap.size:=(Array.getElem?_eq_some_iff.1 hd).1;clear hr hc hT h hd hg;obtain⟨hcx_0,hcx_1,hcx_2,hfx_0,hfx_1,hfx_2⟩:=cell3 BK
 go_enter Tryd.func41,Tryd.ntmps41
 go_wp2_with (go_at_call 42;refine(verdict_decode.calls k a b A c l s r1 r2 r3 r4 _ HR.out HC.out HH.out HT.out).mono ?_;rintro e w1 ⟨v,rfl,ho,hb⟩;obtain⟨Av,cv,ev⟩:=Kd.R_slice ho;subst ev;have D:=aK (blk_below HD.out hb);obtain⟨hcy_0,hcy_1,hcy_2,hfy_0,hfy_1,hfy_2⟩:=cell3 D)
 go_ret
 have b0:=blk_put (cs:= #[.int .i64 0,.int .i64 0,.slice none 0 0]) D.out 0 (.int .i64 r1) rfl;have b1:=blk_put (cs:= #[.int .i64 r1,.int .i64 0,.slice none 0 0]) b0 1 (.int .i64 r2) rfl;have b2:=blk_put (cs:= #[.int .i64 r1,.int .i64 r2,.slice none 0 0]) b1 2 (.slice Av r3.length cv) rfl;have ho':Kd.R (Kd.int .u8) 5 w1 w.heap.size (fun k=>True∧k≠bd) (.slice Av r3.length cv) r3:=Kd.R_types ho D.out zc;have o2:=Kd.R_far (p:=⟨bd,2,none⟩) (Kd.R_far (p:=⟨bd,1,none⟩) (Kd.R_far (p:=⟨bd,0,none⟩) ho' (fun _ hk=>hk.2) (.int .i64 r1)) (fun _ hk=>hk.2) (.int .i64 r2)) (fun _ hk=>hk.2) (.slice Av r3.length cv);have hw:Below bd w w1:=hb.mono za;refine⟨rfl,⟨⟨_,b2,Kd.R_mono o2 fun _ _=>trivial⟩,((hw.setCell (p:=⟨bd,0,none⟩) (Nat.le_refl _) _).setCell (p:=⟨bd,1,none⟩) (Nat.le_refl _) _).setCell (p:=⟨bd,2,none⟩) (Nat.le_refl _) _,fun k hk hne=>?_⟩⟩;rw[Below.heap_setCell _ _ _ k hne,Below.heap_setCell _ _ _ k hne,Below.heap_setCell _ _ _ k hne];exact hb.block k hk
theorem Stored18.mark{w W W2:World}{bd D:Nat}{r1 r2:Int}{r3:List Int}(h:Stored18 W W2 bd r1 r2 r3)(hw:w.heap.size≤W.heap.size)(hbd:bd≤w.heap.size)(hD:w.heap.size≤D)(hK:W2.heap[D]? =some (.deferred (some [])))(hB:Below bd w W):
 (∃v:Value,(W2.putObj D (.deferred none)).heap[bd]? =some (.cells #[.int .i64 r1,.int .i64 r2,v] 24 (0,0))∧Kd.R (Kd.int .u8) 5 (W2.putObj D (.deferred none)) w.heap.size (fun _=>True) v r3)∧Below bd w (W2.putObj D (.deferred none)):=by
 obtain⟨v,h1,h2⟩:=h.box;have ne: ∀k,(∃(cells:Array Value) (t:TypeId),W2.heap[k]? =some (Obj.cells cells t ((0,0):Nat×Nat)))→(W2.putObj D (.deferred none)).heap[k]? =W2.heap[k]? :=fun k hx=>by
  obtain⟨cells,t,hk⟩:=hx;refine World.putObj_heap_other ?_;intro e
  first
  |rw[e,hK]at hk;cases hk
  |rw[←e,hK]at hk;cases hk
 refine⟨⟨v,(ne bd ⟨_,_,h1⟩).trans h1,?_⟩,?_⟩
 ·refine Kd.R_mono (Kd.R_step (Kd.R_bound (Kd.R_lower h2 hw)) fun k hk _=>?_) fun _ _=>trivial;obtain⟨_,_,_,q,_,cells,hc⟩:=hk;exact ne k ⟨cells,q,hc⟩
 ·have h3:=hB.trans h.below;have hsz:D<W2.heap.size:=(Array.getElem?_eq_some_iff.1 hK).1;exact h3.grown (grownBy_putObj' W2 D (.deferred none)) (by have h4:=(Array.getElem?_eq_some_iff.1 h1).1;omega) (fun k e=>by cases e;omega)
theorem verdict_recovered41.calls(k:Nat)(a b:Int)(A:Option Addr)(c:Nat)(l:List Int)(x:Int)(r1 r2:Int)(r3:List Int)(r4:Bool)(r5:Int)(bg bd:Nat)(w:World)
 (hr:Kd.C (Kd.int .u8) w A l.length l) (hc:l.length≤c) (h:verdict_Decode.f k a b l x=some (r1,r2,r3,r4,r5)) (hT:TabAt 0 Lib.deBruijn64tab w)
 (hg:w.heap[bg]? =some (.cells #[.int .i64 a,.int .i64 b,.slice A l.length c] 24 (0,0))) (hd:w.heap[bd]? =some (.cells #[.int .i64 0,.int .i64 0,.slice none 0 0] 24 (0,0))):
 Calls Tryd.prog 30 #[.agg #[.int .i64 a,.int .i64 b,.slice A l.length c],.int .u64 x,.func (.func 41) #[] #[.pointer (some ⟨bg,0,none⟩),.pointer (some ⟨bd,0,none⟩)]] w fun e w'=>
  e= .returned (.tuple #[.bool r4,.int .i64 r5])∧(∃v:Value,w'.heap[bd]? =some (.cells #[.int .i64 r1,.int .i64 r2,v] 24 (0,0))∧Kd.R (Kd.int .u8) 5 w' w.heap.size (fun _=>True) v r3)∧Below bd w w':=by
 unfold verdict_Decode.f at h;obtain⟨⟨s,ok,er⟩,h1,h2⟩:=Option.bind_eq_some_iff.mp h;have hlt:bd<w.heap.size:=(Array.getElem?_eq_some_iff.1 hd).1
 cases ok with
 |false=>
  rw[if_neg (show¬(false=true)by decide)]at h2
  injection h2 with h2;injection h2 with e1 h2;injection h2 with e2 h2;injection h2 with e3 h2;injection h2 with e4 e5;refine verdict_recovered.goes k a b A c l x s false er 41 _ w (fun W G W2=>True) _ hr hc h1 hT (enters_of Tryd.func41 zb rfl) (fun e=>by cases e) (fun _ w' hB=>?_) (fun e=>by cases e);rw[←e1,←e2,←e3,←e4,←e5];exact⟨rfl,⟨_,(hB.block _ hlt).trans hd,Kd.R_nil _ _ _ _ _⟩,hB.mono (Nat.le_of_lt hlt)⟩
 |true=>
  rw[if_pos rfl]at h2
  obtain⟨⟨q1,q2,q3,q4⟩,h3,h2⟩:=Option.bind_eq_some_iff.mp h2;injection h2 with h2;injection h2 with e1 h2;injection h2 with e2 h2;injection h2 with e3 h2;injection h2 with e4 e5
  dsimp only at e1 e2 e3 e4 e5
  subst e1 e2 e3 e5;refine verdict_recovered.goes k a b A c l x s true er 41 #[.pointer (some ⟨bg,0,none⟩),.pointer (some ⟨bd,0,none⟩)] w (fun W G W2=>G=q4∧Stored18 W W2 bd q1 q2 q3) _ hr hc h1 hT (enters_of Tryd.func41 zb rfl) (fun _ W hB=>?_) (fun e=>by cases e) (fun _ W G W2 D hB I L J hK=>?_)
  ·have hgW:=(hB.block _ (Array.getElem?_eq_some_iff.1 hg).1).trans hg;have hdW:=(hB.block _ hlt).trans hd;refine(verdict_fn41.calls k a b A c l s q1 q2 q3 q4 bg bd W hgW hdW (Kd.C_below hr hB) hc h3 (tab_below hT hB)).mono ?_;rintro e W' ⟨rfl,hS⟩;refine⟨q4,rfl,⟨rfl,hS⟩,fun D hD=>?_⟩;refine(hS.same D (Array.getElem?_eq_some_iff.1 hD).1 ?_).trans hD;intro e;rw[e,hdW]at hD
   cases hD
  ·obtain⟨rfl,hS⟩:=J;have hm:=hS.mark hB.size (Nat.le_of_lt hlt) I hK (hB.mono (Nat.le_of_lt hlt));rw[←e4];exact⟨rfl,hm.1,hm.2⟩
set_option maxHeartbeats 4000000 in
set_option maxRecDepth 100000 in
theorem verdict_Decode.calls(k:Nat)(I:Int)(J:Int)(G:Option Addr)(L:Nat)(D:List Int)(a1:Int)(r1:Int)(r2:Int)(r3:List Int)(r4:Bool)(r5:Int)(w:World)(U:Kd.C (Kd.int .u8) w G D.length D)(O:D.length≤L)(h:verdict_Decode.f k I J D a1=some (r1,r2,r3,r4,r5))(hT:TabAt 0 Lib.deBruijn64tab w):
 Calls Tryd.prog 20 #[.agg #[.int .i64 I,.int .i64 J,.slice G D.length L],.int .u64 a1] w fun e w'=> ∃v2_:Value,e= .returned (.tuple #[.agg #[.int .i64 r1,.int .i64 r2,v2_],.bool r4,.int .i64 r5])∧Kd.R (Kd.int .u8) 5 w' w.heap.size (fun _=>True) v2_ r3∧Below w.heap.size w w':=by
 have Z:=Tryd.underlying24;have HR:=aK U;have HC:=aK O;have HT:=aK hT;have HH:=aK h;have HB:=aK (Below.refl w.heap.size w);clear U O hT h;have Y:=World.alloc_heap_new w (.cells #[.int .i64 I,.int .i64 J,.slice G D.length L] 24);have BK:=aK ((Below.heap_alloc (w.alloc (.cells #[.int .i64 I,.int .i64 J,.slice G D.length L] 24)) (.cells #[.int .i64 0,.int .i64 0,.slice none 0 0] 24) _ zd).trans Y);have X:=World.alloc_heap_new (w.alloc (.cells #[.int .i64 I,.int .i64 J,.slice G D.length L] 24)) (.cells #[.int .i64 0,.int .i64 0,.slice none 0 0] 24);rw[World.size_alloc]at X
 have BD:=aK X;obtain⟨hcx_0,hcx_1,hcx_2,hfx_0,hfx_1,hfx_2⟩:=cell3 BK;clear Y X
 go_enter Tryd.func20,Tryd.ntmps20
 go_wp2_with (go_at_call 30;refine(verdict_recovered41.calls k I J G L D a1 r1 r2 r3 r4 r5 w.heap.size (w.heap.size+1) _ (kcB HR HB) HC.out HH.out (tab_below HT.out (hbA HB.out)) BK.out BD.out).mono ?_;rintro e w1 ⟨rfl,⟨v,hv,ho⟩,hb⟩;obtain⟨Av,cv,ev⟩:=Kd.R_slice ho;subst ev;have HV:=aK hv;clear hv;obtain⟨hcy_0,hcy_1,hcy_2,hfy_0,hfy_1,hfy_2⟩:=cell3 HV)
 have b0:=blk_put (cs:= #[.int .i64 r1,.int .i64 r2,.slice Av r3.length cv]) HV.out 0 (.int .i64 r1) rfl;have b1:=blk_put (cs:= #[.int .i64 r1,.int .i64 r2,.slice Av r3.length cv]) b0 1 (.int .i64 r2) rfl;have b2:=blk_put (cs:= #[.int .i64 r1,.int .i64 r2,.slice Av r3.length cv]) b1 2 (.slice Av r3.length cv) rfl;have ho':=Kd.R_types ho HV.out zc;have o2:=Kd.R_far (p:=⟨w.heap.size+1,2,none⟩) (Kd.R_far (p:=⟨w.heap.size+1,1,none⟩) (Kd.R_far (p:=⟨w.heap.size+1,0,none⟩) ho' (fun _ hk=>hk.2) (.int .i64 r1)) (fun _ hk=>hk.2) (.int .i64 r2)) (fun _ hk=>hk.2) (.slice Av r3.length cv);obtain⟨hcz_0,hcz_1,hcz_2,hfz_0,hfz_1,hfz_2⟩:=cell3 (aK b2);have h0:Below w.heap.size w ((w.alloc (.cells #[.int .i64 I,.int .i64 J,.slice G D.length L] 24)).alloc (.cells #[.int .i64 0,.int .i64 0,.slice none 0 0] 24)):=hbA HB.out;have hw:=h0.trans (hb.mono za);refine⟨rfl,.tuple #[.agg #[.int .i64 r1,.int .i64 r2,.slice Av r3.length cv],.bool r4,.int .i64 r5],?_,.slice Av r3.length cv,rfl,Kd.R_mono (Kd.R_lower o2 h0.size) fun _ _=>trivial,?_⟩
 ·simp[results,show Tryd.f20.results= #[ResultVar.cell 4 24,ResultVar.tmp 5,ResultVar.tmp 6]from rfl,go_sem,Z,hcz_0,hcz_1,hcz_2]
 ·exact((hw.setCell (p:=⟨w.heap.size+1,0,none⟩) zd _).setCell (p:=⟨w.heap.size+1,1,none⟩) zd _).setCell (p:=⟨w.heap.size+1,2,none⟩) zd _
def recoupref01_Same.f(l0:List Int)(l1:List Int):Option (Bool):=some ((strOfNums l0).toList==(strOfNums l1).toList)
set_option maxHeartbeats 8000000 in
set_option maxRecDepth 100000 in
theorem recoupref01_Same.calls(A0:Option Addr)(c0:Nat)(l0:List Int)(A1:Option Addr)(c1:Nat)(l1:List Int)(r:Bool)(w:World)(I:Kd.C (Kd.int .u8) w A0 l0.length l0)(D:l0.length≤c0)(J:Kd.C (Kd.int .u8) w A1 l1.length l1)(G:l1.length≤c1)(h:recoupref01_Same.f l0 l1=some r):
 Calls Tryd.prog 27 #[.slice A0 l0.length c0,.slice A1 l1.length c1] w fun e w'=>e= .returned (.bool r)∧Drawn0 w w':=by
 have L:=aK I;have Y:=aK D;clear I D;have O:=aK J;have Z:=aK G;clear J G;have H:(some ((strOfNums l0).toList==(strOfNums l1).toList))=some r:=h;clear h;obtain rfl:=Option.some.inj H;have U:=Kd.C_string (P:=Tryd.prog) (A:=A0) (c:=c0) Tryd.underlying22 Tryd.underlying5 Tryd.underlying9 L.out;have X:=Kd.C_string (P:=Tryd.prog) (A:=A1) (c:=c1) Tryd.underlying22 Tryd.underlying5 Tryd.underlying9 O.out
 go_enter Tryd.func27,Tryd.ntmps27
 go_wp2
 go_ret
 exact⟨by first|rfl|(simp;done)|(simp[*];done),by repeat(first|exact Drawn0.refl _|apply Drawn0.step)⟩
def recoupref03_Like.f(D:Int)(G:Int)(L:List Int)(I:Int)(J:Int)(O:List Int):Option (Bool):=if D=I then(if G=J then((recoupref01_Same.f L O).bind fun U=>(some U))else(some false))else(some false)
set_option maxHeartbeats 8000000 in
set_option maxRecDepth 100000 in
theorem recoupref03_Like.calls(J:Int)(L:Int)(aa:Option Addr)(ac:Nat)(X:List Int)(O:Int)(U:Int)(ab:Option Addr)(ae:Nat)(Y:List Int)(r:Bool)(w:World)(an:Kd.C (Kd.int .u8) w aa X.length X)(al:X.length≤ac)(ao:Kd.C (Kd.int .u8) w ab Y.length Y)(am:Y.length≤ae)(h:recoupref03_Like.f J L X O U Y=some r):
 Calls Tryd.prog 24 #[.agg #[.int .i64 J,.int .i64 L,.slice aa X.length ac],.agg #[.int .i64 O,.int .i64 U,.slice ab Y.length ae]] w fun e w'=>e= .returned (.bool r)∧Below w.heap.size w w':=by
 have b3:=Tryd.underlying24;have au:=aK an;have aq:=aK al;clear an al;have av:=aK ao;have ar:=aK am;clear ao am;have HB:=aK (Below.refl w.heap.size w);have H:(if J=O then(if L=U then((recoupref01_Same.f X Y).bind fun ap=>(some ap))else(some false))else(some false))=some r:=h;clear h;by_cases c3:J=O
 ·rw[if_pos c3]at H
  have c3b0:(J==O)=true:=beq_iff_eq.mpr c3;have c3b1:(J !=O)=false:=bne_eq_false_iff_eq.mpr c3;clear c3;by_cases c4:L=U
  ·rw[if_pos c4]at H
   have c4b0:(L==U)=true:=beq_iff_eq.mpr c4;have c4b1:(L !=U)=false:=bne_eq_false_iff_eq.mpr c4;clear c4;obtain⟨ap,A5,H⟩:=bindO H
   (try dsimp only at H)
   obtain rfl:=Option.some.inj H
   go_enter Tryd.func24,Tryd.ntmps24
   go_wp2_with (first|((with_reducible refine gD 2 rfl ?_);refine bE 2 #[.int .i64 J,.int .i64 L,.slice aa X.length ac] 24 ?_;intro aj hg w6 hbox hb;have D:=aK (hbox);have ah:=hbS HB hg;have af:=hbS HB hg;replace HB:=hbB HB hb;clear hb hbox hg)|((with_reducible refine gD 3 rfl ?_);refine bE 3 #[.int .i64 O,.int .i64 U,.slice ab Y.length ae] 24 ?_;intro ak hg w7 hbox hb;have Z:=aK (hbox);have ai:=hbS HB hg;have ag:=hbS HB hg;replace HB:=hbB HB hb;have G:=neL D hg;have I:=neG D hg;replace D:=bkB D hb;clear hb hbox hg;have b1:=G.out;have b2:=I.out;obtain⟨bq,br,bs,bt,bu,bv⟩:=cell3 D;obtain⟨aw,ax,ay,bb,bc,bd⟩:=cell3 Z)|(go_at_call 27;(with_reducible refine(recoupref01_Same.calls _ _ X _ _ Y ap _ ?side1 ?side2 ?side3 ?side4 A5.out).mono ?_);(case side1=>exact kcB au HB);(case side2=>exact aq.out);(case side3=>exact kcB av HB);(case side4=>exact ar.out);rintro e w' ⟨rfl,⟨nd,rfl⟩⟩))
   go_ret
   exact⟨rfE,hbA HB.out⟩
  ·rw[if_neg c4]at H
   have c4b0:(L==U)=false:=beq_eq_false_iff_ne.mpr c4;have c4b1:(L !=U)=true:=bne_iff_ne.mpr c4;obtain rfl:=Option.some.inj H
   go_enter Tryd.func24,Tryd.ntmps24
   go_wp2_with (first|((with_reducible refine gD 2 rfl ?_);refine bE 2 #[.int .i64 J,.int .i64 L,.slice aa X.length ac] 24 ?_;intro aj hg b4 hbox hb;have D:=aK (hbox);have ah:=hbS HB hg;have af:=hbS HB hg;replace HB:=hbB HB hb;clear hb hbox hg)|((with_reducible refine gD 3 rfl ?_);refine bE 3 #[.int .i64 O,.int .i64 U,.slice ab Y.length ae] 24 ?_;intro ak hg b5 hbox hb;have Z:=aK (hbox);have ai:=hbS HB hg;have ag:=hbS HB hg;replace HB:=hbB HB hb;have G:=neL D hg;have I:=neG D hg;replace D:=bkB D hb;clear hb hbox hg;have bw:=G.out;have bz:=I.out;obtain⟨az,a0,a1,be,bf,bg⟩:=cell3 D;obtain⟨a2,a3,a4,bh,bi,bj⟩:=cell3 Z))
   go_ret
   exact⟨rfE,hbA HB.out⟩
 ·rw[if_neg c3]at H
  have c3b0:(J==O)=false:=beq_eq_false_iff_ne.mpr c3;have c3b1:(J !=O)=true:=bne_iff_ne.mpr c3;obtain rfl:=Option.some.inj H
  go_enter Tryd.func24,Tryd.ntmps24
  go_wp2_with (first|((with_reducible refine gD 2 rfl ?_);refine bE 2 #[.int .i64 J,.int .i64 L,.slice aa X.length ac] 24 ?_;intro aj hg b6 hbox hb;have D:=aK (hbox);have ah:=hbS HB hg;have af:=hbS HB hg;replace HB:=hbB HB hb;clear hb hbox hg)|((with_reducible refine gD 3 rfl ?_);refine bE 3 #[.int .i64 O,.int .i64 U,.slice ab Y.length ae] 24 ?_;intro ak hg b7 hbox hb;have Z:=aK (hbox);have ai:=hbS HB hg;have ag:=hbS HB hg;replace HB:=hbB HB hb;have G:=neL D hg;have I:=neG D hg;replace D:=bkB D hb;clear hb hbox hg;have bx:=G.out;have b0:=I.out;obtain⟨a5,a6,a7,bk,bl,bm⟩:=cell3 D;obtain⟨a8,a9,ba,bn,bo,bp⟩:=cell3 Z))
  go_ret
  exact⟨rfE,hbA HB.out⟩
def recouplaw18_three.f:Option (Int×Int×List Int):=some (3,2,(([1,0,0,1,1,1]:List Int)))
set_option maxHeartbeats 8000000 in
set_option maxRecDepth 100000 in
theorem recouplaw18_three.calls(r1:Int)(r2:Int)(r3:List Int)(w:World)(h:recouplaw18_three.f=some (r1,r2,r3)):
 Calls Tryd.prog 36 #[] w fun e w'=> ∃v2_:Value,e= .returned (.agg #[.int .i64 r1,.int .i64 r2,v2_])∧Kd.R (Kd.int .u8) 5 w' w.heap.size (fun _=>True) v2_ r3∧Below w.heap.size w w':=by
 have aj:=Tryd.underlying24;have HB:=aK (Below.refl w.heap.size w);have H:(some (3,2,(([1,0,0,1,1,1]:List Int))))=some (r1,r2,r3):=h;clear h;obtain⟨U,G⟩: ∃y_:List Int,y_=(([1,0,0,1,1,1]:List Int)):=⟨_,rfl⟩
 replace H:(some (3,2,U))=some (r1,r2,r3):=by first|(rw[G];with_reducible exact H)|(have H2_:=(Option.bind_some _ _).symm.trans H;rw[G];with_reducible exact H2_)|(have H2_:=(Option.bind_some _ _).symm.trans H;with_reducible exact H2_)|with_reducible exact H|(rw[G];exact H)|exact H
 have L:=aK G;clear G;simp only[Option.some.injEq,Prod.mk.injEq]at H;obtain⟨rfl,rfl,rfl⟩:=H
 go_enter Tryd.func36,Tryd.ntmps36
 go_wp2_with (first|((with_reducible refine gD 0 rfl ?_);refine bE 0 #[.int .i64 0,.int .i64 0,.slice none 0 0] 24 ?_;intro I hg w1 hbox hb;have D:=aK (hbox);have ah:=hbS HB hg;have ag:=hbS HB hg;replace HB:=hbB HB hb;clear hb hbox hg)|((with_reducible refine gate_dst (N:=1) rfl ?_);refine Kd.R_lit (Kd.int .u8) _ 5 ?hg (N:=1) ?hd (xs:=([1,0,0,1,1,1]:List Int)) (inner:= [.int .u8 1,.int .u8 0,.int .u8 0,.int .u8 1,.int .u8 1,.int .u8 1]) (ok:=fun _=>True) (okp:=fun _=>True) ?hr ?hp (fun _ hk=>hk) trivial (Below.refl _ _) (Nat.le_refl _) zd ?_;(case hd=>rfl);(case hg=>rfl);(case hr=>first|(go_simp;done)|(go_simp;rfl));(case hp=>exact(Reps.one (show Kd.M (Kd.int .u8) _ _ _ 1 [.int .u8 1]from rfl) (Reps.one (show Kd.M (Kd.int .u8) _ _ _ 0 [.int .u8 0]from rfl) (Reps.one (show Kd.M (Kd.int .u8) _ _ _ 0 [.int .u8 0]from rfl) (Reps.one (show Kd.M (Kd.int .u8) _ _ _ 1 [.int .u8 1]from rfl) (Reps.one (show Kd.M (Kd.int .u8) _ _ _ 1 [.int .u8 1]from rfl) (Reps.one (show Kd.M (Kd.int .u8) _ _ _ 1 [.int .u8 1]from rfl) (Reps.none _ _))))))));intro ak w2 O hb hg_ hnew_;clear hg_ hnew_;(first|rw[←L.out]at O|(simp only[Int.reduceToNat]at O;rw[←L.out]at O));have J:=aK (Kd.R_lower O (below_size (hbA HB.out)));replace D:=bkB D hb;replace HB:=hbB HB hb;clear hb O;obtain⟨X,Y,ai⟩:=Kd.R_slice J.out;subst ai;obtain⟨Z,aa,ab,ac,ae,af⟩:=cell3 D))
 refine bodyPost_ret (results_cell_row rfl _ _ I 24 #[.int .i64 3,.int .i64 2,.slice X U.length Y] (0,0) _ rfl (by refine bkR ?_;refine blk_put (cs:= #[.int .i64 3,.int .i64 2,.slice none 0 0]) ?_ 2 _ rfl;refine bkR ?_;refine blk_put (cs:= #[.int .i64 3,.int .i64 0,.slice none 0 0]) ?_ 1 _ rfl;refine bkR ?_;refine blk_put (cs:= #[.int .i64 0,.int .i64 0,.slice none 0 0]) ?_ 0 _ rfl;refine bkR ?_;exact D.out) Tryd.underlying24 rfl zb) rfl ?_;exact⟨_,rfE,by(with_reducible repeat(first|apply Kd.R_alloc|apply Kd.R_drewN|apply Kd.R_drew));exact Kd.R_mono (Kd.R_far (p:=⟨I,2,none⟩) (Kd.R_far (p:=⟨I,1,none⟩) (Kd.R_far (p:=⟨I,0,none⟩) (Kd.R_types J.out D.out zc) (fun _ hk=>hk.2) (.int .i64 3)) (fun _ hk=>hk.2) (.int .i64 2)) (fun _ hk=>hk.2) (.slice X U.length Y)) (fun _ hk=>trivial),hbA HB.out⟩
def recouplaw18_anchored.f(k:Nat):Option (Bool):=(recouplaw18_three.f).bind fun G=>((verdict_Recovers.f k G.1 G.2.1 G.2.2 1).bind fun J=>((recouplaw18_three.f).bind fun I=>((verdict_Decode.f k I.1 I.2.1 I.2.2 1).bind fun D=>(if J.1=true then(if D.2.2.2.1=true then(if J.2=0 then(if D.2.2.2.2=0 then((recoupref03_Like.f D.1 D.2.1 D.2.2.1 2 3 (([0,1,1,0,1,0]:List Int))).bind fun L=>(some L))else(some false))else(some false))else(some false))else(some false)))))
theorem recouplaw18_anchored.mono: ∀k,LeO (recouplaw18_anchored.f k) (recouplaw18_anchored.f (k+1)):=by
 intro k;unfold recouplaw18_anchored.f
 repeat' first
  |(with_reducible exact verdict_Decode.mono _ _ _ _ _)
  |(with_reducible exact verdict_Recovers.mono _ _ _ _ _)
  |(with_reducible exact LeO.refl _)
  |(with_reducible exact LeO.none _)
  |(with_reducible refine LeO.ite ?_ ?_)
  |(with_reducible refine LeO.bind ?_ (fun _=>?_))
  |exact verdict_Decode.mono _ _ _ _ _
  |exact verdict_Recovers.mono _ _ _ _ _
  |exact LeO.none _
  |refine LeO.ite ?_ ?_
  |refine LeO.bind ?_ (fun _=>?_)
set_option maxHeartbeats 8000000 in
set_option maxRecDepth 100000 in
theorem recouplaw18_anchored.calls(k:Nat)(r:Bool)(w:World)(h:recouplaw18_anchored.f k=some r)(hT:TabAt 0 Lib.deBruijn64tab w):
 Calls Tryd.prog 14 #[] w fun e w'=>e= .returned (.bool r)∧Below w.heap.size w w':=by
 have HT:=aK hT;clear hT;have dg:=Tryd.underlying24;have HB:=aK (Below.refl w.heap.size w);have H:((recouplaw18_three.f).bind fun ar=>((verdict_Recovers.f k ar.1 ar.2.1 ar.2.2 1).bind fun az=>((recouplaw18_three.f).bind fun au=>((verdict_Decode.f k au.1 au.2.1 au.2.2 1).bind fun ak=>(if az.1=true then(if ak.2.2.2.1=true then(if az.2=0 then(if ak.2.2.2.2=0 then((recoupref03_Like.f ak.1 ak.2.1 ak.2.2.1 2 3 (([0,1,1,0,1,0]:List Int))).bind fun aq=>(some aq))else(some false))else(some false))else(some false))else(some false))))))=some r:=h;clear h;obtain⟨⟨U,X,Y⟩,A1,H⟩:=bindO H
 (try dsimp only at H)
 obtain⟨⟨cz,af⟩,A2,H⟩:=bindO H
 (try dsimp only at H)
 obtain⟨⟨Z,aa,ab⟩,A3,H⟩:=bindO H
 (try dsimp only at H)
 obtain⟨⟨O,ac,ae,a0,ag⟩,A4,H⟩:=bindO H
 (try dsimp only at H)
 by_cases c5:cz=true
 ·subst c5;rw[if_pos rfl]at H
  by_cases c6:a0=true
  ·subst c6;rw[if_pos rfl]at H
   by_cases c7:af=0
   ·rw[if_pos c7]at H
    have c7b0:(af==0)=true:=beq_iff_eq.mpr c7;have c7b1:(af !=0)=false:=bne_eq_false_iff_eq.mpr c7;clear c7;by_cases c8:ag=0
    ·rw[if_pos c8]at H
     have c8b0:(ag==0)=true:=beq_iff_eq.mpr c8;have c8b1:(ag !=0)=false:=bne_eq_false_iff_eq.mpr c8;clear c8;obtain⟨a1,an⟩: ∃y_:List Int,y_=(([0,1,1,0,1,0]:List Int)):=⟨_,rfl⟩
     replace H:((recoupref03_Like.f O ac ae 2 3 a1).bind fun aq=>(some aq))=some r:=by first|(rw[an];with_reducible exact H)|(have H2_:=(Option.bind_some _ _).symm.trans H;rw[an];with_reducible exact H2_)|(have H2_:=(Option.bind_some _ _).symm.trans H;with_reducible exact H2_)|with_reducible exact H|(rw[an];exact H)|exact H
     have ay:=aK an;clear an;obtain⟨aq,A9,H⟩:=bindO H
     (try dsimp only at H)
     obtain rfl:=Option.some.inj H
     go_enter Tryd.func14,Tryd.ntmps14
     go_wp2_with (first|((with_reducible refine gC 36 rfl ?_);refine cG (some 7) Tryd.func36 #[] ?_;(with_reducible refine(recouplaw18_three.calls U X Y _ A1.out).mono ?_);rintro e di ⟨av,rfl,I,hb⟩;refine⟨_,rfl,?_⟩;have D:=aK (Kd.R_lower I (below_size (hbA HB.out)));replace HB:=hbB HB hb;(try clear hb);(try clear I);obtain⟨a2,bc,bm⟩:=Kd.R_slice D.out;subst bm)|((with_reducible refine gC 9 rfl ?_);refine cG (some 8) Tryd.func9 #[.agg #[.int .i64 U,.int .i64 X,.slice a2 Y.length bc],.int .u64 1] ?_;(with_reducible refine(verdict_Recovers.calls k U X _ _ Y 1 true af _ ?side1 ?side2 A2.out (tab_below HT.out zi)).mono ?_);(case side1=>exact kcA (Kd.R_reads' D.out).2.2);(case side2=>exact(Kd.R_reads' D.out).2.1);rintro e dj ⟨rfl,hb⟩;refine⟨_,rfl,?_⟩;replace D:=kdB D hb;replace HB:=hbB HB hb;(try clear hb))|((with_reducible refine gC 36 rfl ?_);refine cG (some 12) Tryd.func36 #[] ?_;(with_reducible refine(recouplaw18_three.calls Z aa ab _ A3.out).mono ?_);rintro e dk ⟨aw,rfl,I,hb⟩;refine⟨_,rfl,?_⟩;have G:=aK (Kd.R_lower (Kd.R_new' I (Kd.R_lt (kdA D.out))) (below_size (hbA HB.out)));replace D:=aK (Kd.R_elder' (kdA D.out) (Kd.R_base I) hb);replace HB:=hbB HB hb;(try clear hb);(try clear I);obtain⟨a3,bd,bn⟩:=Kd.R_slice G.out;subst bn)|((with_reducible refine gC 20 rfl ?_);refine cG (some 13) Tryd.func20 #[.agg #[.int .i64 Z,.int .i64 aa,.slice a3 ab.length bd],.int .u64 1] ?_;(with_reducible refine(verdict_Decode.calls k Z aa _ _ ab 1 O ac ae true ag _ ?side1 ?side2 A4.out (tab_below HT.out zi)).mono ?_);(case side1=>exact kcA (Kd.R_reads' G.out).2.2);(case side2=>exact(Kd.R_reads' G.out).2.1);rintro e dl ⟨ax,rfl,I,hb⟩;refine⟨_,rfl,?_⟩;have J:=aK (Kd.R_lower (Kd.R_new' (Kd.R_new' I (Kd.R_lt (kdA D.out))) (Kd.R_lt (kdA G.out))) (below_size (hbA HB.out)));replace D:=aK (Kd.R_elder' (kdA D.out) (Kd.R_base I) hb);replace G:=aK (Kd.R_elder' (kdA G.out) (Kd.R_base I) hb);replace HB:=hbB HB hb;(try clear hb);(try clear I))|((with_reducible refine gD 3 rfl ?_);(try(refine gate_guard ze ?_;dsimp only));refine bE 3 #[.int .i64 0,.int .i64 0,.slice none 0 0] 24 ?_;intro am hg dm hbox hb;replace D:=kdB D hb;replace G:=kdB G hb;replace J:=kdB J hb;have L:=aK (hbox);have ap:=hbS HB hg;have ao:=hbS HB hg;replace HB:=hbB HB hb;clear hb hbox hg;obtain⟨b3,b4,b5,cj,ck,cl⟩:=cell3 L;obtain⟨ai,al,bo⟩:=Kd.R_slice J.out;subst bo)|((with_reducible refine gate_dst (N:=31) rfl ?_);(try(refine gate_guard ze ?_;dsimp only));refine Kd.R_lit (Kd.int .u8) _ 5 ?hg (N:=31) ?hd (xs:=([0,1,1,0,1,0]:List Int)) (inner:= [.int .u8 0,.int .u8 1,.int .u8 1,.int .u8 0,.int .u8 1,.int .u8 0]) (ok:=fun _=>True) (okp:=fun _=>True) ?hr ?hp (fun _ hk=>hk) trivial (Below.refl _ _) (Nat.le_refl _) zd ?_;(case hd=>rfl);(case hg=>rfl);(case hr=>first|(go_simp;done)|(go_simp;rfl));(case hp=>exact(Reps.one (show Kd.M (Kd.int .u8) _ _ _ 0 [.int .u8 0]from rfl) (Reps.one (show Kd.M (Kd.int .u8) _ _ _ 1 [.int .u8 1]from rfl) (Reps.one (show Kd.M (Kd.int .u8) _ _ _ 1 [.int .u8 1]from rfl) (Reps.one (show Kd.M (Kd.int .u8) _ _ _ 0 [.int .u8 0]from rfl) (Reps.one (show Kd.M (Kd.int .u8) _ _ _ 1 [.int .u8 1]from rfl) (Reps.one (show Kd.M (Kd.int .u8) _ _ _ 0 [.int .u8 0]from rfl) (Reps.none _ _))))))));intro dh dn ah hb hg_ hnew_;clear hg_ hnew_;(first|rw[←ay.out]at ah|(simp only[Int.reduceToNat]at ah;rw[←ay.out]at ah));have aj:=aK (Kd.R_lower (Kd.R_new' (Kd.R_new' (Kd.R_new' ah (Kd.R_lt (by(with_reducible repeat(first|apply Kd.R_alloc|apply Kd.R_drewN|apply Kd.R_drew));exact(zF D.out L.out  (.int .i64 O)  (.int .i64 ac)  (.slice ai ae.length al))))) (Kd.R_lt (by(with_reducible repeat(first|apply Kd.R_alloc|apply Kd.R_drewN|apply Kd.R_drew));exact(zF G.out L.out  (.int .i64 O)  (.int .i64 ac)  (.slice ai ae.length al))))) (Kd.R_lt (by(with_reducible repeat(first|apply Kd.R_alloc|apply Kd.R_drewN|apply Kd.R_drew));exact(zF J.out L.out  (.int .i64 O)  (.int .i64 ac)  (.slice ai ae.length al))))) (below_size (hbA HB.out)));replace D:=aK (Kd.R_elder' (by(with_reducible repeat(first|apply Kd.R_alloc|apply Kd.R_drewN|apply Kd.R_drew));exact(zF D.out L.out  (.int .i64 O)  (.int .i64 ac)  (.slice ai ae.length al))) (Kd.R_base ah) hb);replace G:=aK (Kd.R_elder' (by(with_reducible repeat(first|apply Kd.R_alloc|apply Kd.R_drewN|apply Kd.R_drew));exact(zF G.out L.out  (.int .i64 O)  (.int .i64 ac)  (.slice ai ae.length al))) (Kd.R_base ah) hb);replace J:=aK (Kd.R_elder' (by(with_reducible repeat(first|apply Kd.R_alloc|apply Kd.R_drewN|apply Kd.R_drew));exact(zF J.out L.out  (.int .i64 O)  (.int .i64 ac)  (.slice ai ae.length al))) (Kd.R_base ah) hb);replace L:=aK (blk_below (g:=am) (o:= .cells #[.int .i64 O,.int .i64 ac,.slice ai ae.length al] 24 (0,0)) (by refine bkR ?_;refine blk_put (cs:= #[.int .i64 O,.int .i64 ac,.slice none 0 0]) ?_ 2 _ rfl;refine bkR ?_;refine blk_put (cs:= #[.int .i64 O,.int .i64 0,.slice none 0 0]) ?_ 1 _ rfl;refine bkR ?_;refine blk_put (cs:= #[.int .i64 0,.int .i64 0,.slice none 0 0]) ?_ 0 _ rfl;refine bkR ?_;exact L.out) hb);replace HB:=hbB HB hb;clear hb ah;obtain⟨c2,db,bp⟩:=Kd.R_slice aj.out;subst bp)|(go_at_call 24;(with_reducible refine(recoupref03_Like.calls O ac _ _ ae 2 3 _ _ a1 aq _ ?side1 ?side2 ?side3 ?side4 A9.out).mono ?_);(case side1=>exact kcA (Kd.R_reads' J.out).2.2);(case side2=>exact(Kd.R_reads' J.out).2.1);(case side3=>exact kcA (Kd.R_reads' aj.out).2.2);(case side4=>exact(Kd.R_reads' aj.out).2.1);rintro e dp ⟨rfl,hb⟩;replace D:=kdB D hb;replace G:=kdB G hb;replace J:=kdB J hb;replace aj:=kdB aj hb;replace L:=bkB L hb;replace HB:=hbB HB hb;(try clear hb)))
     go_ret
     exact⟨rfE,hbA HB.out⟩
    ·rw[if_neg c8]at H
     have c8b0:(ag==0)=false:=beq_eq_false_iff_ne.mpr c8;have c8b1:(ag !=0)=true:=bne_iff_ne.mpr c8;obtain rfl:=Option.some.inj H
     go_enter Tryd.func14,Tryd.ntmps14
     go_wp2_with (first|((with_reducible refine gC 36 rfl ?_);refine cG (some 7) Tryd.func36 #[] ?_;(with_reducible refine(recouplaw18_three.calls U X Y _ A1.out).mono ?_);rintro e dq ⟨av,rfl,I,hb⟩;refine⟨_,rfl,?_⟩;have D:=aK (Kd.R_lower I (below_size (hbA HB.out)));replace HB:=hbB HB hb;(try clear hb);(try clear I);obtain⟨a4,be,bq⟩:=Kd.R_slice D.out;subst bq)|((with_reducible refine gC 9 rfl ?_);refine cG (some 8) Tryd.func9 #[.agg #[.int .i64 U,.int .i64 X,.slice a4 Y.length be],.int .u64 1] ?_;(with_reducible refine(verdict_Recovers.calls k U X _ _ Y 1 true af _ ?side1 ?side2 A2.out (tab_below HT.out zi)).mono ?_);(case side1=>exact kcA (Kd.R_reads' D.out).2.2);(case side2=>exact(Kd.R_reads' D.out).2.1);rintro e dr ⟨rfl,hb⟩;refine⟨_,rfl,?_⟩;replace D:=kdB D hb;replace HB:=hbB HB hb;(try clear hb))|((with_reducible refine gC 36 rfl ?_);refine cG (some 12) Tryd.func36 #[] ?_;(with_reducible refine(recouplaw18_three.calls Z aa ab _ A3.out).mono ?_);rintro e dt ⟨aw,rfl,I,hb⟩;refine⟨_,rfl,?_⟩;have G:=aK (Kd.R_lower (Kd.R_new' I (Kd.R_lt (kdA D.out))) (below_size (hbA HB.out)));replace D:=aK (Kd.R_elder' (kdA D.out) (Kd.R_base I) hb);replace HB:=hbB HB hb;(try clear hb);(try clear I);obtain⟨a5,bf,br⟩:=Kd.R_slice G.out;subst br)|((with_reducible refine gC 20 rfl ?_);refine cG (some 13) Tryd.func20 #[.agg #[.int .i64 Z,.int .i64 aa,.slice a5 ab.length bf],.int .u64 1] ?_;(with_reducible refine(verdict_Decode.calls k Z aa _ _ ab 1 O ac ae true ag _ ?side1 ?side2 A4.out (tab_below HT.out zi)).mono ?_);(case side1=>exact kcA (Kd.R_reads' G.out).2.2);(case side2=>exact(Kd.R_reads' G.out).2.1);rintro e du ⟨ax,rfl,I,hb⟩;refine⟨_,rfl,?_⟩;have J:=aK (Kd.R_lower (Kd.R_new' (Kd.R_new' I (Kd.R_lt (kdA D.out))) (Kd.R_lt (kdA G.out))) (below_size (hbA HB.out)));replace D:=aK (Kd.R_elder' (kdA D.out) (Kd.R_base I) hb);replace G:=aK (Kd.R_elder' (kdA G.out) (Kd.R_base I) hb);replace HB:=hbB HB hb;(try clear hb);(try clear I))|((with_reducible refine gD 3 rfl ?_);(try(refine gate_guard ze ?_;dsimp only));refine bE 3 #[.int .i64 0,.int .i64 0,.slice none 0 0] 24 ?_;intro am hg dv hbox hb;replace D:=kdB D hb;replace G:=kdB G hb;replace J:=kdB J hb;have L:=aK (hbox);have ap:=hbS HB hg;have ao:=hbS HB hg;replace HB:=hbB HB hb;clear hb hbox hg;obtain⟨b6,b7,b8,cm,cn,co⟩:=cell3 L;obtain⟨c3,dc,bs⟩:=Kd.R_slice J.out;subst bs))
     go_ret
     exact⟨rfE,hbA HB.out⟩
   ·rw[if_neg c7]at H
    have c7b0:(af==0)=false:=beq_eq_false_iff_ne.mpr c7;have c7b1:(af !=0)=true:=bne_iff_ne.mpr c7;obtain rfl:=Option.some.inj H
    go_enter Tryd.func14,Tryd.ntmps14
    go_wp2_with (first|((with_reducible refine gC 36 rfl ?_);refine cG (some 7) Tryd.func36 #[] ?_;(with_reducible refine(recouplaw18_three.calls U X Y _ A1.out).mono ?_);rintro e dw ⟨av,rfl,I,hb⟩;refine⟨_,rfl,?_⟩;have D:=aK (Kd.R_lower I (below_size (hbA HB.out)));replace HB:=hbB HB hb;(try clear hb);(try clear I);obtain⟨a6,bg,bt⟩:=Kd.R_slice D.out;subst bt)|((with_reducible refine gC 9 rfl ?_);refine cG (some 8) Tryd.func9 #[.agg #[.int .i64 U,.int .i64 X,.slice a6 Y.length bg],.int .u64 1] ?_;(with_reducible refine(verdict_Recovers.calls k U X _ _ Y 1 true af _ ?side1 ?side2 A2.out (tab_below HT.out zi)).mono ?_);(case side1=>exact kcA (Kd.R_reads' D.out).2.2);(case side2=>exact(Kd.R_reads' D.out).2.1);rintro e dx ⟨rfl,hb⟩;refine⟨_,rfl,?_⟩;replace D:=kdB D hb;replace HB:=hbB HB hb;(try clear hb))|((with_reducible refine gC 36 rfl ?_);refine cG (some 12) Tryd.func36 #[] ?_;(with_reducible refine(recouplaw18_three.calls Z aa ab _ A3.out).mono ?_);rintro e dy ⟨aw,rfl,I,hb⟩;refine⟨_,rfl,?_⟩;have G:=aK (Kd.R_lower (Kd.R_new' I (Kd.R_lt (kdA D.out))) (below_size (hbA HB.out)));replace D:=aK (Kd.R_elder' (kdA D.out) (Kd.R_base I) hb);replace HB:=hbB HB hb;(try clear hb);(try clear I);obtain⟨a7,bh,bu⟩:=Kd.R_slice G.out;subst bu)|((with_reducible refine gC 20 rfl ?_);refine cG (some 13) Tryd.func20 #[.agg #[.int .i64 Z,.int .i64 aa,.slice a7 ab.length bh],.int .u64 1] ?_;(with_reducible refine(verdict_Decode.calls k Z aa _ _ ab 1 O ac ae true ag _ ?side1 ?side2 A4.out (tab_below HT.out zi)).mono ?_);(case side1=>exact kcA (Kd.R_reads' G.out).2.2);(case side2=>exact(Kd.R_reads' G.out).2.1);rintro e dz ⟨ax,rfl,I,hb⟩;refine⟨_,rfl,?_⟩;have J:=aK (Kd.R_lower (Kd.R_new' (Kd.R_new' I (Kd.R_lt (kdA D.out))) (Kd.R_lt (kdA G.out))) (below_size (hbA HB.out)));replace D:=aK (Kd.R_elder' (kdA D.out) (Kd.R_base I) hb);replace G:=aK (Kd.R_elder' (kdA G.out) (Kd.R_base I) hb);replace HB:=hbB HB hb;(try clear hb);(try clear I))|((with_reducible refine gD 3 rfl ?_);(try(refine gate_guard ze ?_;dsimp only));refine bE 3 #[.int .i64 0,.int .i64 0,.slice none 0 0] 24 ?_;intro am hg d0 hbox hb;replace D:=kdB D hb;replace G:=kdB G hb;replace J:=kdB J hb;have L:=aK (hbox);have ap:=hbS HB hg;have ao:=hbS HB hg;replace HB:=hbB HB hb;clear hb hbox hg;obtain⟨b9,ca,cb,cp,cq,cr⟩:=cell3 L;obtain⟨c4,dd,bv⟩:=Kd.R_slice J.out;subst bv))
    go_ret
    exact⟨rfE,hbA HB.out⟩
  ·replace c6:=Bool.eq_false_iff.mpr c6;subst c6;rw[if_neg nofT]at H
   obtain rfl:=Option.some.inj H
   go_enter Tryd.func14,Tryd.ntmps14
   go_wp2_with (first|((with_reducible refine gC 36 rfl ?_);refine cG (some 7) Tryd.func36 #[] ?_;(with_reducible refine(recouplaw18_three.calls U X Y _ A1.out).mono ?_);rintro e d1 ⟨av,rfl,I,hb⟩;refine⟨_,rfl,?_⟩;have D:=aK (Kd.R_lower I (below_size (hbA HB.out)));replace HB:=hbB HB hb;(try clear hb);(try clear I);obtain⟨a8,bi,bw⟩:=Kd.R_slice D.out;subst bw)|((with_reducible refine gC 9 rfl ?_);refine cG (some 8) Tryd.func9 #[.agg #[.int .i64 U,.int .i64 X,.slice a8 Y.length bi],.int .u64 1] ?_;(with_reducible refine(verdict_Recovers.calls k U X _ _ Y 1 true af _ ?side1 ?side2 A2.out (tab_below HT.out zi)).mono ?_);(case side1=>exact kcA (Kd.R_reads' D.out).2.2);(case side2=>exact(Kd.R_reads' D.out).2.1);rintro e d2 ⟨rfl,hb⟩;refine⟨_,rfl,?_⟩;replace D:=kdB D hb;replace HB:=hbB HB hb;(try clear hb))|((with_reducible refine gC 36 rfl ?_);refine cG (some 12) Tryd.func36 #[] ?_;(with_reducible refine(recouplaw18_three.calls Z aa ab _ A3.out).mono ?_);rintro e d3 ⟨aw,rfl,I,hb⟩;refine⟨_,rfl,?_⟩;have G:=aK (Kd.R_lower (Kd.R_new' I (Kd.R_lt (kdA D.out))) (below_size (hbA HB.out)));replace D:=aK (Kd.R_elder' (kdA D.out) (Kd.R_base I) hb);replace HB:=hbB HB hb;(try clear hb);(try clear I);obtain⟨a9,bj,bx⟩:=Kd.R_slice G.out;subst bx)|((with_reducible refine gC 20 rfl ?_);refine cG (some 13) Tryd.func20 #[.agg #[.int .i64 Z,.int .i64 aa,.slice a9 ab.length bj],.int .u64 1] ?_;(with_reducible refine(verdict_Decode.calls k Z aa _ _ ab 1 O ac ae false ag _ ?side1 ?side2 A4.out (tab_below HT.out zi)).mono ?_);(case side1=>exact kcA (Kd.R_reads' G.out).2.2);(case side2=>exact(Kd.R_reads' G.out).2.1);rintro e d4 ⟨ax,rfl,I,hb⟩;refine⟨_,rfl,?_⟩;have J:=aK (Kd.R_lower (Kd.R_new' (Kd.R_new' I (Kd.R_lt (kdA D.out))) (Kd.R_lt (kdA G.out))) (below_size (hbA HB.out)));replace D:=aK (Kd.R_elder' (kdA D.out) (Kd.R_base I) hb);replace G:=aK (Kd.R_elder' (kdA G.out) (Kd.R_base I) hb);replace HB:=hbB HB hb;(try clear hb);(try clear I))|((with_reducible refine gD 3 rfl ?_);(try(refine gate_guard ze ?_;dsimp only));refine bE 3 #[.int .i64 0,.int .i64 0,.slice none 0 0] 24 ?_;intro am hg d5 hbox hb;replace D:=kdB D hb;replace G:=kdB G hb;replace J:=kdB J hb;have L:=aK (hbox);have ap:=hbS HB hg;have ao:=hbS HB hg;replace HB:=hbB HB hb;clear hb hbox hg;obtain⟨cd,ce,cf,ct,cu,cv⟩:=cell3 L;obtain⟨c9,de,bz⟩:=Kd.R_slice J.out;subst bz))
   go_ret
   exact⟨rfE,hbA HB.out⟩
 ·replace c5:=Bool.eq_false_iff.mpr c5;subst c5;rw[if_neg nofT]at H
  obtain rfl:=Option.some.inj H
  go_enter Tryd.func14,Tryd.ntmps14
  go_wp2_with (first|((with_reducible refine gC 36 rfl ?_);refine cG (some 7) Tryd.func36 #[] ?_;(with_reducible refine(recouplaw18_three.calls U X Y _ A1.out).mono ?_);rintro e d6 ⟨av,rfl,I,hb⟩;refine⟨_,rfl,?_⟩;have D:=aK (Kd.R_lower I (below_size (hbA HB.out)));replace HB:=hbB HB hb;(try clear hb);(try clear I);obtain⟨ba,bk,b0⟩:=Kd.R_slice D.out;subst b0)|((with_reducible refine gC 9 rfl ?_);refine cG (some 8) Tryd.func9 #[.agg #[.int .i64 U,.int .i64 X,.slice ba Y.length bk],.int .u64 1] ?_;(with_reducible refine(verdict_Recovers.calls k U X _ _ Y 1 false af _ ?side1 ?side2 A2.out (tab_below HT.out zi)).mono ?_);(case side1=>exact kcA (Kd.R_reads' D.out).2.2);(case side2=>exact(Kd.R_reads' D.out).2.1);rintro e d7 ⟨rfl,hb⟩;refine⟨_,rfl,?_⟩;replace D:=kdB D hb;replace HB:=hbB HB hb;(try clear hb))|((with_reducible refine gC 36 rfl ?_);refine cG (some 12) Tryd.func36 #[] ?_;(with_reducible refine(recouplaw18_three.calls Z aa ab _ A3.out).mono ?_);rintro e d8 ⟨aw,rfl,I,hb⟩;refine⟨_,rfl,?_⟩;have G:=aK (Kd.R_lower (Kd.R_new' I (Kd.R_lt (kdA D.out))) (below_size (hbA HB.out)));replace D:=aK (Kd.R_elder' (kdA D.out) (Kd.R_base I) hb);replace HB:=hbB HB hb;(try clear hb);(try clear I);obtain⟨bb,bl,b1⟩:=Kd.R_slice G.out;subst b1)|((with_reducible refine gC 20 rfl ?_);refine cG (some 13) Tryd.func20 #[.agg #[.int .i64 Z,.int .i64 aa,.slice bb ab.length bl],.int .u64 1] ?_;(with_reducible refine(verdict_Decode.calls k Z aa _ _ ab 1 O ac ae a0 ag _ ?side1 ?side2 A4.out (tab_below HT.out zi)).mono ?_);(case side1=>exact kcA (Kd.R_reads' G.out).2.2);(case side2=>exact(Kd.R_reads' G.out).2.1);rintro e d9 ⟨ax,rfl,I,hb⟩;refine⟨_,rfl,?_⟩;have J:=aK (Kd.R_lower (Kd.R_new' (Kd.R_new' I (Kd.R_lt (kdA D.out))) (Kd.R_lt (kdA G.out))) (below_size (hbA HB.out)));replace D:=aK (Kd.R_elder' (kdA D.out) (Kd.R_base I) hb);replace G:=aK (Kd.R_elder' (kdA G.out) (Kd.R_base I) hb);replace HB:=hbB HB hb;(try clear hb);(try clear I))|((with_reducible refine gD 3 rfl ?_);(try(refine gate_guard ze ?_;dsimp only));refine bE 3 #[.int .i64 0,.int .i64 0,.slice none 0 0] 24 ?_;intro am hg ea hbox hb;replace D:=kdB D hb;replace G:=kdB G hb;replace J:=kdB J hb;have L:=aK (hbox);have ap:=hbS HB hg;have ao:=hbS HB hg;replace HB:=hbB HB hb;clear hb hbox hg;obtain⟨cg,ch,ci,cw,cx,cy⟩:=cell3 L;obtain⟨da,df,b2⟩:=Kd.R_slice J.out;subst b2))
  go_ret
  exact⟨rfE,hbA HB.out⟩
end Go.Proofs.YtkagobkedifhkaaDoor.Q
